import PyProof.Rows.All
import Wide.All
import OpenK.AllK
import Wide.FinOn
import HandS.ForMost
import HandS.Wide
import HandS.SortInts
import HandS.Style
import HandS.StrMore
import HandS.IsInst
import KE.SortData
import HandS.TupAny
import HandS.Defaults
import HandS.HeadHook2
import HandS.Head0
import HandS.Head1
import HandS.Head2
import HandS.HeadEnd
import HandS.HeadHook1
import PySem.Challenge.RW_climbrow_k55_whole_lookers_of_values
import HandS.SetKeys
import KE.KExcSuper
import HandS.ExcInit
import HandS.ExcSuper
import HandS.ExcField
import HandS.ExcOwn
import KE.KExcIs
import HandS.Exc
set_option Elab.async false
set_option linter.all false
set_option maxRecDepth 100000
section S_Lay1
set_option maxHeartbeats 2000000
/-! a layer of data over HandS: what a piece of the program makes of pure data -/
namespace Y
open PySem PySem.Spec PyProof.Rows L2

/-! ### data -/
inductive D where
  | non | bl (b : Bool) | int (i : Int) | str (x : Str) | lst (ds : List D) | tup (ds : List D) | scr (ns : List Int) | new (ds : List D)
mutual
inductive Rp (K : PySem.W.Frag) (H : Hp) : V → D → Prop
  | non : Rp K H .non .non
  | bl (b : Bool) : Rp K H (.bl b) (.bl b)
  | int (i : Int) : Rp K H (.int i) (.int i)
  | str (x : Str) : Rp K H (.str x) (.str x)
  | lst {a : Addr} {vs : List V} {ds : List D} : H a = some (.lst vs) → RpAll K H vs ds → Rp K H (.ref a) (.lst ds)
  | tup {a : Addr} {vs : List V} {ds : List D} : SqT K H a vs → RpAll K H vs ds → Rp K H (.ref a) (.tup ds)
  | scr {a : Addr} {ns : List Int} : SqL K H a (ns.map V.int) → Rp K H (.ref a) (.scr ns)
inductive RpAll (K : PySem.W.Frag) (H : Hp) : List V → List D → Prop
  | nil : RpAll K H [] []
  | cons {v : V} {vs : List V} {d : D} {ds : List D} : Rp K H v d → RpAll K H vs ds → RpAll K H (v :: vs) (d :: ds)
end

/-! ### heaps that grow -/
def Ex (H H' : Hp) : Prop := ∀ a o, H a = some o → H' a = some o
theorem Ex.refl (H : Hp) : Ex H H := fun _ _ h => h
theorem Ex.trans {H H1 H2 : Hp} (a : Ex H H1) (b : Ex H1 H2) : Ex H H2 := fun x o h => b x o (a x o h)
theorem Ex.new {H : Hp} {p : Addr} {o : HO} (h : H p = none) : Ex H (upd H p o) := fun a u e => by
  rw [upd_ne (ne_of_none e h)]
  exact e
theorem Ex.free {H H' : Hp} {p : Addr} (e : Ex H H') (h : H' p = none) : H p = none := by
  cases h1 : H p with
  | none => rfl
  | some o =>
    rw [e p o h1] at h
    cases h
theorem Ex.sqT {K : PySem.W.Frag} {H H' : Hp} {a : Addr} {xs : List V} (e : Ex H H') (h : SqT K H a xs) : SqT K H' a xs := by
  rcases h with (h | ⟨o, h⟩) | h
  · exact .inl (.inl (e _ _ h))
  · exact .inl (.inr ⟨o, e _ _ h⟩)
  · exact .inr h
theorem Ex.sqL {K : PySem.W.Frag} {H H' : Hp} {a : Addr} {xs : List V} (e : Ex H H') (h : SqL K H a xs) : SqL K H' a xs := by
  rcases h with (h | ⟨o, h⟩) | h
  · exact .inl (.inl (e _ _ h))
  · exact .inl (.inr ⟨o, e _ _ h⟩)
  · exact .inr h
section
variable {K : PySem.W.Frag} {H H' : Hp}
mutual
theorem Rp.mono (e : Ex H H') : ∀ {d : D} {v : V}, Rp K H v d → Rp K H' v d
  | .non, _, h => by cases h; exact .non
  | .bl _, _, h => by cases h; exact .bl _
  | .int _, _, h => by cases h; exact .int _
  | .str _, _, h => by cases h; exact .str _
  | .lst ds, _, h => by
    cases h with
    | lst ha hr => exact .lst (e _ _ ha) (RpAll.mono e hr)
  | .tup ds, _, h => by
    cases h with
    | tup ha hr => exact .tup (e.sqT ha) (RpAll.mono e hr)
  | .scr ns, _, h => by
    cases h with
    | scr ha => exact .scr (e.sqL ha)
  | .new ds, _, h => by cases h
theorem RpAll.mono (e : Ex H H') : ∀ {ds : List D} {vs : List V}, RpAll K H vs ds → RpAll K H' vs ds
  | [], _, h => by cases h; exact .nil
  | d :: ds, _, h => by
    cases h with
    | cons h1 h2 => exact .cons (Rp.mono e h1) (RpAll.mono e h2)
end
theorem RpAll.length : ∀ {ds : List D} {vs : List V}, RpAll K H vs ds → vs.length = ds.length
  | [], _, h => by cases h; rfl
  | d :: ds, _, h => by
    cases h with
    | cons h1 h2 => rw [List.length_cons, List.length_cons, RpAll.length h2]
theorem RpAll.get : ∀ {ds : List D} {vs : List V} {i : Nat} {d : D}, RpAll K H vs ds → ds[i]? = some d → ∃ v, vs[i]? = some v ∧ Rp K H v d
  | [], _, _, _, _, e => by simp at e
  | d :: ds, _, 0, _, .cons h1 h2, e => ⟨_, rfl, by cases e; exact h1⟩
  | d :: ds, _, i + 1, d', .cons h1 h2, e => by
    obtain ⟨v, h3, h4⟩ := RpAll.get (i := i) (d := d') h2 (by simpa using e)
    exact ⟨v, by simpa using h3, h4⟩
theorem RpAll.getV : ∀ {ds : List D} {vs : List V} {i : Nat} {v : V}, RpAll K H vs ds → vs[i]? = some v → ∃ d, ds[i]? = some d ∧ Rp K H v d
  | _, [], _, _, _, e => by simp at e
  | _, _ :: _, 0, _, .cons h1 h2, e => ⟨_, rfl, by cases e; exact h1⟩
  | _, _ :: _, i + 1, v', .cons h1 h2, e => by
    obtain ⟨d, h3, h4⟩ := RpAll.getV (i := i) (v := v') h2 (by simpa using e)
    exact ⟨d, by simpa using h3, h4⟩
theorem RpAll.append : ∀ {ds es : List D} {vs ws : List V}, RpAll K H vs ds → RpAll K H ws es → RpAll K H (vs ++ ws) (ds ++ es)
  | _, _, _, _, .nil, h => h
  | _, _, _, _, .cons h1 h2, h => .cons h1 (RpAll.append h2 h)
theorem RpAll.set {v : V} {d : D} (h : Rp K H v d) : ∀ {ds : List D} {vs : List V} (i : Nat), RpAll K H vs ds → RpAll K H (vs.set i v) (ds.set i d)
  | _, _, _, .nil => .nil
  | _, _, 0, .cons _ t => .cons h t
  | _, _, i + 1, .cons q t => .cons q (RpAll.set h i t)
theorem RpAll.take : ∀ {ds : List D} {vs : List V} (n : Nat), RpAll K H vs ds → RpAll K H (vs.take n) (ds.take n)
  | _, _, 0, _ => .nil
  | _, _, _ + 1, .nil => .nil
  | _, _, n + 1, .cons r t => .cons r (RpAll.take n t)
theorem RpAll.drop : ∀ {ds : List D} {vs : List V} (n : Nat), RpAll K H vs ds → RpAll K H (vs.drop n) (ds.drop n)
  | _, _, 0, r => r
  | _, _, _ + 1, .nil => .nil
  | _, _, n + 1, .cons _ t => RpAll.drop n t
theorem RpAll.rev {ds : List D} {vs : List V} (h : RpAll K H vs ds) : RpAll K H vs.reverse ds.reverse := by
  induction ds generalizing vs with
  | nil => cases h; exact .nil
  | cons d ds ih =>
    cases h with
    | cons h1 h2 =>
      rw [List.reverse_cons, List.reverse_cons]
      exact RpAll.append (ih h2) (.cons h1 .nil)
theorem RpAll.rep {ds : List D} {vs : List V} (h : RpAll K H vs ds) : ∀ k : Nat, RpAll K H (List.replicate k vs).flatten (List.replicate k ds).flatten
  | 0 => .nil
  | k + 1 => by
    rw [List.replicate_succ, List.replicate_succ, List.flatten_cons, List.flatten_cons]
    exact RpAll.append h (RpAll.rep h k)
/-- flat items: what they are -/
theorem RpAll.ints : ∀ {ns : List Int} {vs : List V}, RpAll K H vs (ns.map D.int) → vs = ns.map V.int
  | [], _, h => by cases h; rfl
  | n :: ns, _, h => by
    rw [List.map_cons] at h
    cases h with
    | cons h1 h2 =>
      cases h1
      rw [RpAll.ints h2, List.map_cons]
theorem RpAll.bools : ∀ {ns : List Bool} {vs : List V}, RpAll K H vs (ns.map D.bl) → vs = ns.map V.bl
  | [], _, h => by cases h; rfl
  | n :: ns, _, h => by
    rw [List.map_cons] at h
    cases h with
    | cons h1 h2 =>
      cases h1
      rw [RpAll.bools h2, List.map_cons]
theorem RpAll.strs : ∀ {ns : List Str} {vs : List V}, RpAll K H vs (ns.map D.str) → vs = ns.map V.str
  | [], _, h => by cases h; rfl
  | n :: ns, _, h => by
    rw [List.map_cons] at h
    cases h with
    | cons h1 h2 =>
      cases h1
      rw [RpAll.strs h2, List.map_cons]
theorem RpAll.ofInts : ∀ (ns : List Int), RpAll K H (ns.map V.int) (ns.map D.int)
  | [] => .nil
  | n :: ns => .cons (.int n) (RpAll.ofInts ns)
theorem Rp.ofInt {v : V} {i : Int} (h : Rp K H v (.int i)) : v = .int i := by cases h; rfl
theorem Rp.ofBl {v : V} {i : Bool} (h : Rp K H v (.bl i)) : v = .bl i := by cases h; rfl
theorem Rp.ofStr {v : V} {i : Str} (h : Rp K H v (.str i)) : v = .str i := by cases h; rfl
theorem Rp.ofNon {v : V} (h : Rp K H v .non) : v = .non := by cases h; rfl
end

/-! ### steps: the known part HB and the whole heap H grow, what is newly known was free -/
structure Step (HB H HB2 H2 : Hp) : Prop where
  b : Ex HB HB2
  in_ : Ex HB2 H2
  h : Ex H H2
  fr : ∀ a, HB a = none → HB2 a ≠ none → H a = none
theorem Step.refl {HB H : Hp} (e : Ex HB H) : Step HB H HB H := ⟨Ex.refl _, e, Ex.refl _, fun a h1 h2 => absurd h1 h2⟩
theorem Step.trans {A B C E F G : Hp} (x : Step A B C E) (y : Step C E F G) : Step A B F G := ⟨x.b.trans y.b, y.in_, x.h.trans y.h, fun a h1 h2 => by
  cases h3 : C a with
  | none => exact x.h.free (y.fr a h3 h2)
  | some o => exact x.fr a h1 (by rw [h3]; exact fun z => nomatch z)⟩
/-- a new object, known from now on -/
theorem Step.new {HB H : Hp} (e : Ex HB H) {p : Addr} {o : HO} (h : H p = none) : Step HB H (upd HB p o) (upd H p o) := by
  have hb : HB p = none := e.free h
  refine ⟨Ex.new hb, fun a u q => ?_, Ex.new h, fun a h1 h2 => ?_⟩
  · by_cases ha : a = p
    · subst ha
      rw [upd_same] at q ⊢
      exact q
    · rw [upd_ne ha] at q ⊢
      exact e a u q
  · by_cases ha : a = p
    · subst ha
      exact h
    · rw [upd_ne ha] at h2
      exact absurd h1 h2
/-- a new object that stays out of the known part -/
theorem Step.out {HB H : Hp} (e : Ex HB H) {p : Addr} {o : HO} (h : H p = none) : Step HB H HB (upd H p o) :=
  ⟨Ex.refl _, e.trans (Ex.new h), Ex.new h, fun a h1 h2 => absurd h1 h2⟩
/-- an object ahead that was new is known from now on -/
theorem Step.know {A B C E : Hp} (x : Step A B C E) {p : Addr} {o : HO} (h1 : B p = none) (h2 : C p = none) (h3 : E p = some o) : Step A B (upd C p o) E := by
  refine ⟨x.b.trans (Ex.new h2), fun a u q => ?_, x.h, fun a q1 q2 => ?_⟩
  · by_cases ha : a = p
    · subst ha
      rw [upd_same] at q
      rw [← q]
      exact h3
    · rw [upd_ne ha] at q
      exact x.in_ a u q
  · by_cases ha : a = p
    · subst ha
      exact h1
    · rw [upd_ne ha] at q2
      exact x.fr a q1 q2

/-! ### slots -/
inductive Slot where
  | any | val (d : D) | own (ds : List D) | raw (v : V) | cond (v : V) (a : Addr) (u : HO)
abbrev Rho := List Slot
def SlotOk (K : PySem.W.Frag) (HB H : Hp) (o : Option V) : Slot → Prop
  | .any => True
  | .val d => ∃ v, o = some v ∧ Rp K HB v d
  | .raw v => o = some v
  | .cond v a u => o = some v ∧ HB a = some u
  | .own ds => ∃ p vs, o = some (.ref p) ∧ HB p = none ∧ H p = some (.lst vs) ∧ RpAll K HB vs ds
structure EnvOk (K : PySem.W.Frag) (HB H : Hp) (σ : L2.St) (ρ : Rho) : Prop where
  ex : Ex HB H
  len : σ.length = ρ.length
  ok : ∀ (i : Nat) (o : Option V) (s : Slot), σ[i]? = some o → ρ[i]? = some s → SlotOk K HB H o s
  sep : ∀ (i j : Nat) (p : Addr) (ds es : List D), ρ[i]? = some (.own ds) → ρ[j]? = some (.own es) → σ[i]? = some (some (.ref p)) → σ[j]? = some (some (.ref p)) → i = j
section
variable {K : PySem.W.Frag} {HB H HB2 H2 : Hp} {σ : L2.St} {ρ : Rho}
theorem SlotOk.step {o : Option V} {s : Slot} (x : Step HB H HB2 H2) (h : SlotOk K HB H o s) : SlotOk K HB2 H2 o s := by
  cases s with
  | any => trivial
  | raw v => exact h
  | cond v a u => exact ⟨h.1, x.b _ _ h.2⟩
  | val d =>
    obtain ⟨v, h1, h2⟩ := h
    exact ⟨v, h1, h2.mono x.b⟩
  | own ds =>
    obtain ⟨p, vs, h1, h2, h3, h4⟩ := h
    refine ⟨p, vs, h1, ?_, x.h _ _ h3, h4.mono x.b⟩
    cases q : HB2 p with
    | none => rfl
    | some o =>
      have := x.fr p h2 (by rw [q]; exact fun z => nomatch z)
      rw [h3] at this
      cases this
theorem EnvOk.step (e : EnvOk K HB H σ ρ) (x : Step HB H HB2 H2) : EnvOk K HB2 H2 σ ρ :=
  ⟨x.in_, e.len, fun i o s h1 h2 => (e.ok i o s h1 h2).step x, e.sep⟩
theorem EnvOk.val (e : EnvOk K HB H σ ρ) {i : Nat} {d : D} (h : ρ[i]? = some (.val d)) : ∃ v, σ[i]? = some (some v) ∧ Rp K HB v d := by
  have hi : i < σ.length := by
    rw [e.len]
    exact (List.getElem?_eq_some_iff.mp h).1
  obtain ⟨v, h1, h2⟩ := e.ok i _ _ (List.getElem?_eq_getElem hi) h
  exact ⟨v, by rw [List.getElem?_eq_getElem hi, h1], h2⟩
theorem EnvOk.raw (e : EnvOk K HB H σ ρ) {i : Nat} {v : V} (h : ρ[i]? = some (.raw v)) : σ[i]? = some (some v) := by
  have hi : i < σ.length := by
    rw [e.len]
    exact (List.getElem?_eq_some_iff.mp h).1
  have h1 := e.ok i _ _ (List.getElem?_eq_getElem hi) h
  have h2 : σ[i] = some v := h1
  rw [List.getElem?_eq_getElem hi, h2]
theorem EnvOk.cond (e : EnvOk K HB H σ ρ) {i : Nat} {v : V} {a : Addr} {u : HO} (h : ρ[i]? = some (.cond v a u)) : σ[i]? = some (some v) ∧ HB a = some u := by
  have hi : i < σ.length := by
    rw [e.len]
    exact (List.getElem?_eq_some_iff.mp h).1
  obtain ⟨h2, h3⟩ := e.ok i _ _ (List.getElem?_eq_getElem hi) h
  exact ⟨by rw [List.getElem?_eq_getElem hi, h2], h3⟩
theorem EnvOk.own (e : EnvOk K HB H σ ρ) {i : Nat} {ds : List D} (h : ρ[i]? = some (.own ds)) : ∃ p vs, σ[i]? = some (some (.ref p)) ∧ HB p = none ∧ H p = some (.lst vs) ∧ RpAll K HB vs ds := by
  have hi : i < σ.length := by
    rw [e.len]
    exact (List.getElem?_eq_some_iff.mp h).1
  obtain ⟨p, vs, h1, h2⟩ := e.ok i _ _ (List.getElem?_eq_getElem hi) h
  exact ⟨p, vs, by rw [List.getElem?_eq_getElem hi, h1], h2⟩
end

/-! ### the judgements -/
def wpE (X : Cx) (e : Expr) : TE := fun σ H Q => ∃ t, PE X e t ∧ t σ H Q
def wpT (X : Cx) (e : Expr) : TT := fun σ H Q => ∃ t, PT X e t ∧ t σ H Q
def wpW (X : Cx) (e : Expr) : TT := fun σ H Q => ∃ t, PW X e t ∧ t σ H Q
def wpA (X : Cx) (es : List Expr) : TA := fun σ H Q => ∃ t, PA X es t ∧ t σ H Q
def wpC (X : Cx) (op : CmpOp) (a b : Expr) : TE := fun σ H Q => ∃ t, PC X op a b t ∧ t σ H Q
def wpP (X : Cx) (e : Option Expr) : TO := fun σ H Q => ∃ t, PO X e t ∧ t σ H Q
def wpS (X : Cx) (st : Stmt) : TS := fun D σ H => ∃ t, PS X st t ∧ t D σ H
def wpB (X : Cx) (st : List Stmt) : TS := fun D σ H => ∃ t, PSs X st t ∧ t D σ H
section
variable {X : Cx} {e a b : Expr} {es : List Expr}
theorem pe_wp : PE X e (wpE X e) := ⟨fun pins s σ H Q I ⟨t, h, q⟩ => h.run pins s σ H Q I q⟩
theorem pt_wp : PT X e (wpT X e) := ⟨fun pins s σ H Q I ⟨t, h, q⟩ => h.run pins s σ H Q I q⟩
theorem pw_wp : PW X e (wpW X e) := ⟨fun w pins s σ H Q I ⟨t, h, q⟩ => h.run w pins s σ H Q I q⟩
theorem pa_wp : PA X es (wpA X es) := ⟨fun pos pins s σ H Q I ⟨t, h, q⟩ => h.run pos pins s σ H Q I q⟩
theorem pc_wp {op : CmpOp} : PC X op a b (wpC X op a b) := ⟨fun pins s σ H Q I ⟨t, h, q⟩ => h.run pins s σ H Q I q⟩
theorem po_wp {e : Option Expr} : PO X e (wpP X e) := ⟨fun pins s σ H Q I ⟨t, h, q⟩ => h.run pins s σ H Q I q⟩
theorem ps_wp {st : Stmt} : PS X st (wpS X st) := ⟨fun pins s σ H D I ⟨t, h, q⟩ => h.run pins s σ H D I q⟩
theorem pss_wp {st : List Stmt} : PSs X st (wpB X st) := ⟨fun pins s σ H D I ⟨t, h, q⟩ => h.run pins s σ H D I q⟩
end

/-- e is evaluated to the datum d -/
def Ev (X : Cx) (ρ : Rho) (e : Expr) (d : D) : Prop := ∀ (σ : L2.St) (HB H : Hp), EnvOk X.K HB H σ ρ → ∀ Q : VK, (∀ v HB2 H2, Step HB H HB2 H2 → Rp X.K HB2 v d → Q v H2) → wpE X e σ H Q
/-- .. to a new list -/
def EvN (X : Cx) (ρ : Rho) (e : Expr) (ds : List D) : Prop := ∀ (σ : L2.St) (HB H : Hp), EnvOk X.K HB H σ ρ → ∀ Q : VK,
  (∀ p vs HB2 H2, Step HB H HB2 H2 → H p = none → HB2 p = none → H2 p = some (.lst vs) → RpAll X.K HB2 vs ds → Q (.ref p) H2) → wpE X e σ H Q
/-- .. to a list that can be read -/
def EvL (X : Cx) (ρ : Rho) (e : Expr) (ds : List D) : Prop := ∀ (σ : L2.St) (HB H : Hp), EnvOk X.K HB H σ ρ → ∀ Q : VK,
  (∀ p vs HB2 H2, Step HB H HB2 H2 → H2 p = some (.lst vs) → RpAll X.K HB2 vs ds → Q (.ref p) H2) → wpE X e σ H Q
def EvT (X : Cx) (ρ : Rho) (e : Expr) (b : Bool) : Prop := ∀ (σ : L2.St) (HB H : Hp), EnvOk X.K HB H σ ρ → ∀ Q : Bool → Hp → Prop, (∀ HB2 H2, Step HB H HB2 H2 → Q b H2) → wpT X e σ H Q
def EvW (X : Cx) (ρ : Rho) (e : Expr) (b : Bool) : Prop := ∀ (σ : L2.St) (HB H : Hp), EnvOk X.K HB H σ ρ → ∀ Q : Bool → Hp → Prop, (∀ HB2 H2, Step HB H HB2 H2 → Q b H2) → wpW X e σ H Q
def EvC (X : Cx) (ρ : Rho) (op : CmpOp) (a b : Expr) (k : Bool) : Prop := ∀ (σ : L2.St) (HB H : Hp), EnvOk X.K HB H σ ρ → ∀ Q : VK, (∀ HB2 H2, Step HB H HB2 H2 → Q (.bl k) H2) → wpC X op a b σ H Q
def EvA (X : Cx) (ρ : Rho) (es : List Expr) (ds : List D) : Prop := ∀ (σ : L2.St) (HB H : Hp), EnvOk X.K HB H σ ρ → ∀ Q : List V → Hp → Prop, (∀ vs HB2 H2, Step HB H HB2 H2 → RpAll X.K HB2 vs ds → Q vs H2) → wpA X es σ H Q
def EvP (X : Cx) (ρ : Rho) (e : Option Expr) (o : Option Int) : Prop := ∀ (σ : L2.St) (HB H : Hp), EnvOk X.K HB H σ ρ → ∀ Q : Option Int → Hp → Prop, (∀ HB2 H2, Step HB H HB2 H2 → Q o H2) → wpP X e σ H Q
section
variable {X : Cx} {ρ : Rho} {e a b : Expr} {es : List Expr} {d : D} {ds : List D}
theorem EvN.l (h : EvN X ρ e ds) : EvL X ρ e ds := fun σ HB H he Q q => h σ HB H he Q fun p vs HB2 H2 x h1 h2 h3 h4 => q p vs HB2 H2 x h3 h4
theorem EvN.ev (h : EvN X ρ e ds) : Ev X ρ e (.lst ds) := fun σ HB H he Q q => h σ HB H he Q fun p vs HB2 H2 x h1 h2 h3 h4 => q _ _ H2 (x.know h1 h2 h3) (.lst upd_same (h4.mono (Ex.new h2)))
theorem Ev.l (h : Ev X ρ e (.lst ds)) : EvL X ρ e ds := fun σ HB H he Q q => h σ HB H he Q fun v HB2 H2 x r => by
  cases r with
  | lst h1 h2 => exact q _ _ HB2 H2 x (x.in_ _ _ h1) h2
theorem Ev.cast {d' : D} (h : Ev X ρ e d) (q : d = d') : Ev X ρ e d' := q ▸ h
theorem EvN.cast {d' : List D} (h : EvN X ρ e ds) (q : ds = d') : EvN X ρ e d' := q ▸ h
theorem EvT.cast {k k' : Bool} (h : EvT X ρ e k) (q : k = k') : EvT X ρ e k' := q ▸ h
end
end Y
end S_Lay1

section S_Lay2
set_option maxHeartbeats 2000000
namespace Y
open PySem PySem.Spec PyProof.Rows L2
section
variable {X : Cx} {ρ : Rho} {e a b c : Expr} {es : List Expr} {d d1 d2 : D} {ds ds1 ds2 : List D} {pos p : Pos} {i j : Int} {x : Str}
/-! ### names, constants -/
theorem ev_var {k : Nat} (hv : PE X e (tVar k)) (h : ρ[k]? = some (.val d)) : Ev X ρ e d := fun σ HB H he Q q => by
  obtain ⟨v, h1, h2⟩ := he.val h
  exact ⟨_, hv, v, h1, q v HB H (Step.refl he.ex) h2⟩
theorem evl_own {k : Nat} (hv : PE X e (tVar k)) (h : ρ[k]? = some (.own ds)) : EvL X ρ e ds := fun σ HB H he Q q => by
  obtain ⟨p, vs, h1, h2, h3, h4⟩ := he.own h
  exact ⟨_, hv, _, h1, q p vs HB H (Step.refl he.ex) h3 h4⟩
theorem ev_int {k} : Ev X ρ (.Constant (.int i) k pos) (.int i) := fun σ HB H he Q q => ⟨_, pe_int, q _ HB H (Step.refl he.ex) (.int i)⟩
theorem ev_str {k} : Ev X ρ (.Constant (.str x) k pos) (.str x) := fun σ HB H he Q q => ⟨_, pe_str, q _ HB H (Step.refl he.ex) (.str x)⟩
theorem ev_bl {k} {t : Bool} : Ev X ρ (.Constant (.bool t) k pos) (.bl t) := fun σ HB H he Q q => ⟨_, pe_bl, q _ HB H (Step.refl he.ex) (.bl t)⟩
theorem ev_non {k} : Ev X ρ (.Constant .none k pos) .non := fun σ HB H he Q q => ⟨_, pe_non, q _ HB H (Step.refl he.ex) .non⟩
theorem ev_glob {v : V} {u : Value} (hg : Gl X x) (hm : X.mg x = some u) (r : RelV v u) (h : ∀ H, Rp X.K H v d) (hd : (x == ("__debug__" : Str)) = false := by decide) : Ev X ρ (.Name x pos) d := fun σ HB H he Q q =>
  ⟨_, pe_glob hg hm r hd, q _ HB H (Step.refl he.ex) (h HB)⟩

/-! ### two operands -/
theorem two {R : V → V → Hp → Prop} {σ : L2.St} {HB H : Hp} (he : EnvOk X.K HB H σ ρ) (ha : Ev X ρ a d1) (hb : Ev X ρ b d2) (q : ∀ v u HB2 H2, Step HB H HB2 H2 → Rp X.K HB2 v d1 → Rp X.K HB2 u d2 → R v u H2) :
    wpE X a σ H fun v H1 => wpE X b σ H1 fun u H2 => R v u H2 :=
  ha σ HB H he _ fun v HB1 H1 x1 r1 => hb σ HB1 H1 (he.step x1) _ fun u HB2 H2 x2 r2 => q v u HB2 H2 (x1.trans x2) (r1.mono x2.b) r2
theorem ev_binI {op : Operator} {C : Int → Int → Prop} {f : Int → Int → Int} (ho : OpR X (binaryOp op) (rI C fun i j => .int (f i j))) (ha : Ev X ρ a (.int i)) (hb : Ev X ρ b (.int j)) (hc : C i j) :
    Ev X ρ (.BinOp a op b pos) (.int (f i j)) := fun σ HB H he Q q => ⟨_, pe_op ho pe_wp pe_wp, two he ha hb fun v u HB2 H2 x r1 r2 => ⟨i, j, r1.ofInt, r2.ofInt, hc, q _ HB2 H2 x (.int _)⟩⟩
theorem ev_binI0 {op : Operator} {f : Int → Int → Int} (ho : OpR X (binaryOp op) (rI0 fun i j => .int (f i j))) (ha : Ev X ρ a (.int i)) (hb : Ev X ρ b (.int j)) :
    Ev X ρ (.BinOp a op b pos) (.int (f i j)) := fun σ HB H he Q q => ⟨_, pe_op ho pe_wp pe_wp, two he ha hb fun v u HB2 H2 x r1 r2 => ⟨i, j, r1.ofInt, r2.ofInt, q _ HB2 H2 x (.int _)⟩⟩
theorem ev_add (ha : Ev X ρ a (.int i)) (hb : Ev X ρ b (.int j)) : Ev X ρ (.BinOp a .Add b pos) (.int (i + j)) := ev_binI0 op_add ha hb
theorem ev_sub (ha : Ev X ρ a (.int i)) (hb : Ev X ρ b (.int j)) : Ev X ρ (.BinOp a .Sub b pos) (.int (i - j)) := ev_binI0 op_sub ha hb
theorem ev_mul (ha : Ev X ρ a (.int i)) (hb : Ev X ρ b (.int j)) (hc : CMul i j) : Ev X ρ (.BinOp a .Mult b pos) (.int (i * j)) := ev_binI op_mul ha hb hc
theorem ev_mod (ha : Ev X ρ a (.int i)) (hb : Ev X ρ b (.int j)) (hc : 0 < j) : Ev X ρ (.BinOp a .Mod b pos) (.int (i % j)) := ev_binI op_mod ha hb hc
theorem ev_fdiv (ha : Ev X ρ a (.int i)) (hb : Ev X ρ b (.int j)) (hc : CDivW i j) : Ev X ρ (.BinOp a .FloorDiv b pos) (.int (i / j)) := ev_binI op_fdivW ha hb hc
theorem ev_pow (ha : Ev X ρ a (.int i)) (hb : Ev X ρ b (.int j)) (hc : CPow i j) : Ev X ρ (.BinOp a .Pow b pos) (.int (i ^ j.toNat)) := ev_binI op_pow ha hb hc
theorem ev_neg (ha : Ev X ρ a (.int i)) : Ev X ρ (.UnaryOp .USub a pos) (.int (-i)) := fun σ HB H he Q q => ⟨_, pe_un un_neg pe_wp, ha σ HB H he _ fun v HB1 H1 x r => ⟨i, r.ofInt, q _ HB1 H1 x (.int _)⟩⟩
theorem ev_addS {s t : Str} (ha : Ev X ρ a (.str s)) (hb : Ev X ρ b (.str t)) (hc : s.length + t.length ≤ 100000) : Ev X ρ (.BinOp a .Add b pos) (.str (s ++ t)) := fun σ HB H he Q q =>
  ⟨_, pe_op op_add_str pe_wp pe_wp, two he ha hb fun v u HB2 H2 x r1 r2 => ⟨s, t, r1.ofStr, r2.ofStr, Nat.le_trans hc (by decide), q _ HB2 H2 x (.str _)⟩⟩
/-- list + list -/
theorem evn_cat (ha : EvL X ρ a ds1) (hb : EvL X ρ b ds2) (hc : ds1.length + ds2.length ≤ 100000) : EvN X ρ (.BinOp a .Add b pos) (ds1 ++ ds2) := fun σ HB H he Q q =>
  ⟨_, pe_op op_cat pe_wp pe_wp, ha σ HB H he _ fun p1 v1 HB1 H1 x1 h1 r1 => hb σ HB1 H1 (he.step x1) _ fun p2 v2 HB2 H2 x2 h2 r2 =>
    ⟨p1, p2, v1, v2, rfl, rfl, x2.h _ _ h1, h2, by rw [r1.length, r2.length]; exact Nat.le_trans hc (by decide), fun p hp => q p _ HB2 _ ((x1.trans x2).trans (Step.out x2.in_ hp)) ((x1.trans x2).h.free hp) (x2.in_.free hp) upd_same ((r1.mono x2.b).append r2)⟩⟩
/-- list * int -/
theorem evn_rep (ha : EvL X ρ a ds1) (hb : Ev X ρ b (.int i)) (h0 : 0 ≤ i) (hc : ds1.length * i.toNat ≤ 100000) (h1 : i ≤ 100000) : EvN X ρ (.BinOp a .Mult b pos) (List.replicate i.toNat ds1).flatten := fun σ HB H he Q q =>
  ⟨_, pe_op op_rep pe_wp pe_wp, ha σ HB H he _ fun p1 v1 HB1 H1 x1 h1 r1 => hb σ HB1 H1 (he.step x1) _ fun v HB2 H2 x2 r2 =>
    ⟨p1, i, v1, rfl, r2.ofInt, x2.h _ _ h1, by omega, by omega, by rw [r1.length]; exact Nat.le_trans hc (by decide), fun p hp => q p _ HB2 _ ((x1.trans x2).trans (Step.out x2.in_ hp)) ((x1.trans x2).h.free hp) (x2.in_.free hp) upd_same ((r1.mono x2.b).rep _)⟩⟩
/-- [x] * n -/
theorem flat1 {α : Type} (x : α) : ∀ n : Nat, (List.replicate n [x]).flatten = List.replicate n x
  | 0 => rfl
  | n + 1 => by rw [List.replicate_succ, List.flatten_cons, flat1 x n, List.replicate_succ]; rfl
theorem evn_rep1 (ha : EvL X ρ a [d]) (hb : Ev X ρ b (.int i)) (h0 : 0 ≤ i) (hc : i ≤ 100000) : EvN X ρ (.BinOp a .Mult b pos) (List.replicate i.toNat d) :=
  (evn_rep ha hb h0 (by rw [List.length_singleton]; omega) hc).cast (flat1 d _)

/-! ### arguments, displays -/
theorem ea_nil : EvA X ρ [] [] := fun σ HB H he Q q => ⟨_, pa_nil, q [] HB H (Step.refl he.ex) .nil⟩
theorem ea_cons (ha : Ev X ρ e d) (hr : EvA X ρ es ds) (hs : starEach (e :: es) X.env = (false, eval e X.env) :: starEach es X.env := by rfl) : EvA X ρ (e :: es) (d :: ds) := fun σ HB H he Q q =>
  ⟨_, pa_cons pe_wp pa_wp hs, ha σ HB H he _ fun v HB1 H1 x1 r1 => hr σ HB1 H1 (he.step x1) _ fun vs HB2 H2 x2 r2 => q _ HB2 H2 (x1.trans x2) (.cons (r1.mono x2.b) r2)⟩
theorem ev_tup {k} (h : EvA X ρ es ds) (hl : ds.length ≤ 100000) : Ev X ρ (.Tuple es k pos) (.tup ds) := fun σ HB H he Q q =>
  ⟨_, pe_tup pa_wp, h σ HB H he _ fun vs HB1 H1 x1 r1 => ⟨by rw [r1.length]; exact Nat.le_trans hl (by decide), fun p hp => q _ _ _ (x1.trans (Step.new x1.in_ hp)) (.tup (SqT.of upd_same) (r1.mono (Ex.new (x1.in_.free hp))))⟩⟩
theorem evn_lst (h : EvA X ρ es ds) (hl : ds.length ≤ 100000) : EvN X ρ (.List es pos) ds := fun σ HB H he Q q =>
  ⟨_, pe_lst pa_wp, h σ HB H he _ fun vs HB1 H1 x1 r1 => ⟨by rw [r1.length]; exact Nat.le_trans hl (by decide), fun p hp => q p _ HB1 _ (x1.trans (Step.out x1.in_ hp)) (x1.h.free hp) (x1.in_.free hp) upd_same r1⟩⟩

/-! ### comparisons -/
theorem pc_cmpR {op : CmpOp} {r : R2} {ta tb : TE} (ho : OpR X (compareOp op) r) (ha : PE X a ta) (hb : PE X b tb) : PC X op a b (tOp r ta tb) := by
  refine ⟨fun pins s σ H Q I h => ?_⟩
  exact binT ha hb I h fun v u s2 x y H2 I2 rx ry q => ho pins s2 σ H2 x y v u Q I2 rx ry q
theorem ec_I {op : CmpOp} {f : Int → Int → Bool} (ho : OpR X (compareOp op) (rI0 fun i j => .bl (f i j))) (ha : Ev X ρ a (.int i)) (hb : Ev X ρ b (.int j)) : EvC X ρ op a b (f i j) := fun σ HB H he Q q =>
  ⟨_, pc_cmpR ho pe_wp pe_wp, two he ha hb fun v u HB2 H2 x r1 r2 => ⟨i, j, r1.ofInt, r2.ofInt, q HB2 H2 x⟩⟩
theorem ec_lt (ha : Ev X ρ a (.int i)) (hb : Ev X ρ b (.int j)) : EvC X ρ .Lt a b (decide (i < j)) := ec_I op_lt ha hb
theorem ec_le (ha : Ev X ρ a (.int i)) (hb : Ev X ρ b (.int j)) : EvC X ρ .LtE a b (decide (i ≤ j)) := ec_I op_le ha hb
theorem ec_gt (ha : Ev X ρ a (.int i)) (hb : Ev X ρ b (.int j)) : EvC X ρ .Gt a b (decide (j < i)) := ec_I op_gt ha hb
theorem ec_ge (ha : Ev X ρ a (.int i)) (hb : Ev X ρ b (.int j)) : EvC X ρ .GtE a b (decide (j ≤ i)) := ec_I op_ge ha hb
theorem decI : decide (V.int i = V.int j) = decide (i = j) := by
  by_cases h : i = j
  · rw [decide_eq_true h, decide_eq_true (congrArg V.int h)]
  · rw [decide_eq_false h, decide_eq_false fun z => h (V.int.inj z)]
theorem decS {s t : Str} : decide (V.str s = V.str t) = decide (s = t) := by
  by_cases h : s = t
  · rw [decide_eq_true h, decide_eq_true (congrArg V.str h)]
  · rw [decide_eq_false h, decide_eq_false fun z => h (V.str.inj z)]
theorem decB {s t : Bool} : decide (V.bl s = V.bl t) = decide (s = t) := by
  by_cases h : s = t
  · rw [decide_eq_true h, decide_eq_true (congrArg V.bl h)]
  · rw [decide_eq_false h, decide_eq_false fun z => h (V.bl.inj z)]
theorem ec_eqI (ha : Ev X ρ a (.int i)) (hb : Ev X ρ b (.int j)) : EvC X ρ .Eq a b (decide (i = j)) := fun σ HB H he Q q =>
  ⟨_, pc_cmpR op_eq pe_wp pe_wp, two he ha hb fun v u HB2 H2 x r1 r2 => by rw [r1.ofInt, r2.ofInt]; exact ⟨rfl, by rw [decI]; exact q HB2 H2 x⟩⟩
theorem ec_neI (ha : Ev X ρ a (.int i)) (hb : Ev X ρ b (.int j)) : EvC X ρ .NotEq a b (!decide (i = j)) := fun σ HB H he Q q =>
  ⟨_, pc_cmpR op_ne pe_wp pe_wp, two he ha hb fun v u HB2 H2 x r1 r2 => by rw [r1.ofInt, r2.ofInt]; exact ⟨rfl, by rw [decI]; exact q HB2 H2 x⟩⟩
theorem ec_eqS {s t : Str} (ha : Ev X ρ a (.str s)) (hb : Ev X ρ b (.str t)) : EvC X ρ .Eq a b (decide (s = t)) := fun σ HB H he Q q =>
  ⟨_, pc_cmpR op_eq pe_wp pe_wp, two he ha hb fun v u HB2 H2 x r1 r2 => by rw [r1.ofStr, r2.ofStr]; exact ⟨rfl, by rw [decS]; exact q HB2 H2 x⟩⟩
theorem ec_neS {s t : Str} (ha : Ev X ρ a (.str s)) (hb : Ev X ρ b (.str t)) : EvC X ρ .NotEq a b (!decide (s = t)) := fun σ HB H he Q q =>
  ⟨_, pc_cmpR op_ne pe_wp pe_wp, two he ha hb fun v u HB2 H2 x r1 r2 => by rw [r1.ofStr, r2.ofStr]; exact ⟨rfl, by rw [decS]; exact q HB2 H2 x⟩⟩
theorem ec_eqB {s t : Bool} (ha : Ev X ρ a (.bl s)) (hb : Ev X ρ b (.bl t)) : EvC X ρ .Eq a b (decide (s = t)) := fun σ HB H he Q q =>
  ⟨_, pc_cmpR op_eq pe_wp pe_wp, two he ha hb fun v u HB2 H2 x r1 r2 => by rw [r1.ofBl, r2.ofBl]; exact ⟨rfl, by rw [decB]; exact q HB2 H2 x⟩⟩
theorem ec_isB {s t : Bool} (ha : Ev X ρ a (.bl s)) (hb : Ev X ρ b (.bl t)) : EvC X ρ .Is a b (decide (s = t)) := fun σ HB H he Q q =>
  ⟨_, pc_cmpR op_isBl pe_wp pe_wp, two he ha hb fun v u HB2 H2 x r1 r2 => ⟨s, t, r1.ofBl, r2.ofBl, q HB2 H2 x⟩⟩
theorem ec_isnB {s t : Bool} (ha : Ev X ρ a (.bl s)) (hb : Ev X ρ b (.bl t)) : EvC X ρ .IsNot a b (!decide (s = t)) := fun σ HB H he Q q =>
  ⟨_, pc_cmpR op_notBl pe_wp pe_wp, two he ha hb fun v u HB2 H2 x r1 r2 => ⟨s, t, r1.ofBl, r2.ofBl, q HB2 H2 x⟩⟩
/-! data at any depth -/
mutual
def toP : D → PyData
  | .non => .none
  | .bl b => .bool b
  | .int i => .int i
  | .str s => .str s
  | .lst ds => .list (toPs ds)
  | .tup ds => .tuple (toPs ds)
  | .scr ns => .list (ns.map .int)
  | .new _ => .none
def toPs : List D → List PyData
  | [] => []
  | d :: ds => toP d :: toPs ds
end
theorem toPs_map : ∀ ds : List D, toPs ds = ds.map toP
  | [] => rfl
  | d :: ds => by
    show toP d :: toPs ds = _
    rw [toPs_map ds, List.map_cons]
theorem dp_ints {K : PySem.W.Frag} {H : Hp} : ∀ ns : List Int, DpAll K H (ns.map V.int) (ns.map PyData.int)
  | [] => .nil
  | n :: ns => .cons (.int n) (dp_ints ns)
mutual
theorem Rp.dp {K : PySem.W.Frag} {H : Hp} : ∀ {d : D} {v : V}, Rp K H v d → Dp K H v (toP d)
  | .non, _, h => by cases h; exact .non
  | .bl _, _, h => by cases h; exact .bl _
  | .int _, _, h => by cases h; exact .int _
  | .str _, _, h => by cases h; exact .str _
  | .lst ds, _, h => by
    cases h with
    | lst ha hr => exact .lst (SqL.of ha) (RpAll.dp hr)
  | .tup ds, _, h => by
    cases h with
    | tup ha hr => exact .tup ha (RpAll.dp hr)
  | .scr ns, _, h => by
    cases h with
    | scr ha => exact .lst ha (dp_ints ns)
  | .new _, _, h => by cases h
theorem RpAll.dp {K : PySem.W.Frag} {H : Hp} : ∀ {ds : List D} {vs : List V}, RpAll K H vs ds → DpAll K H vs (toPs ds)
  | [], _, h => by cases h; exact .nil
  | d :: ds, _, h => by
    cases h with
    | cons h1 h2 => exact .cons (Rp.dp h1) (RpAll.dp h2)
end
/-- what may be compared: no strange signs, not too deep -/
def Fine (k : Nat) (d : D) : Prop := (toP d).canLay0 = true ∧ (toP d).depth ≤ k
theorem Fine.sh {k : Nat} {d : D} (h : Fine k d) (hk : k ≤ 64 := by decide) : SeqAt.shaped (toP d) = true := Bool.and_eq_true_iff.mpr ⟨h.1, decide_eq_true (Nat.le_trans h.2 hk)⟩
theorem fine_int {k : Nat} (i : Int) : Fine k (.int i) := ⟨rfl, Nat.zero_le _⟩
theorem fine_bl {k : Nat} (i : Bool) : Fine k (.bl i) := ⟨rfl, Nat.zero_le _⟩
theorem fine_non {k : Nat} : Fine k .non := ⟨rfl, Nat.zero_le _⟩
theorem fine_str {k : Nat} {x : Str} (h : ∀ c ∈ x.cps.toList, c < 128) : Fine k (.str x) := by
  refine ⟨?_, Nat.zero_le _⟩
  show PyData.strOk x = true
  unfold PyData.strOk
  rw [Array.all_eq_true']
  intro c hc
  have := h c (Array.mem_def.mp hc)
  exact decide_eq_true (by omega)
theorem fines {k : Nat} : ∀ {ds : List D}, (∀ d ∈ ds, Fine k d) → PyData.canLayAll0 (toPs ds) = true ∧ PyData.depthAll (toPs ds) ≤ k
  | [], _ => ⟨rfl, Nat.zero_le _⟩
  | d :: ds, h => by
    obtain ⟨h1, h2⟩ := h d (List.mem_cons_self ..)
    obtain ⟨h3, h4⟩ := fines (k := k) fun e he => h e (List.mem_cons_of_mem _ he)
    exact ⟨Bool.and_eq_true_iff.mpr ⟨h1, h3⟩, Nat.max_le.mpr ⟨h2, h4⟩⟩
theorem fine_lst {k : Nat} {ds : List D} (h : ∀ d ∈ ds, Fine k d) : Fine (k + 1) (.lst ds) := ⟨(fines h).1, Nat.succ_le_succ (fines h).2⟩
theorem fine_tup {k : Nat} {ds : List D} (h : ∀ d ∈ ds, Fine k d) : Fine (k + 1) (.tup ds) := ⟨(fines h).1, Nat.succ_le_succ (fines h).2⟩
theorem fine_ints {k : Nat} (ns : List Int) : Fine (k + 1) (.lst (ns.map D.int)) := fine_lst fun d hd => by
  obtain ⟨n, _, rfl⟩ := List.mem_map.mp hd
  exact fine_int n
def eqD (d e : D) : Bool := PyData.eqv (toP d) (toP e)
theorem eqD_refl {k : Nat} {d : D} (h : Fine k d) : eqD d d = true := SeqAt.eqv_refl _ h.1
theorem ec_eqD (hu : X.A.units + 64 < cLine) (f1 : Fine 60 d1) (f2 : Fine 60 d2) (ha : Ev X ρ a d1) (hb : Ev X ρ b d2) : EvC X ρ .Eq a b (eqD d1 d2) := fun σ HB H he Q q =>
  ⟨_, pc_cmpR (op_eqD hu) pe_wp pe_wp, two he ha hb fun v u HB2 H2 x r1 r2 => ⟨_, _, (r1.mono x.in_).dp, (r2.mono x.in_).dp, f1.sh, f2.sh, q HB2 H2 x⟩⟩
theorem ec_neD (hu : X.A.units + 64 < cLine) (f1 : Fine 60 d1) (f2 : Fine 60 d2) (ha : Ev X ρ a d1) (hb : Ev X ρ b d2) : EvC X ρ .NotEq a b (!eqD d1 d2) := fun σ HB H he Q q =>
  ⟨_, pc_cmpR (op_neD hu) pe_wp pe_wp, two he ha hb fun v u HB2 H2 x r1 r2 => ⟨_, _, (r1.mono x.in_).dp, (r2.mono x.in_).dp, f1.sh, f2.sh, q HB2 H2 x⟩⟩
/-- a sign in a text -/
theorem ec_in {k : Nat} {s : Str} (ha : Ev X ρ a (.str ⟨#[k]⟩)) (hb : Ev X ρ b (.str s)) : EvC X ρ .In a b (decide (k ∈ s.cps.toList)) := fun σ HB H he Q q =>
  ⟨_, pc_cmpR op_in_sign pe_wp pe_wp, two he ha hb fun v u HB2 H2 x r1 r2 => ⟨k, s, r1.ofStr, r2.ofStr, q HB2 H2 x⟩⟩
theorem ec_nin {k : Nat} {s : Str} (ha : Ev X ρ a (.str ⟨#[k]⟩)) (hb : Ev X ρ b (.str s)) : EvC X ρ .NotIn a b (!decide (k ∈ s.cps.toList)) := fun σ HB H he Q q =>
  ⟨_, pc_cmpR op_notIn_sign pe_wp pe_wp, two he ha hb fun v u HB2 H2 x r1 r2 => ⟨k, s, r1.ofStr, r2.ofStr, q HB2 H2 x⟩⟩
/-- a text in a list of texts -/
theorem inV_strs (s : Str) : ∀ ss : List Str, inV (.str s) (ss.map V.str) = decide (s ∈ ss)
  | [] => rfl
  | t :: ss => by
    show (eqV (.str t) (.str s) || inV (.str s) (ss.map V.str)) = _
    rw [inV_strs s ss]
    show ((t == s) || decide (s ∈ ss)) = _
    by_cases h : t = s
    · subst h
      simp
    · have h' : ¬ s = t := fun z => h z.symm
      simp [h, h']
theorem flat_strs : ∀ ss : List Str, (ss.map V.str).all flatV = true
  | [] => rfl
  | t :: ss => flat_strs ss
theorem ec_ninL {s : Str} {ss : List Str} (ha : Ev X ρ a (.str s)) (hb : EvL X ρ b (ss.map D.str)) : EvC X ρ .NotIn a b (!decide (s ∈ ss)) := fun σ HB H he Q q =>
  ⟨_, pc_cmpR op_notIn_seq pe_wp pe_wp, ha σ HB H he _ fun v HB1 H1 x1 r1 => hb σ HB1 H1 (he.step x1) _ fun p vs HB2 H2 x2 h2 r2 => by
    rw [r1.ofStr]
    exact ⟨p, vs, rfl, .inl (SqL.of h2), rfl, by rw [r2.strs]; exact flat_strs ss, by rw [r2.strs, inV_strs]; exact q HB2 H2 (x1.trans x2)⟩⟩
/-- as a value, as a test -/
theorem ev_cmp {op : CmpOp} {k : Bool} (h : EvC X ρ op a b k) (h1 : behindInMarks op b = false := by first | exact nomark _ (by decide) (by decide) | rfl) : Ev X ρ (.Compare a [op] [b] pos) (.bl k) := fun σ HB H he Q q =>
  ⟨_, pe_cmp pc_wp h1, h σ HB H he _ fun HB2 H2 x => q _ HB2 H2 x (.bl k)⟩
theorem et_cmp {op : CmpOp} {k : Bool} (h : EvC X ρ op a b k) (h1 : behindInMarks op b = false := by first | exact nomark _ (by decide) (by decide) | rfl) : EvT X ρ (.Compare a [op] [b] pos) k := fun σ HB H he Q q =>
  ⟨_, pt_cmp pc_wp h1, h σ HB H he _ fun HB2 H2 x => ⟨k, rfl, q HB2 H2 x⟩⟩
/-- a <= b < c, ints -/
theorem ev_chain {k : Int} (ha : Ev X ρ a (.int i)) (hb : Ev X ρ b (.int j)) (hc : Ev X ρ c (.int k)) (hm : lastMarks [.LtE, .Lt] [b, c] = false := by with_unfolding_all rfl) : Ev X ρ (.Compare a [.LtE, .Lt] [b, c] pos) (.bl (decide (i ≤ j) && decide (j < k))) := fun σ HB H he Q q =>
  ⟨_, pe_chain op_le op_lt pe_wp pe_wp pe_wp hm, two he ha hb fun v u HB2 H2 x r1 r2 => ⟨i, j, r1.ofInt, r2.ofInt, _, rfl, by
    by_cases h : i ≤ j
    · rw [decide_eq_true h]
      refine iteT (hc σ HB2 H2 (he.step x) _ fun w HB3 H3 x3 r3 => ⟨j, k, r2.ofInt, r3.ofInt, ?_⟩)
      have := q (.bl (decide (i ≤ j) && decide (j < k))) HB3 H3 (x.trans x3) (.bl _)
      rw [decide_eq_true h, Bool.true_and] at this
      exact this
    · rw [decide_eq_false h]
      refine iteF ?_
      have := q (.bl (decide (i ≤ j) && decide (j < k))) HB2 H2 x (.bl _)
      rw [decide_eq_false h, Bool.false_and] at this
      exact this⟩⟩

/-! ### and, or, not -/
theorem et_ev {k : Bool} (h : Ev X ρ e (.bl k)) (he : ∀ whole, isTrue e X.env whole = (do let v ← whole; standAt e.pos; holding [v] (truthy v)) := by intro _; rfl) : EvT X ρ e k := fun σ HB H hh Q q =>
  ⟨_, pt_val pe_wp he, h σ HB H hh _ fun v HB2 H2 x r => ⟨k, r.ofBl, q HB2 H2 x⟩⟩
theorem EvW.t {k : Bool} (h : EvW X ρ e k) : EvT X ρ e k := fun σ HB H he Q q => ⟨_, PW.pt pw_wp, h σ HB H he Q q⟩
theorem ew_and1 {k : Bool} (h : EvT X ρ a k) : EvW X ρ (.BoolOp .And [a] pos) k := fun σ HB H he Q q => ⟨_, pw_and1 pt_wp, h σ HB H he Q q⟩
theorem ew_or1 {k : Bool} (h : EvT X ρ a k) : EvW X ρ (.BoolOp .Or [a] pos) k := fun σ HB H he Q q => ⟨_, pw_or1 pt_wp, h σ HB H he Q q⟩
theorem ew_and {k l : Bool} {rest : List Expr} (h : EvT X ρ a k) (hr : k = true → EvW X ρ (.BoolOp .And (b :: rest) pos) l) : EvW X ρ (.BoolOp .And (a :: b :: rest) pos) (k && l) := fun σ HB H he Q q => ⟨_, pw_and pt_wp pw_wp, h σ HB H he _ fun HB2 H2 x => by
  cases k with
  | true => exact iteT (hr rfl σ HB2 H2 (he.step x) _ fun HB3 H3 x3 => q HB3 H3 (x.trans x3))
  | false => exact iteF (q HB2 H2 x)⟩
theorem ew_or {k l : Bool} {rest : List Expr} (h : EvT X ρ a k) (hr : k = false → EvW X ρ (.BoolOp .Or (b :: rest) pos) l) : EvW X ρ (.BoolOp .Or (a :: b :: rest) pos) (k || l) := fun σ HB H he Q q => ⟨_, pw_or pt_wp pw_wp, h σ HB H he _ fun HB2 H2 x => by
  cases k with
  | true => exact iteT (q HB2 H2 x)
  | false => exact iteF (hr rfl σ HB2 H2 (he.step x) _ fun HB3 H3 x3 => q HB3 H3 (x.trans x3))⟩
theorem et_not {k : Bool} (h : EvT X ρ a k) : EvT X ρ (.UnaryOp .Not a pos) (!k) := fun σ HB H he Q q => ⟨_, pt_not pt_wp, h σ HB H he _ fun HB2 H2 x => q HB2 H2 x⟩
theorem ev_and1 {op} (h : Ev X ρ a d) : Ev X ρ (.BoolOp op [a] pos) d := fun σ HB H he Q q => ⟨_, pe_one pe_wp, h σ HB H he Q q⟩
theorem ev_and {k l : Bool} {rest : List Expr} (h : Ev X ρ a (.bl k)) (hr : k = true → Ev X ρ (.BoolOp .And (b :: rest) pos) (.bl l)) : Ev X ρ (.BoolOp .And (a :: b :: rest) pos) (.bl (k && l)) := fun σ HB H he Q q => ⟨_, pe_and pe_wp pe_wp, h σ HB H he _ fun v HB2 H2 x r => ⟨k, r.ofBl, by
  cases k with
  | true => exact iteT (hr rfl σ HB2 H2 (he.step x) _ fun v3 HB3 H3 x3 r3 => q v3 HB3 H3 (x.trans x3) r3)
  | false => exact iteF (q _ HB2 H2 x (.bl _))⟩⟩
theorem ev_or {k l : Bool} {rest : List Expr} (h : Ev X ρ a (.bl k)) (hr : k = false → Ev X ρ (.BoolOp .Or (b :: rest) pos) (.bl l)) : Ev X ρ (.BoolOp .Or (a :: b :: rest) pos) (.bl (k || l)) := fun σ HB H he Q q => ⟨_, pe_or pe_wp pe_wp, h σ HB H he _ fun v HB2 H2 x r => ⟨k, r.ofBl, by
  cases k with
  | true => exact iteT (q _ HB2 H2 x (.bl _))
  | false => exact iteF (hr rfl σ HB2 H2 (he.step x) _ fun v3 HB3 H3 x3 r3 => q v3 HB3 H3 (x.trans x3) r3)⟩⟩
theorem ev_not {k : Bool} (h : Ev X ρ a (.bl k)) : Ev X ρ (.UnaryOp .Not a pos) (.bl (!k)) := fun σ HB H he Q q => ⟨_, pe_not pe_wp, h σ HB H he _ fun v HB2 H2 x r => ⟨k, r.ofBl, q _ HB2 H2 x (.bl _)⟩⟩
/-- a list's truth -/
theorem et_list (h : EvL X ρ e ds) (he : ∀ whole, isTrue e X.env whole = (do let v ← whole; standAt e.pos; holding [v] (truthy v)) := by intro _; rfl) : EvT X ρ e (!ds.isEmpty) := fun σ HB H hh Q q =>
  ⟨_, pt_truth pe_wp he, h σ HB H hh _ fun p vs HB2 H2 x h2 r => ⟨!ds.isEmpty, .inl ⟨vs, SqL.of h2, by
    cases r <;> rfl⟩, q HB2 H2 x⟩⟩

/-! ### subscripts -/
theorem at_rp {K : PySem.W.Frag} {H : Hp} {vs : List V} (r : RpAll K H vs ds) (h : atI ds i = some d) : ∃ v, atI vs i = some v ∧ Rp K H v d := by
  unfold atI at h ⊢
  rw [r.length]
  cases e : ixN ds.length i with
  | none =>
    rw [e] at h
    cases h
  | some j =>
    rw [e] at h
    exact r.get h
theorem atI_in {α : Type} {xs : List α} {i : Int} (h0 : 0 ≤ i) (h1 : i < xs.length) : atI xs i = xs[i.toNat]? := by
  unfold atI ixN
  rw [if_pos h0, if_pos h1]
  rfl
theorem ev_ixL (ha : EvL X ρ a ds) (hb : Ev X ρ b (.int i)) (h : atI ds i = some d) (hs : PlainIx b := by exact fun _ _ => rfl) : Ev X ρ (.Subscript a b pos) d := fun σ HB H he Q q =>
  ⟨_, pe_ix ix_list pe_wp pe_wp hs, ha σ HB H he _ fun p vs HB1 H1 x1 h1 r1 => hb σ HB1 H1 (he.step x1) _ fun v HB2 H2 x2 r2 => by
    obtain ⟨w, e, rw'⟩ := at_rp (r1.mono x2.b) h
    exact ⟨p, vs, i, w, rfl, r2.ofInt, SqL.of (x2.h _ _ h1), e, q _ HB2 H2 (x1.trans x2) rw'⟩⟩
theorem ev_ixT (ha : Ev X ρ a (.tup ds)) (hb : Ev X ρ b (.int i)) (h : atI ds i = some d) (hs : PlainIx b := by exact fun _ _ => rfl) : Ev X ρ (.Subscript a b pos) d := fun σ HB H he Q q =>
  ⟨_, pe_ix ix_tup pe_wp pe_wp hs, two he ha hb fun v u HB2 H2 x r1 r2 => by
    cases r1 with
    | tup h1 r =>
      obtain ⟨w, e, rw'⟩ := at_rp r h
      exact ⟨_, _, i, w, rfl, r2.ofInt, x.in_.sqT h1, e, q _ HB2 H2 x rw'⟩⟩
theorem ev_ixS {s : Str} {k : Nat} (ha : Ev X ρ a (.str s)) (hb : Ev X ρ b (.int i)) (hl : s.length ≤ 100000) (h : atI s.cps.toList i = some k) (hs : PlainIx b := by exact fun _ _ => rfl) : Ev X ρ (.Subscript a b pos) (.str ⟨#[k]⟩) := fun σ HB H he Q q =>
  ⟨_, pe_ix ix_str pe_wp pe_wp hs, two he ha hb fun v u HB2 H2 x r1 r2 => ⟨s, i, k, r1.ofStr, r2.ofInt, Nat.le_trans hl (by decide), h, q _ HB2 H2 x (.str _)⟩⟩
theorem ev_ixScr {ns : List Int} (ha : Ev X ρ a (.scr ns)) (hb : Ev X ρ b (.int i)) (h : atI ns i = some j) (hs : PlainIx b := by exact fun _ _ => rfl) : Ev X ρ (.Subscript a b pos) (.int j) := fun σ HB H he Q q =>
  ⟨_, pe_ix ix_list pe_wp pe_wp hs, two he ha hb fun v u HB2 H2 x r1 r2 => by
    cases r1 with
    | scr h1 =>
      refine ⟨_, _, i, .int j, rfl, r2.ofInt, x.in_.sqL h1, ?_, q _ HB2 H2 x (.int j)⟩
      unfold atI at h ⊢
      rw [List.length_map]
      cases e : ixN ns.length i with
      | none =>
        rw [e] at h
        cases h
      | some l =>
        rw [e] at h
        show (ns.map V.int)[l]? = _
        rw [List.getElem?_map, (show ns[l]? = some j from h)]
        rfl⟩
/-! slices -/
theorem ep_none : EvP X ρ none none := fun σ HB H he Q q => ⟨_, po_none, q HB H (Step.refl he.ex)⟩
theorem ep_some (h : Ev X ρ e (.int i)) : EvP X ρ (some e) (some i) := fun σ HB H he Q q => ⟨_, po_some pe_wp, h σ HB H he _ fun v HB2 H2 x r => ⟨i, r.ofInt, q HB2 H2 x⟩⟩
def cut {α : Type} (xs : List α) (lo hi : Option Int) : List α := (xs.drop (HT.sIx xs.length 0 lo)).take (HT.sIx xs.length xs.length hi - HT.sIx xs.length 0 lo)
theorem cutV_cut (vs : List V) (lo hi : Option Int) : cutV vs lo hi = cut vs lo hi := rfl
theorem RpAll.cut {K : PySem.W.Frag} {H : Hp} {vs : List V} (r : RpAll K H vs ds) (lo hi : Option Int) : RpAll K H (Y.cut vs lo hi) (Y.cut ds lo hi) := by
  unfold Y.cut
  rw [r.length]
  exact (r.drop _).take _
variable {lo hi : Option Expr} {l h' : Option Int} {p2 : Pos}
theorem evn_slice (ha : EvL X ρ a ds) (hl : EvP X ρ lo l) (hh : EvP X ρ hi h') : EvN X ρ (.Subscript a (.Slice lo hi none p2) pos) (cut ds l h') := fun σ HB H he Q q =>
  ⟨_, pe_slice sl_list pe_wp po_wp po_wp, ha σ HB H he _ fun p vs HB1 H1 x1 h1 r1 => hl σ HB1 H1 (he.step x1) _ fun HB2 H2 x2 => hh σ HB2 H2 ((he.step x1).step x2) _ fun HB3 H3 x3 =>
    ⟨p, vs, rfl, SqL.of (x3.h _ _ (x2.h _ _ h1)), fun p' hp => q p' _ HB3 _ (((x1.trans x2).trans x3).trans (Step.out x3.in_ hp)) (((x1.trans x2).trans x3).h.free hp) (x3.in_.free hp) upd_same (((r1.mono x2.b).mono x3.b).cut _ _)⟩⟩
theorem ev_sliceT (ha : Ev X ρ a (.tup ds)) (hl : EvP X ρ lo l) (hh : EvP X ρ hi h') : Ev X ρ (.Subscript a (.Slice lo hi none p2) pos) (.tup (cut ds l h')) := fun σ HB H he Q q =>
  ⟨_, pe_slice sl_tupA pe_wp po_wp po_wp, ha σ HB H he _ fun v HB1 H1 x1 r1 => hl σ HB1 H1 (he.step x1) _ fun HB2 H2 x2 => hh σ HB2 H2 ((he.step x1).step x2) _ fun HB3 H3 x3 => by
    cases r1 with
    | @tup p vs _ h1 r =>
      have hT := x3.in_.sqT (x3.b.sqT (x2.b.sqT h1))
      have hR := (r.mono x2.b).mono x3.b
      refine ⟨p, vs, rfl, hT, fun hw => ?_, fun _ p' hp => ?_⟩
      · refine q _ HB3 H3 ((x1.trans x2).trans x3) (.tup (x3.b.sqT (x2.b.sqT h1)) ?_)
        have e : Y.cut ds l h' = ds := by
          unfold Y.cut
          rw [r.length] at hw
          rw [hw.1, hw.2, List.drop_zero, Nat.sub_zero]
          exact List.take_length
        rw [e]
        exact hR
      · exact q _ _ _ (((x1.trans x2).trans x3).trans (Step.new x3.in_ hp)) (.tup (SqT.of upd_same) ((hR.cut _ _).mono (Ex.new (x3.in_.free hp))))⟩
theorem ev_sliceS {s : Str} (ha : Ev X ρ a (.str s)) (hl : EvP X ρ lo l) (hh : EvP X ρ hi h') (hz : s.length ≤ 100000) : Ev X ρ (.Subscript a (.Slice lo hi none p2) pos) (.str (cutS s l h')) := fun σ HB H he Q q =>
  ⟨_, pe_slice sl_str pe_wp po_wp po_wp, ha σ HB H he _ fun v HB1 H1 x1 r1 => hl σ HB1 H1 (he.step x1) _ fun HB2 H2 x2 => hh σ HB2 H2 ((he.step x1).step x2) _ fun HB3 H3 x3 =>
    ⟨s, r1.ofStr, Nat.le_trans hz (by decide), q _ HB3 H3 ((x1.trans x2).trans x3) (.str _)⟩⟩
/-- tuple + tuple -/
theorem ev_catT (ha : Ev X ρ a (.tup ds1)) (hb : Ev X ρ b (.tup ds2)) (hc : ds1.length + ds2.length ≤ 100000) : Ev X ρ (.BinOp a .Add b pos) (.tup (ds1 ++ ds2)) := fun σ HB H he Q q =>
  ⟨_, pe_op op_catA pe_wp pe_wp, two he ha hb fun v u HB2 H2 x r1 r2 => by
    cases r1 with
    | @tup p1 vs1 _ h1 r1 =>
    cases r2 with
    | @tup p2 vs2 _ h2 r2 =>
      refine ⟨p1, p2, vs1, vs2, rfl, rfl, x.in_.sqT h1, x.in_.sqT h2, by rw [r1.length, r2.length]; exact Nat.le_trans hc (by decide), fun z => ?_, fun _ z => ?_, fun _ _ p hp => ?_⟩
      · subst z
        cases r1
        exact q _ HB2 H2 x (.tup h2 r2)
      · subst z
        cases r2
        rw [List.append_nil] at q
        exact q _ HB2 H2 x (.tup h1 r1)
      · exact q _ _ _ (x.trans (Step.new x.in_ hp)) (.tup (SqT.of upd_same) ((r1.append r2).mono (Ex.new (x.in_.free hp))))⟩
end
end Y
end S_Lay2

section S_Lay3
set_option maxHeartbeats 2000000
namespace Y
open PySem PySem.Spec PyProof.Rows L2
/-! ### words: texts as lists of codes -/
def wd (cs : List Nat) : Str := ⟨cs.toArray⟩
theorem wd_cps (cs : List Nat) : (wd cs).cps.toList = cs := by simp [wd]
theorem wd_len (cs : List Nat) : (wd cs).length = cs.length := by
  show cs.toArray.size = _
  simp
theorem wd_app (a b : List Nat) : wd a ++ wd b = wd (a ++ b) := by
  show (⟨(wd a).cps ++ (wd b).cps⟩ : Str) = _
  simp [wd]
theorem wd_inj {a b : List Nat} (h : wd a = wd b) : a = b := by
  have := congrArg (fun s => s.cps.toList) h
  simpa only [wd_cps] using this
theorem wd_cut (cs : List Nat) (lo hi : Option Int) : cutS (wd cs) lo hi = wd (cut cs lo hi) := by
  unfold cutS cut
  rw [wd_cps, wd_len]
  rfl
theorem wd_of (s : Str) : s = wd s.cps.toList := by
  cases s
  simp [wd]
theorem wd_dec (a b : List Nat) : decide (wd a = wd b) = decide (a = b) := by
  by_cases h : a = b
  · subst h
    simp
  · rw [decide_eq_false h, decide_eq_false fun z => h (wd_inj z)]
theorem count_eqs (c : Nat) : ∀ l : List Nat, PyProof.Rows.cnt c l = (l.count c : Int)
  | [] => rfl
  | n :: l => by
    rw [PyProof.Rows.cnt_cons, count_eqs c l, List.count_cons]
    by_cases h : n = c
    · simp [h]
      omega
    · simp [h]
theorem wd_count (cs : List Nat) (c : Nat) : Txt.count (wd cs) (wd [c]) = (cs.count c : Int) := by
  have := PyProof.Rows.count_is (wd cs) c
  rw [wd_cps] at this
  exact this.trans (count_eqs c cs)
theorem foldl_reps (x : List Nat) : ∀ (n : Nat) (acc : List Nat), (List.replicate n x.toArray).foldl (· ++ ·) acc.toArray = (acc ++ (List.replicate n x).flatten).toArray
  | 0, acc => by simp
  | n + 1, acc => by
    rw [List.replicate_succ, List.foldl_cons, List.replicate_succ, List.flatten_cons, ← List.append_assoc, ← foldl_reps x n (acc ++ x)]
    simp
section
variable {X : Cx} {ρ : Rho} {e a b c : Expr} {es : List Expr} {d d1 d2 : D} {ds ds1 ds2 : List D} {pos p apos : Pos} {i j : Int} {x : Str} {α : Type}
theorem ev_addW {s t : List Nat} (ha : Ev X ρ a (.str (wd s))) (hb : Ev X ρ b (.str (wd t))) (hc : s.length + t.length ≤ 100000) : Ev X ρ (.BinOp a .Add b pos) (.str (wd (s ++ t))) :=
  (ev_addS ha hb (by rw [wd_len, wd_len]; exact hc)).cast (by rw [wd_app])
theorem ev_sliceW {s : List Nat} {lo hi : Option Expr} {l h' : Option Int} {p2 : Pos} (ha : Ev X ρ a (.str (wd s))) (hl : EvP X ρ lo l) (hh : EvP X ρ hi h') (hz : s.length ≤ 100000) : Ev X ρ (.Subscript a (.Slice lo hi none p2) pos) (.str (wd (cut s l h'))) :=
  (ev_sliceS ha hl hh (by rw [wd_len]; exact hz)).cast (by rw [wd_cut])
theorem ev_ixW {s : List Nat} {k : Nat} (ha : Ev X ρ a (.str (wd s))) (hb : Ev X ρ b (.int i)) (hl : s.length ≤ 100000) (h : atI s i = some k) (hs : PlainIx b := by exact fun _ _ => rfl) : Ev X ρ (.Subscript a b pos) (.str (wd [k])) :=
  ev_ixS ha hb (by rw [wd_len]; exact hl) (by rw [wd_cps]; exact h) hs
theorem ec_eqW {s t : List Nat} (ha : Ev X ρ a (.str (wd s))) (hb : Ev X ρ b (.str (wd t))) : EvC X ρ .Eq a b (decide (s = t)) := by
  have := ec_eqS ha hb
  rw [wd_dec] at this
  exact this
theorem ec_neW {s t : List Nat} (ha : Ev X ρ a (.str (wd s))) (hb : Ev X ρ b (.str (wd t))) : EvC X ρ .NotEq a b (!decide (s = t)) := by
  have := ec_neS ha hb
  rw [wd_dec] at this
  exact this
theorem ec_inW {k : Nat} {s : List Nat} (ha : Ev X ρ a (.str (wd [k]))) (hb : Ev X ρ b (.str (wd s))) : EvC X ρ .In a b (decide (k ∈ s)) := by
  have := ec_in (k := k) (s := wd s) ha hb
  rw [wd_cps] at this
  exact this
theorem ec_ninW {k : Nat} {s : List Nat} (ha : Ev X ρ a (.str (wd [k]))) (hb : Ev X ρ b (.str (wd s))) : EvC X ρ .NotIn a b (!decide (k ∈ s)) := by
  have := ec_nin (k := k) (s := wd s) ha hb
  rw [wd_cps] at this
  exact this
/-- text * int -/
theorem ev_repW {k : Nat} (ha : Ev X ρ a (.str (wd [k]))) (hb : Ev X ρ b (.int i)) (h0 : 0 ≤ i) (hc : i ≤ 100000) : Ev X ρ (.BinOp a .Mult b pos) (.str (wd (List.replicate i.toNat k))) := by
  intro σ HB H he Q q
  have op : OpR X (binaryOp .Mult) (fun v u H Q => v = .str (wd [k]) ∧ u = .int i ∧ Q (.str (wd (List.replicate i.toNat k))) H) := by
    intro pins s σ H v u v' u' Q I rx ry h
    obtain ⟨rfl, rfl, q⟩ := h
    obtain ⟨t, rfl⟩ := rx
    obtain ⟨t', rfl⟩ := ry
    have hl : (wd [k]).length = 1 := by rw [wd_len]; rfl
    refine PySem.P.mul_str ?_ (fun h1 h2 => ?_) (fun h1 h2 => ?_) ?_
    · have h1 : ¬ i < -(2 ^ 63 : Int) := by omega
      have h2 : ¬ i ≥ 2 ^ 63 := by omega
      rw [decide_eq_false h1, decide_eq_false h2]
      rfl
    · rw [hl]
      have hi : 0 < i := by omega
      have : (1 : Int) ≤ (2 ^ 63 - 1) / i := by
        rw [Int.le_ediv_iff_mul_le hi]
        omega
      show ¬ (((1 : Nat) : Int) > (2 ^ 63 - 1) / i)
      omega
    · rw [hl]
      unfold Builtin.Str.tooLong
      refine decide_eq_false ?_
      have : sizeLine = 16777216 := sizeLine_eq
      omega
    · by_cases h1 : i < 1
      · rw [if_pos h1]
        have e : i.toNat = 0 := by omega
        rw [e] at q
        exact ⟨by decide, ⟨.str _, H, I.tok _, ⟨_, rfl⟩, q⟩⟩
      · rw [if_neg h1]
        by_cases h2 : i = 1
        · subst h2
          rw [if_pos (by rfl)]
          exact ⟨.str _, H, I, ⟨_, rfl⟩, q⟩
        · rw [if_neg (by rw [hl]; simp [h2])]
          have e := foldl_reps [k] i.toNat []
          rw [List.nil_append, flat1] at e
          have e2 : (⟨(List.replicate i.toNat (wd [k]).cps).foldl (· ++ ·) #[]⟩ : Str) = wd (List.replicate i.toNat k) := by
            show (⟨(List.replicate i.toNat [k].toArray).foldl (· ++ ·) [].toArray⟩ : Str) = _
            rw [e]
            rfl
          rw [e2]
          refine ⟨?_, ⟨.str _, H, I.tok _, ⟨_, rfl⟩, q⟩⟩
          rw [wd_len, List.length_replicate]
          have : sizeLine = 16777216 := sizeLine_eq
          omega
  exact ⟨_, pe_op op pe_wp pe_wp, two he ha hb fun v u HB2 H2 x r1 r2 => ⟨r1.ofStr, r2.ofInt, q _ HB2 H2 x (.str _)⟩⟩

/-! ### built-ins -/
abbrev St1 (X : Cx) (a : Expr) : Prop := starEach [a] X.env = (false, eval a X.env) :: starEach [] X.env
abbrev St2 (X : Cx) (a b : Expr) : Prop := starEach [a, b] X.env = (false, eval a X.env) :: starEach [b] X.env
abbrev NoStar (X : Cx) (pos : Pos) (es : List Expr) : Prop := (backTo pos (starEach es X.env)).any (·.1) = false
theorem ev_lenL {f : α → D} {xs : List α} (hm : X.mg "len" = none) (ha : EvL X ρ a (xs.map f)) (hg : Gl X "len" := by rfl) (hs : St1 X a := by rfl) (hp : NoStar X pos [] := by rfl) : Ev X ρ (.Call (.Name "len" p) [a] [] pos) (.int (xs.length : Int)) := fun σ HB H he Q q =>
  ⟨_, pe_callB call_len hg hm PySem.boot_len (pa_cons pe_wp pa_nil hs) (he := hs) (hpl := hp), ha σ HB H he _ fun r vs HB1 H1 x1 h1 r1 => ⟨_, xs.length, rfl, .inl ⟨vs, SqL.of h1, by rw [r1.length, List.length_map]⟩, q _ HB1 H1 x1 (.int _)⟩⟩
theorem ev_lenScr {ns : List Int} (hm : X.mg "len" = none) (ha : Ev X ρ a (.scr ns)) (hg : Gl X "len" := by rfl) (hs : St1 X a := by rfl) (hp : NoStar X pos [] := by rfl) : Ev X ρ (.Call (.Name "len" p) [a] [] pos) (.int (ns.length : Int)) := fun σ HB H he Q q =>
  ⟨_, pe_callB call_len hg hm PySem.boot_len (pa_cons pe_wp pa_nil hs) (he := hs) (hpl := hp), ha σ HB H he _ fun v HB1 H1 x1 r1 => by
    cases r1 with
    | scr h1 => exact ⟨_, ns.length, rfl, .inl ⟨_, x1.in_.sqL h1, by rw [List.length_map]⟩, q _ HB1 H1 x1 (.int _)⟩⟩
theorem ev_lenT (hm : X.mg "len" = none) (ha : Ev X ρ a (.tup ds)) (hg : Gl X "len" := by rfl) (hs : St1 X a := by rfl) (hp : NoStar X pos [] := by rfl) : Ev X ρ (.Call (.Name "len" p) [a] [] pos) (.int (ds.length : Int)) := fun σ HB H he Q q =>
  ⟨_, pe_callB call_len hg hm PySem.boot_len (pa_cons pe_wp pa_nil hs) (he := hs) (hpl := hp), ha σ HB H he _ fun v HB1 H1 x1 r1 => by
    cases r1 with
    | tup h1 r => exact ⟨_, ds.length, rfl, .inr ⟨_, x1.in_.sqT h1, r.length.symm⟩, q _ HB1 H1 x1 (.int _)⟩⟩
theorem ev_lenW {s : List Nat} (hm : X.mg "len" = none) (ha : Ev X ρ a (.str (wd s))) (hz : s.length ≤ 100000) (hg : Gl X "len" := by rfl) (hs : St1 X a := by rfl) (hp : NoStar X pos [] := by rfl) : Ev X ρ (.Call (.Name "len" p) [a] [] pos) (.int (s.length : Int)) := fun σ HB H he Q q =>
  ⟨_, pe_callB call_len hg hm PySem.boot_len (pa_cons pe_wp pa_nil hs) (he := hs) (hpl := hp), ha σ HB H he _ fun v HB1 H1 x1 r1 => by
    rw [r1.ofStr]
    exact ⟨_, s.length, rfl, ⟨by rw [wd_len]; exact Nat.le_trans hz (by decide), (wd_len s).symm⟩, q _ HB1 H1 x1 (.int _)⟩⟩
theorem ev_abs (hm : X.mg "abs" = none) (ha : Ev X ρ a (.int i)) (hg : Gl X "abs" := by rfl) (hs : St1 X a := by rfl) (hp : NoStar X pos [] := by rfl) : Ev X ρ (.Call (.Name "abs" p) [a] [] pos) (.int (if i < 0 then -i else i)) := fun σ HB H he Q q =>
  ⟨_, pe_callB call_abs hg hm (by decide +kernel) (pa_cons pe_wp pa_nil hs) (he := hs) (hpl := hp), ha σ HB H he _ fun v HB1 H1 x1 r1 => ⟨i, by rw [r1.ofInt], q _ HB1 H1 x1 (.int _)⟩⟩
theorem ev_intI (hm : X.mg "int" = none) (ha : Ev X ρ a (.int i)) (hg : Gl X "int" := by rfl) (hs : St1 X a := by rfl) (hp : NoStar X pos [] := by rfl) : Ev X ρ (.Call (.Name "int" p) [a] [] pos) (.int i) := fun σ HB H he Q q =>
  ⟨_, pe_callTy call_int1 hg hm (by decide +kernel) (pa_cons pe_wp pa_nil hs) (he := hs) (hpl := hp), ha σ HB H he _ fun v HB1 H1 x1 r1 => .inl ⟨i, by rw [r1.ofInt], q _ HB1 H1 x1 (.int _)⟩⟩
theorem ev_intB {t : Bool} (hm : X.mg "int" = none) (ha : Ev X ρ a (.bl t)) (hg : Gl X "int" := by rfl) (hs : St1 X a := by rfl) (hp : NoStar X pos [] := by rfl) : Ev X ρ (.Call (.Name "int" p) [a] [] pos) (.int (if t then 1 else 0)) := fun σ HB H he Q q =>
  ⟨_, pe_callTy call_int1 hg hm (by decide +kernel) (pa_cons pe_wp pa_nil hs) (he := hs) (hpl := hp), ha σ HB H he _ fun v HB1 H1 x1 r1 => .inr ⟨t, by rw [r1.ofBl], q _ HB1 H1 x1 (.int _)⟩⟩
theorem ev_max2 (hc : X.calm = true) (hm : X.mg "max" = none) (ha : Ev X ρ a (.int i)) (hb : Ev X ρ b (.int j)) (hg : Gl X "max" := by rfl) (hs : St2 X a b := by rfl) (hs' : St1 X b := by rfl) (hp : NoStar X pos [b] := by rfl) : Ev X ρ (.Call (.Name "max" p) [a, b] [] pos) (.int (max i j)) := fun σ HB H he Q q =>
  ⟨_, pe_callB (call_max2 hc) hg hm (by decide +kernel) (pa_cons pe_wp (pa_cons pe_wp pa_nil hs') hs) (he := hs) (hpl := hp), two (R := fun v u H2 => _) he ha hb fun v u HB1 H1 x1 r1 r2 => ⟨i, j, by rw [r1.ofInt, r2.ofInt], by
    have e : (if j > i then j else i) = max i j := by omega
    rw [e]
    exact q _ HB1 H1 x1 (.int _)⟩⟩
theorem ev_min2 (hc : X.calm = true) (hm : X.mg "min" = none) (ha : Ev X ρ a (.int i)) (hb : Ev X ρ b (.int j)) (hg : Gl X "min" := by rfl) (hs : St2 X a b := by rfl) (hs' : St1 X b := by rfl) (hp : NoStar X pos [b] := by rfl) : Ev X ρ (.Call (.Name "min" p) [a, b] [] pos) (.int (min i j)) := fun σ HB H he Q q =>
  ⟨_, pe_callB (call_min2 hc) hg hm (by decide +kernel) (pa_cons pe_wp (pa_cons pe_wp pa_nil hs') hs) (he := hs) (hpl := hp), two (R := fun v u H2 => _) he ha hb fun v u HB1 H1 x1 r1 r2 => ⟨i, j, by rw [r1.ofInt, r2.ofInt], by
    have e : (if j < i then j else i) = min i j := by omega
    rw [e]
    exact q _ HB1 H1 x1 (.int _)⟩⟩
/-- the greatest, the least of a list of ints -/
def maxL : List Int → Int
  | [] => 0
  | x :: xs => xs.foldl max x
def minL : List Int → Int
  | [] => 0
  | x :: xs => xs.foldl min x
theorem foldl_max_mem : ∀ (xs : List Int) (x : Int), xs.foldl max x ∈ x :: xs
  | [], x => by simp
  | y :: xs, x => by
    rw [List.foldl_cons]
    rcases List.mem_cons.mp (foldl_max_mem xs (max x y)) with h | h
    · rw [h]
      rcases Int.le_total x y with q | q
      · rw [Int.max_eq_right q]
        simp
      · rw [Int.max_eq_left q]
        simp
    · exact List.mem_cons_of_mem _ (List.mem_cons_of_mem _ h)
theorem foldl_max_ge : ∀ (xs : List Int) (x : Int), ∀ y ∈ x :: xs, y ≤ xs.foldl max x
  | [], x, y, h => by
    simp at h
    subst h
    exact Int.le_refl _
  | z :: xs, x, y, h => by
    rw [List.foldl_cons]
    have ih := foldl_max_ge xs (max x z)
    rcases List.mem_cons.mp h with h | h
    · subst h
      exact Int.le_trans (Int.le_max_left _ _) (ih _ (List.mem_cons_self ..))
    · rcases List.mem_cons.mp h with h | h
      · subst h
        exact Int.le_trans (Int.le_max_right _ _) (ih _ (List.mem_cons_self ..))
      · exact ih y (List.mem_cons_of_mem _ h)
theorem foldl_min_mem : ∀ (xs : List Int) (x : Int), xs.foldl min x ∈ x :: xs
  | [], x => by simp
  | y :: xs, x => by
    rw [List.foldl_cons]
    rcases List.mem_cons.mp (foldl_min_mem xs (min x y)) with h | h
    · rw [h]
      rcases Int.le_total x y with q | q
      · rw [Int.min_eq_left q]
        simp
      · rw [Int.min_eq_right q]
        simp
    · exact List.mem_cons_of_mem _ (List.mem_cons_of_mem _ h)
theorem foldl_min_le : ∀ (xs : List Int) (x : Int), ∀ y ∈ x :: xs, xs.foldl min x ≤ y
  | [], x, y, h => by
    simp at h
    subst h
    exact Int.le_refl _
  | z :: xs, x, y, h => by
    rw [List.foldl_cons]
    have ih := foldl_min_le xs (min x z)
    rcases List.mem_cons.mp h with h | h
    · subst h
      exact Int.le_trans (ih _ (List.mem_cons_self ..)) (Int.min_le_left _ _)
    · rcases List.mem_cons.mp h with h | h
      · subst h
        exact Int.le_trans (ih _ (List.mem_cons_self ..)) (Int.min_le_right _ _)
      · exact ih y (List.mem_cons_of_mem _ h)
theorem maxL_mem {ns : List Int} (h : 0 < ns.length) : maxL ns ∈ ns := by
  cases ns with
  | nil => simp at h
  | cons x xs => exact foldl_max_mem xs x
theorem maxL_ge {ns : List Int} {y : Int} (h : y ∈ ns) : y ≤ maxL ns := by
  cases ns with
  | nil => simp at h
  | cons x xs => exact foldl_max_ge xs x y h
theorem minL_mem {ns : List Int} (h : 0 < ns.length) : minL ns ∈ ns := by
  cases ns with
  | nil => simp at h
  | cons x xs => exact foldl_min_mem xs x
theorem minL_le {ns : List Int} {y : Int} (h : y ∈ ns) : minL ns ≤ y := by
  cases ns with
  | nil => simp at h
  | cons x xs => exact foldl_min_le xs x y h
theorem ev_maxL {ns : List Int} (hc : X.calm = true) (hm : X.mg "max" = none) (ha : EvL X ρ a (ns.map D.int)) (hn : 0 < ns.length) (hg : Gl X "max" := by rfl) (hs : St1 X a := by rfl) (hp : NoStar X pos [] := by rfl) : Ev X ρ (.Call (.Name "max" p) [a] [] pos) (.int (maxL ns)) := fun σ HB H he Q q =>
  ⟨_, pe_callB (cr_max hc) hg hm (by decide +kernel) (pa_cons pe_wp pa_nil hs) (he := hs) (hpl := hp), ha σ HB H he _ fun r vs HB1 H1 x1 h1 r1 => ⟨r, ns, rfl, by rw [← r1.ints]; exact SqL.of h1, hn, fun m h2 h3 => by
    have e : m = maxL ns := Int.le_antisymm (maxL_ge h2) (h3 _ (maxL_mem hn))
    rw [e]
    exact q _ HB1 H1 x1 (.int _)⟩⟩
theorem ev_minL {ns : List Int} (hc : X.calm = true) (hm : X.mg "min" = none) (ha : EvL X ρ a (ns.map D.int)) (hn : 0 < ns.length) (hg : Gl X "min" := by rfl) (hs : St1 X a := by rfl) (hp : NoStar X pos [] := by rfl) : Ev X ρ (.Call (.Name "min" p) [a] [] pos) (.int (minL ns)) := fun σ HB H he Q q =>
  ⟨_, pe_callB (cr_min hc) hg hm (by decide +kernel) (pa_cons pe_wp pa_nil hs) (he := hs) (hpl := hp), ha σ HB H he _ fun r vs HB1 H1 x1 h1 r1 => ⟨r, ns, rfl, by rw [← r1.ints]; exact SqL.of h1, hn, fun m h2 h3 => by
    have e : m = minL ns := Int.le_antisymm (h3 _ (minL_mem hn)) (minL_le h2)
    rw [e]
    exact q _ HB1 H1 x1 (.int _)⟩⟩
theorem ev_sum {ns : List Int} (hc : X.calm = true) (hm : X.mg "sum" = none) (ha : EvL X ρ a (ns.map D.int)) (hg : Gl X "sum" := by rfl) (hs : St1 X a := by rfl) (hp : NoStar X pos [] := by rfl) : Ev X ρ (.Call (.Name "sum" p) [a] [] pos) (.int ns.sum) := fun σ HB H he Q q =>
  ⟨_, pe_callB (cr_sum hc) hg hm (by decide +kernel) (pa_cons pe_wp pa_nil hs) (he := hs) (hpl := hp), ha σ HB H he _ fun r vs HB1 H1 x1 h1 r1 => ⟨r, ns, rfl, by rw [← r1.ints]; exact SqL.of h1, q _ HB1 H1 x1 (.int _)⟩⟩
theorem ev_all {ns : List Bool} (hc : X.calm = true) (hm : X.mg "all" = none) (ha : EvL X ρ a (ns.map D.bl)) (hg : Gl X "all" := by rfl) (hs : St1 X a := by rfl) (hp : NoStar X pos [] := by rfl) : Ev X ρ (.Call (.Name "all" p) [a] [] pos) (.bl (ns.all id)) := fun σ HB H he Q q =>
  ⟨_, pe_callB (cr_all hc) hg hm (by decide +kernel) (pa_cons pe_wp pa_nil hs) (he := hs) (hpl := hp), ha σ HB H he _ fun r vs HB1 H1 x1 h1 r1 => ⟨r, ns, rfl, by rw [← r1.bools]; exact SqL.of h1, q _ HB1 H1 x1 (.bl _)⟩⟩
theorem evn_list (hm : X.mg "list" = none) (ha : EvL X ρ a ds) (hg : Gl X "list" := by rfl) (hs : St1 X a := by rfl) (hp : NoStar X pos [] := by rfl) : EvN X ρ (.Call (.Name "list" p) [a] [] pos) ds := fun σ HB H he Q q =>
  ⟨_, pe_callTy call_list_of hg hm (by decide +kernel) (pa_cons pe_wp pa_nil hs) (he := hs) (hpl := hp), ha σ HB H he _ fun r vs HB1 H1 x1 h1 r1 => ⟨r, vs, rfl, .inl (SqL.of h1), fun l hl => q l vs HB1 _ (x1.trans (Step.out x1.in_ hl)) (x1.h.free hl) (x1.in_.free hl) upd_same r1⟩⟩
theorem ev_tuple (hm : X.mg "tuple" = none) (ha : EvL X ρ a ds) (hg : Gl X "tuple" := by rfl) (hs : St1 X a := by rfl) (hp : NoStar X pos [] := by rfl) : Ev X ρ (.Call (.Name "tuple" p) [a] [] pos) (.tup ds) := fun σ HB H he Q q =>
  ⟨_, pe_callTy call_tuple_of hg hm (by decide +kernel) (pa_cons pe_wp pa_nil hs) (he := hs) (hpl := hp), ha σ HB H he _ fun r vs HB1 H1 x1 h1 r1 => ⟨r, vs, rfl, .inl ⟨SqL.of h1, fun l hl => q _ _ _ (x1.trans (Step.new x1.in_ hl)) (.tup (SqT.of upd_same) (r1.mono (Ex.new (x1.in_.free hl))))⟩⟩⟩
/-! sorted, of alike data -/
def leB (enc : α → D) : α → α → Bool := PySem.W.dataLe false fun b => toP (enc b)
theorem eachA {K : PySem.W.Frag} {H : Hp} {enc : α → D} : ∀ {xs : List α} {vs : List V} {us : List Value}, RpAll K H vs (xs.map enc) → Vals vs us → PySem.W.EachIs (fun u b => ∃ v, RelV v u ∧ Rp K H v (enc b)) us xs
  | [], _, _, h, r => by
    cases h
    cases r
    exact .nil
  | x :: xs, _, _, h, r => by
    rw [List.map_cons] at h
    cases h with
    | cons h1 h2 =>
      cases r with
      | cons r1 r2 => exact .cons ⟨_, r1, h1⟩ (eachA h2 r2)
theorem eachB {K : PySem.W.Frag} {H : Hp} {enc : α → D} {us : List Value} {xs : List α} (h : PySem.W.EachIs (fun u b => ∃ v, RelV v u ∧ Rp K H v (enc b)) us xs) : ∃ vs, RpAll K H vs (xs.map enc) ∧ Vals vs us := by
  induction h with
  | nil => exact ⟨[], .nil, .nil⟩
  | cons r _ ih =>
    obtain ⟨v, h1, h2⟩ := r
    obtain ⟨vs, h3, h4⟩ := ih
    exact ⟨v :: vs, .cons h2 h3, .cons h1 h4⟩
theorem cr_sortedD {enc : α → D} (hal : ∀ x y, PySem.W.alike (toP (enc x)) (toP (enc y)) = true) (hk : ∀ xs : List α, PySem.W.Sortable (xs.map fun b => toP (enc b))) (hd : ∀ x, (toP (enc x)).depth ≤ 8) (hu : X.A.units + 64 < cLine) :
    CallR X (.builtin "sorted") (fun vs H Q => ∃ (a : Addr) (ws : List V) (xs : List α) (HB : Hp), vs = [.ref a] ∧ H a = some (.lst ws) ∧ Ex HB H ∧ RpAll X.K HB ws (xs.map enc) ∧ ∀ p ys, H p = none → RpAll X.K HB ys ((xs.mergeSort (leB enc)).map enc) → Q (.ref p) (upd H p (.lst ys))) := by
  intro pins s σ H vs us Q I r h
  obtain ⟨a, ws, xs, HB, rfl, ha, hex, hr, q⟩ := h
  obtain ⟨its, rv, hl, hz⟩ := I.list (SqL.of ha)
  rw [Vals.ref1 r]
  have e1 := eachA hr rv
  have hlen : xs.length ≤ sizeLine := by
    have := hr.length
    rw [List.length_map] at this
    omega
  refine PySem.W.sorted_data (enc := fun b => toP (enc b)) hl.isList e1 (e1.mono fun u b ⟨v, h1, h2⟩ => Dp.reads I _ v u ((h2.mono hex).dp) h1) (PySem.W.AllAlike.of hal) (hk xs) hlen (fun b _ => by have := hd b; omega) fun out h1 h2 => ?_
  obtain ⟨ys, h3, h4⟩ := eachB h2
  obtain ⟨ep, he'⟩ := PyProof.Rows.sortedAll_at s.heap its out.toArray
  have hys : ys.length ≤ sizeLine := by
    rw [h3.length, List.length_map, List.length_mergeSort]
    exact hlen
  exact ⟨.ref _, upd H (s.heap.objs.size + 1) (.lst ys), I.laid (t' := s.toks) (fun _ _ => PyProof.Rows.sortedAll_old) (Nat.le_succ _) ⟨hys, out, ep, h4, he'⟩, rfl, q _ ys (I.hok.fresh (Nat.le_succ _)) h3⟩
theorem evn_sorted {enc : α → D} {xs : List α} (hal : ∀ x y, PySem.W.alike (toP (enc x)) (toP (enc y)) = true) (hk : ∀ xs : List α, PySem.W.Sortable (xs.map fun b => toP (enc b))) (hd : ∀ x, (toP (enc x)).depth ≤ 8) (hu : X.A.units + 64 < cLine)
    (hm : X.mg "sorted" = none) (ha : EvL X ρ a (xs.map enc)) (hg : Gl X "sorted" := by rfl) (hs : St1 X a := by rfl) (hp : NoStar X pos [] := by rfl) : EvN X ρ (.Call (.Name "sorted" p) [a] [] pos) ((xs.mergeSort (leB enc)).map enc) := fun σ HB H he Q q =>
  ⟨_, pe_callB (cr_sortedD hal hk hd hu) hg hm (by decide +kernel) (pa_cons pe_wp pa_nil hs) (he := hs) (hpl := hp), ha σ HB H he _ fun r vs HB1 H1 x1 h1 r1 => ⟨r, vs, xs, HB1, rfl, h1, x1.in_, r1, fun l ys hl r2 => q l ys HB1 _ (x1.trans (Step.out x1.in_ hl)) (x1.h.free hl) (x1.in_.free hl) upd_same r2⟩⟩
/-- of ints -/
def leI (x y : Int) : Bool := decide (x ≤ y)
theorem leB_int : leB D.int = leI := PySem.W.dataLe_int fun b => b
theorem evn_sortedI {ns : List Int} (hu : X.A.units + 64 < cLine) (hm : X.mg "sorted" = none) (ha : EvL X ρ a (ns.map D.int)) (hg : Gl X "sorted" := by rfl) (hs : St1 X a := by rfl) (hp : NoStar X pos [] := by rfl) : EvN X ρ (.Call (.Name "sorted" p) [a] [] pos) ((ns.mergeSort leI).map D.int) := by
  have := evn_sorted (enc := D.int) (p := p) (pos := pos) (fun x y => by simp [toP, PySem.W.alike]) (fun xs => PySem.W.Sortable.others fun b => ⟨(by simp [toP]), (by simp [toP])⟩) (fun x => Nat.zero_le _) hu hm ha hg hs hp
  rw [leB_int] at this
  exact this
/-- of pairs, of triples of ints -/
def e2 (p : Int × Int) : D := .tup [.int p.1, .int p.2]
def e3 (p : Int × Int × Int) : D := .tup [.int p.1, .int p.2.1, .int p.2.2]
def le2 (p q : Int × Int) : Bool := decide (p.1 < q.1 ∨ (p.1 = q.1 ∧ p.2 ≤ q.2))
def le3 (p q : Int × Int × Int) : Bool := decide (p.1 < q.1 ∨ (p.1 = q.1 ∧ (p.2.1 < q.2.1 ∨ (p.2.1 = q.2.1 ∧ p.2.2 ≤ q.2.2))))
theorem leB_2 : leB e2 = le2 := PySem.W.dataLe_ii (fun b : Int × Int => b.1) (fun b => b.2)
theorem dataLt_iii (x y z x' y' z' : Int) : PySem.W.dataLt (.tuple [.int x, .int y, .int z]) (.tuple [.int x', .int y', .int z']) = decide (x < x' ∨ (x = x' ∧ (y < y' ∨ (y = y' ∧ z < z')))) := by
  have h2 := PySem.W.dataLt_ii y z y' z'
  rw [PySem.W.dataLt_tuple] at h2 ⊢
  rw [PySem.W.dataLt_cons (by simp [PySem.W.alike]), h2, PySem.W.dataLt_int]
  simp only [PyData.eqv, beq_iff_eq]
  by_cases h1 : x = x' <;> simp [h1]
theorem leB_3 : leB e3 = le3 := by
  funext p q
  show (!PySem.W.dataLt (.tuple [.int q.1, .int q.2.1, .int q.2.2]) (.tuple [.int p.1, .int p.2.1, .int p.2.2])) = le3 p q
  rw [dataLt_iii]
  unfold le3
  by_cases h : q.1 < p.1 ∨ (q.1 = p.1 ∧ (q.2.1 < p.2.1 ∨ (q.2.1 = p.2.1 ∧ q.2.2 < p.2.2)))
  · have h' : ¬ (p.1 < q.1 ∨ (p.1 = q.1 ∧ (p.2.1 < q.2.1 ∨ (p.2.1 = q.2.1 ∧ p.2.2 ≤ q.2.2)))) := by omega
    simp only [h, h', decide_true, decide_false, Bool.not_true]
  · have h' : p.1 < q.1 ∨ (p.1 = q.1 ∧ (p.2.1 < q.2.1 ∨ (p.2.1 = q.2.1 ∧ p.2.2 ≤ q.2.2))) := by omega
    simp only [h, h', decide_true, decide_false, Bool.not_false]
theorem evn_sorted2 {ns : List (Int × Int)} (hu : X.A.units + 64 < cLine) (hm : X.mg "sorted" = none) (ha : EvL X ρ a (ns.map e2)) (hg : Gl X "sorted" := by rfl) (hs : St1 X a := by rfl) (hp : NoStar X pos [] := by rfl) : EvN X ρ (.Call (.Name "sorted" p) [a] [] pos) ((ns.mergeSort le2).map e2) := by
  have := evn_sorted (enc := e2) (p := p) (pos := pos) (fun x y => by simp [e2, toP, toPs, PySem.W.alike, PySem.W.alikeAll]) (fun xs => PySem.W.Sortable.tuples fun b => ⟨_, _, rfl⟩) (fun x => (by show 1 ≤ 8; decide)) hu hm ha hg hs hp
  rw [leB_2] at this
  exact this
theorem evn_sorted3 {ns : List (Int × Int × Int)} (hu : X.A.units + 64 < cLine) (hm : X.mg "sorted" = none) (ha : EvL X ρ a (ns.map e3)) (hg : Gl X "sorted" := by rfl) (hs : St1 X a := by rfl) (hp : NoStar X pos [] := by rfl) : EvN X ρ (.Call (.Name "sorted" p) [a] [] pos) ((ns.mergeSort le3).map e3) := by
  have := evn_sorted (enc := e3) (p := p) (pos := pos) (fun x y => by simp [e3, toP, toPs, PySem.W.alike, PySem.W.alikeAll]) (fun xs => PySem.W.Sortable.tuples fun b => ⟨_, _, rfl⟩) (fun x => (by show 1 ≤ 8; decide)) hu hm ha hg hs hp
  rw [leB_3] at this
  exact this
/-! methods -/
theorem ev_count {s : List Nat} {k : Nat} (ha : Ev X ρ a (.str (wd s))) (hb : Ev X ρ b (.str (wd [k]))) (hs : St1 X b := by rfl) (hbase : attributeBase a "count" X.env (eval a X.env) = eval a X.env := by rfl) (hline : (apos.endLine == pos.line) = true := by rfl) :
    Ev X ρ (.Call (.Attribute a "count" apos) [b] [] pos) (.int (s.count k : Int)) := fun σ HB H he Q q =>
  ⟨_, pe_m1 F.slot_str_count F.type_str_count mt_count pe_wp pe_wp hs hbase hline, ha σ HB H he _ fun v HB1 H1 x1 r1 => ⟨⟨_, r1.ofStr⟩, hb σ HB1 H1 (he.step x1) _ fun u HB2 H2 x2 r2 => ⟨wd s, wd [k], r1.ofStr, by rw [r2.ofStr], by
    rw [wd_count]
    exact q _ HB2 H2 (x1.trans x2) (.int _)⟩⟩⟩
theorem join_wd : ∀ (css : List (List Nat)), Txt.join (wd []) (css.map wd) = wd css.flatten
  | [] => rfl
  | [x] => by
    show Txt.join (wd []) [wd x] = _
    unfold Txt.join
    rw [StrLaws.glued_eq_join]
    show wd x = _
    simp
  | x :: y :: r => by
    have ih := join_wd (y :: r)
    unfold Txt.join at ih ⊢
    rw [StrLaws.glued_eq_join] at ih ⊢
    have e : Str.join (wd []) ((x :: y :: r).map wd) = wd x ++ wd [] ++ Str.join (wd []) ((y :: r).map wd) := rfl
    rw [e, ih, wd_app, wd_app]
    simp
theorem sum_wd (css : List (List Nat)) : ((css.map wd).map (·.length)).sum = css.flatten.length := by
  induction css with
  | nil => rfl
  | cons c css ih => simp only [List.map_cons, List.sum_cons, ih, wd_len, List.flatten_cons, List.length_append]
theorem ev_join {css : List (List Nat)} (ha : Ev X ρ a (.str (wd []))) (hb : EvL X ρ b ((css.map wd).map D.str)) (hz : css.flatten.length ≤ 100000) (hs : St1 X b := by rfl) (hbase : attributeBase a "join" X.env (eval a X.env) = eval a X.env := by rfl) (hline : (apos.endLine == pos.line) = true := by rfl) :
    Ev X ρ (.Call (.Attribute a "join" apos) [b] [] pos) (.str (wd css.flatten)) := fun σ HB H he Q q =>
  ⟨_, pe_join pe_wp pe_wp hs hbase hline, ha σ HB H he _ fun v HB1 H1 x1 r1 => ⟨⟨_, r1.ofStr⟩, hb σ HB1 H1 (he.step x1) _ fun p vs HB2 H2 x2 h2 r2 => ⟨_, p, css.map wd, r1.ofStr, rfl, .inl (by rw [← r2.strs]; exact SqL.of h2), by
    rw [sum_wd, wd_len]
    show _ + _ * 0 ≤ _
    omega, by
    rw [join_wd]
    exact q _ HB2 H2 (x1.trans x2) (.str _)⟩⟩⟩
end
end Y
end S_Lay3

section S_Lay4
set_option maxHeartbeats 2000000
namespace Y
open PySem PySem.Spec PyProof.Rows L2
/-! ### what is walked -/
/-- J walks ds, whatever becomes of the heap as long as the known part HB stands -/
def Wlk (K : PySem.W.Frag) (J : It) (HB : Hp) (ds : List D) : Prop := ∀ (i : Nat) (HB' H' : Hp), Ex HB HB' → Ex HB' H' →
  (∀ d, ds[i]? = some d → J.go i H' ∧ ∀ v H'', J.yld i H' v H'' → ∃ HB'', Step HB' H' HB'' H'' ∧ Rp K HB'' v d) ∧ (ds.length ≤ i → J.stop i H')
def wpI (X : Cx) (tg iter : Expr) : TI := fun σ H R => ∃ t, PI X tg iter t ∧ t σ H R
theorem pi_wp {X : Cx} {tg iter : Expr} : PI X tg iter (wpI X tg iter) := ⟨fun pins s σ H R I ⟨t, h, q⟩ => h.run pins s σ H R I q⟩
def EvI (X : Cx) (ρ : Rho) (tg iter : Expr) (ds : List D) : Prop := ∀ (σ : L2.St) (HB H : Hp), EnvOk X.K HB H σ ρ → ∀ R : It → Hp → Prop, (∀ J HB2 H2, Step HB H HB2 H2 → Wlk X.K J HB2 ds → R J H2) → wpI X tg iter σ H R
section
variable {X : Cx} {ρ : Rho} {e a b c tg : Expr} {es : List Expr} {d d1 d2 : D} {ds ds1 ds2 : List D} {pos p apos : Pos} {i j : Int} {x : Str} {α : Type}
theorem wlk_list {K : PySem.W.Frag} {HB : Hp} {a : Addr} {vs : List V} (h : HB a = some (.lst vs)) (r : RpAll K HB vs ds) : Wlk K (Itl K a) HB ds := fun i HB' H' e1 e2 => by
  have hs : SqL K H' a vs := SqL.of (e2 _ _ (e1 _ _ h))
  refine ⟨fun d hd => ?_, fun hi => ⟨vs, hs, by rw [r.length]; exact hi⟩⟩
  obtain ⟨v, h1, h2⟩ := r.get hd
  refine ⟨⟨vs, v, hs, h1⟩, fun w H'' y => ?_⟩
  obtain ⟨rfl, y⟩ := y
  have e : v = w := Option.some.inj (h1.symm.trans (y vs hs))
  subst e
  exact ⟨HB', Step.refl e2, h2.mono e1⟩
theorem ei_list (h : Ev X ρ e (.lst ds)) : EvI X ρ tg e ds := fun σ HB H he R q => ⟨_, pi_list pe_wp, h σ HB H he _ fun v HB2 H2 x r => by
  cases r with
  | @lst a vs _ h1 h2 => exact ⟨a, rfl, ⟨vs, SqL.of (x.in_ _ _ h1)⟩, q _ HB2 H2 x (wlk_list h1 h2)⟩⟩
theorem ei_tup (h : Ev X ρ e (.tup ds)) : EvI X ρ tg e ds := fun σ HB H he R q => ⟨_, pi_tup pe_wp, h σ HB H he _ fun v HB2 H2 x r => by
  cases r with
  | @tup a vs _ h1 r => exact ⟨a, rfl, ⟨vs, x.in_.sqT h1⟩, q _ HB2 H2 x fun i HB' H' e1 e2 => by
    have hs : SqT X.K H' a vs := e2.sqT (e1.sqT h1)
    refine ⟨fun d hd => ?_, fun hi => ⟨vs, hs, by rw [r.length]; exact hi⟩⟩
    obtain ⟨v, h1, h2⟩ := r.get hd
    refine ⟨⟨vs, v, hs, h1⟩, fun w H'' y => ?_⟩
    obtain ⟨rfl, y⟩ := y
    have e : v = w := Option.some.inj (h1.symm.trans (y vs hs))
    subst e
    exact ⟨HB', Step.refl e2, h2.mono e1⟩⟩⟩
abbrev dN (n : Nat) : D := .int (n : Int)
theorem wlk_rng {K : PySem.W.Frag} {HB : Hp} (lo : Int) (n : Nat) : Wlk K (Itr lo n) HB ((List.range n).map fun k : Nat => D.int (lo + (k : Int))) := fun i HB' H' e1 e2 => by
  refine ⟨fun d hd => ?_, fun hi => by rw [List.length_map, List.length_range] at hi; exact hi⟩
  rw [List.getElem?_map] at hd
  by_cases hlt : i < n
  · rw [List.getElem?_range hlt] at hd
    have e : D.int (lo + (i : Int)) = d := Option.some.inj hd
    subst e
    refine ⟨hlt, fun w H'' y => ?_⟩
    obtain ⟨rfl, rfl⟩ := y
    exact ⟨HB', Step.refl e2, .int _⟩
  · rw [List.getElem?_eq_none (by rw [List.length_range]; omega)] at hd
    cases hd
theorem ei_rng1 (hm : X.mg "range" = none) (h : Ev X ρ a (.int i)) (h0 : 0 ≤ i) (h1 : i ≤ 100000) (hg : Gl X "range" := by rfl) (hs : starEach [a] X.env = [(false, eval a X.env)] := by rfl) (hs' : St1 X a := by rfl) : EvI X ρ tg (.Call (.Name "range" p) [a] [] pos) ((List.range i.toNat).map dN) := fun σ HB H he R q =>
  ⟨_, pi_range1 hg hm (pa_cons pe_wp pa_nil hs') hs, h σ HB H he _ fun v HB2 H2 x r => ⟨i, by rw [r.ofInt], by omega, by omega, by
    have := wlk_rng (K := X.K) (HB := HB2) 0 i.toNat
    simp only [Int.zero_add] at this
    exact q _ HB2 H2 x this⟩⟩
theorem ei_rng2 (hm : X.mg "range" = none) (h : Ev X ρ a (.int i)) (h' : Ev X ρ b (.int j)) (h0 : 0 ≤ i) (h1 : i ≤ 100000) (h2 : -100000 ≤ j) (h3 : j ≤ 100000) (hg : Gl X "range" := by rfl) (hs : starEach [a, b] X.env = [(false, eval a X.env), (false, eval b X.env)] := by rfl)
    (hs2 : starEach [b] X.env = [(false, eval b X.env)] := by rfl) (hs' : St2 X a b := by rfl) (hs'' : St1 X b := by rfl) : EvI X ρ tg (.Call (.Name "range" p) [a, b] [] pos) ((List.range (j - i).toNat).map fun k : Nat => D.int (i + (k : Int))) := fun σ HB H he R q =>
  ⟨_, pi_range2 hg hm (pa_cons pe_wp (pa_cons pe_wp pa_nil hs'') hs') hs hs2, two (R := fun v u H2 => _) he h h' fun v u HB2 H2 x r1 r2 => ⟨i, j, by rw [r1.ofInt, r2.ofInt], by omega, q _ HB2 H2 x (wlk_rng i _)⟩⟩
/-- a text, sign by sign -/
theorem ei_str {s : List Nat} (h : Ev X ρ e (.str (wd s))) : EvI X ρ tg e (s.map fun c => D.str (wd [c])) := fun σ HB H he R q => ⟨_, pi_str pe_wp, h σ HB H he _ fun v HB2 H2 x r => ⟨wd s, r.ofStr, q _ HB2 H2 x fun i HB' H' e1 e2 => by
  have hc : ∀ k : Nat, (wd s).cps[k]? = s[k]? := fun k => by
    show s.toArray[k]? = _
    simp
  refine ⟨fun d hd => ?_, fun hi => ?_⟩
  · rw [List.getElem?_map] at hd
    cases hk : s[i]? with
    | none =>
      rw [hk] at hd
      cases hd
    | some k =>
      rw [hk] at hd
      have e : D.str (wd [k]) = d := Option.some.inj hd
      subst e
      refine ⟨?_, fun w H'' y => ?_⟩
      · have := (List.getElem?_eq_some_iff.mp hk).1
        show i < (wd s).cps.size
        show i < s.toArray.size
        simpa using this
      · obtain ⟨rfl, c, h1, rfl⟩ := y
        rw [hc, hk] at h1
        cases h1
        exact ⟨HB', Step.refl e2, .str _⟩
  · rw [List.length_map] at hi
    show (wd s).cps.size ≤ i
    show s.toArray.size ≤ i
    simpa using hi⟩⟩
/-- enumerate(list), to a target of several names -/
theorem ei_enum {elts : List Expr} {kk : Nat} {tpos : Pos} (hm : X.mg "enumerate" = none) (h : Ev X ρ e (.lst ds)) (hg : Gl X "enumerate" := by rfl) (hs : starEach [e] X.env = [(false, eval e X.env)] := by rfl) (hs' : St1 X e := by rfl) :
    EvI X ρ (.Tuple elts kk tpos) (.Call (.Name "enumerate" p) [e] [] pos) (ds.zipIdx.map fun q => .tup [.int (q.2 : Nat), q.1]) := fun σ HB H he R q =>
  ⟨_, pi_enum hg hm (pa_cons pe_wp pa_nil hs') hs, h σ HB H he _ fun v HB2 H2 x r => by
    cases r with
    | @lst a vs _ h1 r =>
      refine ⟨a, vs, rfl, SqL.of (x.in_ _ _ h1), q _ HB2 H2 x fun i HB' H' e1 e2 => ?_⟩
      have hs : SqL X.K H' a vs := SqL.of (e2 _ _ (e1 _ _ h1))
      refine ⟨fun d hd => ?_, fun hi => ⟨vs, hs, by rw [List.length_map, List.length_zipIdx] at hi; rw [r.length]; exact hi⟩⟩
      rw [List.getElem?_map, List.getElem?_zipIdx] at hd
      cases hk : ds[i]? with
      | none =>
        rw [hk] at hd
        cases hd
      | some d0 =>
        rw [hk] at hd
        have e : D.tup [.int ((0 + i : Nat) : Int), d0] = d := Option.some.inj hd
        subst e
        obtain ⟨w, h3, h4⟩ := r.get hk
        refine ⟨⟨vs, w, hs, h3⟩, fun u H'' y => ?_⟩
        obtain ⟨T, x', rfl, hT, rfl, hx⟩ := y
        have ex : w = x' := Option.some.inj (h3.symm.trans (hx vs hs))
        subst ex
        rw [Nat.zero_add]
        exact ⟨_, Step.new e2 hT, .tup (SqT.of upd_same) (.cons (.int _) (.cons ((h4.mono e1).mono (Ex.new (e2.free hT))) .nil))⟩⟩

/-! ### comprehensions -/
def wipeR (ρ : Rho) : List Nat → Rho
  | [] => ρ
  | v :: vs => (wipeR ρ vs).set v .any
theorem EnvOk.setAny {K : PySem.W.Frag} {HB H : Hp} {σ : L2.St} (e : EnvOk K HB H σ ρ) (k : Nat) (o : Option V) : EnvOk K HB H (σ.set k o) (ρ.set k .any) := by
  refine ⟨e.ex, by rw [List.length_set, List.length_set]; exact e.len, fun i o' s h1 h2 => ?_, fun i j p ds es h1 h2 h3 h4 => ?_⟩
  · by_cases hi : k = i
    · subst hi
      rw [List.getElem?_set] at h2
      simp only [if_true] at h2
      split at h2
      · cases h2
        trivial
      · cases h2
    · rw [List.getElem?_set_ne hi] at h1 h2
      exact e.ok i o' s h1 h2
  · have k1 : k ≠ i := fun z => by
      subst z
      rw [List.getElem?_set] at h1
      simp only [if_true] at h1
      split at h1 <;> cases h1
    have k2 : k ≠ j := fun z => by
      subst z
      rw [List.getElem?_set] at h2
      simp only [if_true] at h2
      split at h2 <;> cases h2
    rw [List.getElem?_set_ne k1] at h1 h3
    rw [List.getElem?_set_ne k2] at h2 h4
    exact e.sep i j p ds es h1 h2 h3 h4
theorem EnvOk.setVal {K : PySem.W.Frag} {HB H : Hp} {σ : L2.St} (e : EnvOk K HB H σ ρ) (k : Nat) {v : V} {d : D} (r : Rp K HB v d) : EnvOk K HB H (σ.set k (some v)) (ρ.set k (.val d)) := by
  refine ⟨e.ex, by rw [List.length_set, List.length_set]; exact e.len, fun i o' s h1 h2 => ?_, fun i j p ds es h1 h2 h3 h4 => ?_⟩
  · by_cases hi : k = i
    · subst hi
      rw [List.getElem?_set] at h1 h2
      simp only [if_true] at h1 h2
      split at h2
      · cases h2
        split at h1
        · cases h1
          exact ⟨v, rfl, r⟩
        · cases h1
      · cases h2
    · rw [List.getElem?_set_ne hi] at h1 h2
      exact e.ok i o' s h1 h2
  · have k1 : k ≠ i := fun z => by
      subst z
      rw [List.getElem?_set] at h1
      simp only [if_true] at h1
      split at h1 <;> cases h1
    have k2 : k ≠ j := fun z => by
      subst z
      rw [List.getElem?_set] at h2
      simp only [if_true] at h2
      split at h2 <;> cases h2
    rw [List.getElem?_set_ne k1] at h1 h3
    rw [List.getElem?_set_ne k2] at h2 h4
    exact e.sep i j p ds es h1 h2 h3 h4
theorem EnvOk.setRaw {K : PySem.W.Frag} {HB H : Hp} {σ : L2.St} (e : EnvOk K HB H σ ρ) (k : Nat) (v : V) : EnvOk K HB H (σ.set k (some v)) (ρ.set k (.raw v)) := by
  refine ⟨e.ex, by rw [List.length_set, List.length_set]; exact e.len, fun i o' s h1 h2 => ?_, fun i j p ds es h1 h2 h3 h4 => ?_⟩
  · by_cases hi : k = i
    · subst hi
      rw [List.getElem?_set] at h1 h2
      simp only [if_true] at h1 h2
      split at h2
      · cases h2
        split at h1
        · cases h1
          exact rfl
        · cases h1
      · cases h2
    · rw [List.getElem?_set_ne hi] at h1 h2
      exact e.ok i o' s h1 h2
  · have k1 : k ≠ i := fun z => by
      subst z
      rw [List.getElem?_set] at h1
      simp only [if_true] at h1
      split at h1 <;> cases h1
    have k2 : k ≠ j := fun z => by
      subst z
      rw [List.getElem?_set] at h2
      simp only [if_true] at h2
      split at h2 <;> cases h2
    rw [List.getElem?_set_ne k1] at h1 h3
    rw [List.getElem?_set_ne k2] at h2 h4
    exact e.sep i j p ds es h1 h2 h3 h4
theorem EnvOk.setOwn {K : PySem.W.Frag} {HB H : Hp} {σ : L2.St} (e : EnvOk K HB H σ ρ) (k : Nat) {l : Addr} {vs : List V} {ds : List D} (h0 : HB l = none) (h1 : H l = some (.lst vs)) (r : RpAll K HB vs ds)
    (hf : ∀ (i : Nat) (ds : List D) (p : Addr), i ≠ k → ρ[i]? = some (Slot.own ds) → σ[i]? = some (some (V.ref p)) → p ≠ l) : EnvOk K HB H (σ.set k (some (.ref l))) (ρ.set k (.own ds)) := by
  refine ⟨e.ex, by rw [List.length_set, List.length_set]; exact e.len, fun i o' s h1' h2 => ?_, fun i j p ds' es h1' h2 h3 h4 => ?_⟩
  · by_cases hi : k = i
    · subst hi
      rw [List.getElem?_set] at h1' h2
      simp only [if_true] at h1' h2
      split at h2
      · cases h2
        split at h1'
        · cases h1'
          exact ⟨l, vs, rfl, h0, h1, r⟩
        · cases h1'
      · cases h2
    · rw [List.getElem?_set_ne hi] at h1' h2
      exact e.ok i o' s h1' h2
  · by_cases hi : k = i
    · subst hi
      rw [List.getElem?_set] at h3
      simp only [if_true] at h3
      have hp : p = l := by
        split at h3
        · cases h3
          rfl
        · cases h3
      by_cases hj : k = j
      · exact hj
      · rw [List.getElem?_set_ne hj] at h2 h4
        exact absurd hp (hf j es p (fun z => hj z.symm) h2 h4)
    · by_cases hj : k = j
      · subst hj
        rw [List.getElem?_set] at h4
        simp only [if_true] at h4
        have hp : p = l := by
          split at h4
          · cases h4
            rfl
          · cases h4
        rw [List.getElem?_set_ne hi] at h1' h3
        exact absurd hp (hf i ds' p (fun z => hi z.symm) h1' h3)
      · rw [List.getElem?_set_ne hi] at h1' h3
        rw [List.getElem?_set_ne hj] at h2 h4
        exact e.sep i j p ds' es h1' h2 h3 h4
/-- an object that no slot owns may change as long as it isn't known -/
theorem EnvOk.out {K : PySem.W.Frag} {HB H : Hp} {σ : L2.St} (e : EnvOk K HB H σ ρ) {l : Addr} {o : HO} (h0 : HB l = none) (hf : ∀ (i : Nat) (ds : List D) (p : Addr), ρ[i]? = some (Slot.own ds) → σ[i]? = some (some (V.ref p)) → p ≠ l) : EnvOk K HB (upd H l o) σ ρ := by
  refine ⟨fun a u h => by rw [upd_ne (ne_of_none h h0)]; exact e.ex a u h, e.len, fun i o' s h1 h2 => ?_, e.sep⟩
  have h3 := e.ok i o' s h1 h2
  cases s with
  | any => trivial
  | raw v => exact h3
  | cond v a u => exact h3
  | val d => exact h3
  | own ds =>
    obtain ⟨p, vs, rfl, q1, q2, q3⟩ := h3
    exact ⟨p, vs, rfl, q1, by rw [upd_ne (hf i ds p h2 h1)]; exact q2, q3⟩
theorem EnvOk.wipe {K : PySem.W.Frag} {HB H : Hp} {σ : L2.St} (e : EnvOk K HB H σ ρ) : ∀ vs : List Nat, EnvOk K HB H (L2.wipe σ vs) (wipeR ρ vs)
  | [] => e
  | v :: vs => (e.wipe vs).setAny v none
def EvTs (X : Cx) (ρ : Rho) (ifs : List Expr) (b : Bool) : Prop := ∀ (σ : L2.St) (HB H : Hp), EnvOk X.K HB H σ ρ → ∀ Q : Bool → Hp → Prop, (∀ HB2 H2, Step HB H HB2 H2 → Q b H2) → ∃ t, PTs X ifs t ∧ t σ H Q
theorem ets_nil : EvTs X ρ [] true := fun σ HB H he Q q => ⟨_, pts_nil, q HB H (Step.refl he.ex)⟩
theorem ets_one {k : Bool} (h : EvT X ρ e k) : EvTs X ρ [e] k := fun σ HB H he Q q => ⟨_, pts_one pt_wp, h σ HB H he Q q⟩
/-- the block's context -/
abbrev Bk (X : Cx) (scope : Scope) (s : Shared) (H : Hp) (C : Addr) (cl : List (Str × Addr)) (fp : List Addr) : Cx := X.blk s H scope (compEnvC scope cl C X.env) fp
theorem wipe_set {σ : L2.St} {k : Nat} {o : Option V} : L2.wipe (L2.wipe σ [k] |>.set k o) [k] = L2.wipe σ [k] := by
  show ((σ.set k none).set k o).set k none = σ.set k none
  rw [List.set_set, List.set_set]
theorem take_succ_of {α : Type} {xs : List α} {i : Nat} {x : α} (h : xs[i]? = some x) : xs.take (i + 1) = xs.take i ++ [x] := by
  rw [List.take_add_one, h]
  rfl
theorem tLc_go {wi : TI} {σ : L2.St} {HB0 H0 : Hp} {enc : α → D} (xs : List α) (c : α → Bool) (f : α → D) {k : Nat} {tt : TT} {te : TE} {J : It} (Q : VK) (he : EnvOk X.K HB0 H0 σ ρ) (hx : xs.length ≤ 100000) (w : Wlk X.K J HB0 (xs.map enc))
    (ht : ∀ x ∈ xs, ∀ HB H σ', EnvOk X.K HB H σ' ((wipeR ρ [k]).set k (.val (enc x))) → ∀ Q : Bool → Hp → Prop, (∀ HB2 H2, Step HB H HB2 H2 → Q (c x) H2) → tt σ' H Q)
    (hf : ∀ x ∈ xs, c x = true → ∀ HB H σ', EnvOk X.K HB H σ' ((wipeR ρ [k]).set k (.val (enc x))) → ∀ Q : VK, (∀ v HB2 H2, Step HB H HB2 H2 → Rp X.K HB2 v (f x) → Q v H2) → te σ' H Q)
    (q : ∀ (L : Addr) (vs : List V) (HB2 H2 : Hp), Step HB0 H0 HB2 H2 → H0 L = none → HB2 L = none → H2 L = some (.lst vs) → RpAll X.K HB2 vs ((xs.filter c).map f) → Q (.ref L) H2) :
    ∀ L : Addr, H0 L = none → ∃ W : Nat → Nat → Hp → Prop, (∃ m, W 0 m (upd H0 L (.lst []))) ∧ ∀ i m H, W i m H →
      (J.stop i H ∧ Q (.ref L) H) ∨ (J.go i H ∧ ∃ Nx : Hp → Prop, (∀ H', Nx H' → ∃ m', m' < m ∧ W (i + 1) m' H') ∧ ∀ x H', J.yld i H x H' → gName k x (L2.wipe σ [k]) H' fun σ2 H2 => L2.wipe σ2 [k] = L2.wipe σ [k] ∧ tt σ2 H2 fun b H3 =>
        if b = true then te σ2 H3 fun y H4 => ∃ acc, H4 L = some (.lst acc) ∧ acc.length < sizeLine ∧ Nx (upd H4 L (.lst (acc ++ [y]))) else Nx H3) := by
  intro L hL
  have hB0 : HB0 L = none := he.ex.free hL
  have hown : ∀ (i : Nat) (ds : List D) (p : Addr), ρ[i]? = some (Slot.own ds) → σ[i]? = some (some (V.ref p)) → p ≠ L := fun i ds p h1 h2 z => by
    obtain ⟨p', vs, q1, q2, q3, q4⟩ := he.own h1
    rw [h2] at q1
    cases q1
    rw [z, hL] at q3
    cases q3
  -- the state behind i turns
  let P : Nat → Hp → Prop := fun i H => ∃ HB vs, Step HB0 H0 HB H ∧ HB L = none ∧ H L = some (.lst vs) ∧ RpAll X.K HB vs (((xs.take i).filter c).map f)
  refine ⟨fun i m H => m = xs.length - i ∧ i ≤ xs.length ∧ P i H, ⟨xs.length, by simp, Nat.zero_le _, HB0, [], Step.out he.ex hL, hB0, upd_same, .nil⟩, ?_⟩
  rintro i m H ⟨rfl, hi, HB, vs, x, h1, h2, h3⟩
  have wi' := w i HB H x.b x.in_
  by_cases hlt : i < xs.length
  · obtain ⟨y, hy⟩ : ∃ y, xs[i]? = some y := ⟨xs[i], List.getElem?_eq_getElem hlt⟩
    have hym : y ∈ xs := List.mem_of_getElem? hy
    obtain ⟨go, yl⟩ := wi'.1 (enc y) (by rw [List.getElem?_map, hy]; rfl)
    refine .inr ⟨go, P (i + 1), fun H' p' => ⟨xs.length - (i + 1), by omega, rfl, hlt, p'⟩, fun v H' hv => ?_⟩
    obtain ⟨HB', x', rv⟩ := yl v H' hv
    refine ⟨wipe_set, ?_⟩
    have hL' : HB' L = none := by
      cases z : HB' L with
      | none => rfl
      | some o =>
        have := x'.fr L h1 (by rw [z]; exact fun z => nomatch z)
        rw [h2] at this
        cases this
    have e0 : EnvOk X.K HB' H' σ ρ := he.step (x.trans x')
    have e1 : EnvOk X.K HB' H' ((L2.wipe σ [k]).set k (some v)) ((wipeR ρ [k]).set k (.val (enc y))) := (e0.wipe [k]).setVal k rv
    refine ht y hym HB' H' _ e1 _ fun HB2 H2 x2 => ?_
    have e2 := e1.step x2
    have xx := (x.trans x').trans x2
    have keepD : ∀ {A B C E : Hp}, Step A B C E → A L = none → B L = some (.lst vs) → C L = none ∧ E L = some (.lst vs) := fun {A B C E} st a b => by
      refine ⟨?_, st.h _ _ b⟩
      cases z : C L with
      | none => rfl
      | some o =>
        have := st.fr L a (by rw [z]; exact fun z => nomatch z)
        rw [b] at this
        cases this
    obtain ⟨a2, b2⟩ := keepD x2 hL' (x'.h _ _ h2)
    have ts := take_succ_of hy
    cases hcy : c y with
    | false =>
      refine iteF ⟨HB2, vs, xx, a2, b2, ?_⟩
      rw [ts, List.filter_append, List.map_append, List.filter_cons, if_neg (by rw [hcy]; exact Bool.false_ne_true)]
      simpa using (h3.mono x'.b).mono x2.b
    | true =>
      refine iteT (hf y hym hcy HB2 H2 _ e2 _ fun u HB3 H3 x3 r3 => ?_)
      obtain ⟨a3, b3⟩ := keepD x3 a2 b2
      refine ⟨vs, b3, ?_, HB3, vs ++ [u], ?_, a3, upd_same, ?_⟩
      · rw [h3.length, List.length_map]
        have : ((xs.take i).filter c).length ≤ (xs.take i).length := List.length_filter_le _ _
        rw [List.length_take] at this
        exact Nat.lt_of_le_of_lt (show _ ≤ 100000 by omega) (by decide)
      · have y3 := xx.trans x3
        refine ⟨y3.b, fun a o h => ?_, fun a o h => ?_, y3.fr⟩
        · rw [upd_ne (ne_of_none h a3)]
          exact y3.in_ a o h
        · rw [upd_ne (ne_of_none h hL)]
          exact y3.h a o h
      · rw [ts, List.filter_append, List.map_append, List.filter_cons, if_pos hcy]
        exact (((h3.mono x'.b).mono x2.b).mono x3.b).append (.cons r3 .nil)
  · have hge : xs.length ≤ i := by omega
    refine .inl ⟨wi'.2 (by rw [List.length_map]; exact hge), q L vs HB H x hL h1 h2 ?_⟩
    rw [List.take_of_length_le hge] at h3
    exact h3
variable {elt iter : Expr} {ifs : List Expr} {scope : Scope} {y : Str} {pos' : Pos}
/-- [elt for y in iter if ..], y's slot is k -/
theorem evn_lc {enc : α → D} (k : Nat) (xs : List α) (cnd : α → Bool) (f : α → D) (hc : X.calm = true) (hN : X.N.Nodup) (hi : EvI X ρ (.Name y pos') iter (xs.map enc)) (hx : xs.length ≤ 100000) (ok : BlkOk X.N X.env.scope scope [(y, k)])
    (hg : ∀ s H C cl fp, PG (Bk X scope s H C cl fp) (.Name y pos') (gName k))
    (ht : ∀ x ∈ xs, ∀ s H C cl fp, EvTs (Bk X scope s H C cl fp) ((wipeR ρ [k]).set k (.val (enc x))) ifs (cnd x))
    (he : ∀ x ∈ xs, cnd x = true → ∀ s H C cl fp, Ev (Bk X scope s H C cl fp) ((wipeR ρ [k]).set k (.val (enc x))) elt (f x)) (hs : ∀ x, foldedSetIterable iter X.env x = pure x := by intro _; rfl) :
    EvN X ρ (.ListComp elt [⟨.Name y pos', iter, ifs, 0⟩] scope pos) ((xs.filter cnd).map f) := fun σ HB H hE Q q => by
  have key := @pe_lc X elt (.Name y pos') iter ifs scope [(y, k)] pos (wpI X (.Name y pos') iter) (gName k)
    (fun σ H Q => ∀ s H0 C cl fp, ∃ t, PTs (Bk X scope s H0 C cl fp) ifs t ∧ t σ H Q) (fun σ H Q => ∀ s H0 C cl fp, wpE (Bk X scope s H0 C cl fp) elt σ H Q) hc hN pi_wp ok hg
    (fun s H C cl fp => ⟨fun pins s' σ' H' Q' I h => by
      obtain ⟨t, h1, h2⟩ := h s H C cl fp
      exact h1.run pins s' σ' H' Q' I h2⟩) (fun s H C cl fp => ⟨fun pins s' σ' H' Q' I h => pe_wp.run pins s' σ' H' Q' I (h s H C cl fp)⟩) hs
  refine ⟨_, key, hi σ HB H hE _ fun J HB1 H1 x1 w => ?_⟩
  exact tLc_go (wi := wpI X (.Name y pos') iter) xs cnd f Q (hE.step x1) hx w (fun x hx HB H σ' e Q q s H0 C cl fp => ht x hx s H0 C cl fp σ' HB H e Q q) (fun x hx hcx HB H σ' e Q q s H0 C cl fp => he x hx hcx s H0 C cl fp σ' HB H e Q q)
    fun D vs HB2 H2 x2 h1 h2 h3 h4 => q D vs HB2 H2 (x1.trans x2) (x1.h.free h1) h2 h3 h4
end
end Y
end S_Lay4

section S_Lay5
set_option maxHeartbeats 2000000
namespace Y
open PySem PySem.Spec PyProof.Rows L2
/-! ### calls -/
/-- called with ds, it hands back d -/
def spOne (K : PySem.W.Frag) (ds : List D) (d : D) : Sp := fun vs H Q _ => ∃ HB, Ex HB H ∧ RpAll K HB vs ds ∧ ∀ v HB2 H2, Step HB H HB2 H2 → Rp K HB2 v d → Q v H2
/-- .. a new list of es -/
def spNew (K : PySem.W.Frag) (ds es : List D) : Sp := fun vs H Q _ => ∃ HB, Ex HB H ∧ RpAll K HB vs ds ∧ ∀ p us HB2 H2, Step HB H HB2 H2 → H p = none → HB2 p = none → H2 p = some (.lst us) → RpAll K HB2 us es → Q (.ref p) H2
structure Cal (P : Program) (w : World) (K : PySem.W.Frag) (mg : Str → Option Value) (base : Heap) (k : Nat) (x : Str) (ds : List D) (d : D) : Prop where
  ex : ∃ (f : Addr) (fd : FuncData) (ps : List Str), mg x = some (.ref f) ∧ PySem.W.keepIn K (.ref f) = true ∧ Binds K fd ps [] ∧ FnOk P w K mg base CX0 k f fd ps (spOne K ds d)
structure CalN (P : Program) (w : World) (K : PySem.W.Frag) (mg : Str → Option Value) (base : Heap) (k : Nat) (x : Str) (ds es : List D) : Prop where
  ex : ∃ (f : Addr) (fd : FuncData) (ps : List Str), mg x = some (.ref f) ∧ PySem.W.keepIn K (.ref f) = true ∧ Binds K fd ps [] ∧ FnOk P w K mg base CX0 k f fd ps (spNew K ds es)
/-- .. with its last argument by a keyword -/
structure CalK (P : Program) (w : World) (K : PySem.W.Frag) (mg : Str → Option Value) (base : Heap) (k : Nat) (x : Str) (kw : Str) (ds : List D) (d0 d : D) : Prop where
  ex : ∃ (f : Addr) (fd : FuncData) (ps : List Str), mg x = some (.ref f) ∧ PySem.W.keepIn K (.ref f) = true ∧ KBn K fd ps ds.length [kw] (fun us ws => us ++ ws) (fun vs zs => vs ++ zs) ∧ FnOk P w K mg base CX0 k f fd ps (spOne K (ds ++ [d0]) d)
theorem passN {X : Cx} {E : XK} : Passes CX0 X E := fun _ _ _ _ _ _ _ h => h.elim
section
variable {X : Cx} {ρ : Rho} {e a b c tg : Expr} {es : List Expr} {d d0 d1 d2 : D} {ds ds1 ds2 : List D} {pos p apos : Pos} {i j : Int} {x kw : Str} {α : Type}
theorem ev_call {k : Nat} (C : Cal X.prog X.w X.K X.mg X.base k x ds d) (hr : Room k X.A) (ha : EvA X ρ (e :: es) ds) (hg : Gl X x := by rfl) (hdb : (x == ("__debug__" : Str)) = false := by decide) (he : starEach (e :: es) X.env = (false, eval e X.env) :: starEach es X.env := by rfl) (hpl : NoStar X pos es := by rfl) :
    Ev X ρ (.Call (.Name x p) (e :: es) [] pos) d := fun σ HB H hE Q q => by
  obtain ⟨f, fd, ps, hm, hk, hb, F⟩ := C.ex
  refine ⟨_, pe_call (E := E0) F hr hg hm hk hb .nil passN pa_wp hdb he hpl, ha σ HB H hE _ fun vs HB1 H1 x1 r1 => ?_⟩
  exact ⟨HB1, x1.in_, by rw [List.append_nil]; exact r1, fun v HB2 H2 x2 r2 => q v HB2 H2 (x1.trans x2) r2⟩
/-- a call that hands back a new list -/
theorem evn_call {k : Nat} (C : CalN X.prog X.w X.K X.mg X.base k x ds ds1) (hr : Room k X.A) (ha : EvA X ρ (e :: es) ds) (hg : Gl X x := by rfl) (hdb : (x == ("__debug__" : Str)) = false := by decide) (he : starEach (e :: es) X.env = (false, eval e X.env) :: starEach es X.env := by rfl) (hpl : NoStar X pos es := by rfl) :
    EvN X ρ (.Call (.Name x p) (e :: es) [] pos) ds1 := fun σ HB H hE Q q => by
  obtain ⟨f, fd, ps, hm, hk, hb, F⟩ := C.ex
  refine ⟨_, pe_call (E := E0) F hr hg hm hk hb .nil passN pa_wp hdb he hpl, ha σ HB H hE _ fun vs HB1 H1 x1 r1 => ?_⟩
  exact ⟨HB1, x1.in_, by rw [List.append_nil]; exact r1, fun p us HB2 H2 x2 h1 h2 h3 h4 => q p us HB2 H2 (x1.trans x2) (x1.h.free h1) h2 h3 h4⟩
theorem RpAll.ap {K : PySem.W.Frag} {H : Hp} {vs : List V} {v : V} (r : RpAll K H vs ds) (r1 : Rp K H v d) : RpAll K H (vs ++ [v]) (ds ++ [d]) := r.append (.cons r1 .nil)
theorem ev_callK {k : Nat} {kp : Pos} (C : CalK X.prog X.w X.K X.mg X.base k x kw ds d0 d) (hr : Room k X.A) (ha : EvA X ρ (e :: es) ds) (hb : Ev X ρ b d0) (hg : Gl X x := by rfl) (hall : (backToKw pos (keywordEach [⟨some kw, b, kp⟩] X.env)).all (·.1.isSome) = true := by rfl)
    (hks : (backToKw pos (keywordEach [⟨some kw, b, kp⟩] X.env)).filterMap (·.1) = [kw] := by rfl) (hdb : (x == ("__debug__" : Str)) = false := by decide) (he : starEach (e :: es) X.env = (false, eval e X.env) :: starEach es X.env := by rfl)
    (hpl : ((backTo pos (starEach (e :: es) X.env)).any (·.1) || (backToKw pos (keywordEach [⟨some kw, b, kp⟩] X.env)).any (·.1.isNone)) = false := by rfl) : Ev X ρ (.Call (.Name x p) (e :: es) [⟨some kw, b, kp⟩] pos) d := fun σ HB H hE Q q => by
  obtain ⟨f, fd, ps, hm, hk, hbn, F⟩ := C.ex
  refine ⟨_, pe_callN (E := E0) F hr hg hm hk hbn passN pa_wp (pk_cons pe_wp pk_nil) hall hks hdb he hpl, ha σ HB H hE _ fun vs HB1 H1 x1 r1 => hb σ HB1 H1 (hE.step x1) _ fun v HB2 H2 x2 r2 => ⟨r1.length, rfl, HB2, x2.in_, (r1.mono x2.b).ap r2, fun u HB3 H3 x3 r3 => q u HB3 H3 ((x1.trans x2).trans x3) r3⟩⟩
end

/-! ### statements -/
structure EnvS (K : PySem.W.Frag) (HBe He HB H : Hp) (σ : L2.St) (ρ : Rho) : Prop where
  e : EnvOk K HB H σ ρ
  s : Step HBe He HB H
  o : ∀ (i : Nat) (ds : List D) (p : Addr), ρ[i]? = some (Slot.own ds) → σ[i]? = some (some (V.ref p)) → He p = none
structure Post where
  nx : Rho → Prop
  rt : D → Prop
section
variable {K : PySem.W.Frag} {HBe He HB H HB2 H2 : Hp} {σ : L2.St} {ρ : Rho}
theorem EnvS.step (e : EnvS K HBe He HB H σ ρ) (x : Step HB H HB2 H2) : EnvS K HBe He HB2 H2 σ ρ := ⟨e.e.step x, e.s.trans x, e.o⟩
theorem EnvS.setVal (e : EnvS K HBe He HB H σ ρ) (k : Nat) {v : V} {d : D} (r : Rp K HB v d) : EnvS K HBe He HB H (σ.set k (some v)) (ρ.set k (.val d)) := ⟨e.e.setVal k r, e.s, fun i ds p h1 h2 => by
  have k1 : k ≠ i := fun z => by
    subst z
    rw [List.getElem?_set] at h1
    simp only [if_true] at h1
    split at h1 <;> cases h1
  rw [List.getElem?_set_ne k1] at h1 h2
  exact e.o i ds p h1 h2⟩
theorem EnvS.setRaw (e : EnvS K HBe He HB H σ ρ) (k : Nat) (v : V) : EnvS K HBe He HB H (σ.set k (some v)) (ρ.set k (.raw v)) := ⟨e.e.setRaw k v, e.s, fun i ds p h1 h2 => by
  have k1 : k ≠ i := fun z => by
    subst z
    rw [List.getElem?_set] at h1
    simp only [if_true] at h1
    split at h1 <;> cases h1
  rw [List.getElem?_set_ne k1] at h1 h2
  exact e.o i ds p h1 h2⟩
/-- a new list, owned -/
theorem EnvS.setOwn (e : EnvS K HBe He HB H σ ρ) (k : Nat) {l : Addr} {vs : List V} {ds : List D} (x : Step HB H HB2 H2) (hn : H l = none) (h0 : HB2 l = none) (h1 : H2 l = some (.lst vs)) (r : RpAll K HB2 vs ds) :
    EnvS K HBe He HB2 H2 (σ.set k (some (.ref l))) (ρ.set k (.own ds)) := by
  refine ⟨(e.e.step x).setOwn k h0 h1 r fun i ds p _ q1 q2 z => ?_, e.s.trans x, fun i ds p q1 q2 => ?_⟩
  · obtain ⟨p', vs', a1, a2, a3, a4⟩ := e.e.own q1
    rw [q2] at a1
    cases a1
    rw [z, hn] at a3
    cases a3
  · by_cases hi : k = i
    · subst hi
      rw [List.getElem?_set] at q2
      simp only [if_true] at q2
      split at q2
      · cases q2
        exact e.s.h.free hn
      · cases q2
    · rw [List.getElem?_set_ne hi] at q1 q2
      exact e.o i ds p q1 q2
/-- the list that slot k owns is changed -/
theorem EnvS.change (e : EnvS K HBe He HB H σ ρ) {k : Nat} {l : Addr} {vs : List V} {ds ds0 : List D} (hk : ρ[k]? = some (.own ds0)) (hl : σ[k]? = some (some (.ref l))) (h0 : HB l = none) (r : RpAll K HB vs ds) :
    EnvS K HBe He HB (upd H l (.lst vs)) σ (ρ.set k (.own ds)) := by
  have hs : σ.set k (some (.ref l)) = σ := by
    have hk : k < σ.length := (List.getElem?_eq_some_iff.mp hl).1
    refine List.ext_getElem? fun i => ?_
    by_cases hi : k = i
    · subst hi
      rw [List.getElem?_set_self hk, hl]
    · rw [List.getElem?_set_ne hi]
  have other : ∀ (i : Nat) (ds : List D) (p : Addr), i ≠ k → ρ[i]? = some (Slot.own ds) → σ[i]? = some (some (V.ref p)) → p ≠ l := fun i ds p hi q1 q2 z => by
    subst z
    exact hi (e.e.sep i k _ _ _ q1 hk q2 hl)
  have E1 : EnvOk K HB (upd H l (.lst vs)) σ (ρ.set k .any) := by
    have := (e.e.setAny k (some (.ref l)))
    rw [hs] at this
    refine this.out h0 fun i ds p q1 q2 => ?_
    by_cases hi : k = i
    · subst hi
      rw [List.getElem?_set] at q1
      simp only [if_true] at q1
      split at q1 <;> cases q1
    · rw [List.getElem?_set_ne hi] at q1
      exact other i ds p (fun z => hi z.symm) q1 q2
  have E2 := E1.setOwn k h0 upd_same r fun i ds p hi q1 q2 => by
    rw [List.getElem?_set_ne fun z => hi z.symm] at q1
    exact other i ds p hi q1 q2
  rw [hs, List.set_set] at E2
  have hne : He l = none := e.o k _ l hk hl
  refine ⟨E2, ⟨e.s.b, E2.ex, fun a o h => ?_, e.s.fr⟩, fun i ds p q1 q2 => ?_⟩
  · rw [upd_ne (ne_of_none h hne)]
    exact e.s.h a o h
  · by_cases hi : k = i
    · subst hi
      rw [hl] at q2
      cases q2
      exact hne
    · rw [List.getElem?_set_ne hi] at q1
      exact e.o i ds p q1 q2
theorem EnvS.any (e : EnvS K HBe He HB H σ ρ) (k : Nat) : EnvS K HBe He HB H σ (ρ.set k .any) := by
  have hs : σ.set k (σ[k]?.getD none) = σ := by
    refine List.ext_getElem? fun i => ?_
    by_cases hi : k = i
    · subst hi
      by_cases hk : k < σ.length
      · rw [List.getElem?_set_self hk, List.getElem?_eq_getElem hk]
        rfl
      · rw [List.getElem?_eq_none (by rw [List.length_set]; omega), List.getElem?_eq_none (by omega)]
    · rw [List.getElem?_set_ne hi]
  refine ⟨by have := e.e.setAny k (σ[k]?.getD none); rw [hs] at this; exact this, e.s, fun i ds p h1 h2 => ?_⟩
  have k1 : k ≠ i := fun z => by
    subst z
    rw [List.getElem?_set] at h1
    simp only [if_true] at h1
    split at h1 <;> cases h1
  rw [List.getElem?_set_ne k1] at h1
  exact e.o i ds p h1 h2
/-- a list that was owned is known from now on -/
theorem EnvS.frz (e : EnvS K HBe He HB H σ ρ) {k : Nat} {ds : List D} (hk : ρ[k]? = some (.own ds)) : ∃ HB', EnvS K HBe He HB' H σ (ρ.set k (.val (.lst ds))) := by
  obtain ⟨l, vs, h1, h2, h3, h4⟩ := e.e.own hk
  have hs : σ.set k (some (.ref l)) = σ := by
    have hk : k < σ.length := (List.getElem?_eq_some_iff.mp h1).1
    refine List.ext_getElem? fun i => ?_
    by_cases hi : k = i
    · subst hi
      rw [List.getElem?_set_self hk, h1]
    · rw [List.getElem?_set_ne hi]
  have hne : He l = none := e.o k _ l hk h1
  have x : Step HBe He (upd HB l (.lst vs)) H := e.s.know hne h2 h3
  have E1 := e.any k
  have E2 : EnvOk K (upd HB l (.lst vs)) H σ (ρ.set k .any) := by
    refine ⟨x.in_, E1.e.len, fun i o s q1 q2 => ?_, E1.e.sep⟩
    have q3 := E1.e.ok i o s q1 q2
    cases s with
    | any => trivial
    | raw v => exact q3
    | cond v a u => exact ⟨q3.1, Ex.new h2 _ _ q3.2⟩
    | val d =>
      obtain ⟨v, a1, a2⟩ := q3
      exact ⟨v, a1, a2.mono (Ex.new h2)⟩
    | own es =>
      obtain ⟨p, us, a1, a2, a3, a4⟩ := q3
      refine ⟨p, us, a1, ?_, a3, a4.mono (Ex.new h2)⟩
      have hi : k ≠ i := fun z => by
        subst z
        rw [List.getElem?_set] at q2
        simp only [if_true] at q2
        split at q2 <;> cases q2
      rw [List.getElem?_set_ne hi] at q2
      have : p ≠ l := fun z => by
        subst z
        exact hi (e.e.sep k i _ _ _ hk q2 h1 (by rw [q1, a1]))
      rw [upd_ne this]
      exact a2
  refine ⟨upd HB l (.lst vs), ?_⟩
  have E3 : EnvS K HBe He (upd HB l (.lst vs)) H σ (ρ.set k .any) := ⟨E2, x, E1.o⟩
  have E4 := E3.setVal k (v := .ref l) (d := .lst ds) (.lst upd_same (h4.mono (Ex.new h2)))
  rw [hs, List.set_set] at E4
  exact E4
end
/-- what is told less -/
inductive Wk : Rho → Rho → Prop
  | nil : Wk [] []
  | any {s : Slot} {r r' : Rho} : Wk r r' → Wk (s :: r) (.any :: r')
  | same {s : Slot} {r r' : Rho} : Wk r r' → Wk (s :: r) (s :: r')
  | frz {ds : List D} {r r' : Rho} : Wk r r' → Wk (.own ds :: r) (.val (.lst ds) :: r')
theorem Wk.refl : ∀ r : Rho, Wk r r
  | [] => .nil
  | _ :: r => .same (Wk.refl r)
theorem Wk.env {K : PySem.W.Frag} {HBe He H : Hp} {σ : L2.St} {r r' : Rho} (w : Wk r r') : ∀ {pre : Rho} {HB : Hp}, EnvS K HBe He HB H σ (pre ++ r) → ∃ HB', EnvS K HBe He HB' H σ (pre ++ r') := by
  induction w with
  | nil => exact fun h => ⟨_, h⟩
  | @any s r r' _ ih =>
    intro pre HB h
    have h2 := h.any pre.length
    rw [List.set_append_right _ _ (Nat.le_refl _), Nat.sub_self, List.set_cons_zero] at h2
    have := ih (pre := pre ++ [.any]) (by rw [List.append_assoc]; exact h2)
    rw [List.append_assoc] at this
    exact this
  | @same s r r' _ ih =>
    intro pre HB h
    have := ih (pre := pre ++ [s]) (by rw [List.append_assoc]; exact h)
    rw [List.append_assoc] at this
    exact this
  | @frz ds r r' _ ih =>
    intro pre HB h
    obtain ⟨HB', h2⟩ := h.frz (k := pre.length) (ds := ds) (by rw [List.getElem?_append_right (Nat.le_refl _), Nat.sub_self]; rfl)
    rw [List.set_append_right _ _ (Nat.le_refl _), Nat.sub_self, List.set_cons_zero] at h2
    have := ih (pre := pre ++ [.val (.lst ds)]) (by rw [List.append_assoc]; exact h2)
    rw [List.append_assoc] at this
    exact this

def Ans (K : PySem.W.Frag) (HBe He : Hp) (P : Post) (Dn : Ends) : Prop :=
  (∀ ρ' σ' HB' H', P.nx ρ' → EnvS K HBe He HB' H' σ' ρ' → Dn.nx σ' H') ∧ (∀ d v HB' H', P.rt d → Step HBe He HB' H' → Rp K HB' v d → Dn.rt v H') ∧
  ∀ es p us HB' H', P.rt (.new es) → Step HBe He HB' H' → He p = none → HB' p = none → H' p = some (.lst us) → RpAll K HB' us es → Dn.rt (.ref p) H'
def Bd (X : Cx) (ρ : Rho) (sts : List Stmt) (P : Post) : Prop := ∀ (HBe He : Hp) (σ : L2.St) (HB H : Hp), EnvS X.K HBe He HB H σ ρ → ∀ Dn : Ends, Ans X.K HBe He P Dn → wpB X sts Dn σ H
def Sd (X : Cx) (ρ : Rho) (st : Stmt) (P : Post) : Prop := ∀ (HBe He : Hp) (σ : L2.St) (HB H : Hp), EnvS X.K HBe He HB H σ ρ → ∀ Dn : Ends, Ans X.K HBe He P Dn → wpS X st Dn σ H
section
variable {X : Cx} {ρ ρ' : Rho} {e a b c tg : Expr} {es : List Expr} {d d0 d1 d2 : D} {ds ds1 ds2 : List D} {pos p apos pos' : Pos} {i j : Int} {x y : Str} {α : Type} {st : Stmt} {rest body : List Stmt} {P : Post} {M : Rho → Prop}
theorem bd_wk (w : Wk ρ ρ') (h : Bd X ρ' rest P) : Bd X ρ rest P := fun HBe He σ HB H hE Dn q => by
  obtain ⟨HB', h2⟩ := w.env (pre := []) hE
  exact h HBe He σ HB' H h2 Dn q
theorem sd_wk (w : Wk ρ ρ') (h : Sd X ρ' st P) : Sd X ρ st P := fun HBe He σ HB H hE Dn q => by
  obtain ⟨HB', h2⟩ := w.env (pre := []) hE
  exact h HBe He σ HB' H h2 Dn q
theorem bd_nil (h : P.nx ρ) : Bd X ρ [] P := fun HBe He σ HB H hE Dn q => ⟨_, pss_nil, q.1 ρ σ HB H h hE⟩
theorem bd_end (w : Wk ρ ρ') (h : P.nx ρ') : Bd X ρ [] P := bd_wk w (bd_nil h)
theorem bd_seq (h : Sd X ρ st { P with nx := M }) (k : ∀ ρ', M ρ' → Bd X ρ' rest P) : Bd X ρ (st :: rest) P := fun HBe He σ HB H hE Dn q =>
  ⟨_, pss_cons ps_wp pss_wp, h HBe He σ HB H hE { Dn with nx := wpB X rest Dn } ⟨fun ρ' σ' HB' H' m e => k ρ' m HBe He σ' HB' H' e Dn q, q.2⟩⟩
theorem bd_seq1 (h : Sd X ρ st { P with nx := fun r => r = ρ' }) (k : Bd X ρ' rest P) : Bd X ρ (st :: rest) P := bd_seq h fun r e => by rw [e]; exact k
theorem bd_one (h : Sd X ρ st P) : Bd X ρ [st] P := fun HBe He σ HB H hE Dn q => ⟨_, pss_one ps_wp, h HBe He σ HB H hE Dn q⟩
/-- x = e -/
theorem sd_asg {k : Nat} (hN : X.N.Nodup) (hi : X.N[k]? = some x) (hx : Loc X.env.scope x) (he : Ev X ρ e d) (h : P.nx (ρ.set k (.val d))) (hs : swapsWith e (some (.Name x pos')) pos.line X.env = pure false := by rfl) (hf : X.fn x = true ∨ X.env.scope.names.lookup x = some .local := by first | exact .inl rfl | exact .inr rfl | assumption) :
    Sd X ρ (.Assign [.Name x pos'] e pos) P := fun HBe He σ HB H hE Dn q =>
  ⟨_, ps_set hN hi hx pe_wp hs hf, he σ HB H hE.e _ fun v HB2 H2 x2 r2 => q.1 _ _ HB2 H2 h ((hE.step x2).setVal k r2)⟩
theorem sd_asgN {k : Nat} (hN : X.N.Nodup) (hi : X.N[k]? = some x) (hx : Loc X.env.scope x) (he : EvN X ρ e ds) (h : P.nx (ρ.set k (.own ds))) (hs : swapsWith e (some (.Name x pos')) pos.line X.env = pure false := by rfl) (hf : X.fn x = true ∨ X.env.scope.names.lookup x = some .local := by first | exact .inl rfl | exact .inr rfl | assumption) :
    Sd X ρ (.Assign [.Name x pos'] e pos) P := fun HBe He σ HB H hE Dn q =>
  ⟨_, ps_set hN hi hx pe_wp hs hf, he σ HB H hE.e _ fun l vs HB2 H2 x2 h1 h2 h3 h4 => q.1 _ _ HB2 H2 h (hE.setOwn k x2 h1 h2 h3 h4)⟩
/-- targets of several names -/
def EvG (X : Cx) (ρ : Rho) (tg : Expr) (d : D) (ρ' : Rho) : Prop := ∃ g : TG, PG X tg g ∧ ∀ (HBe He : Hp) (σ : L2.St) (HB H : Hp) (v : V), EnvS X.K HBe He HB H σ ρ → Rp X.K HB v d → ∀ Q : L2.St → Hp → Prop, (∀ σ', EnvS X.K HBe He HB H σ' ρ' → Q σ' H) → g v σ H Q
def EvGs (X : Cx) (ρ : Rho) (tgs : List Expr) (ds : List D) (ρ' : Rho) : Prop := ∃ g : TGs, PGs X tgs g ∧ ∀ (HBe He : Hp) (σ : L2.St) (HB H : Hp) (vs : List V), EnvS X.K HBe He HB H σ ρ → RpAll X.K HB vs ds → ∀ Q : L2.St → Hp → Prop, (∀ σ', EnvS X.K HBe He HB H σ' ρ' → Q σ' H) → g vs σ H Q
theorem eg_name {k : Nat} (hN : X.N.Nodup) (hi : X.N[k]? = some x) (hx : Loc X.env.scope x) (hf : X.fn x = true ∨ X.env.scope.names.lookup x = some .local := by first | exact .inl rfl | exact .inr rfl | assumption) : EvG X ρ (.Name x pos) d (ρ.set k (.val d)) :=
  ⟨_, pg_name hN hi hx hf, fun HBe He σ HB H v hE r Q q => q _ (hE.setVal k r)⟩
theorem egs_nil : EvGs X ρ [] [] ρ := ⟨_, pgs_nil, fun HBe He σ HB H vs hE r Q q => by
  cases r
  exact ⟨rfl, q σ hE⟩⟩
theorem egs_cons {ρ1 ρ2 : Rho} (h1 : EvG X ρ e d ρ1) (h2 : EvGs X ρ1 es ds ρ2) (hs : (assignEach (e :: es) X.env).map (·.2) = assign e X.env :: (assignEach es X.env).map (·.2) := by rfl) : EvGs X ρ (e :: es) (d :: ds) ρ2 := by
  obtain ⟨g1, p1, k1⟩ := h1
  obtain ⟨g2, p2, k2⟩ := h2
  refine ⟨_, pgs_cons p1 p2 hs, fun HBe He σ HB H vs hE r Q q => ?_⟩
  cases r with
  | cons r1 r2 => exact ⟨_, _, rfl, k1 HBe He σ HB H _ hE r1 _ fun σ' hE' => k2 HBe He σ' HB H _ hE' r2 Q q⟩
theorem eg_tup {k n : Nat} (hc : X.calm = true) (h : EvGs X ρ es ds ρ') (hl : ds.length = n) (hn : (assignEach es X.env).length = n := by rfl) (hst : (assignEach es X.env).findIdx? (·.1) = none := by rfl) : EvG X ρ (.Tuple es k pos) (.tup ds) ρ' := by
  obtain ⟨g, p, k1⟩ := h
  refine ⟨_, pg_tup hc p hn hst, fun HBe He σ HB H v hE r Q q => ?_⟩
  cases r with
  | @tup a vs _ h1 r => exact ⟨a, vs, rfl, hE.e.ex.sqT h1, by rw [r.length]; exact hl, k1 HBe He σ HB H vs hE r Q q⟩
theorem sd_asgT (he : Ev X ρ e d) (hg : EvG X ρ tg d ρ') (h : P.nx ρ') (hs : swapsWithSole [tg] e pos.line X.env = pure false := by rfl) (hw : swappedStores [tg] e X.env = pure none := by rfl)
    (h1 : (assignEach [tg] X.env).map (·.2) = [assign tg X.env] := by rfl) : Sd X ρ (.Assign [tg] e pos) P := fun HBe He σ HB H hE Dn q => by
  obtain ⟨g, p, k1⟩ := hg
  exact ⟨_, ps_asg pe_wp p hs hw h1, he σ HB H hE.e _ fun v HB2 H2 x2 r2 => k1 HBe He σ HB2 H2 v (hE.step x2) r2 _ fun σ' hE' => q.1 _ _ HB2 H2 h hE'⟩
/-- l[i] = e, l an owned list -/
theorem sd_set {k n : Nat} {o ix : Expr} {sp : Pos} (ho : PE X o (tVar k)) (hk : ρ[k]? = some (.own ds)) (he : Ev X ρ e d) (hi : Ev X ρ ix (.int i)) (hn : ixN ds.length i = some n) (h : P.nx (ρ.set k (.own (ds.set n d))))
    (hs : swapsWithSole [.Subscript o ix sp] e pos.line X.env = pure false := by rfl) (hw : swappedStores [.Subscript o ix sp] e X.env = pure none := by rfl) (h1 : (assignEach [.Subscript o ix sp] X.env).map (·.2) = [assign (.Subscript o ix sp) X.env] := by rfl)
    (ha : ∀ v, assign (.Subscript o ix sp) X.env v = (do
      let ov ← holding [v] (eval o X.env)
      let iv ← holding [v, ov] (eval ix X.env)
      standAt sp
      holding [v, ov, iv] (setItem ov iv v)
      release [v, ov, iv] []) := by intro _; rfl) : Sd X ρ (.Assign [.Subscript o ix sp] e pos) P := fun HBe He σ HB H hE Dn q =>
  ⟨_, ps_asg pe_wp (pg_sub ho pe_wp set_list ha) hs hw h1, he σ HB H hE.e _ fun v HB2 H2 x2 r2 => by
    obtain ⟨l, vs, a1, a2, a3, a4⟩ := (hE.step x2).e.own hk
    refine ⟨_, a1, hi σ HB2 H2 (hE.step x2).e _ fun u HB3 H3 x3 r3 => ?_⟩
    have E3 := (hE.step x2).step x3
    obtain ⟨l', vs', b1, b2, b3, b4⟩ := E3.e.own hk
    rw [a1] at b1
    cases b1
    refine ⟨l, vs', i, n, rfl, r3.ofInt, b3, by rw [b4.length]; exact hn, q.1 _ _ HB3 _ h (E3.change hk a1 b2 (RpAll.set (r2.mono x3.b) n b4))⟩⟩
/-- l.append(e), l an owned list -/
theorem sd_app {k : Nat} {o : Expr} {pos2 : Pos} (ho : PE X o (tVar k)) (hk : ρ[k]? = some (.own ds)) (he : Ev X ρ e d) (hz : ds.length < 100000) (h : P.nx (ρ.set k (.own (ds ++ [d]))))
    (hs : swapsWith (.Call (.Attribute o "append" apos) [e] [] pos2) none pos.line X.env = pure false := by rfl) (hb : attributeBase o "append" X.env (eval o X.env) = eval o X.env := by rfl)
    (hfew : ((backTo pos2 (starEach [e] X.env)).all (fun x => !x.1) && (backToKw pos2 (keywordEach [] X.env)).all (fun x => x.1.isSome) && decide (([e] : List Expr).length + ([] : List Keyword).length + (if ([] : List Keyword).isEmpty then 0 else 1) < 30)) = true := by rfl)
    (hline : (apos.endLine == pos2.line) = true := by rfl) (hst : St1 X e := by rfl) (hp : NoStar X pos2 [] := by rfl) : Sd X ρ (.Expr (.Call (.Attribute o "append" apos) [e] [] pos2) pos) P := fun HBe He σ HB H hE Dn q =>
  ⟨_, ps_expr (pe_bm PySem.F.plainAttrs_list PySem.F.slot_list_append PySem.F.type_list_append mt_append ho (pa_cons pe_wp pa_nil hst) hb hfew hline hst hp) hs, by
    obtain ⟨l, vs, a1, a2, a3, a4⟩ := hE.e.own hk
    refine ⟨_, a1, .inl ⟨rfl, vs, SqL.of a3⟩, he σ HB H hE.e _ fun v HB2 H2 x2 r2 => ?_⟩
    have E2 := hE.step x2
    obtain ⟨l', vs', b1, b2, b3, b4⟩ := E2.e.own hk
    rw [a1] at b1
    cases b1
    exact ⟨l, vs', v, rfl, rfl, b3, by rw [b4.length]; exact Nat.lt_of_lt_of_le hz (by decide), q.1 _ _ HB2 _ h (E2.change hk a1 b2 (b4.append (.cons r2 .nil)))⟩⟩
theorem sd_rev {k : Nat} {o : Expr} {pos2 : Pos} (ho : PE X o (tVar k)) (hk : ρ[k]? = some (.own ds)) (h : P.nx (ρ.set k (.own ds.reverse)))
    (hs : swapsWith (.Call (.Attribute o "reverse" apos) [] [] pos2) none pos.line X.env = pure false := by rfl) (hb : attributeBase o "reverse" X.env (eval o X.env) = eval o X.env := by rfl)
    (hline : (apos.endLine == pos2.line) = true := by rfl) : Sd X ρ (.Expr (.Call (.Attribute o "reverse" apos) [] [] pos2) pos) P := fun HBe He σ HB H hE Dn q =>
  ⟨_, ps_expr (pe_bm0 PySem.F.plainAttrs_list PySem.F.slot_list_reverse PySem.F.type_list_reverse mt_reverse ho hb hline) hs, by
    obtain ⟨l, vs, a1, a2, a3, a4⟩ := hE.e.own hk
    exact ⟨_, a1, .inl ⟨rfl, vs, SqL.of a3⟩, l, vs, rfl, rfl, a3, q.1 _ _ HB _ h (hE.change hk a1 a2 a4.rev)⟩⟩
/-- e alone -/
theorem sd_expr (he : Ev X ρ e d) (h : P.nx ρ) (hs : swapsWith e none pos.line X.env = pure false := by rfl) : Sd X ρ (.Expr e pos) P := fun HBe He σ HB H hE Dn q =>
  ⟨_, ps_expr pe_wp hs, he σ HB H hE.e _ fun v HB2 H2 x2 r2 => q.1 _ _ HB2 H2 h (hE.step x2)⟩
theorem sd_augAdd {k : Nat} (hN : X.N.Nodup) (hi : X.N[k]? = some x) (hx : Loc X.env.scope x) (hk : ρ[k]? = some (.val (.int i))) (he : Ev X ρ e (.int j)) (h : P.nx (ρ.set k (.val (.int (i + j))))) (hf : X.fn x = true ∨ X.env.scope.names.lookup x = some .local := by first | exact .inl rfl | exact .inr rfl | assumption) :
    Sd X ρ (.AugAssign (.Name x pos') .Add e pos) P := fun HBe He σ HB H hE Dn q =>
  ⟨_, ps_aug hN hi hx pe_wp ip_add hf, by
    obtain ⟨v, a1, a2⟩ := hE.e.val hk
    exact ⟨v, a1, he σ HB H hE.e _ fun u HB2 H2 x2 r2 => ⟨i, j, a2.ofInt, r2.ofInt, q.1 _ _ HB2 H2 h ((hE.step x2).setVal k (.int _))⟩⟩⟩
theorem sd_augSub {k : Nat} (hN : X.N.Nodup) (hi : X.N[k]? = some x) (hx : Loc X.env.scope x) (hk : ρ[k]? = some (.val (.int i))) (he : Ev X ρ e (.int j)) (h : P.nx (ρ.set k (.val (.int (i - j))))) (hf : X.fn x = true ∨ X.env.scope.names.lookup x = some .local := by first | exact .inl rfl | exact .inr rfl | assumption) :
    Sd X ρ (.AugAssign (.Name x pos') .Sub e pos) P := fun HBe He σ HB H hE Dn q =>
  ⟨_, ps_aug hN hi hx pe_wp ip_sub hf, by
    obtain ⟨v, a1, a2⟩ := hE.e.val hk
    exact ⟨v, a1, he σ HB H hE.e _ fun u HB2 H2 x2 r2 => ⟨i, j, a2.ofInt, r2.ofInt, q.1 _ _ HB2 H2 h ((hE.step x2).setVal k (.int _))⟩⟩⟩
theorem sd_ret (he : Ev X ρ e d) (h : P.rt d) : Sd X ρ (.Return (some e) pos) P := fun HBe He σ HB H hE Dn q =>
  ⟨_, ps_ret pe_wp, he σ HB H hE.e _ fun v HB2 H2 x2 r2 => q.2.1 d v HB2 H2 h (hE.s.trans x2) r2⟩
/-- a new list is handed back -/
theorem sd_retN (he : EvN X ρ e ds) (h : P.rt (.new ds)) : Sd X ρ (.Return (some e) pos) P := fun HBe He σ HB H hE Dn q =>
  ⟨_, ps_ret pe_wp, he σ HB H hE.e _ fun p vs HB2 H2 x2 h1 h2 h3 h4 => q.2.2 ds p vs HB2 H2 h (hE.s.trans x2) (hE.s.h.free h1) h2 h3 h4⟩
theorem sd_retO {k : Nat} (hv : PE X e (tVar k)) (hk : ρ[k]? = some (.own ds)) (h : P.rt (.new ds)) : Sd X ρ (.Return (some e) pos) P := fun HBe He σ HB H hE Dn q => by
  obtain ⟨l, vs, a1, a2, a3, a4⟩ := hE.e.own hk
  exact ⟨_, ps_ret hv, _, a1, q.2.2 ds l vs HB H h hE.s (hE.o k _ l hk a1) a2 a3 a4⟩
theorem sd_if {A B : List Stmt} {k : Bool} (hc : EvT X ρ c k) (h1 : k = true → Bd X ρ A P) (h2 : k = false → Bd X ρ B P) : Sd X ρ (.If c A B pos) P := fun HBe He σ HB H hE Dn q =>
  ⟨_, ps_if pt_wp pss_wp pss_wp, hc σ HB H hE.e _ fun HB2 H2 x2 => by
    cases k with
    | true => exact iteT (h1 rfl HBe He σ HB2 H2 (hE.step x2) Dn q)
    | false => exact iteF (h2 rfl HBe He σ HB2 H2 (hE.step x2) Dn q)⟩
/-- for tg in iter: I by the turns done -/
theorem sd_for {iter : Expr} (I : Nat → Rho → Prop) (hp : PassesOwn (model X.prog X.w) X.A X.env X.xe) (hc : X.calm = true) (hi : EvI X ρ tg iter ds) (hg : ∃ g, PG X tg g ∧ ∀ i ρ' d, ds[i]? = some d → I i ρ' → ∃ ρ'', (∀ (HBe He : Hp) (σ : L2.St) (HB H : Hp) (v : V), EnvS X.K HBe He HB H σ ρ' → Rp X.K HB v d → ∀ Q : L2.St → Hp → Prop, (∀ σ', EnvS X.K HBe He HB H σ' ρ'' → Q σ' H) → g v σ H Q) ∧ Bd X ρ'' body { P with nx := I (i + 1) })
    (h0 : I 0 ρ) (hd : ∀ ρ', I ds.length ρ' → P.nx ρ') (hs : ∀ x, foldedSetIterable iter X.env x = pure x := by intro _; rfl) : Sd X ρ (.For tg iter body [] pos) P := fun HBe He σ HB H hE Dn q => by
  obtain ⟨g, hg, ht⟩ := hg
  refine ⟨_, ps_for hp hc pi_wp hg pss_wp hs, hi σ HB H hE.e _ fun J HB1 H1 x1 w => ?_⟩
  refine ⟨fun i m σ' H' => m = ds.length - i ∧ i ≤ ds.length ∧ ∃ ρ' HB', I i ρ' ∧ Ex HB1 HB' ∧ EnvS X.K HBe He HB' H' σ' ρ', ⟨ds.length, by simp, Nat.zero_le _, ρ, HB1, h0, Ex.refl _, hE.step x1⟩, ?_⟩
  rintro i m σ' H' ⟨rfl, hle, ρ', HB', hI, hx, hE'⟩
  have w' := w i HB' H' hx hE'.e.ex
  by_cases hlt : i < ds.length
  · have hdi : ds[i]? = some ds[i] := List.getElem?_eq_getElem hlt
    obtain ⟨go, yl⟩ := w'.1 _ hdi
    refine .inr ⟨go, fun σ2 H2 => ∃ ρ2 HB2, I (i + 1) ρ2 ∧ Ex HB1 HB2 ∧ EnvS X.K HBe He HB2 H2 σ2 ρ2, fun σ2 H2 ⟨ρ2, HB2, a1, a2, a3⟩ => ⟨ds.length - (i + 1), by omega, rfl, hlt, ρ2, HB2, a1, a2, a3⟩, fun v H2 hv => ?_⟩
    obtain ⟨HB2, x2, r2⟩ := yl v H2 hv
    obtain ⟨ρ'', k1, hb⟩ := ht i ρ' _ hdi hI
    refine k1 HBe He σ' HB2 H2 v (hE'.step x2) r2 _ fun σ3 hE3 => ?_
    -- the body runs from its own entry; what was known stays known
    have hE4 : EnvS X.K HB2 He HB2 H2 σ3 ρ'' := ⟨hE3.e, ⟨Ex.refl _, hE3.s.in_, hE3.s.h, fun a h1 h2 => absurd h1 h2⟩, hE3.o⟩
    refine hb HB2 He σ3 HB2 H2 hE4 _ ⟨fun ρ4 σ4 HB4 H4 n4 hE5 => ⟨ρ4, HB4, n4, (hx.trans x2.b).trans hE5.s.b, ⟨hE5.e, ⟨hE3.s.b.trans hE5.s.b, hE5.s.in_, hE5.s.h, fun a h1 h2 => ?_⟩, hE5.o⟩⟩, fun d u HB4 H4 hr x4 r4 => q.2.1 d u HB4 H4 hr ⟨hE3.s.b.trans x4.b, x4.in_, x4.h, fun a h1 h2 => ?_⟩ r4,
      fun es p us HB4 H4 hr x4 h1 h2 h3 h4 => q.2.2 es p us HB4 H4 hr ⟨hE3.s.b.trans x4.b, x4.in_, x4.h, fun a h1 h2 => ?_⟩ h1 h2 h3 h4⟩
    · cases z : HB2 a with
      | none => exact hE5.s.fr a z h2
      | some o => exact hE3.s.fr a h1 (by rw [z]; exact fun z => nomatch z)
    · cases z : HB2 a with
      | none => exact x4.fr a z h2
      | some o => exact hE3.s.fr a h1 (by rw [z]; exact fun z => nomatch z)
    · cases z : HB2 a with
      | none => exact x4.fr a z h2
      | some o => exact hE3.s.fr a h1 (by rw [z]; exact fun z => nomatch z)
  · have e : i = ds.length := by omega
    subst e
    exact .inl ⟨w'.2 (Nat.le_refl _), q.1 ρ' σ' HB' H' (hd ρ' hI) hE'⟩
/-- .. to a name -/
theorem sd_forN {iter : Expr} {k : Nat} (I : Nat → Rho → Prop) (hp : PassesOwn (model X.prog X.w) X.A X.env X.xe) (hc : X.calm = true) (hi : EvI X ρ (.Name x pos') iter ds) (hN : X.N.Nodup) (hk : X.N[k]? = some x) (hx : Loc X.env.scope x)
    (h0 : I 0 ρ) (ht : ∀ i ρ' d, ds[i]? = some d → I i ρ' → Bd X (ρ'.set k (.val d)) body { P with nx := I (i + 1) }) (hd : ∀ ρ', I ds.length ρ' → P.nx ρ') (hf : X.fn x = true ∨ X.env.scope.names.lookup x = some .local := by first | exact .inl rfl | exact .inr rfl | assumption)
    (hs : ∀ x, foldedSetIterable iter X.env x = pure x := by intro _; rfl) : Sd X ρ (.For (.Name x pos') iter body [] pos) P :=
  sd_for I hp hc hi ⟨_, pg_name hN hk hx hf, fun i ρ' d h1 h2 => ⟨_, fun HBe He σ HB H v hE r Q q => q _ (hE.setVal k r), ht i ρ' d h1 h2⟩⟩ h0 hd hs
/-- y = [comprehension] -/
theorem sd_setLc {iter elt : Expr} {ifs : List Expr} {scope : Scope} {spos : Pos} {enc : α → D} {k : Nat} (l : Nat) (xs : List α) (cnd : α → Bool) (f : α → D) (hc : X.calm = true) (hN : X.N.Nodup) (hy : X.N[k]? = some y) (hyl : X.env.scope.names.lookup y = some .local)
    (hsw : swapsWith (.ListComp elt [⟨.Name x pos', iter, ifs, 0⟩] scope pos) (some (.Name y p)) spos.line X.env = pure true) (hi : EvI X ρ (.Name x pos') iter (xs.map enc)) (hx : xs.length ≤ 100000) (ok : BlkOk X.N X.env.scope scope [(x, l)])
    (hg : ∀ s H C cl fp, PG (Bk X scope s H C cl fp) (.Name x pos') (gName l))
    (ht : ∀ x ∈ xs, ∀ s H C cl fp, EvTs (Bk X scope s H C cl fp) ((wipeR ρ [l]).set l (.val (enc x))) ifs (cnd x))
    (he : ∀ x ∈ xs, cnd x = true → ∀ s H C cl fp, Ev (Bk X scope s H C cl fp) ((wipeR ρ [l]).set l (.val (enc x))) elt (f x)) (h : P.nx (ρ.set k (.own ((xs.filter cnd).map f)))) (hs : ∀ x, foldedSetIterable iter X.env x = pure x := by intro _; rfl) :
    Sd X ρ (.Assign [.Name y p] (.ListComp elt [⟨.Name x pos', iter, ifs, 0⟩] scope pos) spos) P := fun HBe He σ HB H hE Dn q => by
  have key := @ps_setLc X k y p elt (.Name x pos') iter ifs scope [(x, l)] pos spos (wpI X (.Name x pos') iter) (gName l)
    (fun σ H Q => ∀ s H0 C cl fp, ∃ t, PTs (Bk X scope s H0 C cl fp) ifs t ∧ t σ H Q) (fun σ H Q => ∀ s H0 C cl fp, wpE (Bk X scope s H0 C cl fp) elt σ H Q) hc hN hy hyl hsw pi_wp ok hg
    (fun s H C cl fp => ⟨fun pins s' σ' H' Q' I h => by
      obtain ⟨t, h1, h2⟩ := h s H C cl fp
      exact h1.run pins s' σ' H' Q' I h2⟩) (fun s H C cl fp => ⟨fun pins s' σ' H' Q' I h => pe_wp.run pins s' σ' H' Q' I (h s H C cl fp)⟩) hs
  refine ⟨_, key, hi σ HB H hE.e _ fun J HB1 H1 x1 w => ?_⟩
  refine tLc_go (wi := wpI X (.Name x pos') iter) xs cnd f (fun v H1 => gName k v σ H1 Dn.nx) (hE.e.step x1) hx w (fun x hx HB H σ' e Q q s H0 C cl fp => ht x hx s H0 C cl fp σ' HB H e Q q) (fun x hx hcx HB H σ' e Q q s H0 C cl fp => he x hx hcx s H0 C cl fp σ' HB H e Q q)
    fun L vs HB2 H2 x2 h1 h2 h3 h4 => ?_
  exact q.1 _ _ HB2 H2 h (hE.setOwn k (x1.trans x2) (x1.h.free h1) h2 h3 h4)
end
end Y
end S_Lay5

section S_Lay6
set_option maxHeartbeats 2000000
namespace Y
open PySem PySem.Spec PyProof.Rows L2
/-! ### a def -/
structure DefOk (K : PySem.W.Frag) (mg : Str → Option Value) (x : Str) (st : Stmt) (kws : List (Str × V)) : Prop where
  ex : ∃ (f : Addr) (fd : FuncData), mg x = some (.ref f) ∧ FunD K x x (defArgs st) (defBody st) (defScope st) [] kws f fd
def rho0 (N : List Str) (ds : List D) : Rho := ds.map Slot.val ++ List.replicate (N.length - ds.length) Slot.any
/-- how a body is entered -/
structure Fx where
  f : Addr
  cdv : Value
  A : Around
  outer : List Env
  s : Shared
  H : Hp
  E : XK
abbrev cxY (P : Program) (w : World) (K : PySem.W.Frag) (mg : Str → Option Value) (base : Heap) (N : List Str) (qual : Str) (sc : Scope) (Y : Fx) : Cx := (cxOf CX0 P w K mg base N qual sc Y.f Y.cdv Y.A Y.outer Y.s Y.H Y.E).nox
theorem env_start {K : PySem.W.Frag} {HB H : Hp} {N : List Str} {vs : List V} {ds : List D} (e : Ex HB H) (r : RpAll K HB vs ds) : EnvOk K HB H (L2.start N vs) (rho0 N ds) := by
  have noown : ∀ (i : Nat) (es : List D), (rho0 N ds)[i]? ≠ some (.own es) := fun i es h => by
    unfold rho0 at h
    have := List.mem_of_getElem? h
    rcases List.mem_append.mp this with m | m
    · obtain ⟨d, _, e⟩ := List.mem_map.mp m
      cases e
    · have := (List.mem_replicate.mp m).2
      cases this
  refine ⟨e, ?_, fun i o s h1 h2 => ?_, fun i j p ds' es h1 => absurd h1 (noown i ds')⟩
  · unfold L2.start rho0
    simp only [List.length_append, List.length_map, List.length_replicate, r.length]
  · by_cases hi : i < ds.length
    · unfold rho0 at h2
      rw [List.getElem?_append_left (by rw [List.length_map]; exact hi), List.getElem?_map, List.getElem?_eq_getElem hi] at h2
      have e2 : Slot.val ds[i] = s := Option.some.inj h2
      subst e2
      obtain ⟨v, h3, h4⟩ := r.get (List.getElem?_eq_getElem hi)
      unfold L2.start at h1
      have hv : i < vs.length := by rw [r.length]; exact hi
      rw [List.getElem?_append_left (by rw [List.length_map]; exact hv), List.getElem?_map, h3] at h1
      have e3 : some v = o := Option.some.inj h1
      subst e3
      exact ⟨v, rfl, h4⟩
    · unfold rho0 at h2
      rw [List.getElem?_append_right (by rw [List.length_map]; omega), List.getElem?_replicate] at h2
      split at h2
      · cases h2
        trivial
      · cases h2
section
variable {P : Program} {w : World} {K : PySem.W.Frag} {mg : Str → Option Value} {base : Heap} {k : Nat} {x : Str} {st : Stmt} {N ps : List Str} {ds : List D} {d : D}
theorem noown {i : Nat} {es : List D} : (rho0 N ds)[i]? ≠ some (.own es) := fun h => by
  have := List.mem_of_getElem? h
  unfold rho0 at this
  rcases List.mem_append.mp this with m | m
  · obtain ⟨d, _, e⟩ := List.mem_map.mp m
    cases e
  · have := (List.mem_replicate.mp m).2
    cases this
theorem fn_body {f : Addr} {fd : FuncData} {kws : List (Str × V)} (F : FunD K x x (defArgs st) (defBody st) (defScope st) [] kws f fd) (S : FnScope N ps (defScope st)) (hl : ds.length = ps.length) (hn : ∀ es, d ≠ .new es)
    (hbody : ∀ Y : Fx, Room k (cxY P w K mg base N x (defScope st) Y).A → Bd (cxY P w K mg base N x (defScope st) Y) (rho0 N ds) (defBody st) ⟨fun _ => d = .non, fun d' => d' = d⟩) : FnOk P w K mg base CX0 (k + 1) f fd ps (spOne K ds d) := by
  refine F.ok S (fun vs H Q E h => ?_) (fun cdv A outer s H vs Q E hr h => ?_)
  · obtain ⟨HB, _, r, _⟩ := h
    rw [r.length, hl]
  · obtain ⟨HB, e, r, q⟩ := h
    refine ⟨wpB (cxY P w K mg base N x (defScope st) ⟨f, cdv, A, outer, s, H, E⟩) (defBody st), PSs.nox pss_wp, ?_⟩
    refine hbody ⟨f, cdv, A, outer, s, H, E⟩ hr HB H (L2.start N vs) HB H ⟨env_start e r, Step.refl e, fun i es p h1 => absurd h1 noown⟩ _ ⟨fun ρ' σ' HB' H' hn hE => ?_, fun d' v HB' H' hd hs hv => ?_, fun es p us HB' H' hd => absurd hd.symm (hn es)⟩
    · have hn' : d = .non := hn
      subst hn'
      exact q .non HB' H' hE.s .non
    · have hd' : d' = d := hd
      subst hd'
      exact q v HB' H' hs hv
theorem fn_bodyN {f : Addr} {fd : FuncData} {kws : List (Str × V)} {es : List D} (F : FunD K x x (defArgs st) (defBody st) (defScope st) [] kws f fd) (S : FnScope N ps (defScope st)) (hl : ds.length = ps.length)
    (hbody : ∀ Y : Fx, Room k (cxY P w K mg base N x (defScope st) Y).A → Bd (cxY P w K mg base N x (defScope st) Y) (rho0 N ds) (defBody st) ⟨fun _ => False, fun d' => d' = .new es⟩) : FnOk P w K mg base CX0 (k + 1) f fd ps (spNew K ds es) := by
  refine F.ok S (fun vs H Q E h => ?_) (fun cdv A outer s H vs Q E hr h => ?_)
  · obtain ⟨HB, _, r, _⟩ := h
    rw [r.length, hl]
  · obtain ⟨HB, e, r, q⟩ := h
    refine ⟨wpB (cxY P w K mg base N x (defScope st) ⟨f, cdv, A, outer, s, H, E⟩) (defBody st), PSs.nox pss_wp, ?_⟩
    refine hbody ⟨f, cdv, A, outer, s, H, E⟩ hr HB H (L2.start N vs) HB H ⟨env_start e r, Step.refl e, fun i es p h1 => absurd h1 noown⟩ _ ⟨fun ρ' σ' HB' H' hn hE => False.elim hn, fun d' v HB' H' hd hs hv => ?_, fun es' p us HB' H' hd hs h1 h2 h3 h4 => ?_⟩
    · have hd' : d' = .new es := hd
      subst hd'
      cases hv
    · have hd' : D.new es' = .new es := hd
      cases hd'
      exact q p us HB' H' hs h1 h2 h3 h4
theorem nn_hyp {d : D} (h : match d with | .new _ => False | _ => True) : ∀ es, d ≠ .new es := fun es e => by
  subst e
  exact h
theorem cal_of (T : DefOk K mg x st []) (S : FnScope N ps (defScope st)) (hb : ∀ (kV doc pm : Value) (an : Option Addr) (cdv ct : Value) (us : List Value), us.length = ps.length → bindArgs (PySem.W.fnOf x x (defArgs st) (defBody st) (defScope st) .none kV doc pm an cdv ct) ⟨us, []⟩ = pure (ps.zip us))
    (hl : ds.length = ps.length)
    (hbody : ∀ Y : Fx, Room k (cxY P w K mg base N x (defScope st) Y).A → Bd (cxY P w K mg base N x (defScope st) Y) (rho0 N ds) (defBody st) ⟨fun _ => d = .non, fun d' => d' = d⟩) (hn : ∀ es, d ≠ .new es := by exact nn_hyp trivial) : Cal P w K mg base (k + 1) x ds d := by
  obtain ⟨f, fd, hm, F⟩ := T.ex
  exact ⟨f, fd, ps, hm, F.kp, F.bindsN hb, fn_body F S hl hn hbody⟩
theorem caln_of {es : List D} (T : DefOk K mg x st []) (S : FnScope N ps (defScope st)) (hb : ∀ (kV doc pm : Value) (an : Option Addr) (cdv ct : Value) (us : List Value), us.length = ps.length → bindArgs (PySem.W.fnOf x x (defArgs st) (defBody st) (defScope st) .none kV doc pm an cdv ct) ⟨us, []⟩ = pure (ps.zip us))
    (hl : ds.length = ps.length)
    (hbody : ∀ Y : Fx, Room k (cxY P w K mg base N x (defScope st) Y).A → Bd (cxY P w K mg base N x (defScope st) Y) (rho0 N ds) (defBody st) ⟨fun _ => False, fun d' => d' = .new es⟩) : CalN P w K mg base (k + 1) x ds es := by
  obtain ⟨f, fd, hm, F⟩ := T.ex
  exact ⟨f, fd, ps, hm, F.kp, F.bindsN hb, fn_bodyN F S hl hbody⟩
/-- one keyword -/
theorem calk_of {n : Nat} {kw : Str} {d0 : D} {kws : List (Str × V)} (T : DefOk K mg x st kws) (S : FnScope N ps (defScope st)) (hb : ∀ (kV doc pm : Value) (an : Option Addr) (cdv ct : Value) (us ws : List Value), us.length = ds.length → ws.length = 1 → bindArgs (PySem.W.fnOf x x (defArgs st) (defBody st) (defScope st) .none kV doc pm an cdv ct) ⟨us, [kw].zip ws⟩ = pure (ps.zip (us ++ ws)))
    (hl : (ds ++ [d0]).length = ps.length)
    (hbody : ∀ Y : Fx, Room k (cxY P w K mg base N x (defScope st) Y).A → Bd (cxY P w K mg base N x (defScope st) Y) (rho0 N (ds ++ [d0])) (defBody st) ⟨fun _ => d = .non, fun d' => d' = d⟩) (hn : ∀ es, d ≠ .new es := by exact nn_hyp trivial) : CalK P w K mg base (k + 1) x kw ds d0 d := by
  obtain ⟨f, fd, hm, F⟩ := T.ex
  refine ⟨f, fd, ps, hm, F.kp, ⟨fun s us ws X l1 l2 => ?_, fun r1 r2 => r1.append r2⟩, fn_body F S hl hn hbody⟩
  obtain ⟨oc, od, dV, kV, doc, pm, an, cdv, ct, osl, rfl, lk, hcd, hD, hK⟩ := F.ex
  rcases hD with ⟨_, rfl⟩ | ⟨e, _⟩
  · exact .of_eq (hb kV doc pm an cdv ct us ws l1 l2)
  · exact absurd rfl e
theorem Cal.mono {j : Nat} (C : Cal P w K mg base j x ds d) (h : j ≤ k) : Cal P w K mg base k x ds d := by
  obtain ⟨f, fd, ps, h1, h2, h3, h4⟩ := C.ex
  exact ⟨f, fd, ps, h1, h2, h3, h4.mono h⟩
end
/-! ### short words -/
abbrev lI (ns : List Int) : D := .lst (ns.map D.int)
section
variable {X : Cx}
theorem nm {x : Str} {pos : Pos} (i : Nat) (hN : X.N[i]? = some x) (hv : Vis X.env.scope x) (hd : (x == ("__debug__" : Str)) = false) (hc : (x == ("__classdict__" : Str)) = false) : PE X (.Name x pos) (tVar i) := pe_var hN hv hd hc
end
end Y
end S_Lay6

section S_Names
set_option maxHeartbeats 4000000
namespace Y
open PySem PySem.Spec PyProof.Rows L2
def topS (i : Nat) : Stmt := PySem.Challenge.pw_climbrow_k55_whole_lookers_of_values.main.body.getD i (.Pass ⟨0, 0, 0, 0⟩)
abbrev s_check_hands : Stmt := topS 17
abbrev s_check_letters : Stmt := topS 18
abbrev s_check_word : Stmt := topS 19
abbrev s_lays_before_last : Stmt := topS 20
abbrev s_wins : Stmt := topS 23
abbrev s_deck : Stmt := topS 24
abbrev s_heights : Stmt := topS 26
abbrev s_peak : Stmt := topS 27
abbrev s_valley : Stmt := topS 28
abbrev s_places_at : Stmt := topS 29
abbrev s_peak_places : Stmt := topS 30
abbrev s_valley_places : Stmt := topS 31
abbrev s_is_pairing : Stmt := topS 33
abbrev s_wins_of : Stmt := topS 34
abbrev s_height_at : Stmt := topS 35
abbrev s_look_span : Stmt := topS 36
abbrev s_card_levels : Stmt := topS 37
abbrev s_shows_row : Stmt := topS 38
abbrev s_look_row : Stmt := topS 39
abbrev s_counted_value : Stmt := topS 40
abbrev s_look_value : Stmt := topS 41
abbrev s_side_levels : Stmt := topS 43
abbrev s_row_of : Stmt := topS 44
abbrev s_mates : Stmt := topS 45
abbrev s_rotation : Stmt := topS 47
abbrev s_least : Stmt := topS 49
abbrev s_most : Stmt := topS 50
abbrev s_entry_value : Stmt := topS 52
abbrev s_value : Stmt := topS 53
abbrev s_span_paper : Stmt := topS 55
abbrev s_row_paper : Stmt := topS 56
abbrev s_value_paper : Stmt := topS 57
abbrev s_law_cell : Stmt := topS 59
abbrev s_law_draws : Stmt := topS 60
abbrev s_law_hand : Stmt := topS 61
abbrev s_law_hands : Stmt := topS 62
abbrev s_law_word : Stmt := topS 63
abbrev s_law_pairing : Stmt := topS 64
abbrev s_law_is_int : Stmt := topS 65
abbrev s_law_is_ints : Stmt := topS 66
abbrev s_law_result : Stmt := topS 67
abbrev s_law_least : Stmt := topS 68
abbrev s_law_most : Stmt := topS 69
abbrev s_law_order : Stmt := topS 70
abbrev s_law_value : Stmt := topS 71
abbrev s_law_walk : Stmt := topS 72
abbrev s_law_levels : Stmt := topS 73
abbrev s_law_mates : Stmt := topS 74
abbrev s_law_rotation : Stmt := topS 75
abbrev s_law_form_good : Stmt := topS 76
abbrev s_law_part : Stmt := topS 77
abbrev s_law_copy : Stmt := topS 78
abbrev s_law_near : Stmt := topS 79
abbrev s_law_pairings_near : Stmt := topS 80
abbrev s_law_places : Stmt := topS 81
abbrev s_law_rows_near : Stmt := topS 82
abbrev s_law_words_near : Stmt := topS 83
abbrev s_law_height_is : Stmt := topS 84
abbrev s_law_span_right : Stmt := topS 85
abbrev s_law_row_right : Stmt := topS 86
abbrev s_law_value_right : Stmt := topS 87
abbrev s_law_look_good : Stmt := topS 88
abbrev s_law_looks_good : Stmt := topS 89
abbrev s_law_spans_good : Stmt := topS 90
abbrev s_law_rows_good : Stmt := topS 91
abbrev s_law_values_good : Stmt := topS 92
abbrev s_law_refused : Stmt := topS 93
abbrev s_law_errors_good : Stmt := topS 94
abbrev s_law : Stmt := topS 95
def d_check_hands : He.DefD := ⟨("check_hands", none), "check_hands", "check_hands", defArgs s_check_hands, defBody s_check_hands, defScope s_check_hands, [], []⟩
def d_check_letters : He.DefD := ⟨("check_letters", none), "check_letters", "check_letters", defArgs s_check_letters, defBody s_check_letters, defScope s_check_letters, [], []⟩
def d_check_word : He.DefD := ⟨("check_word", none), "check_word", "check_word", defArgs s_check_word, defBody s_check_word, defScope s_check_word, [], []⟩
def d_lays_before_last : He.DefD := ⟨("lays_before_last", none), "lays_before_last", "lays_before_last", defArgs s_lays_before_last, defBody s_lays_before_last, defScope s_lays_before_last, [], []⟩
def d_wins : He.DefD := ⟨("wins", none), "wins", "wins", defArgs s_wins, defBody s_wins, defScope s_wins, [], []⟩
def d_deck : He.DefD := ⟨("deck", none), "deck", "deck", defArgs s_deck, defBody s_deck, defScope s_deck, [], []⟩
def d_heights : He.DefD := ⟨("heights", none), "heights", "heights", defArgs s_heights, defBody s_heights, defScope s_heights, [], []⟩
def d_peak : He.DefD := ⟨("peak", none), "peak", "peak", defArgs s_peak, defBody s_peak, defScope s_peak, [], []⟩
def d_valley : He.DefD := ⟨("valley", none), "valley", "valley", defArgs s_valley, defBody s_valley, defScope s_valley, [], []⟩
def d_places_at : He.DefD := ⟨("places_at", none), "places_at", "places_at", defArgs s_places_at, defBody s_places_at, defScope s_places_at, [], []⟩
def d_peak_places : He.DefD := ⟨("peak_places", none), "peak_places", "peak_places", defArgs s_peak_places, defBody s_peak_places, defScope s_peak_places, [], []⟩
def d_valley_places : He.DefD := ⟨("valley_places", none), "valley_places", "valley_places", defArgs s_valley_places, defBody s_valley_places, defScope s_valley_places, [], []⟩
def d_is_pairing : He.DefD := ⟨("is_pairing", none), "is_pairing", "is_pairing", defArgs s_is_pairing, defBody s_is_pairing, defScope s_is_pairing, [], []⟩
def d_wins_of : He.DefD := ⟨("wins_of", none), "wins_of", "wins_of", defArgs s_wins_of, defBody s_wins_of, defScope s_wins_of, [], []⟩
def d_height_at : He.DefD := ⟨("height_at", none), "height_at", "height_at", defArgs s_height_at, defBody s_height_at, defScope s_height_at, [], []⟩
def d_look_span : He.DefD := ⟨("look_span", none), "look_span", "look_span", defArgs s_look_span, defBody s_look_span, defScope s_look_span, [], []⟩
def d_card_levels : He.DefD := ⟨("card_levels", none), "card_levels", "card_levels", defArgs s_card_levels, defBody s_card_levels, defScope s_card_levels, [], []⟩
def d_shows_row : He.DefD := ⟨("shows_row", none), "shows_row", "shows_row", defArgs s_shows_row, defBody s_shows_row, defScope s_shows_row, [], []⟩
def d_look_row : He.DefD := ⟨("look_row", none), "look_row", "look_row", defArgs s_look_row, defBody s_look_row, defScope s_look_row, [], []⟩
def d_counted_value : He.DefD := ⟨("counted_value", none), "counted_value", "counted_value", defArgs s_counted_value, defBody s_counted_value, defScope s_counted_value, [], []⟩
def d_look_value : He.DefD := ⟨("look_value", none), "look_value", "look_value", defArgs s_look_value, defBody s_look_value, defScope s_look_value, [], []⟩
def d_side_levels : He.DefD := ⟨("side_levels", none), "side_levels", "side_levels", defArgs s_side_levels, defBody s_side_levels, defScope s_side_levels, [], []⟩
def d_row_of : He.DefD := ⟨("row_of", none), "row_of", "row_of", defArgs s_row_of, defBody s_row_of, defScope s_row_of, [], []⟩
def d_mates : He.DefD := ⟨("mates", none), "mates", "mates", defArgs s_mates, defBody s_mates, defScope s_mates, [], []⟩
def d_rotation : He.DefD := ⟨("rotation", none), "rotation", "rotation", defArgs s_rotation, defBody s_rotation, defScope s_rotation, [], []⟩
def d_least : He.DefD := ⟨("least", none), "least", "least", defArgs s_least, defBody s_least, defScope s_least, [], []⟩
def d_most : He.DefD := ⟨("most", none), "most", "most", defArgs s_most, defBody s_most, defScope s_most, [], []⟩
def d_entry_value : He.DefD := ⟨("entry_value", none), "entry_value", "entry_value", defArgs s_entry_value, defBody s_entry_value, defScope s_entry_value, [], []⟩
def d_value : He.DefD := ⟨("value", none), "value", "value", defArgs s_value, defBody s_value, defScope s_value, [], [("many", .str "mine")]⟩
def d_span_paper : He.DefD := ⟨("span_paper", none), "span_paper", "span_paper", defArgs s_span_paper, defBody s_span_paper, defScope s_span_paper, [], []⟩
def d_row_paper : He.DefD := ⟨("row_paper", none), "row_paper", "row_paper", defArgs s_row_paper, defBody s_row_paper, defScope s_row_paper, [], []⟩
def d_value_paper : He.DefD := ⟨("value_paper", none), "value_paper", "value_paper", defArgs s_value_paper, defBody s_value_paper, defScope s_value_paper, [], [("many", .str "mine")]⟩
def d_law_cell : He.DefD := ⟨("_law_cell", none), "_law_cell", "_law_cell", defArgs s_law_cell, defBody s_law_cell, defScope s_law_cell, [], []⟩
def d_law_draws : He.DefD := ⟨("_law_draws", none), "_law_draws", "_law_draws", defArgs s_law_draws, defBody s_law_draws, defScope s_law_draws, [], []⟩
def d_law_hand : He.DefD := ⟨("_law_hand", none), "_law_hand", "_law_hand", defArgs s_law_hand, defBody s_law_hand, defScope s_law_hand, [], []⟩
def d_law_hands : He.DefD := ⟨("_law_hands", none), "_law_hands", "_law_hands", defArgs s_law_hands, defBody s_law_hands, defScope s_law_hands, [], []⟩
def d_law_word : He.DefD := ⟨("_law_word", none), "_law_word", "_law_word", defArgs s_law_word, defBody s_law_word, defScope s_law_word, [], []⟩
def d_law_pairing : He.DefD := ⟨("_law_pairing", none), "_law_pairing", "_law_pairing", defArgs s_law_pairing, defBody s_law_pairing, defScope s_law_pairing, [], []⟩
def d_law_is_int : He.DefD := ⟨("_law_is_int", none), "_law_is_int", "_law_is_int", defArgs s_law_is_int, defBody s_law_is_int, defScope s_law_is_int, [], []⟩
def d_law_is_ints : He.DefD := ⟨("_law_is_ints", none), "_law_is_ints", "_law_is_ints", defArgs s_law_is_ints, defBody s_law_is_ints, defScope s_law_is_ints, [], []⟩
def d_law_result : He.DefD := ⟨("_law_result", none), "_law_result", "_law_result", defArgs s_law_result, defBody s_law_result, defScope s_law_result, [], []⟩
def d_law_least : He.DefD := ⟨("_law_least", none), "_law_least", "_law_least", defArgs s_law_least, defBody s_law_least, defScope s_law_least, [], []⟩
def d_law_most : He.DefD := ⟨("_law_most", none), "_law_most", "_law_most", defArgs s_law_most, defBody s_law_most, defScope s_law_most, [], []⟩
def d_law_order : He.DefD := ⟨("_law_order", none), "_law_order", "_law_order", defArgs s_law_order, defBody s_law_order, defScope s_law_order, [], []⟩
def d_law_value : He.DefD := ⟨("_law_value", none), "_law_value", "_law_value", defArgs s_law_value, defBody s_law_value, defScope s_law_value, [], []⟩
def d_law_walk : He.DefD := ⟨("_law_walk", none), "_law_walk", "_law_walk", defArgs s_law_walk, defBody s_law_walk, defScope s_law_walk, [], []⟩
def d_law_levels : He.DefD := ⟨("_law_levels", none), "_law_levels", "_law_levels", defArgs s_law_levels, defBody s_law_levels, defScope s_law_levels, [], []⟩
def d_law_mates : He.DefD := ⟨("_law_mates", none), "_law_mates", "_law_mates", defArgs s_law_mates, defBody s_law_mates, defScope s_law_mates, [], []⟩
def d_law_rotation : He.DefD := ⟨("_law_rotation", none), "_law_rotation", "_law_rotation", defArgs s_law_rotation, defBody s_law_rotation, defScope s_law_rotation, [], []⟩
def d_law_form_good : He.DefD := ⟨("_law_form_good", none), "_law_form_good", "_law_form_good", defArgs s_law_form_good, defBody s_law_form_good, defScope s_law_form_good, [], []⟩
def d_law_part : He.DefD := ⟨("_law_part", none), "_law_part", "_law_part", defArgs s_law_part, defBody s_law_part, defScope s_law_part, [], []⟩
def d_law_copy : He.DefD := ⟨("_law_copy", none), "_law_copy", "_law_copy", defArgs s_law_copy, defBody s_law_copy, defScope s_law_copy, [], []⟩
def d_law_near : He.DefD := ⟨("_law_near", none), "_law_near", "_law_near", defArgs s_law_near, defBody s_law_near, defScope s_law_near, [], []⟩
def d_law_pairings_near : He.DefD := ⟨("_law_pairings_near", none), "_law_pairings_near", "_law_pairings_near", defArgs s_law_pairings_near, defBody s_law_pairings_near, defScope s_law_pairings_near, [], []⟩
def d_law_places : He.DefD := ⟨("_law_places", none), "_law_places", "_law_places", defArgs s_law_places, defBody s_law_places, defScope s_law_places, [], []⟩
def d_law_rows_near : He.DefD := ⟨("_law_rows_near", none), "_law_rows_near", "_law_rows_near", defArgs s_law_rows_near, defBody s_law_rows_near, defScope s_law_rows_near, [], []⟩
def d_law_words_near : He.DefD := ⟨("_law_words_near", none), "_law_words_near", "_law_words_near", defArgs s_law_words_near, defBody s_law_words_near, defScope s_law_words_near, [], []⟩
def d_law_height_is : He.DefD := ⟨("_law_height_is", none), "_law_height_is", "_law_height_is", defArgs s_law_height_is, defBody s_law_height_is, defScope s_law_height_is, [], []⟩
def d_law_span_right : He.DefD := ⟨("_law_span_right", none), "_law_span_right", "_law_span_right", defArgs s_law_span_right, defBody s_law_span_right, defScope s_law_span_right, [], []⟩
def d_law_row_right : He.DefD := ⟨("_law_row_right", none), "_law_row_right", "_law_row_right", defArgs s_law_row_right, defBody s_law_row_right, defScope s_law_row_right, [], []⟩
def d_law_value_right : He.DefD := ⟨("_law_value_right", none), "_law_value_right", "_law_value_right", defArgs s_law_value_right, defBody s_law_value_right, defScope s_law_value_right, [], []⟩
def d_law_look_good : He.DefD := ⟨("_law_look_good", none), "_law_look_good", "_law_look_good", defArgs s_law_look_good, defBody s_law_look_good, defScope s_law_look_good, [], []⟩
def d_law_looks_good : He.DefD := ⟨("_law_looks_good", none), "_law_looks_good", "_law_looks_good", defArgs s_law_looks_good, defBody s_law_looks_good, defScope s_law_looks_good, [], []⟩
def d_law_spans_good : He.DefD := ⟨("_law_spans_good", none), "_law_spans_good", "_law_spans_good", defArgs s_law_spans_good, defBody s_law_spans_good, defScope s_law_spans_good, [], []⟩
def d_law_rows_good : He.DefD := ⟨("_law_rows_good", none), "_law_rows_good", "_law_rows_good", defArgs s_law_rows_good, defBody s_law_rows_good, defScope s_law_rows_good, [], []⟩
def d_law_values_good : He.DefD := ⟨("_law_values_good", none), "_law_values_good", "_law_values_good", defArgs s_law_values_good, defBody s_law_values_good, defScope s_law_values_good, [], []⟩
def d_law_refused : He.DefD := ⟨("_law_refused", none), "_law_refused", "_law_refused", defArgs s_law_refused, defBody s_law_refused, defScope s_law_refused, [], []⟩
def d_law_errors_good : He.DefD := ⟨("_law_errors_good", none), "_law_errors_good", "_law_errors_good", defArgs s_law_errors_good, defBody s_law_errors_good, defScope s_law_errors_good, [], []⟩
def d_law : He.DefD := ⟨("law", none), "law", "law", defArgs s_law, defBody s_law, defScope s_law, [], []⟩
def fn0 : List He.DefD := [d_check_hands, d_check_letters, d_check_word, d_lays_before_last, d_wins, d_deck, d_heights, d_peak, d_valley, d_places_at, d_peak_places, d_valley_places, d_is_pairing, d_wins_of, d_height_at]
def fn1 : List He.DefD := [d_look_span, d_card_levels, d_shows_row, d_look_row, d_counted_value, d_look_value, d_side_levels, d_row_of, d_mates, d_rotation, d_least, d_most, d_entry_value, d_value, d_span_paper]
def fn2 : List He.DefD := [d_row_paper, d_value_paper, d_law_cell, d_law_draws, d_law_hand, d_law_hands, d_law_word, d_law_pairing, d_law_is_int, d_law_is_ints, d_law_result, d_law_least, d_law_most, d_law_order, d_law_value]
def fn3 : List He.DefD := [d_law_walk, d_law_levels, d_law_mates, d_law_rotation, d_law_form_good, d_law_part, d_law_copy, d_law_near, d_law_pairings_near, d_law_places, d_law_rows_near, d_law_words_near, d_law_height_is, d_law_span_right, d_law_row_right]
def fn4 : List He.DefD := [d_law_value_right, d_law_look_good, d_law_looks_good, d_law_spans_good, d_law_rows_good, d_law_values_good, d_law_refused, d_law_errors_good, d_law]
def fn : List He.DefD := fn0 ++ fn1 ++ fn2 ++ fn3 ++ fn4
def ls0 : List Str := ["ClimbrowError", "BadHands", "BadWord", "Unsteady", "BadCard", "BadPairing", "BadPlace", "OutOfTurn", "Unreachable", "Contradiction", "BadBounds", "BadSchedule"]
def ls1 : List Str := ["BadText", "UnknownName", "DuplicateName", "check_hands", "check_letters", "check_word", "lays_before_last", "SIDES", "wins", "deck", "heights", "peak"]
def ls2 : List Str := ["valley", "places_at", "peak_places", "valley_places", "is_pairing", "wins_of", "height_at", "look_span", "card_levels", "shows_row", "look_row", "counted_value"]
def ls3 : List Str := ["look_value", "side_levels", "row_of", "mates", "rotation", "least", "most", "entry_value", "value", "span_paper", "row_paper", "value_paper"]
def ls4 : List Str := ["_law_cell", "_law_draws", "_law_hand", "_law_hands", "_law_word", "_law_pairing", "_law_is_int", "_law_is_ints", "_law_result", "_law_least", "_law_most", "_law_order"]
def ls5 : List Str := ["_law_value", "_law_walk", "_law_levels", "_law_mates", "_law_rotation", "_law_form_good", "_law_part", "_law_copy", "_law_near", "_law_pairings_near", "_law_places", "_law_rows_near"]
def ls6 : List Str := ["_law_words_near", "_law_height_is", "_law_span_right", "_law_row_right", "_law_value_right", "_law_look_good", "_law_looks_good", "_law_spans_good", "_law_rows_good", "_law_values_good", "_law_refused", "_law_errors_good"]
def ls : List Str := ls0 ++ ls1 ++ ls2 ++ ls3 ++ ls4 ++ ls5 ++ ls6
abbrev N_check_hands : List Str := ["mine", "theirs"]
theorem sc_check_hands : FnScope N_check_hands ["mine", "theirs"] (defScope s_check_hands) := ⟨rfl, rfl, rfl, by decide +kernel, rfl, by decide +kernel, by decide +kernel⟩
abbrev N_check_letters : List Str := ["word", "most", "position"]
theorem sc_check_letters : FnScope N_check_letters ["word", "most"] (defScope s_check_letters) := ⟨rfl, rfl, rfl, by decide +kernel, rfl, by decide +kernel, by decide +kernel⟩
abbrev N_check_word : List Str := ["word", "count"]
theorem sc_check_word : FnScope N_check_word ["word", "count"] (defScope s_check_word) := ⟨rfl, rfl, rfl, by decide +kernel, rfl, by decide +kernel, by decide +kernel⟩
abbrev N_lays_before_last : List Str := ["word", "early"]
theorem sc_lays_before_last : FnScope N_lays_before_last ["word"] (defScope s_lays_before_last) := ⟨rfl, rfl, rfl, by decide +kernel, rfl, by decide +kernel, by decide +kernel⟩
abbrev N_wins : List Str := ["my_number", "their_number"]
theorem sc_wins : FnScope N_wins ["my_number", "their_number"] (defScope s_wins) := ⟨rfl, rfl, rfl, by decide +kernel, rfl, by decide +kernel, by decide +kernel⟩
abbrev N_deck : List Str := ["mine", "theirs", "cards", "index", "card"]
theorem sc_deck : FnScope N_deck ["mine", "theirs"] (defScope s_deck) := ⟨rfl, rfl, rfl, by decide +kernel, rfl, by decide +kernel, by decide +kernel⟩
abbrev N_heights : List Str := ["mine", "theirs", "height", "walk", "card"]
theorem sc_heights : FnScope N_heights ["mine", "theirs"] (defScope s_heights) := ⟨rfl, rfl, rfl, by decide +kernel, rfl, by decide +kernel, by decide +kernel⟩
abbrev N_peak : List Str := ["mine", "theirs"]
theorem sc_peak : FnScope N_peak ["mine", "theirs"] (defScope s_peak) := ⟨rfl, rfl, rfl, by decide +kernel, rfl, by decide +kernel, by decide +kernel⟩
abbrev N_valley : List Str := ["mine", "theirs"]
theorem sc_valley : FnScope N_valley ["mine", "theirs"] (defScope s_valley) := ⟨rfl, rfl, rfl, by decide +kernel, rfl, by decide +kernel, by decide +kernel⟩
abbrev N_places_at : List Str := ["walk", "height", "place"]
theorem sc_places_at : FnScope N_places_at ["walk", "height"] (defScope s_places_at) := ⟨rfl, rfl, rfl, by decide +kernel, rfl, by decide +kernel, by decide +kernel⟩
abbrev N_peak_places : List Str := ["mine", "theirs", "walk"]
theorem sc_peak_places : FnScope N_peak_places ["mine", "theirs"] (defScope s_peak_places) := ⟨rfl, rfl, rfl, by decide +kernel, rfl, by decide +kernel, by decide +kernel⟩
abbrev N_valley_places : List Str := ["mine", "theirs", "walk"]
theorem sc_valley_places : FnScope N_valley_places ["mine", "theirs"] (defScope s_valley_places) := ⟨rfl, rfl, rfl, by decide +kernel, rfl, by decide +kernel, by decide +kernel⟩
abbrev N_is_pairing : List Str := ["pairing", "count", "seen", "entry"]
theorem sc_is_pairing : FnScope N_is_pairing ["pairing", "count"] (defScope s_is_pairing) := ⟨rfl, rfl, rfl, by decide +kernel, rfl, by decide +kernel, by decide +kernel⟩
abbrev N_wins_of : List Str := ["mine", "theirs", "pairing", "m"]
theorem sc_wins_of : FnScope N_wins_of ["mine", "theirs", "pairing"] (defScope s_wins_of) := ⟨rfl, rfl, rfl, by decide +kernel, rfl, by decide +kernel, by decide +kernel⟩
abbrev N_height_at : List Str := ["mine", "theirs", "place", "walk"]
theorem sc_height_at : FnScope N_height_at ["mine", "theirs", "place"] (defScope s_height_at) := ⟨rfl, rfl, rfl, by decide +kernel, rfl, by decide +kernel, by decide +kernel⟩
abbrev N_look_span : List Str := ["mine", "theirs", "paper", "_", "low", "low_place", "low_pairing", "high", "high_place", "high_pairing", "count"]
theorem sc_look_span : FnScope N_look_span ["mine", "theirs", "paper"] (defScope s_look_span) := ⟨rfl, rfl, rfl, by decide +kernel, rfl, by decide +kernel, by decide +kernel⟩
abbrev N_card_levels : List Str := ["mine", "theirs", "walk", "my_levels", "their_levels", "place", "side", "index"]
theorem sc_card_levels : FnScope N_card_levels ["mine", "theirs"] (defScope s_card_levels) := ⟨rfl, rfl, rfl, by decide +kernel, rfl, by decide +kernel, by decide +kernel⟩
abbrev N_shows_row : List Str := ["mine", "theirs", "row", "partners", "my_levels", "their_levels", "m"]
theorem sc_shows_row : FnScope N_shows_row ["mine", "theirs", "row", "partners"] (defScope s_shows_row) := ⟨rfl, rfl, rfl, by decide +kernel, rfl, by decide +kernel, by decide +kernel⟩
abbrev N_look_row : List Str := ["mine", "theirs", "paper"]
theorem sc_look_row : FnScope N_look_row ["mine", "theirs", "paper"] (defScope s_look_row) := ⟨rfl, rfl, rfl, by decide +kernel, rfl, by decide +kernel, by decide +kernel⟩
abbrev N_counted_value : List Str := ["row", "word", "many", "early", "lays"]
theorem sc_counted_value : FnScope N_counted_value ["row", "word", "many"] (defScope s_counted_value) := ⟨rfl, rfl, rfl, by decide +kernel, rfl, by decide +kernel, by decide +kernel⟩
abbrev N_look_value : List Str := ["mine", "theirs", "paper", "_", "word", "many", "worth", "row", "partners"]
theorem sc_look_value : FnScope N_look_value ["mine", "theirs", "paper"] (defScope s_look_value) := ⟨rfl, rfl, rfl, by decide +kernel, rfl, by decide +kernel, by decide +kernel⟩
abbrev N_side_levels : List Str := ["mine", "theirs", "side", "walk", "found", "place", "owner", "index"]
theorem sc_side_levels : FnScope N_side_levels ["mine", "theirs", "side"] (defScope s_side_levels) := ⟨rfl, rfl, rfl, by decide +kernel, rfl, by decide +kernel, by decide +kernel⟩
abbrev N_row_of : List Str := ["mine", "theirs"]
theorem sc_row_of : FnScope N_row_of ["mine", "theirs"] (defScope s_row_of) := ⟨rfl, rfl, rfl, by decide +kernel, rfl, by decide +kernel, by decide +kernel⟩
abbrev N_mates : List Str := ["mine", "theirs", "my_levels", "their_levels", "order", "waiting", "side", "index", "pairing"]
theorem sc_mates : FnScope N_mates ["mine", "theirs"] (defScope s_mates) := ⟨rfl, rfl, rfl, by decide +kernel, rfl, by decide +kernel, by decide +kernel⟩
abbrev N_rotation : List Str := ["mine", "theirs", "r", "count", "order", "my_order", "card", "their_order", "pairing", "rank", "partner"]
theorem sc_rotation : FnScope N_rotation ["mine", "theirs", "r"] (defScope s_rotation) := ⟨rfl, rfl, rfl, by decide +kernel, rfl, by decide +kernel, by decide +kernel⟩
abbrev N_least : List Str := ["mine", "theirs"]
theorem sc_least : FnScope N_least ["mine", "theirs"] (defScope s_least) := ⟨rfl, rfl, rfl, by decide +kernel, rfl, by decide +kernel, by decide +kernel⟩
abbrev N_most : List Str := ["mine", "theirs"]
theorem sc_most : FnScope N_most ["mine", "theirs"] (defScope s_most) := ⟨rfl, rfl, rfl, by decide +kernel, rfl, by decide +kernel, by decide +kernel⟩
abbrev N_entry_value : List Str := ["row", "early", "late"]
theorem sc_entry_value : FnScope N_entry_value ["row", "early", "late"] (defScope s_entry_value) := ⟨rfl, rfl, rfl, by decide +kernel, rfl, by decide +kernel, by decide +kernel⟩
abbrev N_value : List Str := ["row", "word", "many", "mine_lays", "their_lays"]
theorem sc_value : FnScope N_value ["row", "word", "many"] (defScope s_value) := ⟨rfl, rfl, rfl, by decide +kernel, rfl, by decide +kernel, by decide +kernel⟩
abbrev N_span_paper : List Str := ["mine", "theirs", "lowest", "highest", "low_place", "high_place", "low_pairing", "high_pairing"]
theorem sc_span_paper : FnScope N_span_paper ["mine", "theirs"] (defScope s_span_paper) := ⟨rfl, rfl, rfl, by decide +kernel, rfl, by decide +kernel, by decide +kernel⟩
abbrev N_row_paper : List Str := ["mine", "theirs"]
theorem sc_row_paper : FnScope N_row_paper ["mine", "theirs"] (defScope s_row_paper) := ⟨rfl, rfl, rfl, by decide +kernel, rfl, by decide +kernel, by decide +kernel⟩
abbrev N_value_paper : List Str := ["mine", "theirs", "word", "many", "row", "worth"]
theorem sc_value_paper : FnScope N_value_paper ["mine", "theirs", "word", "many"] (defScope s_value_paper) := ⟨rfl, rfl, rfl, by decide +kernel, rfl, by decide +kernel, by decide +kernel⟩
abbrev N_law_cell : List Str := ["_law_script", "_law_k"]
theorem sc_law_cell : FnScope N_law_cell ["_law_script", "_law_k"] (defScope s_law_cell) := ⟨rfl, rfl, rfl, by decide +kernel, rfl, by decide +kernel, by decide +kernel⟩
abbrev N_law_draws : List Str := ["_law_cell_here", "_law_sizes", "_law_digits", "_law_great", "_law_first", "_law_out", "_law_k", "_law_mixed"]
theorem sc_law_draws : FnScope N_law_draws ["_law_cell_here", "_law_sizes"] (defScope s_law_draws) := ⟨rfl, rfl, rfl, by decide +kernel, rfl, by decide +kernel, by decide +kernel⟩
abbrev N_law_hand : List Str := ["_law_cell_here", "_law_count", "_law_kind", "_law_x", "_law_k"]
theorem sc_law_hand : FnScope N_law_hand ["_law_cell_here", "_law_count", "_law_kind"] (defScope s_law_hand) := ⟨rfl, rfl, rfl, by decide +kernel, rfl, by decide +kernel, by decide +kernel⟩
abbrev N_law_hands : List Str := ["_law_script", "_law_at", "_law_count", "_law_shape", "_law_mine", "_law_theirs", "_law_x"]
theorem sc_law_hands : FnScope N_law_hands ["_law_script", "_law_at", "_law_count"] (defScope s_law_hands) := ⟨rfl, rfl, rfl, by decide +kernel, rfl, by decide +kernel, by decide +kernel⟩
abbrev N_law_word : List Str := ["_law_cell_here", "_law_count", "_law_x", "_law_k"]
theorem sc_law_word : FnScope N_law_word ["_law_cell_here", "_law_count"] (defScope s_law_word) := ⟨rfl, rfl, rfl, by decide +kernel, rfl, by decide +kernel, by decide +kernel⟩
abbrev N_law_pairing : List Str := ["_law_cell_here", "_law_count", "_law_free", "_law_k", "_law_out", "_law_x"]
theorem sc_law_pairing : FnScope N_law_pairing ["_law_cell_here", "_law_count"] (defScope s_law_pairing) := ⟨rfl, rfl, rfl, by decide +kernel, rfl, by decide +kernel, by decide +kernel⟩
abbrev N_law_is_int : List Str := ["_law_x"]
theorem sc_law_is_int : FnScope N_law_is_int ["_law_x"] (defScope s_law_is_int) := ⟨rfl, rfl, rfl, by decide +kernel, rfl, by decide +kernel, by decide +kernel⟩
abbrev N_law_is_ints : List Str := ["_law_xs", "_law_x"]
theorem sc_law_is_ints : FnScope N_law_is_ints ["_law_xs"] (defScope s_law_is_ints) := ⟨rfl, rfl, rfl, by decide +kernel, rfl, by decide +kernel, by decide +kernel⟩
abbrev N_law_result : List Str := ["_law_mine", "_law_theirs", "_law_pairing_here", "_law_m"]
theorem sc_law_result : FnScope N_law_result ["_law_mine", "_law_theirs", "_law_pairing_here"] (defScope s_law_result) := ⟨rfl, rfl, rfl, by decide +kernel, rfl, by decide +kernel, by decide +kernel⟩
abbrev N_law_least : List Str := ["_law_mine", "_law_theirs", "_law_best", "_law_x", "_law_y"]
theorem sc_law_least : FnScope N_law_least ["_law_mine", "_law_theirs"] (defScope s_law_least) := ⟨rfl, rfl, rfl, by decide +kernel, rfl, by decide +kernel, by decide +kernel⟩
abbrev N_law_most : List Str := ["_law_mine", "_law_theirs", "_law_worst", "_law_x", "_law_y"]
theorem sc_law_most : FnScope N_law_most ["_law_mine", "_law_theirs"] (defScope s_law_most) := ⟨rfl, rfl, rfl, by decide +kernel, rfl, by decide +kernel, by decide +kernel⟩
abbrev N_law_order : List Str := ["_law_mine", "_law_theirs", "_law_cards", "_law_k"]
theorem sc_law_order : FnScope N_law_order ["_law_mine", "_law_theirs"] (defScope s_law_order) := ⟨rfl, rfl, rfl, by decide +kernel, rfl, by decide +kernel, by decide +kernel⟩
abbrev N_law_value : List Str := ["_law_row", "_law_word_here", "_law_wish", "_law_early", "_law_mine_lays", "_law_x"]
theorem sc_law_value : FnScope N_law_value ["_law_row", "_law_word_here", "_law_wish"] (defScope s_law_value) := ⟨rfl, rfl, rfl, by decide +kernel, rfl, by decide +kernel, by decide +kernel⟩
abbrev N_law_walk : List Str := ["_law_mine", "_law_theirs", "_law_height", "_law_out", "_law_card"]
theorem sc_law_walk : FnScope N_law_walk ["_law_mine", "_law_theirs"] (defScope s_law_walk) := ⟨rfl, rfl, rfl, by decide +kernel, rfl, by decide +kernel, by decide +kernel⟩
abbrev N_law_levels : List Str := ["_law_mine", "_law_theirs", "_law_height", "_law_ours", "_law_x", "_law_others", "_law_card"]
theorem sc_law_levels : FnScope N_law_levels ["_law_mine", "_law_theirs"] (defScope s_law_levels) := ⟨rfl, rfl, rfl, by decide +kernel, rfl, by decide +kernel, by decide +kernel⟩
abbrev N_law_mates : List Str := ["_law_mine", "_law_theirs", "_law_my_levels", "_law_their_levels", "_law_order_here", "_law_my_order", "_law_card", "_law_their_order", "_law_out", "_law_x", "_law_m", "_law_earlier", "_law_k", "_law_equal"]
theorem sc_law_mates : FnScope N_law_mates ["_law_mine", "_law_theirs", "_law_my_levels", "_law_their_levels"] (defScope s_law_mates) := ⟨rfl, rfl, rfl, by decide +kernel, rfl, by decide +kernel, by decide +kernel⟩
abbrev N_law_rotation : List Str := ["_law_mine", "_law_theirs", "_law_r", "_law_ours", "_law_pair", "_law_k", "_law_others", "_law_out", "_law_x", "_law_rank"]
theorem sc_law_rotation : FnScope N_law_rotation ["_law_mine", "_law_theirs", "_law_r"] (defScope s_law_rotation) := ⟨rfl, rfl, rfl, by decide +kernel, rfl, by decide +kernel, by decide +kernel⟩
abbrev N_law_form_good : List Str := ["_law_paper", "_law_form", "_law_k"]
theorem sc_law_form_good : FnScope N_law_form_good ["_law_paper", "_law_form"] (defScope s_law_form_good) := ⟨rfl, rfl, rfl, by decide +kernel, rfl, by decide +kernel, by decide +kernel⟩
abbrev N_law_part : List Str := ["_law_x"]
theorem sc_law_part : FnScope N_law_part ["_law_x"] (defScope s_law_part) := ⟨rfl, rfl, rfl, by decide +kernel, rfl, by decide +kernel, by decide +kernel⟩
abbrev N_law_copy : List Str := ["_law_paper", "_law_x"]
theorem sc_law_copy : FnScope N_law_copy ["_law_paper"] (defScope s_law_copy) := ⟨rfl, rfl, rfl, by decide +kernel, rfl, by decide +kernel, by decide +kernel⟩
abbrev N_law_near : List Str := ["_law_paper", "_law_k", "_law_parts", "_law_x"]
theorem sc_law_near : FnScope N_law_near ["_law_paper", "_law_k", "_law_parts"] (defScope s_law_near) := ⟨rfl, rfl, rfl, by decide +kernel, rfl, by decide +kernel, by decide +kernel⟩
abbrev N_law_pairings_near : List Str := ["_law_pairing_here", "_law_a", "_law_b", "_law_size", "_law_out", "_law_x", "_law_row", "_law_back"]
theorem sc_law_pairings_near : FnScope N_law_pairings_near ["_law_pairing_here", "_law_a", "_law_b"] (defScope s_law_pairings_near) := ⟨rfl, rfl, rfl, by decide +kernel, rfl, by decide +kernel, by decide +kernel⟩
abbrev N_law_places : List Str := ["_law_size", "_law_more", "_law_k", "_law_x"]
theorem sc_law_places : FnScope N_law_places ["_law_size", "_law_more"] (defScope s_law_places) := ⟨rfl, rfl, rfl, by decide +kernel, rfl, by decide +kernel, by decide +kernel⟩
abbrev N_law_rows_near : List Str := ["_law_row", "_law_a", "_law_b", "_law_out", "_law_x", "_law_other", "_law_back"]
theorem sc_law_rows_near : FnScope N_law_rows_near ["_law_row", "_law_a", "_law_b"] (defScope s_law_rows_near) := ⟨rfl, rfl, rfl, by decide +kernel, rfl, by decide +kernel, by decide +kernel⟩
abbrev N_law_words_near : List Str := ["_law_word_here", "_law_a", "_law_b", "_law_out"]
theorem sc_law_words_near : FnScope N_law_words_near ["_law_word_here", "_law_a", "_law_b"] (defScope s_law_words_near) := ⟨rfl, rfl, rfl, by decide +kernel, rfl, by decide +kernel, by decide +kernel⟩
abbrev N_law_height_is : List Str := ["_law_walk_here", "_law_place", "_law_wanted"]
theorem sc_law_height_is : FnScope N_law_height_is ["_law_walk_here", "_law_place", "_law_wanted"] (defScope s_law_height_is) := ⟨rfl, rfl, rfl, by decide +kernel, rfl, by decide +kernel, by decide +kernel⟩
abbrev N_law_span_right : List Str := ["_law_mine", "_law_theirs", "_law_walk_here", "_law_paper", "_law_size", "_law_k"]
theorem sc_law_span_right : FnScope N_law_span_right ["_law_mine", "_law_theirs", "_law_walk_here", "_law_paper"] (defScope s_law_span_right) := ⟨rfl, rfl, rfl, by decide +kernel, rfl, by decide +kernel, by decide +kernel⟩
abbrev N_law_row_right : List Str := ["_law_levels_here", "_law_row", "_law_partners", "_law_k", "_law_t"]
theorem sc_law_row_right : FnScope N_law_row_right ["_law_levels_here", "_law_row", "_law_partners"] (defScope s_law_row_right) := ⟨rfl, rfl, rfl, by decide +kernel, rfl, by decide +kernel, by decide +kernel⟩
abbrev N_law_value_right : List Str := ["_law_levels_here", "_law_paper", "_law_x"]
theorem sc_law_value_right : FnScope N_law_value_right ["_law_levels_here", "_law_paper"] (defScope s_law_value_right) := ⟨rfl, rfl, rfl, by decide +kernel, rfl, by decide +kernel, by decide +kernel⟩
abbrev N_law_look_good : List Str := ["_law_which", "_law_mine", "_law_theirs", "_law_paper", "_law_due", "_law_one", "_law_two", "_law_shown", "_law_told"]
theorem sc_law_look_good : FnScope N_law_look_good ["_law_which", "_law_mine", "_law_theirs", "_law_paper", "_law_due"] (defScope s_law_look_good) := ⟨rfl, rfl, rfl, by decide +kernel, rfl, by decide +kernel, by decide +kernel⟩
abbrev N_law_looks_good : List Str := ["_law_which", "_law_mine", "_law_theirs", "_law_papers", "_law_walk_here", "_law_levels_here", "_law_some", "_law_k", "_law_paper", "_law_due"]
theorem sc_law_looks_good : FnScope N_law_looks_good ["_law_which", "_law_mine", "_law_theirs", "_law_papers"] (defScope s_law_looks_good) := ⟨rfl, rfl, rfl, by decide +kernel, rfl, by decide +kernel, by decide +kernel⟩
abbrev N_law_spans_good : List Str := ["_law_mine", "_law_theirs", "_law_drawn", "_law_more", "_law_size", "_law_walk_here", "_law_low", "_law_high", "_law_due", "_law_one", "_law_two", "_law_again", "_law_paper", "_law_row", "_law_papers", "_law_k", "_law_x", "_law_hits", "_law_p"]
theorem sc_law_spans_good : FnScope N_law_spans_good ["_law_mine", "_law_theirs", "_law_drawn", "_law_more"] (defScope s_law_spans_good) := ⟨rfl, rfl, rfl, by decide +kernel, rfl, by decide +kernel, by decide +kernel⟩
abbrev N_law_rows_good : List Str := ["_law_mine", "_law_theirs", "_law_drawn", "_law_more", "_law_levels_here", "_law_one", "_law_two", "_law_partners", "_law_again", "_law_paper", "_law_row", "_law_due", "_law_papers"]
theorem sc_law_rows_good : FnScope N_law_rows_good ["_law_mine", "_law_theirs", "_law_drawn", "_law_more"] (defScope s_law_rows_good) := ⟨rfl, rfl, rfl, by decide +kernel, rfl, by decide +kernel, by decide +kernel⟩
abbrev N_law_values_good : List Str := ["_law_mine", "_law_theirs", "_law_word_here", "_law_wish", "_law_drawn", "_law_more", "_law_levels_here", "_law_row", "_law_worth", "_law_one", "_law_two", "_law_partners", "_law_again", "_law_paper", "_law_kept", "_law_due", "_law_papers", "_law_letters"]
theorem sc_law_values_good : FnScope N_law_values_good ["_law_mine", "_law_theirs", "_law_word_here", "_law_wish", "_law_drawn", "_law_more"] (defScope s_law_values_good) := ⟨rfl, rfl, rfl, by decide +kernel, rfl, by decide +kernel, by decide +kernel⟩
abbrev N_law_refused : List Str := ["_law_which", "_law_mine", "_law_theirs", "_law_letters", "_law_x", "e", "_law_strange"]
theorem sc_law_refused : FnScope N_law_refused ["_law_which", "_law_mine", "_law_theirs", "_law_letters"] (defScope s_law_refused) := ⟨rfl, rfl, rfl, by decide +kernel, rfl, by decide +kernel, by decide +kernel⟩
abbrev N_law_errors_good : List Str := ["_law_mine", "_law_theirs", "_law_word_here", "_law_a", "_law_size", "_law_hands_here", "_law_which", "_law_letters", "_law_told", "_law_wrong", "_law_k", "_law_due"]
theorem sc_law_errors_good : FnScope N_law_errors_good ["_law_mine", "_law_theirs", "_law_word_here", "_law_a"] (defScope s_law_errors_good) := ⟨rfl, rfl, rfl, by decide +kernel, rfl, by decide +kernel, by decide +kernel⟩
abbrev N_law : List Str := ["_law_script", "_law_shape", "_law_size", "_law_hands_here", "_law_mine", "_law_theirs", "_law_drawn", "_law_word_here", "_law_more", "_law_x", "_law_wish"]
theorem sc_law : FnScope N_law ["_law_script"] (defScope s_law) := ⟨rfl, rfl, rfl, by decide +kernel, rfl, by decide +kernel, by decide +kernel⟩
end Y
end S_Names

section S_Lay7
set_option maxHeartbeats 2000000
namespace Y
open PySem PySem.Spec PyProof.Rows L2
abbrev dW (c : List Nat) : D := .str (wd c)
abbrev dL {α : Type} (f : α → D) (xs : List α) : D := .lst (xs.map f)
section
variable {X : Cx} {ρ ρ' : Rho} {e a b c tg : Expr} {es : List Expr} {d d0 d1 d2 : D} {ds ds1 ds2 : List D} {pos p apos pos' : Pos} {i j : Int} {x y : Str} {α : Type} {st : Stmt} {rest body : List Stmt} {P : Post} {M : Rho → Prop}
theorem ev_strW {k} (cs : List Nat) (h : x = wd cs := by decide +kernel) : Ev X ρ (.Constant (.str x) k pos) (.str (wd cs)) := by
  rw [h]
  exact ev_str
theorem ev_ixM {f : α → D} {xs : List α} {v : α} (ha : EvL X ρ a (xs.map f)) (hb : Ev X ρ b (.int i)) (h : atI xs i = some v) (hs : PlainIx b := by exact fun _ _ => rfl) : Ev X ρ (.Subscript a b pos) (f v) :=
  ev_ixL ha hb (by
    unfold atI at h ⊢
    rw [List.length_map]
    cases e : ixN xs.length i with
    | none =>
      rw [e] at h
      cases h
    | some j =>
      rw [e] at h
      show (xs.map f)[j]? = _
      rw [List.getElem?_map, (show xs[j]? = some v from h)]
      rfl) hs
theorem ev_ixG {f : α → D} {xs : List α} (z : α) (ha : EvL X ρ a (xs.map f)) (hb : Ev X ρ b (.int i)) (h0 : 0 ≤ i) (h1 : i < xs.length) (hs : PlainIx b := by exact fun _ _ => rfl) : Ev X ρ (.Subscript a b pos) (f (xs.getD i.toNat z)) :=
  ev_ixM ha hb (by
    rw [atI_in h0 h1, List.getD_eq_getElem?_getD, List.getElem?_eq_getElem (by omega)]
    rfl) hs
theorem ev_ixN {f : α → D} {xs : List α} {n : Nat} (z : α) (ha : EvL X ρ a (xs.map f)) (hb : Ev X ρ b (dN n)) (h1 : n < xs.length) (hs : PlainIx b := by exact fun _ _ => rfl) : Ev X ρ (.Subscript a b pos) (f (xs.getD n z)) :=
  ev_ixM ha hb (by
    rw [atI_in (by omega) (by omega), Int.toNat_natCast, List.getD_eq_getElem?_getD, List.getElem?_eq_getElem h1]
    rfl) hs
theorem at_nat {xs : List α} {n : Nat} (z : α) (h : n < xs.length) : atI xs (n : Int) = some (xs.getD n z) := by
  rw [atI_in (by omega) (by omega), Int.toNat_natCast, List.getD_eq_getElem?_getD, List.getElem?_eq_getElem h]
  rfl
theorem at_int {xs : List α} {i : Int} (z : α) (h0 : 0 ≤ i) (h : i < xs.length) : atI xs i = some (xs.getD i.toNat z) := by
  rw [atI_in h0 h, List.getD_eq_getElem?_getD, List.getElem?_eq_getElem (by omega)]
  rfl
theorem ix_nat {m n : Nat} (h : n < m) : ixN m (n : Int) = some n := by
  unfold ixN
  rw [if_pos (by omega), if_pos (by omega), Int.toNat_natCast]
theorem ix_int {m : Nat} {i : Int} (h0 : 0 ≤ i) (h : i < m) : ixN m i = some i.toNat := by
  unfold ixN
  rw [if_pos h0, if_pos h]
/-- y = [comprehension], known from the start -/
theorem sd_setLcV {iter elt : Expr} {ifs : List Expr} {scope : Scope} {spos : Pos} {enc : α → D} {k : Nat} (l : Nat) (xs : List α) (cnd : α → Bool) (f : α → D) (hc : X.calm = true) (hN : X.N.Nodup) (hy : X.N[k]? = some y) (hyl : X.env.scope.names.lookup y = some .local)
    (hsw : swapsWith (.ListComp elt [⟨.Name x pos', iter, ifs, 0⟩] scope pos) (some (.Name y p)) spos.line X.env = pure true) (hi : EvI X ρ (.Name x pos') iter (xs.map enc)) (hx : xs.length ≤ 100000) (ok : BlkOk X.N X.env.scope scope [(x, l)])
    (hg : ∀ s H C cl fp, PG (Bk X scope s H C cl fp) (.Name x pos') (gName l))
    (ht : ∀ x ∈ xs, ∀ s H C cl fp, EvTs (Bk X scope s H C cl fp) ((wipeR ρ [l]).set l (.val (enc x))) ifs (cnd x))
    (he : ∀ x ∈ xs, cnd x = true → ∀ s H C cl fp, Ev (Bk X scope s H C cl fp) ((wipeR ρ [l]).set l (.val (enc x))) elt (f x)) (h : P.nx (ρ.set k (.val (.lst ((xs.filter cnd).map f))))) (hs : ∀ x, foldedSetIterable iter X.env x = pure x := by intro _; rfl) :
    Sd X ρ (.Assign [.Name y p] (.ListComp elt [⟨.Name x pos', iter, ifs, 0⟩] scope pos) spos) P := fun HBe He σ HB H hE Dn q => by
  refine sd_setLc (P := { P with nx := fun r => r = ρ.set k (.own ((xs.filter cnd).map f)) }) l xs cnd f hc hN hy hyl hsw hi hx ok hg ht he rfl hs HBe He σ HB H hE Dn ⟨fun r σ' HB' H' e hE' => ?_, q.2⟩
  have e' : r = ρ.set k (.own ((xs.filter cnd).map f)) := e
  subst e'
  by_cases hk : k < ρ.length
  · obtain ⟨HB2, hE2⟩ := hE'.frz (k := k) (ds := (xs.filter cnd).map f) (by rw [List.getElem?_set_self hk])
    rw [List.set_set] at hE2
    exact q.1 _ _ _ _ h hE2
  · rw [List.set_eq_of_length_le (by omega)] at hE' h
    exact q.1 _ _ _ _ h hE'
theorem sd_setLcE {iter elt : Expr} {ifs : List Expr} {scope : Scope} {spos : Pos} {enc : α → D} {k : Nat} (l : Nat) (xs : List α) (cnd : α → Bool) (f : α → D) (L : List D) (hc : X.calm = true) (hN : X.N.Nodup) (hy : X.N[k]? = some y) (hyl : X.env.scope.names.lookup y = some .local)
    (hsw : swapsWith (.ListComp elt [⟨.Name x pos', iter, ifs, 0⟩] scope pos) (some (.Name y p)) spos.line X.env = pure true) (hi : EvI X ρ (.Name x pos') iter (xs.map enc)) (hx : xs.length ≤ 100000) (ok : BlkOk X.N X.env.scope scope [(x, l)])
    (hg : ∀ s H C cl fp, PG (Bk X scope s H C cl fp) (.Name x pos') (gName l))
    (ht : ∀ x ∈ xs, ∀ s H C cl fp, EvTs (Bk X scope s H C cl fp) ((wipeR ρ [l]).set l (.val (enc x))) ifs (cnd x))
    (he : ∀ x ∈ xs, cnd x = true → ∀ s H C cl fp, Ev (Bk X scope s H C cl fp) ((wipeR ρ [l]).set l (.val (enc x))) elt (f x)) (hL : (xs.filter cnd).map f = L) (h : P.nx (ρ.set k (.own L))) (hs : ∀ x, foldedSetIterable iter X.env x = pure x := by intro _; rfl) :
    Sd X ρ (.Assign [.Name y p] (.ListComp elt [⟨.Name x pos', iter, ifs, 0⟩] scope pos) spos) P := by
  subst hL
  exact sd_setLc l xs cnd f hc hN hy hyl hsw hi hx ok hg ht he h hs
theorem sd_setLcVE {iter elt : Expr} {ifs : List Expr} {scope : Scope} {spos : Pos} {enc : α → D} {k : Nat} (l : Nat) (xs : List α) (cnd : α → Bool) (f : α → D) (L : List D) (hc : X.calm = true) (hN : X.N.Nodup) (hy : X.N[k]? = some y) (hyl : X.env.scope.names.lookup y = some .local)
    (hsw : swapsWith (.ListComp elt [⟨.Name x pos', iter, ifs, 0⟩] scope pos) (some (.Name y p)) spos.line X.env = pure true) (hi : EvI X ρ (.Name x pos') iter (xs.map enc)) (hx : xs.length ≤ 100000) (ok : BlkOk X.N X.env.scope scope [(x, l)])
    (hg : ∀ s H C cl fp, PG (Bk X scope s H C cl fp) (.Name x pos') (gName l))
    (ht : ∀ x ∈ xs, ∀ s H C cl fp, EvTs (Bk X scope s H C cl fp) ((wipeR ρ [l]).set l (.val (enc x))) ifs (cnd x))
    (he : ∀ x ∈ xs, cnd x = true → ∀ s H C cl fp, Ev (Bk X scope s H C cl fp) ((wipeR ρ [l]).set l (.val (enc x))) elt (f x)) (hL : (xs.filter cnd).map f = L) (h : P.nx (ρ.set k (.val (.lst L)))) (hs : ∀ x, foldedSetIterable iter X.env x = pure x := by intro _; rfl) :
    Sd X ρ (.Assign [.Name y p] (.ListComp elt [⟨.Name x pos', iter, ifs, 0⟩] scope pos) spos) P := by
  subst hL
  exact sd_setLcV l xs cnd f hc hN hy hyl hsw hi hx ok hg ht he h hs
theorem sd_setM {k : Nat} {o ix : Expr} {sp : Pos} {f : α → D} {xs : List α} {v : α} (ho : PE X o (tVar k)) (hk : ρ[k]? = some (.own (xs.map f))) (he : Ev X ρ e (f v)) (hi : Ev X ρ ix (.int i)) (h0 : 0 ≤ i) (hn : i < xs.length) (h : P.nx (ρ.set k (.own ((xs.set i.toNat v).map f))))
    (hs : swapsWithSole [.Subscript o ix sp] e pos.line X.env = pure false := by rfl) (hw : swappedStores [.Subscript o ix sp] e X.env = pure none := by rfl) (h1 : (assignEach [.Subscript o ix sp] X.env).map (·.2) = [assign (.Subscript o ix sp) X.env] := by rfl)
    (ha : ∀ v, assign (.Subscript o ix sp) X.env v = (do
      let ov ← holding [v] (eval o X.env)
      let iv ← holding [v, ov] (eval ix X.env)
      standAt sp
      holding [v, ov, iv] (setItem ov iv v)
      release [v, ov, iv] []) := by intro _; rfl) : Sd X ρ (.Assign [.Subscript o ix sp] e pos) P :=
  sd_set ho hk he hi (ix_int h0 (by rw [List.length_map]; exact hn)) (by rw [← List.map_set]; exact h) hs hw h1 ha
/-- the post up to what is told less -/
theorem bd_post (h : Bd X ρ rest { P with nx := fun r => ∃ r', Wk r r' ∧ P.nx r' }) : Bd X ρ rest P := fun HBe He σ HB H hE Dn q => h HBe He σ HB H hE Dn ⟨fun r σ' HB' H' n hE' => by
  obtain ⟨r', w, n'⟩ := n
  obtain ⟨HB2, hE2⟩ := w.env (pre := []) hE'
  exact q.1 r' σ' HB2 H' n' hE2, q.2⟩
theorem bd_mono {P' : Post} (h : Bd X ρ rest P') (h1 : ∀ r, P'.nx r → P.nx r) (h2 : ∀ d, P'.rt d → P.rt d) : Bd X ρ rest P := fun HBe He σ HB H hE Dn q =>
  h HBe He σ HB H hE Dn ⟨fun r σ' HB' H' n hE' => q.1 r σ' HB' H' (h1 r n) hE', fun d v HB' H' n => q.2.1 d v HB' H' (h2 d n), fun es p us HB' H' n => q.2.2 es p us HB' H' (h2 _ n)⟩
theorem Wk.eqO {r r' : Rho} {ds ds' : List D} (h : ds = ds') (w : Wk r r') : Wk (.own ds :: r) (.own ds' :: r') := by
  subst h
  exact .same w
theorem Wk.eqV {r r' : Rho} {d d' : D} (h : d = d') (w : Wk r r') : Wk (.val d :: r) (.val d' :: r') := by
  subst h
  exact .same w
theorem Wk.eqF {r r' : Rho} {ds ds' : List D} (h : ds = ds') (w : Wk r r') : Wk (.own ds :: r) (.val (.lst ds') :: r') := by
  subst h
  exact .frz w
/-- for x in iter: E i stands behind i turns, J i holds -/
theorem bd_for {iter : Expr} (k : Nat) (E : Nat → Rho) (J : Nat → Prop) (hp : PassesOwn (model X.prog X.w) X.A X.env X.xe) (hc : X.calm = true) (hN : X.N.Nodup) (hk : X.N[k]? = some x) (hx : Loc X.env.scope x)
    (h0 : Wk ρ (E 0)) (hi : EvI X (E 0) (.Name x pos') iter ds) (j0 : J 0) (ht : ∀ i d, ds[i]? = some d → J i → Bd X ((E i).set k (.val d)) body ⟨fun r => Wk r (E (i + 1)) ∧ J (i + 1), P.rt⟩) (hd : J ds.length → Bd X (E ds.length) rest P)
    (hf : X.fn x = true ∨ X.env.scope.names.lookup x = some .local := by first | exact .inl rfl | exact .inr rfl | assumption) (hs : ∀ x, foldedSetIterable iter X.env x = pure x := by intro _; rfl) : Bd X ρ (.For (.Name x pos') iter body [] pos :: rest) P := by
  refine bd_wk h0 ?_
  refine bd_seq (M := fun r => r = E ds.length ∧ J ds.length) (sd_forN (k := k) (fun i r => r = E i ∧ J i) hp hc hi hN hk hx ⟨rfl, j0⟩ (fun i ρ' d hd hI => ?_) (fun r h => h) hf hs) fun r h => ?_
  · obtain ⟨rfl, h2⟩ := hI
    exact bd_post (bd_mono (ht i d hd h2) (fun r ⟨a, b⟩ => ⟨_, a, rfl, b⟩) fun d h => h)
  · obtain ⟨rfl, h2⟩ := h
    exact hd h2
/-- .. to several names -/
theorem bd_forT {iter tg : Expr} (E : Nat → Rho) (J : Nat → Prop) (hp : PassesOwn (model X.prog X.w) X.A X.env X.xe) (hc : X.calm = true)
    (h0 : Wk ρ (E 0)) (hi : EvI X (E 0) tg iter ds) (j0 : J 0) (ht : ∀ i d, ds[i]? = some d → J i → ∃ ρ2, EvG X (E i) tg d ρ2 ∧ Bd X ρ2 body ⟨fun r => Wk r (E (i + 1)) ∧ J (i + 1), P.rt⟩) (hd : J ds.length → Bd X (E ds.length) rest P)
    (hs : ∀ x, foldedSetIterable iter X.env x = pure x := by intro _; rfl) : Bd X ρ (.For tg iter body [] pos :: rest) P := by
  refine bd_wk h0 ?_
  refine bd_seq (M := fun r => r = E ds.length ∧ J ds.length) ?_ fun r h => ?_
  · refine sd_for (fun i r => r = E i ∧ J i) hp hc hi ⟨fun v σ H Q => ∃ g, PG X tg g ∧ g v σ H Q, ⟨fun pins s σ H v u Q I r ⟨g, hg, q⟩ => hg.run pins s σ H v u Q I r q⟩, fun i ρ' d hd hI => ?_⟩ ⟨rfl, j0⟩ (fun r h => h) hs
    obtain ⟨rfl, h2⟩ := hI
    obtain ⟨ρ2, ⟨g, hg, k⟩, hb⟩ := ht i d hd h2
    exact ⟨ρ2, fun HBe He σ HB H v hE r Q q => ⟨g, hg, k HBe He σ HB H v hE r Q q⟩, bd_post (bd_mono hb (fun r ⟨a, b⟩ => ⟨_, a, rfl, b⟩) fun d h => h)⟩
  · obtain ⟨rfl, h2⟩ := h
    exact hd h2
/-- an if whose ends meet in ρ' -/
theorem bd_if {A B : List Stmt} {k : Bool} (ρ' : Rho) (hc : EvT X ρ c k) (h1 : k = true → Bd X ρ A ⟨fun r => Wk r ρ', P.rt⟩) (h2 : k = false → Bd X ρ B ⟨fun r => Wk r ρ', P.rt⟩) (hr : Bd X ρ' rest P) : Bd X ρ (.If c A B pos :: rest) P :=
  bd_seq (M := fun r => r = ρ') (sd_if hc (fun e => bd_post (bd_mono (h1 e) (fun r a => ⟨_, a, rfl⟩) fun d h => h)) (fun e => bd_post (bd_mono (h2 e) (fun r a => ⟨_, a, rfl⟩) fun d h => h))) fun r h => by rw [h]; exact hr
/-- an if whose first way returns, no else -/
theorem bd_ifRet {A : List Stmt} {k : Bool} (hc : EvT X ρ c k) (h1 : k = true → Bd X ρ A ⟨fun _ => False, P.rt⟩) (h2 : k = false → Bd X ρ rest P) : Bd X ρ (.If c A [] pos :: rest) P := by
  cases k with
  | true => exact bd_seq (M := fun _ => False) (sd_if hc (fun e => bd_mono (h1 rfl) (fun r a => a) fun d h => h) (fun e => by cases e)) fun r h => h.elim
  | false => exact bd_seq1 (sd_if hc (fun e => by cases e) fun _ => bd_nil rfl) (h2 rfl)
/-- a raise, or anything, on a way that cannot be -/
theorem bd_never {st : Stmt} (h : False) : Bd X ρ (st :: rest) P := h.elim
end
end Y
end S_Lay7

section S_Lay8
set_option maxHeartbeats 2000000
namespace Y
open PySem PySem.Spec PyProof.Rows L2
/-! ### objects beside: a part E of the heap that the slots' data don't reach -/
def jn (E H : Hp) : Hp := fun a => match E a with
  | some o => some o
  | none => H a
theorem jn_some {E H : Hp} {a : Addr} {o : HO} (h : E a = some o) : jn E H a = some o := by
  unfold jn
  rw [h]
theorem jn_none {E H : Hp} {a : Addr} (h : E a = none) : jn E H a = H a := by
  unfold jn
  rw [h]
theorem jn_free {E H : Hp} {a : Addr} (h : jn E H a = none) : E a = none ∧ H a = none := by
  cases e : E a with
  | none =>
    rw [jn_none e] at h
    exact ⟨rfl, h⟩
  | some o =>
    rw [jn_some e] at h
    cases h
def noE : Hp := fun _ => none
structure EnvE (K : PySem.W.Frag) (HBe He E HB H : Hp) (σ : L2.St) (ρ : Rho) : Prop where
  s : EnvS K HBe (jn E He) HB H σ ρ
  hb : ∀ a o, E a = some o → HB a = none
  he : ∀ a o, E a = some o → He a = none
section
variable {K : PySem.W.Frag} {HBe He E HB H HB2 H2 : Hp} {σ : L2.St} {ρ ρ' : Rho}
theorem EnvE.at (e : EnvE K HBe He E HB H σ ρ) {a : Addr} {o : HO} (h : E a = some o) : H a = some o := e.s.s.h a o (jn_some h)
theorem EnvE.drop (e : EnvE K HBe He E HB H σ ρ) : EnvS K HBe He HB H σ ρ := by
  refine ⟨e.s.e, ⟨e.s.s.b, e.s.s.in_, fun a o h => ?_, fun a h1 h2 => (jn_free (e.s.s.fr a h1 h2)).2⟩, fun i ds p h1 h2 => (jn_free (e.s.o i ds p h1 h2)).2⟩
  cases q : E a with
  | none => exact e.s.s.h a o (by rw [jn_none q]; exact h)
  | some u =>
    rw [e.he a u q] at h
    cases h
theorem EnvE.step (e : EnvE K HBe He E HB H σ ρ) (x : Step HB H HB2 H2) : EnvE K HBe He E HB2 H2 σ ρ := by
  refine ⟨e.s.step x, fun a o h => ?_, e.he⟩
  cases q : HB2 a with
  | none => rfl
  | some u =>
    have := x.fr a (e.hb a o h) (by rw [q]; exact fun z => nomatch z)
    rw [e.at h] at this
    cases this
theorem EnvE.start (e : EnvS K HBe He HB H σ ρ) : EnvE K HBe He noE HB H σ ρ := ⟨e, fun a o h => (nomatch h), fun a o h => (nomatch h)⟩
/-- the state behind a piece that was run in the presence of E -/
theorem EnvE.back {σ' : L2.St} (e : EnvE K HBe He E HB H σ ρ) (e' : EnvS K HBe (jn E He) HB2 H2 σ' ρ') : EnvE K HBe He E HB2 H2 σ' ρ' := by
  refine ⟨e', fun a o h => ?_, e.he⟩
  cases q : HB2 a with
  | none => rfl
  | some u =>
    have hb : HBe a = none := e.s.s.b.free (e.hb a o h)
    have := e'.s.fr a hb (by rw [q]; exact fun z => nomatch z)
    rw [jn_some h] at this
    cases this
/-- a new object goes beside -/
theorem EnvE.add (e : EnvE K HBe He E HB H σ ρ) {p : Addr} {o : HO} (h0 : H p = some o) (h1 : HB p = none) (h2 : He p = none) (hE : E p = none) (hf : ∀ (i : Nat) (ds : List D) (q : Addr), ρ[i]? = some (Slot.own ds) → σ[i]? = some (some (V.ref q)) → q ≠ p) : EnvE K HBe He (upd E p o) HB H σ ρ := by
  have key : ∀ a, a ≠ p → jn (upd E p o) He a = jn E He a := fun a ha => by
    unfold jn
    rw [upd_ne ha]
  refine ⟨⟨e.s.e, ⟨e.s.s.b, e.s.s.in_, fun a u h => ?_, fun a q1 q2 => ?_⟩, fun i ds q q1 q2 => ?_⟩, fun a u h => ?_, fun a u h => ?_⟩
  · by_cases ha : a = p
    · subst ha
      rw [jn_some upd_same] at h
      rw [h0, h]
    · rw [key a ha] at h
      exact e.s.s.h a u h
  · have ha : a ≠ p := fun z => by
      subst z
      exact q2 h1
    rw [key a ha]
    exact e.s.s.fr a q1 q2
  · rw [key q (hf i ds q q1 q2)]
    exact e.s.o i ds q q1 q2
  · by_cases ha : a = p
    · subst ha
      exact h1
    · rw [upd_ne ha] at h
      exact e.hb a u h
  · by_cases ha : a = p
    · subst ha
      exact h2
    · rw [upd_ne ha] at h
      exact e.he a u h
/-- an object beside is changed -/
theorem EnvE.mut (e : EnvE K HBe He E HB H σ ρ) {p : Addr} {o o' : HO} (hE : E p = some o) : EnvE K HBe He (upd E p o') HB (upd H p o') σ ρ := by
  have key : ∀ a, a ≠ p → jn (upd E p o') He a = jn E He a := fun a ha => by
    unfold jn
    rw [upd_ne ha]
  have hf : ∀ (i : Nat) (ds : List D) (q : Addr), ρ[i]? = some (Slot.own ds) → σ[i]? = some (some (V.ref q)) → q ≠ p := fun i ds q q1 q2 z => by
    subst z
    have := (jn_free (e.s.o i ds q q1 q2)).1
    rw [hE] at this
    cases this
  have h1 := e.hb p o hE
  refine ⟨⟨e.s.e.out h1 hf, ⟨e.s.s.b, (e.s.e.out (o := o') h1 hf).ex, fun a u h => ?_, fun a q1 q2 => ?_⟩, fun i ds q q1 q2 => ?_⟩, fun a u h => ?_, fun a u h => ?_⟩
  · by_cases ha : a = p
    · subst ha
      rw [jn_some upd_same] at h
      rw [upd_same, h]
    · rw [key a ha] at h
      rw [upd_ne ha]
      exact e.s.s.h a u h
  · have ha : a ≠ p := fun z => by
      subst z
      exact q2 h1
    rw [key a ha]
    exact e.s.s.fr a q1 q2
  · rw [key q (hf i ds q q1 q2)]
    exact e.s.o i ds q q1 q2
  · by_cases ha : a = p
    · subst ha
      exact h1
    · rw [upd_ne ha] at h
      exact e.hb a u h
  · by_cases ha : a = p
    · subst ha
      exact e.he a o hE
    · rw [upd_ne ha] at h
      exact e.he a u h
/-- an address that was free belongs to nothing -/
theorem EnvE.fresh (e : EnvE K HBe He E HB H σ ρ) {p : Addr} (h : H p = none) : E p = none ∧ HB p = none ∧ He p = none ∧ ∀ (i : Nat) (ds : List D) (q : Addr), ρ[i]? = some (Slot.own ds) → σ[i]? = some (some (V.ref q)) → q ≠ p := by
  have h1 := jn_free (e.s.s.h.free h)
  refine ⟨h1.1, e.s.e.ex.free h, h1.2, fun i ds q q1 q2 z => ?_⟩
  obtain ⟨p', vs, a1, a2, a3, a4⟩ := e.s.e.own q1
  rw [q2] at a1
  cases a1
  rw [z, h] at a3
  cases a3
/-- a new object is laid beside -/
theorem EnvE.lay (e : EnvE K HBe He E HB H σ ρ) {p : Addr} {o : HO} (h : H p = none) : EnvE K HBe He (upd E p o) HB (upd H p o) σ ρ := by
  obtain ⟨f1, f2, f3, f4⟩ := e.fresh h
  have e2 := e.step (Step.out e.s.e.ex (o := o) h)
  exact e2.add upd_same f2 f3 f1 f4
end
/-! ### pieces in the presence of objects beside -/
structure PostE where
  nx : Rho → Hp → Prop
  rt : D → Prop
def AnsE (K : PySem.W.Frag) (HBe He : Hp) (P : PostE) (Dn : Ends) : Prop :=
  (∀ ρ' E' σ' HB' H', P.nx ρ' E' → EnvE K HBe He E' HB' H' σ' ρ' → Dn.nx σ' H') ∧ (∀ d v HB' H', P.rt d → Step HBe He HB' H' → Rp K HB' v d → Dn.rt v H') ∧
  ∀ es p us HB' H', P.rt (.new es) → Step HBe He HB' H' → He p = none → HB' p = none → H' p = some (.lst us) → RpAll K HB' us es → Dn.rt (.ref p) H'
def Ge (X : Cx) (ρ : Rho) (E : Hp) (st : Stmt) (P : PostE) : Prop := ∀ (HBe He : Hp) (σ : L2.St) (HB H : Hp), EnvE X.K HBe He E HB H σ ρ → ∀ Dn : Ends, AnsE X.K HBe He P Dn → wpS X st Dn σ H
def Gd (X : Cx) (ρ : Rho) (E : Hp) (sts : List Stmt) (P : PostE) : Prop := ∀ (HBe He : Hp) (σ : L2.St) (HB H : Hp), EnvE X.K HBe He E HB H σ ρ → ∀ Dn : Ends, AnsE X.K HBe He P Dn → wpB X sts Dn σ H
theorem step_drop {K : PySem.W.Frag} {HBe He E HB H HB' H' : Hp} {σ : L2.St} {ρ : Rho} (e : EnvE K HBe He E HB H σ ρ) (x : Step HBe (jn E He) HB' H') : Step HBe He HB' H' := ⟨x.b, x.in_, fun a o h => x.h a o (by
  cases q : E a with
  | none =>
    rw [jn_none q]
    exact h
  | some u =>
    rw [e.he a u q] at h
    cases h), fun a h1 h2 => (jn_free (x.fr a h1 h2)).2⟩
section
variable {X : Cx} {ρ ρ' : Rho} {E E' : Hp} {e a b c tg : Expr} {es : List Expr} {d d0 d1 d2 : D} {ds ds1 ds2 : List D} {pos p apos pos' : Pos} {i j : Int} {x y : Str} {α : Type} {st : Stmt} {rest body : List Stmt} {P : PostE} {M : Rho → Hp → Prop}
/-- what holds without them holds beside them -/
theorem ge_of (h : Sd X ρ st ⟨fun r => P.nx r E, P.rt⟩) : Ge X ρ E st P := fun HBe He σ HB H hE Dn q => h HBe (jn E He) σ HB H hE.s Dn ⟨fun ρ' σ' HB' H' n e => q.1 ρ' E σ' HB' H' n (hE.back e),
  fun d v HB' H' n x => q.2.1 d v HB' H' n (step_drop hE x), fun es p us HB' H' n x h1 => q.2.2 es p us HB' H' n (step_drop hE x) (jn_free h1).2⟩
theorem gd_of (h : Bd X ρ rest ⟨fun r => P.nx r E, P.rt⟩) : Gd X ρ E rest P := fun HBe He σ HB H hE Dn q => h HBe (jn E He) σ HB H hE.s Dn ⟨fun ρ' σ' HB' H' n e => q.1 ρ' E σ' HB' H' n (hE.back e),
  fun d v HB' H' n x => q.2.1 d v HB' H' n (step_drop hE x), fun es p us HB' H' n x h1 => q.2.2 es p us HB' H' n (step_drop hE x) (jn_free h1).2⟩
theorem gd_nil (h : P.nx ρ E) : Gd X ρ E [] P := fun HBe He σ HB H hE Dn q => ⟨_, pss_nil, q.1 ρ E σ HB H h hE⟩
theorem gd_wk (w : Wk ρ ρ') (h : Gd X ρ' E rest P) : Gd X ρ E rest P := fun HBe He σ HB H hE Dn q => by
  obtain ⟨HB', h2⟩ := w.env (pre := []) hE.s
  exact h HBe He σ HB' H (hE.back h2) Dn q
theorem gd_seq (h : Ge X ρ E st { P with nx := M }) (k : ∀ ρ' E', M ρ' E' → Gd X ρ' E' rest P) : Gd X ρ E (st :: rest) P := fun HBe He σ HB H hE Dn q =>
  ⟨_, pss_cons ps_wp pss_wp, h HBe He σ HB H hE { Dn with nx := wpB X rest Dn } ⟨fun ρ' E' σ' HB' H' m e => k ρ' E' m HBe He σ' HB' H' e Dn q, q.2⟩⟩
/-- an ordinary statement -/
theorem gd_seq1 (h : Sd X ρ st ⟨fun r => r = ρ', P.rt⟩) (k : Gd X ρ' E rest P) : Gd X ρ E (st :: rest) P := gd_seq (M := fun r E' => r = ρ' ∧ E' = E) (ge_of (by
  intro HBe He σ HB H hE Dn q
  exact h HBe He σ HB H hE Dn ⟨fun r σ' HB' H' n => q.1 r σ' HB' H' ⟨n, rfl⟩, q.2⟩)) fun r E' ⟨e1, e2⟩ => by
    subst e1 e2
    exact k
theorem gd_mono {P' : PostE} (h : Gd X ρ E rest P') (h1 : ∀ r E, P'.nx r E → P.nx r E) (h2 : ∀ d, P'.rt d → P.rt d) : Gd X ρ E rest P := fun HBe He σ HB H hE Dn q =>
  h HBe He σ HB H hE Dn ⟨fun r E' σ' HB' H' n hE' => q.1 r E' σ' HB' H' (h1 r E' n) hE', fun d v HB' H' n => q.2.1 d v HB' H' (h2 d n), fun es p us HB' H' n => q.2.2 es p us HB' H' (h2 _ n)⟩
theorem gd_post (h : Gd X ρ E rest { P with nx := fun r E' => ∃ r', Wk r r' ∧ P.nx r' E' }) : Gd X ρ E rest P := fun HBe He σ HB H hE Dn q => h HBe He σ HB H hE Dn ⟨fun r E' σ' HB' H' n hE' => by
  obtain ⟨r', w, n'⟩ := n
  obtain ⟨HB2, hE2⟩ := w.env (pre := []) hE'.s
  exact q.1 r' E' σ' HB2 H' n' (hE'.back hE2), q.2⟩
/-- into it, out of it -/
theorem bd_gd {P : Post} (h : Gd X ρ noE rest ⟨fun r _ => P.nx r, P.rt⟩) : Bd X ρ rest P := fun HBe He σ HB H hE Dn q => h HBe He σ HB H (EnvE.start hE) Dn ⟨fun r E' σ' HB' H' n hE' => q.1 r σ' HB' H' n hE'.drop, q.2⟩
theorem gd_if {A B : List Stmt} {k : Bool} (hc : EvT X ρ c k) (h1 : k = true → Gd X ρ E A P) (h2 : k = false → Gd X ρ E B P) : Ge X ρ E (.If c A B pos) P := fun HBe He σ HB H hE Dn q =>
  ⟨_, ps_if pt_wp pss_wp pss_wp, hc σ HB H hE.s.e _ fun HB2 H2 x2 => by
    cases k with
    | true => exact iteT (h1 rfl HBe He σ HB2 H2 (hE.step x2) Dn q)
    | false => exact iteF (h2 rfl HBe He σ HB2 H2 (hE.step x2) Dn q)⟩
/-- for tg in iter: behind i turns ρ is F i, the objects beside are of I i -/
theorem gd_for {iter : Expr} (F : Nat → Rho) (I : Nat → Hp → Prop) (hp : PassesOwn (model X.prog X.w) X.A X.env X.xe) (hc : X.calm = true) (h0 : Wk ρ (F 0)) (hi : EvI X (F 0) tg iter ds) (i0 : I 0 E)
    (ht : ∀ i d E, ds[i]? = some d → I i E → ∃ ρ2, EvG X (F i) tg d ρ2 ∧ Gd X ρ2 E body ⟨fun r E' => Wk r (F (i + 1)) ∧ I (i + 1) E', P.rt⟩) (hd : ∀ E, I ds.length E → Gd X (F ds.length) E rest P)
    (hs : ∀ x, foldedSetIterable iter X.env x = pure x := by intro _; rfl) : Gd X ρ E (.For tg iter body [] pos :: rest) P := by
  refine gd_wk h0 (gd_seq (M := fun r E' => r = F ds.length ∧ I ds.length E') ?_ fun r E' h => by rw [h.1]; exact hd E' h.2)
  intro HBe He σ HB H hE Dn q
  refine ⟨_, ps_for (g := fun v σ H Q => ∃ g, PG X tg g ∧ g v σ H Q) hp hc pi_wp ⟨fun pins s σ H v u Q I r ⟨g, hg, q⟩ => hg.run pins s σ H v u Q I r q⟩ pss_wp hs, hi σ HB H hE.s.e _ fun J HB1 H1 x1 w => ?_⟩
  refine ⟨fun i m σ' H' => m = ds.length - i ∧ i ≤ ds.length ∧ ∃ E' HB', I i E' ∧ Ex HB1 HB' ∧ EnvE X.K HBe He E' HB' H' σ' (F i), ⟨ds.length, by simp, Nat.zero_le _, E, HB1, i0, Ex.refl _, hE.step x1⟩, ?_⟩
  rintro i m σ' H' ⟨rfl, hle, E', HB', hI, hx, hE'⟩
  have w' := w i HB' H' hx hE'.s.e.ex
  by_cases hlt : i < ds.length
  · have hdi : ds[i]? = some ds[i] := List.getElem?_eq_getElem hlt
    obtain ⟨go, yl⟩ := w'.1 _ hdi
    refine .inr ⟨go, fun σ2 H2 => ∃ E2 HB2, I (i + 1) E2 ∧ Ex HB1 HB2 ∧ EnvE X.K HBe He E2 HB2 H2 σ2 (F (i + 1)), fun σ2 H2 ⟨E2, HB2, a1, a2, a3⟩ => ⟨ds.length - (i + 1), by omega, rfl, hlt, E2, HB2, a1, a2, a3⟩, fun v H2 hv => ?_⟩
    obtain ⟨HB2, x2, r2⟩ := yl v H2 hv
    obtain ⟨ρ2, ⟨g, hg, kg⟩, hb⟩ := ht i _ E' hdi hI
    have hE2 := hE'.step x2
    refine ⟨g, hg, kg HBe (jn E' He) σ' HB2 H2 v hE2.s r2 _ fun σ3 hE3s => ?_⟩
    have hE3 := hE2.back hE3s
    have hE4 : EnvE X.K HB2 He E' HB2 H2 σ3 ρ2 := ⟨⟨hE3.s.e, ⟨Ex.refl _, hE3.s.s.in_, hE3.s.s.h, fun a h1 h2 => absurd h1 h2⟩, hE3.s.o⟩, hE3.hb, hE3.he⟩
    have frE : ∀ {HB4 : Hp} (a : Addr), (∀ a, HB2 a = none → HB4 a ≠ none → He a = none) → HBe a = none → HB4 a ≠ none → He a = none := fun {HB4} a f h1 h2 => by
      cases z : HB2 a with
      | none => exact f a z h2
      | some o => exact (jn_free (hE3.s.s.fr a h1 (by rw [z]; exact fun z => nomatch z))).2
    refine hb HB2 He σ3 HB2 H2 hE4 _ ⟨fun ρ4 E4 σ4 HB4 H4 n4 hE5 => ?_, fun d u HB4 H4 hr x4 r4 => q.2.1 d u HB4 H4 hr ⟨hE3.s.s.b.trans x4.b, x4.in_, x4.h, fun a h1 h2 => frE a x4.fr h1 h2⟩ r4,
      fun es p us HB4 H4 hr x4 h1 h2 h3 h4 => q.2.2 es p us HB4 H4 hr ⟨hE3.s.s.b.trans x4.b, x4.in_, x4.h, fun a h1 h2 => frE a x4.fr h1 h2⟩ h1 h2 h3 h4⟩
    obtain ⟨nw, nI⟩ := n4
    obtain ⟨HB5, hE6⟩ := nw.env (pre := []) hE5.s
    have hE7 := hE5.back hE6
    refine ⟨E4, HB5, nI, (hx.trans x2.b).trans hE7.s.s.b, ⟨⟨hE7.s.e, ⟨hE3.s.s.b.trans hE7.s.s.b, hE7.s.s.in_, hE7.s.s.h, fun a h1 h2 => ?_⟩, hE7.s.o⟩, hE7.hb, hE7.he⟩⟩
    cases z : HB2 a with
    | none => exact hE7.s.s.fr a z h2
    | some o =>
      have h3 := (jn_free (hE3.s.s.fr a h1 (by rw [z]; exact fun z => nomatch z))).2
      cases z4 : E4 a with
      | none =>
        rw [jn_none z4]
        exact h3
      | some u =>
        have := hE7.hb a u z4
        exact absurd this h2
  · have e : i = ds.length := by omega
    subst e
    exact .inl ⟨w'.2 (Nat.le_refl _), q.1 (F ds.length) E' σ' HB' H' ⟨rfl, hI⟩ hE'⟩
/-- a raw value goes to a name -/
theorem ge_raw {k : Nat} {te : TE} {v : V} (hN : X.N.Nodup) (hi : X.N[k]? = some x) (hx : Loc X.env.scope x) (he : PE X e te) (h : ∀ (HBe He : Hp) (σ : L2.St) (HB H : Hp), EnvE X.K HBe He E HB H σ ρ → ∀ Q : VK, (∀ v E' HB2 H2, P.nx (ρ.set k (.raw v)) E' → EnvE X.K HBe He E' HB2 H2 σ ρ → Q v H2) → te σ H Q)
    (hs : swapsWith e (some (.Name x pos')) pos.line X.env = pure false := by rfl) (hf : X.fn x = true ∨ X.env.scope.names.lookup x = some .local := by first | exact .inl rfl | exact .inr rfl | assumption) : Ge X ρ E (.Assign [.Name x pos'] e pos) P := fun HBe He σ HB H hE Dn q =>
  ⟨_, ps_set hN hi hx he hs hf, h HBe He σ HB H hE _ fun v E' HB2 H2 n hE2 => q.1 _ E' _ HB2 H2 n ⟨hE2.s.setRaw k v, hE2.hb, hE2.he⟩⟩
end
end Y
end S_Lay8

section S_Lay9
set_option maxHeartbeats 2000000
namespace Y
open PySem PySem.Spec PyProof.Rows L2
/-! ### a dict of queues -/
def pushQ (qs : Int → List Int) (z i : Int) : Int → List Int := fun y => if y = z then qs z ++ [i] else qs y
def popQ (qs : Int → List Int) (z : Int) : Int → List Int := fun y => if y = z then (qs z).tail else qs y
structure Wt (E : Hp) (p : Addr) (n : Nat) (qs : Int → List Int) : Prop where
  ex : ∃ kvs : List (Key × V), E p = some (.dK kvs) ∧ kvs.length ≤ n ∧ (∀ z, valV kvs (.inl z) = none → qs z = []) ∧ (∀ z v, valV kvs (.inl z) = some v → ∃ q, v = .ref q ∧ E q = some (.lst ((qs z).map V.int))) ∧
    ∀ z z' q, valV kvs (.inl z) = some (.ref q) → valV kvs (.inl z') = some (.ref q) → z = z'
theorem Wt.empty {E : Hp} {p : Addr} : Wt (upd E p (.dK [])) p 0 (fun _ => []) := ⟨⟨[], upd_same, Nat.le_refl _, fun z _ => rfl, (fun z v h => by simp [valV] at h), fun z z' q h => by simp [valV] at h⟩⟩
section
variable {X : Cx} {ρ ρ' : Rho} {E E' : Hp} {e a b c tg : Expr} {es : List Expr} {d d0 d1 d2 : D} {ds ds1 ds2 : List D} {pos p2 apos pos' : Pos} {i j z : Int} {x y : Str} {α : Type} {st : Stmt} {rest body : List Stmt} {P : PostE} {M : Rho → Hp → Prop} {p : Addr} {n : Nat} {qs : Int → List Int}
/-- w = {} -/
theorem ge_newD {k : Nat} (hN : X.N.Nodup) (hi : X.N[k]? = some x) (hx : Loc X.env.scope x) (h : ∀ p E', Wt E' p 0 (fun _ => []) → P.nx (ρ.set k (.raw (.ref p))) E')
    (hs : swapsWith (.Dict [] [] p2) (some (.Name x pos')) pos.line X.env = pure false := by rfl) (hf : X.fn x = true ∨ X.env.scope.names.lookup x = some .local := by first | exact .inl rfl | exact .inr rfl | assumption) : Ge X ρ E (.Assign [.Name x pos'] (.Dict [] [] p2) pos) P := fun HBe He σ HB H hE Dn q =>
  ⟨_, ps_set hN hi hx pe_dnewK hs hf, fun p hp => by
    have e2 := hE.lay (o := .dK []) hp
    exact q.1 _ _ _ _ _ (h p _ Wt.empty) ⟨e2.s.setRaw k _, e2.hb, e2.he⟩⟩
/-- w.setdefault(z, []).append(i) -/
theorem ge_push {kw : Nat} {o lev ix : Expr} {a1 a2 c1 c2 lp : Pos} (ho : PE X o (tVar kw)) (hk : ρ[kw]? = some (.raw (.ref p))) (hw : Wt E p n qs) (hn : n < 100000) (hq : (qs z).length < 100000) (hl : Ev X ρ lev (.int z)) (hi : Ev X ρ ix (.int i))
    (h : ∀ E', Wt E' p (n + 1) (pushQ qs z i) → P.nx ρ E') (m : M2 X o "setdefault" a1 lev (.List [] lp) c1)
    (hs : swapsWith (.Call (.Attribute (.Call (.Attribute o "setdefault" a1) [lev, .List [] lp] [] c1) "append" a2) [ix] [] c2) none pos.line X.env = pure false := by rfl)
    (hb : attributeBase (.Call (.Attribute o "setdefault" a1) [lev, .List [] lp] [] c1) "append" X.env (eval (.Call (.Attribute o "setdefault" a1) [lev, .List [] lp] [] c1) X.env) = eval (.Call (.Attribute o "setdefault" a1) [lev, .List [] lp] [] c1) X.env := by rfl)
    (hfew : ((backTo c2 (starEach [ix] X.env)).all (fun x => !x.1) && (backToKw c2 (keywordEach [] X.env)).all (fun x => x.1.isSome) && decide (([ix] : List Expr).length + ([] : List Keyword).length + (if ([] : List Keyword).isEmpty then 0 else 1) < 30)) = true := by rfl)
    (hline : (a2.endLine == c2.line) = true := by rfl) (hst : St1 X ix := by rfl) (hp : NoStar X c2 [] := by rfl) :
    Ge X ρ E (.Expr (.Call (.Attribute (.Call (.Attribute o "setdefault" a1) [lev, .List [] lp] [] c1) "append" a2) [ix] [] c2) pos) P := fun HBe He σ HB H hE Dn q => by
  refine ⟨_, ps_expr (pe_bm PySem.F.plainAttrs_list PySem.F.slot_list_append PySem.F.type_list_append mt_append (pe_dsetd ho pe_wp pe_wp m) (pa_cons pe_wp pa_nil hst) hb hfew hline hst hp) hs, ?_⟩
  obtain ⟨kvs, w1, w2, w3, w4, w5⟩ := hw.ex
  refine ⟨_, hE.s.e.raw hk, p, rfl, .inl ⟨kvs, .inl (hE.at w1)⟩, hl σ HB H hE.s.e _ fun v1 HB1 H1 x1 r1 => ?_⟩
  have hE1 := hE.step x1
  refine evn_lst (X := X) (ρ := ρ) (pos := lp) ea_nil (by exact Nat.zero_le _) σ HB1 H1 hE1.s.e _ fun l vs HB2 H2 x2 f1 f2 f3 f4 => ?_
  have hE2 := hE1.step x2
  obtain ⟨g1, g2, g3, g4⟩ := hE1.fresh f1
  have hlp : l ≠ p := fun z => by
    subst z
    rw [g1] at w1
    cases w1
  cases f4
  refine ⟨kvs, .inl z, hE2.at w1, by rw [r1.ofInt]; rfl, Nat.lt_of_lt_of_le (Nat.lt_of_le_of_lt w2 hn) (by decide), fun v hv => ?_, fun hv => ?_⟩
  · obtain ⟨lq, rfl, u2⟩ := w4 z v hv
    have hqp : lq ≠ p := fun e => by
      subst e
      rw [u2] at w1
      cases w1
    refine ⟨.inl ⟨rfl, _, SqL.of (hE2.at u2)⟩, hi σ HB2 H2 hE2.s.e _ fun v3 HB3 H3 x3 r3 => ?_⟩
    have hE3 := hE2.step x3
    refine ⟨lq, _, v3, rfl, rfl, hE3.at u2, by rw [List.length_map]; exact Nat.lt_of_lt_of_le hq (by decide), ?_⟩
    refine q.1 _ _ _ _ _ (h (upd E lq (.lst ((qs z).map V.int ++ [v3]))) ⟨⟨kvs, by rw [upd_ne hqp.symm]; exact w1, by omega, fun y hy => ?_, fun y v hy => ?_, w5⟩⟩) (hE3.mut u2)
    · unfold pushQ
      by_cases hyz : y = z
      · subst hyz
        rw [hv] at hy
        cases hy
      · rw [if_neg hyz]
        exact w3 y hy
    · obtain ⟨q2, rfl, u3⟩ := w4 y v hy
      refine ⟨q2, rfl, ?_⟩
      unfold pushQ
      by_cases hyz : y = z
      · subst hyz
        rw [hv] at hy
        cases hy
        rw [upd_same, if_pos rfl, List.map_append, r3.ofInt]
        rfl
      · have : q2 ≠ lq := fun e => by
          subst e
          exact hyz (w5 _ _ _ hy hv)
        rw [upd_ne this, if_neg hyz]
        exact u3
  · have hz0 := w3 z hv
    have hEa := hE2.add f3 f2 g3 g1 fun i ds q q1 q2 => g4 i ds q q1 q2
    have hEp : upd E l (.lst []) p = some (.dK kvs) := by rw [upd_ne hlp.symm]; exact w1
    have hEb := hEa.mut (o' := .dK (putK kvs (.inl z) (.ref l))) hEp
    have hEl : upd (upd E l (.lst [])) p (.dK (putK kvs (.inl z) (.ref l))) l = some (.lst []) := by rw [upd_ne hlp, upd_same]
    refine ⟨.inl ⟨rfl, _, SqL.of (hEb.at hEl)⟩, hi σ _ _ hEb.s.e _ fun v3 HB3 H3 x3 r3 => ?_⟩
    have hE3 := hEb.step x3
    refine ⟨l, _, v3, rfl, rfl, hE3.at hEl, by exact Nat.lt_of_lt_of_le (Nat.zero_lt_succ _) (show 1 ≤ _ by decide), ?_⟩
    refine q.1 _ _ _ _ _ (h (upd (upd (upd E l (.lst [])) p (.dK (putK kvs (.inl z) (.ref l)))) l (.lst ([] ++ [v3]))) ⟨⟨putK kvs (.inl z) (.ref l), by rw [upd_ne hlp.symm, upd_same], ?_, fun y hy => ?_, fun y v hy => ?_, fun y y' q2 h1 h2 => ?_⟩⟩) (hE3.mut hEl)
    · have := length_putK kvs (.inl z) (V.ref l)
      omega
    · rw [valV_put] at hy
      unfold pushQ
      by_cases hyz : y = z
      · subst hyz
        simp at hy
      · rw [if_neg (by simpa using hyz)] at hy
        rw [if_neg hyz]
        exact w3 y hy
    · rw [valV_put] at hy
      unfold pushQ
      by_cases hyz : y = z
      · subst hyz
        rw [if_pos rfl] at hy
        cases hy
        refine ⟨l, rfl, ?_⟩
        rw [upd_same, if_pos rfl, hz0, r3.ofInt]
        rfl
      · rw [if_neg (by simpa using hyz)] at hy
        obtain ⟨q2, rfl, u3⟩ := w4 y v hy
        have : q2 ≠ l := fun e => by
          subst e
          rw [g1] at u3
          cases u3
        have hqp : q2 ≠ p := fun e => by
          subst e
          rw [u3] at w1
          cases w1
        exact ⟨q2, rfl, by rw [upd_ne this, upd_ne hqp, upd_ne this, if_neg hyz]; exact u3⟩
    · rw [valV_put] at h1 h2
      have old : ∀ y, valV kvs (.inl y) = some (.ref l) → False := fun y hy => by
        obtain ⟨q2, e, u3⟩ := w4 y _ hy
        cases e
        rw [g1] at u3
        cases u3
      by_cases hyz : y = z <;> by_cases hyz' : y' = z
      · rw [hyz, hyz']
      · subst hyz
        rw [if_pos rfl] at h1
        rw [if_neg (by simpa using hyz')] at h2
        cases h1
        exact (old _ h2).elim
      · subst hyz'
        rw [if_pos rfl] at h2
        rw [if_neg (by simpa using hyz)] at h1
        cases h2
        exact (old _ h1).elim
      · rw [if_neg (by simpa using hyz)] at h1
        rw [if_neg (by simpa using hyz')] at h2
        exact w5 _ _ _ h1 h2
/-- l[ix] = w[z].pop(0), l an owned list -/
theorem ge_popSet {kw k m : Nat} {o ol ix lev : Expr} {sp lp a1 c1 : Pos} {zp : Pos} {zk : Nat} {i0 : Int} {r : List Int} (hu : X.A.units + 1 < cLine) (ho : PE X o (tVar kw)) (hk : ρ[kw]? = some (.raw (.ref p))) (hw : Wt E p n qs) (hz : qs z = i0 :: r) (hl : Ev X ρ lev (.int z))
    (hol : PE X ol (tVar k)) (hkl : ρ[k]? = some (.own ds)) (hi : Ev X ρ ix (.int i)) (hn : ixN ds.length i = some m) (h : ∀ E', Wt E' p n (popQ qs z) → P.nx (ρ.set k (.own (ds.set m (.int i0)))) E')
    (hs : swapsWithSole [.Subscript ol ix sp] (.Call (.Attribute (.Subscript o lev lp) "pop" a1) [.Constant (.int 0) zk zp] [] c1) pos.line X.env = pure false := by rfl)
    (hsw : swappedStores [.Subscript ol ix sp] (.Call (.Attribute (.Subscript o lev lp) "pop" a1) [.Constant (.int 0) zk zp] [] c1) X.env = pure none := by rfl)
    (h1 : (assignEach [.Subscript ol ix sp] X.env).map (·.2) = [assign (.Subscript ol ix sp) X.env] := by rfl)
    (ha : ∀ v, assign (.Subscript ol ix sp) X.env v = (do
      let ov ← holding [v] (eval ol X.env)
      let iv ← holding [v, ov] (eval ix X.env)
      standAt sp
      holding [v, ov, iv] (setItem ov iv v)
      release [v, ov, iv] []) := by intro _; rfl) (hns : NoSl lev := by exact fun _ _ => rfl)
    (hb : attributeBase (.Subscript o lev lp) "pop" X.env (eval (.Subscript o lev lp) X.env) = eval (.Subscript o lev lp) X.env := by rfl) (hline : (a1.endLine == c1.line) = true := by rfl) :
    Ge X ρ E (.Assign [.Subscript ol ix sp] (.Call (.Attribute (.Subscript o lev lp) "pop" a1) [.Constant (.int 0) zk zp] [] c1) pos) P := fun HBe He σ HB H hE Dn q => by
  refine ⟨_, ps_asg (pe_bm PySem.F.plainAttrs_list PySem.F.slot_list_pop PySem.F.type_list_pop mt_popAt (pe_dget hu ho pe_wp hns) (pa_cons pe_int pa_nil) hb rfl hline) (pg_sub hol pe_wp set_list ha) hs hsw h1, ?_⟩
  obtain ⟨kvs, w1, w2, w3, w4, w5⟩ := hw.ex
  refine ⟨_, hE.s.e.raw hk, hl σ HB H hE.s.e _ fun v1 HB1 H1 x1 r1 => ?_⟩
  have hE1 := hE.step x1
  cases hv : valV kvs (.inl z) with
  | none =>
    have := w3 z hv
    rw [hz] at this
    cases this
  | some v =>
    obtain ⟨lq, rfl, u2⟩ := w4 z v hv
    have hqp : lq ≠ p := fun e => by
      subst e
      rw [u2] at w1
      cases w1
    refine ⟨p, .ref lq, rfl, by rw [← hv, r1.ofInt]; exact DGet.k (k := .inl z) (hE1.at w1), .inl ⟨rfl, _, SqL.of (hE1.at u2)⟩, lq, _, 0, 0, .int i0, rfl, rfl, hE1.at u2, by decide, by decide, ?_, by rw [hz]; rfl, ?_⟩
    · rw [hz]
      simp [seqIndex?]
      try omega
    · have hE2 := hE1.mut (o' := .lst (((qs z).map V.int).eraseIdx 0)) u2
      obtain ⟨l, vs, b1, b2, b3, b4⟩ := hE2.s.e.own hkl
      refine ⟨_, b1, hi σ _ _ hE2.s.e _ fun v3 HB3 H3 x3 r3 => ?_⟩
      have hE3 := hE2.step x3
      obtain ⟨l', vs', c1, c2, c3, c4⟩ := hE3.s.e.own hkl
      rw [b1] at c1
      cases c1
      have hE4 := hE3.back (hE3.s.change hkl b1 c2 (RpAll.set (.int i0) m c4))
      refine ⟨l, vs', i, m, rfl, r3.ofInt, c3, by rw [c4.length]; exact hn, ?_⟩
      refine q.1 _ _ _ _ _ (h (upd E lq (.lst (((qs z).map V.int).eraseIdx 0))) ⟨⟨kvs, by rw [upd_ne hqp.symm]; exact w1, w2, fun y hy => ?_, fun y v hy => ?_, w5⟩⟩) hE4
      · unfold popQ
        by_cases hyz : y = z
        · subst hyz
          rw [hv] at hy
          cases hy
        · rw [if_neg hyz]
          exact w3 y hy
      · obtain ⟨q2, rfl, u3⟩ := w4 y v hy
        refine ⟨q2, rfl, ?_⟩
        unfold popQ
        by_cases hyz : y = z
        · subst hyz
          rw [hv] at hy
          cases hy
          rw [upd_same, if_pos rfl, hz]
          rfl
        · have : q2 ≠ lq := fun e => by
            subst e
            exact hyz (w5 _ _ _ hy hv)
          rw [upd_ne this, if_neg hyz]
          exact u3
end
end Y
end S_Lay9

section S_Lay10
set_option maxHeartbeats 2000000
namespace Y
open PySem PySem.Spec PyProof.Rows L2
/-! ### papers: a new tuple whose lists are new too -/
inductive XAll (K : PySem.W.Frag) (E : Hp) : List V → List D → Prop
  | nil : XAll K E [] []
  | val {v : V} {vs : List V} {d : D} {ds : List D} : Rp K noE v d → XAll K E vs ds → XAll K E (v :: vs) (d :: ds)
  | new {q : Addr} {vs : List V} {ns : List Int} {ds : List D} : E q = some (.lst (ns.map V.int)) → XAll K E vs ds → XAll K E (.ref q :: vs) (.new (ns.map D.int) :: ds)
structure PapX (K : PySem.W.Frag) (E : Hp) (v : V) (ds : List D) : Prop where
  ex : ∃ p vs, v = .ref p ∧ E p = some (.tup vs) ∧ XAll K E vs ds ∧ ∀ (i j : Nat) (q : Addr) (es1 es2 : List D), ds[i]? = some (D.new es1) → ds[j]? = some (D.new es2) → vs[i]? = some (V.ref q) → vs[j]? = some (V.ref q) → i = j
def thaw : D → D
  | .new es => .lst es
  | d => d
/-- the list that stands at i -/
def ItemAt (E : Hp) (v : V) (i : Nat) (q : Addr) : Prop := ∃ p vs, v = .ref p ∧ E p = some (.tup vs) ∧ vs[i]? = some (V.ref q)
theorem jn_ex {E H : Hp} : Ex E (jn E H) := fun a o h => jn_some h
theorem jn_exR {E H : Hp} (h : ∀ a o, E a = some o → H a = none) : Ex H (jn E H) := fun a o e => by
  cases q : E a with
  | none =>
    rw [jn_none q]
    exact e
  | some u =>
    rw [h a u q] at e
    cases e
section
variable {K : PySem.W.Frag} {E : Hp} {v : V} {vs : List V} {ds : List D} {q : Addr} {i : Nat}
theorem Rp.ofE {H : Hp} {d : D} (h : Rp K noE v d) : Rp K H v d := h.mono fun a o e => nomatch (show (none : Option HO) = some o from e)
theorem XAll.rp (h : XAll K E vs ds) : RpAll K E vs (ds.map thaw) := by
  induction h with
  | nil => exact .nil
  | @val v vs d ds h1 h2 ih =>
    refine .cons ?_ ih
    cases d with
    | new es => cases h1
    | _ => exact h1.ofE
  | @new q vs ns ds h1 h2 ih => exact .cons (.lst h1 (RpAll.ofInts ns)) ih
theorem PapX.rp (h : PapX K E v ds) : Rp K E v (.tup (ds.map thaw)) := by
  obtain ⟨p, vs, rfl, h1, h2, h3⟩ := h.ex
  exact .tup (SqT.of h1) h2.rp
theorem XAll.at (h : XAll K E vs ds) {ns : List Int} : ∀ {i : Nat}, ds[i]? = some (.new (ns.map D.int)) → ∃ q, vs[i]? = some (V.ref q) ∧ E q = some (.lst (ns.map V.int)) := by
  induction h with
  | nil => exact fun e => by simp at e
  | @val v vs d ds h1 h2 ih =>
    intro i e
    cases i with
    | zero =>
      simp at e
      subst e
      cases h1
    | succ i => simpa using ih (i := i) (by simpa using e)
  | @new q vs ms ds h1 h2 ih =>
    intro i e
    cases i with
    | zero =>
      refine ⟨q, rfl, ?_⟩
      rw [h1]
      have e1 : ms.map D.int = ns.map D.int := by simpa using e
      have e2 : ms = ns := by
        have := congrArg (List.map fun d : D => match d with | .int i => i | _ => 0) e1
        simpa [Function.comp_def] using this
      rw [e2]
    | succ i => simpa using ih (i := i) (by simpa using e)
theorem PapX.at {ns : List Int} (h : PapX K E v ds) (hi : ds[i]? = some (.new (ns.map D.int))) : ∃ q, ItemAt E v i q ∧ E q = some (.lst (ns.map V.int)) := by
  obtain ⟨p, vs, rfl, h1, h2, h3⟩ := h.ex
  obtain ⟨q, e1, e2⟩ := h2.at hi
  exact ⟨q, ⟨p, vs, rfl, h1, e1⟩, e2⟩
theorem XAll.set (h : XAll K E vs ds) {ns ms : List Int} : ∀ {i : Nat}, ds[i]? = some (.new (ns.map D.int)) → vs[i]? = some (V.ref q) → (∀ (j : Nat) (es : List D), j ≠ i → ds[j]? = some (D.new es) → vs[j]? ≠ some (V.ref q)) → XAll K (upd E q (.lst (ms.map V.int))) vs (ds.set i (.new (ms.map D.int))) := by
  have low : ∀ {vs : List V} {ds : List D}, XAll K E vs ds → (∀ (j : Nat) (es : List D), ds[j]? = some (D.new es) → vs[j]? ≠ some (V.ref q)) → XAll K (upd E q (.lst (ms.map V.int))) vs ds := by
    intro vs ds h
    induction h with
    | nil => exact fun _ => .nil
    | @val v vs d ds h1 h2 ih => exact fun f => .val h1 (ih fun j es e => by simpa using f (j + 1) es (by simpa using e))
    | @new q' vs ns ds h1 h2 ih =>
      refine fun f => .new ?_ (ih fun j es e => by simpa using f (j + 1) es (by simpa using e))
      have : q' ≠ q := fun e => f 0 _ rfl (by rw [e]; rfl)
      rw [upd_ne this]
      exact h1
  induction h with
  | nil => exact fun e => by simp at e
  | @val v vs d ds h1 h2 ih =>
    intro i e1 e2 f
    cases i with
    | zero =>
      simp at e1
      subst e1
      cases h1
    | succ i => exact .val h1 (ih (by simpa using e1) (by simpa using e2) fun j es hj e => by simpa using f (j + 1) es (by omega) (by simpa using e))
  | @new q' vs ns' ds h1 h2 ih =>
    intro i e1 e2 f
    cases i with
    | zero =>
      simp at e2
      subst e2
      exact .new upd_same (low h2 fun j es e => by simpa using f (j + 1) es (by omega) (by simpa using e))
    | succ i =>
      refine .new ?_ (ih (by simpa using e1) (by simpa using e2) fun j es hj e => by simpa using f (j + 1) es (by omega) (by simpa using e))
      have : q' ≠ q := fun e => f 0 _ (by omega) rfl (by rw [e]; rfl)
      rw [upd_ne this]
      exact h1
theorem PapX.set {ns : List Int} (h : PapX K E v ds) (hi : ds[i]? = some (.new (ns.map D.int))) (hq : ItemAt E v i q) (he : E q = some (.lst (ns.map V.int))) (ms : List Int) : PapX K (upd E q (.lst (ms.map V.int))) v (ds.set i (.new (ms.map D.int))) := by
  obtain ⟨p, vs, rfl, h1, h2, h3⟩ := h.ex
  obtain ⟨p', vs', e1, e2, e3⟩ := hq
  cases e1
  rw [h1] at e2
  cases e2
  have hpq : p ≠ q := fun e => by
    subst e
    rw [h1] at he
    cases he
  refine ⟨⟨p, vs, rfl, by rw [upd_ne hpq]; exact h1, h2.set hi e3 fun j es hj e1 e2 => hj (h3 _ _ _ _ _ e1 hi e2 e3), fun i' j q' es1 es2 a1 a2 a3 a4 => ?_⟩⟩
  have old : ∀ {j : Nat} {es : List D}, (ds.set i (.new (ms.map D.int)))[j]? = some (.new es) → ∃ es', ds[j]? = some (.new es') := fun {j es} e => by
    by_cases hj : i = j
    · subst hj
      exact ⟨_, hi⟩
    · rw [List.getElem?_set_ne hj] at e
      exact ⟨_, e⟩
  obtain ⟨_, b1⟩ := old a1
  obtain ⟨_, b2⟩ := old a2
  exact h3 i' j q' _ _ b1 b2 a3 a4
theorem ItemAt.upd {w : V} {j : Nat} {q' : Addr} {xs ys : List V} (h : ItemAt E v i q) (he : E q' = some (.lst xs)) : ItemAt (upd E q' (.lst ys)) v i q := by
  obtain ⟨p, vs, rfl, h1, h2⟩ := h
  refine ⟨p, vs, rfl, ?_, h2⟩
  have : p ≠ q' := fun e => by
    subst e
    rw [h1] at he
    cases he
  rw [upd_ne this]
  exact h1
end
/-! ### a look at the objects beside -/
inductive Pk (K : PySem.W.Frag) (E : Hp) : Rho → Rho → Prop
  | nil : Pk K E [] []
  | same {s : Slot} {r r' : Rho} : Pk K E r r' → Pk K E (s :: r) (s :: r')
  | raw {v : V} {d : D} {r r' : Rho} : Rp K E v d → Pk K E r r' → Pk K E (.raw v :: r) (.val d :: r')
theorem Pk.get {K : PySem.W.Frag} {E : Hp} {r r' : Rho} (h : Pk K E r r') : ∀ {i : Nat} {s : Slot}, r'[i]? = some s → r[i]? = some s ∨ ∃ v d, r[i]? = some (.raw v) ∧ s = .val d ∧ Rp K E v d := by
  induction h with
  | nil => exact fun e => .inl e
  | @same s r r' h ih =>
    intro i t e
    cases i with
    | zero => exact .inl e
    | succ i => simpa using ih (i := i) (by simpa using e)
  | @raw v d r r' h1 h ih =>
    intro i t e
    cases i with
    | zero =>
      refine .inr ⟨v, d, rfl, ?_, h1⟩
      simpa using e.symm
    | succ i => simpa using ih (i := i) (by simpa using e)
theorem Pk.len {K : PySem.W.Frag} {E : Hp} {r r' : Rho} (h : Pk K E r r') : r.length = r'.length := by
  induction h with
  | nil => rfl
  | same h ih => simp [ih]
  | raw h1 h ih => simp [ih]
theorem EnvE.peek {K : PySem.W.Frag} {HBe He E HB H : Hp} {σ : L2.St} {ρ ρ' : Rho} (e : EnvE K HBe He E HB H σ ρ) (h : Pk K E ρ ρ') : EnvOk K (jn E HB) H σ ρ' := by
  have hx : Ex HB (jn E HB) := jn_exR e.hb
  have own : ∀ {i : Nat} {ds : List D}, ρ'[i]? = some (.own ds) → ρ[i]? = some (.own ds) := fun {i ds} h1 => by
    rcases h.get h1 with h2 | ⟨v, d, _, h2, _⟩
    · exact h2
    · cases h2
  refine ⟨fun a o h => ?_, e.s.e.len.trans h.len, fun i o s h1 h2 => ?_, fun i j p ds es h1 h2 => e.s.e.sep i j p ds es (own h1) (own h2)⟩
  · cases q : E a with
    | none =>
      rw [jn_none q] at h
      exact e.s.e.ex a o h
    | some u =>
      rw [jn_some q] at h
      cases h
      exact e.at q
  · rcases h.get h2 with h3 | ⟨v, d, h3, rfl, h4⟩
    · have := e.s.e.ok i o s h1 h3
      cases s with
      | any => trivial
      | raw v => exact this
      | cond v a u => exact ⟨this.1, hx _ _ this.2⟩
      | val d =>
        obtain ⟨v, a1, a2⟩ := this
        exact ⟨v, a1, a2.mono hx⟩
      | own ds =>
        obtain ⟨p, vs, a1, a2, a3, a4⟩ := this
        refine ⟨p, vs, a1, ?_, a3, a4.mono hx⟩
        have hp := e.s.o i ds p h3 (by rw [h1, a1])
        rw [jn_none (jn_free hp).1]
        exact a2
    · have := e.s.e.ok i o _ h1 h3
      exact ⟨v, this, h4.mono jn_ex⟩
theorem EnvE.out {K : PySem.W.Frag} {HBe He E HB H HB2 H2 : Hp} {σ : L2.St} {ρ : Rho} (e : EnvE K HBe He E HB H σ ρ) (x : Step (jn E HB) H HB2 H2) : EnvE K HBe He E HB H2 σ ρ := e.step ⟨Ex.refl _, e.s.e.ex.trans x.h, x.h, fun a h1 h2 => absurd h1 h2⟩
/-- data without objects -/
def Flat (d : D) : Prop := ∀ (K : PySem.W.Frag) (H : Hp) (v : V), Rp K H v d → Rp K noE v d
theorem flat_int (i : Int) : Flat (.int i) := fun K H v h => by
  cases h
  exact .int i
theorem flat_str (i : Str) : Flat (.str i) := fun K H v h => by
  cases h
  exact .str i
theorem flat_bl (i : Bool) : Flat (.bl i) := fun K H v h => by
  cases h
  exact .bl i
theorem flat_non : Flat .non := fun K H v h => by
  cases h
  exact .non
section
variable {X : Cx} {ρ ρ' ρ2 : Rho} {E E' : Hp} {e a b c tg : Expr} {es : List Expr} {d d0 d1 d2 : D} {ds ds1 ds2 : List D} {pos p apos pos' : Pos} {i j : Int} {x y : Str} {α : Type} {st : Stmt} {rest body : List Stmt} {P : PostE} {M : Rho → Hp → Prop} {ns : List Int}
theorem gd_ifP {A B : List Stmt} {k : Bool} (hk : Pk X.K E ρ ρ2) (hc : EvT X ρ2 c k) (h1 : k = true → Gd X ρ E A P) (h2 : k = false → Gd X ρ E B P) : Ge X ρ E (.If c A B pos) P := fun HBe He σ HB H hE Dn q =>
  ⟨_, ps_if pt_wp pss_wp pss_wp, hc σ _ H (hE.peek hk) _ fun HB2 H2 x2 => by
    cases k with
    | true => exact iteT (h1 rfl HBe He σ HB H2 (hE.out x2) Dn q)
    | false => exact iteF (h2 rfl HBe He σ HB H2 (hE.out x2) Dn q)⟩
/-- if c: return e, with nothing behind that reads it -/
theorem gd_ifRetP {A : List Stmt} {k : Bool} (hk : Pk X.K E ρ ρ2) (hc : EvT X ρ2 c k) (h1 : k = true → Gd X ρ E A { P with nx := fun _ _ => False }) (h2 : k = false → Gd X ρ E rest P) : Gd X ρ E (.If c A [] pos :: rest) P := by
  cases k with
  | true => exact gd_seq (M := fun _ _ => False) (gd_ifP hk hc h1 fun h => nomatch h) fun _ _ h => h.elim
  | false => exact gd_seq (M := fun r E' => r = ρ ∧ E' = E) (gd_ifP hk hc (fun h => nomatch h) fun _ => gd_nil ⟨rfl, rfl⟩) fun r E' ⟨e1, e2⟩ => (by
      subst e1 e2
      exact h2 rfl)
theorem ge_asgP {k : Nat} (hk : Pk X.K E ρ ρ2) (hN : X.N.Nodup) (hi : X.N[k]? = some x) (hx : Loc X.env.scope x) (he : Ev X ρ2 e d) (hf : Flat d) (h : P.nx (ρ.set k (.val d)) E)
    (hs : swapsWith e (some (.Name x pos')) pos.line X.env = pure false := by rfl) (hfn : X.fn x = true ∨ X.env.scope.names.lookup x = some .local := by first | exact .inl rfl | exact .inr rfl | assumption) : Ge X ρ E (.Assign [.Name x pos'] e pos) P := fun HBe He σ HB H hE Dn q =>
  ⟨_, ps_set hN hi hx pe_wp hs hfn, he σ _ H (hE.peek hk) _ fun v HB2 H2 x2 r2 => by
    have e2 := hE.out x2
    exact q.1 _ _ _ HB H2 h ⟨e2.s.setVal k (hf _ _ _ r2).ofE, e2.hb, e2.he⟩⟩
/-- a new list of ints is laid beside -/
theorem ge_newL {k : Nat} (hN : X.N.Nodup) (hi : X.N[k]? = some x) (hx : Loc X.env.scope x) (he : EvN X ρ e (ns.map D.int)) (h : ∀ q, E q = none → P.nx (ρ.set k (.raw (.ref q))) (upd E q (.lst (ns.map V.int))))
    (hs : swapsWith e (some (.Name x pos')) pos.line X.env = pure false := by rfl) (hf : X.fn x = true ∨ X.env.scope.names.lookup x = some .local := by first | exact .inl rfl | exact .inr rfl | assumption) : Ge X ρ E (.Assign [.Name x pos'] e pos) P := fun HBe He σ HB H hE Dn q =>
  ⟨_, ps_set hN hi hx pe_wp hs hf, he σ HB H hE.s.e _ fun l vs HB2 H2 x2 f1 f2 f3 f4 => by
    obtain ⟨g1, g2, g3, g4⟩ := hE.fresh f1
    have e2 := (hE.step x2).add f3 f2 g3 g1 g4
    rw [f4.ints] at e2
    exact q.1 _ _ _ HB2 H2 (h l g1) ⟨e2.s.setRaw k _, e2.hb, e2.he⟩⟩
/-- .. is read as a value -/
theorem ge_copyP {k : Nat} (hk : Pk X.K E ρ ρ2) (hN : X.N.Nodup) (hi : X.N[k]? = some x) (hx : Loc X.env.scope x) (he : EvN X ρ2 e (ns.map D.int)) (h : P.nx (ρ.set k (.val (.lst (ns.map D.int)))) E)
    (hs : swapsWith e (some (.Name x pos')) pos.line X.env = pure false := by rfl) (hf : X.fn x = true ∨ X.env.scope.names.lookup x = some .local := by first | exact .inl rfl | exact .inr rfl | assumption) : Ge X ρ E (.Assign [.Name x pos'] e pos) P := fun HBe He σ HB H hE Dn q =>
  ⟨_, ps_set hN hi hx pe_wp hs hf, he σ _ H (hE.peek hk) _ fun l vs HB2 H2 x2 f1 f2 f3 f4 => by
    have e2 := hE.out x2
    obtain ⟨g1, g2, g3, g4⟩ := hE.fresh f1
    have e3 : EnvE X.K HBe He E (upd HB l (.lst vs)) H2 σ ρ := hE.step (Step.know ⟨Ex.refl _, e2.s.e.ex, x2.h, fun a h1 h2 => absurd h1 h2⟩ f1 g2 f3)
    refine q.1 _ _ _ _ H2 h ⟨e3.s.setVal k (.lst upd_same ?_), e3.hb, e3.he⟩
    rw [f4.ints]
    exact RpAll.ofInts ns⟩
/-- l = v[i], a list of the paper v -/
theorem ge_item {k kp : Nat} {o : Expr} {v : V} {m : Nat} {q : Addr} {u : Nat} {cp : Pos} (hN : X.N.Nodup) (hi : X.N[k]? = some x) (hx : Loc X.env.scope x) (ho : PE X o (tVar kp)) (hk : ρ[kp]? = some (.raw v)) (hq : ItemAt E v m q) (h : P.nx (ρ.set k (.raw (.ref q))) E)
    (hs : swapsWith (.Subscript o (.Constant (.int (m : Int)) u cp) p) (some (.Name x pos')) pos.line X.env = pure false := by rfl) (hf : X.fn x = true ∨ X.env.scope.names.lookup x = some .local := by first | exact .inl rfl | exact .inr rfl | assumption) (hpl : PlainIx (.Constant (.int (m : Int)) u cp) := by exact fun _ _ => rfl) :
    Ge X ρ E (.Assign [.Name x pos'] (.Subscript o (.Constant (.int (m : Int)) u cp) p) pos) P := fun HBe He σ HB H hE Dn qq => by
  obtain ⟨pp, vs, rfl, h1, h2⟩ := hq
  refine ⟨_, ps_set hN hi hx (pe_ix ix_tup ho pe_int hpl) hs hf, ?_⟩
  refine ⟨_, hE.s.e.raw hk, ?_⟩
  refine ⟨pp, vs, m, .ref q, rfl, rfl, SqT.of (hE.at h1), ?_, qq.1 _ _ _ _ _ h ⟨hE.s.setRaw k _, hE.hb, hE.he⟩⟩
  have hm := (List.getElem?_eq_some_iff.mp h2).1
  rw [atI_in (by omega) (by omega), Int.toNat_natCast]
  exact h2
/-- l.append(e), l beside -/
theorem ge_appE {k : Nat} {o : Expr} {pos2 : Pos} {q : Addr} (ho : PE X o (tVar k)) (hk : ρ[k]? = some (.raw (.ref q))) (hq : E q = some (.lst (ns.map V.int))) (he : Ev X ρ e (.int i)) (hz : ns.length < 100000) (h : P.nx ρ (upd E q (.lst ((ns ++ [i]).map V.int))))
    (hs : swapsWith (.Call (.Attribute o "append" apos) [e] [] pos2) none pos.line X.env = pure false := by rfl) (hb : attributeBase o "append" X.env (eval o X.env) = eval o X.env := by rfl)
    (hfew : ((backTo pos2 (starEach [e] X.env)).all (fun x => !x.1) && (backToKw pos2 (keywordEach [] X.env)).all (fun x => x.1.isSome) && decide (([e] : List Expr).length + ([] : List Keyword).length + (if ([] : List Keyword).isEmpty then 0 else 1) < 30)) = true := by rfl)
    (hline : (apos.endLine == pos2.line) = true := by rfl) (hst : St1 X e := by rfl) (hp : NoStar X pos2 [] := by rfl) : Ge X ρ E (.Expr (.Call (.Attribute o "append" apos) [e] [] pos2) pos) P := fun HBe He σ HB H hE Dn qq =>
  ⟨_, ps_expr (pe_bm PySem.F.plainAttrs_list PySem.F.slot_list_append PySem.F.type_list_append mt_append ho (pa_cons pe_wp pa_nil hst) hb hfew hline hst hp) hs, by
    refine ⟨_, hE.s.e.raw hk, .inl ⟨rfl, _, SqL.of (hE.at hq)⟩, he σ HB H hE.s.e _ fun v HB2 H2 x2 r2 => ?_⟩
    have E2 := hE.step x2
    refine ⟨q, _, v, rfl, rfl, E2.at hq, by rw [List.length_map]; exact Nat.lt_of_lt_of_le hz (by decide), ?_⟩
    have e3 := E2.mut (o' := .lst (ns.map V.int ++ [v])) hq
    rw [r2.ofInt] at e3 ⊢
    have : (ns ++ [i]).map V.int = ns.map V.int ++ [V.int i] := by simp
    rw [this] at h
    exact qq.1 _ _ _ _ _ h e3⟩
theorem ge_clrE {k : Nat} {o : Expr} {pos2 : Pos} {q : Addr} (ho : PE X o (tVar k)) (hk : ρ[k]? = some (.raw (.ref q))) (hq : E q = some (.lst (ns.map V.int))) (h : P.nx ρ (upd E q (.lst [])))
    (hs : swapsWith (.Call (.Attribute o "clear" apos) [] [] pos2) none pos.line X.env = pure false := by rfl) (hb : attributeBase o "clear" X.env (eval o X.env) = eval o X.env := by rfl)
    (hline : (apos.endLine == pos2.line) = true := by rfl) : Ge X ρ E (.Expr (.Call (.Attribute o "clear" apos) [] [] pos2) pos) P := fun HBe He σ HB H hE Dn qq =>
  ⟨_, ps_expr (pe_bm0 PySem.F.plainAttrs_list PySem.F.slot_list_clear PySem.F.type_list_clear mt_clear ho hb hline) hs, by
    refine ⟨_, hE.s.e.raw hk, .inl ⟨rfl, _, SqL.of (hE.at hq)⟩, ?_⟩
    exact ⟨q, _, rfl, rfl, hE.at hq, qq.1 _ _ _ _ _ h (hE.mut hq)⟩⟩
/-- what stands beside is left -/
theorem gd_drop (h : Gd X ρ noE rest P) : Gd X ρ E rest P := fun HBe He σ HB H hE Dn q => h HBe He σ HB H (EnvE.start hE.drop) Dn q

/-! ### items of a display, some of them new lists -/
def Ga (X : Cx) (ρ : Rho) (E : Hp) (es : List Expr) (R : List V → Hp → Prop) : Prop := ∀ (HBe He : Hp) (σ : L2.St) (HB H : Hp), EnvE X.K HBe He E HB H σ ρ → ∀ Q : List V → Hp → Prop, (∀ vs E' HB2 H2, R vs E' → EnvE X.K HBe He E' HB2 H2 σ ρ → Q vs H2) → wpA X es σ H Q
theorem ga_nil {R : List V → Hp → Prop} (h : R [] E) : Ga X ρ E [] R := fun HBe He σ HB H hE Q q => ⟨_, pa_nil, q _ _ _ _ h hE⟩
theorem ga_val {R : List V → Hp → Prop} (he : Ev X ρ e d) (hf : Flat d) (h : ∀ v, Rp X.K noE v d → Ga X ρ E es fun vs E' => R (v :: vs) E') (hs : starEach (e :: es) X.env = (false, eval e X.env) :: starEach es X.env := by rfl) : Ga X ρ E (e :: es) R := fun HBe He σ HB H hE Q q =>
  ⟨_, pa_cons pe_wp pa_wp hs, he σ HB H hE.s.e _ fun v HB1 H1 x1 r1 => h v (hf _ _ _ r1) HBe He σ HB1 H1 (hE.step x1) _ fun vs E' HB2 H2 hR hE2 => q _ _ _ _ hR hE2⟩
theorem ga_raw {R : List V → Hp → Prop} {k : Nat} {v : V} (hv : PE X e (tVar k)) (hk : ρ[k]? = some (.raw v)) (h : Ga X ρ E es fun vs E' => R (v :: vs) E') (hs : starEach (e :: es) X.env = (false, eval e X.env) :: starEach es X.env := by rfl) : Ga X ρ E (e :: es) R := fun HBe He σ HB H hE Q q =>
  ⟨_, pa_cons hv pa_wp hs, v, hE.s.e.raw hk, h HBe He σ HB H hE _ fun vs E' HB2 H2 hR hE2 => q _ _ _ _ hR hE2⟩
theorem ga_new {R : List V → Hp → Prop} (he : EvN X ρ e (ns.map D.int)) (h : ∀ l, E l = none → Ga X ρ (upd E l (.lst (ns.map V.int))) es fun vs E' => R (.ref l :: vs) E') (hs : starEach (e :: es) X.env = (false, eval e X.env) :: starEach es X.env := by rfl) : Ga X ρ E (e :: es) R := fun HBe He σ HB H hE Q q =>
  ⟨_, pa_cons pe_wp pa_wp hs, he σ HB H hE.s.e _ fun l vs HB2 H2 x2 f1 f2 f3 f4 => by
    obtain ⟨g1, g2, g3, g4⟩ := hE.fresh f1
    have e2 := (hE.step x2).add f3 f2 g3 g1 g4
    rw [f4.ints] at e2
    exact h l g1 HBe He σ HB2 H2 e2 _ fun vs E' HB2 H2 hR hE2 => q _ _ _ _ hR hE2⟩
/-- behind the statements a paper is handed back -/
def Gp (X : Cx) (ρ : Rho) (E : Hp) (sts : List Stmt) (ps : List D) : Prop := ∀ (HBe He : Hp) (σ : L2.St) (HB H : Hp), EnvE X.K HBe He E HB H σ ρ → ∀ Dn : Ends,
  (∀ v E' HB' H', Step HBe He HB' H' → (∀ a o, E' a = some o → He a = none ∧ HB' a = none ∧ H' a = some o) → PapX X.K E' v ps → Dn.rt v H') → wpB X sts Dn σ H
theorem gp_seq {ps : List D} (h : Ge X ρ E st ⟨M, fun _ => False⟩) (k : ∀ ρ' E', M ρ' E' → Gp X ρ' E' rest ps) : Gp X ρ E (st :: rest) ps := fun HBe He σ HB H hE Dn q =>
  ⟨_, pss_cons ps_wp pss_wp, h HBe He σ HB H hE { Dn with nx := wpB X rest Dn } ⟨fun ρ' E' σ' HB' H' m e => k ρ' E' m HBe He σ' HB' H' e Dn q, fun d v HB' H' f => f.elim, fun es p us HB' H' f => f.elim⟩⟩
theorem gp_seq1 {ps : List D} (h : Sd X ρ st ⟨fun r => r = ρ', fun _ => False⟩) (k : Gp X ρ' E rest ps) : Gp X ρ E (st :: rest) ps := gp_seq (M := fun r E' => r = ρ' ∧ E' = E) (ge_of (by
  intro HBe He σ HB H hE Dn q
  exact h HBe He σ HB H hE Dn ⟨fun r σ' HB' H' n => q.1 r σ' HB' H' ⟨n, rfl⟩, q.2⟩)) fun r E' ⟨e1, e2⟩ => by
    subst e1 e2
    exact k
theorem gp_ret {ps : List D} {k : Nat} (h : Ga X ρ E es fun vs E' => vs.length ≤ 100000 ∧ ∀ pp, E' pp = none → PapX X.K (upd E' pp (.tup vs)) (.ref pp) ps) : Gp X ρ E (.Return (some (.Tuple es k p)) pos :: rest) ps := fun HBe He σ HB H hE Dn q => by
  refine ⟨_, pss_cons (ps_ret (pe_tup pa_wp)) pss_wp, h HBe He σ HB H hE _ fun vs E' HB2 H2 ⟨hz, hp⟩ hE2 => ⟨Nat.le_trans hz (by decide), fun pp hpp => ?_⟩⟩
  obtain ⟨g1, g2, g3, g4⟩ := hE2.fresh hpp
  have e3 := hE2.lay (o := .tup vs) hpp
  refine q _ _ HB2 _ (step_drop e3 e3.s.s) (fun a o h => ⟨e3.he a o h, e3.hb a o h, e3.at h⟩) (hp pp g1)
end
/-! ### calls that hand back a paper -/
def spPap (K : PySem.W.Frag) (ds ps : List D) : Sp := fun vs H Q _ => ∃ HB, Ex HB H ∧ RpAll K HB vs ds ∧ ∀ v E HB2 H2, Step HB H HB2 H2 → (∀ a o, E a = some o → H a = none ∧ HB2 a = none ∧ H2 a = some o) → PapX K E v ps → Q v H2
structure CalP (P : Program) (w : World) (K : PySem.W.Frag) (mg : Str → Option Value) (base : Heap) (k : Nat) (x : Str) (ds ps : List D) : Prop where
  ex : ∃ (f : Addr) (fd : FuncData) (qs : List Str), mg x = some (.ref f) ∧ PySem.W.keepIn K (.ref f) = true ∧ Binds K fd qs [] ∧ FnOk P w K mg base CX0 k f fd qs (spPap K ds ps)
/-- .. with its last argument by a keyword, or by its default dv -/
structure CalPK (P : Program) (w : World) (K : PySem.W.Frag) (mg : Str → Option Value) (base : Heap) (k : Nat) (x kw : Str) (ds : List D) (d0 : D) (ps : List D) : Prop where
  ex : ∃ (f : Addr) (fd : FuncData) (qs : List Str), mg x = some (.ref f) ∧ PySem.W.keepIn K (.ref f) = true ∧ KBn K fd qs ds.length [kw] (fun us ws => us ++ ws) (fun vs zs => vs ++ zs) ∧ FnOk P w K mg base CX0 k f fd qs (spPap K (ds ++ [d0]) ps)
structure CalPD (P : Program) (w : World) (K : PySem.W.Frag) (mg : Str → Option Value) (base : Heap) (k : Nat) (x : Str) (dv : V) (ds : List D) (d0 : D) (ps : List D) : Prop where
  ex : ∃ (f : Addr) (fd : FuncData) (qs : List Str) (us : List Value), mg x = some (.ref f) ∧ PySem.W.keepIn K (.ref f) = true ∧ Vals [dv] us ∧ Binds K fd qs us ∧ (∀ H, Rp K H dv d0) ∧ FnOk P w K mg base CX0 k f fd qs (spPap K (ds ++ [d0]) ps)
section
variable {X : Cx} {ρ ρ' ρ2 : Rho} {E E' : Hp} {e a b c tg : Expr} {es : List Expr} {d d0 d1 d2 : D} {ds ds1 ds2 ps : List D} {pos p apos pos' cpos : Pos} {i j : Int} {x y kw : Str} {P : PostE} {dv : V}
theorem EnvE.paper {K : PySem.W.Frag} {HBe He E E' HB H HB2 H2 : Hp} {σ : L2.St} {ρ : Rho} (e : EnvE K HBe He E HB H σ ρ) (x2 : Step HB H HB2 H2) (hf : ∀ a o, E' a = some o → H a = none ∧ HB2 a = none ∧ H2 a = some o) : EnvE K HBe He E' HB2 H2 σ ρ := by
  have e1 := e.drop
  have e2 := e1.step x2
  have hhe : ∀ a o, E' a = some o → He a = none := fun a o h => e1.s.h.free (hf a o h).1
  refine ⟨⟨e2.e, ⟨e2.s.b, e2.s.in_, fun a o h => ?_, fun a h1 h2 => ?_⟩, fun i ds p h1 h2 => ?_⟩, fun a o h => (hf a o h).2.1, hhe⟩
  · cases q : E' a with
    | none =>
      rw [jn_none q] at h
      exact e2.s.h a o h
    | some u =>
      rw [jn_some q] at h
      cases h
      exact (hf a _ q).2.2
  · cases q : E' a with
    | none =>
      rw [jn_none q]
      exact e2.s.fr a h1 h2
    | some u => exact absurd (hf a u q).2.1 h2
  · cases q : E' p with
    | none =>
      rw [jn_none q]
      exact e2.o i ds p h1 h2
    | some u =>
      obtain ⟨p', vs, a1, a2, a3, a4⟩ := e1.e.own h1
      rw [h2] at a1
      cases a1
      rw [(hf p u q).1] at a3
      cases a3
/-- y = f(es), a paper -/
theorem ge_pap {k n : Nat} (C : CalP X.prog X.w X.K X.mg X.base n x ds ps) (hr : Room n X.A) (ha : EvA X ρ (e :: es) ds) (hN : X.N.Nodup) (hi : X.N[k]? = some y) (hx : Loc X.env.scope y) (h : ∀ v E', PapX X.K E' v ps → P.nx (ρ.set k (.raw v)) E') (hg : Gl X x := by rfl) (hdb : (x == ("__debug__" : Str)) = false := by decide)
    (he : starEach (e :: es) X.env = (false, eval e X.env) :: starEach es X.env := by rfl) (hpl : NoStar X cpos es := by rfl) (hs : swapsWith (.Call (.Name x p) (e :: es) [] cpos) (some (.Name y pos')) pos.line X.env = pure false := by rfl)
    (hf : X.fn y = true ∨ X.env.scope.names.lookup y = some .local := by first | exact .inl rfl | exact .inr rfl | assumption) : Ge X ρ E (.Assign [.Name y pos'] (.Call (.Name x p) (e :: es) [] cpos) pos) P := fun HBe He σ HB H hE Dn q => by
  obtain ⟨f, fd, qs, hm, hk, hb, F⟩ := C.ex
  refine ⟨_, ps_set hN hi hx (pe_call (E := E0) F hr hg hm hk hb .nil passN pa_wp hdb he hpl) hs hf, ha σ HB H hE.s.e _ fun vs HB1 H1 x1 r1 => ?_⟩
  have hE1 := hE.step x1
  refine ⟨HB1, x1.in_, by rw [List.append_nil]; exact r1, fun v E' HB2 H2 x2 hf hp => ?_⟩
  have e2 := hE1.paper x2 hf
  exact q.1 _ _ _ _ _ (h v E' hp) ⟨e2.s.setRaw k v, e2.hb, e2.he⟩
/-- .. by its default -/
theorem ge_papD {k n : Nat} (C : CalPD X.prog X.w X.K X.mg X.base n x dv ds d0 ps) (hr : Room n X.A) (ha : EvA X ρ (e :: es) ds) (hN : X.N.Nodup) (hi : X.N[k]? = some y) (hx : Loc X.env.scope y) (h : ∀ v E', PapX X.K E' v ps → P.nx (ρ.set k (.raw v)) E') (hg : Gl X x := by rfl) (hdb : (x == ("__debug__" : Str)) = false := by decide)
    (he : starEach (e :: es) X.env = (false, eval e X.env) :: starEach es X.env := by rfl) (hpl : NoStar X cpos es := by rfl) (hs : swapsWith (.Call (.Name x p) (e :: es) [] cpos) (some (.Name y pos')) pos.line X.env = pure false := by rfl)
    (hf : X.fn y = true ∨ X.env.scope.names.lookup y = some .local := by first | exact .inl rfl | exact .inr rfl | assumption) : Ge X ρ E (.Assign [.Name y pos'] (.Call (.Name x p) (e :: es) [] cpos) pos) P := fun HBe He σ HB H hE Dn q => by
  obtain ⟨f, fd, qs, us, hm, hk, hv, hb, hd, F⟩ := C.ex
  refine ⟨_, ps_set hN hi hx (pe_call (E := E0) F hr hg hm hk hb hv passN pa_wp hdb he hpl) hs hf, ha σ HB H hE.s.e _ fun vs HB1 H1 x1 r1 => ?_⟩
  have hE1 := hE.step x1
  refine ⟨HB1, x1.in_, RpAll.ap r1 (hd _), fun v E' HB2 H2 x2 hf hp => ?_⟩
  have e2 := hE1.paper x2 hf
  exact q.1 _ _ _ _ _ (h v E' hp) ⟨e2.s.setRaw k v, e2.hb, e2.he⟩
/-- .. by the keyword -/
theorem ge_papK {k n : Nat} {kp : Pos} (C : CalPK X.prog X.w X.K X.mg X.base n x kw ds d0 ps) (hr : Room n X.A) (ha : EvA X ρ (e :: es) ds) (hb : Ev X ρ b d0) (hN : X.N.Nodup) (hi : X.N[k]? = some y) (hx : Loc X.env.scope y) (h : ∀ v E', PapX X.K E' v ps → P.nx (ρ.set k (.raw v)) E')
    (hg : Gl X x := by rfl) (hall : (backToKw cpos (keywordEach [⟨some kw, b, kp⟩] X.env)).all (·.1.isSome) = true := by rfl)
    (hks : (backToKw cpos (keywordEach [⟨some kw, b, kp⟩] X.env)).filterMap (·.1) = [kw] := by rfl) (hdb : (x == ("__debug__" : Str)) = false := by decide) (he : starEach (e :: es) X.env = (false, eval e X.env) :: starEach es X.env := by rfl)
    (hpl : ((backTo cpos (starEach (e :: es) X.env)).any (·.1) || (backToKw cpos (keywordEach [⟨some kw, b, kp⟩] X.env)).any (·.1.isNone)) = false := by rfl)
    (hs : swapsWith (.Call (.Name x p) (e :: es) [⟨some kw, b, kp⟩] cpos) (some (.Name y pos')) pos.line X.env = pure false := by rfl)
    (hf : X.fn y = true ∨ X.env.scope.names.lookup y = some .local := by first | exact .inl rfl | exact .inr rfl | assumption) : Ge X ρ E (.Assign [.Name y pos'] (.Call (.Name x p) (e :: es) [⟨some kw, b, kp⟩] cpos) pos) P := fun HBe He σ HB H hE Dn q => by
  obtain ⟨f, fd, qs, hm, hk, hbn, F⟩ := C.ex
  refine ⟨_, ps_set hN hi hx (pe_callN (E := E0) F hr hg hm hk hbn passN pa_wp (pk_cons pe_wp pk_nil) hall hks hdb he hpl) hs hf, ha σ HB H hE.s.e _ fun vs HB1 H1 x1 r1 => hb σ HB1 H1 (hE.s.e.step x1) _ fun v HB2 H2 x2 r2 => ⟨r1.length, rfl, HB2, x2.in_, (r1.mono x2.b).ap r2, fun u E' HB3 H3 x3 hf hp => ?_⟩⟩
  have hE1 := (hE.step x1).step x2
  have e2 := hE1.paper x3 hf
  exact q.1 _ _ _ _ _ (h u E' hp) ⟨e2.s.setRaw k u, e2.hb, e2.he⟩
end
section
variable {P : Program} {w : World} {K : PySem.W.Frag} {mg : Str → Option Value} {base : Heap} {k : Nat} {x : Str} {st : Stmt} {N ps : List Str} {ds qs : List D} {d : D}
theorem fn_bodyP {f : Addr} {fd : FuncData} {kws : List (Str × V)} (F : FunD K x x (defArgs st) (defBody st) (defScope st) [] kws f fd) (S : FnScope N ps (defScope st)) (hl : ds.length = ps.length)
    (hbody : ∀ Y : Fx, Room k (cxY P w K mg base N x (defScope st) Y).A → Gp (cxY P w K mg base N x (defScope st) Y) (rho0 N ds) noE (defBody st) qs) : FnOk P w K mg base CX0 (k + 1) f fd ps (spPap K ds qs) := by
  refine F.ok S (fun vs H Q E h => ?_) (fun cdv A outer s H vs Q E hr h => ?_)
  · obtain ⟨HB, _, r, _⟩ := h
    rw [r.length, hl]
  · obtain ⟨HB, e, r, q⟩ := h
    refine ⟨wpB (cxY P w K mg base N x (defScope st) ⟨f, cdv, A, outer, s, H, E⟩) (defBody st), PSs.nox pss_wp, ?_⟩
    exact hbody ⟨f, cdv, A, outer, s, H, E⟩ hr HB H (L2.start N vs) HB H (EnvE.start ⟨env_start e r, Step.refl e, fun i es p h1 => absurd h1 noown⟩) _ fun v E' HB' H' hs hf hp => q v E' HB' H' hs hf hp
theorem calp_of (T : DefOk K mg x st []) (S : FnScope N ps (defScope st)) (hb : ∀ (kV doc pm : Value) (an : Option Addr) (cdv ct : Value) (us : List Value), us.length = ps.length → bindArgs (PySem.W.fnOf x x (defArgs st) (defBody st) (defScope st) .none kV doc pm an cdv ct) ⟨us, []⟩ = pure (ps.zip us))
    (hl : ds.length = ps.length)
    (hbody : ∀ Y : Fx, Room k (cxY P w K mg base N x (defScope st) Y).A → Gp (cxY P w K mg base N x (defScope st) Y) (rho0 N ds) noE (defBody st) qs) : CalP P w K mg base (k + 1) x ds qs := by
  obtain ⟨f, fd, hm, F⟩ := T.ex
  exact ⟨f, fd, ps, hm, F.kp, F.bindsN hb, fn_bodyP F S hl hbody⟩
theorem calpk_of {kw : Str} {d0 : D} {kws : List (Str × V)} (T : DefOk K mg x st kws) (S : FnScope N ps (defScope st)) (hb : ∀ (kV doc pm : Value) (an : Option Addr) (cdv ct : Value) (us ws : List Value), us.length = ds.length → ws.length = 1 → bindArgs (PySem.W.fnOf x x (defArgs st) (defBody st) (defScope st) .none kV doc pm an cdv ct) ⟨us, [kw].zip ws⟩ = pure (ps.zip (us ++ ws)))
    (hl : (ds ++ [d0]).length = ps.length)
    (hbody : ∀ Y : Fx, Room k (cxY P w K mg base N x (defScope st) Y).A → Gp (cxY P w K mg base N x (defScope st) Y) (rho0 N (ds ++ [d0])) noE (defBody st) qs) : CalPK P w K mg base (k + 1) x kw ds d0 qs := by
  obtain ⟨f, fd, hm, F⟩ := T.ex
  refine ⟨f, fd, ps, hm, F.kp, ⟨fun s us ws X l1 l2 => ?_, fun r1 r2 => r1.append r2⟩, fn_bodyP F S hl hbody⟩
  obtain ⟨oc, od, dV, kV, doc, pm, an, cdv, ct, osl, rfl, lk, hcd, hD, hK⟩ := F.ex
  rcases hD with ⟨_, rfl⟩ | ⟨e, _⟩
  · exact .of_eq (hb kV doc pm an cdv ct us ws l1 l2)
  · exact absurd rfl e
theorem calpd_of {kw : Str} {dv : V} {d0 : D} (T : DefOk K mg x st [(kw, dv)]) (S : FnScope N ps (defScope st)) (hb : ∀ (D : Addr) (doc pm : Value) (an : Option Addr) (cdv ct : Value) (us ks : List Value), us.length = ds.length → ks.length = 1 →
      KwChain D ([kw].zip ks) (bindArgs (PySem.W.fnOf x x (defArgs st) (defBody st) (defScope st) .none (.ref D) doc pm an cdv ct) ⟨us, []⟩) (ps.zip (us ++ ks))) (hd : ∀ H, Rp K H dv d0)
    (hl : (ds ++ [d0]).length = ps.length)
    (hbody : ∀ Y : Fx, Room k (cxY P w K mg base N x (defScope st) Y).A → Gp (cxY P w K mg base N x (defScope st) Y) (rho0 N (ds ++ [d0])) noE (defBody st) qs) : CalPD P w K mg base (k + 1) x dv ds d0 qs := by
  obtain ⟨f, fd, hm, F⟩ := T.ex
  have hl' : ds.length + 1 = ps.length := by
    rw [← hl, List.length_append]
    rfl
  obtain ⟨us, h1, h2⟩ := F.binds0 ds.length (fun e => nomatch e) (by rw [← hl']; rfl) fun D doc pm an cdv ct us ks l1 l2 => hb D doc pm an cdv ct us ks l1 l2
  exact ⟨f, fd, ps, us, hm, F.kp, h1, h2, hd, fn_bodyP F S hl hbody⟩
end
end Y
end S_Lay10

section S_Lay11
set_option maxHeartbeats 2000000
namespace Y
open PySem PySem.Spec PyProof.Rows L2
/-! ### isinstance, list.index -/
def tyD : D → String
  | .non => "NoneType"
  | .bl _ => "bool"
  | .int _ => "int"
  | .str _ => "str"
  | .lst _ => "list"
  | .tup _ => "tuple"
  | .scr _ => "list"
  | .new _ => "list"
def isScr : D → Bool
  | .scr _ => true
  | _ => false
theorem Rp.ty {K : PySem.W.Frag} {HB H : Hp} {v : V} {d : D} (e : Ex HB H) (h : Rp K HB v d) (hs : isScr d = false) : TyX K H v (.type (tyD d)) := by
  cases h with
  | non => exact .base .non
  | bl b => exact .base (.bl b)
  | int i => exact .base (.int i)
  | str x => exact .base (.str x)
  | lst h1 r => exact .base (.lst (e _ _ h1))
  | tup h1 r =>
    rcases h1 with (h1 | ⟨o, h1⟩) | h1
    · exact .base (.tup (e _ _ h1))
    · exact .fTuple (e _ _ h1)
    · obtain ⟨o, its, n, q1, q2, _⟩ := h1
      exact .kTuple q1 q2
  | scr h1 => cases hs
section
variable {X : Cx} {ρ : Rho} {a b : Expr} {pos p p2 apos : Pos} {d : D} {i : Int}
theorem ev_isi (n : String) {x : Str} {r : Bool} (hm : X.mg "isinstance" = none) (ha : Ev X ρ a d) (hm2 : X.mg x = none) (hb : bootBuiltins x = some (.type n) := by decide +kernel) (hk : kitB (tyD d) n = some r := by decide +kernel) (hsc : isScr d = false := by rfl) (hg : Gl X "isinstance" := by rfl) (hg2 : Gl X x := by rfl)
    (hs : St2 X a (.Name x p2) := by rfl) (hs' : St1 X (.Name x p2) := by rfl) (hp : NoStar X pos [.Name x p2] := by rfl) (hn : x ≠ "__name__" := by decide) (hd : (x == ("__debug__" : Str)) = false := by decide) :
    Ev X ρ (.Call (.Name "isinstance" p) [a, .Name x p2] [] pos) (.bl r) := fun σ HB H he Q q =>
  ⟨_, pe_callB call_isi hg hm (by decide +kernel) (pa_cons pe_wp (pa_cons (pe_bltn hg2 hm2 hb (show RelV (.ty n) (.type n) from rfl) hn hd) pa_nil hs') hs) (he := hs) (hpl := hp), ha σ HB H he _ fun v HB2 H2 x2 r2 =>
    ⟨v, .ty n, .type (tyD d), .type n, r, rfl, .ty n, r2.ty x2.in_ hsc, kit_ty hk, q _ HB2 H2 x2 (.bl r)⟩⟩
theorem flat_ints (ns : List Int) : (ns.map V.int).all flatV = true := List.all_eq_true.mpr fun v hv => by
  obtain ⟨i, _, rfl⟩ := List.mem_map.mp hv
  rfl
theorem eqV_int (i j : Int) : eqV (.int i) (.int j) = decide (i = j) := by
  show (i == j) = _
  rw [Bool.eq_iff_iff]
  simp
theorem ev_index {ns : List Int} {j : Nat} (ha : EvL X ρ a (ns.map D.int)) (hb : Ev X ρ b (.int i)) (hj : ns[j]? = some i) (hno : ∀ m, m < j → ns[m]? ≠ some i) (hs : St1 X b := by rfl) (hbase : attributeBase a "index" X.env (eval a X.env) = eval a X.env := by rfl)
    (hline : (apos.endLine == pos.line) = true := by rfl)
    (hfew : ((backTo pos (starEach [b] X.env)).all (fun x => !x.1) && (backToKw pos (keywordEach [] X.env)).all (fun x => x.1.isSome) && decide (([b] : List Expr).length + ([] : List Keyword).length + (if ([] : List Keyword).isEmpty then 0 else 1) < 30)) = true := by rfl)
    (hp : NoStar X pos [] := by rfl) : Ev X ρ (.Call (.Attribute a "index" apos) [b] [] pos) (.int (j : Nat)) := fun σ HB H he Q q =>
  ⟨_, pe_bm PySem.F.plainAttrs_list PySem.F.slot_list_index PySem.F.type_list_index mt_index pe_wp (pa_cons pe_wp pa_nil hs) hbase hfew hline hs hp, ha σ HB H he _ fun l vs HB1 H1 x1 h1 r1 => by
    refine ⟨.inl ⟨rfl, vs, SqL.of h1⟩, hb σ HB1 H1 (he.step x1) _ fun v HB2 H2 x2 r2 => ?_⟩
    rw [r1.ints] at h1
    refine ⟨l, ns.map V.int, v, j, .int i, rfl, rfl, SqL.of (x2.h _ _ h1), ?_, flat_ints _, ?_, ?_, fun m z hm hz => ?_, q _ HB2 H2 (x1.trans x2) (.int _)⟩
    · rw [r2.ofInt]
      rfl
    · rw [List.getElem?_map, hj]
      rfl
    · rw [r2.ofInt, eqV_int]
      simp
    · rw [List.getElem?_map] at hz
      obtain ⟨k, hk, rfl⟩ := Option.map_eq_some_iff.mp hz
      rw [r2.ofInt, eqV_int]
      exact decide_eq_false fun e => hno m hm (by rw [hk, e])⟩
end
end Y
end S_Lay11

section S_Txt
set_option maxHeartbeats 2000000
namespace Y
open PySem PySem.Spec PyProof.Rows L2
structure Tx (K : PySem.W.Frag) (mg : Str → Option Value) : Prop where
  b_len : mg "len" = none
  b_abs : mg "abs" = none
  b_int : mg "int" = none
  b_max : mg "max" = none
  b_min : mg "min" = none
  b_sum : mg "sum" = none
  b_all : mg "all" = none
  b_sorted : mg "sorted" = none
  b_list : mg "list" = none
  b_tuple : mg "tuple" = none
  b_range : mg "range" = none
  b_enumerate : mg "enumerate" = none
  b_isinstance : mg "isinstance" = none
  b_bool : mg "bool" = none
  b_str : mg "str" = none
  b_ValueError : mg "ValueError" = none
  b_super : mg "super" = none
  sides : ∃ a : Addr, mg "SIDES" = some (.ref a) ∧ ∀ H : Hp, SqT K H a [.str "theirs", .str "mine"]
  d_check_hands : DefOk K mg "check_hands" s_check_hands []
  d_check_letters : DefOk K mg "check_letters" s_check_letters []
  d_check_word : DefOk K mg "check_word" s_check_word []
  d_lays_before_last : DefOk K mg "lays_before_last" s_lays_before_last []
  d_wins : DefOk K mg "wins" s_wins []
  d_deck : DefOk K mg "deck" s_deck []
  d_heights : DefOk K mg "heights" s_heights []
  d_peak : DefOk K mg "peak" s_peak []
  d_valley : DefOk K mg "valley" s_valley []
  d_places_at : DefOk K mg "places_at" s_places_at []
  d_peak_places : DefOk K mg "peak_places" s_peak_places []
  d_valley_places : DefOk K mg "valley_places" s_valley_places []
  d_is_pairing : DefOk K mg "is_pairing" s_is_pairing []
  d_wins_of : DefOk K mg "wins_of" s_wins_of []
  d_height_at : DefOk K mg "height_at" s_height_at []
  d_look_span : DefOk K mg "look_span" s_look_span []
  d_card_levels : DefOk K mg "card_levels" s_card_levels []
  d_shows_row : DefOk K mg "shows_row" s_shows_row []
  d_look_row : DefOk K mg "look_row" s_look_row []
  d_counted_value : DefOk K mg "counted_value" s_counted_value []
  d_look_value : DefOk K mg "look_value" s_look_value []
  d_side_levels : DefOk K mg "side_levels" s_side_levels []
  d_row_of : DefOk K mg "row_of" s_row_of []
  d_mates : DefOk K mg "mates" s_mates []
  d_rotation : DefOk K mg "rotation" s_rotation []
  d_least : DefOk K mg "least" s_least []
  d_most : DefOk K mg "most" s_most []
  d_entry_value : DefOk K mg "entry_value" s_entry_value []
  d_value : DefOk K mg "value" s_value [("many", .str "mine")]
  d_span_paper : DefOk K mg "span_paper" s_span_paper []
  d_row_paper : DefOk K mg "row_paper" s_row_paper []
  d_value_paper : DefOk K mg "value_paper" s_value_paper [("many", .str "mine")]
  d_law_cell : DefOk K mg "_law_cell" s_law_cell []
  d_law_draws : DefOk K mg "_law_draws" s_law_draws []
  d_law_hand : DefOk K mg "_law_hand" s_law_hand []
  d_law_hands : DefOk K mg "_law_hands" s_law_hands []
  d_law_word : DefOk K mg "_law_word" s_law_word []
  d_law_pairing : DefOk K mg "_law_pairing" s_law_pairing []
  d_law_is_int : DefOk K mg "_law_is_int" s_law_is_int []
  d_law_is_ints : DefOk K mg "_law_is_ints" s_law_is_ints []
  d_law_result : DefOk K mg "_law_result" s_law_result []
  d_law_least : DefOk K mg "_law_least" s_law_least []
  d_law_most : DefOk K mg "_law_most" s_law_most []
  d_law_order : DefOk K mg "_law_order" s_law_order []
  d_law_value : DefOk K mg "_law_value" s_law_value []
  d_law_walk : DefOk K mg "_law_walk" s_law_walk []
  d_law_levels : DefOk K mg "_law_levels" s_law_levels []
  d_law_mates : DefOk K mg "_law_mates" s_law_mates []
  d_law_rotation : DefOk K mg "_law_rotation" s_law_rotation []
  d_law_form_good : DefOk K mg "_law_form_good" s_law_form_good []
  d_law_part : DefOk K mg "_law_part" s_law_part []
  d_law_copy : DefOk K mg "_law_copy" s_law_copy []
  d_law_near : DefOk K mg "_law_near" s_law_near []
  d_law_pairings_near : DefOk K mg "_law_pairings_near" s_law_pairings_near []
  d_law_places : DefOk K mg "_law_places" s_law_places []
  d_law_rows_near : DefOk K mg "_law_rows_near" s_law_rows_near []
  d_law_words_near : DefOk K mg "_law_words_near" s_law_words_near []
  d_law_height_is : DefOk K mg "_law_height_is" s_law_height_is []
  d_law_span_right : DefOk K mg "_law_span_right" s_law_span_right []
  d_law_row_right : DefOk K mg "_law_row_right" s_law_row_right []
  d_law_value_right : DefOk K mg "_law_value_right" s_law_value_right []
  d_law_look_good : DefOk K mg "_law_look_good" s_law_look_good []
  d_law_looks_good : DefOk K mg "_law_looks_good" s_law_looks_good []
  d_law_spans_good : DefOk K mg "_law_spans_good" s_law_spans_good []
  d_law_rows_good : DefOk K mg "_law_rows_good" s_law_rows_good []
  d_law_values_good : DefOk K mg "_law_values_good" s_law_values_good []
  d_law_refused : DefOk K mg "_law_refused" s_law_refused []
  d_law_errors_good : DefOk K mg "_law_errors_good" s_law_errors_good []
  d_law : DefOk K mg "law" s_law []
theorem eqv_ints : ∀ xs ys : List Int, PyData.eqvAll (toPs (xs.map D.int)) (toPs (ys.map D.int)) = decide (xs = ys)
  | [], [] => by simp [toPs, PyData.eqvAll]
  | [], _ :: _ => by simp [toPs, PyData.eqvAll]
  | _ :: _, [] => by simp [toPs, PyData.eqvAll]
  | x :: xs, y :: ys => by
    have ih := eqv_ints xs ys
    show PyData.eqvAll (.int x :: toPs (xs.map D.int)) (.int y :: toPs (ys.map D.int)) = _
    rw [PySem.W.eqv_all_cons, ih]
    show ((x == y) && _) = _
    by_cases h : x = y
    · simp [h]
    · simp [h]
theorem eqD_ints (xs ys : List Int) : eqD (lI xs) (lI ys) = decide (xs = ys) := by
  show PyData.eqv (.list (toPs (xs.map D.int))) (.list (toPs (ys.map D.int))) = _
  rw [← eqv_ints]
  simp [PyData.eqv]
/-- None, or a number -/
def hD : Option Int → D
  | none => .non
  | some i => .int i
theorem fine_hD {k : Nat} (o : Option Int) : Fine k (hD o) := by
  cases o with
  | none => exact fine_non
  | some i => exact fine_int i
theorem nn_hD (o : Option Int) : ∀ es, hD o ≠ .new es := fun es e => by
  cases o <;> cases e
theorem eqD_opt (o : Option Int) (i : Int) : eqD (hD o) (.int i) = decide (o = some i) := by
  cases o with
  | none => simp [hD, eqD, toP, PyData.eqv]
  | some j =>
    show PyData.eqv (.int j) (.int i) = _
    simp only [PyData.eqv, Option.some.injEq]
    by_cases h : j = i <;> simp [h]
section
variable {X : Cx} {ρ : Rho} {a b : Expr} {pos : Pos}
theorem ev_ixWN {s : List Nat} {n : Nat} (ha : Ev X ρ a (.str (wd s))) (hb : Ev X ρ b (dN n)) (hl : s.length ≤ 100000) (h : n < s.length) (hs : PlainIx b := by exact fun _ _ => rfl) : Ev X ρ (.Subscript a b pos) (.str (wd [s.getD n 0])) :=
  ev_ixW ha hb hl (at_nat 0 h) hs
theorem ev_ixWG {s : List Nat} {i : Int} (ha : Ev X ρ a (.str (wd s))) (hb : Ev X ρ b (.int i)) (hl : s.length ≤ 100000) (h0 : 0 ≤ i) (h : i < s.length) (hs : PlainIx b := by exact fun _ _ => rfl) : Ev X ρ (.Subscript a b pos) (.str (wd [s.getD i.toNat 0])) :=
  ev_ixW ha hb hl (at_int 0 h0 h) hs
theorem ec_eqLI {xs ys : List Int} (hu : X.A.units + 64 < cLine) (ha : Ev X ρ a (lI xs)) (hb : Ev X ρ b (lI ys)) : EvC X ρ .Eq a b (decide (xs = ys)) := by
  have := ec_eqD hu (fine_ints (k := 59) xs) (fine_ints (k := 59) ys) ha hb
  rw [eqD_ints] at this
  exact this
theorem ec_neLI {xs ys : List Int} (hu : X.A.units + 64 < cLine) (ha : Ev X ρ a (lI xs)) (hb : Ev X ρ b (lI ys)) : EvC X ρ .NotEq a b (!decide (xs = ys)) := by
  have := ec_neD hu (fine_ints (k := 59) xs) (fine_ints (k := 59) ys) ha hb
  rw [eqD_ints] at this
  exact this
theorem ec_eqHI {o : Option Int} {i : Int} (hu : X.A.units + 64 < cLine) (ha : Ev X ρ a (hD o)) (hb : Ev X ρ b (.int i)) : EvC X ρ .Eq a b (decide (o = some i)) := by
  have := ec_eqD hu (fine_hD o) (fine_int i) ha hb
  rw [eqD_opt] at this
  exact this
end
section
variable {X : Cx} {ρ : Rho} {b : Expr} {p pos : Pos} {i : Int}
abbrev wTheirs : List Nat := [116, 104, 101, 105, 114, 115]
abbrev wMine : List Nat := [109, 105, 110, 101]
def sideW (s : Int) : List Nat := if s = 0 then wTheirs else wMine
theorem w_theirs : ("theirs" : Str) = wd wTheirs := by decide +kernel
theorem w_mine : ("mine" : Str) = wd wMine := by decide +kernel
theorem ev_sideIx (T : ∃ a : Addr, X.mg "SIDES" = some (.ref a) ∧ ∀ H : Hp, SqT X.K H a [.str "theirs", .str "mine"]) (hb : Ev X ρ b (.int i)) (h : i = 0 ∨ i = 1) (hg : Gl X "SIDES" := by rfl) (hs : PlainIx b := by exact fun _ _ => rfl) : Ev X ρ (.Subscript (.Name "SIDES" p) b pos) (dW (sideW i)) := by
  obtain ⟨a, hm, hq⟩ := T
  have h1 : Ev X ρ (.Name "SIDES" p) (.tup [dW wTheirs, dW wMine]) := ev_glob (v := .ref a) hg hm rfl (fun H => .tup (hq H) (by
    rw [w_theirs, w_mine]
    exact .cons (.str _) (.cons (.str _) .nil))) (by decide)
  refine ev_ixT h1 hb ?_ hs
  rcases h with rfl | rfl <;> rfl
end
end Y
end S_Txt

section S_F1
set_option maxHeartbeats 2000000
namespace Y
open PySem PySem.Spec PyProof.Rows L2
/-! ### the deck -/
def eC (c : Int × Int × Int) : D := .tup [dW (sideW c.2.1), .int c.2.2]
def half (s : Int) (xs : List Int) (n : Nat) : List (Int × Int × Int) := (List.range n).map fun i : Nat => (xs.getD i 0, s, (i : Int))
def cardsL (mine theirs : List Int) : List (Int × Int × Int) := half 0 theirs theirs.length ++ half 1 mine mine.length
def orderL (mine theirs : List Int) : List (Int × Int × Int) := (cardsL mine theirs).mergeSort le3
theorem half_succ (s : Int) (xs : List Int) (n : Nat) : half s xs (n + 1) = half s xs n ++ [(xs.getD n 0, s, (n : Int))] := by
  unfold half
  rw [List.range_succ, List.map_append]
  rfl
theorem half_zero (s : Int) (xs : List Int) : half s xs 0 = [] := rfl
theorem half_len (s : Int) (xs : List Int) (n : Nat) : (half s xs n).length = n := by simp [half]
theorem cards_len (mine theirs : List Int) : (cardsL mine theirs).length = theirs.length + mine.length := by simp [cardsL, half_len]
theorem order_len (mine theirs : List Int) : (orderL mine theirs).length = theirs.length + mine.length := by simp [orderL, cards_len]
theorem half_side {s : Int} {xs : List Int} {n : Nat} {c : Int × Int × Int} (h : c ∈ half s xs n) : c.2.1 = s := by
  obtain ⟨i, _, rfl⟩ := List.mem_map.mp h
  rfl
theorem order_side {mine theirs : List Int} {c : Int × Int × Int} (h : c ∈ orderL mine theirs) : c.2.1 = 0 ∨ c.2.1 = 1 := by
  have h2 : c ∈ cardsL mine theirs := (List.mergeSort_perm _ _).mem_iff.mp h
  rcases List.mem_append.mp h2 with h3 | h3
  · exact .inl (half_side h3)
  · exact .inr (half_side h3)
theorem filter_true {α : Type} (xs : List α) : xs.filter (fun _ => true) = xs := List.filter_eq_self.mpr fun _ _ => rfl
theorem rng_get {n i : Nat} {d : D} (h : ((List.range n).map dN)[i]? = some d) : i < n ∧ d = .int (i : Int) := by
  rw [List.getElem?_map] at h
  by_cases hi : i < n
  · rw [List.getElem?_range hi] at h
    exact ⟨hi, (Option.some.inj h).symm⟩
  · rw [List.getElem?_eq_none (by rw [List.length_range]; omega)] at h
    cases h
section
variable {P : Program} {w : World} {K : PySem.W.Frag} {mg : Str → Option Value} {base : Heap}
theorem c_wins (T : Tx K mg) (a b : Int) : Cal P w K mg base 1 "wins" [.int a, .int b] (.bl (decide (b ≤ a))) := by
  refine cal_of T.d_wins sc_wins (fun _ _ _ _ _ _ us hl => match us, hl with | [_, _], _ => rfl) rfl fun Y hr => ?_
  have nd := sc_wins.nd
  show Bd _ [.val _, .val _] _ _
  refine bd_one (sd_ret (ev_cmp (ec_ge (ev_var (nm 0 rfl (.inl rfl) rfl rfl) rfl) (ev_var (nm 1 rfl (.inl rfl) rfl rfl) rfl)) (nomark _ (by decide) (by decide))) ?_)
  rfl
theorem c_deck (T : Tx K mg) {mine theirs : List Int} (h1 : mine.length ≤ 1000) (h2 : theirs.length ≤ 1000) : Cal P w K mg base 1 "deck" [lI mine, lI theirs] (dL eC (orderL mine theirs)) := by
  refine cal_of T.d_deck sc_deck (fun _ _ _ _ _ _ us hl => match us, hl with | [_, _], _ => rfl) rfl fun Y hr => ?_
  have nd := sc_deck.nd
  show Bd _ [.val _, .val _, .any, .any, .any] _ _
  refine bd_seq1 (sd_setLcE (k := 2) 3 _ (fun _ => true) _ ((half 0 theirs theirs.length).map e3) rfl nd rfl rfl (sw_true rfl rfl rfl (by decide +kernel)) (ei_rng1 T.b_range (ev_lenL T.b_len (Ev.l (ev_var (nm 1 rfl (.inr (.inl rfl)) rfl rfl) rfl)) rfl rfl rfl) ?_ ?_ rfl rfl rfl) ?_ (blkOk_by (N := N_deck) (sc := defScope s_deck) (by decide +kernel)) (fun _ _ _ _ _ => pg_name nd rfl (.inl rfl) (.inr rfl)) (fun _ _ _ _ _ _ _ => ets_nil) (fun x hx hcx s H C cl fp => (ev_tup (ea_cons (ev_ixN (0 : Int) (Ev.l (ev_var (nm 1 rfl (.inr (.inl rfl)) rfl rfl) rfl)) (ev_var (nm 3 rfl (.inl rfl) rfl rfl) rfl) ?_ (fun _ _ => rfl)) (ea_cons ev_int (ea_cons (ev_var (nm 3 rfl (.inl rfl) rfl rfl) rfl) ea_nil rfl) rfl) rfl) (Nat.le_of_ble_eq_true rfl))) ?_ rfl (fun _ => rfl)) ?_
  · omega
  · omega
  · rw [List.length_range]; omega
  · rw [List.mem_range] at hx; omega
  · rw [filter_true, half, List.map_map]; rfl
  refine bd_for 3 (fun i => [.val (lI mine), .val (lI theirs), .own ((half 0 theirs theirs.length ++ half 1 mine i).map e3), .any, .any]) (fun _ => True) PassesOwn.never rfl nd rfl (.inl rfl) (by repeat (first | exact Wk.nil | refine Wk.any ?_ | refine Wk.same ?_ | refine Wk.frz ?_ | refine Wk.eqO (by simp only [half_zero, List.append_nil]) ?_ | refine Wk.eqV (by simp only [half_zero, List.append_nil]) ?_ | refine Wk.eqF (by simp only [half_zero, List.append_nil]) ?_)) (ei_rng1 T.b_range (ev_lenL T.b_len (Ev.l (ev_var (nm 0 rfl (.inl rfl) rfl rfl) rfl)) rfl rfl rfl) ?_ ?_ rfl rfl rfl) ?_ ?_ ?_ (.inl rfl) (fun _ => rfl)
  · omega
  · omega
  · trivial
  · intro i d hd _
    obtain ⟨hi, rfl⟩ := rng_get hd
    refine bd_seq1 (sd_app (k := 2) (nm 2 rfl (.inl rfl) rfl rfl) rfl (ev_tup (ea_cons (ev_ixN (0 : Int) (Ev.l (ev_var (nm 0 rfl (.inl rfl) rfl rfl) rfl)) (ev_var (nm 3 rfl (.inl rfl) rfl rfl) rfl) ?_ (fun _ _ => rfl)) (ea_cons ev_int (ea_cons (ev_var (nm 3 rfl (.inl rfl) rfl rfl) rfl) ea_nil rfl) rfl) rfl) (Nat.le_of_ble_eq_true rfl)) ?_ rfl rfl rfl rfl rfl rfl rfl) (bd_nil ⟨(by repeat (first | exact Wk.nil | refine Wk.any ?_ | refine Wk.same ?_ | refine Wk.frz ?_ | refine Wk.eqO (by simp only [half_succ, List.map_append, List.append_assoc, List.map_cons, List.map_nil, e3]) ?_ | refine Wk.eqV (by simp only [half_succ, List.map_append, List.append_assoc, List.map_cons, List.map_nil, e3]) ?_ | refine Wk.eqF (by simp only [half_succ, List.map_append, List.append_assoc, List.map_cons, List.map_nil, e3]) ?_)), trivial⟩)
    · omega
    · simp only [List.length_map, List.length_append, half_len]
      omega
  · intro _
    rw [List.length_map, List.length_range, Int.toNat_natCast]
    refine bd_wk (ρ' := [.val (lI mine), .val (lI theirs), .val (dL e3 (cardsL mine theirs)), .any, .any]) (by repeat (first | exact Wk.nil | refine Wk.any ?_ | refine Wk.same ?_ | refine Wk.frz ?_)) ?_
    refine bd_one (sd_ret (Ev.cast (d' := dL eC (orderL mine theirs)) (EvN.ev (evn_lc 4 _ (fun _ => true) _ rfl nd (ei_list (EvN.ev (evn_sorted3 hr.units T.b_sorted (Ev.l (ev_var (nm 2 rfl (.inl rfl) rfl rfl) rfl)) rfl rfl rfl))) ?_ (blkOk_by (N := N_deck) (sc := defScope s_deck) (by decide +kernel)) (fun _ _ _ _ _ => pg_name nd rfl (.inl rfl) (.inr rfl)) (fun _ _ _ _ _ _ _ => ets_nil) (fun x hx hcx s H C cl fp => (ev_tup (ea_cons (ev_sideIx T.sides (ev_ixT (ev_var (nm 4 rfl (.inl rfl) rfl rfl) rfl) ev_int rfl (fun _ _ => rfl)) ?_) (ea_cons (ev_ixT (ev_var (nm 4 rfl (.inl rfl) rfl rfl) rfl) ev_int rfl (fun _ _ => rfl)) ea_nil rfl) rfl) (Nat.le_of_ble_eq_true rfl))) (fun _ => rfl))) ?_) ?_)
    · have := order_len mine theirs
      unfold orderL at this
      omega
    · exact order_side hx
    · rw [filter_true]; rfl
    · rfl
theorem c_check_hands (T : Tx K mg) {mine theirs : List Int} (h : mine.length = theirs.length) : Cal P w K mg base 1 "check_hands" [lI mine, lI theirs] .non := by
  refine cal_of T.d_check_hands sc_check_hands (fun _ _ _ _ _ _ us hl => match us, hl with | [_, _], _ => rfl) rfl fun Y hr => ?_
  have nd := sc_check_hands.nd
  show Bd _ [.val _, .val _] _ _
  refine bd_ifRet (et_cmp (ec_neI (ev_lenL T.b_len (Ev.l (ev_var (nm 0 rfl (.inl rfl) rfl rfl) rfl)) rfl rfl rfl) (ev_lenL T.b_len (Ev.l (ev_var (nm 1 rfl (.inl rfl) rfl rfl) rfl)) rfl rfl rfl)) (nomark _ (by decide) (by decide))) (fun e => ?_) fun _ => bd_nil rfl
  rw [h] at e
  simp at e
/-! ### heights -/
def stepC (c : Int × Int × Int) : Int := if c.2.1 = 0 then 1 else -1
def hgt (cs : List (Int × Int × Int)) (i : Nat) : Int := ((cs.take i).map stepC).sum
def walkOf (cs : List (Int × Int × Int)) (n : Nat) : List Int := (List.range n).map (hgt cs)
def heightsL (mine theirs : List Int) : List Int := walkOf (orderL mine theirs) ((orderL mine theirs).length + 1)
theorem hgt_zero (cs) : hgt cs 0 = 0 := rfl
theorem hgt_succ {cs : List (Int × Int × Int)} {i : Nat} {c} (h : cs[i]? = some c) : hgt cs (i + 1) = hgt cs i + stepC c := by
  unfold hgt
  rw [take_succ_of h, List.map_append, List.sum_append]
  simp
theorem walk_succ (cs) (n : Nat) : walkOf cs (n + 1) = walkOf cs n ++ [hgt cs n] := by
  unfold walkOf
  rw [List.range_succ, List.map_append]
  rfl
theorem walk_len (cs) (n : Nat) : (walkOf cs n).length = n := by simp [walkOf]
theorem side_theirs (s : Int) : decide (sideW s = wTheirs) = decide (s = 0) := by
  unfold sideW
  by_cases h : s = 0
  · simp [h]
  · rw [if_neg h, decide_eq_false h]
    rfl
theorem side_mine {s : Int} (h : s = 0 ∨ s = 1) : decide (sideW s = wMine) = decide (s = 1) := by
  rcases h with rfl | rfl <;> rfl
theorem c_heights (T : Tx K mg) {mine theirs : List Int} (h : mine.length = theirs.length) (h1 : mine.length ≤ 1000) : Cal P w K mg base 2 "heights" [lI mine, lI theirs] (lI (heightsL mine theirs)) := by
  have h2 : theirs.length ≤ 1000 := by omega
  refine cal_of T.d_heights sc_heights (fun _ _ _ _ _ _ us hl => match us, hl with | [_, _], _ => rfl) rfl fun Y hr => ?_
  have nd := sc_heights.nd
  show Bd _ [.val _, .val _, .any, .any, .any] _ _
  refine bd_seq1 (sd_expr (ev_call (c_check_hands T h) (hr.mono (by decide)) (ea_cons (ev_var (nm 0 rfl (.inl rfl) rfl rfl) rfl) (ea_cons (ev_var (nm 1 rfl (.inl rfl) rfl rfl) rfl) ea_nil rfl) rfl) rfl (by decide) rfl rfl) rfl rfl) (bd_seq1 (sd_asg (k := 2) nd rfl (.inl rfl) ev_int rfl rfl (.inl rfl)) (bd_seq1 (sd_asgN (k := 3) nd rfl (.inl rfl) (evn_lst (ea_cons ev_int ea_nil rfl) (Nat.le_of_ble_eq_true rfl)) rfl rfl (.inl rfl)) ?_))
  refine bd_for 4 (fun i => [.val (lI mine), .val (lI theirs), .val (.int (hgt (orderL mine theirs) i)), .own ((walkOf (orderL mine theirs) (i + 1)).map D.int), .any]) (fun _ => True) PassesOwn.never rfl nd rfl (.inl rfl) (by repeat (first | exact Wk.nil | refine Wk.any ?_ | refine Wk.same ?_ | refine Wk.frz ?_)) (ei_list (ev_call (c_deck T h1 h2) (hr.mono (by decide)) (ea_cons (ev_var (nm 0 rfl (.inl rfl) rfl rfl) rfl) (ea_cons (ev_var (nm 1 rfl (.inl rfl) rfl rfl) rfl) ea_nil rfl) rfl) rfl (by decide) rfl rfl)) trivial ?_ ?_ (.inl rfl) (fun _ => rfl)
  · intro i d hd _
    rw [List.getElem?_map] at hd
    cases hc : (orderL mine theirs)[i]? with
    | none =>
      rw [hc] at hd
      cases hd
    | some c =>
      rw [hc] at hd
      have hd' : eC c = d := Option.some.inj hd
      subst hd'
      have hi := (List.getElem?_eq_some_iff.mp hc).1
      have hl := order_len mine theirs
      refine bd_if [.val (lI mine), .val (lI theirs), .val (.int (hgt (orderL mine theirs) (i + 1))), .own ((walkOf (orderL mine theirs) (i + 1)).map D.int), .val (eC c)] (EvT.cast (et_cmp (ec_eqW (ev_ixT (ev_var (nm 4 rfl (.inl rfl) rfl rfl) rfl) ev_int rfl (fun _ _ => rfl)) (ev_strW [116, 104, 101, 105, 114, 115])) (nomark _ (by decide) (by decide))) (side_theirs c.2.1)) (fun e => ?_) (fun e => ?_) ?_
      · refine bd_seq1 (sd_augAdd (k := 2) nd rfl (.inl rfl) rfl ev_int rfl (.inl rfl)) (bd_nil ?_)
        rw [hgt_succ hc, stepC, if_pos (of_decide_eq_true e)]
        exact (by repeat (first | exact Wk.nil | refine Wk.any ?_ | refine Wk.same ?_ | refine Wk.frz ?_))
      · refine bd_seq1 (sd_augSub (k := 2) nd rfl (.inl rfl) rfl ev_int rfl (.inl rfl)) (bd_nil ?_)
        rw [hgt_succ hc, stepC, if_neg (of_decide_eq_false e)]
        exact (by repeat (first | exact Wk.nil | refine Wk.any ?_ | refine Wk.same ?_ | refine Wk.frz ?_))
      · refine bd_seq1 (sd_app (k := 3) (nm 3 rfl (.inl rfl) rfl rfl) rfl (ev_var (nm 2 rfl (.inl rfl) rfl rfl) rfl) ?_ rfl rfl rfl rfl rfl rfl rfl) (bd_nil ⟨?_, trivial⟩)
        · rw [List.length_map, walk_len]
          omega
        · rw [walk_succ _ (i + 1), List.map_append]
          exact (by repeat (first | exact Wk.nil | refine Wk.any ?_ | refine Wk.same ?_ | refine Wk.frz ?_))
  · intro _
    rw [List.length_map]
    refine bd_wk (ρ' := [.val (lI mine), .val (lI theirs), .any, .val (lI (heightsL mine theirs)), .any]) (by repeat (first | exact Wk.nil | refine Wk.any ?_ | refine Wk.same ?_ | refine Wk.frz ?_)) ?_
    refine bd_one (sd_ret (ev_var (nm 3 rfl (.inl rfl) rfl rfl) rfl) ?_)
    rfl
theorem heights_len (mine theirs : List Int) : (heightsL mine theirs).length = mine.length + theirs.length + 1 := by
  rw [heightsL, walk_len, order_len]
  omega
theorem c_peak (T : Tx K mg) {mine theirs : List Int} (h : mine.length = theirs.length) (h1 : mine.length ≤ 1000) : Cal P w K mg base 3 "peak" [lI mine, lI theirs] (.int (maxL (heightsL mine theirs))) := by
  refine cal_of T.d_peak sc_peak (fun _ _ _ _ _ _ us hl => match us, hl with | [_, _], _ => rfl) rfl fun Y hr => ?_
  have nd := sc_peak.nd
  show Bd _ [.val _, .val _] _ _
  refine bd_one (sd_ret (ev_maxL rfl T.b_max (Ev.l (ev_call (c_heights T h h1) (hr.mono (by decide)) (ea_cons (ev_var (nm 0 rfl (.inl rfl) rfl rfl) rfl) (ea_cons (ev_var (nm 1 rfl (.inl rfl) rfl rfl) rfl) ea_nil rfl) rfl) rfl (by decide) rfl rfl)) ?_ rfl rfl rfl) ?_)
  · rw [heights_len]
    omega
  · rfl
theorem c_valley (T : Tx K mg) {mine theirs : List Int} (h : mine.length = theirs.length) (h1 : mine.length ≤ 1000) : Cal P w K mg base 3 "valley" [lI mine, lI theirs] (.int (minL (heightsL mine theirs))) := by
  refine cal_of T.d_valley sc_valley (fun _ _ _ _ _ _ us hl => match us, hl with | [_, _], _ => rfl) rfl fun Y hr => ?_
  have nd := sc_valley.nd
  show Bd _ [.val _, .val _] _ _
  refine bd_one (sd_ret (ev_minL rfl T.b_min (Ev.l (ev_call (c_heights T h h1) (hr.mono (by decide)) (ea_cons (ev_var (nm 0 rfl (.inl rfl) rfl rfl) rfl) (ea_cons (ev_var (nm 1 rfl (.inl rfl) rfl rfl) rfl) ea_nil rfl) rfl) rfl (by decide) rfl rfl)) ?_ rfl rfl rfl) ?_)
  · rw [heights_len]
    omega
  · rfl
def placesL (walk : List Int) (v : Int) : List Nat := (List.range walk.length).filter fun p => decide (walk.getD p 0 = v)
theorem c_places_at (T : Tx K mg) {walk : List Int} (v : Int) (h1 : walk.length ≤ 10000) : Cal P w K mg base 1 "places_at" [lI walk, .int v] (dL dN (placesL walk v)) := by
  refine cal_of T.d_places_at sc_places_at (fun _ _ _ _ _ _ us hl => match us, hl with | [_, _], _ => rfl) rfl fun Y hr => ?_
  have nd := sc_places_at.nd
  show Bd _ [.val _, .val _, .any] _ _
  refine bd_one (sd_ret (EvN.ev (evn_lc 2 _ _ _ rfl nd (ei_rng1 T.b_range (ev_lenL T.b_len (Ev.l (ev_var (nm 0 rfl (.inr (.inl rfl)) rfl rfl) rfl)) rfl rfl rfl) ?_ ?_ rfl rfl rfl) ?_ (blkOk_by (N := N_places_at) (sc := defScope s_places_at) (by decide +kernel)) (fun _ _ _ _ _ => pg_name nd rfl (.inl rfl) (.inr rfl)) (fun x hx s H C cl fp => ets_one (et_cmp (ec_eqI (ev_ixN (0 : Int) (Ev.l (ev_var (nm 0 rfl (.inr (.inl rfl)) rfl rfl) rfl)) (ev_var (nm 2 rfl (.inl rfl) rfl rfl) rfl) ?_ (fun _ _ => rfl)) (ev_var (nm 1 rfl (.inr (.inl rfl)) rfl rfl) rfl)) (nomark _ (by decide) (by decide)))) (fun x hx hcx s H C cl fp => (ev_var (nm 2 rfl (.inl rfl) rfl rfl) rfl)) (fun _ => rfl))) ?_)
  · omega
  · omega
  · rw [List.length_range]
    omega
  · rw [List.mem_range] at hx
    omega
  · rfl
theorem c_peak_places (T : Tx K mg) {mine theirs : List Int} (h : mine.length = theirs.length) (h1 : mine.length ≤ 1000) : Cal P w K mg base 3 "peak_places" [lI mine, lI theirs] (dL dN (placesL (heightsL mine theirs) (maxL (heightsL mine theirs)))) := by
  have h3 : (heightsL mine theirs).length ≤ 10000 := by rw [heights_len]; omega
  refine cal_of T.d_peak_places sc_peak_places (fun _ _ _ _ _ _ us hl => match us, hl with | [_, _], _ => rfl) rfl fun Y hr => ?_
  have nd := sc_peak_places.nd
  show Bd _ [.val _, .val _, .any] _ _
  refine bd_seq1 (sd_asg (k := 2) nd rfl (.inl rfl) (ev_call (c_heights T h h1) (hr.mono (by decide)) (ea_cons (ev_var (nm 0 rfl (.inl rfl) rfl rfl) rfl) (ea_cons (ev_var (nm 1 rfl (.inl rfl) rfl rfl) rfl) ea_nil rfl) rfl) rfl (by decide) rfl rfl) rfl rfl (.inl rfl)) (bd_one (sd_ret (ev_call (c_places_at T _ h3) (hr.mono (by decide)) (ea_cons (ev_var (nm 2 rfl (.inl rfl) rfl rfl) rfl) (ea_cons (ev_maxL rfl T.b_max (Ev.l (ev_var (nm 2 rfl (.inl rfl) rfl rfl) rfl)) ?_ rfl rfl rfl) ea_nil rfl) rfl) rfl (by decide) rfl rfl) ?_))
  · rw [heights_len]
    omega
  · rfl
theorem c_valley_places (T : Tx K mg) {mine theirs : List Int} (h : mine.length = theirs.length) (h1 : mine.length ≤ 1000) : Cal P w K mg base 3 "valley_places" [lI mine, lI theirs] (dL dN (placesL (heightsL mine theirs) (minL (heightsL mine theirs)))) := by
  have h3 : (heightsL mine theirs).length ≤ 10000 := by rw [heights_len]; omega
  refine cal_of T.d_valley_places sc_valley_places (fun _ _ _ _ _ _ us hl => match us, hl with | [_, _], _ => rfl) rfl fun Y hr => ?_
  have nd := sc_valley_places.nd
  show Bd _ [.val _, .val _, .any] _ _
  refine bd_seq1 (sd_asg (k := 2) nd rfl (.inl rfl) (ev_call (c_heights T h h1) (hr.mono (by decide)) (ea_cons (ev_var (nm 0 rfl (.inl rfl) rfl rfl) rfl) (ea_cons (ev_var (nm 1 rfl (.inl rfl) rfl rfl) rfl) ea_nil rfl) rfl) rfl (by decide) rfl rfl) rfl rfl (.inl rfl)) (bd_one (sd_ret (ev_call (c_places_at T _ h3) (hr.mono (by decide)) (ea_cons (ev_var (nm 2 rfl (.inl rfl) rfl rfl) rfl) (ea_cons (ev_minL rfl T.b_min (Ev.l (ev_var (nm 2 rfl (.inl rfl) rfl rfl) rfl)) ?_ rfl rfl rfl) ea_nil rfl) rfl) rfl (by decide) rfl rfl) ?_))
  · rw [heights_len]
    omega
  · rfl
end
end Y
end S_F1

section S_F2
set_option maxHeartbeats 2000000
namespace Y
open PySem PySem.Spec PyProof.Rows L2
/-! ### pairings -/
def isP (xs : List Int) (n : Nat) : Prop := ((∀ x ∈ xs, 0 ≤ x ∧ x < (n : Int)) ∧ xs.Nodup) ∧ xs.length = n
instance (xs : List Int) (n : Nat) : Decidable (isP xs n) := by unfold isP; infer_instance
def seenL (xs : List Int) (n : Nat) : List Bool := (List.range n).map fun k : Nat => decide ((k : Int) ∈ xs)
theorem seen_len (xs : List Int) (n : Nat) : (seenL xs n).length = n := by simp [seenL]
theorem seen_zero (n : Nat) : seenL [] n = List.replicate n false := by
  refine List.ext_getElem (by simp [seenL]) fun i h1 h2 => ?_
  simp [seenL]
theorem seen_get {xs : List Int} {n : Nat} {x : Int} (h0 : 0 ≤ x) (h1 : x < n) : (seenL xs n).getD x.toNat false = decide (x ∈ xs) := by
  have hx : x.toNat < n := by omega
  rw [List.getD_eq_getElem?_getD, List.getElem?_eq_getElem (by rw [seen_len]; exact hx)]
  simp only [seenL, List.getElem_map, List.getElem_range, Option.getD_some]
  rw [Int.toNat_of_nonneg h0]
theorem seen_set {xs : List Int} {n : Nat} {x : Int} (h0 : 0 ≤ x) (h1 : x < n) : (seenL xs n).set x.toNat true = seenL (xs ++ [x]) n := by
  refine List.ext_getElem (by simp [seenL]) fun i a b => ?_
  rw [List.getElem_set]
  simp only [seenL, List.getElem_map, List.getElem_range, List.mem_append, List.mem_singleton]
  by_cases h : x.toNat = i
  · have : (i : Int) = x := by omega
    simp [h, this]
  · have : ¬ (i : Int) = x := by omega
    simp [h, this]
theorem map_rep {α : Type} (f : α → D) (x : α) (n : Nat) : List.replicate n (f x) = (List.replicate n x).map f := by simp
theorem lst_get {α : Type} {f : α → D} {xs : List α} {i : Nat} {d : D} (h : (xs.map f)[i]? = some d) : ∃ x, xs[i]? = some x ∧ d = f x := by
  rw [List.getElem?_map] at h
  cases q : xs[i]? with
  | none =>
    rw [q] at h
    cases h
  | some x =>
    rw [q] at h
    exact ⟨x, rfl, (Option.some.inj h).symm⟩
section
variable {P : Program} {w : World} {K : PySem.W.Frag} {mg : Str → Option Value} {base : Heap}
theorem c_is_pairing (T : Tx K mg) (xs : List Int) (n : Nat) (h1 : xs.length ≤ 1000) (h2 : n ≤ 1000) : Cal P w K mg base 1 "is_pairing" [lI xs, .int (n : Int)] (.bl (decide (isP xs n))) := by
  refine cal_of T.d_is_pairing sc_is_pairing (fun _ _ _ _ _ _ us hl => match us, hl with | [_, _], _ => rfl) rfl fun Y hr => ?_
  have nd := sc_is_pairing.nd
  show Bd _ [.val _, .val _, .any, .any] _ _
  refine bd_seq1 (sd_asgN (k := 2) nd rfl (.inl rfl) (EvN.cast (d' := (seenL (xs.take 0) n).map D.bl) (evn_rep1 (EvN.l (evn_lst (ea_cons ev_bl ea_nil rfl) (Nat.le_of_ble_eq_true rfl))) (ev_var (nm 1 rfl (.inl rfl) rfl rfl) rfl) ?_ ?_) ?_) rfl rfl (.inl rfl)) ?_
  · omega
  · omega
  · rw [List.take_zero, seen_zero, Int.toNat_natCast]
    exact map_rep D.bl false n
  refine bd_for 3 (fun i => [.val (lI xs), .val (.int (n : Int)), .own ((seenL (xs.take i) n).map D.bl), .any]) (fun i => (∀ x ∈ xs.take i, 0 ≤ x ∧ x < (n : Int)) ∧ (xs.take i).Nodup) PassesOwn.never rfl nd rfl (.inl rfl) (by repeat (first | exact Wk.nil | refine Wk.any ?_ | refine Wk.same ?_ | refine Wk.frz ?_)) (ei_list (ev_var (nm 0 rfl (.inl rfl) rfl rfl) rfl)) ?_ ?_ ?_ (.inl rfl) (fun _ => rfl)
  · exact ⟨fun x hx => (by simp at hx), List.nodup_nil⟩
  · intro i d hd hJ
    obtain ⟨x, hx, rfl⟩ := lst_get hd
    have hxm : x ∈ xs := List.mem_of_getElem? hx
    have ts := take_succ_of hx
    refine bd_ifRet (EvW.t (ew_or (et_cmp (ec_lt (ev_var (nm 3 rfl (.inl rfl) rfl rfl) rfl) ev_int) (nomark _ (by decide) (by decide))) fun hb0 => (ew_or (et_cmp (ec_ge (ev_var (nm 3 rfl (.inl rfl) rfl rfl) rfl) (ev_var (nm 1 rfl (.inl rfl) rfl rfl) rfl)) (nomark _ (by decide) (by decide))) fun hb1 => (ew_or1 (et_ev (ev_ixG false (evl_own (nm 2 rfl (.inl rfl) rfl rfl) rfl) (ev_var (nm 3 rfl (.inl rfl) rfl rfl) rfl) ?_ ?_ (fun _ _ => rfl)) (fun _ => rfl)))))) (fun e => bd_one (sd_ret ev_bl ?_)) fun e => ?_
    · simp at hb0; omega
    · simp at hb1; rw [seen_len]; omega
    · show D.bl false = D.bl (decide (isP xs n))
      rw [decide_eq_false]
      rintro ⟨⟨q1, q2⟩, q3⟩
      obtain ⟨a, b⟩ := q1 x hxm
      rw [seen_get a b] at e
      have hm : x ∈ xs.take i := by
        simp only [Bool.or_eq_true, decide_eq_true_eq] at e
        rcases e with e | e | e
        · omega
        · omega
        · exact e
      have hd2 : (xs.take (i + 1)).Nodup := q2.sublist (List.take_sublist _ _)
      rw [ts] at hd2
      exact (List.nodup_append.mp hd2).2.2 x hm x (List.mem_singleton_self x) rfl
    · simp only [Bool.or_eq_false_iff, decide_eq_false_iff_not] at e
      have h0 : 0 ≤ x := by omega
      have h3 : x < n := by omega
      have hnm : x ∉ xs.take i := by
        have := e.2.2
        rw [seen_get h0 h3] at this
        simpa using this
      refine bd_seq1 (sd_setM (k := 2) (nm 2 rfl (.inl rfl) rfl rfl) rfl ev_bl (ev_var (nm 3 rfl (.inl rfl) rfl rfl) rfl) ?_ ?_ rfl rfl rfl rfl (fun _ => rfl)) (bd_nil ⟨?_, ?_, ?_⟩)
      · exact h0
      · rw [seen_len]
        exact h3
      · rw [ts, ← seen_set h0 h3]
        exact (by repeat (first | exact Wk.nil | refine Wk.any ?_ | refine Wk.same ?_ | refine Wk.frz ?_))
      · intro y hy
        rw [ts] at hy
        rcases List.mem_append.mp hy with h | h
        · exact hJ.1 y h
        · rw [List.mem_singleton.mp h]
          exact ⟨h0, h3⟩
      · rw [ts]
        exact List.nodup_append.mpr ⟨hJ.2, (by simp), fun a ha b hb z => by
          rw [List.mem_singleton] at hb
          subst hb
          subst z
          exact hnm ha⟩
  · intro hJ
    rw [List.length_map, List.take_length] at hJ
    refine bd_one (sd_ret (ev_cmp (ec_eqI (ev_lenL T.b_len (Ev.l (ev_var (nm 0 rfl (.inl rfl) rfl rfl) rfl)) rfl rfl rfl) (ev_var (nm 1 rfl (.inl rfl) rfl rfl) rfl)) (nomark _ (by decide) (by decide))) ?_)
    show D.bl _ = D.bl _
    congr 1
    by_cases h : xs.length = n
    · rw [decide_eq_true (show isP xs n from ⟨hJ, h⟩), decide_eq_true (by rw [h])]
    · rw [decide_eq_false (fun z : isP xs n => h z.2), decide_eq_false (by omega)]
/-! ### the pairs that are won -/
def winB (mine theirs xs : List Int) (m : Nat) : Bool := decide (theirs.getD (xs.getD m 0).toNat 0 ≤ mine.getD m 0)
def winsL (mine theirs xs : List Int) : List Nat := (List.range mine.length).filter (winB mine theirs xs)
theorem c_wins_of (T : Tx K mg) {mine theirs xs : List Int} (h1 : mine.length ≤ 1000) (h2 : mine.length ≤ xs.length) (h3 : ∀ x ∈ xs, 0 ≤ x ∧ x < (theirs.length : Int)) : Cal P w K mg base 2 "wins_of" [lI mine, lI theirs, lI xs] (dL dN (winsL mine theirs xs)) := by
  have key : ∀ m : Nat, m < mine.length → 0 ≤ xs.getD m 0 ∧ xs.getD m 0 < (theirs.length : Int) := fun m hm => by
    have hl : m < xs.length := by omega
    rw [List.getD_eq_getElem?_getD, List.getElem?_eq_getElem hl]
    exact h3 _ (List.getElem_mem hl)
  refine cal_of T.d_wins_of sc_wins_of (fun _ _ _ _ _ _ us hl => match us, hl with | [_, _, _], _ => rfl) rfl fun Y hr => ?_
  have nd := sc_wins_of.nd
  show Bd _ [.val _, .val _, .val _, .any] _ _
  refine bd_one (sd_ret (EvN.ev (evn_lc 3 _ _ _ rfl nd (ei_rng1 T.b_range (ev_lenL T.b_len (Ev.l (ev_var (nm 0 rfl (.inr (.inl rfl)) rfl rfl) rfl)) rfl rfl rfl) ?_ ?_ rfl rfl rfl) ?_ (blkOk_by (N := N_wins_of) (sc := defScope s_wins_of) (by decide +kernel)) (fun _ _ _ _ _ => pg_name nd rfl (.inl rfl) (.inr rfl)) (fun x hx s H C cl fp => ets_one (et_ev (ev_call (c_wins T _ _) (hr.mono (by decide)) (ea_cons (ev_ixN (0 : Int) (Ev.l (ev_var (nm 0 rfl (.inr (.inl rfl)) rfl rfl) rfl)) (ev_var (nm 3 rfl (.inl rfl) rfl rfl) rfl) ?_ (fun _ _ => rfl)) (ea_cons (ev_ixG (0 : Int) (Ev.l (ev_var (nm 1 rfl (.inr (.inl rfl)) rfl rfl) rfl)) (ev_ixN (0 : Int) (Ev.l (ev_var (nm 2 rfl (.inr (.inl rfl)) rfl rfl) rfl)) (ev_var (nm 3 rfl (.inl rfl) rfl rfl) rfl) ?_ (fun _ _ => rfl)) ?_ ?_ (fun _ _ => rfl)) ea_nil rfl) rfl) rfl (by decide) rfl rfl) (fun _ => rfl))) (fun x hx hcx s H C cl fp => (ev_var (nm 3 rfl (.inl rfl) rfl rfl) rfl)) (fun _ => rfl))) ?_)
  · omega
  · omega
  · rw [List.length_range]
    omega
  · rw [List.mem_range] at hx
    omega
  · rw [List.mem_range] at hx
    omega
  · rw [List.mem_range] at hx
    exact (key _ (by omega)).1
  · rw [List.mem_range] at hx
    exact (key _ (by omega)).2
  · rfl
/-! ### places -/
def heightAt (walk : List Int) (p : Int) : Option Int := if p < 0 ∨ (walk.length : Int) ≤ p then none else some (walk.getD p.toNat 0)
theorem c_height_at (T : Tx K mg) {mine theirs : List Int} (h : mine.length = theirs.length) (h1 : mine.length ≤ 1000) (p : Int) : Cal P w K mg base 3 "height_at" [lI mine, lI theirs, .int p] (hD (heightAt (heightsL mine theirs) p)) := by
  refine cal_of T.d_height_at sc_height_at (fun _ _ _ _ _ _ us hl => match us, hl with | [_, _, _], _ => rfl) rfl (fun Y hr => ?_) (nn_hD _)
  have nd := sc_height_at.nd
  show Bd _ [.val _, .val _, .val _, .any] _ _
  refine bd_seq1 (sd_asg (k := 3) nd rfl (.inl rfl) (ev_call (c_heights T h h1) (hr.mono (by decide)) (ea_cons (ev_var (nm 0 rfl (.inl rfl) rfl rfl) rfl) (ea_cons (ev_var (nm 1 rfl (.inl rfl) rfl rfl) rfl) ea_nil rfl) rfl) rfl (by decide) rfl rfl) rfl rfl (.inl rfl)) (bd_ifRet (EvW.t (ew_or (et_cmp (ec_lt (ev_var (nm 2 rfl (.inl rfl) rfl rfl) rfl) ev_int) (nomark _ (by decide) (by decide))) fun hb0 => (ew_or1 (et_cmp (ec_ge (ev_var (nm 2 rfl (.inl rfl) rfl rfl) rfl) (ev_lenL T.b_len (Ev.l (ev_var (nm 3 rfl (.inl rfl) rfl rfl) rfl)) rfl rfl rfl)) (nomark _ (by decide) (by decide)))))) (fun e => bd_one (sd_ret ev_non ?_)) fun e => bd_one (sd_ret (ev_ixG (0 : Int) (Ev.l (ev_var (nm 3 rfl (.inl rfl) rfl rfl) rfl)) (ev_var (nm 2 rfl (.inl rfl) rfl rfl) rfl) ?_ ?_ (fun _ _ => rfl)) ?_))
  · simp only [Bool.or_eq_true, decide_eq_true_eq] at e
    show D.non = hD _
    rw [heightAt, if_pos e]
    rfl
  · simp only [Bool.or_eq_false_iff, decide_eq_false_iff_not] at e
    omega
  · simp only [Bool.or_eq_false_iff, decide_eq_false_iff_not] at e
    omega
  · simp only [Bool.or_eq_false_iff, decide_eq_false_iff_not] at e
    show D.int _ = hD _
    rw [heightAt, if_neg (by omega)]
    rfl
/-! ### look_span -/
structure SpanP where
  tag : List Nat
  lo : Int
  loP : Int
  loL : List Int
  hi : Int
  hiP : Int
  hiL : List Int
def eSP (p : SpanP) : D := .tup [dW p.tag, .int p.lo, .int p.loP, lI p.loL, .int p.hi, .int p.hiP, lI p.hiL]
def lookSpan (mine theirs : List Int) (p : SpanP) : Bool :=
  decide (isP p.loL mine.length) && decide (isP p.hiL mine.length) && decide (((winsL mine theirs p.loL).length : Int) = p.lo) && decide (((winsL mine theirs p.hiL).length : Int) = p.hi) &&
    decide (heightAt (heightsL mine theirs) p.loP = some p.lo) && decide (heightAt (heightsL mine theirs) p.hiP = some (p.hi - (mine.length : Int)))
theorem c_look_span (T : Tx K mg) {mine theirs : List Int} (h : mine.length = theirs.length) (h1 : mine.length ≤ 1000) (p : SpanP) (b1 : p.loL.length ≤ 1000) (b2 : p.hiL.length ≤ 1000) : Cal P w K mg base 4 "look_span" [lI mine, lI theirs, eSP p] (.bl (lookSpan mine theirs p)) := by
  refine cal_of T.d_look_span sc_look_span (fun _ _ _ _ _ _ us hl => match us, hl with | [_, _, _], _ => rfl) rfl fun Y hr => ?_
  have nd := sc_look_span.nd
  show Bd _ [.val _, .val _, .val _, .any, .any, .any, .any, .any, .any, .any, .any] _ _
  refine bd_seq1 (sd_expr (ev_call (c_check_hands T h) (hr.mono (by decide)) (ea_cons (ev_var (nm 0 rfl (.inl rfl) rfl rfl) rfl) (ea_cons (ev_var (nm 1 rfl (.inl rfl) rfl rfl) rfl) ea_nil rfl) rfl) rfl (by decide) rfl rfl) rfl rfl) (bd_seq1 (sd_asgT (ev_var (nm 2 rfl (.inl rfl) rfl rfl) rfl) (eg_tup rfl (egs_cons (eg_name (k := 3) nd rfl (.inl rfl) (.inl rfl)) (egs_cons (eg_name (k := 4) nd rfl (.inl rfl) (.inl rfl)) (egs_cons (eg_name (k := 5) nd rfl (.inl rfl) (.inl rfl)) (egs_cons (eg_name (k := 6) nd rfl (.inl rfl) (.inl rfl)) (egs_cons (eg_name (k := 7) nd rfl (.inl rfl) (.inl rfl)) (egs_cons (eg_name (k := 8) nd rfl (.inl rfl) (.inl rfl)) (egs_cons (eg_name (k := 9) nd rfl (.inl rfl) (.inl rfl)) egs_nil rfl) rfl) rfl) rfl) rfl) rfl) rfl) rfl rfl rfl) rfl rfl rfl rfl) (bd_seq1 (sd_asg (k := 10) nd rfl (.inl rfl) (ev_lenL T.b_len (Ev.l (ev_var (nm 0 rfl (.inl rfl) rfl rfl) rfl)) rfl rfl rfl) rfl rfl (.inl rfl)) ?_))
  refine bd_ifRet (EvW.t (ew_or (et_not (et_ev (ev_call (c_is_pairing T _ _ ?_ h1) (hr.mono (by decide)) (ea_cons (ev_var (nm 6 rfl (.inl rfl) rfl rfl) rfl) (ea_cons (ev_var (nm 10 rfl (.inl rfl) rfl rfl) rfl) ea_nil rfl) rfl) rfl (by decide) rfl rfl) (fun _ => rfl))) fun hb0 => (ew_or1 (et_not (et_ev (ev_call (c_is_pairing T _ _ ?_ h1) (hr.mono (by decide)) (ea_cons (ev_var (nm 9 rfl (.inl rfl) rfl rfl) rfl) (ea_cons (ev_var (nm 10 rfl (.inl rfl) rfl rfl) rfl) ea_nil rfl) rfl) rfl (by decide) rfl rfl) (fun _ => rfl)))))) (fun e => bd_one (sd_ret ev_bl ?_)) fun e => ?_
  · exact b1
  · exact b2
  · show D.bl false = D.bl (lookSpan mine theirs p)
    congr 1
    unfold lookSpan
    rcases Bool.or_eq_true_iff.mp e with e | e
    · rw [Bool.not_eq_true'] at e
      rw [e]
      rfl
    · rw [Bool.not_eq_true'] at e
      rw [e]
      simp
  · obtain ⟨e1, e2⟩ := Bool.or_eq_false_iff.mp e
    rw [Bool.not_eq_false'] at e1 e2
    have p1 := of_decide_eq_true e1
    have p2 := of_decide_eq_true e2
    have r1 : lookSpan mine theirs p = (decide (((winsL mine theirs p.loL).length : Int) = p.lo) && decide (((winsL mine theirs p.hiL).length : Int) = p.hi) &&
      decide (heightAt (heightsL mine theirs) p.loP = some p.lo) && decide (heightAt (heightsL mine theirs) p.hiP = some (p.hi - (mine.length : Int)))) := by
      unfold lookSpan
      rw [e1, e2, Bool.true_and, Bool.true_and]
    rw [r1]
    refine bd_ifRet (EvW.t (ew_or (et_cmp (ec_neI (ev_lenL T.b_len (Ev.l (ev_call (c_wins_of T h1 ?_ ?_) (hr.mono (by decide)) (ea_cons (ev_var (nm 0 rfl (.inl rfl) rfl rfl) rfl) (ea_cons (ev_var (nm 1 rfl (.inl rfl) rfl rfl) rfl) (ea_cons (ev_var (nm 6 rfl (.inl rfl) rfl rfl) rfl) ea_nil rfl) rfl) rfl) rfl (by decide) rfl rfl)) rfl rfl rfl) (ev_var (nm 4 rfl (.inl rfl) rfl rfl) rfl)) (nomark _ (by decide) (by decide))) fun hb0 => (ew_or1 (et_cmp (ec_neI (ev_lenL T.b_len (Ev.l (ev_call (c_wins_of T h1 ?_ ?_) (hr.mono (by decide)) (ea_cons (ev_var (nm 0 rfl (.inl rfl) rfl rfl) rfl) (ea_cons (ev_var (nm 1 rfl (.inl rfl) rfl rfl) rfl) (ea_cons (ev_var (nm 9 rfl (.inl rfl) rfl rfl) rfl) ea_nil rfl) rfl) rfl) rfl (by decide) rfl rfl)) rfl rfl rfl) (ev_var (nm 7 rfl (.inl rfl) rfl rfl) rfl)) (nomark _ (by decide) (by decide)))))) (fun e => bd_one (sd_ret ev_bl ?_)) fun e => ?_
    · rw [p1.2]
      exact Nat.le_refl _
    · rw [← h]
      exact p1.1.1
    · rw [p2.2]
      exact Nat.le_refl _
    · rw [← h]
      exact p2.1.1
    · show D.bl false = D.bl _
      congr 1
      rcases Bool.or_eq_true_iff.mp e with e | e
      · rw [Bool.not_eq_true'] at e
        rw [e]
        rfl
      · rw [Bool.not_eq_true'] at e
        rw [e]
        simp
    · obtain ⟨e3, e4⟩ := Bool.or_eq_false_iff.mp e
      rw [Bool.not_eq_false'] at e3 e4
      refine bd_one (sd_ret (ev_and (ev_cmp (ec_eqHI hr.units (ev_call (c_height_at T h h1 _) (hr.mono (by decide)) (ea_cons (ev_var (nm 0 rfl (.inl rfl) rfl rfl) rfl) (ea_cons (ev_var (nm 1 rfl (.inl rfl) rfl rfl) rfl) (ea_cons (ev_var (nm 5 rfl (.inl rfl) rfl rfl) rfl) ea_nil rfl) rfl) rfl) rfl (by decide) rfl rfl) (ev_var (nm 4 rfl (.inl rfl) rfl rfl) rfl)) (nomark _ (by decide) (by decide))) fun hb0 => (ev_and1 (ev_cmp (ec_eqHI hr.units (ev_call (c_height_at T h h1 _) (hr.mono (by decide)) (ea_cons (ev_var (nm 0 rfl (.inl rfl) rfl rfl) rfl) (ea_cons (ev_var (nm 1 rfl (.inl rfl) rfl rfl) rfl) (ea_cons (ev_var (nm 8 rfl (.inl rfl) rfl rfl) rfl) ea_nil rfl) rfl) rfl) rfl (by decide) rfl rfl) (ev_sub (ev_var (nm 7 rfl (.inl rfl) rfl rfl) rfl) (ev_var (nm 10 rfl (.inl rfl) rfl rfl) rfl))) (nomark _ (by decide) (by decide))))) ?_)
      show D.bl _ = D.bl _
      rw [e3, e4, Bool.true_and, Bool.true_and]
end
end Y
end S_F2

section S_F3
set_option maxHeartbeats 2000000
namespace Y
open PySem PySem.Spec PyProof.Rows L2
/-! ### levels -/
abbrev Cd := Int × Int × Int
def lvl (cs : List Cd) (s : Int) (n : Nat) : Nat → List Int
  | 0 => List.replicate n 0
  | i + 1 => if (cs.getD i (0, 0, 0)).2.1 = s then (lvl cs s n i).set (cs.getD i (0, 0, 0)).2.2.toNat (hgt cs (i + s.toNat)) else lvl cs s n i
theorem getD_of {α : Type} {xs : List α} {i : Nat} {x z : α} (h : xs[i]? = some x) : xs.getD i z = x := by
  rw [List.getD_eq_getElem?_getD, h]
  rfl
theorem lvl_yes {cs : List Cd} {s : Int} {n i : Nat} {c : Cd} (h : cs[i]? = some c) (hs : c.2.1 = s) : lvl cs s n (i + 1) = (lvl cs s n i).set c.2.2.toNat (hgt cs (i + s.toNat)) := by
  show (if (cs.getD i (0, 0, 0)).2.1 = s then _ else _) = _
  rw [getD_of h, if_pos hs]
theorem lvl_no {cs : List Cd} {s : Int} {n i : Nat} {c : Cd} (h : cs[i]? = some c) (hs : ¬ c.2.1 = s) : lvl cs s n (i + 1) = lvl cs s n i := by
  show (if (cs.getD i (0, 0, 0)).2.1 = s then _ else _) = _
  rw [getD_of h, if_neg hs]
theorem lvl_len (cs : List Cd) (s : Int) (n : Nat) : ∀ i, (lvl cs s n i).length = n
  | 0 => by simp [lvl]
  | i + 1 => by
    unfold lvl
    split
    · rw [List.length_set, lvl_len cs s n i]
    · exact lvl_len cs s n i
def levelsL (mine theirs : List Int) (s : Int) : List Int := lvl (orderL mine theirs) s mine.length (orderL mine theirs).length
theorem heights_get (mine theirs : List Int) {p : Nat} (h : p ≤ (orderL mine theirs).length) : (heightsL mine theirs).getD p 0 = hgt (orderL mine theirs) p := by
  unfold heightsL walkOf
  rw [List.getD_eq_getElem?_getD, List.getElem?_map, List.getElem?_range (by omega)]
  rfl
theorem half_ix {s : Int} {xs : List Int} {n : Nat} {c : Cd} (h : c ∈ half s xs n) : 0 ≤ c.2.2 ∧ c.2.2 < n := by
  obtain ⟨i, hi, rfl⟩ := List.mem_map.mp h
  rw [List.mem_range] at hi
  show 0 ≤ (i : Int) ∧ (i : Int) < n
  omega
theorem order_ix {mine theirs : List Int} (hl : mine.length = theirs.length) {c : Cd} (h : c ∈ orderL mine theirs) : 0 ≤ c.2.2 ∧ c.2.2 < mine.length := by
  have h2 : c ∈ cardsL mine theirs := (List.mergeSort_perm _ _).mem_iff.mp h
  rcases List.mem_append.mp h2 with h3 | h3
  · rw [hl]
    exact half_ix h3
  · exact half_ix h3
theorem enum_get {α : Type} {f : α → D} {xs : List α} {i : Nat} {d : D} (h : ((xs.map f).zipIdx.map fun q => D.tup [.int (q.2 : Nat), q.1])[i]? = some d) : ∃ x, xs[i]? = some x ∧ d = .tup [.int (i : Nat), f x] := by
  rw [List.getElem?_map, List.getElem?_zipIdx, List.getElem?_map] at h
  cases q : xs[i]? with
  | none =>
    rw [q] at h
    cases h
  | some x =>
    rw [q] at h
    refine ⟨x, rfl, ?_⟩
    have := (Option.some.inj h).symm
    simpa using this
def eHH (p : List Int × List Int) : D := .tup [lI p.1, lI p.2]
section
variable {P : Program} {w : World} {K : PySem.W.Frag} {mg : Str → Option Value} {base : Heap}
theorem c_card_levels (T : Tx K mg) {mine theirs : List Int} (h : mine.length = theirs.length) (h1 : mine.length ≤ 1000) : Cal P w K mg base 3 "card_levels" [lI mine, lI theirs] (eHH (levelsL mine theirs 1, levelsL mine theirs 0)) := by
  have h2 : theirs.length ≤ 1000 := by omega
  refine cal_of T.d_card_levels sc_card_levels (fun _ _ _ _ _ _ us hl => match us, hl with | [_, _], _ => rfl) rfl fun Y hr => ?_
  have nd := sc_card_levels.nd
  show Bd _ [.val _, .val _, .any, .any, .any, .any, .any, .any] _ _
  refine bd_seq1 (sd_asg (k := 2) nd rfl (.inl rfl) (ev_call (c_heights T h h1) (hr.mono (by decide)) (ea_cons (ev_var (nm 0 rfl (.inl rfl) rfl rfl) rfl) (ea_cons (ev_var (nm 1 rfl (.inl rfl) rfl rfl) rfl) ea_nil rfl) rfl) rfl (by decide) rfl rfl) rfl rfl (.inl rfl)) (bd_seq1 (sd_asgN (k := 3) nd rfl (.inl rfl) (EvN.cast (d' := (lvl (orderL mine theirs) 1 mine.length 0).map D.int) (evn_rep1 (EvN.l (evn_lst (ea_cons ev_int ea_nil rfl) (Nat.le_of_ble_eq_true rfl))) (ev_lenL T.b_len (Ev.l (ev_var (nm 0 rfl (.inl rfl) rfl rfl) rfl)) rfl rfl rfl) ?_ ?_) ?_) rfl rfl (.inl rfl)) (bd_seq1 (sd_asgN (k := 4) nd rfl (.inl rfl) (EvN.cast (d' := (lvl (orderL mine theirs) 0 mine.length 0).map D.int) (evn_rep1 (EvN.l (evn_lst (ea_cons ev_int ea_nil rfl) (Nat.le_of_ble_eq_true rfl))) (ev_lenL T.b_len (Ev.l (ev_var (nm 1 rfl (.inl rfl) rfl rfl) rfl)) rfl rfl rfl) ?_ ?_) ?_) rfl rfl (.inl rfl)) ?_))
  · omega
  · omega
  · rw [Int.toNat_natCast]
    exact map_rep D.int 0 _
  · omega
  · omega
  · rw [Int.toNat_natCast, ← h]
    exact map_rep D.int 0 _
  refine bd_forT (fun i => [.val (lI mine), .val (lI theirs), .val (lI (heightsL mine theirs)), .own ((lvl (orderL mine theirs) 1 mine.length i).map D.int), .own ((lvl (orderL mine theirs) 0 mine.length i).map D.int), .any, .any, .any]) (fun _ => True) PassesOwn.never rfl (by repeat (first | exact Wk.nil | refine Wk.any ?_ | refine Wk.same ?_ | refine Wk.frz ?_)) (ei_enum T.b_enumerate (ev_call (c_deck T h1 h2) (hr.mono (by decide)) (ea_cons (ev_var (nm 0 rfl (.inl rfl) rfl rfl) rfl) (ea_cons (ev_var (nm 1 rfl (.inl rfl) rfl rfl) rfl) ea_nil rfl) rfl) rfl (by decide) rfl rfl) rfl rfl rfl) trivial ?_ ?_ (fun _ => rfl)
  · intro i d hd _
    obtain ⟨c, hc, rfl⟩ := enum_get hd
    have hcm := List.mem_of_getElem? hc
    have hi := (List.getElem?_eq_some_iff.mp hc).1
    have hix := order_ix h hcm
    have hs := order_side hcm
    have hol := order_len mine theirs
    refine ⟨_, (eg_tup rfl (egs_cons (eg_name (k := 5) nd rfl (.inl rfl) (.inl rfl)) (egs_cons (eg_tup rfl (egs_cons (eg_name (k := 6) nd rfl (.inl rfl) (.inl rfl)) (egs_cons (eg_name (k := 7) nd rfl (.inl rfl) (.inl rfl)) egs_nil rfl) rfl) rfl rfl rfl) egs_nil rfl) rfl) rfl rfl rfl), ?_⟩
    refine bd_if [.val (lI mine), .val (lI theirs), .val (lI (heightsL mine theirs)), .own ((lvl (orderL mine theirs) 1 mine.length (i + 1)).map D.int), .own ((lvl (orderL mine theirs) 0 mine.length (i + 1)).map D.int), .any, .any, .any] (EvT.cast (et_cmp (ec_eqW (ev_var (nm 6 rfl (.inl rfl) rfl rfl) rfl) (ev_strW [109, 105, 110, 101])) (nomark _ (by decide) (by decide))) (side_mine hs)) (fun e => ?_) (fun e => ?_) (bd_nil ⟨(by repeat (first | exact Wk.nil | refine Wk.any ?_ | refine Wk.same ?_ | refine Wk.frz ?_)), trivial⟩)
    · have e1 : c.2.1 = 1 := of_decide_eq_true e
      refine bd_seq1 (sd_setM (k := 3) (nm 3 rfl (.inl rfl) rfl rfl) rfl (Ev.cast (d' := D.int (hgt (orderL mine theirs) (i + 1))) (ev_ixG (0 : Int) (Ev.l (ev_var (nm 2 rfl (.inl rfl) rfl rfl) rfl)) (ev_add (ev_var (nm 5 rfl (.inl rfl) rfl rfl) rfl) ev_int) ?_ ?_ (fun _ _ => rfl)) ?_) (ev_var (nm 7 rfl (.inl rfl) rfl rfl) rfl) ?_ ?_ rfl rfl rfl rfl (fun _ => rfl)) (bd_nil ?_)
      · omega
      · rw [heights_len]
        omega
      · congr 1
        rw [← heights_get mine theirs (show i + 1 ≤ _ by omega)]
        congr 1
      · exact hix.1
      · rw [lvl_len]
        exact hix.2
      · rw [lvl_yes hc e1, lvl_no hc (by omega)]
        exact (by repeat (first | exact Wk.nil | refine Wk.any ?_ | refine Wk.same ?_ | refine Wk.frz ?_))
    · have e1 : c.2.1 = 0 := by
        have := of_decide_eq_false e
        omega
      refine bd_seq1 (sd_setM (k := 4) (nm 4 rfl (.inl rfl) rfl rfl) rfl (Ev.cast (d' := D.int (hgt (orderL mine theirs) (i + 0))) (ev_ixN (0 : Int) (Ev.l (ev_var (nm 2 rfl (.inl rfl) rfl rfl) rfl)) (ev_var (nm 5 rfl (.inl rfl) rfl rfl) rfl) ?_ (fun _ _ => rfl)) ?_) (ev_var (nm 7 rfl (.inl rfl) rfl rfl) rfl) ?_ ?_ rfl rfl rfl rfl (fun _ => rfl)) (bd_nil ?_)
      · rw [heights_len]
        omega
      · rw [← heights_get mine theirs (show i + 0 ≤ _ by omega)]
        rfl
      · exact hix.1
      · rw [lvl_len]
        exact hix.2
      · rw [lvl_no hc (show ¬ c.2.1 = 1 by omega), lvl_yes hc e1]
        exact (by repeat (first | exact Wk.nil | refine Wk.any ?_ | refine Wk.same ?_ | refine Wk.frz ?_))
  · intro _
    rw [List.length_map, List.length_zipIdx, List.length_map]
    refine bd_wk (ρ' := [.val (lI mine), .val (lI theirs), .val (lI (heightsL mine theirs)), .val (lI (levelsL mine theirs 1)), .val (lI (levelsL mine theirs 0)), .any, .any, .any]) (by repeat (first | exact Wk.nil | refine Wk.any ?_ | refine Wk.same ?_ | refine Wk.frz ?_)) ?_
    refine bd_one (sd_ret (ev_tup (ea_cons (ev_var (nm 3 rfl (.inl rfl) rfl rfl) rfl) (ea_cons (ev_var (nm 4 rfl (.inl rfl) rfl rfl) rfl) ea_nil rfl) rfl) (Nat.le_of_ble_eq_true rfl)) ?_)
    rfl
/-! ### look_row -/
def matesB (mine theirs partners : List Int) (m : Nat) : Bool := decide ((levelsL mine theirs 1).getD m 0 = (levelsL mine theirs 0).getD (partners.getD m 0).toNat 0)
def showsRow (mine theirs row partners : List Int) : Bool := decide (isP partners mine.length) && decide (∀ m, m < mine.length → matesB mine theirs partners m = true) && decide (row = (levelsL mine theirs 1).mergeSort leI)
theorem levels_len (mine theirs : List Int) (s : Int) : (levelsL mine theirs s).length = mine.length := lvl_len _ _ _ _
theorem c_shows_row (T : Tx K mg) {mine theirs : List Int} (h : mine.length = theirs.length) (h1 : mine.length ≤ 1000) (row partners : List Int) (b1 : partners.length ≤ 1000) : Cal P w K mg base 4 "shows_row" [lI mine, lI theirs, lI row, lI partners] (.bl (showsRow mine theirs row partners)) := by
  refine cal_of T.d_shows_row sc_shows_row (fun _ _ _ _ _ _ us hl => match us, hl with | [_, _, _, _], _ => rfl) rfl fun Y hr => ?_
  have nd := sc_shows_row.nd
  show Bd _ [.val _, .val _, .val _, .val _, .any, .any, .any] _ _
  refine bd_ifRet (et_not (et_ev (ev_call (c_is_pairing T _ _ ?_ h1) (hr.mono (by decide)) (ea_cons (ev_var (nm 3 rfl (.inl rfl) rfl rfl) rfl) (ea_cons (ev_lenL T.b_len (Ev.l (ev_var (nm 0 rfl (.inl rfl) rfl rfl) rfl)) rfl rfl rfl) ea_nil rfl) rfl) rfl (by decide) rfl rfl) (fun _ => rfl))) (fun e => bd_one (sd_ret ev_bl ?_)) fun e => ?_
  · exact b1
  · rw [Bool.not_eq_true'] at e
    unfold showsRow
    rw [e]
    rfl
  rw [Bool.not_eq_false'] at e
  have hP := of_decide_eq_true e
  refine bd_seq1 (sd_asgT (ev_call (c_card_levels T h h1) (hr.mono (by decide)) (ea_cons (ev_var (nm 0 rfl (.inl rfl) rfl rfl) rfl) (ea_cons (ev_var (nm 1 rfl (.inl rfl) rfl rfl) rfl) ea_nil rfl) rfl) rfl (by decide) rfl rfl) (eg_tup rfl (egs_cons (eg_name (k := 4) nd rfl (.inl rfl) (.inl rfl)) (egs_cons (eg_name (k := 5) nd rfl (.inl rfl) (.inl rfl)) egs_nil rfl) rfl) rfl rfl rfl) rfl rfl rfl rfl) ?_
  refine bd_for 6 (fun i => [.val (lI mine), .val (lI theirs), .val (lI row), .val (lI partners), .val (lI (levelsL mine theirs 1)), .val (lI (levelsL mine theirs 0)), .any]) (fun i => ∀ m, m < i → matesB mine theirs partners m = true) PassesOwn.never rfl nd rfl (.inl rfl) (by repeat (first | exact Wk.nil | refine Wk.any ?_ | refine Wk.same ?_ | refine Wk.frz ?_)) (ei_rng1 T.b_range (ev_lenL T.b_len (Ev.l (ev_var (nm 0 rfl (.inl rfl) rfl rfl) rfl)) rfl rfl rfl) ?_ ?_ rfl rfl rfl) ?_ ?_ ?_ (.inl rfl) (fun _ => rfl)
  · omega
  · omega
  · intro m hm
    omega
  · intro i d hd hJ
    obtain ⟨hi, rfl⟩ := rng_get hd
    rw [Int.toNat_natCast] at hi
    have hpl : i < partners.length := by rw [hP.2]; exact hi
    have hpm : partners.getD i 0 ∈ partners := by
      rw [List.getD_eq_getElem?_getD, List.getElem?_eq_getElem hpl]
      exact List.getElem_mem hpl
    obtain ⟨q0, q1⟩ := hP.1.1 _ hpm
    refine bd_ifRet (et_cmp (ec_neI (ev_ixN (0 : Int) (Ev.l (ev_var (nm 4 rfl (.inl rfl) rfl rfl) rfl)) (ev_var (nm 6 rfl (.inl rfl) rfl rfl) rfl) ?_ (fun _ _ => rfl)) (ev_ixG (0 : Int) (Ev.l (ev_var (nm 5 rfl (.inl rfl) rfl rfl) rfl)) (ev_ixN (0 : Int) (Ev.l (ev_var (nm 3 rfl (.inl rfl) rfl rfl) rfl)) (ev_var (nm 6 rfl (.inl rfl) rfl rfl) rfl) ?_ (fun _ _ => rfl)) ?_ ?_ (fun _ _ => rfl))) (nomark _ (by decide) (by decide))) (fun e => bd_one (sd_ret ev_bl ?_)) fun e => bd_nil ⟨(by repeat (first | exact Wk.nil | refine Wk.any ?_ | refine Wk.same ?_ | refine Wk.frz ?_)), fun m hm => ?_⟩
    · rw [levels_len]
      exact hi
    · exact hpl
    · exact q0
    · rw [levels_len]
      exact q1
    · show D.bl false = D.bl _
      congr 1
      have : ¬ ∀ m, m < mine.length → matesB mine theirs partners m = true := fun z => by
        have := z i hi
        unfold matesB at this
        rw [this] at e
        cases e
      unfold showsRow
      rw [decide_eq_false this]
      simp
    · by_cases hm2 : m < i
      · exact hJ m hm2
      · have : m = i := by omega
        subst this
        rw [Bool.not_eq_false'] at e
        exact e
  · intro hJ
    rw [List.length_map, List.length_range, Int.toNat_natCast] at hJ
    refine bd_one (sd_ret (ev_cmp (ec_eqLI hr.units (ev_var (nm 2 rfl (.inl rfl) rfl rfl) rfl) (EvN.ev (evn_sortedI hr.units T.b_sorted (Ev.l (ev_var (nm 4 rfl (.inl rfl) rfl rfl) rfl)) rfl rfl rfl))) (nomark _ (by decide) (by decide))) ?_)
    show D.bl _ = D.bl _
    unfold showsRow
    rw [decide_eq_true hP, decide_eq_true hJ]
    rfl
structure RowP where
  tag : List Nat
  row : List Int
  mates : List Int
def eRP (p : RowP) : D := .tup [dW p.tag, lI p.row, lI p.mates]
theorem c_look_row (T : Tx K mg) {mine theirs : List Int} (h : mine.length = theirs.length) (h1 : mine.length ≤ 1000) (p : RowP) (b1 : p.mates.length ≤ 1000) : Cal P w K mg base 5 "look_row" [lI mine, lI theirs, eRP p] (.bl (showsRow mine theirs p.row p.mates)) := by
  refine cal_of T.d_look_row sc_look_row (fun _ _ _ _ _ _ us hl => match us, hl with | [_, _, _], _ => rfl) rfl fun Y hr => ?_
  have nd := sc_look_row.nd
  show Bd _ [.val _, .val _, .val _] _ _
  refine bd_seq1 (sd_expr (ev_call (c_check_hands T h) (hr.mono (by decide)) (ea_cons (ev_var (nm 0 rfl (.inl rfl) rfl rfl) rfl) (ea_cons (ev_var (nm 1 rfl (.inl rfl) rfl rfl) rfl) ea_nil rfl) rfl) rfl (by decide) rfl rfl) rfl rfl) (bd_one (sd_ret (ev_call (c_shows_row T h h1 _ _ b1) (hr.mono (by decide)) (ea_cons (ev_var (nm 0 rfl (.inl rfl) rfl rfl) rfl) (ea_cons (ev_var (nm 1 rfl (.inl rfl) rfl rfl) rfl) (ea_cons (ev_ixT (ev_var (nm 2 rfl (.inl rfl) rfl rfl) rfl) ev_int rfl (fun _ _ => rfl)) (ea_cons (ev_ixT (ev_var (nm 2 rfl (.inl rfl) rfl rfl) rfl) ev_int rfl (fun _ _ => rfl)) ea_nil rfl) rfl) rfl) rfl) rfl (by decide) rfl rfl) ?_))
  rfl
/-! ### look_value -/
abbrev wM : List Nat := [77]
abbrev wT : List Nat := [84]
def layC (word many : List Nat) : Nat := if many = wMine then (word.dropLast).count 77 else (word.dropLast).count 84
def cval (row : List Int) (word many : List Nat) : Int := if row.length = 0 then 0 else ((word.dropLast).length : Int) - (layC word many : Int) + 1 + row.getD (layC word many) 0
theorem cut_last (ws : List Nat) : cut ws none (some (-1)) = ws.dropLast := by
  unfold cut
  have e : HT.sIx ws.length ws.length (some (-1)) = ws.length - 1 := by
    show (if (-1 : Int) < 0 then ((-1 : Int) + (ws.length : Int)).toNat else min (-1 : Int).toNat ws.length) = ws.length - 1
    rw [if_pos (by decide)]
    omega
  have e0 : HT.sIx ws.length 0 none = 0 := rfl
  rw [e0, e, List.drop_zero, Nat.sub_zero, List.dropLast_eq_take]
theorem c_counted_value (T : Tx K mg) {row : List Int} {word many : List Nat} (h1 : word.length ≤ 1000) (h2 : row.length ≠ 0 → word.dropLast.length < row.length) : Cal P w K mg base 1 "counted_value" [lI row, dW word, dW many] (.int (cval row word many)) := by
  refine cal_of T.d_counted_value sc_counted_value (fun _ _ _ _ _ _ us hl => match us, hl with | [_, _, _], _ => rfl) rfl fun Y hr => ?_
  have nd := sc_counted_value.nd
  show Bd _ [.val _, .val _, .val _, .any, .any] _ _
  refine bd_ifRet (et_cmp (ec_eqI (ev_lenL T.b_len (Ev.l (ev_var (nm 0 rfl (.inl rfl) rfl rfl) rfl)) rfl rfl rfl) ev_int) (nomark _ (by decide) (by decide))) (fun e => bd_one (sd_ret ev_int ?_)) fun e => ?_
  · have : row.length = 0 := by simpa using e
    show D.int 0 = D.int _
    rw [cval, if_pos this]
  have hr0 : row.length ≠ 0 := by simpa using e
  have hc1 : word.dropLast.count 77 ≤ word.dropLast.length := List.count_le_length
  have hc2 : word.dropLast.count 84 ≤ word.dropLast.length := List.count_le_length
  have hd : word.dropLast.length ≤ word.length := by rw [List.length_dropLast]; omega
  refine bd_seq1 (sd_asg (k := 3) nd rfl (.inl rfl) (Ev.cast (d' := dW word.dropLast) (ev_sliceW (ev_var (nm 1 rfl (.inl rfl) rfl rfl) rfl) ep_none (ep_some (ev_neg ev_int)) ?_) ?_) rfl rfl (.inl rfl)) (bd_seq1 (sd_asg (k := 4) nd rfl (.inl rfl) (ev_count (ev_var (nm 3 rfl (.inl rfl) rfl rfl) rfl) (ev_strW [84]) rfl rfl rfl) rfl rfl (.inl rfl)) ?_)
  · omega
  · rw [cut_last]
  refine bd_if [.val (lI row), .val (dW word), .val (dW many), .val (dW word.dropLast), .val (.int (layC word many : Int))] (et_cmp (ec_eqW (ev_var (nm 2 rfl (.inl rfl) rfl rfl) rfl) (ev_strW [109, 105, 110, 101])) (nomark _ (by decide) (by decide))) (fun e => bd_seq1 (sd_asg (k := 4) nd rfl (.inl rfl) (ev_count (ev_var (nm 3 rfl (.inl rfl) rfl rfl) rfl) (ev_strW [77]) rfl rfl rfl) rfl rfl (.inl rfl)) (bd_nil ?_)) (fun e => bd_nil ?_) (bd_one (sd_ret (ev_add (ev_add (ev_sub (ev_lenW T.b_len (ev_var (nm 3 rfl (.inl rfl) rfl rfl) rfl) ?_ rfl rfl rfl) (ev_var (nm 4 rfl (.inl rfl) rfl rfl) rfl)) ev_int) (ev_ixG (0 : Int) (Ev.l (ev_var (nm 0 rfl (.inl rfl) rfl rfl) rfl)) (ev_var (nm 4 rfl (.inl rfl) rfl rfl) rfl) ?_ ?_ (fun _ _ => rfl))) ?_))
  · rw [layC, if_pos (of_decide_eq_true e)]
    exact (by repeat (first | exact Wk.nil | refine Wk.any ?_ | refine Wk.same ?_ | refine Wk.frz ?_))
  · rw [layC, if_neg (of_decide_eq_false e)]
    exact (by repeat (first | exact Wk.nil | refine Wk.any ?_ | refine Wk.same ?_ | refine Wk.frz ?_))
  · omega
  · omega
  · have := h2 hr0
    unfold layC
    split <;> omega
  · show D.int _ = D.int _
    rw [cval, if_neg hr0, Int.toNat_natCast]
structure ValP where
  tag : List Nat
  word : List Nat
  many : List Nat
  worth : Int
  row : List Int
  mates : List Int
def eVP (p : ValP) : D := .tup [dW p.tag, dW p.word, dW p.many, .int p.worth, lI p.row, lI p.mates]
def lookValue (mine theirs : List Int) (p : ValP) : Bool :=
  (decide (p.many = wMine) || decide (p.many = wTheirs)) && decide (p.word.length = mine.length) && decide (p.word.count 77 + p.word.count 84 = p.word.length) && showsRow mine theirs p.row p.mates && decide (p.worth = cval p.row p.word p.many)
theorem row_of_shows {mine theirs row partners : List Int} (h : showsRow mine theirs row partners = true) : row.length = mine.length := by
  unfold showsRow at h
  have := of_decide_eq_true (Bool.and_eq_true_iff.mp h).2
  rw [this, List.length_mergeSort, levels_len]
theorem c_look_value (T : Tx K mg) {mine theirs : List Int} (h : mine.length = theirs.length) (h1 : mine.length ≤ 1000) (p : ValP) (b1 : p.mates.length ≤ 1000) (b2 : p.word.length ≤ 1000) : Cal P w K mg base 5 "look_value" [lI mine, lI theirs, eVP p] (.bl (lookValue mine theirs p)) := by
  refine cal_of T.d_look_value sc_look_value (fun _ _ _ _ _ _ us hl => match us, hl with | [_, _, _], _ => rfl) rfl fun Y hr => ?_
  have nd := sc_look_value.nd
  show Bd _ [.val _, .val _, .val _, .any, .any, .any, .any, .any, .any] _ _
  refine bd_seq1 (sd_expr (ev_call (c_check_hands T h) (hr.mono (by decide)) (ea_cons (ev_var (nm 0 rfl (.inl rfl) rfl rfl) rfl) (ea_cons (ev_var (nm 1 rfl (.inl rfl) rfl rfl) rfl) ea_nil rfl) rfl) rfl (by decide) rfl rfl) rfl rfl) (bd_seq1 (sd_asgT (ev_var (nm 2 rfl (.inl rfl) rfl rfl) rfl) (eg_tup rfl (egs_cons (eg_name (k := 3) nd rfl (.inl rfl) (.inl rfl)) (egs_cons (eg_name (k := 4) nd rfl (.inl rfl) (.inl rfl)) (egs_cons (eg_name (k := 5) nd rfl (.inl rfl) (.inl rfl)) (egs_cons (eg_name (k := 6) nd rfl (.inl rfl) (.inl rfl)) (egs_cons (eg_name (k := 7) nd rfl (.inl rfl) (.inl rfl)) (egs_cons (eg_name (k := 8) nd rfl (.inl rfl) (.inl rfl)) egs_nil rfl) rfl) rfl) rfl) rfl) rfl) rfl rfl rfl) rfl rfl rfl rfl) ?_)
  refine bd_ifRet (EvW.t (ew_and (et_cmp (ec_neW (ev_var (nm 5 rfl (.inl rfl) rfl rfl) rfl) (ev_strW [109, 105, 110, 101])) (nomark _ (by decide) (by decide))) fun hb0 => (ew_and1 (et_cmp (ec_neW (ev_var (nm 5 rfl (.inl rfl) rfl rfl) rfl) (ev_strW [116, 104, 101, 105, 114, 115])) (nomark _ (by decide) (by decide)))))) (fun e => bd_one (sd_ret ev_bl ?_)) fun e => ?_
  · obtain ⟨e1, e2⟩ := Bool.and_eq_true_iff.mp e
    rw [Bool.not_eq_true'] at e1 e2
    show D.bl false = D.bl _
    unfold lookValue
    rw [e1, e2]
    rfl
  have e1 : (decide (p.many = wMine) || decide (p.many = wTheirs)) = true := by
    rw [← Bool.not_or, Bool.not_eq_false'] at e
    exact e
  refine bd_ifRet (EvW.t (ew_or (et_cmp (ec_neI (ev_lenW T.b_len (ev_var (nm 4 rfl (.inl rfl) rfl rfl) rfl) ?_ rfl rfl rfl) (ev_lenL T.b_len (Ev.l (ev_var (nm 0 rfl (.inl rfl) rfl rfl) rfl)) rfl rfl rfl)) (nomark _ (by decide) (by decide))) fun hb0 => (ew_or1 (et_cmp (ec_neI (ev_add (ev_count (ev_var (nm 4 rfl (.inl rfl) rfl rfl) rfl) (ev_strW [77]) rfl rfl rfl) (ev_count (ev_var (nm 4 rfl (.inl rfl) rfl rfl) rfl) (ev_strW [84]) rfl rfl rfl)) (ev_lenW T.b_len (ev_var (nm 4 rfl (.inl rfl) rfl rfl) rfl) ?_ rfl rfl rfl)) (nomark _ (by decide) (by decide)))))) (fun e => bd_one (sd_ret ev_bl ?_)) fun e => ?_
  · omega
  · omega
  · show D.bl false = D.bl _
    unfold lookValue
    congr 1
    rcases Bool.or_eq_true_iff.mp e with e | e
    · rw [Bool.not_eq_true', decide_eq_false_iff_not] at e
      rw [decide_eq_false (show ¬ p.word.length = mine.length by omega)]
      simp
    · rw [Bool.not_eq_true', decide_eq_false_iff_not] at e
      rw [decide_eq_false (show ¬ p.word.count 77 + p.word.count 84 = p.word.length by omega)]
      simp
  obtain ⟨e2, e3⟩ := Bool.or_eq_false_iff.mp e
  rw [Bool.not_eq_false', decide_eq_true_eq] at e2 e3
  refine bd_one (sd_ret (ev_and (ev_call (c_shows_row T h h1 _ _ b1) (hr.mono (by decide)) (ea_cons (ev_var (nm 0 rfl (.inl rfl) rfl rfl) rfl) (ea_cons (ev_var (nm 1 rfl (.inl rfl) rfl rfl) rfl) (ea_cons (ev_var (nm 7 rfl (.inl rfl) rfl rfl) rfl) (ea_cons (ev_var (nm 8 rfl (.inl rfl) rfl rfl) rfl) ea_nil rfl) rfl) rfl) rfl) rfl (by decide) rfl rfl) fun hb0 => (ev_and1 (ev_cmp (ec_eqI (ev_var (nm 6 rfl (.inl rfl) rfl rfl) rfl) (ev_call (c_counted_value T b2 ?_) (hr.mono (by decide)) (ea_cons (ev_var (nm 7 rfl (.inl rfl) rfl rfl) rfl) (ea_cons (ev_var (nm 4 rfl (.inl rfl) rfl rfl) rfl) (ea_cons (ev_var (nm 5 rfl (.inl rfl) rfl rfl) rfl) ea_nil rfl) rfl) rfl) rfl (by decide) rfl rfl)) (nomark _ (by decide) (by decide))))) ?_)
  · intro hr
    have := row_of_shows hb0
    rw [List.length_dropLast]
    omega
  · show D.bl _ = D.bl _
    unfold lookValue
    rw [e1, decide_eq_true (show p.word.length = mine.length by omega), decide_eq_true (show p.word.count 77 + p.word.count 84 = p.word.length by omega)]
    simp
end
end Y
end S_F3

section S_F4
set_option maxHeartbeats 2000000
namespace Y
open PySem PySem.Spec PyProof.Rows L2
theorem side_eq {s t : Int} (h : s = 0 ∨ s = 1) (h' : t = 0 ∨ t = 1) : decide (sideW s = sideW t) = decide (s = t) := by
  rcases h with rfl | rfl <;> rcases h' with rfl | rfl <;> rfl
theorem side_off {s : Int} (h : s = 0 ∨ s = 1) : (if decide (sideW s = wMine) = true then (1 : Int) else 0) = s := by
  rcases h with rfl | rfl <;> rfl
theorem half_filter_no {s t : Int} (h : ¬ s = t) (xs : List Int) (n : Nat) : (half s xs n).filter (fun c => decide (c.2.1 = t)) = [] :=
  List.filter_eq_nil_iff.mpr fun c hc => by
    rw [half_side hc]
    simp [h]
theorem half_filter_yes {s : Int} (xs : List Int) (n : Nat) : (half s xs n).filter (fun c => decide (c.2.1 = s)) = half s xs n :=
  List.filter_eq_self.mpr fun c hc => by
    rw [half_side hc]
    simp
/-- the cards of a side, in deck order -/
def sideL (mine theirs : List Int) (s : Int) : List Cd := (orderL mine theirs).filter fun c => decide (c.2.1 = s)
theorem side_perm (mine theirs : List Int) : (sideL mine theirs 1).Perm (half 1 mine mine.length) ∧ (sideL mine theirs 0).Perm (half 0 theirs theirs.length) := by
  have h : (orderL mine theirs).Perm (cardsL mine theirs) := List.mergeSort_perm _ _
  refine ⟨?_, ?_⟩
  · have := h.filter fun c => decide (c.2.1 = 1)
    rw [cardsL, List.filter_append, half_filter_no (by decide), half_filter_yes, List.nil_append] at this
    exact this
  · have := h.filter fun c => decide (c.2.1 = 0)
    rw [cardsL, List.filter_append, half_filter_no (show ¬ (1 : Int) = 0 by decide), half_filter_yes, List.append_nil] at this
    exact this
theorem side_len {mine theirs : List Int} : (sideL mine theirs 1).length = mine.length ∧ (sideL mine theirs 0).length = theirs.length := by
  obtain ⟨h1, h2⟩ := side_perm mine theirs
  rw [h1.length_eq, h2.length_eq, half_len, half_len]
  exact ⟨rfl, rfl⟩
/-- the indexes of a side's cards, in deck order -/
def ordS (mine theirs : List Int) (s : Int) : List Int := (sideL mine theirs s).map fun c => c.2.2
def prt (n : Nat) (r : Int) (i : Nat) : Int := if (n : Int) ≤ (i : Int) + r then (i : Int) + r - (n : Int) else (i : Int) + r
def rotP (mo tos : List Int) (n : Nat) (r : Int) : Nat → List Int
  | 0 => List.replicate n 0
  | i + 1 => (rotP mo tos n r i).set (mo.getD i 0).toNat (tos.getD (prt n r i).toNat 0)
theorem rotP_len (mo tos : List Int) (n : Nat) (r : Int) : ∀ i, (rotP mo tos n r i).length = n
  | 0 => by simp [rotP]
  | i + 1 => by rw [rotP, List.length_set, rotP_len mo tos n r i]
def rotL (mine theirs : List Int) (r : Int) : List Int := rotP (ordS mine theirs 1) (ordS mine theirs 0) mine.length r mine.length
theorem ord_len {mine theirs : List Int} : (ordS mine theirs 1).length = mine.length ∧ (ordS mine theirs 0).length = theirs.length := by
  rw [ordS, ordS, List.length_map, List.length_map]
  exact side_len
theorem ord_ix {mine theirs : List Int} (h : mine.length = theirs.length) {s : Int} {x : Int} (hx : x ∈ ordS mine theirs s) : 0 ≤ x ∧ x < mine.length := by
  obtain ⟨c, hc, rfl⟩ := List.mem_map.mp hx
  exact order_ix h (List.mem_filter.mp hc).1
theorem getD_mem {α : Type} {xs : List α} {i : Nat} {z : α} (h : i < xs.length) : xs.getD i z ∈ xs := by
  rw [List.getD_eq_getElem?_getD, List.getElem?_eq_getElem h]
  exact List.getElem_mem h
section
variable {P : Program} {w : World} {K : PySem.W.Frag} {mg : Str → Option Value} {base : Heap}
theorem c_side_levels (T : Tx K mg) {mine theirs : List Int} (h : mine.length = theirs.length) (h1 : mine.length ≤ 1000) {s : Int} (hs : s = 0 ∨ s = 1) : Cal P w K mg base 3 "side_levels" [lI mine, lI theirs, dW (sideW s)] (lI (levelsL mine theirs s)) := by
  have h2 : theirs.length ≤ 1000 := by omega
  refine cal_of T.d_side_levels sc_side_levels (fun _ _ _ _ _ _ us hl => match us, hl with | [_, _, _], _ => rfl) rfl fun Y hr => ?_
  have nd := sc_side_levels.nd
  show Bd _ [.val _, .val _, .val _, .any, .any, .any, .any, .any] _ _
  refine bd_seq1 (sd_asg (k := 3) nd rfl (.inl rfl) (ev_call (c_heights T h h1) (hr.mono (by decide)) (ea_cons (ev_var (nm 0 rfl (.inl rfl) rfl rfl) rfl) (ea_cons (ev_var (nm 1 rfl (.inl rfl) rfl rfl) rfl) ea_nil rfl) rfl) rfl (by decide) rfl rfl) rfl rfl (.inl rfl)) (bd_seq1 (sd_asgN (k := 4) nd rfl (.inl rfl) (EvN.cast (d' := (lvl (orderL mine theirs) s mine.length 0).map D.int) (evn_rep1 (EvN.l (evn_lst (ea_cons ev_int ea_nil rfl) (Nat.le_of_ble_eq_true rfl))) (ev_lenL T.b_len (Ev.l (ev_var (nm 0 rfl (.inl rfl) rfl rfl) rfl)) rfl rfl rfl) ?_ ?_) ?_) rfl rfl (.inl rfl)) ?_)
  · omega
  · omega
  · rw [Int.toNat_natCast]
    exact map_rep D.int 0 _
  refine bd_forT (fun i => [.val (lI mine), .val (lI theirs), .val (dW (sideW s)), .val (lI (heightsL mine theirs)), .own ((lvl (orderL mine theirs) s mine.length i).map D.int), .any, .any, .any]) (fun _ => True) PassesOwn.never rfl (by repeat (first | exact Wk.nil | refine Wk.any ?_ | refine Wk.same ?_ | refine Wk.frz ?_)) (ei_enum T.b_enumerate (ev_call (c_deck T h1 h2) (hr.mono (by decide)) (ea_cons (ev_var (nm 0 rfl (.inl rfl) rfl rfl) rfl) (ea_cons (ev_var (nm 1 rfl (.inl rfl) rfl rfl) rfl) ea_nil rfl) rfl) rfl (by decide) rfl rfl) rfl rfl rfl) trivial ?_ ?_ (fun _ => rfl)
  · intro i d hd _
    obtain ⟨c, hc, rfl⟩ := enum_get hd
    have hcm := List.mem_of_getElem? hc
    have hi := (List.getElem?_eq_some_iff.mp hc).1
    have hix := order_ix h hcm
    have hs2 := order_side hcm
    have hol := order_len mine theirs
    refine ⟨_, (eg_tup rfl (egs_cons (eg_name (k := 5) nd rfl (.inl rfl) (.inl rfl)) (egs_cons (eg_tup rfl (egs_cons (eg_name (k := 6) nd rfl (.inl rfl) (.inl rfl)) (egs_cons (eg_name (k := 7) nd rfl (.inl rfl) (.inl rfl)) egs_nil rfl) rfl) rfl rfl rfl) egs_nil rfl) rfl) rfl rfl rfl), ?_⟩
    refine bd_if [.val (lI mine), .val (lI theirs), .val (dW (sideW s)), .val (lI (heightsL mine theirs)), .own ((lvl (orderL mine theirs) s mine.length (i + 1)).map D.int), .any, .any, .any] (EvT.cast (et_cmp (ec_eqW (ev_var (nm 6 rfl (.inl rfl) rfl rfl) rfl) (ev_var (nm 2 rfl (.inl rfl) rfl rfl) rfl)) (nomark _ (by decide) (by decide))) (side_eq hs2 hs)) (fun e => ?_) (fun e => ?_) (bd_nil ⟨(by repeat (first | exact Wk.nil | refine Wk.any ?_ | refine Wk.same ?_ | refine Wk.frz ?_)), trivial⟩)
    · have e1 : c.2.1 = s := of_decide_eq_true e
      have hn : (i : Int) + s = ((i + s.toNat : Nat) : Int) := by omega
      refine bd_seq1 (sd_setM (k := 4) (nm 4 rfl (.inl rfl) rfl rfl) rfl (Ev.cast (d' := D.int (hgt (orderL mine theirs) (i + s.toNat))) (ev_ixG (0 : Int) (Ev.l (ev_var (nm 3 rfl (.inl rfl) rfl rfl) rfl)) (ev_add (ev_var (nm 5 rfl (.inl rfl) rfl rfl) rfl) (ev_intB T.b_int (ev_cmp (ec_eqW (ev_var (nm 2 rfl (.inl rfl) rfl rfl) rfl) (ev_strW [109, 105, 110, 101])) (nomark _ (by decide) (by decide))) rfl rfl rfl)) ?_ ?_ (fun _ _ => rfl)) ?_) (ev_var (nm 7 rfl (.inl rfl) rfl rfl) rfl) ?_ ?_ rfl rfl rfl rfl (fun _ => rfl)) (bd_nil ?_)
      · rw [side_off hs]
        omega
      · rw [side_off hs, heights_len]
        omega
      · rw [side_off hs, hn, Int.toNat_natCast, heights_get mine theirs (show i + s.toNat ≤ _ by omega)]
      · exact hix.1
      · rw [lvl_len]
        exact hix.2
      · rw [lvl_yes hc e1]
        exact (by repeat (first | exact Wk.nil | refine Wk.any ?_ | refine Wk.same ?_ | refine Wk.frz ?_))
    · refine bd_nil ?_
      rw [lvl_no hc (of_decide_eq_false e)]
      exact (by repeat (first | exact Wk.nil | refine Wk.any ?_ | refine Wk.same ?_ | refine Wk.frz ?_))
  · intro _
    rw [List.length_map, List.length_zipIdx, List.length_map]
    refine bd_wk (ρ' := [.val (lI mine), .val (lI theirs), .val (dW (sideW s)), .val (lI (heightsL mine theirs)), .val (lI (levelsL mine theirs s)), .any, .any, .any]) (by repeat (first | exact Wk.nil | refine Wk.any ?_ | refine Wk.same ?_ | refine Wk.frz ?_)) ?_
    refine bd_one (sd_ret (ev_var (nm 4 rfl (.inl rfl) rfl rfl) rfl) ?_)
    rfl
def rowL (mine theirs : List Int) : List Int := (levelsL mine theirs 1).mergeSort leI
theorem c_row_of (T : Tx K mg) {mine theirs : List Int} (h : mine.length = theirs.length) (h1 : mine.length ≤ 1000) : CalN P w K mg base 4 "row_of" [lI mine, lI theirs] ((rowL mine theirs).map D.int) := by
  refine caln_of T.d_row_of sc_row_of (fun _ _ _ _ _ _ us hl => match us, hl with | [_, _], _ => rfl) rfl fun Y hr => ?_
  have nd := sc_row_of.nd
  show Bd _ [.val _, .val _] _ _
  refine bd_one (sd_retN (evn_sortedI hr.units T.b_sorted (Ev.l (ev_call (c_side_levels T h h1 (s := 1) (.inr rfl)) (hr.mono (by decide)) (ea_cons (ev_var (nm 0 rfl (.inl rfl) rfl rfl) rfl) (ea_cons (ev_var (nm 1 rfl (.inl rfl) rfl rfl) rfl) (ea_cons (ev_strW [109, 105, 110, 101]) ea_nil rfl) rfl) rfl) rfl (by decide) rfl rfl)) rfl rfl rfl) ?_)
  rfl
theorem c_rotation (T : Tx K mg) {mine theirs : List Int} (h : mine.length = theirs.length) (h1 : mine.length ≤ 1000) {r : Int} (r0 : 0 ≤ r) (r1 : r ≤ mine.length) : CalN P w K mg base 2 "rotation" [lI mine, lI theirs, .int r] ((rotL mine theirs r).map D.int) := by
  have h2 : theirs.length ≤ 1000 := by omega
  have hol := order_len mine theirs
  refine caln_of T.d_rotation sc_rotation (fun _ _ _ _ _ _ us hl => match us, hl with | [_, _, _], _ => rfl) rfl fun Y hr => ?_
  have nd := sc_rotation.nd
  show Bd _ [.val _, .val _, .val _, .any, .any, .any, .any, .any, .any, .any, .any] _ _
  refine bd_seq1 (sd_expr (ev_call (c_check_hands T h) (hr.mono (by decide)) (ea_cons (ev_var (nm 0 rfl (.inl rfl) rfl rfl) rfl) (ea_cons (ev_var (nm 1 rfl (.inl rfl) rfl rfl) rfl) ea_nil rfl) rfl) rfl (by decide) rfl rfl) rfl rfl) (bd_seq1 (sd_asg (k := 3) nd rfl (.inl rfl) (ev_lenL T.b_len (Ev.l (ev_var (nm 0 rfl (.inl rfl) rfl rfl) rfl)) rfl rfl rfl) rfl rfl (.inl rfl)) (bd_ifRet (EvW.t (ew_or (et_cmp (ec_lt (ev_var (nm 2 rfl (.inl rfl) rfl rfl) rfl) ev_int) (nomark _ (by decide) (by decide))) fun hb0 => (ew_or1 (et_cmp (ec_gt (ev_var (nm 2 rfl (.inl rfl) rfl rfl) rfl) (ev_var (nm 3 rfl (.inl rfl) rfl rfl) rfl)) (nomark _ (by decide) (by decide)))))) (fun e => ?_) fun _ => ?_))
  · simp at e
    omega
  refine bd_seq1 (sd_asg (k := 4) nd rfl (.inl rfl) (ev_call (c_deck T h1 h2) (hr.mono (by decide)) (ea_cons (ev_var (nm 0 rfl (.inl rfl) rfl rfl) rfl) (ea_cons (ev_var (nm 1 rfl (.inl rfl) rfl rfl) rfl) ea_nil rfl) rfl) rfl (by decide) rfl rfl) rfl rfl (.inl rfl)) ?_
  refine bd_seq1 (sd_setLcVE (k := 5) 6 _ _ _ ((ordS mine theirs 1).map D.int) rfl nd rfl rfl (sw_true rfl rfl rfl (by decide +kernel)) (ei_list (ev_var (nm 4 rfl (.inl rfl) rfl rfl) rfl)) ?_ (blkOk_by (N := N_rotation) (sc := defScope s_rotation) (by decide +kernel)) (fun _ _ _ _ _ => pg_name nd rfl (.inl rfl) (.inr rfl)) (fun x hx s H C cl fp => ets_one (et_cmp (ec_eqW (ev_ixT (ev_var (nm 6 rfl (.inl rfl) rfl rfl) rfl) ev_int rfl (fun _ _ => rfl)) (ev_strW [109, 105, 110, 101])) (nomark _ (by decide) (by decide)))) (fun x hx hcx s H C cl fp => (ev_ixT (ev_var (nm 6 rfl (.inl rfl) rfl rfl) rfl) ev_int rfl (fun _ _ => rfl))) ?_ rfl (fun _ => rfl)) ?_
  · omega
  · rw [ordS, sideL, List.map_map]
    refine congrArg _ (List.filter_congr fun c hc => ?_)
    exact side_mine (order_side hc)
  refine bd_seq1 (sd_setLcVE (k := 7) 6 _ _ _ ((ordS mine theirs 0).map D.int) rfl nd rfl rfl (sw_true rfl rfl rfl (by decide +kernel)) (ei_list (ev_var (nm 4 rfl (.inl rfl) rfl rfl) rfl)) ?_ (blkOk_by (N := N_rotation) (sc := defScope s_rotation) (by decide +kernel)) (fun _ _ _ _ _ => pg_name nd rfl (.inl rfl) (.inr rfl)) (fun x hx s H C cl fp => ets_one (et_cmp (ec_eqW (ev_ixT (ev_var (nm 6 rfl (.inl rfl) rfl rfl) rfl) ev_int rfl (fun _ _ => rfl)) (ev_strW [116, 104, 101, 105, 114, 115])) (nomark _ (by decide) (by decide)))) (fun x hx hcx s H C cl fp => (ev_ixT (ev_var (nm 6 rfl (.inl rfl) rfl rfl) rfl) ev_int rfl (fun _ _ => rfl))) ?_ rfl (fun _ => rfl)) ?_
  · omega
  · rw [ordS, sideL, List.map_map]
    refine congrArg _ (List.filter_congr fun c hc => ?_)
    exact side_theirs _
  refine bd_seq1 (sd_asgN (k := 8) nd rfl (.inl rfl) (EvN.cast (d' := (rotP (ordS mine theirs 1) (ordS mine theirs 0) mine.length r 0).map D.int) (evn_rep1 (EvN.l (evn_lst (ea_cons ev_int ea_nil rfl) (Nat.le_of_ble_eq_true rfl))) (ev_var (nm 3 rfl (.inl rfl) rfl rfl) rfl) ?_ ?_) ?_) rfl rfl (.inl rfl)) ?_
  · omega
  · omega
  · rw [Int.toNat_natCast]
    exact map_rep D.int 0 _
  refine bd_for 9 (fun i => [.val (lI mine), .val (lI theirs), .val (.int r), .val (.int (mine.length : Int)), .val (dL eC (orderL mine theirs)), .val (lI (ordS mine theirs 1)), .any, .val (lI (ordS mine theirs 0)), .own ((rotP (ordS mine theirs 1) (ordS mine theirs 0) mine.length r i).map D.int), .any, .any]) (fun _ => True) PassesOwn.never rfl nd rfl (.inl rfl) (by repeat (first | exact Wk.nil | refine Wk.any ?_ | refine Wk.same ?_ | refine Wk.frz ?_)) (ei_rng1 T.b_range (ev_var (nm 3 rfl (.inl rfl) rfl rfl) rfl) ?_ ?_ rfl rfl rfl) trivial ?_ ?_ (.inl rfl) (fun _ => rfl)
  · omega
  · omega
  · intro i d hd _
    obtain ⟨hi, rfl⟩ := rng_get hd
    rw [Int.toNat_natCast] at hi
    obtain ⟨l1, l0⟩ := ord_len (mine := mine) (theirs := theirs)
    have hm := ord_ix h (getD_mem (z := 0) (show i < (ordS mine theirs 1).length by omega))
    have pr : 0 ≤ prt mine.length r i ∧ prt mine.length r i < mine.length := by
      unfold prt
      split <;> omega
    refine bd_seq1 (sd_asg (k := 10) nd rfl (.inl rfl) (ev_add (ev_var (nm 9 rfl (.inl rfl) rfl rfl) rfl) (ev_var (nm 2 rfl (.inl rfl) rfl rfl) rfl)) rfl rfl (.inl rfl)) ?_
    refine bd_if [.val (lI mine), .val (lI theirs), .val (.int r), .val (.int (mine.length : Int)), .val (dL eC (orderL mine theirs)), .val (lI (ordS mine theirs 1)), .any, .val (lI (ordS mine theirs 0)), .own ((rotP (ordS mine theirs 1) (ordS mine theirs 0) mine.length r i).map D.int), .val (dN i), .val (.int (prt mine.length r i))] (et_cmp (ec_ge (ev_var (nm 10 rfl (.inl rfl) rfl rfl) rfl) (ev_var (nm 3 rfl (.inl rfl) rfl rfl) rfl)) (nomark _ (by decide) (by decide))) (fun e => bd_seq1 (sd_asg (k := 10) nd rfl (.inl rfl) (ev_sub (ev_var (nm 10 rfl (.inl rfl) rfl rfl) rfl) (ev_var (nm 3 rfl (.inl rfl) rfl rfl) rfl)) rfl rfl (.inl rfl)) (bd_nil ?_)) (fun e => bd_nil ?_) ?_
    · rw [prt, if_pos (of_decide_eq_true e)]
      exact (by repeat (first | exact Wk.nil | refine Wk.any ?_ | refine Wk.same ?_ | refine Wk.frz ?_))
    · rw [prt, if_neg (of_decide_eq_false e)]
      exact (by repeat (first | exact Wk.nil | refine Wk.any ?_ | refine Wk.same ?_ | refine Wk.frz ?_))
    · refine bd_seq1 (sd_setM (k := 8) (nm 8 rfl (.inl rfl) rfl rfl) rfl (ev_ixG (0 : Int) (Ev.l (ev_var (nm 7 rfl (.inl rfl) rfl rfl) rfl)) (ev_var (nm 10 rfl (.inl rfl) rfl rfl) rfl) ?_ ?_ (fun _ _ => rfl)) (ev_ixN (0 : Int) (Ev.l (ev_var (nm 5 rfl (.inl rfl) rfl rfl) rfl)) (ev_var (nm 9 rfl (.inl rfl) rfl rfl) rfl) ?_ (fun _ _ => rfl)) ?_ ?_ rfl rfl rfl rfl (fun _ => rfl)) (bd_nil ⟨(by repeat (first | exact Wk.nil | refine Wk.any ?_ | refine Wk.same ?_ | refine Wk.frz ?_)), trivial⟩)
      · exact pr.1
      · omega
      · omega
      · exact hm.1
      · rw [rotP_len]
        exact hm.2
  · intro _
    rw [List.length_map, List.length_range, Int.toNat_natCast]
    refine bd_one (sd_retO (nm 8 rfl (.inl rfl) rfl rfl) rfl ?_)
    rfl
def leastL (mine theirs : List Int) : Int := maxL (heightsL mine theirs)
def mostL (mine theirs : List Int) : Int := (mine.length : Int) + minL (heightsL mine theirs)
theorem c_least (T : Tx K mg) {mine theirs : List Int} (h : mine.length = theirs.length) (h1 : mine.length ≤ 1000) : Cal P w K mg base 4 "least" [lI mine, lI theirs] (.int (leastL mine theirs)) := by
  refine cal_of T.d_least sc_least (fun _ _ _ _ _ _ us hl => match us, hl with | [_, _], _ => rfl) rfl fun Y hr => ?_
  have nd := sc_least.nd
  show Bd _ [.val _, .val _] _ _
  refine bd_one (sd_ret (ev_call (c_peak T h h1) (hr.mono (by decide)) (ea_cons (ev_var (nm 0 rfl (.inl rfl) rfl rfl) rfl) (ea_cons (ev_var (nm 1 rfl (.inl rfl) rfl rfl) rfl) ea_nil rfl) rfl) rfl (by decide) rfl rfl) ?_)
  rfl
theorem c_most (T : Tx K mg) {mine theirs : List Int} (h : mine.length = theirs.length) (h1 : mine.length ≤ 1000) : Cal P w K mg base 4 "most" [lI mine, lI theirs] (.int (mostL mine theirs)) := by
  refine cal_of T.d_most sc_most (fun _ _ _ _ _ _ us hl => match us, hl with | [_, _], _ => rfl) rfl fun Y hr => ?_
  have nd := sc_most.nd
  show Bd _ [.val _, .val _] _ _
  refine bd_one (sd_ret (ev_add (ev_lenL T.b_len (Ev.l (ev_var (nm 0 rfl (.inl rfl) rfl rfl) rfl)) rfl rfl rfl) (ev_call (c_valley T h h1) (hr.mono (by decide)) (ea_cons (ev_var (nm 0 rfl (.inl rfl) rfl rfl) rfl) (ea_cons (ev_var (nm 1 rfl (.inl rfl) rfl rfl) rfl) ea_nil rfl) rfl) rfl (by decide) rfl rfl)) ?_)
  rfl
/-! ### words -/
def letters (ws : List Nat) : Prop := ∀ c ∈ ws, c = 77 ∨ c = 84
theorem c_check_letters (T : Tx K mg) {ws : List Nat} {m : Int} (h1 : ws.length ≤ 1000) (hl : letters ws) (hm : (ws.length : Int) ≤ m) : Cal P w K mg base 1 "check_letters" [dW ws, .int m] .non := by
  refine cal_of T.d_check_letters sc_check_letters (fun _ _ _ _ _ _ us hl => match us, hl with | [_, _], _ => rfl) rfl fun Y hr => ?_
  have nd := sc_check_letters.nd
  show Bd _ [.val _, .val _, .any] _ _
  refine bd_for 2 (fun i => [.val (dW ws), .val (.int m), .any]) (fun _ => True) PassesOwn.never rfl nd rfl (.inl rfl) (by repeat (first | exact Wk.nil | refine Wk.any ?_ | refine Wk.same ?_ | refine Wk.frz ?_)) (ei_rng1 T.b_range (ev_lenW T.b_len (ev_var (nm 0 rfl (.inl rfl) rfl rfl) rfl) ?_ rfl rfl rfl) ?_ ?_ rfl rfl rfl) trivial ?_ ?_ (.inl rfl) (fun _ => rfl)
  · omega
  · omega
  · omega
  · intro i d hd _
    obtain ⟨hi, rfl⟩ := rng_get hd
    rw [Int.toNat_natCast] at hi
    refine bd_ifRet (EvW.t (ew_and (et_cmp (ec_neW (ev_ixWN (ev_var (nm 0 rfl (.inl rfl) rfl rfl) rfl) (ev_var (nm 2 rfl (.inl rfl) rfl rfl) rfl) ?_ ?_ (fun _ _ => rfl)) (ev_strW [77])) (nomark _ (by decide) (by decide))) fun hb0 => (ew_and1 (et_cmp (ec_neW (ev_ixWN (ev_var (nm 0 rfl (.inl rfl) rfl rfl) rfl) (ev_var (nm 2 rfl (.inl rfl) rfl rfl) rfl) ?_ ?_ (fun _ _ => rfl)) (ev_strW [84])) (nomark _ (by decide) (by decide)))))) (fun e => ?_) fun _ => bd_nil ⟨(by repeat (first | exact Wk.nil | refine Wk.any ?_ | refine Wk.same ?_ | refine Wk.frz ?_)), trivial⟩
    · omega
    · exact hi
    · omega
    · exact hi
    · exfalso
      rcases hl _ (getD_mem (z := 0) hi) with q | q
      · rw [q] at e
        simp at e
      · rw [q] at e
        simp at e
  · intro _
    refine bd_ifRet (et_cmp (ec_gt (ev_lenW T.b_len (ev_var (nm 0 rfl (.inl rfl) rfl rfl) rfl) ?_ rfl rfl rfl) (ev_var (nm 1 rfl (.inl rfl) rfl rfl) rfl)) (nomark _ (by decide) (by decide))) (fun e => ?_) fun _ => bd_nil rfl
    · omega
    · simp at e
      omega
theorem c_check_word (T : Tx K mg) {ws : List Nat} {m : Int} (h1 : ws.length ≤ 1000) (hl : letters ws) (hm : (ws.length : Int) = m) : Cal P w K mg base 2 "check_word" [dW ws, .int m] .non := by
  refine cal_of T.d_check_word sc_check_word (fun _ _ _ _ _ _ us hl => match us, hl with | [_, _], _ => rfl) rfl fun Y hr => ?_
  have nd := sc_check_word.nd
  show Bd _ [.val _, .val _] _ _
  refine bd_seq1 (sd_expr (ev_call (c_check_letters T h1 hl (by omega)) (hr.mono (by decide)) (ea_cons (ev_var (nm 0 rfl (.inl rfl) rfl rfl) rfl) (ea_cons (ev_var (nm 1 rfl (.inl rfl) rfl rfl) rfl) ea_nil rfl) rfl) rfl (by decide) rfl rfl) rfl rfl) (bd_ifRet (et_cmp (ec_lt (ev_lenW T.b_len (ev_var (nm 0 rfl (.inl rfl) rfl rfl) rfl) ?_ rfl rfl rfl) (ev_var (nm 1 rfl (.inl rfl) rfl rfl) rfl)) (nomark _ (by decide) (by decide))) (fun e => ?_) fun _ => bd_nil rfl)
  · omega
  · simp at e
    omega
theorem c_lays (T : Tx K mg) {ws : List Nat} (h1 : ws.length ≤ 1000) : Cal P w K mg base 1 "lays_before_last" [dW ws] (Y.e2 ((ws.dropLast.count 77 : Int), (ws.dropLast.count 84 : Int))) := by
  refine cal_of T.d_lays_before_last sc_lays_before_last (fun _ _ _ _ _ _ us hl => match us, hl with | [_], _ => rfl) rfl fun Y hr => ?_
  have nd := sc_lays_before_last.nd
  show Bd _ [.val _, .any] _ _
  refine bd_seq1 (sd_asg (k := 1) nd rfl (.inl rfl) (Ev.cast (d' := dW ws.dropLast) (ev_sliceW (ev_var (nm 0 rfl (.inl rfl) rfl rfl) rfl) ep_none (ep_some (ev_neg ev_int)) ?_) ?_) rfl rfl (.inl rfl)) (bd_one (sd_ret (ev_tup (ea_cons (ev_count (ev_var (nm 1 rfl (.inl rfl) rfl rfl) rfl) (ev_strW [77]) rfl rfl rfl) (ea_cons (ev_count (ev_var (nm 1 rfl (.inl rfl) rfl rfl) rfl) (ev_strW [84]) rfl rfl rfl) ea_nil rfl) rfl) (Nat.le_of_ble_eq_true rfl)) ?_))
  · omega
  · rw [cut_last]
  · rfl
theorem c_entry_value (T : Tx K mg) {row : List Int} {a b : Nat} (ha : row.length ≠ 0 → a < row.length) : Cal P w K mg base 1 "entry_value" [lI row, .int (a : Int), .int (b : Int)] (.int (if row.length = 0 then 0 else (b : Int) + 1 + row.getD a 0)) := by
  refine cal_of T.d_entry_value sc_entry_value (fun _ _ _ _ _ _ us hl => match us, hl with | [_, _, _], _ => rfl) rfl fun Y hr => ?_
  have nd := sc_entry_value.nd
  show Bd _ [.val _, .val _, .val _] _ _
  refine bd_ifRet (et_not (et_list (Ev.l (ev_var (nm 0 rfl (.inl rfl) rfl rfl) rfl)) (fun _ => rfl))) (fun e => bd_one (sd_ret ev_int ?_)) fun e => bd_one (sd_ret (ev_add (ev_add (ev_var (nm 2 rfl (.inl rfl) rfl rfl) rfl) ev_int) (ev_ixG (0 : Int) (Ev.l (ev_var (nm 0 rfl (.inl rfl) rfl rfl) rfl)) (ev_var (nm 1 rfl (.inl rfl) rfl rfl) rfl) ?_ ?_ (fun _ _ => rfl))) ?_)
  · have : row.length = 0 := by simpa using e
    show D.int 0 = _
    rw [if_pos this]
  · omega
  · have : row.length ≠ 0 := by simpa using e
    have := ha this
    omega
  · have : row.length ≠ 0 := by simpa using e
    rw [if_neg this, Int.toNat_natCast]
end
end Y
end S_F4

section S_M1
set_option maxHeartbeats 2000000
namespace Y
open PySem PySem.Spec PyProof.Rows L2
/-! ### the walk, level by level -/
theorem take_cons {α : Type} {xs : List α} {i : Nat} {x : α} (h : xs[i]? = some x) : xs.take (i + 1) = xs.take i ++ [x] := take_succ_of h
theorem half_nodup (s : Int) (xs : List Int) (n : Nat) : ((half s xs n).map fun c => c.2).Nodup := by
  unfold half
  rw [List.map_map]
  refine List.Pairwise.map _ (fun a b hab h => hab ?_) List.nodup_range
  have : (a : Int) = (b : Int) := congrArg (·.2) h
  omega
theorem order_nodup (mine theirs : List Int) : ((orderL mine theirs).map fun c => c.2).Nodup := by
  have h : ((orderL mine theirs).map fun c => c.2).Perm ((cardsL mine theirs).map fun c => c.2) := (List.mergeSort_perm _ _).map _
  refine h.nodup_iff.mpr ?_
  unfold cardsL
  rw [List.map_append]
  refine List.nodup_append.mpr ⟨half_nodup _ _ _, half_nodup _ _ _, fun a ha b hb e => ?_⟩
  obtain ⟨c, hc, rfl⟩ := List.mem_map.mp ha
  obtain ⟨d, hd, rfl⟩ := List.mem_map.mp hb
  have h1 := half_side hc
  have h2 := half_side hd
  rw [e] at h1
  omega
theorem order_inj {mine theirs : List Int} {i j : Nat} {c d : Cd} (h1 : (orderL mine theirs)[i]? = some c) (h2 : (orderL mine theirs)[j]? = some d) (h : c.2 = d.2) : i = j := by
  have hn := order_nodup mine theirs
  have hi := (List.getElem?_eq_some_iff.mp h1).1
  have hj := (List.getElem?_eq_some_iff.mp h2).1
  refine (List.getElem?_inj (by rw [List.length_map]; exact hi) hn).mp ?_
  rw [List.getElem?_map, List.getElem?_map, h1, h2]
  exact congrArg some h
theorem lvl_keep {mine theirs : List Int} (hl : mine.length = theirs.length) {i : Nat} {c : Cd} (hc : (orderL mine theirs)[i]? = some c) : ∀ j, i < j → j ≤ (orderL mine theirs).length → (lvl (orderL mine theirs) c.2.1 mine.length j).getD c.2.2.toNat 0 = hgt (orderL mine theirs) (i + c.2.1.toNat)
  | 0, h, _ => by omega
  | j + 1, h, hj1 => by
    have hcm := order_ix hl (List.mem_of_getElem? hc)
    by_cases hj : i = j
    · subst hj
      rw [lvl_yes hc rfl, List.getD_eq_getElem?_getD, List.getElem?_set_self (by rw [lvl_len]; omega)]
      rfl
    · have ih := lvl_keep hl hc j (by omega) (by omega)
      obtain ⟨d, hd⟩ : ∃ d, (orderL mine theirs)[j]? = some d := ⟨_, List.getElem?_eq_getElem (by omega)⟩
      by_cases hs : d.2.1 = c.2.1
      · rw [lvl_yes hd hs]
        have hdm := order_ix hl (List.mem_of_getElem? hd)
        have hne : d.2.2.toNat ≠ c.2.2.toNat := fun e => hj (order_inj hc hd (Prod.ext hs.symm (by omega)))
        rw [List.getD_eq_getElem?_getD, List.getElem?_set_ne hne, ← List.getD_eq_getElem?_getD]
        exact ih
      · rw [lvl_no hd hs]
        exact ih
theorem level_at {mine theirs : List Int} (hl : mine.length = theirs.length) {i : Nat} {c : Cd} (hc : (orderL mine theirs)[i]? = some c) {s : Int} (hs : c.2.1 = s) : (levelsL mine theirs s).getD c.2.2.toNat 0 = hgt (orderL mine theirs) (i + s.toNat) := by
  subst hs
  exact lvl_keep hl hc _ (List.getElem?_eq_some_iff.mp hc).1 (Nat.le_refl _)
theorem lev_len (mine theirs : List Int) (s : Int) : (levelsL mine theirs s).length = mine.length := lvl_len _ _ _ _
/-- the height by counting -/
def nS (cs : List Cd) (s : Int) (i : Nat) : Nat := ((cs.take i).filter fun c => decide (c.2.1 = s)).length
theorem nS_yes {cs : List Cd} {s : Int} {i : Nat} {c : Cd} (h : cs[i]? = some c) (hs : c.2.1 = s) : nS cs s (i + 1) = nS cs s i + 1 := by
  unfold nS
  rw [take_cons h, List.filter_append, List.length_append]
  simp [hs]
theorem nS_no {cs : List Cd} {s : Int} {i : Nat} {c : Cd} (h : cs[i]? = some c) (hs : ¬ c.2.1 = s) : nS cs s (i + 1) = nS cs s i := by
  unfold nS
  rw [take_cons h, List.filter_append, List.length_append]
  simp [hs]
theorem hgt_cnt {mine theirs : List Int} : ∀ i, i ≤ (orderL mine theirs).length → hgt (orderL mine theirs) i = (nS (orderL mine theirs) 0 i : Int) - nS (orderL mine theirs) 1 i
  | 0, _ => by simp [hgt, nS]
  | i + 1, h => by
    obtain ⟨c, hc⟩ : ∃ c, (orderL mine theirs)[i]? = some c := ⟨_, List.getElem?_eq_getElem (by omega)⟩
    rw [hgt_succ hc, hgt_cnt i (by omega), stepC]
    rcases order_side (List.mem_of_getElem? hc) with hs | hs
    · rw [nS_yes hc hs, nS_no hc (show ¬ c.2.1 = 1 by omega), if_pos hs]
      omega
    · rw [nS_yes hc hs, nS_no hc (show ¬ c.2.1 = 0 by omega), if_neg (by omega)]
      omega
theorem hgt_end {mine theirs : List Int} (hl : mine.length = theirs.length) : hgt (orderL mine theirs) (orderL mine theirs).length = 0 := by
  obtain ⟨h1, h0⟩ := side_len (mine := mine) (theirs := theirs)
  rw [hgt_cnt _ (Nat.le_refl _)]
  unfold nS
  rw [List.take_length]
  show ((sideL mine theirs 0).length : Int) - ((sideL mine theirs 1).length : Int) = 0
  omega
/-! ### queues of theirs, by level -/
def wQ (cs : List Cd) (lev : List Int) (i : Nat) (z : Int) : List Int := ((cs.take i).filter fun c => decide (c.2.1 = 0 ∧ lev.getD c.2.2.toNat 0 = z)).map fun c => c.2.2
def cM (cs : List Cd) (lev : List Int) (i : Nat) (z : Int) : Nat := ((cs.take i).filter fun c => decide (c.2.1 = 1 ∧ lev.getD c.2.2.toNat 0 = z)).length
theorem wQ_yes {cs : List Cd} {lev : List Int} {i : Nat} {c : Cd} (h : cs[i]? = some c) (hs : c.2.1 = 0) : wQ cs lev (i + 1) = pushQ (wQ cs lev i) (lev.getD c.2.2.toNat 0) c.2.2 := by
  funext z
  unfold wQ pushQ
  rw [take_cons h, List.filter_append, List.map_append]
  by_cases hz : z = lev.getD c.2.2.toNat 0
  · rw [if_pos hz, hz, List.filter_cons_of_pos (by simp [hs])]
    rfl
  · rw [if_neg hz, List.filter_cons_of_neg (by simp [hs]; exact fun e => hz e.symm)]
    simp
theorem wQ_no {cs : List Cd} {lev : List Int} {i : Nat} {c : Cd} (h : cs[i]? = some c) (hs : ¬ c.2.1 = 0) : wQ cs lev (i + 1) = wQ cs lev i := by
  funext z
  unfold wQ
  rw [take_cons h, List.filter_append, List.map_append, List.filter_cons_of_neg (by simp [hs])]
  simp
theorem cM_yes {cs : List Cd} {lev : List Int} {i : Nat} {c : Cd} (z : Int) (h : cs[i]? = some c) (hs : c.2.1 = 1) : cM cs lev (i + 1) z = if z = lev.getD c.2.2.toNat 0 then cM cs lev i z + 1 else cM cs lev i z := by
  unfold cM
  rw [take_cons h, List.filter_append, List.length_append]
  by_cases hz : z = lev.getD c.2.2.toNat 0
  · rw [if_pos hz, List.filter_cons_of_pos (by simp [hs, hz])]
    rfl
  · rw [if_neg hz, List.filter_cons_of_neg (by simp [hs]; exact fun e => hz e.symm)]
    rfl
theorem cM_no {cs : List Cd} {lev : List Int} {i : Nat} {c : Cd} (z : Int) (h : cs[i]? = some c) (hs : ¬ c.2.1 = 1) : cM cs lev (i + 1) z = cM cs lev i z := by
  unfold cM
  rw [take_cons h, List.filter_append, List.length_append, List.filter_cons_of_neg (by simp [hs])]
  rfl
theorem cM_mono {cs : List Cd} {lev : List Int} {i j : Nat} (z : Int) (h : i ≤ j) : cM cs lev i z ≤ cM cs lev j z := by
  unfold cM
  refine (List.Sublist.filter _ ?_).length_le
  have : cs.take i = (cs.take j).take i := by rw [List.take_take, Nat.min_eq_left h]
  rw [this]
  exact List.take_sublist _ _
theorem balance {mine theirs : List Int} (hl : mine.length = theirs.length) (z : Int) : ∀ i, i ≤ (orderL mine theirs).length →
    ((wQ (orderL mine theirs) (levelsL mine theirs 0) i z).length : Int) - cM (orderL mine theirs) (levelsL mine theirs 1) i z = (if z < hgt (orderL mine theirs) i then 1 else 0) - (if z < 0 then 1 else 0)
  | 0, _ => by
    simp [wQ, cM, hgt]
  | i + 1, h => by
    obtain ⟨c, hc⟩ : ∃ c, (orderL mine theirs)[i]? = some c := ⟨_, List.getElem?_eq_getElem (by omega)⟩
    have ih := balance hl z i (by omega)
    rw [hgt_succ hc, stepC]
    rcases order_side (List.mem_of_getElem? hc) with hs | hs
    · have hv := level_at hl hc hs
      have h00 : (0 : Int).toNat = 0 := rfl
      rw [h00, Nat.add_zero] at hv
      rw [wQ_yes hc hs, cM_no z hc (by omega), if_pos hs, hv]
      unfold pushQ
      by_cases hz : z = hgt (orderL mine theirs) i
      · rw [if_pos hz, ← hz, List.length_append, if_pos (by omega)]
        rw [← hz, if_neg (by omega)] at ih
        simp only [List.length_cons, List.length_nil]
        omega
      · rw [if_neg hz, ih]
        have e1 : z < hgt (orderL mine theirs) i + 1 ↔ z < hgt (orderL mine theirs) i := by omega
        simp only [e1]
    · have hv := level_at hl hc hs
      have h11 : (1 : Int).toNat = 1 := rfl
      have e0 : (if c.2.1 = 0 then (1 : Int) else -1) = -1 := if_neg (by omega)
      rw [h11, hgt_succ hc, stepC, e0] at hv
      rw [wQ_no hc (by omega), cM_yes z hc hs, e0, hv]
      by_cases hz : z = hgt (orderL mine theirs) i + -1
      · rw [if_pos hz, if_neg (by omega)]
        rw [if_pos (by omega)] at ih
        omega
      · rw [if_neg hz, ih]
        have e1 : z < hgt (orderL mine theirs) i + -1 ↔ z < hgt (orderL mine theirs) i := by omega
        simp only [e1]
/-- a queue isn't empty when a mate is wanted -/
theorem mate_room {mine theirs : List Int} (hl : mine.length = theirs.length) {i : Nat} {c : Cd} (hc : (orderL mine theirs)[i]? = some c) (hs : c.2.1 = 1) :
    cM (orderL mine theirs) (levelsL mine theirs 1) i ((levelsL mine theirs 1).getD c.2.2.toNat 0) < (wQ (orderL mine theirs) (levelsL mine theirs 0) (orderL mine theirs).length ((levelsL mine theirs 1).getD c.2.2.toNat 0)).length := by
  have hi := (List.getElem?_eq_some_iff.mp hc).1
  have hb := balance hl ((levelsL mine theirs 1).getD c.2.2.toNat 0) _ (Nat.le_refl _)
  rw [hgt_end hl] at hb
  have h1 := cM_yes (lev := levelsL mine theirs 1) ((levelsL mine theirs 1).getD c.2.2.toNat 0) hc hs
  rw [if_pos rfl] at h1
  have h2 := cM_mono (cs := orderL mine theirs) (lev := levelsL mine theirs 1) ((levelsL mine theirs 1).getD c.2.2.toNat 0) (show i + 1 ≤ (orderL mine theirs).length by omega)
  omega
/-- the mates by level -/
def mtP (cs : List Cd) (my : List Int) (Q : Int → List Int) (n : Nat) : Nat → List Int
  | 0 => List.replicate n 0
  | i + 1 => if (cs.getD i (0, 0, 0)).2.1 = 1 then (mtP cs my Q n i).set (cs.getD i (0, 0, 0)).2.2.toNat ((Q (my.getD (cs.getD i (0, 0, 0)).2.2.toNat 0)).getD (cM cs my i (my.getD (cs.getD i (0, 0, 0)).2.2.toNat 0)) 0) else mtP cs my Q n i
theorem mtP_yes {cs : List Cd} {my : List Int} {Q : Int → List Int} {n i : Nat} {c : Cd} (h : cs[i]? = some c) (hs : c.2.1 = 1) : mtP cs my Q n (i + 1) = (mtP cs my Q n i).set c.2.2.toNat ((Q (my.getD c.2.2.toNat 0)).getD (cM cs my i (my.getD c.2.2.toNat 0)) 0) := by
  show (if (cs.getD i (0, 0, 0)).2.1 = 1 then _ else _) = _
  rw [getD_of h, if_pos hs]
theorem mtP_no {cs : List Cd} {my : List Int} {Q : Int → List Int} {n i : Nat} {c : Cd} (h : cs[i]? = some c) (hs : ¬ c.2.1 = 1) : mtP cs my Q n (i + 1) = mtP cs my Q n i := by
  show (if (cs.getD i (0, 0, 0)).2.1 = 1 then _ else _) = _
  rw [getD_of h, if_neg hs]
theorem mtP_len (cs : List Cd) (my : List Int) (Q : Int → List Int) (n : Nat) : ∀ i, (mtP cs my Q n i).length = n
  | 0 => by simp [mtP]
  | i + 1 => by
    unfold mtP
    split
    · rw [List.length_set, mtP_len cs my Q n i]
    · exact mtP_len cs my Q n i
def matesL (mine theirs : List Int) : List Int :=
  mtP (orderL mine theirs) (levelsL mine theirs 1) (wQ (orderL mine theirs) (levelsL mine theirs 0) (orderL mine theirs).length) mine.length (orderL mine theirs).length
theorem drop_cons {xs : List Int} {k : Nat} (h : k < xs.length) : xs.drop k = xs.getD k 0 :: xs.drop (k + 1) := by
  rw [List.drop_eq_getElem_cons h, List.getD_eq_getElem?_getD, List.getElem?_eq_getElem h]
  rfl
/-- what stands in the queues after i cards -/
def rQ (mine theirs : List Int) (i : Nat) : Int → List Int := fun z => (wQ (orderL mine theirs) (levelsL mine theirs 0) (orderL mine theirs).length z).drop (cM (orderL mine theirs) (levelsL mine theirs 1) i z)
theorem rQ_yes {mine theirs : List Int} {i : Nat} {c : Cd} (hc : (orderL mine theirs)[i]? = some c) (hs : c.2.1 = 1) : rQ mine theirs (i + 1) = popQ (rQ mine theirs i) ((levelsL mine theirs 1).getD c.2.2.toNat 0) := by
  funext z
  unfold rQ popQ
  rw [cM_yes z hc hs]
  by_cases hz : z = (levelsL mine theirs 1).getD c.2.2.toNat 0
  · rw [if_pos hz, if_pos hz, ← hz, List.tail_drop]
  · rw [if_neg hz, if_neg hz]
theorem rQ_no {mine theirs : List Int} {i : Nat} {c : Cd} (hc : (orderL mine theirs)[i]? = some c) (hs : ¬ c.2.1 = 1) : rQ mine theirs (i + 1) = rQ mine theirs i := by
  funext z
  unfold rQ
  rw [cM_no z hc hs]
theorem rQ_zero {mine theirs : List Int} : rQ mine theirs 0 = wQ (orderL mine theirs) (levelsL mine theirs 0) (orderL mine theirs).length := by
  funext z
  simp [rQ, cM]
theorem wQ_le {cs : List Cd} {lev : List Int} {i : Nat} {z : Int} : (wQ cs lev i z).length ≤ i := by
  unfold wQ
  rw [List.length_map]
  exact Nat.le_trans (List.length_filter_le _ _) (by rw [List.length_take]; exact Nat.min_le_left _ _)
end Y
end S_M1

section S_F5
set_option maxHeartbeats 2000000
namespace Y
open PySem PySem.Spec PyProof.Rows L2
section
variable {P : Program} {w : World} {K : PySem.W.Frag} {mg : Str → Option Value} {base : Heap}
theorem c_mates (T : Tx K mg) {mine theirs : List Int} (h : mine.length = theirs.length) (h1 : mine.length ≤ 1000) : CalN P w K mg base 4 "mates" [lI mine, lI theirs] ((matesL mine theirs).map D.int) := by
  have h2 : theirs.length ≤ 1000 := by omega
  have hol := order_len mine theirs
  refine caln_of T.d_mates sc_mates (fun _ _ _ _ _ _ us hl => match us, hl with | [_, _], _ => rfl) rfl fun Y hr => ?_
  have nd := sc_mates.nd
  show Bd _ [.val _, .val _, .any, .any, .any, .any, .any, .any, .any] _ _
  refine bd_seq1 (sd_asg (k := 2) nd rfl (.inl rfl) (ev_call (c_side_levels T h h1 (s := 1) (.inr rfl)) (hr.mono (by decide)) (ea_cons (ev_var (nm 0 rfl (.inl rfl) rfl rfl) rfl) (ea_cons (ev_var (nm 1 rfl (.inl rfl) rfl rfl) rfl) (ea_cons (ev_strW [109, 105, 110, 101]) ea_nil rfl) rfl) rfl) rfl (by decide) rfl rfl) rfl rfl (.inl rfl)) ?_
  refine bd_seq1 (sd_asg (k := 3) nd rfl (.inl rfl) (ev_call (c_side_levels T h h1 (s := 0) (.inl rfl)) (hr.mono (by decide)) (ea_cons (ev_var (nm 0 rfl (.inl rfl) rfl rfl) rfl) (ea_cons (ev_var (nm 1 rfl (.inl rfl) rfl rfl) rfl) (ea_cons (ev_strW [116, 104, 101, 105, 114, 115]) ea_nil rfl) rfl) rfl) rfl (by decide) rfl rfl) rfl rfl (.inl rfl)) (bd_seq1 (sd_asg (k := 4) nd rfl (.inl rfl) (ev_call (c_deck T h1 h2) (hr.mono (by decide)) (ea_cons (ev_var (nm 0 rfl (.inl rfl) rfl rfl) rfl) (ea_cons (ev_var (nm 1 rfl (.inl rfl) rfl rfl) rfl) ea_nil rfl) rfl) rfl (by decide) rfl rfl) rfl rfl (.inl rfl)) (bd_gd ?_))
  refine gd_seq (M := fun r E' => ∃ p, r = [.val (lI mine), .val (lI theirs), .val (lI (levelsL mine theirs 1)), .val (lI (levelsL mine theirs 0)), .val (dL eC (orderL mine theirs)), .raw (.ref p), .any, .any, .any] ∧ Wt E' p 0 (fun _ => [])) (ge_newD (k := 5) nd rfl (.inl rfl) (fun p E' hw => ⟨p, rfl, hw⟩) rfl (.inl rfl)) ?_
  rintro _ E ⟨p, rfl, hw0⟩
  refine gd_for (fun i => [.val (lI mine), .val (lI theirs), .val (lI (levelsL mine theirs 1)), .val (lI (levelsL mine theirs 0)), .val (dL eC (orderL mine theirs)), .raw (.ref p), .any, .any, .any]) (fun i E => Wt E p i (wQ (orderL mine theirs) (levelsL mine theirs 0) i)) PassesOwn.never rfl (by repeat (first | exact Wk.nil | refine Wk.any ?_ | refine Wk.same ?_ | refine Wk.frz ?_)) (ei_list (ev_var (nm 4 rfl (.inl rfl) rfl rfl) rfl)) (by
      have : wQ (orderL mine theirs) (levelsL mine theirs 0) 0 = fun _ => [] := by
        funext z
        simp [wQ]
      rw [this]
      exact hw0) ?_ ?_ (fun _ => rfl)
  · intro i d E hd hw
    rw [List.getElem?_map] at hd
    obtain ⟨c, hc, rfl⟩ := Option.map_eq_some_iff.mp hd
    have hcm := List.mem_of_getElem? hc
    have hi := (List.getElem?_eq_some_iff.mp hc).1
    have hix := order_ix h hcm
    have hs2 := order_side hcm
    refine ⟨_, (eg_tup rfl (egs_cons (eg_name (k := 6) nd rfl (.inl rfl) (.inl rfl)) (egs_cons (eg_name (k := 7) nd rfl (.inl rfl) (.inl rfl)) egs_nil rfl) rfl) rfl rfl rfl), ?_⟩
    refine gd_seq (M := fun r E' => Wk r [.val (lI mine), .val (lI theirs), .val (lI (levelsL mine theirs 1)), .val (lI (levelsL mine theirs 0)), .val (dL eC (orderL mine theirs)), .raw (.ref p), .any, .any, .any] ∧ Wt E' p (i + 1) (wQ (orderL mine theirs) (levelsL mine theirs 0) (i + 1))) (gd_if (EvT.cast (et_cmp (ec_eqW (ev_var (nm 6 rfl (.inl rfl) rfl rfl) rfl) (ev_strW [116, 104, 101, 105, 114, 115])) (nomark _ (by decide) (by decide))) (side_theirs _)) (fun e => ?_) (fun e => ?_)) (fun ρ' E' m => gd_nil m)
    · have e1 : c.2.1 = 0 := of_decide_eq_true e
      refine gd_seq (M := fun r E' => Wk r [.val (lI mine), .val (lI theirs), .val (lI (levelsL mine theirs 1)), .val (lI (levelsL mine theirs 0)), .val (dL eC (orderL mine theirs)), .raw (.ref p), .any, .any, .any] ∧ Wt E' p (i + 1) (wQ (orderL mine theirs) (levelsL mine theirs 0) (i + 1))) (ge_push (kw := 5) (z := (levelsL mine theirs 0).getD c.2.2.toNat 0) (i := c.2.2) (nm 5 rfl (.inl rfl) rfl rfl) rfl hw (by omega) ?_ (ev_ixG (0 : Int) (Ev.l (ev_var (nm 3 rfl (.inl rfl) rfl rfl) rfl)) (ev_var (nm 7 rfl (.inl rfl) rfl rfl) rfl) ?_ ?_ (fun _ _ => rfl)) (ev_var (nm 7 rfl (.inl rfl) rfl rfl) rfl) (fun E' hE' => ⟨(by repeat (first | exact Wk.nil | refine Wk.any ?_ | refine Wk.same ?_ | refine Wk.frz ?_)), ?_⟩) ⟨rfl, rfl, rfl, rfl⟩ rfl rfl rfl rfl rfl rfl) (fun ρ' E' m => gd_nil m)
      · exact Nat.lt_of_le_of_lt wQ_le (by omega)
      · exact hix.1
      · rw [lev_len]
        exact hix.2
      · rw [wQ_yes hc e1]
        exact hE'
    · refine gd_nil ⟨(by repeat (first | exact Wk.nil | refine Wk.any ?_ | refine Wk.same ?_ | refine Wk.frz ?_)), ?_⟩
      have e1 := of_decide_eq_false e
      rw [wQ_no hc e1]
      obtain ⟨kvs, q1, q2, q3⟩ := hw.ex
      exact ⟨⟨kvs, q1, by omega, q3⟩⟩
  · intro E hw
    rw [List.length_map] at hw
    refine gd_seq1 (sd_asgN (k := 8) nd rfl (.inl rfl) (EvN.cast (d' := (mtP (orderL mine theirs) (levelsL mine theirs 1) (wQ (orderL mine theirs) (levelsL mine theirs 0) (orderL mine theirs).length) mine.length 0).map D.int) (evn_rep1 (EvN.l (evn_lst (ea_cons ev_int ea_nil rfl) (Nat.le_of_ble_eq_true rfl))) (ev_lenL T.b_len (Ev.l (ev_var (nm 0 rfl (.inl rfl) rfl rfl) rfl)) rfl rfl rfl) ?_ ?_) ?_) rfl rfl (.inl rfl)) ?_
    · omega
    · omega
    · rw [Int.toNat_natCast]
      exact map_rep D.int 0 _
    refine gd_for (fun i => [.val (lI mine), .val (lI theirs), .val (lI (levelsL mine theirs 1)), .val (lI (levelsL mine theirs 0)), .val (dL eC (orderL mine theirs)), .raw (.ref p), .any, .any, .own ((mtP (orderL mine theirs) (levelsL mine theirs 1) (wQ (orderL mine theirs) (levelsL mine theirs 0) (orderL mine theirs).length) mine.length i).map D.int)]) (fun i E => Wt E p (orderL mine theirs).length (rQ mine theirs i)) PassesOwn.never rfl (by repeat (first | exact Wk.nil | refine Wk.any ?_ | refine Wk.same ?_ | refine Wk.frz ?_)) (ei_list (ev_var (nm 4 rfl (.inl rfl) rfl rfl) rfl)) (by
      rw [rQ_zero]
      exact hw) ?_ ?_ (fun _ => rfl)
    · intro i d E hd hw
      rw [List.getElem?_map] at hd
      obtain ⟨c, hc, rfl⟩ := Option.map_eq_some_iff.mp hd
      have hcm := List.mem_of_getElem? hc
      have hi := (List.getElem?_eq_some_iff.mp hc).1
      have hix := order_ix h hcm
      have hs2 := order_side hcm
      refine ⟨_, (eg_tup rfl (egs_cons (eg_name (k := 6) nd rfl (.inl rfl) (.inl rfl)) (egs_cons (eg_name (k := 7) nd rfl (.inl rfl) (.inl rfl)) egs_nil rfl) rfl) rfl rfl rfl), ?_⟩
      refine gd_seq (M := fun r E' => Wk r [.val (lI mine), .val (lI theirs), .val (lI (levelsL mine theirs 1)), .val (lI (levelsL mine theirs 0)), .val (dL eC (orderL mine theirs)), .raw (.ref p), .any, .any, .own ((mtP (orderL mine theirs) (levelsL mine theirs 1) (wQ (orderL mine theirs) (levelsL mine theirs 0) (orderL mine theirs).length) mine.length (i + 1)).map D.int)] ∧ Wt E' p (orderL mine theirs).length (rQ mine theirs (i + 1))) (gd_if (EvT.cast (et_cmp (ec_eqW (ev_var (nm 6 rfl (.inl rfl) rfl rfl) rfl) (ev_strW [109, 105, 110, 101])) (nomark _ (by decide) (by decide))) (side_mine hs2)) (fun e => ?_) (fun e => ?_)) (fun ρ' E' m => gd_nil m)
      · have e1 : c.2.1 = 1 := of_decide_eq_true e
        have hroom := mate_room h hc e1
        refine gd_seq (M := fun r E' => Wk r [.val (lI mine), .val (lI theirs), .val (lI (levelsL mine theirs 1)), .val (lI (levelsL mine theirs 0)), .val (dL eC (orderL mine theirs)), .raw (.ref p), .any, .any, .own ((mtP (orderL mine theirs) (levelsL mine theirs 1) (wQ (orderL mine theirs) (levelsL mine theirs 0) (orderL mine theirs).length) mine.length (i + 1)).map D.int)] ∧ Wt E' p (orderL mine theirs).length (rQ mine theirs (i + 1))) (ge_popSet (kw := 5) (k := 8) (z := (levelsL mine theirs 1).getD c.2.2.toNat 0) (i := c.2.2) (m := c.2.2.toNat) (by have := hr.units; omega) (nm 5 rfl (.inl rfl) rfl rfl) rfl hw (drop_cons hroom) (ev_ixG (0 : Int) (Ev.l (ev_var (nm 2 rfl (.inl rfl) rfl rfl) rfl)) (ev_var (nm 7 rfl (.inl rfl) rfl rfl) rfl) ?_ ?_ (fun _ _ => rfl)) (nm 8 rfl (.inl rfl) rfl rfl) rfl (ev_var (nm 7 rfl (.inl rfl) rfl rfl) rfl) ?_ (fun E' hE' => ⟨?_, ?_⟩) rfl rfl rfl (fun _ => rfl) (fun _ _ => rfl) rfl rfl) (fun ρ' E' m => gd_nil m)
        · exact hix.1
        · rw [lev_len]
          exact hix.2
        · refine ix_int hix.1 ?_
          rw [List.length_map, mtP_len]
          exact hix.2
        · rw [mtP_yes hc e1, List.map_set]
          exact (by repeat (first | exact Wk.nil | refine Wk.any ?_ | refine Wk.same ?_ | refine Wk.frz ?_))
        · rw [rQ_yes hc e1]
          exact hE'
      · refine gd_nil ?_
        have e1 := of_decide_eq_false e
        rw [mtP_no hc e1, rQ_no hc e1]
        exact ⟨(by repeat (first | exact Wk.nil | refine Wk.any ?_ | refine Wk.same ?_ | refine Wk.frz ?_)), hw⟩
    · intro E hw
      rw [List.length_map]
      refine gd_of (bd_one (sd_retO (nm 8 rfl (.inl rfl) rfl rfl) rfl ?_))
      rfl
end
end Y
end S_F5

section S_F6
set_option maxHeartbeats 2000000
namespace Y
open PySem PySem.Spec PyProof.Rows L2
theorem nS_le {mine theirs : List Int} {i : Nat} : nS (orderL mine theirs) 0 i ≤ theirs.length ∧ nS (orderL mine theirs) 1 i ≤ mine.length := by
  have h : ∀ s, nS (orderL mine theirs) s i ≤ (sideL mine theirs s).length := fun s => by
    unfold nS sideL
    exact ((List.take_sublist _ _).filter _).length_le
  obtain ⟨h1, h0⟩ := side_len (mine := mine) (theirs := theirs)
  exact ⟨h0 ▸ h 0, h1 ▸ h 1⟩
theorem heights_mem {mine theirs : List Int} {v : Int} (h : v ∈ heightsL mine theirs) : ∃ i, i ≤ (orderL mine theirs).length ∧ v = hgt (orderL mine theirs) i := by
  unfold heightsL walkOf at h
  obtain ⟨i, hi, rfl⟩ := List.mem_map.mp h
  rw [List.mem_range] at hi
  exact ⟨i, by omega, rfl⟩
theorem mem_heights {mine theirs : List Int} {i : Nat} (h : i ≤ (orderL mine theirs).length) : hgt (orderL mine theirs) i ∈ heightsL mine theirs := by
  unfold heightsL walkOf
  exact List.mem_map.mpr ⟨i, List.mem_range.mpr (by omega), rfl⟩
theorem heights_pos (mine theirs : List Int) : 0 < (heightsL mine theirs).length := by
  rw [heights_len]
  omega
theorem zero_mem (mine theirs : List Int) : (0 : Int) ∈ heightsL mine theirs := mem_heights (i := 0) (Nat.zero_le _)
theorem least_in {mine theirs : List Int} (h : mine.length = theirs.length) : 0 ≤ leastL mine theirs ∧ leastL mine theirs ≤ mine.length := by
  refine ⟨maxL_ge (zero_mem _ _), ?_⟩
  obtain ⟨i, hi, e⟩ := heights_mem (maxL_mem (heights_pos mine theirs))
  have h2 := hgt_cnt i hi
  have h3 := nS_le (mine := mine) (theirs := theirs) (i := i)
  unfold leastL
  omega
theorem most_in {mine theirs : List Int} (h : mine.length = theirs.length) : 0 ≤ mostL mine theirs ∧ mostL mine theirs ≤ mine.length := by
  have h1 := minL_le (zero_mem mine theirs)
  obtain ⟨i, hi, e⟩ := heights_mem (minL_mem (heights_pos mine theirs))
  have h2 := hgt_cnt i hi
  have h3 := nS_le (mine := mine) (theirs := theirs) (i := i)
  unfold mostL
  omega
theorem places_pos {walk : List Int} {v : Int} (h : v ∈ walk) : 0 < (placesL walk v).length := by
  obtain ⟨i, hi, e⟩ := List.getElem_of_mem h
  refine List.length_pos_of_mem (a := i) ?_
  unfold placesL
  refine List.mem_filter.mpr ⟨List.mem_range.mpr hi, ?_⟩
  rw [List.getD_eq_getElem?_getD, List.getElem?_eq_getElem hi]
  exact decide_eq_true e
def firstAt (walk : List Int) (v : Int) : Nat := (placesL walk v).getD 0 0
theorem letters_cnt : ∀ {ws : List Nat}, letters ws → ws.count 77 + ws.count 84 = ws.length
  | [], _ => rfl
  | c :: ws, h => by
    have ih := letters_cnt (ws := ws) fun d hd => h d (List.mem_cons_of_mem _ hd)
    rcases h c (List.mem_cons_self ..) with e | e
    · subst e
      simp
      omega
    · subst e
      simp
      omega
theorem letters_drop {ws : List Nat} (h : letters ws) : letters ws.dropLast := fun c hc => h c ((List.dropLast_sublist ws).subset hc)
def dPn (ns : List Int) : D := .new (ns.map D.int)
def spanN (mine theirs : List Int) : List D :=
  [dW [115, 112, 97, 110], .int (leastL mine theirs), .int (firstAt (heightsL mine theirs) (maxL (heightsL mine theirs)) : Nat), dPn (rotL mine theirs (leastL mine theirs)), .int (mostL mine theirs), .int (firstAt (heightsL mine theirs) (minL (heightsL mine theirs)) : Nat), dPn (rotL mine theirs (mostL mine theirs))]
def rowN (mine theirs : List Int) : List D := [dW [114, 111, 119], dPn (rowL mine theirs), dPn (matesL mine theirs)]
def valN (mine theirs : List Int) (word many : List Nat) : List D := [dW [118, 97, 108, 117, 101], dW word, dW many, .int (cval (rowL mine theirs) word many), dPn (rowL mine theirs), dPn (matesL mine theirs)]
theorem flatW (cs : List Nat) : Flat (dW cs) := flat_str _
section
variable {P : Program} {w : World} {K : PySem.W.Frag} {mg : Str → Option Value} {base : Heap}
theorem c_value (T : Tx K mg) {row : List Int} {ws : List Nat} {s : Int} (hs : s = 0 ∨ s = 1) (h1 : ws.length ≤ 1000) (hl : letters ws) (hz : ws.length = row.length) : CalK P w K mg base 3 "value" "many" [lI row, dW ws] (dW (sideW s)) (.int (cval row ws (sideW s))) := by
  have hd := letters_cnt (letters_drop hl)
  have hdl : ws.dropLast.length = ws.length - 1 := List.length_dropLast
  refine calk_of (n := 0) T.d_value sc_value (fun _ _ _ _ _ _ us ws h1 h2 => match us, h1, ws, h2 with | [_, _], _, [_], _ => rfl) rfl fun Y hr => ?_
  have nd := sc_value.nd
  show Bd _ [.val _, .val _, .val _, .any, .any] _ _
  refine bd_seq1 (sd_expr (ev_call (c_check_word T h1 hl (by omega)) (hr.mono (by decide)) (ea_cons (ev_var (nm 1 rfl (.inl rfl) rfl rfl) rfl) (ea_cons (ev_lenL T.b_len (Ev.l (ev_var (nm 0 rfl (.inl rfl) rfl rfl) rfl)) rfl rfl rfl) ea_nil rfl) rfl) rfl (by decide) rfl rfl) rfl rfl) (bd_seq1 (sd_asgT (ev_call (c_lays T h1) (hr.mono (by decide)) (ea_cons (ev_var (nm 1 rfl (.inl rfl) rfl rfl) rfl) ea_nil rfl) rfl (by decide) rfl rfl) (eg_tup rfl (egs_cons (eg_name (k := 3) nd rfl (.inl rfl) (.inl rfl)) (egs_cons (eg_name (k := 4) nd rfl (.inl rfl) (.inl rfl)) egs_nil rfl) rfl) rfl rfl rfl) rfl rfl rfl rfl) ?_)
  refine bd_ifRet (EvT.cast (et_cmp (ec_eqW (ev_var (nm 2 rfl (.inl rfl) rfl rfl) rfl) (ev_strW [109, 105, 110, 101])) (nomark _ (by decide) (by decide))) (show decide (sideW s = wMine) = decide (s = 1) by rcases hs with rfl | rfl <;> rfl)) (fun e => bd_one (sd_ret (ev_call (c_entry_value T ?_) (hr.mono (by decide)) (ea_cons (ev_var (nm 0 rfl (.inl rfl) rfl rfl) rfl) (ea_cons (ev_var (nm 3 rfl (.inl rfl) rfl rfl) rfl) (ea_cons (ev_var (nm 4 rfl (.inl rfl) rfl rfl) rfl) ea_nil rfl) rfl) rfl) rfl (by decide) rfl rfl) ?_)) fun e => bd_one (sd_ret (ev_call (c_entry_value T ?_) (hr.mono (by decide)) (ea_cons (ev_var (nm 0 rfl (.inl rfl) rfl rfl) rfl) (ea_cons (ev_var (nm 4 rfl (.inl rfl) rfl rfl) rfl) (ea_cons (ev_var (nm 3 rfl (.inl rfl) rfl rfl) rfl) ea_nil rfl) rfl) rfl) rfl (by decide) rfl rfl) ?_)
  · intro hr0
    have : ws.dropLast.count 77 ≤ ws.dropLast.length := List.count_le_length
    omega
  · have e1 : s = 1 := of_decide_eq_true e
    subst e1
    show D.int _ = D.int _
    have : layC ws (sideW 1) = ws.dropLast.count 77 := rfl
    rw [cval, this]
    congr 1
    split
    · rfl
    · congr 1
      omega
  · intro hr0
    have : ws.dropLast.count 84 ≤ ws.dropLast.length := List.count_le_length
    omega
  · have e1 : s = 0 := by
      have := of_decide_eq_false e
      omega
    subst e1
    show D.int _ = D.int _
    have : layC ws (sideW 0) = ws.dropLast.count 84 := rfl
    rw [cval, this]
    congr 1
    split
    · rfl
    · congr 1
      omega
/-! ### the papers -/
theorem c_span_paper (T : Tx K mg) {mine theirs : List Int} (h : mine.length = theirs.length) (h1 : mine.length ≤ 1000) : CalP P w K mg base 5 "span_paper" [lI mine, lI theirs] (spanN mine theirs) := by
  have hlo := least_in h
  have hhi := most_in h
  refine calp_of T.d_span_paper sc_span_paper (fun _ _ _ _ _ _ us hl => match us, hl with | [_, _], _ => rfl) rfl fun Y hr => ?_
  have nd := sc_span_paper.nd
  show Gp _ [.val _, .val _, .any, .any, .any, .any, .any, .any] _ _ _
  refine gp_seq1 (sd_expr (ev_call (c_check_hands T h) (hr.mono (by decide)) (ea_cons (ev_var (nm 0 rfl (.inl rfl) rfl rfl) rfl) (ea_cons (ev_var (nm 1 rfl (.inl rfl) rfl rfl) rfl) ea_nil rfl) rfl) rfl (by decide) rfl rfl) rfl rfl) (gp_seq1 (sd_asg (k := 2) nd rfl (.inl rfl) (ev_call (c_least T h h1) (hr.mono (by decide)) (ea_cons (ev_var (nm 0 rfl (.inl rfl) rfl rfl) rfl) (ea_cons (ev_var (nm 1 rfl (.inl rfl) rfl rfl) rfl) ea_nil rfl) rfl) rfl (by decide) rfl rfl) rfl rfl (.inl rfl)) (gp_seq1 (sd_asg (k := 3) nd rfl (.inl rfl) (ev_call (c_most T h h1) (hr.mono (by decide)) (ea_cons (ev_var (nm 0 rfl (.inl rfl) rfl rfl) rfl) (ea_cons (ev_var (nm 1 rfl (.inl rfl) rfl rfl) rfl) ea_nil rfl) rfl) rfl (by decide) rfl rfl) rfl rfl (.inl rfl)) ?_))
  refine gp_seq1 (sd_asg (k := 4) nd rfl (.inl rfl) (Ev.cast (d' := D.int (firstAt (heightsL mine theirs) (maxL (heightsL mine theirs)) : Nat)) (ev_ixG (0 : Nat) (Ev.l (ev_call (c_peak_places T h h1) (hr.mono (by decide)) (ea_cons (ev_var (nm 0 rfl (.inl rfl) rfl rfl) rfl) (ea_cons (ev_var (nm 1 rfl (.inl rfl) rfl rfl) rfl) ea_nil rfl) rfl) rfl (by decide) rfl rfl)) ev_int ?_ ?_ (fun _ _ => rfl)) ?_) rfl rfl (.inl rfl)) ?_
  · decide
  · have := places_pos (maxL_mem (heights_pos mine theirs))
    omega
  · rfl
  refine gp_seq1 (sd_asg (k := 5) nd rfl (.inl rfl) (Ev.cast (d' := D.int (firstAt (heightsL mine theirs) (minL (heightsL mine theirs)) : Nat)) (ev_ixG (0 : Nat) (Ev.l (ev_call (c_valley_places T h h1) (hr.mono (by decide)) (ea_cons (ev_var (nm 0 rfl (.inl rfl) rfl rfl) rfl) (ea_cons (ev_var (nm 1 rfl (.inl rfl) rfl rfl) rfl) ea_nil rfl) rfl) rfl (by decide) rfl rfl)) ev_int ?_ ?_ (fun _ _ => rfl)) ?_) rfl rfl (.inl rfl)) ?_
  · decide
  · have := places_pos (minL_mem (heights_pos mine theirs))
    omega
  · rfl
  refine gp_seq (M := fun r E' => ∃ q, E' = upd noE q (.lst ((rotL mine theirs (leastL mine theirs)).map V.int)) ∧ r = [.val (lI mine), .val (lI theirs), .val (.int (leastL mine theirs)), .val (.int (mostL mine theirs)), .val (.int (firstAt (heightsL mine theirs) (maxL (heightsL mine theirs)) : Nat)), .val (.int (firstAt (heightsL mine theirs) (minL (heightsL mine theirs)) : Nat)), .raw (.ref q), .any]) (ge_newL (k := 6) nd rfl (.inl rfl) (evn_call (c_rotation T h h1 hlo.1 hlo.2) (hr.mono (by decide)) (ea_cons (ev_var (nm 0 rfl (.inl rfl) rfl rfl) rfl) (ea_cons (ev_var (nm 1 rfl (.inl rfl) rfl rfl) rfl) (ea_cons (ev_var (nm 2 rfl (.inl rfl) rfl rfl) rfl) ea_nil rfl) rfl) rfl) rfl (by decide) rfl rfl) (fun q _ => ⟨q, rfl, rfl⟩) rfl (.inl rfl)) ?_
  rintro _ _ ⟨q1, rfl, rfl⟩
  refine gp_seq (M := fun r E' => ∃ q, q ≠ q1 ∧ E' = upd (upd noE q1 (.lst ((rotL mine theirs (leastL mine theirs)).map V.int))) q (.lst ((rotL mine theirs (mostL mine theirs)).map V.int)) ∧ r = [.val (lI mine), .val (lI theirs), .val (.int (leastL mine theirs)), .val (.int (mostL mine theirs)), .val (.int (firstAt (heightsL mine theirs) (maxL (heightsL mine theirs)) : Nat)), .val (.int (firstAt (heightsL mine theirs) (minL (heightsL mine theirs)) : Nat)), .raw (.ref q1), .raw (.ref q)]) (ge_newL (k := 7) nd rfl (.inl rfl) (evn_call (c_rotation T h h1 hhi.1 hhi.2) (hr.mono (by decide)) (ea_cons (ev_var (nm 0 rfl (.inl rfl) rfl rfl) rfl) (ea_cons (ev_var (nm 1 rfl (.inl rfl) rfl rfl) rfl) (ea_cons (ev_var (nm 3 rfl (.inl rfl) rfl rfl) rfl) ea_nil rfl) rfl) rfl) rfl (by decide) rfl rfl) (fun q hq => ⟨q, ?_, rfl, rfl⟩) rfl (.inl rfl)) ?_
  · intro e
    subst e
    rw [upd_same] at hq
    cases hq
  rintro _ _ ⟨q2, hne, rfl, rfl⟩
  refine gp_ret (ga_val (ev_strW [115, 112, 97, 110]) (flatW _) (fun v0 r0 => ga_val (ev_var (nm 2 rfl (.inl rfl) rfl rfl) rfl) (flat_int _) (fun v1 r1 => ga_val (ev_var (nm 4 rfl (.inl rfl) rfl rfl) rfl) (flat_int _) (fun v2 r2 => ga_raw (nm 6 rfl (.inl rfl) rfl rfl) rfl (ga_val (ev_var (nm 3 rfl (.inl rfl) rfl rfl) rfl) (flat_int _) (fun v4 r4 => ga_val (ev_var (nm 5 rfl (.inl rfl) rfl rfl) rfl) (flat_int _) (fun v5 r5 => ga_raw (nm 7 rfl (.inl rfl) rfl rfl) rfl (ga_nil ⟨Nat.le_of_ble_eq_true rfl, fun pp hpp => ?_⟩) rfl) rfl) rfl) rfl) rfl) rfl) rfl)
  have hp2 : q2 ≠ pp := fun e => by
    subst e
    rw [upd_same] at hpp
    cases hpp
  have hp1 : q1 ≠ pp := fun e => by
    subst e
    rw [upd_ne hne.symm, upd_same] at hpp
    cases hpp
  refine ⟨⟨pp, _, rfl, upd_same, .val r0 (.val r1 (.val r2 (.new ?_ (.val r4 (.val r5 (.new ?_ .nil)))))), fun i j q es1 es2 a1 a2 a3 a4 => ?_⟩⟩
  · rw [upd_ne hp1, upd_ne hne.symm, upd_same]
  · rw [upd_ne hp2, upd_same]
  · have key : ∀ {i : Nat} {es : List D}, (spanN mine theirs)[i]? = some (.new es) → i = 3 ∨ i = 6 := by
      intro i es e
      match i, e with
      | 3, _ => exact .inl rfl
      | 6, _ => exact .inr rfl
      | 0, e => cases e
      | 1, e => cases e
      | 2, e => cases e
      | 4, e => cases e
      | 5, e => cases e
      | n + 7, e => cases e
    rcases key a1 with rfl | rfl <;> rcases key a2 with rfl | rfl
    · rfl
    · cases a3
      cases a4
      exact absurd rfl hne
    · cases a3
      cases a4
      exact absurd rfl hne
    · rfl
theorem c_row_paper (T : Tx K mg) {mine theirs : List Int} (h : mine.length = theirs.length) (h1 : mine.length ≤ 1000) : CalP P w K mg base 5 "row_paper" [lI mine, lI theirs] (rowN mine theirs) := by
  refine calp_of T.d_row_paper sc_row_paper (fun _ _ _ _ _ _ us hl => match us, hl with | [_, _], _ => rfl) rfl fun Y hr => ?_
  have nd := sc_row_paper.nd
  show Gp _ [.val _, .val _] _ _ _
  refine gp_seq1 (sd_expr (ev_call (c_check_hands T h) (hr.mono (by decide)) (ea_cons (ev_var (nm 0 rfl (.inl rfl) rfl rfl) rfl) (ea_cons (ev_var (nm 1 rfl (.inl rfl) rfl rfl) rfl) ea_nil rfl) rfl) rfl (by decide) rfl rfl) rfl rfl) ?_
  refine gp_ret (ga_val (ev_strW [114, 111, 119]) (flatW _) (fun v0 r0 => ga_new (evn_call (c_row_of T h h1) (hr.mono (by decide)) (ea_cons (ev_var (nm 0 rfl (.inl rfl) rfl rfl) rfl) (ea_cons (ev_var (nm 1 rfl (.inl rfl) rfl rfl) rfl) ea_nil rfl) rfl) rfl (by decide) rfl rfl) (fun q1 g1 => ga_new (evn_call (c_mates T h h1) (hr.mono (by decide)) (ea_cons (ev_var (nm 0 rfl (.inl rfl) rfl rfl) rfl) (ea_cons (ev_var (nm 1 rfl (.inl rfl) rfl rfl) rfl) ea_nil rfl) rfl) rfl (by decide) rfl rfl) (fun q2 g2 => ga_nil ⟨Nat.le_of_ble_eq_true rfl, fun pp hpp => ?_⟩) rfl) rfl) rfl)
  have hne : q2 ≠ q1 := fun e => by
    subst e
    rw [upd_same] at g2
    cases g2
  have hp2 : q2 ≠ pp := fun e => by
    subst e
    rw [upd_same] at hpp
    cases hpp
  have hp1 : q1 ≠ pp := fun e => by
    subst e
    rw [upd_ne hne.symm, upd_same] at hpp
    cases hpp
  refine ⟨⟨pp, _, rfl, upd_same, .val r0 (.new ?_ (.new ?_ .nil)), fun i j q es1 es2 a1 a2 a3 a4 => ?_⟩⟩
  · rw [upd_ne hp1, upd_ne hne.symm, upd_same]
  · rw [upd_ne hp2, upd_same]
  · have key : ∀ {i : Nat} {es : List D}, (rowN mine theirs)[i]? = some (.new es) → i = 1 ∨ i = 2 := by
      intro i es e
      match i, e with
      | 1, _ => exact .inl rfl
      | 2, _ => exact .inr rfl
      | 0, e => cases e
      | n + 3, e => cases e
    rcases key a1 with rfl | rfl <;> rcases key a2 with rfl | rfl
    · rfl
    · cases a3
      cases a4
      exact absurd rfl hne
    · cases a3
      cases a4
      exact absurd rfl hne
    · rfl
theorem b_value_paper (T : Tx K mg) {mine theirs : List Int} {ws : List Nat} {s : Int} (h : mine.length = theirs.length) (h1 : mine.length ≤ 1000) (hs : s = 0 ∨ s = 1) (hl : letters ws) (hz : ws.length = mine.length) (Y : Fx) (hr : Room 4 (cxY P w K mg base N_value_paper "value_paper" (defScope s_value_paper) Y).A) :
    Gp (cxY P w K mg base N_value_paper "value_paper" (defScope s_value_paper) Y) (rho0 N_value_paper ([lI mine, lI theirs, dW ws] ++ [dW (sideW s)])) noE (defBody s_value_paper) (valN mine theirs ws (sideW s)) := by
  have nd := sc_value_paper.nd
  have hrl : (rowL mine theirs).length = mine.length := by rw [rowL, List.length_mergeSort, lev_len]
  show Gp _ [.val _, .val _, .val _, .val _, .any, .any] _ _ _
  refine gp_seq1 (sd_expr (ev_call (c_check_hands T h) (hr.mono (by decide)) (ea_cons (ev_var (nm 0 rfl (.inl rfl) rfl rfl) rfl) (ea_cons (ev_var (nm 1 rfl (.inl rfl) rfl rfl) rfl) ea_nil rfl) rfl) rfl (by decide) rfl rfl) rfl rfl) ?_
  refine gp_seq (M := fun r E' => ∃ q, E' = upd noE q (.lst ((rowL mine theirs).map V.int)) ∧ r = [.val (lI mine), .val (lI theirs), .val (dW ws), .val (dW (sideW s)), .raw (.ref q), .any]) (ge_newL (k := 4) nd rfl (.inl rfl) (evn_call (c_row_of T h h1) (hr.mono (by decide)) (ea_cons (ev_var (nm 0 rfl (.inl rfl) rfl rfl) rfl) (ea_cons (ev_var (nm 1 rfl (.inl rfl) rfl rfl) rfl) ea_nil rfl) rfl) rfl (by decide) rfl rfl) (fun q _ => ⟨q, rfl, rfl⟩) rfl (.inl rfl)) ?_
  rintro _ _ ⟨q1, rfl, rfl⟩
  refine gp_seq (M := fun r E' => E' = upd noE q1 (.lst ((rowL mine theirs).map V.int)) ∧ r = [.val (lI mine), .val (lI theirs), .val (dW ws), .val (dW (sideW s)), .raw (.ref q1), .val (.int (cval (rowL mine theirs) ws (sideW s)))]) (ge_asgP (k := 5) (ρ2 := [.val (lI mine), .val (lI theirs), .val (dW ws), .val (dW (sideW s)), .val (lI (rowL mine theirs)), .any]) (.same (.same (.same (.same (.raw (.lst upd_same (RpAll.ofInts _)) (.same .nil)))))) nd rfl (.inl rfl) (ev_callK (c_value T hs (by omega) hl (by omega)) (hr.mono (by decide)) (ea_cons (ev_var (nm 4 rfl (.inl rfl) rfl rfl) rfl) (ea_cons (ev_var (nm 2 rfl (.inl rfl) rfl rfl) rfl) ea_nil rfl) rfl) (ev_var (nm 3 rfl (.inl rfl) rfl rfl) rfl) rfl rfl rfl (by decide) rfl rfl) (flat_int _) ⟨rfl, rfl⟩ rfl (.inl rfl)) ?_
  rintro _ _ ⟨rfl, rfl⟩
  refine gp_ret (ga_val (ev_strW [118, 97, 108, 117, 101]) (flatW _) (fun v0 r0 => ga_val (ev_var (nm 2 rfl (.inl rfl) rfl rfl) rfl) (flatW _) (fun v1 r1 => ga_val (ev_var (nm 3 rfl (.inl rfl) rfl rfl) rfl) (flatW _) (fun v2 r2 => ga_val (ev_var (nm 5 rfl (.inl rfl) rfl rfl) rfl) (flat_int _) (fun v3 r3 => ga_raw (nm 4 rfl (.inl rfl) rfl rfl) rfl (ga_new (evn_call (c_mates T h h1) (hr.mono (by decide)) (ea_cons (ev_var (nm 0 rfl (.inl rfl) rfl rfl) rfl) (ea_cons (ev_var (nm 1 rfl (.inl rfl) rfl rfl) rfl) ea_nil rfl) rfl) rfl (by decide) rfl rfl) (fun q2 g2 => ga_nil ⟨Nat.le_of_ble_eq_true rfl, fun pp hpp => ?_⟩) rfl) rfl) rfl) rfl) rfl) rfl)
  have hne : q2 ≠ q1 := fun e => by
    subst e
    rw [upd_same] at g2
    cases g2
  have hp2 : q2 ≠ pp := fun e => by
    subst e
    rw [upd_same] at hpp
    cases hpp
  have hp1 : q1 ≠ pp := fun e => by
    subst e
    rw [upd_ne hne.symm, upd_same] at hpp
    cases hpp
  refine ⟨⟨pp, _, rfl, upd_same, .val r0 (.val r1 (.val r2 (.val r3 (.new ?_ (.new ?_ .nil))))), fun i j q es1 es2 a1 a2 a3 a4 => ?_⟩⟩
  · rw [upd_ne hp1, upd_ne hne.symm, upd_same]
  · rw [upd_ne hp2, upd_same]
  · have key : ∀ {i : Nat} {es : List D}, (valN mine theirs ws (sideW s))[i]? = some (.new es) → i = 4 ∨ i = 5 := by
      intro i es e
      match i, e with
      | 4, _ => exact .inl rfl
      | 5, _ => exact .inr rfl
      | 0, e => cases e
      | 1, e => cases e
      | 2, e => cases e
      | 3, e => cases e
      | n + 6, e => cases e
    rcases key a1 with rfl | rfl <;> rcases key a2 with rfl | rfl
    · rfl
    · cases a3
      cases a4
      exact absurd rfl hne
    · cases a3
      cases a4
      exact absurd rfl hne
    · rfl
theorem c_value_paperK (T : Tx K mg) {mine theirs : List Int} {ws : List Nat} {s : Int} (h : mine.length = theirs.length) (h1 : mine.length ≤ 1000) (hs : s = 0 ∨ s = 1) (hl : letters ws) (hz : ws.length = mine.length) : CalPK P w K mg base 5 "value_paper" "many" [lI mine, lI theirs, dW ws] (dW (sideW s)) (valN mine theirs ws (sideW s)) :=
  calpk_of T.d_value_paper sc_value_paper (fun _ _ _ _ _ _ us ws h1 h2 => match us, h1, ws, h2 with | [_, _, _], _, [_], _ => rfl) rfl fun Y hr => b_value_paper T h h1 hs hl hz Y hr
theorem c_value_paperD (T : Tx K mg) {mine theirs : List Int} {ws : List Nat} (h : mine.length = theirs.length) (h1 : mine.length ≤ 1000) (hl : letters ws) (hz : ws.length = mine.length) : CalPD P w K mg base 5 "value_paper" (.str "mine") [lI mine, lI theirs, dW ws] (dW (sideW 1)) (valN mine theirs ws (sideW 1)) :=
  calpd_of T.d_value_paper sc_value_paper (fun D doc pm an cdv ct us ks h1 h2 => match us, h1, ks, h2 with | [_, _, _], _, [_], _ => ⟨_, _, _, _, _, _, rfl, rfl, rfl⟩) (fun H => by
    rw [w_mine]
    exact .str _) rfl fun Y hr => b_value_paper T h h1 (.inr rfl) hl hz Y hr
end
end Y
end S_F6

section S_M2
set_option maxHeartbeats 2000000
namespace Y
open PySem PySem.Spec PyProof.Rows L2
/-! ### the order -/
theorem le3_trans (a b c : Cd) (h1 : le3 a b = true) (h2 : le3 b c = true) : le3 a c = true := by
  unfold le3 at *
  simp only [decide_eq_true_eq] at *
  omega
theorem le3_total (a b : Cd) : (le3 a b || le3 b a) = true := by
  unfold le3
  simp only [Bool.or_eq_true, decide_eq_true_eq]
  omega
theorem order_sorted (mine theirs : List Int) : (orderL mine theirs).Pairwise fun a b => le3 a b = true := List.pairwise_mergeSort le3_trans le3_total _
theorem order_le {mine theirs : List Int} {i j : Nat} {c d : Cd} (h : i < j) (hc : (orderL mine theirs)[i]? = some c) (hd : (orderL mine theirs)[j]? = some d) : le3 c d = true := by
  obtain ⟨hi, e1⟩ := List.getElem?_eq_some_iff.mp hc
  obtain ⟨hj, e2⟩ := List.getElem?_eq_some_iff.mp hd
  have := List.pairwise_iff_getElem.mp (order_sorted mine theirs) i j hi hj h
  rw [e1, e2] at this
  exact this
theorem pre_filter {α : Type} {R : α → α → Prop} {q : α → Bool} (hq : ∀ a b, R a b → q b = true → q a = true) : ∀ {xs : List α}, xs.Pairwise R → xs.filter q = xs.take (xs.filter q).length
  | [], _ => rfl
  | a :: t, h => by
    obtain ⟨h1, h2⟩ := List.pairwise_cons.mp h
    by_cases ha : q a = true
    · rw [List.filter_cons_of_pos ha, List.length_cons, List.take_succ_cons, ← pre_filter hq h2]
    · have : t.filter q = [] := List.filter_eq_nil_iff.mpr fun b hb hqb => ha (hq a b (h1 b hb) hqb)
      rw [List.filter_cons_of_neg ha, this]
      rfl
theorem half_fst (s : Int) (xs : List Int) : (half s xs xs.length).map (fun c => c.1) = xs := by
  unfold half
  rw [List.map_map]
  refine List.ext_getElem (by simp) fun i h1 h2 => ?_
  simp [List.getElem?_eq_getElem h2]
theorem half_cnt (s : Int) (xs : List Int) (p : Int → Bool) : ((half s xs xs.length).filter fun c => p c.1).length = (xs.filter p).length := by
  have h := congrArg (fun l => (l.filter p).length) (half_fst s xs)
  simp only [List.filter_map, List.length_map] at h
  exact h
/-- cards of a side with a property of their numbers -/
theorem order_cnt (mine theirs : List Int) (p : Int → Bool) : ((orderL mine theirs).filter fun c => decide (c.2.1 = 0) && p c.1).length = (theirs.filter p).length ∧ ((orderL mine theirs).filter fun c => decide (c.2.1 = 1) && p c.1).length = (mine.filter p).length := by
  have h : (orderL mine theirs).Perm (cardsL mine theirs) := List.mergeSort_perm _ _
  have z : ∀ (s t : Int) (xs : List Int) (n : Nat), ¬ s = t → (half s xs n).filter (fun c => decide (c.2.1 = t) && p c.1) = [] := fun s t xs n hst => List.filter_eq_nil_iff.mpr fun c hc => by
    rw [half_side hc]
    simp [hst]
  have y : ∀ (s : Int) (xs : List Int) (n : Nat), (half s xs n).filter (fun c => decide (c.2.1 = s) && p c.1) = (half s xs n).filter (fun c => p c.1) := fun s xs n => List.filter_congr fun c hc => by
    rw [half_side hc]
    simp
  constructor
  · rw [(h.filter _).length_eq, cardsL, List.filter_append, z 1 0 _ _ (by decide), y, List.append_nil, half_cnt]
  · rw [(h.filter _).length_eq, cardsL, List.filter_append, z 0 1 _ _ (by decide), y, List.nil_append, half_cnt]
/-! ### least and most by counting -/
def leF (mine theirs : List Int) (x : Int) : Int := ((theirs.filter fun y => decide (y ≤ x)).length : Int) - ((mine.filter fun y => decide (y < x)).length : Int)
def moF (mine theirs : List Int) (x : Int) : Int := ((theirs.filter fun y => decide (y ≤ x)).length : Int) - ((mine.filter fun y => decide (y ≤ x)).length : Int)
theorem card_theirs {mine theirs : List Int} {c : Cd} (hc : c ∈ orderL mine theirs) (hs : c.2.1 = 0) : c.1 = theirs.getD c.2.2.toNat 0 ∧ c.1 ∈ theirs ∧ c.2.2.toNat < theirs.length := by
  have h2 : c ∈ cardsL mine theirs := (List.mergeSort_perm _ _).mem_iff.mp hc
  rcases List.mem_append.mp h2 with h3 | h3
  · obtain ⟨i, hi, rfl⟩ := List.mem_map.mp h3
    rw [List.mem_range] at hi
    refine ⟨?_, getD_mem hi, ?_⟩
    · show theirs.getD i 0 = theirs.getD (i : Int).toNat 0
      rw [Int.toNat_natCast]
    · show (i : Int).toNat < _
      rw [Int.toNat_natCast]
      exact hi
  · have := half_side h3
    omega
theorem card_mine {mine theirs : List Int} {c : Cd} (hc : c ∈ orderL mine theirs) (hs : c.2.1 = 1) : c.1 = mine.getD c.2.2.toNat 0 ∧ c.1 ∈ mine ∧ c.2.2.toNat < mine.length := by
  have h2 : c ∈ cardsL mine theirs := (List.mergeSort_perm _ _).mem_iff.mp hc
  rcases List.mem_append.mp h2 with h3 | h3
  · have := half_side h3
    omega
  · obtain ⟨i, hi, rfl⟩ := List.mem_map.mp h3
    rw [List.mem_range] at hi
    refine ⟨?_, getD_mem hi, ?_⟩
    · show mine.getD i 0 = mine.getD (i : Int).toNat 0
      rw [Int.toNat_natCast]
    · show (i : Int).toNat < _
      rw [Int.toNat_natCast]
      exact hi
/-- a cut of the order is a height -/
theorem cut_height {mine theirs : List Int} (q : Cd → Bool) (hq : ∀ a b, le3 a b = true → q b = true → q a = true) (p0 p1 : Int → Bool) (h0 : ∀ c : Cd, c.2.1 = 0 → q c = p0 c.1) (h1 : ∀ c : Cd, c.2.1 = 1 → q c = p1 c.1) :
    ((theirs.filter p0).length : Int) - ((mine.filter p1).length : Int) ∈ heightsL mine theirs := by
  have hk : ((orderL mine theirs).filter q).length ≤ (orderL mine theirs).length := List.length_filter_le _ _
  have h := mem_heights hk
  rw [hgt_cnt _ hk] at h
  unfold nS at h
  rw [← pre_filter hq (order_sorted mine theirs), List.filter_filter, List.filter_filter] at h
  have e0 : ((orderL mine theirs).filter fun c => decide (c.2.1 = 0) && q c) = (orderL mine theirs).filter fun c => decide (c.2.1 = 0) && p0 c.1 := List.filter_congr fun c hc => by
    by_cases hs : c.2.1 = 0
    · rw [h0 c hs]
    · simp [hs]
  have e1 : ((orderL mine theirs).filter fun c => decide (c.2.1 = 1) && q c) = (orderL mine theirs).filter fun c => decide (c.2.1 = 1) && p1 c.1 := List.filter_congr fun c hc => by
    by_cases hs : c.2.1 = 1
    · rw [h1 c hs]
    · simp [hs]
  rw [e0, e1, (order_cnt mine theirs p0).1, (order_cnt mine theirs p1).2] at h
  exact h
theorem leF_mem (mine theirs : List Int) (x : Int) : leF mine theirs x ∈ heightsL mine theirs := by
  refine cut_height (fun c => decide (c.1 < x ∨ (c.1 = x ∧ c.2.1 ≤ 0))) (fun a b h1 h2 => ?_) (fun y => decide (y ≤ x)) (fun y => decide (y < x)) (fun c hs => ?_) (fun c hs => ?_)
  · unfold le3 at h1
    simp only [decide_eq_true_eq] at *
    omega
  · congr 1
    rw [eq_iff_iff]
    omega
  · congr 1
    rw [eq_iff_iff]
    omega
theorem moF_mem (mine theirs : List Int) (x : Int) : moF mine theirs x ∈ heightsL mine theirs := by
  refine cut_height (fun c => decide (c.1 ≤ x)) (fun a b h1 h2 => ?_) (fun y => decide (y ≤ x)) (fun y => decide (y ≤ x)) (fun c hs => rfl) (fun c hs => rfl)
  unfold le3 at h1
  simp only [decide_eq_true_eq] at *
  omega
theorem filter_split {α : Type} (xs : List α) (k : Nat) (q : α → Bool) : (xs.filter q).length = ((xs.take k).filter q).length + ((xs.drop k).filter q).length := by
  rw [← List.length_append, ← List.filter_append, List.take_append_drop]
theorem in_take {α : Type} {xs : List α} {k : Nat} {x : α} (h : x ∈ xs.take k) : ∃ i, i < k ∧ xs[i]? = some x := by
  obtain ⟨i, hi, e⟩ := List.getElem_of_mem h
  rw [List.length_take] at hi
  refine ⟨i, by omega, ?_⟩
  rw [List.getElem_take] at e
  rw [List.getElem?_eq_getElem (by omega), e]
theorem in_drop {α : Type} {xs : List α} {k : Nat} {x : α} (h : x ∈ xs.drop k) : ∃ i, k ≤ i ∧ xs[i]? = some x := by
  obtain ⟨i, hi, e⟩ := List.getElem_of_mem h
  rw [List.length_drop] at hi
  refine ⟨k + i, by omega, ?_⟩
  rw [List.getElem_drop] at e
  rw [List.getElem?_eq_getElem (by omega), e]
/-- the first i cards of a side: at most, at least -/
theorem nS_up {mine theirs : List Int} {i : Nat} (p : Int → Bool) (h : ∀ j c, j < i → (orderL mine theirs)[j]? = some c → p c.1 = true) : nS (orderL mine theirs) 0 i ≤ (theirs.filter p).length ∧ nS (orderL mine theirs) 1 i ≤ (mine.filter p).length := by
  have key : ∀ s : Int, nS (orderL mine theirs) s i ≤ ((orderL mine theirs).filter fun c => decide (c.2.1 = s) && p c.1).length := fun s => by
    have e : ((orderL mine theirs).take i).filter (fun c => decide (c.2.1 = s)) = ((orderL mine theirs).take i).filter (fun c => decide (c.2.1 = s) && p c.1) := List.filter_congr fun c hc => by
      obtain ⟨j, hj, e⟩ := in_take hc
      rw [h j c hj e, Bool.and_true]
    unfold nS
    rw [e]
    exact ((List.take_sublist _ _).filter _).length_le
  exact ⟨(order_cnt mine theirs p).1 ▸ key 0, (order_cnt mine theirs p).2 ▸ key 1⟩
theorem nS_low {mine theirs : List Int} {i : Nat} {s : Int} (p : Int → Bool) (h : ∀ j c, i ≤ j → (orderL mine theirs)[j]? = some c → c.2.1 = s → p c.1 = false) : ((orderL mine theirs).filter fun c => decide (c.2.1 = s) && p c.1).length ≤ nS (orderL mine theirs) s i := by
  rw [filter_split _ i]
  have e : ((orderL mine theirs).drop i).filter (fun c => decide (c.2.1 = s) && p c.1) = [] := List.filter_eq_nil_iff.mpr fun c hc => by
    obtain ⟨j, hj, e⟩ := in_drop hc
    by_cases hs : c.2.1 = s
    · rw [h j c hj e hs]
      simp
    · simp [hs]
  rw [e, List.length_nil, Nat.add_zero]
  have e2 : ((orderL mine theirs).take i).filter (fun c => decide (c.2.1 = s) && p c.1) = (((orderL mine theirs).take i).filter fun c => decide (c.2.1 = s)).filter fun c => p c.1 := by
    rw [List.filter_filter]
    exact List.filter_congr fun c _ => Bool.and_comm _ _
  rw [e2]
  exact List.length_filter_le _ _
theorem leF_ge {mine theirs : List Int} {i : Nat} {c : Cd} (hc : (orderL mine theirs)[i]? = some c) (hs : c.2.1 = 0) : hgt (orderL mine theirs) (i + 1) ≤ leF mine theirs c.1 := by
  have hi := (List.getElem?_eq_some_iff.mp hc).1
  rw [hgt_cnt _ (by omega)]
  have h1 := (nS_up (mine := mine) (theirs := theirs) (i := i + 1) (fun y => decide (y ≤ c.1)) fun j d hj hd => by
    by_cases hji : j = i
    · subst hji
      rw [hc] at hd
      cases hd
      simp
    · have := order_le (show j < i by omega) hd hc
      unfold le3 at this
      simp only [decide_eq_true_eq] at *
      omega).1
  have h2 := nS_low (mine := mine) (theirs := theirs) (i := i + 1) (s := 1) (fun y => decide (y < c.1)) fun j d hj hd hs2 => by
    have := order_le (show i < j by omega) hc hd
    unfold le3 at this
    simp only [decide_eq_true_eq, decide_eq_false_iff_not] at *
    omega
  rw [(order_cnt mine theirs fun y => decide (y < c.1)).2] at h2
  unfold leF
  omega
theorem moF_le {mine theirs : List Int} {i : Nat} {c : Cd} (hc : (orderL mine theirs)[i]? = some c) (hs : c.2.1 = 1) : moF mine theirs c.1 ≤ hgt (orderL mine theirs) (i + 1) := by
  have hi := (List.getElem?_eq_some_iff.mp hc).1
  rw [hgt_cnt _ (by omega)]
  have h1 := (nS_up (mine := mine) (theirs := theirs) (i := i + 1) (fun y => decide (y ≤ c.1)) fun j d hj hd => by
    by_cases hji : j = i
    · subst hji
      rw [hc] at hd
      cases hd
      simp
    · have := order_le (show j < i by omega) hd hc
      unfold le3 at this
      simp only [decide_eq_true_eq] at *
      omega).2
  have h2 := nS_low (mine := mine) (theirs := theirs) (i := i + 1) (s := 0) (fun y => decide (y ≤ c.1)) fun j d hj hd hs2 => by
    have := order_le (show i < j by omega) hc hd
    unfold le3 at this
    simp only [decide_eq_true_eq, decide_eq_false_iff_not] at *
    omega
  rw [(order_cnt mine theirs fun y => decide (y ≤ c.1)).1] at h2
  unfold moF
  omega
def bestP (mine theirs : List Int) : Nat → Int
  | 0 => 0
  | i + 1 => max (bestP mine theirs i) (leF mine theirs (theirs.getD i 0))
def worstP (mine theirs : List Int) : Nat → Int
  | 0 => 0
  | i + 1 => min (worstP mine theirs i) (moF mine theirs (mine.getD i 0))
theorem bestP_mono (mine theirs : List Int) {i j : Nat} (h : i ≤ j) : bestP mine theirs i ≤ bestP mine theirs j := by
  induction h with
  | refl => exact Int.le_refl _
  | @step k h ih => exact Int.le_trans ih (Int.le_max_left _ _)
theorem worstP_mono (mine theirs : List Int) {i j : Nat} (h : i ≤ j) : worstP mine theirs j ≤ worstP mine theirs i := by
  induction h with
  | refl => exact Int.le_refl _
  | @step k h ih => exact Int.le_trans (Int.min_le_left _ _) ih
theorem bestP_ge {mine theirs : List Int} {i n : Nat} (h : i < n) : leF mine theirs (theirs.getD i 0) ≤ bestP mine theirs n := Int.le_trans (Int.le_max_right (bestP mine theirs i) _) (bestP_mono mine theirs (show i + 1 ≤ n by omega))
theorem worstP_le {mine theirs : List Int} {i n : Nat} (h : i < n) : worstP mine theirs n ≤ moF mine theirs (mine.getD i 0) := Int.le_trans (worstP_mono mine theirs (show i + 1 ≤ n by omega)) (Int.min_le_right (worstP mine theirs i) _)
theorem bestP_mem (mine theirs : List Int) : ∀ i, bestP mine theirs i ∈ heightsL mine theirs
  | 0 => zero_mem _ _
  | i + 1 => by
    unfold bestP
    rcases Int.le_total (bestP mine theirs i) (leF mine theirs (theirs.getD i 0)) with h | h
    · rw [Int.max_eq_right h]
      exact leF_mem _ _ _
    · rw [Int.max_eq_left h]
      exact bestP_mem mine theirs i
theorem worstP_mem (mine theirs : List Int) : ∀ i, worstP mine theirs i ∈ heightsL mine theirs
  | 0 => zero_mem _ _
  | i + 1 => by
    unfold worstP
    rcases Int.le_total (worstP mine theirs i) (moF mine theirs (mine.getD i 0)) with h | h
    · rw [Int.min_eq_left h]
      exact worstP_mem mine theirs i
    · rw [Int.min_eq_right h]
      exact moF_mem _ _ _
theorem hgt_best {mine theirs : List Int} : ∀ i, i ≤ (orderL mine theirs).length → hgt (orderL mine theirs) i ≤ bestP mine theirs theirs.length
  | 0, _ => bestP_mono mine theirs (Nat.zero_le _)
  | i + 1, h => by
    obtain ⟨c, hc⟩ : ∃ c, (orderL mine theirs)[i]? = some c := ⟨_, List.getElem?_eq_getElem (by omega)⟩
    have hcm := List.mem_of_getElem? hc
    rcases order_side hcm with hs | hs
    · have h1 := leF_ge hc hs
      obtain ⟨e, _, hl⟩ := card_theirs hcm hs
      rw [e] at h1
      exact Int.le_trans h1 (bestP_ge hl)
    · have := hgt_best (mine := mine) (theirs := theirs) i (by omega)
      rw [hgt_succ hc, stepC, if_neg (by omega)]
      omega
theorem hgt_worst {mine theirs : List Int} : ∀ i, i ≤ (orderL mine theirs).length → worstP mine theirs mine.length ≤ hgt (orderL mine theirs) i
  | 0, _ => worstP_mono mine theirs (Nat.zero_le _)
  | i + 1, h => by
    obtain ⟨c, hc⟩ : ∃ c, (orderL mine theirs)[i]? = some c := ⟨_, List.getElem?_eq_getElem (by omega)⟩
    have hcm := List.mem_of_getElem? hc
    rcases order_side hcm with hs | hs
    · have := hgt_worst (mine := mine) (theirs := theirs) i (by omega)
      rw [hgt_succ hc, stepC, if_pos hs]
      omega
    · have h1 := moF_le hc hs
      obtain ⟨e, _, hl⟩ := card_mine hcm hs
      rw [e] at h1
      exact Int.le_trans (worstP_le hl) h1
theorem best_least (mine theirs : List Int) : bestP mine theirs theirs.length = leastL mine theirs := by
  refine Int.le_antisymm (maxL_ge (bestP_mem _ _ _)) ?_
  obtain ⟨i, hi, e⟩ := heights_mem (maxL_mem (heights_pos mine theirs))
  unfold leastL
  rw [e]
  exact hgt_best i hi
theorem worst_most (mine theirs : List Int) : (mine.length : Int) + worstP mine theirs mine.length = mostL mine theirs := by
  unfold mostL
  congr 1
  refine Int.le_antisymm ?_ (minL_le (worstP_mem _ _ _))
  obtain ⟨i, hi, e⟩ := heights_mem (minL_mem (heights_pos mine theirs))
  rw [e]
  exact hgt_worst i hi
end Y
end S_M2

section S_M3
set_option maxHeartbeats 2000000
namespace Y
open PySem PySem.Spec PyProof.Rows L2
/-! ### ranks -/
theorem side_at {mine theirs : List Int} {i : Nat} {c : Cd} (hc : (orderL mine theirs)[i]? = some c) : (sideL mine theirs c.2.1)[nS (orderL mine theirs) c.2.1 i]? = some c := by
  have hi := (List.getElem?_eq_some_iff.mp hc).1
  unfold sideL nS
  have h : (orderL mine theirs) = (orderL mine theirs).take i ++ c :: (orderL mine theirs).drop (i + 1) := by
    have e := List.drop_eq_getElem_cons hi
    rw [(List.getElem?_eq_some_iff.mp hc).2] at e
    rw [← e, List.take_append_drop]
  have h2 : (orderL mine theirs).filter (fun d => decide (d.2.1 = c.2.1)) = ((orderL mine theirs).take i).filter (fun d => decide (d.2.1 = c.2.1)) ++ c :: ((orderL mine theirs).drop (i + 1)).filter (fun d => decide (d.2.1 = c.2.1)) := by
    conv => lhs; rw [h]
    rw [List.filter_append, List.filter_cons_of_pos (by simp)]
  rw [h2, List.getElem?_append_right (Nat.le_refl _), Nat.sub_self]
  rfl
theorem nS_mono {cs : List Cd} {s : Int} {i j : Nat} (h : i ≤ j) : nS cs s i ≤ nS cs s j := by
  unfold nS
  have : cs.take i = (cs.take j).take i := by rw [List.take_take, Nat.min_eq_left h]
  rw [this]
  exact ((List.take_sublist _ _).filter _).length_le
theorem side_nodup (mine theirs : List Int) (s : Int) : (sideL mine theirs s).Nodup := by
  have h : (orderL mine theirs).Nodup := by
    have := order_nodup mine theirs
    exact List.Pairwise.of_map _ (fun a b hab e => hab (congrArg _ e)) this
  exact h.filter _
/-- where a card stands -/
theorem rank_at {mine theirs : List Int} {s : Int} {k : Nat} {c : Cd} (hc : (sideL mine theirs s)[k]? = some c) : ∃ i, (orderL mine theirs)[i]? = some c ∧ nS (orderL mine theirs) s i = k ∧ c.2.1 = s := by
  obtain ⟨hm, hs⟩ := List.mem_filter.mp (List.mem_of_getElem? hc)
  have hs : c.2.1 = s := of_decide_eq_true hs
  obtain ⟨i, hi, e⟩ := List.getElem_of_mem hm
  have hi2 : (orderL mine theirs)[i]? = some c := by rw [List.getElem?_eq_getElem hi, e]
  have h2 := side_at hi2
  rw [hs] at h2
  refine ⟨i, hi2, ?_, hs⟩
  have hk := (List.getElem?_eq_some_iff.mp h2).1
  exact (List.getElem?_inj hk (side_nodup _ _ _)).mp (h2.trans hc.symm)
theorem before_of {mine theirs : List Int} {i p : Nat} {c : Cd} (hc : (orderL mine theirs)[i]? = some c) : i < p ↔ nS (orderL mine theirs) c.2.1 i < nS (orderL mine theirs) c.2.1 p := by
  constructor
  · intro h
    have h1 := nS_yes hc rfl
    have h2 := nS_mono (cs := orderL mine theirs) (s := c.2.1) (show i + 1 ≤ p by omega)
    omega
  · intro h
    by_cases hp : i < p
    · exact hp
    · have := nS_mono (cs := orderL mine theirs) (s := c.2.1) (show p ≤ i by omega)
      omega
/-- my k-th card wins against their j-th just if it stands behind it -/
def beats (mine theirs : List Int) (k j : Nat) : Prop := ∃ c d, (sideL mine theirs 1)[k]? = some c ∧ (sideL mine theirs 0)[j]? = some d ∧ d.1 ≤ c.1
theorem side_get {mine theirs : List Int} (h : mine.length = theirs.length) {s : Int} (hs : s = 0 ∨ s = 1) {k : Nat} (hk : k < mine.length) : ∃ c, (sideL mine theirs s)[k]? = some c := by
  obtain ⟨l1, l0⟩ := side_len (mine := mine) (theirs := theirs)
  refine ⟨_, List.getElem?_eq_getElem ?_⟩
  rcases hs with rfl | rfl <;> omega
theorem win_iff {mine theirs : List Int} {i t : Nat} {c d : Cd} (hc : (orderL mine theirs)[i]? = some c) (hd : (orderL mine theirs)[t]? = some d) (h1 : c.2.1 = 1) (h0 : d.2.1 = 0) : d.1 ≤ c.1 ↔ t < i := by
  constructor
  · intro h
    by_cases ht : t < i
    · exact ht
    · have : t ≠ i := fun e => by
        subst e
        rw [hc] at hd
        cases hd
        omega
      have := order_le (show i < t by omega) hc hd
      unfold le3 at this
      simp only [decide_eq_true_eq] at this
      omega
  · intro h
    have := order_le h hd hc
    unfold le3 at this
    simp only [decide_eq_true_eq] at this
    omega
/-! the least rotation -/
theorem rot_least {mine theirs : List Int} (h : mine.length = theirs.length) {k : Nat} (hk : k < mine.length) {c d : Cd} (hc : (sideL mine theirs 1)[k]? = some c) (hd : (sideL mine theirs 0)[(prt mine.length (leastL mine theirs) k).toNat]? = some d) : (d.1 ≤ c.1) ↔ mine.length ≤ k + (leastL mine theirs).toNat := by
  obtain ⟨b0, b1⟩ := least_in h
  obtain ⟨i, hi, ki, s1⟩ := rank_at hc
  obtain ⟨t, ht, kt, s0⟩ := rank_at hd
  rw [win_iff hi ht s1 s0]
  have hil := (List.getElem?_eq_some_iff.mp hi).1
  have htl := (List.getElem?_eq_some_iff.mp ht).1
  unfold prt at kt
  obtain ⟨P, hP, eP⟩ := heights_mem (maxL_mem (heights_pos mine theirs))
  change leastL mine theirs = _ at eP
  rw [hgt_cnt _ hP] at eP
  have bi := fun p => before_of (p := p) hi
  have bt := fun p => before_of (p := p) ht
  rw [s1, ki] at bi
  rw [s0] at bt
  have hP1 := nS_le (mine := mine) (theirs := theirs) (i := P)
  constructor
  · intro hlt
    by_cases hn : mine.length ≤ k + (leastL mine theirs).toNat
    · exact hn
    · exfalso
      rw [if_neg (by omega)] at kt
      have h2 : hgt (orderL mine theirs) (t + 1) ≤ leastL mine theirs := maxL_ge (mem_heights (show t + 1 ≤ _ by omega))
      rw [hgt_cnt _ (by omega), nS_yes ht s0] at h2
      have h3 := (bi (t + 1)).mpr (by omega)
      omega
  · intro hn
    rw [if_pos (by omega)] at kt
    have h1 := (bt P).mpr (by omega)
    have h2 : ¬ i < P := fun z => by
      have := (bi P).mp z
      omega
    omega
theorem rot_most {mine theirs : List Int} (h : mine.length = theirs.length) {k : Nat} (hk : k < mine.length) {c d : Cd} (hc : (sideL mine theirs 1)[k]? = some c) (hd : (sideL mine theirs 0)[(prt mine.length (mostL mine theirs) k).toNat]? = some d) : (d.1 ≤ c.1) ↔ mine.length ≤ k + (mostL mine theirs).toNat := by
  obtain ⟨b0, b1⟩ := most_in h
  obtain ⟨i, hi, ki, s1⟩ := rank_at hc
  obtain ⟨t, ht, kt, s0⟩ := rank_at hd
  rw [win_iff hi ht s1 s0]
  have hil := (List.getElem?_eq_some_iff.mp hi).1
  have htl := (List.getElem?_eq_some_iff.mp ht).1
  unfold prt at kt
  obtain ⟨P, hP, eP⟩ := heights_mem (minL_mem (heights_pos mine theirs))
  have eP2 : mostL mine theirs = (mine.length : Int) + hgt (orderL mine theirs) P := by
    unfold mostL
    rw [eP]
  rw [hgt_cnt _ hP] at eP2
  have bi := fun p => before_of (p := p) hi
  have bt := fun p => before_of (p := p) ht
  rw [s1, ki] at bi
  rw [s0] at bt
  have hP1 := nS_le (mine := mine) (theirs := theirs) (i := P)
  constructor
  · intro hlt
    by_cases hn : mine.length ≤ k + (mostL mine theirs).toNat
    · exact hn
    · exfalso
      rw [if_neg (by omega)] at kt
      have h1 := (bi P).mpr (by omega)
      have h2 : ¬ t < P := fun z => by
        have := (bt P).mp z
        omega
      omega
  · intro hn
    rw [if_pos (by omega)] at kt
    have h2 : minL (heightsL mine theirs) ≤ hgt (orderL mine theirs) (i + 1) := minL_le (mem_heights (show i + 1 ≤ _ by omega))
    rw [hgt_cnt _ (by omega), nS_yes hi s1] at h2
    have h3 : mostL mine theirs = (mine.length : Int) + minL (heightsL mine theirs) := rfl
    have s00 : nS (orderL mine theirs) 0 (i + 1) = nS (orderL mine theirs) 0 i := nS_no hi (by omega)
    have h4 := (bt i).mpr (by omega)
    exact h4
/-! ### the rotation as a pairing -/
theorem ord_nodup (mine theirs : List Int) (s : Int) : (ordS mine theirs s).Nodup := by
  have h1 : (orderL mine theirs).Pairwise fun a b => a.2 ≠ b.2 := List.pairwise_map.mp (order_nodup mine theirs)
  have h2 : (sideL mine theirs s).Pairwise fun a b => a.2 ≠ b.2 := h1.filter _
  refine List.pairwise_map.mpr (List.Pairwise.imp_of_mem (fun ha hb hab e => hab (Prod.ext ?_ e)) h2)
  have ha := of_decide_eq_true (List.mem_filter.mp ha).2
  have hb := of_decide_eq_true (List.mem_filter.mp hb).2
  rw [ha, hb]
theorem ord_perm {mine theirs : List Int} (h : mine.length = theirs.length) {s : Int} (hs : s = 0 ∨ s = 1) : (ordS mine theirs s).Perm ((List.range mine.length).map fun i : Nat => (i : Int)) := by
  obtain ⟨p1, p0⟩ := side_perm mine theirs
  have hm : ∀ (s : Int) (xs : List Int), (half s xs xs.length).map (fun c => c.2.2) = (List.range xs.length).map fun i : Nat => (i : Int) := fun s xs => by
    unfold half
    rw [List.map_map]
    rfl
  unfold ordS
  rcases hs with rfl | rfl
  · rw [h, ← hm 0 theirs]
    exact p0.map _
  · rw [← hm 1 mine]
    exact p1.map _
theorem prt_in {n : Nat} {r : Int} {k : Nat} (r0 : 0 ≤ r) (r1 : r ≤ n) (hk : k < n) : 0 ≤ prt n r k ∧ prt n r k < n := by
  unfold prt
  split <;> omega
theorem prt_inj {n : Nat} {r : Int} {k l : Nat} (hk : k < n) (hl : l < n) (e : prt n r k = prt n r l) : k = l := by
  unfold prt at e
  split at e <;> split at e <;> omega
/-- what the rotation holds at my k-th card -/
theorem rotP_get {mo tos : List Int} {n : Nat} {r : Int} (hm : ∀ x ∈ mo, 0 ≤ x ∧ x < (n : Int)) (hn : mo.Nodup) : ∀ j, j ≤ mo.length → ∀ k, k < j → (rotP mo tos n r j).getD (mo.getD k 0).toNat 0 = tos.getD (prt n r k).toNat 0
  | 0, _, k, hk => by omega
  | j + 1, hj, k, hk => by
    show ((rotP mo tos n r j).set (mo.getD j 0).toNat (tos.getD (prt n r j).toNat 0)).getD _ 0 = _
    have hb := hm _ (getD_mem (z := 0) (show j < mo.length by omega))
    have ha := hm _ (getD_mem (z := 0) (show k < mo.length by omega))
    by_cases hkj : k = j
    · subst hkj
      rw [List.getD_eq_getElem?_getD, List.getElem?_set_self (by rw [rotP_len]; omega)]
      rfl
    · have hne : (mo.getD j 0).toNat ≠ (mo.getD k 0).toNat := fun e => by
        have e2 : mo.getD j 0 = mo.getD k 0 := by omega
        rw [List.getD_eq_getElem?_getD, List.getD_eq_getElem?_getD, List.getElem?_eq_getElem (by omega), List.getElem?_eq_getElem (by omega)] at e2
        exact hkj ((List.getElem_inj (by exact hn)).mp e2).symm
      rw [List.getD_eq_getElem?_getD, List.getElem?_set_ne hne, ← List.getD_eq_getElem?_getD]
      exact rotP_get hm hn j (by omega) k (by omega)
theorem rotL_len (mine theirs : List Int) (r : Int) : (rotL mine theirs r).length = mine.length := rotP_len _ _ _ _ _
theorem rotL_get {mine theirs : List Int} (h : mine.length = theirs.length) {r : Int} {k : Nat} (hk : k < mine.length) : (rotL mine theirs r).getD ((ordS mine theirs 1).getD k 0).toNat 0 = (ordS mine theirs 0).getD (prt mine.length r k).toNat 0 := by
  have hl := (ord_len (mine := mine) (theirs := theirs)).1
  exact rotP_get (fun x hx => ord_ix h hx) (ord_nodup _ _ _) _ (by omega) k hk
theorem ord_getD {mine theirs : List Int} {s : Int} {k : Nat} {c : Cd} (hc : (sideL mine theirs s)[k]? = some c) : (ordS mine theirs s).getD k 0 = c.2.2 := by
  unfold ordS
  rw [List.getD_eq_getElem?_getD, List.getElem?_map, hc]
  rfl
/-- every index is of one of my cards -/
theorem ord_has {mine theirs : List Int} (h : mine.length = theirs.length) {s : Int} (hs : s = 0 ∨ s = 1) {m : Nat} (hm : m < mine.length) : ∃ k, k < mine.length ∧ (ordS mine theirs s).getD k 0 = (m : Int) := by
  have : (m : Int) ∈ ordS mine theirs s := (ord_perm h hs).mem_iff.mpr (List.mem_map.mpr ⟨m, List.mem_range.mpr hm, rfl⟩)
  obtain ⟨k, hk, e⟩ := List.getElem_of_mem this
  have hl : (ordS mine theirs s).length = mine.length := by
    obtain ⟨l1, l0⟩ := ord_len (mine := mine) (theirs := theirs)
    rcases hs with rfl | rfl <;> omega
  exact ⟨k, by omega, by rw [List.getD_eq_getElem?_getD, List.getElem?_eq_getElem hk]; exact e⟩
theorem rot_isP {mine theirs : List Int} (h : mine.length = theirs.length) {r : Int} (r0 : 0 ≤ r) (r1 : r ≤ mine.length) : isP (rotL mine theirs r) mine.length := by
  obtain ⟨l1, l0⟩ := ord_len (mine := mine) (theirs := theirs)
  have key : ∀ m, m < mine.length → ∃ k, k < mine.length ∧ (rotL mine theirs r).getD m 0 = (ordS mine theirs 0).getD (prt mine.length r k).toNat 0 ∧ (ordS mine theirs 1).getD k 0 = (m : Int) := fun m hm => by
    obtain ⟨k, hk, e⟩ := ord_has h (.inr rfl) hm
    have := rotL_get h (r := r) hk
    rw [e, Int.toNat_natCast] at this
    exact ⟨k, hk, this, e⟩
  refine ⟨⟨fun x hx => ?_, ?_⟩, rotL_len _ _ _⟩
  · obtain ⟨m, hm, rfl⟩ := List.getElem_of_mem hx
    rw [rotL_len] at hm
    obtain ⟨k, hk, e, _⟩ := key m hm
    rw [List.getD_eq_getElem?_getD, List.getElem?_eq_getElem (by rw [rotL_len]; exact hm)] at e
    have hp := prt_in r0 r1 hk
    change (rotL mine theirs r)[m] = _ at e
    rw [e]
    exact ord_ix h (getD_mem (by omega))
  · refine List.pairwise_iff_getElem.mpr fun i j hi hj hij e => ?_
    rw [rotL_len] at hi hj
    obtain ⟨k, hk, e1, f1⟩ := key i hi
    obtain ⟨l, hl, e2, f2⟩ := key j hj
    rw [List.getD_eq_getElem?_getD, List.getElem?_eq_getElem (by rw [rotL_len]; exact hi)] at e1
    rw [List.getD_eq_getElem?_getD, List.getElem?_eq_getElem (by rw [rotL_len]; exact hj)] at e2
    change (rotL mine theirs r)[i] = _ at e1
    change (rotL mine theirs r)[j] = _ at e2
    rw [e1, e2] at e
    have hp1 := prt_in r0 r1 hk
    have hp2 := prt_in r0 r1 hl
    rw [List.getD_eq_getElem?_getD, List.getD_eq_getElem?_getD, List.getElem?_eq_getElem (by omega), List.getElem?_eq_getElem (by omega)] at e
    have e3 := (List.getElem_inj (ord_nodup mine theirs 0)).mp e
    have e4 : k = l := prt_inj (r := r) hk hl (by omega)
    subst e4
    omega
theorem count_ge (a : Nat) : ∀ n, ((List.range n).filter fun k => decide (a ≤ k)).length = n - a
  | 0 => by simp
  | n + 1 => by
    rw [List.range_succ, List.filter_append, List.length_append, count_ge a n]
    by_cases h : a ≤ n
    · rw [List.filter_cons_of_pos (by simpa using h)]
      simp
      omega
    · rw [List.filter_cons_of_neg (by simpa using h)]
      simp
      omega
/-- the wins of a rotation, by ranks -/
theorem wins_rot {mine theirs : List Int} (h : mine.length = theirs.length) {r : Int} (r0 : 0 ≤ r) (r1 : r ≤ mine.length)
    (hw : ∀ k, k < mine.length → ∀ c d, (sideL mine theirs 1)[k]? = some c → (sideL mine theirs 0)[(prt mine.length r k).toNat]? = some d → ((d.1 ≤ c.1) ↔ mine.length ≤ k + r.toNat)) : (winsL mine theirs (rotL mine theirs r)).length = r.toNat := by
  have hp : (List.range mine.length).Perm ((ordS mine theirs 1).map fun x => x.toNat) := by
    have := ((ord_perm h (s := 1) (.inr rfl)).map fun x : Int => x.toNat).symm
    rw [List.map_map] at this
    have e : (List.range mine.length).map ((fun x : Int => x.toNat) ∘ fun i : Nat => (i : Int)) = List.range mine.length := by
      refine (List.map_congr_left fun x _ => ?_).trans (List.map_id _)
      simp
    rw [e] at this
    exact this
  have hl : (ordS mine theirs 1).length = mine.length := ord_len.1
  have e2 : (ordS mine theirs 1).map (fun x => x.toNat) = (List.range mine.length).map fun k => ((ordS mine theirs 1).getD k 0).toNat := by
    refine List.ext_getElem (by simp [hl]) fun i h1 h2 => ?_
    rw [List.length_map] at h1
    simp only [List.getElem_map, List.getElem_range]
    rw [List.getD_eq_getElem?_getD, List.getElem?_eq_getElem h1]
    rfl
  unfold winsL
  rw [(hp.filter _).length_eq, e2, List.filter_map, List.length_map]
  have e3 : (List.range mine.length).filter (winB mine theirs (rotL mine theirs r) ∘ fun k => ((ordS mine theirs 1).getD k 0).toNat) = (List.range mine.length).filter fun k => decide (mine.length - r.toNat ≤ k) := List.filter_congr fun k hk => by
    rw [List.mem_range] at hk
    obtain ⟨c, hc⟩ := side_get h (.inr rfl) hk
    have hp := prt_in r0 r1 hk
    obtain ⟨d, hd⟩ := side_get h (.inl rfl) (k := (prt mine.length r k).toNat) (by omega)
    show decide (theirs.getD ((rotL mine theirs r).getD ((ordS mine theirs 1).getD k 0).toNat 0).toNat 0 ≤ mine.getD ((ordS mine theirs 1).getD k 0).toNat 0) = _
    rw [rotL_get h hk, ord_getD hc, ord_getD hd]
    obtain ⟨hcm, hcs⟩ := List.mem_filter.mp (List.mem_of_getElem? hc)
    obtain ⟨hdm, hds⟩ := List.mem_filter.mp (List.mem_of_getElem? hd)
    rw [← (card_theirs hdm (of_decide_eq_true hds)).1, ← (card_mine hcm (of_decide_eq_true hcs)).1]
    congr 1
    rw [eq_iff_iff, hw k hk c d hc hd]
    omega
  rw [e3, count_ge]
  omega
theorem wins_least {mine theirs : List Int} (h : mine.length = theirs.length) : ((winsL mine theirs (rotL mine theirs (leastL mine theirs))).length : Int) = leastL mine theirs := by
  obtain ⟨b0, b1⟩ := least_in h
  rw [wins_rot h b0 b1 fun k hk c d hc hd => rot_least h hk hc hd]
  omega
theorem wins_most {mine theirs : List Int} (h : mine.length = theirs.length) : ((winsL mine theirs (rotL mine theirs (mostL mine theirs))).length : Int) = mostL mine theirs := by
  obtain ⟨b0, b1⟩ := most_in h
  rw [wins_rot h b0 b1 fun k hk c d hc hd => rot_most h hk hc hd]
  omega
end Y
end S_M3

section S_M4
set_option maxHeartbeats 2000000
namespace Y
open PySem PySem.Spec PyProof.Rows L2
/-! ### the law's order of one side -/
theorem le2_trans (a b c : Int × Int) (h1 : le2 a b = true) (h2 : le2 b c = true) : le2 a c = true := by
  unfold le2 at *
  simp only [decide_eq_true_eq] at *
  omega
theorem le2_total (a b : Int × Int) : (le2 a b || le2 b a) = true := by
  unfold le2
  simp only [Bool.or_eq_true, decide_eq_true_eq]
  omega
def prsL (xs : List Int) : List (Int × Int) := (List.range xs.length).map fun i : Nat => (xs.getD i 0, (i : Int))
theorem one_side {mine theirs : List Int} {s : Int} {xs : List Int} (hp : (sideL mine theirs s).Perm (half s xs xs.length)) : ((prsL xs).mergeSort le2).map (fun p => p.2) = ordS mine theirs s := by
  have h : (prsL xs).mergeSort le2 = (sideL mine theirs s).map fun c => (c.1, c.2.2) := by
    refine List.Perm.eq_of_pairwise (le := fun a b => le2 a b = true) (fun a b _ _ h1 h2 => ?_) (List.pairwise_mergeSort le2_trans le2_total _) ?_ ?_
    · unfold le2 at h1 h2
      simp only [decide_eq_true_eq] at h1 h2
      exact Prod.ext (by omega) (by omega)
    · refine List.pairwise_map.mpr (List.Pairwise.imp_of_mem (fun {a b} ha hb hab => ?_) ((order_sorted mine theirs).filter _))
      have ha := of_decide_eq_true (List.mem_filter.mp ha).2
      have hb := of_decide_eq_true (List.mem_filter.mp hb).2
      unfold le3 at hab
      unfold le2
      simp only [decide_eq_true_eq] at *
      omega
    · refine (List.mergeSort_perm _ _).trans ?_
      have e : prsL xs = (half s xs xs.length).map fun c => (c.1, c.2.2) := by
        unfold half prsL
        rw [List.map_map]
        rfl
      rw [e]
      exact (hp.map _).symm
  rw [h, List.map_map]
  rfl
theorem ours_ord {mine theirs : List Int} : ((prsL mine).mergeSort le2).map (fun p => p.2) = ordS mine theirs 1 := one_side (side_perm mine theirs).1
theorem others_ord {mine theirs : List Int} : ((prsL theirs).mergeSort le2).map (fun p => p.2) = ordS mine theirs 0 := one_side (side_perm mine theirs).2
/-! ### the mates -/
theorem filter_take {mine theirs : List Int} (s : Int) (i : Nat) : ((orderL mine theirs).take i).filter (fun c => decide (c.2.1 = s)) = (sideL mine theirs s).take (nS (orderL mine theirs) s i) := by
  unfold sideL nS
  conv => rhs; rw [← List.take_append_drop i (orderL mine theirs), List.filter_append]
  rw [List.take_append_drop, List.take_left]
theorem cM_side {mine theirs : List Int} {my : List Int} {z : Int} (i : Nat) : cM (orderL mine theirs) my i z = (((ordS mine theirs 1).take (nS (orderL mine theirs) 1 i)).filter fun k => decide (my.getD k.toNat 0 = z)).length := by
  unfold cM ordS
  rw [← List.map_take, ← filter_take, List.filter_map, List.length_map, List.filter_filter]
  congr 1
  refine List.filter_congr fun c _ => ?_
  simp only [Function.comp]
  by_cases h : c.2.1 = 1 <;> simp [h]
theorem wQ_side {mine theirs : List Int} {lev : List Int} {z : Int} : wQ (orderL mine theirs) lev (orderL mine theirs).length z = (ordS mine theirs 0).filter fun k => decide (lev.getD k.toNat 0 = z) := by
  unfold wQ ordS sideL
  rw [List.take_length, List.filter_map, List.filter_filter]
  congr 1
  refine List.filter_congr fun c _ => ?_
  simp only [Function.comp]
  by_cases h : c.2.1 = 0 <;> simp [h]
/-- the law's way: my cards alone -/
def mtJ (mo : List Int) (my : List Int) (Q : Int → List Int) (n : Nat) : Nat → List Int
  | 0 => List.replicate n 0
  | j + 1 => (mtJ mo my Q n j).set (mo.getD j 0).toNat ((Q (my.getD (mo.getD j 0).toNat 0)).getD (((mo.take j).filter fun k => decide (my.getD k.toNat 0 = my.getD (mo.getD j 0).toNat 0)).length) 0)
theorem mtJ_len (mo my : List Int) (Q : Int → List Int) (n : Nat) : ∀ j, (mtJ mo my Q n j).length = n
  | 0 => by simp [mtJ]
  | j + 1 => by rw [mtJ, List.length_set, mtJ_len mo my Q n j]
theorem mt_same {mine theirs my : List Int} {Q : Int → List Int} {n : Nat} : ∀ i, i ≤ (orderL mine theirs).length → mtP (orderL mine theirs) my Q n i = mtJ (ordS mine theirs 1) my Q n (nS (orderL mine theirs) 1 i)
  | 0, _ => by simp [mtP, mtJ, nS]
  | i + 1, h => by
    obtain ⟨c, hc⟩ : ∃ c, (orderL mine theirs)[i]? = some c := ⟨_, List.getElem?_eq_getElem (by omega)⟩
    have ih := mt_same (mine := mine) (theirs := theirs) (my := my) (Q := Q) (n := n) i (by omega)
    by_cases hs : c.2.1 = 1
    · have h2 := side_at hc
      rw [hs] at h2
      rw [mtP_yes hc hs, nS_yes hc hs, mtJ, ord_getD h2, ih, cM_side]
    · rw [mtP_no hc hs, nS_no hc hs, ih]
theorem mates_J {mine theirs : List Int} : matesL mine theirs = mtJ (ordS mine theirs 1) (levelsL mine theirs 1) (fun z => (ordS mine theirs 0).filter fun k => decide ((levelsL mine theirs 0).getD k.toNat 0 = z)) mine.length mine.length := by
  have h := mt_same (mine := mine) (theirs := theirs) (my := levelsL mine theirs 1) (Q := wQ (orderL mine theirs) (levelsL mine theirs 0) (orderL mine theirs).length) (n := mine.length) _ (Nat.le_refl _)
  have e : nS (orderL mine theirs) 1 (orderL mine theirs).length = mine.length := by
    unfold nS
    rw [List.take_length]
    exact side_len.1
  rw [e] at h
  unfold matesL
  rw [h]
  congr 1
  funext z
  exact wQ_side
theorem mates_len (mine theirs : List Int) : (matesL mine theirs).length = mine.length := mtP_len _ _ _ _ _
/-- what stands at my card -/
theorem mtP_get {mine theirs : List Int} (hl : mine.length = theirs.length) {my : List Int} {Q : Int → List Int} {i : Nat} {c : Cd} (hc : (orderL mine theirs)[i]? = some c) (hs : c.2.1 = 1) : ∀ j, i < j → j ≤ (orderL mine theirs).length → (mtP (orderL mine theirs) my Q mine.length j).getD c.2.2.toNat 0 = (Q (my.getD c.2.2.toNat 0)).getD (cM (orderL mine theirs) my i (my.getD c.2.2.toNat 0)) 0
  | 0, h, _ => by omega
  | j + 1, h, hj1 => by
    have hcm := order_ix hl (List.mem_of_getElem? hc)
    by_cases hj : i = j
    · subst hj
      rw [mtP_yes hc hs, List.getD_eq_getElem?_getD, List.getElem?_set_self (by rw [mtP_len]; omega)]
      rfl
    · have ih := mtP_get hl (my := my) (Q := Q) hc hs j (by omega) (by omega)
      obtain ⟨d, hd⟩ : ∃ d, (orderL mine theirs)[j]? = some d := ⟨_, List.getElem?_eq_getElem (by omega)⟩
      by_cases hs2 : d.2.1 = 1
      · rw [mtP_yes hd hs2]
        have hdm := order_ix hl (List.mem_of_getElem? hd)
        have hne : d.2.2.toNat ≠ c.2.2.toNat := fun e => hj (order_inj hc hd (Prod.ext (by omega) (by omega)))
        rw [List.getD_eq_getElem?_getD, List.getElem?_set_ne hne, ← List.getD_eq_getElem?_getD]
        exact ih
      · rw [mtP_no hd hs2]
        exact ih
/-- the mate of m: its place, its level, its rank in its queue -/
theorem mate_of {mine theirs : List Int} (h : mine.length = theirs.length) {m : Nat} (hm : m < mine.length) : ∃ i c, (orderL mine theirs)[i]? = some c ∧ c.2 = (1, (m : Int)) ∧
    (matesL mine theirs).getD m 0 = (wQ (orderL mine theirs) (levelsL mine theirs 0) (orderL mine theirs).length ((levelsL mine theirs 1).getD m 0)).getD (cM (orderL mine theirs) (levelsL mine theirs 1) i ((levelsL mine theirs 1).getD m 0)) 0 ∧
    cM (orderL mine theirs) (levelsL mine theirs 1) i ((levelsL mine theirs 1).getD m 0) < (wQ (orderL mine theirs) (levelsL mine theirs 0) (orderL mine theirs).length ((levelsL mine theirs 1).getD m 0)).length := by
  obtain ⟨k, hk, e⟩ := ord_has h (.inr rfl) hm
  obtain ⟨c, hc⟩ := side_get h (.inr rfl) hk
  rw [ord_getD hc] at e
  obtain ⟨i, hi, ki, hs⟩ := rank_at hc
  have e2 : c.2.2.toNat = m := by omega
  have h1 := mtP_get h (my := levelsL mine theirs 1) (Q := wQ (orderL mine theirs) (levelsL mine theirs 0) (orderL mine theirs).length) hi hs _ (List.getElem?_eq_some_iff.mp hi).1 (Nat.le_refl _)
  have h2 := mate_room h hi hs
  rw [e2] at h1 h2
  exact ⟨i, c, hi, Prod.ext hs e, h1, h2⟩
theorem wQ_mem {mine theirs : List Int} {z x : Int} (h : x ∈ wQ (orderL mine theirs) (levelsL mine theirs 0) (orderL mine theirs).length z) : x ∈ ordS mine theirs 0 ∧ (levelsL mine theirs 0).getD x.toNat 0 = z := by
  rw [wQ_side] at h
  obtain ⟨h1, h2⟩ := List.mem_filter.mp h
  exact ⟨h1, of_decide_eq_true h2⟩
theorem mates_level {mine theirs : List Int} (h : mine.length = theirs.length) {m : Nat} (hm : m < mine.length) : (0 ≤ (matesL mine theirs).getD m 0 ∧ (matesL mine theirs).getD m 0 < mine.length) ∧ (levelsL mine theirs 0).getD ((matesL mine theirs).getD m 0).toNat 0 = (levelsL mine theirs 1).getD m 0 := by
  obtain ⟨i, c, hi, hc, e, hr⟩ := mate_of h hm
  have h1 := wQ_mem (getD_mem (z := 0) hr)
  rw [e]
  exact ⟨ord_ix h h1.1, h1.2⟩
theorem cM_inj {mine theirs my : List Int} {z : Int} {i j : Nat} {c d : Cd} (hc : (orderL mine theirs)[i]? = some c) (hd : (orderL mine theirs)[j]? = some d) (h1 : c.2.1 = 1) (h2 : d.2.1 = 1) (z1 : my.getD c.2.2.toNat 0 = z) (z2 : my.getD d.2.2.toNat 0 = z) (e : cM (orderL mine theirs) my i z = cM (orderL mine theirs) my j z) : i = j := by
  have a1 := cM_yes (lev := my) z hc h1
  have a2 := cM_yes (lev := my) z hd h2
  rw [if_pos z1.symm] at a1
  rw [if_pos z2.symm] at a2
  rcases Nat.lt_trichotomy i j with hij | hij | hij
  · have := cM_mono (cs := orderL mine theirs) (lev := my) z (show i + 1 ≤ j by omega)
    omega
  · exact hij
  · have := cM_mono (cs := orderL mine theirs) (lev := my) z (show j + 1 ≤ i by omega)
    omega
theorem getD_inj {α : Type} {xs : List α} {z : α} (hn : xs.Nodup) {i j : Nat} (hi : i < xs.length) (hj : j < xs.length) (e : xs.getD i z = xs.getD j z) : i = j := by
  rw [List.getD_eq_getElem?_getD, List.getD_eq_getElem?_getD, List.getElem?_eq_getElem hi, List.getElem?_eq_getElem hj] at e
  exact (List.getElem_inj hn).mp e
theorem mates_isP {mine theirs : List Int} (h : mine.length = theirs.length) : isP (matesL mine theirs) mine.length := by
  have get : ∀ m (hm : m < (matesL mine theirs).length), (matesL mine theirs)[m] = (matesL mine theirs).getD m 0 := fun m hm => by
    rw [List.getD_eq_getElem?_getD, List.getElem?_eq_getElem hm]
    rfl
  refine ⟨⟨fun x hx => ?_, ?_⟩, mates_len _ _⟩
  · obtain ⟨m, hm, rfl⟩ := List.getElem_of_mem hx
    rw [get m hm]
    rw [mates_len] at hm
    exact (mates_level h hm).1
  · refine List.pairwise_iff_getElem.mpr fun a b ha hb hab e => ?_
    rw [get a ha, get b hb] at e
    rw [mates_len] at ha hb
    have la := (mates_level h ha).2
    have lb := (mates_level h hb).2
    rw [e, lb] at la
    obtain ⟨i, c, hi, hc, e1, r1⟩ := mate_of h ha
    obtain ⟨j, d, hj, hd, e2, r2⟩ := mate_of h hb
    rw [← la] at e1 r1
    rw [e1, e2] at e
    have hn : (wQ (orderL mine theirs) (levelsL mine theirs 0) (orderL mine theirs).length ((levelsL mine theirs 1).getD b 0)).Nodup := by
      rw [wQ_side]
      exact (ord_nodup _ _ _).filter _
    have e3 := getD_inj hn r1 r2 e
    have hc1 : c.2.1 = 1 := by rw [hc]
    have hd1 : d.2.1 = 1 := by rw [hd]
    have hc2 : c.2.2.toNat = a := by rw [hc]; simp
    have hd2 : d.2.2.toNat = b := by rw [hd]; simp
    have := cM_inj hi hj hc1 hd1 (by rw [hc2, la]) (by rw [hd2]) e3
    subst this
    rw [hi] at hj
    cases hj
    omega
theorem mates_show {mine theirs : List Int} (h : mine.length = theirs.length) : showsRow mine theirs (rowL mine theirs) (matesL mine theirs) = true := by
  unfold showsRow
  rw [decide_eq_true (mates_isP h), decide_eq_true (show rowL mine theirs = (levelsL mine theirs 1).mergeSort leI from rfl), decide_eq_true fun m hm => ?_]
  · rfl
  · unfold matesB
    exact decide_eq_true (mates_level h hm).2.symm
/-! ### first places -/
theorem first_spec {walk : List Int} {v : Int} (h : v ∈ walk) : firstAt walk v < walk.length ∧ walk.getD (firstAt walk v) 0 = v ∧ ∀ i, i < firstAt walk v → walk.getD i 0 ≠ v := by
  have hp := places_pos h
  have hm : firstAt walk v ∈ placesL walk v := getD_mem hp
  obtain ⟨h1, h2⟩ := List.mem_filter.mp hm
  refine ⟨List.mem_range.mp h1, of_decide_eq_true h2, fun i hi e => ?_⟩
  have hs : (placesL walk v).Pairwise (· < ·) := List.pairwise_lt_range.filter _
  have him : i ∈ placesL walk v := List.mem_filter.mpr ⟨List.mem_range.mpr (by have := List.mem_range.mp h1; omega), decide_eq_true e⟩
  obtain ⟨k, hk, e2⟩ := List.getElem_of_mem him
  unfold firstAt at hi
  rw [List.getD_eq_getElem?_getD, List.getElem?_eq_getElem hp] at hi
  change i < (placesL walk v)[0] at hi
  by_cases hk0 : k = 0
  · subst hk0
    omega
  · have := List.pairwise_iff_getElem.mp hs 0 k hp hk (by omega)
    omega
/-! ### the papers are seen to be right -/
theorem span_looks {mine theirs : List Int} (h : mine.length = theirs.length) (tag : List Nat) : lookSpan mine theirs ⟨tag, leastL mine theirs, (firstAt (heightsL mine theirs) (maxL (heightsL mine theirs)) : Nat), rotL mine theirs (leastL mine theirs), mostL mine theirs, (firstAt (heightsL mine theirs) (minL (heightsL mine theirs)) : Nat), rotL mine theirs (mostL mine theirs)⟩ = true := by
  obtain ⟨a0, a1⟩ := least_in h
  obtain ⟨b0, b1⟩ := most_in h
  obtain ⟨f1, f2, f3⟩ := first_spec (maxL_mem (heights_pos mine theirs))
  obtain ⟨g1, g2, g3⟩ := first_spec (minL_mem (heights_pos mine theirs))
  unfold lookSpan
  simp only [Bool.and_eq_true, decide_eq_true_eq]
  have p1 := rot_isP h a0 a1
  have p2 := rot_isP h b0 b1
  have w1 := wins_least h
  have w2 := wins_most h
  have h1 : heightAt (heightsL mine theirs) (firstAt (heightsL mine theirs) (maxL (heightsL mine theirs)) : Nat) = some (leastL mine theirs) := by
    unfold heightAt
    rw [if_neg (by omega), Int.toNat_natCast, f2]
    rfl
  have h2 : heightAt (heightsL mine theirs) (firstAt (heightsL mine theirs) (minL (heightsL mine theirs)) : Nat) = some (mostL mine theirs - mine.length) := by
    unfold heightAt
    rw [if_neg (by omega), Int.toNat_natCast, g2]
    congr 1
    unfold mostL
    omega
  simp_all
end Y
end S_M4

section S_M5
set_option maxHeartbeats 2000000
namespace Y
open PySem PySem.Spec PyProof.Rows L2
/-! ### sorted to 0, 1, .. -/
def idL (n : Nat) : List Int := (List.range n).map fun k : Nat => (k : Int)
theorem leI_trans (a b c : Int) (h1 : leI a b = true) (h2 : leI b c = true) : leI a c = true := by
  unfold leI at *
  simp only [decide_eq_true_eq] at *
  omega
theorem leI_total (a b : Int) : (leI a b || leI b a) = true := by
  unfold leI
  simp only [Bool.or_eq_true, decide_eq_true_eq]
  omega
theorem idL_len (n : Nat) : (idL n).length = n := by simp [idL]
theorem strict_id {n : Nat} {ys : List Int} (hl : ys.length = n) (hs : ys.Pairwise (· < ·)) (hb : ∀ y ∈ ys, 0 ≤ y ∧ y < (n : Int)) : ys = idL n := by
  have g : ∀ i j (hi : i < ys.length) (hj : j < ys.length), i < j → ys[i] < ys[j] := fun i j hi hj h => List.pairwise_iff_getElem.mp hs i j hi hj h
  have low : ∀ i (hi : i < ys.length), (i : Int) ≤ ys[i] := by
    intro i
    induction i with
    | zero =>
      intro hi
      exact (hb _ (List.getElem_mem hi)).1
    | succ i ih =>
      intro hi
      have h1 := ih (by omega)
      have h2 := g i (i + 1) (by omega) hi (by omega)
      omega
  have up : ∀ k i (hi : i < ys.length), i + k + 1 = n → ys[i] ≤ (i : Int) := by
    intro k
    induction k with
    | zero =>
      intro i hi e
      have := (hb _ (List.getElem_mem hi)).2
      omega
    | succ k ih =>
      intro i hi e
      have h1 := ih (i + 1) (by omega) (by omega)
      have h2 := g i (i + 1) hi (by omega) (by omega)
      omega
  refine List.ext_getElem (by rw [hl, idL_len]) fun i h1 h2 => ?_
  have e : (idL n)[i] = (i : Int) := by simp [idL]
  rw [e]
  have := low i h1
  have := up (n - i - 1) i h1 (by omega)
  omega
theorem sort_isP (xs : List Int) (n : Nat) : xs.mergeSort leI = idL n ↔ isP xs n := by
  have hp : (xs.mergeSort leI).Perm xs := List.mergeSort_perm _ _
  constructor
  · intro h
    rw [h] at hp
    refine ⟨⟨fun x hx => ?_, ?_⟩, ?_⟩
    · obtain ⟨k, hk, rfl⟩ := List.mem_map.mp (hp.mem_iff.mpr hx)
      rw [List.mem_range] at hk
      omega
    · refine hp.nodup_iff.mp ?_
      exact List.Pairwise.map _ (fun a b hab e => hab (by omega)) List.nodup_range
    · rw [← hp.length_eq, idL_len]
  · rintro ⟨⟨h1, h2⟩, h3⟩
    refine strict_id (by rw [hp.length_eq, h3]) ?_ fun y hy => h1 y (hp.mem_iff.mp hy)
    have s1 : (xs.mergeSort leI).Pairwise fun a b => leI a b = true := List.pairwise_mergeSort leI_trans leI_total _
    have s2 : (xs.mergeSort leI).Pairwise (· ≠ ·) := hp.nodup_iff.mpr h2
    refine (s1.and s2).imp fun {a b} h => ?_
    have := h.1
    unfold leI at this
    simp only [decide_eq_true_eq] at this
    have := h.2
    omega
theorem sort_dec (xs : List Int) (n : Nat) : decide (xs.mergeSort leI = idL n) = decide (isP xs n) := by
  by_cases h : isP xs n
  · rw [decide_eq_true h, decide_eq_true ((sort_isP xs n).mpr h)]
  · rw [decide_eq_false h, decide_eq_false fun z => h ((sort_isP xs n).mp z)]
/-- the law's test of the mates -/
theorem mates_dec {mine theirs partners : List Int} (hp : isP partners mine.length) : decide ((partners.map fun t => (levelsL mine theirs 0).getD t.toNat 0) = levelsL mine theirs 1) = decide (∀ m, m < mine.length → matesB mine theirs partners m = true) := by
  congr 1
  rw [eq_iff_iff]
  have hl := hp.2
  constructor
  · intro h m hm
    unfold matesB
    refine decide_eq_true ?_
    rw [← h, List.getD_eq_getElem?_getD, List.getElem?_map, List.getElem?_eq_getElem (by omega), List.getD_eq_getElem?_getD (l := partners), List.getElem?_eq_getElem (by omega)]
    rfl
  · intro h
    refine List.ext_getElem (by rw [List.length_map, lev_len, hl]) fun i h1 h2 => ?_
    rw [lev_len] at h2
    have := of_decide_eq_true (h i h2)
    rw [List.getD_eq_getElem?_getD, List.getElem?_eq_getElem (by rw [lev_len]; omega), List.getD_eq_getElem?_getD (l := partners), List.getElem?_eq_getElem (by omega)] at this
    simp only [List.getElem_map]
    exact this.symm
theorem letters_iff : ∀ {ws : List Nat}, letters ws ↔ ws.count 77 + ws.count 84 = ws.length
  | [] => by simp [letters]
  | c :: ws => by
    have hc1 : ws.count 77 ≤ ws.length := List.count_le_length
    have both : ∀ ws : List Nat, ws.count 77 + ws.count 84 ≤ ws.length := fun ws => by
      induction ws with
      | nil => simp
      | cons d ws ih =>
        rw [List.count_cons, List.count_cons, List.length_cons]
        by_cases h1 : d = 77 <;> by_cases h2 : d = 84
        · omega
        · simp [h1]
          omega
        · simp [h2]
          omega
        · simp [h1, h2]
          omega
    constructor
    · exact letters_cnt
    · intro h
      have ih := letters_iff (ws := ws)
      have hb := both ws
      rw [List.count_cons, List.count_cons, List.length_cons] at h
      have h9 : (c = 77 ∨ c = 84) ∧ ws.count 77 + ws.count 84 = ws.length := by
        by_cases h1 : c = 77
        · subst h1
          refine ⟨.inl rfl, ?_⟩
          simp at h
          omega
        · by_cases h2 : c = 84
          · subst h2
            refine ⟨.inr rfl, ?_⟩
            simp at h
            omega
          · exfalso
            simp [h1, h2] at h
            omega
      intro d hd
      rcases List.mem_cons.mp hd with rfl | hd
      · exact h9.1
      · exact ih.mpr h9.2 d hd
theorem letters_all (ws : List Nat) : ((ws.map fun c => decide (c ∈ [77, 84])).all id) = decide (ws.count 77 + ws.count 84 = ws.length) := by
  rw [Bool.eq_iff_iff, decide_eq_true_eq, ← letters_iff, List.all_eq_true]
  constructor
  · intro h c hc
    have := h _ (List.mem_map.mpr ⟨c, hc, rfl⟩)
    simpa using this
  · intro h b hb
    obtain ⟨c, hc, rfl⟩ := List.mem_map.mp hb
    have := h c hc
    simpa using this
end Y
end S_M5

section S_F7
set_option maxHeartbeats 2000000
namespace Y
open PySem PySem.Spec PyProof.Rows L2
/-! ### what is drawn -/
def cellV (ns : List Int) (k : Int) : Int := if k < ns.length then ns.getD k.toNat 0 else if 0 < ns.length then ns.getD 0 0 + 104729 * (k + 1) else 104729 * (k + 1)
def mixA (f : Int) (k : Nat) : Int := (f + 7919 * (k : Int) + 13) % 2147483647
def mixB (f : Int) (k : Nat) : Int := (mixA f k * (mixA f k + 48271)) % 2147483629
def mixC (f : Int) (k : Nat) : Int := (mixB f k * (mixB f k + 69621) + 31 * (k : Int)) % 2147483647
def drawV (g : Bool) (f : Int) (sz : List Int) : Nat → Int × List Int
  | 0 => (f, [])
  | k + 1 => if g = true ∧ 0 < (drawV g f sz k).1 then ((drawV g f sz k).1 / sz.getD k 0, (drawV g f sz k).2 ++ [(drawV g f sz k).1 % sz.getD k 0]) else ((drawV g f sz k).1, (drawV g f sz k).2 ++ [mixC f k / 9 % sz.getD k 0])
def absV (c : Int) : Int := if c < 0 then -c else c
def drawsL (c : Int) (sz : List Int) : List Int := (drawV (decide (1000000000000000000 ≤ absV c)) (absV c) sz sz.length).2
theorem drawV_yes {g : Bool} {f : Int} {sz : List Int} {k : Nat} (h : g = true ∧ 0 < (drawV g f sz k).1) : drawV g f sz (k + 1) = ((drawV g f sz k).1 / sz.getD k 0, (drawV g f sz k).2 ++ [(drawV g f sz k).1 % sz.getD k 0]) := by
  show (if _ then _ else _) = _
  rw [if_pos h]
theorem drawV_no {g : Bool} {f : Int} {sz : List Int} {k : Nat} (h : ¬ (g = true ∧ 0 < (drawV g f sz k).1)) : drawV g f sz (k + 1) = ((drawV g f sz k).1, (drawV g f sz k).2 ++ [mixC f k / 9 % sz.getD k 0]) := by
  show (if _ then _ else _) = _
  rw [if_neg h]
theorem drawV_len (g : Bool) (f : Int) (sz : List Int) : ∀ k, (drawV g f sz k).2.length = k
  | 0 => rfl
  | k + 1 => by
    unfold drawV
    split <;> simp [drawV_len g f sz k]
theorem draws_len (c : Int) (sz : List Int) : (drawsL c sz).length = sz.length := drawV_len _ _ _ _
theorem drawV_in (g : Bool) (f : Int) (sz : List Int) (h : ∀ s ∈ sz, 0 < s) : ∀ k, k ≤ sz.length → ∀ i, i < k → 0 ≤ (drawV g f sz k).2.getD i 0 ∧ (drawV g f sz k).2.getD i 0 < sz.getD i 0
  | 0, _, i, hi => by omega
  | k + 1, hk, i, hi => by
    have hs : 0 < sz.getD k 0 := h _ (getD_mem (by omega))
    have key : ∀ x : Int, 0 ≤ ((drawV g f sz k).2 ++ [x % sz.getD k 0]).getD i 0 ∧ ((drawV g f sz k).2 ++ [x % sz.getD k 0]).getD i 0 < sz.getD i 0 := fun x => by
      by_cases hik : i < k
      · rw [List.getD_eq_getElem?_getD, List.getElem?_append_left (by rw [drawV_len]; exact hik), ← List.getD_eq_getElem?_getD]
        exact drawV_in g f sz h k (by omega) i hik
      · have : i = k := by omega
        subst this
        have hl := drawV_len g f sz i
        rw [List.getD_eq_getElem?_getD, List.getElem?_append_right (by omega), hl, Nat.sub_self]
        exact ⟨Int.emod_nonneg _ (by omega), Int.emod_lt_of_pos _ hs⟩
    unfold drawV
    split
    · exact key _
    · exact key _
theorem draws_in {c : Int} {sz : List Int} (h : ∀ s ∈ sz, 0 < s) {i : Nat} (hi : i < sz.length) : 0 ≤ (drawsL c sz).getD i 0 ∧ (drawsL c sz).getD i 0 < sz.getD i 0 := drawV_in _ _ _ h _ (Nat.le_refl _) i hi
theorem small_mul {i j : Int} (h1 : -1000000000000000000 < i) (h2 : i < 1000000000000000000) : CMul i j := .inl ⟨by omega, by omega⟩
theorem small_div {i j : Int} (h1 : 0 < j) (h2 : j < 10000000000000000) : CDivW i j := ⟨h1, by
  have h3 : j.natAbs < 2 ^ 64 := by omega
  by_cases hz : j.natAbs = 0
  · rw [hz]
    decide
  · have := (Nat.log2_lt hz).mpr h3
    omega⟩
theorem ev_ixScrG {X : Cx} {ρ : Rho} {a b : Expr} {pos : Pos} {i : Int} {ns : List Int} (ha : Ev X ρ a (.scr ns)) (hb : Ev X ρ b (.int i)) (h0 : 0 ≤ i) (h1 : i < ns.length) (hs : PlainIx b := by exact fun _ _ => rfl) : Ev X ρ (.Subscript a b pos) (.int (ns.getD i.toNat 0)) := ev_ixScr ha hb (at_int 0 h0 h1) hs
section
variable {P : Program} {w : World} {K : PySem.W.Frag} {mg : Str → Option Value} {base : Heap}
theorem c_law_cell (T : Tx K mg) {ns : List Int} {k : Int} (h0 : 0 ≤ k) (h1 : k ≤ 1000) : Cal P w K mg base 1 "_law_cell" [.scr ns, .int k] (.int (cellV ns k)) := by
  refine cal_of T.d_law_cell sc_law_cell (fun _ _ _ _ _ _ us hl => match us, hl with | [_, _], _ => rfl) rfl fun Y hr => ?_
  have nd := sc_law_cell.nd
  show Bd _ [.val _, .val _] _ _
  refine bd_ifRet (et_cmp (ec_lt (ev_var (nm 1 rfl (.inl rfl) rfl rfl) rfl) (ev_lenScr T.b_len (ev_var (nm 0 rfl (.inl rfl) rfl rfl) rfl) rfl rfl rfl)) (nomark _ (by decide) (by decide))) (fun e => bd_one (sd_ret (ev_intI T.b_int (ev_ixScrG (ev_var (nm 0 rfl (.inl rfl) rfl rfl) rfl) (ev_var (nm 1 rfl (.inl rfl) rfl rfl) rfl) ?_ ?_ (fun _ _ => rfl)) rfl rfl rfl) ?_)) fun e => ?_
  · exact h0
  · exact of_decide_eq_true e
  · show D.int _ = D.int _
    rw [cellV, if_pos (of_decide_eq_true e)]
  refine bd_ifRet (et_cmp (ec_gt (ev_lenScr T.b_len (ev_var (nm 0 rfl (.inl rfl) rfl rfl) rfl) rfl rfl rfl) ev_int) (nomark _ (by decide) (by decide))) (fun e2 => bd_one (sd_ret (ev_add (ev_intI T.b_int (ev_ixScrG (ev_var (nm 0 rfl (.inl rfl) rfl rfl) rfl) ev_int ?_ ?_ (fun _ _ => rfl)) rfl rfl rfl) (ev_mul ev_int (ev_add (ev_var (nm 1 rfl (.inl rfl) rfl rfl) rfl) ev_int) ?_)) ?_)) fun e2 => bd_one (sd_ret (ev_mul ev_int (ev_add (ev_var (nm 1 rfl (.inl rfl) rfl rfl) rfl) ev_int) ?_) ?_)
  · decide
  · exact of_decide_eq_true e2
  · exact small_mul (by decide) (by decide)
  · show D.int _ = D.int _
    rw [cellV, if_neg (of_decide_eq_false e), if_pos (by have := of_decide_eq_true e2; omega)]
    rfl
  · exact small_mul (by decide) (by decide)
  · show D.int _ = D.int _
    rw [cellV, if_neg (of_decide_eq_false e), if_neg (by have := of_decide_eq_false e2; omega)]
theorem c_law_draws (T : Tx K mg) {c : Int} {sz : List Int} (h1 : sz.length ≤ 1000) (h2 : ∀ s ∈ sz, 0 < s ∧ s < 10000000000000000) : Cal P w K mg base 1 "_law_draws" [.int c, lI sz] (lI (drawsL c sz)) := by
  refine cal_of T.d_law_draws sc_law_draws (fun _ _ _ _ _ _ us hl => match us, hl with | [_, _], _ => rfl) rfl fun Y hr => ?_
  have nd := sc_law_draws.nd
  show Bd _ [.val _, .val _, .any, .any, .any, .any, .any, .any] _ _
  refine bd_seq1 (sd_asg (k := 2) nd rfl (.inl rfl) (Ev.cast (d' := D.int (absV c)) (ev_abs T.b_abs (ev_intI T.b_int (ev_var (nm 0 rfl (.inl rfl) rfl rfl) rfl) rfl rfl rfl) rfl rfl rfl) ?_) rfl rfl (.inl rfl)) (bd_seq1 (sd_asg (k := 3) nd rfl (.inl rfl) (Ev.cast (d' := D.bl (decide (1000000000000000000 ≤ absV c))) (ev_cmp (ec_ge (ev_var (nm 2 rfl (.inl rfl) rfl rfl) rfl) (ev_pow ev_int ev_int ?_)) (nomark _ (by decide) (by decide))) ?_) rfl rfl (.inl rfl)) (bd_seq1 (sd_asg (k := 4) nd rfl (.inl rfl) (ev_var (nm 2 rfl (.inl rfl) rfl rfl) rfl) rfl rfl (.inl rfl)) (bd_seq1 (sd_asgN (k := 5) nd rfl (.inl rfl) (evn_lst ea_nil (Nat.le_of_ble_eq_true rfl)) rfl rfl (.inl rfl)) ?_)))
  · rfl
  · exact ⟨by decide, by decide, by decide⟩
  · rfl
  obtain ⟨f, hf⟩ : ∃ f, f = absV c := ⟨_, rfl⟩
  rw [← hf]
  obtain ⟨g, hg⟩ : ∃ g, g = decide (1000000000000000000 ≤ f) := ⟨_, rfl⟩
  rw [← hg]
  refine bd_for 6 (fun i => [.val (.int c), .val (lI sz), .val (.int (drawV g f sz i).1), .val (.bl g), .val (.int f), .own ((drawV g f sz i).2.map D.int), .any, .any]) (fun _ => True) PassesOwn.never rfl nd rfl (.inl rfl) (by repeat (first | exact Wk.nil | refine Wk.any ?_ | refine Wk.same ?_ | refine Wk.frz ?_)) (ei_rng1 T.b_range (ev_lenL T.b_len (Ev.l (ev_var (nm 1 rfl (.inl rfl) rfl rfl) rfl)) rfl rfl rfl) ?_ ?_ rfl rfl rfl) trivial ?_ ?_ (.inl rfl) (fun _ => rfl)
  · omega
  · omega
  · intro i d hd _
    obtain ⟨hi, rfl⟩ := rng_get hd
    rw [Int.toNat_natCast] at hi
    have hs := h2 _ (getD_mem (z := 0) hi)
    refine bd_if [.val (.int c), .val (lI sz), .val (.int (drawV g f sz (i + 1)).1), .val (.bl g), .val (.int f), .own ((drawV g f sz (i + 1)).2.map D.int), .any, .any] (EvW.t (ew_and (et_ev (ev_var (nm 3 rfl (.inl rfl) rfl rfl) rfl) (fun _ => rfl)) fun hb0 => (ew_and1 (et_cmp (ec_gt (ev_var (nm 2 rfl (.inl rfl) rfl rfl) rfl) ev_int) (nomark _ (by decide) (by decide)))))) (fun e => ?_) (fun e => ?_) (bd_nil ⟨(by repeat (first | exact Wk.nil | refine Wk.any ?_ | refine Wk.same ?_ | refine Wk.frz ?_)), trivial⟩)
    · have e1 : g = true ∧ 0 < (drawV g f sz i).1 := by simpa using e
      refine bd_seq1 (sd_app (k := 5) (nm 5 rfl (.inl rfl) rfl rfl) rfl (ev_mod (ev_intI T.b_int (ev_var (nm 2 rfl (.inl rfl) rfl rfl) rfl) rfl rfl rfl) (ev_ixN (0 : Int) (Ev.l (ev_var (nm 1 rfl (.inl rfl) rfl rfl) rfl)) (ev_var (nm 6 rfl (.inl rfl) rfl rfl) rfl) ?_ (fun _ _ => rfl)) ?_) ?_ rfl rfl rfl rfl rfl rfl rfl) (bd_seq1 (sd_asg (k := 2) nd rfl (.inl rfl) (ev_fdiv (ev_var (nm 2 rfl (.inl rfl) rfl rfl) rfl) (ev_ixN (0 : Int) (Ev.l (ev_var (nm 1 rfl (.inl rfl) rfl rfl) rfl)) (ev_var (nm 6 rfl (.inl rfl) rfl rfl) rfl) ?_ (fun _ _ => rfl)) ?_) rfl rfl (.inl rfl)) (bd_nil ?_))
      · exact hi
      · exact hs.1
      · rw [List.length_map, drawV_len]
        omega
      · exact hi
      · exact small_div hs.1 hs.2
      · rw [drawV_yes e1, List.map_append]
        exact (by repeat (first | exact Wk.nil | refine Wk.any ?_ | refine Wk.same ?_ | refine Wk.frz ?_))
    · have e1 : ¬ (g = true ∧ 0 < (drawV g f sz i).1) := by simpa using e
      refine bd_seq1 (sd_asg (k := 7) nd rfl (.inl rfl) (Ev.cast (d' := D.int (mixA f i)) (ev_mod (ev_intI T.b_int (ev_add (ev_add (ev_var (nm 4 rfl (.inl rfl) rfl rfl) rfl) (ev_mul ev_int (ev_var (nm 6 rfl (.inl rfl) rfl rfl) rfl) ?_)) ev_int) rfl rfl rfl) ev_int ?_) ?_) rfl rfl (.inl rfl)) (bd_seq1 (sd_asg (k := 7) nd rfl (.inl rfl) (Ev.cast (d' := D.int (mixB f i)) (ev_mod (ev_intI T.b_int (ev_mul (ev_var (nm 7 rfl (.inl rfl) rfl rfl) rfl) (ev_add (ev_var (nm 7 rfl (.inl rfl) rfl rfl) rfl) ev_int) ?_) rfl rfl rfl) ev_int ?_) ?_) rfl rfl (.inl rfl)) (bd_seq1 (sd_asg (k := 7) nd rfl (.inl rfl) (Ev.cast (d' := D.int (mixC f i)) (ev_mod (ev_intI T.b_int (ev_add (ev_mul (ev_var (nm 7 rfl (.inl rfl) rfl rfl) rfl) (ev_add (ev_var (nm 7 rfl (.inl rfl) rfl rfl) rfl) ev_int) ?_) (ev_mul ev_int (ev_var (nm 6 rfl (.inl rfl) rfl rfl) rfl) ?_)) rfl rfl rfl) ev_int ?_) ?_) rfl rfl (.inl rfl)) (bd_seq1 (sd_app (k := 5) (nm 5 rfl (.inl rfl) rfl rfl) rfl (ev_mod (ev_intI T.b_int (ev_fdiv (ev_var (nm 7 rfl (.inl rfl) rfl rfl) rfl) ev_int ?_) rfl rfl rfl) (ev_ixN (0 : Int) (Ev.l (ev_var (nm 1 rfl (.inl rfl) rfl rfl) rfl)) (ev_var (nm 6 rfl (.inl rfl) rfl rfl) rfl) ?_ (fun _ _ => rfl)) ?_) ?_ rfl rfl rfl rfl rfl rfl rfl) (bd_nil ?_))))
      · exact small_mul (by decide) (by decide)
      · decide
      · rfl
      · have : 0 ≤ mixA f i := Int.emod_nonneg _ (by decide)
        have : mixA f i < 2147483647 := Int.emod_lt_of_pos _ (by decide)
        exact small_mul (by omega) (by omega)
      · decide
      · rfl
      · have : 0 ≤ mixB f i := Int.emod_nonneg _ (by decide)
        have : mixB f i < 2147483629 := Int.emod_lt_of_pos _ (by decide)
        exact small_mul (by omega) (by omega)
      · exact small_mul (by decide) (by decide)
      · decide
      · rfl
      · exact small_div (by decide) (by decide)
      · exact hi
      · exact hs.1
      · rw [List.length_map, drawV_len]
        omega
      · rw [drawV_no e1, List.map_append]
        exact (by repeat (first | exact Wk.nil | refine Wk.any ?_ | refine Wk.same ?_ | refine Wk.frz ?_))
  · intro _
    rw [List.length_map, List.length_range, Int.toNat_natCast]
    refine bd_wk (ρ' := [.any, .any, .any, .any, .any, .val (lI (drawV g f sz sz.length).2), .any, .any]) (by repeat (first | exact Wk.nil | refine Wk.any ?_ | refine Wk.same ?_ | refine Wk.frz ?_)) ?_
    refine bd_one (sd_ret (ev_var (nm 5 rfl (.inl rfl) rfl rfl) rfl) ?_)
    show D.lst _ = D.lst _
    rw [drawsL, ← hf, ← hg]
end
end Y
end S_F7

section S_F8
set_option maxHeartbeats 2000000
namespace Y
open PySem PySem.Spec PyProof.Rows L2
/-! ### hands, words, pairings as the law draws them -/
theorem sIx_pos {n d : Nat} {i : Int} (h : 0 ≤ i) : HT.sIx n d (some i) = min i.toNat n := by
  show (if i < 0 then (i + (n : Int)).toNat else min i.toNat n) = _
  rw [if_neg (by omega)]
theorem cut_pre {α : Type} (xs : List α) {i : Int} (h : 0 ≤ i) : cut xs none (some i) = xs.take i.toNat := by
  unfold cut
  have e0 : HT.sIx xs.length 0 none = 0 := rfl
  rw [sIx_pos h, e0, List.drop_zero, Nat.sub_zero]
  rcases Nat.le_total i.toNat xs.length with h1 | h1
  · rw [Nat.min_eq_left h1]
  · rw [Nat.min_eq_right h1, List.take_of_length_le (Nat.le_refl _), List.take_of_length_le h1]
theorem cut_suf {α : Type} (xs : List α) {i : Int} (h : 0 ≤ i) : cut xs (some i) none = xs.drop i.toNat := by
  unfold cut
  have e0 : HT.sIx xs.length xs.length none = xs.length := rfl
  rw [sIx_pos h, e0]
  rcases Nat.le_total i.toNat xs.length with h1 | h1
  · rw [Nat.min_eq_left h1, List.take_of_length_le (by rw [List.length_drop]; omega)]
  · rw [Nat.min_eq_right h1, List.drop_of_length_le (Nat.le_refl _), List.drop_of_length_le h1]
    simp
theorem cut_map {α β : Type} (f : α → β) (xs : List α) (lo hi : Option Int) : cut (xs.map f) lo hi = (cut xs lo hi).map f := by
  unfold cut
  rw [List.length_map, List.map_take, List.map_drop]
theorem map_const {α β : Type} (z : β) (n : Nat) (f : Nat → α) (g : β → α) (h : ∀ i, f i = g z) : (List.range n).map f = (List.replicate n z).map g := by
  rw [List.map_replicate]
  refine List.ext_getElem (by simp) fun i h1 h2 => ?_
  simp [h]
theorem comp_const {α β : Type} (z : β) (n : Nat) (f : Nat → α) (g : β → α) (h : ∀ i, f i = g z) : ((List.range n).filter fun _ => true).map f = (List.replicate n z).map g := by
  rw [filter_true]
  exact map_const z n f g h
theorem comp_map {α β γ : Type} (xs : List α) (f : α → γ) (k : α → β) (g : β → γ) (h : ∀ x, f x = g (k x)) : (xs.filter fun _ => true).map f = (xs.map k).map g := by
  rw [filter_true, List.map_map]
  exact List.map_congr_left fun x _ => h x
def handL (c : Int) (n : Nat) (k : Int) : List Int :=
  if k = 0 then (drawsL c (List.replicate n 3)).map (· - 1)
  else if k = 1 then (drawsL c (List.replicate n (2 * (n : Int) + 1))).map (· - (n : Int))
  else if k = 2 then (drawsL c (List.replicate n (2 * 1000000000000000 + 1))).map (· - 1000000000000000)
  else drawsL c (List.replicate n ((n : Int) + 2))
theorem hand_len (c : Int) (n : Nat) (k : Int) : (handL c n k).length = n := by
  unfold handL
  split
  · simp [draws_len]
  split
  · simp [draws_len]
  split
  · simp [draws_len]
  · simp [draws_len]
def shapeL (ns : List Int) (a : Int) : List Int := drawsL (cellV ns a) [6, 4, 3, 40]
def theirs1 (sh mine theirs : List Int) (n : Nat) : List Int :=
  if sh.getD 0 0 = 4 then (if 0 < n ∧ 0 < sh.getD 1 0 then mine.set (sh.getD 3 0 % (n : Int)).toNat (mine.getD (sh.getD 3 0 % (n : Int)).toNat 0 + sh.getD 1 0 - 2) else mine) else theirs
def theirs2 (sh mine theirs : List Int) (n : Nat) : List Int := if sh.getD 0 0 = 5 ∧ 0 < sh.getD 2 0 then mine.map (fun x => x + 3 - 2 * sh.getD 1 0) else theirs1 sh mine theirs n
def mineL (ns : List Int) (a : Int) (n : Nat) : List Int := handL (cellV ns (a + 1)) n ((shapeL ns a).getD 0 0 % 4)
def theirsL (ns : List Int) (a : Int) (n : Nat) : List Int := theirs2 (shapeL ns a) (mineL ns a n) (handL (cellV ns (a + 2)) n ((shapeL ns a).getD 0 0 % 4)) n
theorem mine_len (ns : List Int) (a : Int) (n : Nat) : (mineL ns a n).length = n := hand_len _ _ _
theorem theirs_len (ns : List Int) (a : Int) (n : Nat) : (theirsL ns a n).length = n := by
  unfold theirsL theirs2 theirs1
  split
  · simp [mine_len]
  split
  · split
    · simp [mine_len]
    · exact mine_len _ _ _
  · exact hand_len _ _ _
def wordL (c : Int) (n : Nat) : List Nat := (drawsL c (List.replicate n 2)).map fun x => if x = 0 then 77 else 84
theorem word_len (c : Int) (n : Nat) : (wordL c n).length = n := by simp [wordL, draws_len]
theorem word_letters (c : Int) (n : Nat) : letters (wordL c n) := fun d hd => by
  obtain ⟨x, _, rfl⟩ := List.mem_map.mp hd
  split
  · exact .inl rfl
  · exact .inr rfl
def pairS (xs : List Int) (n : Nat) : Nat → List Int × List Int
  | 0 => ((List.range n).map fun i : Nat => (i : Int), [])
  | i + 1 => ((pairS xs n i).1.take (xs.getD i 0).toNat ++ (pairS xs n i).1.drop ((xs.getD i 0) + 1).toNat, (pairS xs n i).2 ++ [(pairS xs n i).1.getD (xs.getD i 0).toNat 0])
def downL (n : Nat) : List Int := (List.range n).map fun i : Nat => (n : Int) - (i : Int)
def drawnL (c : Int) (n : Nat) : List Int := (pairS (drawsL c (downL n)) n n).2
theorem down_len (n : Nat) : (downL n).length = n := by simp [downL]
theorem down_get {n i : Nat} (h : i < n) : (downL n).getD i 0 = (n : Int) - (i : Int) := by
  unfold downL
  rw [List.getD_eq_getElem?_getD, List.getElem?_map, List.getElem?_range h]
  rfl
theorem down_pos {n : Nat} : ∀ s ∈ downL n, 0 < s ∧ s ≤ n := fun s hs => by
  obtain ⟨i, hi, rfl⟩ := List.mem_map.mp hs
  rw [List.mem_range] at hi
  omega
theorem pairS_inv {xs : List Int} {n : Nat} (h : ∀ i, i < n → 0 ≤ xs.getD i 0 ∧ xs.getD i 0 < (n : Int) - (i : Int)) : ∀ i, i ≤ n → (pairS xs n i).1.length = n - i ∧ (pairS xs n i).2.length = i ∧ (∀ x ∈ (pairS xs n i).1, 0 ≤ x ∧ x < (n : Int)) ∧ (∀ x ∈ (pairS xs n i).2, 0 ≤ x ∧ x < (n : Int))
  | 0, _ => by
    refine ⟨by simp [pairS], rfl, fun x hx => ?_, fun x hx => nomatch hx⟩
    obtain ⟨k, hk, rfl⟩ := List.mem_map.mp hx
    rw [List.mem_range] at hk
    omega
  | i + 1, hi => by
    obtain ⟨h1, h2, h3, h4⟩ := pairS_inv h i (by omega)
    have hx := h i (by omega)
    refine ⟨?_, ?_, fun x hx => ?_, fun x hx => ?_⟩
    · show ((pairS xs n i).1.take _ ++ (pairS xs n i).1.drop _).length = _
      rw [List.length_append, List.length_take, List.length_drop]
      omega
    · show ((pairS xs n i).2 ++ _).length = _
      rw [List.length_append, h2]
      rfl
    · rcases List.mem_append.mp (show x ∈ (pairS xs n i).1.take _ ++ (pairS xs n i).1.drop _ from hx) with h | h
      · exact h3 x (List.mem_of_mem_take h)
      · exact h3 x (List.mem_of_mem_drop h)
    · rcases List.mem_append.mp (show x ∈ (pairS xs n i).2 ++ [_] from hx) with h | h
      · exact h4 x h
      · rw [List.mem_singleton.mp h]
        exact h3 _ (getD_mem (by omega))
theorem drawn_ix {c : Int} {n : Nat} {i : Nat} (h : i < n) : 0 ≤ (drawsL c (downL n)).getD i 0 ∧ (drawsL c (downL n)).getD i 0 < (n : Int) - (i : Int) := by
  have := draws_in (c := c) (sz := downL n) (fun s hs => (down_pos s hs).1) (show i < (downL n).length by rw [down_len]; exact h)
  rw [down_get h] at this
  exact this
theorem drawn_len (c : Int) (n : Nat) : (drawnL c n).length = n := (pairS_inv (fun i h => drawn_ix h) n (Nat.le_refl _)).2.1
theorem drawn_mem (c : Int) (n : Nat) : ∀ x ∈ drawnL c n, 0 ≤ x ∧ x < (n : Int) := (pairS_inv (fun i h => drawn_ix h) n (Nat.le_refl _)).2.2.2
theorem ev_joinE {X : Cx} {ρ : Rho} {a b : Expr} {pos apos : Pos} {ds : List D} (css : List (List Nat)) (ha : Ev X ρ a (.str (wd []))) (hb : EvL X ρ b ds) (he : ds = (css.map wd).map D.str) (hz : css.flatten.length ≤ 100000) (hs : St1 X b := by rfl) (hbase : attributeBase a "join" X.env (eval a X.env) = eval a X.env := by rfl) (hline : (apos.endLine == pos.line) = true := by rfl) :
    Ev X ρ (.Call (.Attribute a "join" apos) [b] [] pos) (.str (wd css.flatten)) := by
  subst he
  exact ev_join ha hb hz hs hbase hline
section
variable {P : Program} {w : World} {K : PySem.W.Frag} {mg : Str → Option Value} {base : Heap}
theorem c_law_hand (T : Tx K mg) {c : Int} {n : Nat} {k : Int} (h1 : n ≤ 1000) : Cal P w K mg base 2 "_law_hand" [.int c, .int (n : Int), .int k] (lI (handL c n k)) := by
  have hrep : ∀ z : Int, 0 < z ∧ z < 10000000000000000 → ∀ s ∈ List.replicate n z, 0 < s ∧ s < 10000000000000000 := fun z hz s hs => by
    rw [(List.mem_replicate.mp hs).2]
    exact hz
  refine cal_of T.d_law_hand sc_law_hand (fun _ _ _ _ _ _ us hl => match us, hl with | [_, _, _], _ => rfl) rfl fun Y hr => ?_
  have nd := sc_law_hand.nd
  show Bd _ [.val _, .val _, .val _, .any, .any] _ _
  refine bd_ifRet (et_cmp (ec_eqI (ev_var (nm 2 rfl (.inl rfl) rfl rfl) rfl) ev_int) (nomark _ (by decide) (by decide))) (fun e => bd_one (sd_ret (Ev.cast (d' := lI (handL c n k)) (EvN.ev (evn_lc 3 _ (fun _ => true) _ rfl nd (ei_list (ev_call (c_law_draws T (by rw [List.length_replicate]; exact h1) (hrep _ (by omega))) (hr.mono (by decide)) (ea_cons (ev_var (nm 0 rfl (.inl rfl) rfl rfl) rfl) (ea_cons (EvN.ev (EvN.cast (d' := (List.replicate n (3 : Int)).map D.int) (evn_lc 4 _ (fun _ => true) _ rfl nd (ei_rng1 T.b_range (ev_var (nm 1 rfl (.inr (.inl rfl)) rfl rfl) rfl) ?_ ?_ rfl rfl rfl) ?_ (blkOk_by (N := N_law_hand) (sc := defScope s_law_hand) (by decide +kernel)) (fun _ _ _ _ _ => pg_name nd rfl (.inl rfl) (.inr rfl)) (fun _ _ _ _ _ _ _ => ets_nil) (fun x hx hcx s H C cl fp => ev_int) (fun _ => rfl)) ?_)) ea_nil rfl) rfl) rfl (by decide) rfl rfl)) ?_ (blkOk_by (N := N_law_hand) (sc := defScope s_law_hand) (by decide +kernel)) (fun _ _ _ _ _ => pg_name nd rfl (.inl rfl) (.inr rfl)) (fun _ _ _ _ _ _ _ => ets_nil) (fun x hx hcx s H C cl fp => (ev_sub (ev_var (nm 3 rfl (.inl rfl) rfl rfl) rfl) ev_int)) (fun _ => rfl))) ?_) ?_)) fun e => ?_
  · omega
  · omega
  · rw [List.length_range]
    omega
  · exact comp_const (3 : Int) _ _ _ fun _ => rfl
  · rw [draws_len, List.length_replicate]
    omega
  · have e1 : k = 0 := of_decide_eq_true e
    rw [handL, if_pos e1]
    exact congrArg _ (comp_map _ _ _ _ fun x => rfl)
  · rfl
  refine bd_ifRet (et_cmp (ec_eqI (ev_var (nm 2 rfl (.inl rfl) rfl rfl) rfl) ev_int) (nomark _ (by decide) (by decide))) (fun e2 => bd_one (sd_ret (Ev.cast (d' := lI (handL c n k)) (EvN.ev (evn_lc 3 _ (fun _ => true) _ rfl nd (ei_list (ev_call (c_law_draws T (by rw [List.length_replicate]; exact h1) (hrep _ (by omega))) (hr.mono (by decide)) (ea_cons (ev_var (nm 0 rfl (.inl rfl) rfl rfl) rfl) (ea_cons (EvN.ev (EvN.cast (d' := (List.replicate n (2 * (n : Int) + 1)).map D.int) (evn_lc 4 _ (fun _ => true) _ rfl nd (ei_rng1 T.b_range (ev_var (nm 1 rfl (.inr (.inl rfl)) rfl rfl) rfl) ?_ ?_ rfl rfl rfl) ?_ (blkOk_by (N := N_law_hand) (sc := defScope s_law_hand) (by decide +kernel)) (fun _ _ _ _ _ => pg_name nd rfl (.inl rfl) (.inr rfl)) (fun _ _ _ _ _ _ _ => ets_nil) (fun x hx hcx s H C cl fp => (ev_add (ev_mul ev_int (ev_var (nm 1 rfl (.inr (.inl rfl)) rfl rfl) rfl) ?_) ev_int)) (fun _ => rfl)) ?_)) ea_nil rfl) rfl) rfl (by decide) rfl rfl)) ?_ (blkOk_by (N := N_law_hand) (sc := defScope s_law_hand) (by decide +kernel)) (fun _ _ _ _ _ => pg_name nd rfl (.inl rfl) (.inr rfl)) (fun _ _ _ _ _ _ _ => ets_nil) (fun x hx hcx s H C cl fp => (ev_sub (ev_var (nm 3 rfl (.inl rfl) rfl rfl) rfl) (ev_var (nm 1 rfl (.inr (.inl rfl)) rfl rfl) rfl))) (fun _ => rfl))) ?_) ?_)) fun e2 => ?_
  · omega
  · omega
  · rw [List.length_range]
    omega
  · exact small_mul (by decide) (by decide)
  · exact comp_const (2 * (n : Int) + 1) _ _ _ fun _ => rfl
  · rw [draws_len, List.length_replicate]
    omega
  · have e1 : ¬ k = 0 := of_decide_eq_false e
    have e3 : k = 1 := of_decide_eq_true e2
    rw [handL, if_neg e1, if_pos e3]
    exact congrArg _ (comp_map _ _ _ _ fun x => rfl)
  · rfl
  refine bd_ifRet (et_cmp (ec_eqI (ev_var (nm 2 rfl (.inl rfl) rfl rfl) rfl) ev_int) (nomark _ (by decide) (by decide))) (fun e3 => bd_one (sd_ret (Ev.cast (d' := lI (handL c n k)) (EvN.ev (evn_lc 3 _ (fun _ => true) _ rfl nd (ei_list (ev_call (c_law_draws T (by rw [List.length_replicate]; exact h1) (hrep _ (by omega))) (hr.mono (by decide)) (ea_cons (ev_var (nm 0 rfl (.inl rfl) rfl rfl) rfl) (ea_cons (EvN.ev (EvN.cast (d' := (List.replicate n (2 * 1000000000000000 + 1 : Int)).map D.int) (evn_lc 4 _ (fun _ => true) _ rfl nd (ei_rng1 T.b_range (ev_var (nm 1 rfl (.inr (.inl rfl)) rfl rfl) rfl) ?_ ?_ rfl rfl rfl) ?_ (blkOk_by (N := N_law_hand) (sc := defScope s_law_hand) (by decide +kernel)) (fun _ _ _ _ _ => pg_name nd rfl (.inl rfl) (.inr rfl)) (fun _ _ _ _ _ _ _ => ets_nil) (fun x hx hcx s H C cl fp => (ev_add (ev_mul ev_int (ev_pow ev_int ev_int ?_) ?_) ev_int)) (fun _ => rfl)) ?_)) ea_nil rfl) rfl) rfl (by decide) rfl rfl)) ?_ (blkOk_by (N := N_law_hand) (sc := defScope s_law_hand) (by decide +kernel)) (fun _ _ _ _ _ => pg_name nd rfl (.inl rfl) (.inr rfl)) (fun _ _ _ _ _ _ _ => ets_nil) (fun x hx hcx s H C cl fp => (ev_sub (ev_var (nm 3 rfl (.inl rfl) rfl rfl) rfl) (ev_pow ev_int ev_int ?_))) (fun _ => rfl))) ?_) ?_)) fun e3 => ?_
  · omega
  · omega
  · rw [List.length_range]
    omega
  · exact ⟨by decide, by decide, by decide⟩
  · exact small_mul (by decide) (by decide)
  · exact comp_const (2 * 1000000000000000 + 1 : Int) _ _ _ fun _ => rfl
  · rw [draws_len, List.length_replicate]
    omega
  · exact ⟨by decide, by decide, by decide⟩
  · have e1 : ¬ k = 0 := of_decide_eq_false e
    have e2 : ¬ k = 1 := of_decide_eq_false e2
    have e4 : k = 2 := of_decide_eq_true e3
    rw [handL, if_neg e1, if_neg e2, if_pos e4]
    exact congrArg _ (comp_map _ _ _ _ fun x => rfl)
  · rfl
  refine bd_one (sd_ret (Ev.cast (d' := lI (handL c n k)) (EvN.ev (evn_lc 3 _ (fun _ => true) _ rfl nd (ei_list (ev_call (c_law_draws T (by rw [List.length_replicate]; exact h1) (hrep _ (by omega))) (hr.mono (by decide)) (ea_cons (ev_var (nm 0 rfl (.inl rfl) rfl rfl) rfl) (ea_cons (EvN.ev (EvN.cast (d' := (List.replicate n ((n : Int) + 2)).map D.int) (evn_lc 4 _ (fun _ => true) _ rfl nd (ei_rng1 T.b_range (ev_var (nm 1 rfl (.inr (.inl rfl)) rfl rfl) rfl) ?_ ?_ rfl rfl rfl) ?_ (blkOk_by (N := N_law_hand) (sc := defScope s_law_hand) (by decide +kernel)) (fun _ _ _ _ _ => pg_name nd rfl (.inl rfl) (.inr rfl)) (fun _ _ _ _ _ _ _ => ets_nil) (fun x hx hcx s H C cl fp => (ev_add (ev_var (nm 1 rfl (.inr (.inl rfl)) rfl rfl) rfl) ev_int)) (fun _ => rfl)) ?_)) ea_nil rfl) rfl) rfl (by decide) rfl rfl)) ?_ (blkOk_by (N := N_law_hand) (sc := defScope s_law_hand) (by decide +kernel)) (fun _ _ _ _ _ => pg_name nd rfl (.inl rfl) (.inr rfl)) (fun _ _ _ _ _ _ _ => ets_nil) (fun x hx hcx s H C cl fp => (ev_var (nm 3 rfl (.inl rfl) rfl rfl) rfl)) (fun _ => rfl))) ?_) ?_)
  · omega
  · omega
  · rw [List.length_range]
    omega
  · exact comp_const ((n : Int) + 2) _ _ _ fun _ => rfl
  · rw [draws_len, List.length_replicate]
    omega
  · have e1 : ¬ k = 0 := of_decide_eq_false e
    have e2 : ¬ k = 1 := of_decide_eq_false e2
    have e3 : ¬ k = 2 := of_decide_eq_false e3
    rw [handL, if_neg e1, if_neg e2, if_neg e3, filter_true]
  · rfl
theorem c_law_word (T : Tx K mg) {c : Int} {n : Nat} (h1 : n ≤ 1000) : Cal P w K mg base 2 "_law_word" [.int c, .int (n : Int)] (dW (wordL c n)) := by
  have hrep : ∀ s ∈ List.replicate n (2 : Int), 0 < s ∧ s < 10000000000000000 := fun s hs => by
    rw [(List.mem_replicate.mp hs).2]
    omega
  refine cal_of T.d_law_word sc_law_word (fun _ _ _ _ _ _ us hl => match us, hl with | [_, _], _ => rfl) rfl fun Y hr => ?_
  have nd := sc_law_word.nd
  show Bd _ [.val _, .val _, .any, .any] _ _
  refine bd_one (sd_ret (ev_joinE ((wordL c n).map fun x => [x]) (ev_strW []) (EvN.l (evn_lc 2 _ (fun _ => true) _ rfl nd (ei_list (ev_call (c_law_draws T (by rw [List.length_replicate]; exact h1) hrep) (hr.mono (by decide)) (ea_cons (ev_var (nm 0 rfl (.inl rfl) rfl rfl) rfl) (ea_cons (EvN.ev (EvN.cast (d' := (List.replicate n (2 : Int)).map D.int) (evn_lc 3 _ (fun _ => true) _ rfl nd (ei_rng1 T.b_range (ev_var (nm 1 rfl (.inl rfl) rfl rfl) rfl) ?_ ?_ rfl rfl rfl) ?_ (blkOk_by (N := N_law_word) (sc := defScope s_law_word) (by decide +kernel)) (fun _ _ _ _ _ => pg_name nd rfl (.inl rfl) (.inr rfl)) (fun _ _ _ _ _ _ _ => ets_nil) (fun x hx hcx s H C cl fp => ev_int) (fun _ => rfl)) ?_)) ea_nil rfl) rfl) rfl (by decide) rfl rfl)) ?_ (blkOk_by (N := N_law_word) (sc := defScope s_law_word) (by decide +kernel)) (fun _ _ _ _ _ => pg_name nd rfl (.inl rfl) (.inr rfl)) (fun _ _ _ _ _ _ _ => ets_nil) (fun x hx hcx s H C cl fp => (ev_ixWG (ev_strW [77, 84]) (ev_var (nm 2 rfl (.inl rfl) rfl rfl) rfl) ?_ ?_ ?_ (fun _ _ => rfl))) (fun _ => rfl))) ?_ ?_ rfl rfl rfl) ?_)
  · omega
  · omega
  · rw [List.length_range]
    omega
  · exact comp_const (2 : Int) _ _ _ fun _ => rfl
  · rw [draws_len, List.length_replicate]
    omega
  · decide
  · obtain ⟨i, hi, e⟩ := List.getElem_of_mem hx
    rw [draws_len] at hi
    have := (draws_in (c := c) (fun s hs => (hrep s hs).1) hi).1
    rw [List.getD_eq_getElem?_getD, List.getElem?_eq_getElem (by rw [draws_len]; exact hi)] at this
    exact e ▸ this
  · obtain ⟨i, hi, e⟩ := List.getElem_of_mem hx
    rw [draws_len] at hi
    have := (draws_in (c := c) (fun s hs => (hrep s hs).1) hi).2
    rw [List.getD_eq_getElem?_getD, List.getElem?_eq_getElem (by rw [draws_len]; exact hi)] at this
    rw [List.length_replicate] at hi
    rw [List.getD_eq_getElem?_getD, List.getElem?_replicate, if_pos hi] at this
    rw [← e]
    exact this
  · rw [filter_true, List.map_map, List.map_map, wordL, List.map_map]
    refine List.map_congr_left fun x hx => ?_
    obtain ⟨i, hi, e⟩ := List.getElem_of_mem hx
    rw [draws_len] at hi
    have h2 := draws_in (c := c) (fun s hs => (hrep s hs).1) hi
    rw [List.getD_eq_getElem?_getD, List.getElem?_eq_getElem (by rw [draws_len]; exact hi)] at h2
    rw [List.length_replicate] at hi
    rw [List.getD_eq_getElem?_getD, List.getElem?_replicate, if_pos hi] at h2
    rw [e] at h2
    have h3 : x = 0 ∨ x = 1 := by
      have := h2.1
      have := h2.2
      simp at *
      omega
    rcases h3 with rfl | rfl <;> rfl
  · have : ((wordL c n).map fun x => [x]).flatten = wordL c n := by
      rw [← List.flatMap_def]
      simp
    rw [this, word_len]
    omega
  · have : ((wordL c n).map fun x => [x]).flatten = wordL c n := by
      rw [← List.flatMap_def]
      simp
    rw [this]
theorem c_law_pairing (T : Tx K mg) {c : Int} {n : Nat} (h1 : n ≤ 1000) : Cal P w K mg base 2 "_law_pairing" [.int c, .int (n : Int)] (lI (drawnL c n)) := by
  refine cal_of T.d_law_pairing sc_law_pairing (fun _ _ _ _ _ _ us hl => match us, hl with | [_, _], _ => rfl) rfl fun Y hr => ?_
  have nd := sc_law_pairing.nd
  show Bd _ [.val _, .val _, .any, .any, .any, .any] _ _
  refine bd_seq1 (sd_setLcVE (k := 2) 3 _ (fun _ => true) _ ((pairS (drawsL c (downL n)) n 0).1.map D.int) rfl nd rfl rfl (sw_true rfl rfl rfl (by decide +kernel)) (ei_rng1 T.b_range (ev_var (nm 1 rfl (.inr (.inl rfl)) rfl rfl) rfl) ?_ ?_ rfl rfl rfl) ?_ (blkOk_by (N := N_law_pairing) (sc := defScope s_law_pairing) (by decide +kernel)) (fun _ _ _ _ _ => pg_name nd rfl (.inl rfl) (.inr rfl)) (fun _ _ _ _ _ _ _ => ets_nil) (fun x hx hcx s H C cl fp => (ev_var (nm 3 rfl (.inl rfl) rfl rfl) rfl)) ?_ rfl (fun _ => rfl)) (bd_seq1 (sd_asgN (k := 4) nd rfl (.inl rfl) (evn_lst ea_nil (Nat.le_of_ble_eq_true rfl)) rfl rfl (.inl rfl)) ?_)
  · omega
  · omega
  · rw [List.length_range]
    omega
  · exact comp_map _ _ _ _ fun x => rfl
  refine bd_for 5 (fun i => [.val (.int c), .val (.int (n : Int)), .val (lI (pairS (drawsL c (downL n)) n i).1), .any, .own ((pairS (drawsL c (downL n)) n i).2.map D.int), .any]) (fun _ => True) PassesOwn.never rfl nd rfl (.inl rfl) (by repeat (first | exact Wk.nil | refine Wk.any ?_ | refine Wk.same ?_ | refine Wk.frz ?_)) (ei_list (ev_call (c_law_draws T (by rw [down_len]; exact h1) (fun s hs => by have := down_pos s hs; omega)) (hr.mono (by decide)) (ea_cons (ev_var (nm 0 rfl (.inl rfl) rfl rfl) rfl) (ea_cons (EvN.ev (EvN.cast (d' := (downL n).map D.int) (evn_lc 3 _ (fun _ => true) _ rfl nd (ei_rng1 T.b_range (ev_var (nm 1 rfl (.inr (.inl rfl)) rfl rfl) rfl) ?_ ?_ rfl rfl rfl) ?_ (blkOk_by (N := N_law_pairing) (sc := defScope s_law_pairing) (by decide +kernel)) (fun _ _ _ _ _ => pg_name nd rfl (.inl rfl) (.inr rfl)) (fun _ _ _ _ _ _ _ => ets_nil) (fun x hx hcx s H C cl fp => (ev_sub (ev_var (nm 1 rfl (.inr (.inl rfl)) rfl rfl) rfl) (ev_var (nm 3 rfl (.inl rfl) rfl rfl) rfl))) (fun _ => rfl)) ?_)) ea_nil rfl) rfl) rfl (by decide) rfl rfl)) trivial ?_ ?_ (.inl rfl) (fun _ => rfl)
  · omega
  · omega
  · rw [List.length_range]
    omega
  · exact comp_map _ _ _ _ fun x => rfl
  · intro i d hd _
    rw [List.getElem?_map] at hd
    obtain ⟨x, hx, rfl⟩ := Option.map_eq_some_iff.mp hd
    have hi := (List.getElem?_eq_some_iff.mp hx).1
    rw [draws_len, down_len] at hi
    have hxv : (drawsL c (downL n)).getD i 0 = x := getD_of hx
    have hb := drawn_ix (c := c) hi
    rw [hxv] at hb
    obtain ⟨q1, q2, q3, q4⟩ := pairS_inv (fun i h => drawn_ix (c := c) h) i (Nat.le_of_lt hi)
    refine bd_seq1 (sd_app (k := 4) (nm 4 rfl (.inl rfl) rfl rfl) rfl (ev_ixG (0 : Int) (Ev.l (ev_var (nm 2 rfl (.inl rfl) rfl rfl) rfl)) (ev_var (nm 5 rfl (.inl rfl) rfl rfl) rfl) ?_ ?_ (fun _ _ => rfl)) ?_ rfl rfl rfl rfl rfl rfl rfl) (bd_seq1 (sd_asg (k := 2) nd rfl (.inl rfl) (Ev.cast (d' := lI (pairS (drawsL c (downL n)) n (i + 1)).1) (EvN.ev (evn_cat (EvN.l (evn_slice (Ev.l (ev_var (nm 2 rfl (.inl rfl) rfl rfl) rfl)) ep_none (ep_some (ev_var (nm 5 rfl (.inl rfl) rfl rfl) rfl)))) (EvN.l (evn_slice (Ev.l (ev_var (nm 2 rfl (.inl rfl) rfl rfl) rfl)) (ep_some (ev_add (ev_var (nm 5 rfl (.inl rfl) rfl rfl) rfl) ev_int)) ep_none)) ?_)) ?_) rfl rfl (.inl rfl)) (bd_nil ⟨?_, trivial⟩))
    · exact hb.1
    · rw [q1]
      omega
    · rw [List.length_map, q2]
      omega
    · rw [cut_map, cut_map, List.length_map, List.length_map, cut_pre _ hb.1, cut_suf _ (by omega), List.length_take, List.length_drop]
      omega
    · rw [cut_map, cut_map, cut_pre _ hb.1, cut_suf _ (by omega), ← List.map_append, pairS, hxv]
    · rw [pairS, hxv, List.map_append]
      exact (by repeat (first | exact Wk.nil | refine Wk.any ?_ | refine Wk.same ?_ | refine Wk.frz ?_))
  · intro _
    rw [List.length_map, draws_len, down_len]
    refine bd_wk (ρ' := [.any, .any, .any, .any, .val (lI (drawnL c n)), .any]) (by repeat (first | exact Wk.nil | refine Wk.any ?_ | refine Wk.same ?_ | refine Wk.frz ?_)) ?_
    refine bd_one (sd_ret (ev_var (nm 4 rfl (.inl rfl) rfl rfl) rfl) ?_)
    rfl
theorem c_law_hands (T : Tx K mg) {ns : List Int} {a : Int} {n : Nat} (h0 : 0 ≤ a) (h9 : a ≤ 100) (h1 : n ≤ 1000) : Cal P w K mg base 3 "_law_hands" [.scr ns, .int a, .int (n : Int)] (eHH (mineL ns a n, theirsL ns a n)) := by
  have h64 : ∀ s ∈ ([6, 4, 3, 40] : List Int), 0 < s ∧ s < 10000000000000000 := by decide
  have hp : ∀ s ∈ ([6, 4, 3, 40] : List Int), 0 < s := by decide
  have s3 := draws_in (c := cellV ns a) hp (i := 3) (by decide)
  have sl : (shapeL ns a).length = 4 := draws_len _ _
  refine cal_of T.d_law_hands sc_law_hands (fun _ _ _ _ _ _ us hl => match us, hl with | [_, _, _], _ => rfl) rfl fun Y hr => ?_
  have nd := sc_law_hands.nd
  show Bd _ [.val _, .val _, .val _, .any, .any, .any, .any] _ _
  refine bd_seq1 (sd_asg (k := 3) nd rfl (.inr rfl) (Ev.cast (d' := lI (shapeL ns a)) (ev_call (c_law_draws (sz := [6, 4, 3, 40]) T (by decide) h64) (hr.mono (by decide)) (ea_cons (ev_call (c_law_cell T (by omega) (by omega)) (hr.mono (by decide)) (ea_cons (ev_var (nm 0 rfl (.inl rfl) rfl rfl) rfl) (ea_cons (ev_var (nm 1 rfl (.inl rfl) rfl rfl) rfl) ea_nil rfl) rfl) rfl (by decide) rfl rfl) (ea_cons (EvN.ev (evn_lst (ea_cons ev_int (ea_cons ev_int (ea_cons ev_int (ea_cons ev_int ea_nil rfl) rfl) rfl) rfl) (Nat.le_of_ble_eq_true rfl))) ea_nil rfl) rfl) rfl (by decide) rfl rfl) ?_) rfl rfl (.inl rfl)) ?_
  · rfl
  refine bd_seq1 (sd_asg (k := 4) nd rfl (.inl rfl) (Ev.cast (d' := lI (mineL ns a n)) (ev_call (c_law_hand T h1) (hr.mono (by decide)) (ea_cons (ev_call (c_law_cell T (by omega) (by omega)) (hr.mono (by decide)) (ea_cons (ev_var (nm 0 rfl (.inl rfl) rfl rfl) rfl) (ea_cons (ev_add (ev_var (nm 1 rfl (.inl rfl) rfl rfl) rfl) ev_int) ea_nil rfl) rfl) rfl (by decide) rfl rfl) (ea_cons (ev_var (nm 2 rfl (.inl rfl) rfl rfl) rfl) (ea_cons (ev_mod (ev_ixG (0 : Int) (Ev.l (ev_var (nm 3 rfl (.inr (.inl rfl)) rfl rfl) rfl)) ev_int ?_ ?_ (fun _ _ => rfl)) ev_int ?_) ea_nil rfl) rfl) rfl) rfl (by decide) rfl rfl) ?_) rfl rfl (.inl rfl)) ?_
  · decide
  · rw [sl]
    decide
  · decide
  · rfl
  refine bd_seq1 (sd_asg (k := 5) nd rfl (.inl rfl) (ev_call (c_law_hand T h1) (hr.mono (by decide)) (ea_cons (ev_call (c_law_cell T (by omega) (by omega)) (hr.mono (by decide)) (ea_cons (ev_var (nm 0 rfl (.inl rfl) rfl rfl) rfl) (ea_cons (ev_add (ev_var (nm 1 rfl (.inl rfl) rfl rfl) rfl) ev_int) ea_nil rfl) rfl) rfl (by decide) rfl rfl) (ea_cons (ev_var (nm 2 rfl (.inl rfl) rfl rfl) rfl) (ea_cons (ev_mod (ev_ixG (0 : Int) (Ev.l (ev_var (nm 3 rfl (.inr (.inl rfl)) rfl rfl) rfl)) ev_int ?_ ?_ (fun _ _ => rfl)) ev_int ?_) ea_nil rfl) rfl) rfl) rfl (by decide) rfl rfl) rfl rfl (.inl rfl)) ?_
  · decide
  · rw [sl]
    decide
  · decide
  refine bd_if [.val (.scr ns), .val (.int a), .val (.int (n : Int)), .val (lI (shapeL ns a)), .val (lI (mineL ns a n)), .val (lI (theirs1 (shapeL ns a) (mineL ns a n) (handL (cellV ns (a + 2)) n ((shapeL ns a).getD 0 0 % 4)) n)), .any] (et_cmp (ec_eqI (ev_ixG (0 : Int) (Ev.l (ev_var (nm 3 rfl (.inr (.inl rfl)) rfl rfl) rfl)) ev_int ?_ ?_ (fun _ _ => rfl)) ev_int) (nomark _ (by decide) (by decide))) (fun e => bd_seq1 (sd_asgN (k := 5) nd rfl (.inl rfl) (evn_list T.b_list (Ev.l (ev_var (nm 4 rfl (.inl rfl) rfl rfl) rfl)) rfl rfl rfl) rfl rfl (.inl rfl)) ?_) (fun e => bd_nil ?_) ?_
  · decide
  · rw [sl]
    decide
  · have e1 : (shapeL ns a).getD 0 0 = 4 := of_decide_eq_true e
    refine bd_if [.val (.scr ns), .val (.int a), .val (.int (n : Int)), .val (lI (shapeL ns a)), .val (lI (mineL ns a n)), .own ((theirs1 (shapeL ns a) (mineL ns a n) (handL (cellV ns (a + 2)) n ((shapeL ns a).getD 0 0 % 4)) n).map D.int), .any] (EvW.t (ew_and (et_cmp (ec_gt (ev_var (nm 2 rfl (.inl rfl) rfl rfl) rfl) ev_int) (nomark _ (by decide) (by decide))) fun hb0 => (ew_and1 (et_cmp (ec_gt (ev_ixG (0 : Int) (Ev.l (ev_var (nm 3 rfl (.inr (.inl rfl)) rfl rfl) rfl)) ev_int ?_ ?_ (fun _ _ => rfl)) ev_int) (nomark _ (by decide) (by decide)))))) (fun e2 => bd_seq1 (sd_setM (k := 5) (nm 5 rfl (.inl rfl) rfl rfl) rfl (ev_sub (ev_add (ev_ixG (0 : Int) (evl_own (nm 5 rfl (.inl rfl) rfl rfl) rfl) (ev_mod (ev_ixG (0 : Int) (Ev.l (ev_var (nm 3 rfl (.inr (.inl rfl)) rfl rfl) rfl)) ev_int ?_ ?_ (fun _ _ => rfl)) (ev_var (nm 2 rfl (.inl rfl) rfl rfl) rfl) ?_) ?_ ?_ (fun _ _ => rfl)) (ev_ixG (0 : Int) (Ev.l (ev_var (nm 3 rfl (.inr (.inl rfl)) rfl rfl) rfl)) ev_int ?_ ?_ (fun _ _ => rfl))) ev_int) (ev_mod (ev_ixG (0 : Int) (Ev.l (ev_var (nm 3 rfl (.inr (.inl rfl)) rfl rfl) rfl)) ev_int ?_ ?_ (fun _ _ => rfl)) (ev_var (nm 2 rfl (.inl rfl) rfl rfl) rfl) ?_) ?_ ?_ rfl rfl rfl rfl (fun _ => rfl)) (bd_nil ?_)) (fun e2 => bd_nil ?_) (bd_nil (by repeat (first | exact Wk.nil | refine Wk.any ?_ | refine Wk.same ?_ | refine Wk.frz ?_)))
    · decide
    · rw [sl]
      decide
    all_goals try (simp only [Bool.and_eq_true, decide_eq_true_eq] at e2)
    · decide
    · rw [sl]
      decide
    · omega
    · exact Int.emod_nonneg _ (by omega)
    · rw [mine_len]
      exact Int.emod_lt_of_pos _ (by omega)
    · decide
    · rw [sl]
      decide
    · decide
    · rw [sl]
      decide
    · omega
    · exact Int.emod_nonneg _ (by omega)
    · rw [mine_len]
      exact Int.emod_lt_of_pos _ (by omega)
    · rw [theirs1, if_pos e1, if_pos (by obtain ⟨q1, q2⟩ := e2; exact ⟨by omega, q2⟩)]
      exact (by repeat (first | exact Wk.nil | refine Wk.any ?_ | refine Wk.same ?_ | refine Wk.frz ?_))
    · have e3 : ¬ (0 < n ∧ 0 < (shapeL ns a).getD 1 0) := by
        intro z
        have : (decide ((0 : Int) < (n : Int)) && decide (0 < (shapeL ns a).getD 1 0)) = true := by
          rw [decide_eq_true (show (0 : Int) < (n : Int) by omega), decide_eq_true z.2]
          rfl
        exact absurd (this.symm.trans e2) (by decide)
      rw [theirs1, if_pos e1, if_neg e3]
      exact (by repeat (first | exact Wk.nil | refine Wk.any ?_ | refine Wk.same ?_ | refine Wk.frz ?_))
  · have e3 : ¬ (shapeL ns a).getD 0 0 = 4 := of_decide_eq_false e
    rw [theirs1, if_neg e3]
    exact (by repeat (first | exact Wk.nil | refine Wk.any ?_ | refine Wk.same ?_ | refine Wk.frz ?_))
  refine bd_if [.val (.scr ns), .val (.int a), .val (.int (n : Int)), .val (lI (shapeL ns a)), .val (lI (mineL ns a n)), .val (lI (theirsL ns a n)), .any] (EvW.t (ew_and (et_cmp (ec_eqI (ev_ixG (0 : Int) (Ev.l (ev_var (nm 3 rfl (.inr (.inl rfl)) rfl rfl) rfl)) ev_int ?_ ?_ (fun _ _ => rfl)) ev_int) (nomark _ (by decide) (by decide))) fun hb0 => (ew_and1 (et_cmp (ec_gt (ev_ixG (0 : Int) (Ev.l (ev_var (nm 3 rfl (.inr (.inl rfl)) rfl rfl) rfl)) ev_int ?_ ?_ (fun _ _ => rfl)) ev_int) (nomark _ (by decide) (by decide)))))) (fun e2 => bd_seq1 (sd_setLcVE (k := 5) 6 _ (fun _ => true) _ ((theirsL ns a n).map D.int) rfl nd rfl rfl (sw_true rfl rfl rfl (by decide +kernel)) (ei_list (ev_var (nm 4 rfl (.inl rfl) rfl rfl) rfl)) ?_ (blkOk_by (N := N_law_hands) (sc := defScope s_law_hands) (by decide +kernel)) (fun _ _ _ _ _ => pg_name nd rfl (.inl rfl) (.inr rfl)) (fun _ _ _ _ _ _ _ => ets_nil) (fun x hx hcx s H C cl fp => (ev_sub (ev_add (ev_var (nm 6 rfl (.inl rfl) rfl rfl) rfl) ev_int) (ev_mul ev_int (ev_ixG (0 : Int) (Ev.l (ev_var (nm 3 rfl (.inr (.inl rfl)) rfl rfl) rfl)) ev_int ?_ ?_ (fun _ _ => rfl)) ?_))) ?_ rfl (fun _ => rfl)) (bd_nil ?_)) (fun e2 => bd_nil ?_) (bd_one (sd_ret (ev_tup (ea_cons (ev_var (nm 4 rfl (.inl rfl) rfl rfl) rfl) (ea_cons (ev_var (nm 5 rfl (.inl rfl) rfl rfl) rfl) ea_nil rfl) rfl) (Nat.le_of_ble_eq_true rfl)) ?_))
  · decide
  · rw [sl]
    decide
  · decide
  · rw [sl]
    decide
  all_goals try (simp only [Bool.and_eq_true, decide_eq_true_eq] at e2)
  · rw [mine_len]
    omega
  · decide
  · rw [sl]
    decide
  · exact small_mul (by decide) (by decide)
  · have e3 : (shapeL ns a).getD 0 0 = 5 ∧ 0 < (shapeL ns a).getD 2 0 := e2
    rw [theirsL, theirs2, if_pos e3]
    exact comp_map _ _ _ _ fun x => rfl
  · exact (by repeat (first | exact Wk.nil | refine Wk.any ?_ | refine Wk.same ?_ | refine Wk.frz ?_))
  · have e3 : ¬ ((shapeL ns a).getD 0 0 = 5 ∧ 0 < (shapeL ns a).getD 2 0) := by
      intro z
      have : (decide ((shapeL ns a).getD 0 0 = 5) && decide (0 < (shapeL ns a).getD 2 0)) = true := by
        rw [decide_eq_true z.1, decide_eq_true z.2]
        rfl
      exact absurd (this.symm.trans e2) (by decide)
    rw [theirsL, theirs2, if_neg e3]
    exact (by repeat (first | exact Wk.nil | refine Wk.any ?_ | refine Wk.same ?_ | refine Wk.frz ?_))
  · rfl
end
end Y
end S_F8

section S_F9
set_option maxHeartbeats 2000000
namespace Y
open PySem PySem.Spec PyProof.Rows L2
theorem lt_of_i {α : Type} {xs : List α} {i : Nat} {x : α} (h : xs[i]? = some x) : i < xs.length := (List.getElem?_eq_some_iff.mp h).1
theorem sum_bools {α : Type} (f : α → Bool) : ∀ xs : List α, (xs.map fun x => if f x = true then (1 : Int) else 0).sum = ((xs.filter f).length : Int)
  | [] => rfl
  | x :: xs => by
    rw [List.map_cons, List.sum_cons, sum_bools f xs]
    by_cases h : f x = true
    · rw [if_pos h, List.filter_cons_of_pos h, List.length_cons]
      omega
    · rw [if_neg h, List.filter_cons_of_neg h]
      omega
abbrev d3 : Cd → D := Y.e3
abbrev d2 : Int × Int → D := Y.e2
def lval (row : List Int) (word many : List Nat) : Int :=
  if row.length = 0 then 0 else if many = wMine then ((word.dropLast).length : Int) - ((word.dropLast).count 77 : Nat) + 1 + row.getD ((word.dropLast).count 77) 0 else ((word.dropLast).count 77 : Nat) + 1 + row.getD ((word.dropLast).length - (word.dropLast).count 77) 0
theorem lval_c {row : List Int} {word many : List Nat} (h : letters word) : lval row word many = cval row word many := by
  have h2 := letters_cnt (letters_drop h)
  unfold lval cval layC
  split
  · rfl
  · split
    · rfl
    · have e : word.dropLast.length - word.dropLast.count 77 = word.dropLast.count 84 := by omega
      rw [e]
      congr 2
      omega
theorem stepC_side {mine theirs : List Int} {c : Cd} (h : c ∈ orderL mine theirs) : stepC c = 1 - 2 * c.2.1 := by
  unfold stepC
  rcases order_side h with e | e <;> rw [e] <;> rfl
section
variable {P : Program} {w : World} {K : PySem.W.Frag} {mg : Str → Option Value} {base : Heap}
theorem c_law_result (T : Tx K mg) {mine theirs xs : List Int} (h1 : mine.length ≤ 1000) (h2 : mine.length ≤ xs.length) (h3 : ∀ x ∈ xs, 0 ≤ x ∧ x < (theirs.length : Int)) : Cal P w K mg base 1 "_law_result" [lI mine, lI theirs, lI xs] (.int ((winsL mine theirs xs).length : Int)) := by
  refine cal_of T.d_law_result sc_law_result (fun _ _ _ _ _ _ us hl => match us, hl with | [_, _, _], _ => rfl) rfl fun Y hr => ?_
  have nd := sc_law_result.nd
  show Bd _ [.val _, .val _, .val _, .any] _ _
  refine bd_one (sd_ret (Ev.cast (d' := .int ((winsL mine theirs xs).length : Int)) (ev_sum rfl T.b_sum (EvN.l (EvN.cast (d' := ((List.range mine.length).map fun m => if winB mine theirs xs m = true then (1 : Int) else 0).map D.int) (evn_lc 3 _ (fun _ => true) _ rfl nd (ei_rng1 T.b_range (ev_lenL T.b_len (Ev.l (ev_var (nm 0 rfl (.inr (.inl rfl)) rfl rfl) rfl)) rfl rfl rfl) ?_ ?_ rfl rfl rfl) ?_ (blkOk_by (N := N_law_result) (sc := defScope s_law_result) (by decide +kernel)) (fun _ _ _ _ _ => pg_name nd rfl (.inl rfl) (.inr rfl)) (fun _ _ _ _ _ _ _ => ets_nil) (fun x hx hcx s H C cl fp => (ev_intB T.b_int (ev_cmp (ec_ge (ev_ixN (0 : Int) (Ev.l (ev_var (nm 0 rfl (.inr (.inl rfl)) rfl rfl) rfl)) (ev_var (nm 3 rfl (.inl rfl) rfl rfl) rfl) ?_ (fun _ _ => rfl)) (ev_ixG (0 : Int) (Ev.l (ev_var (nm 1 rfl (.inr (.inl rfl)) rfl rfl) rfl)) (ev_ixN (0 : Int) (Ev.l (ev_var (nm 2 rfl (.inr (.inl rfl)) rfl rfl) rfl)) (ev_var (nm 3 rfl (.inl rfl) rfl rfl) rfl) ?_ (fun _ _ => rfl)) ?_ ?_ (fun _ _ => rfl))) (nomark _ (by decide) (by decide))) rfl rfl rfl)) (fun _ => rfl)) ?_)) rfl rfl rfl) ?_) ?_)
  · omega
  · omega
  · rw [List.length_range]
    omega
  · rw [List.mem_range] at hx
    omega
  · rw [List.mem_range] at hx
    omega
  · rw [List.mem_range] at hx
    exact (h3 _ (getD_mem (by omega))).1
  · rw [List.mem_range] at hx
    exact (h3 _ (getD_mem (by omega))).2
  · exact comp_map _ _ _ _ fun m => rfl
  · rw [sum_bools]
    rfl
  · rfl
theorem c_law_least (T : Tx K mg) {mine theirs : List Int} (h1 : mine.length ≤ 1000) (h2 : theirs.length ≤ 1000) : Cal P w K mg base 1 "_law_least" [lI mine, lI theirs] (.int (leastL mine theirs)) := by
  refine cal_of T.d_law_least sc_law_least (fun _ _ _ _ _ _ us hl => match us, hl with | [_, _], _ => rfl) rfl fun Y hr => ?_
  have nd := sc_law_least.nd
  show Bd _ [.val _, .val _, .any, .any, .any] _ _
  refine bd_seq1 (sd_asg (k := 2) nd rfl (.inl rfl) ev_int rfl rfl (.inl rfl)) ?_
  refine bd_for 3 (fun i => [.val (lI mine), .val (lI theirs), .val (.int (bestP mine theirs i)), .any, .any]) (fun _ => True) PassesOwn.never rfl nd rfl (.inr rfl) (by repeat (first | exact Wk.nil | refine Wk.any ?_ | refine Wk.same ?_ | refine Wk.frz ?_)) (ei_list (ev_var (nm 1 rfl (.inl rfl) rfl rfl) rfl)) trivial ?_ ?_ (.inl rfl) (fun _ => rfl)
  · intro i d hd _
    rw [List.getElem?_map] at hd
    obtain ⟨x, hx, rfl⟩ := Option.map_eq_some_iff.mp hd
    refine bd_seq1 (sd_asg (k := 2) nd rfl (.inl rfl) (Ev.cast (d' := .int (bestP mine theirs (i + 1))) (ev_max2 rfl T.b_max (ev_var (nm 2 rfl (.inl rfl) rfl rfl) rfl) (ev_sub (ev_lenL T.b_len (EvN.l (evn_lc 4 _ _ _ rfl nd (ei_list (ev_var (nm 1 rfl (.inl rfl) rfl rfl) rfl)) ?_ (blkOk_by (N := N_law_least) (sc := defScope s_law_least) (by decide +kernel)) (fun _ _ _ _ _ => pg_name nd rfl (.inl rfl) (.inr rfl)) (fun x hx s H C cl fp => ets_one (et_cmp (ec_le (ev_var (nm 4 rfl (.inl rfl) rfl rfl) rfl) (ev_var (nm 3 rfl (.inr (.inl rfl)) rfl rfl) rfl)) (nomark _ (by decide) (by decide)))) (fun x hx hcx s H C cl fp => (ev_var (nm 4 rfl (.inl rfl) rfl rfl) rfl)) (fun _ => rfl))) rfl rfl rfl) (ev_lenL T.b_len (EvN.l (evn_lc 4 _ _ _ rfl nd (ei_list (ev_var (nm 0 rfl (.inl rfl) rfl rfl) rfl)) ?_ (blkOk_by (N := N_law_least) (sc := defScope s_law_least) (by decide +kernel)) (fun _ _ _ _ _ => pg_name nd rfl (.inl rfl) (.inr rfl)) (fun x hx s H C cl fp => ets_one (et_cmp (ec_lt (ev_var (nm 4 rfl (.inl rfl) rfl rfl) rfl) (ev_var (nm 3 rfl (.inr (.inl rfl)) rfl rfl) rfl)) (nomark _ (by decide) (by decide)))) (fun x hx hcx s H C cl fp => (ev_var (nm 4 rfl (.inl rfl) rfl rfl) rfl)) (fun _ => rfl))) rfl rfl rfl)) rfl rfl rfl rfl) ?_) rfl rfl (.inl rfl)) (bd_nil ⟨(by repeat (first | exact Wk.nil | refine Wk.any ?_ | refine Wk.same ?_ | refine Wk.frz ?_)), trivial⟩)
    · omega
    · omega
    · rw [bestP, getD_of hx]
      rfl
  · intro _
    rw [List.length_map, best_least]
    refine bd_one (sd_ret (ev_var (nm 2 rfl (.inl rfl) rfl rfl) rfl) ?_)
    rfl
theorem c_law_most (T : Tx K mg) {mine theirs : List Int} (h1 : mine.length ≤ 1000) (h2 : theirs.length ≤ 1000) : Cal P w K mg base 1 "_law_most" [lI mine, lI theirs] (.int (mostL mine theirs)) := by
  refine cal_of T.d_law_most sc_law_most (fun _ _ _ _ _ _ us hl => match us, hl with | [_, _], _ => rfl) rfl fun Y hr => ?_
  have nd := sc_law_most.nd
  show Bd _ [.val _, .val _, .any, .any, .any] _ _
  refine bd_seq1 (sd_asg (k := 2) nd rfl (.inl rfl) ev_int rfl rfl (.inl rfl)) ?_
  refine bd_for 3 (fun i => [.val (lI mine), .val (lI theirs), .val (.int (worstP mine theirs i)), .any, .any]) (fun _ => True) PassesOwn.never rfl nd rfl (.inr rfl) (by repeat (first | exact Wk.nil | refine Wk.any ?_ | refine Wk.same ?_ | refine Wk.frz ?_)) (ei_list (ev_var (nm 0 rfl (.inl rfl) rfl rfl) rfl)) trivial ?_ ?_ (.inl rfl) (fun _ => rfl)
  · intro i d hd _
    rw [List.getElem?_map] at hd
    obtain ⟨x, hx, rfl⟩ := Option.map_eq_some_iff.mp hd
    refine bd_seq1 (sd_asg (k := 2) nd rfl (.inl rfl) (Ev.cast (d' := .int (worstP mine theirs (i + 1))) (ev_min2 rfl T.b_min (ev_var (nm 2 rfl (.inl rfl) rfl rfl) rfl) (ev_sub (ev_lenL T.b_len (EvN.l (evn_lc 4 _ _ _ rfl nd (ei_list (ev_var (nm 1 rfl (.inl rfl) rfl rfl) rfl)) ?_ (blkOk_by (N := N_law_most) (sc := defScope s_law_most) (by decide +kernel)) (fun _ _ _ _ _ => pg_name nd rfl (.inl rfl) (.inr rfl)) (fun x hx s H C cl fp => ets_one (et_cmp (ec_le (ev_var (nm 4 rfl (.inl rfl) rfl rfl) rfl) (ev_var (nm 3 rfl (.inr (.inl rfl)) rfl rfl) rfl)) (nomark _ (by decide) (by decide)))) (fun x hx hcx s H C cl fp => (ev_var (nm 4 rfl (.inl rfl) rfl rfl) rfl)) (fun _ => rfl))) rfl rfl rfl) (ev_lenL T.b_len (EvN.l (evn_lc 4 _ _ _ rfl nd (ei_list (ev_var (nm 0 rfl (.inl rfl) rfl rfl) rfl)) ?_ (blkOk_by (N := N_law_most) (sc := defScope s_law_most) (by decide +kernel)) (fun _ _ _ _ _ => pg_name nd rfl (.inl rfl) (.inr rfl)) (fun x hx s H C cl fp => ets_one (et_cmp (ec_le (ev_var (nm 4 rfl (.inl rfl) rfl rfl) rfl) (ev_var (nm 3 rfl (.inr (.inl rfl)) rfl rfl) rfl)) (nomark _ (by decide) (by decide)))) (fun x hx hcx s H C cl fp => (ev_var (nm 4 rfl (.inl rfl) rfl rfl) rfl)) (fun _ => rfl))) rfl rfl rfl)) rfl rfl rfl rfl) ?_) rfl rfl (.inl rfl)) (bd_nil ⟨(by repeat (first | exact Wk.nil | refine Wk.any ?_ | refine Wk.same ?_ | refine Wk.frz ?_)), trivial⟩)
    · omega
    · omega
    · rw [worstP, getD_of hx]
      rfl
  · intro _
    refine bd_one (sd_ret (Ev.cast (d' := .int (mostL mine theirs)) (ev_add (ev_lenL T.b_len (Ev.l (ev_var (nm 0 rfl (.inl rfl) rfl rfl) rfl)) rfl rfl rfl) (ev_var (nm 2 rfl (.inl rfl) rfl rfl) rfl)) ?_) ?_)
    · rw [List.length_map, worst_most]
    · rfl
theorem c_law_order (T : Tx K mg) {mine theirs : List Int} (h1 : mine.length ≤ 1000) (h2 : theirs.length ≤ 1000) : Cal P w K mg base 1 "_law_order" [lI mine, lI theirs] (dL d3 (orderL mine theirs)) := by
  refine cal_of T.d_law_order sc_law_order (fun _ _ _ _ _ _ us hl => match us, hl with | [_, _], _ => rfl) rfl fun Y hr => ?_
  have nd := sc_law_order.nd
  show Bd _ [.val _, .val _, .any, .any] _ _
  refine bd_seq1 (sd_setLcVE (k := 2) 3 _ (fun _ => true) _ ((half 0 theirs theirs.length).map d3) rfl nd rfl rfl (sw_true rfl rfl rfl (by decide +kernel)) (ei_rng1 T.b_range (ev_lenL T.b_len (Ev.l (ev_var (nm 1 rfl (.inr (.inl rfl)) rfl rfl) rfl)) rfl rfl rfl) ?_ ?_ rfl rfl rfl) ?_ (blkOk_by (N := N_law_order) (sc := defScope s_law_order) (by decide +kernel)) (fun _ _ _ _ _ => pg_name nd rfl (.inl rfl) (.inr rfl)) (fun _ _ _ _ _ _ _ => ets_nil) (fun x hx hcx s H C cl fp => (ev_tup (ea_cons (ev_ixN (0 : Int) (Ev.l (ev_var (nm 1 rfl (.inr (.inl rfl)) rfl rfl) rfl)) (ev_var (nm 3 rfl (.inl rfl) rfl rfl) rfl) ?_ (fun _ _ => rfl)) (ea_cons ev_int (ea_cons (ev_var (nm 3 rfl (.inl rfl) rfl rfl) rfl) ea_nil rfl) rfl) rfl) (Nat.le_of_ble_eq_true rfl))) ?_ rfl (fun _ => rfl)) ?_
  · omega
  · omega
  · rw [List.length_range]
    omega
  · rw [List.mem_range] at hx
    omega
  · exact comp_map _ _ _ _ fun m => rfl
  refine bd_one (sd_ret (Ev.cast (d' := dL d3 (orderL mine theirs)) (EvN.ev (evn_sorted3 hr.units T.b_sorted (EvN.l (EvN.cast (d' := (cardsL mine theirs).map d3) (evn_cat (Ev.l (ev_var (nm 2 rfl (.inl rfl) rfl rfl) rfl)) (EvN.l (evn_lc 3 _ (fun _ => true) _ rfl nd (ei_rng1 T.b_range (ev_lenL T.b_len (Ev.l (ev_var (nm 0 rfl (.inr (.inl rfl)) rfl rfl) rfl)) rfl rfl rfl) ?_ ?_ rfl rfl rfl) ?_ (blkOk_by (N := N_law_order) (sc := defScope s_law_order) (by decide +kernel)) (fun _ _ _ _ _ => pg_name nd rfl (.inl rfl) (.inr rfl)) (fun _ _ _ _ _ _ _ => ets_nil) (fun x hx hcx s H C cl fp => (ev_tup (ea_cons (ev_ixN (0 : Int) (Ev.l (ev_var (nm 0 rfl (.inr (.inl rfl)) rfl rfl) rfl)) (ev_var (nm 3 rfl (.inl rfl) rfl rfl) rfl) ?_ (fun _ _ => rfl)) (ea_cons ev_int (ea_cons (ev_var (nm 3 rfl (.inl rfl) rfl rfl) rfl) ea_nil rfl) rfl) rfl) (Nat.le_of_ble_eq_true rfl))) (fun _ => rfl))) ?_) ?_)) rfl rfl rfl)) ?_) ?_)
  · omega
  · omega
  · rw [List.length_range]
    omega
  · rw [List.mem_range] at hx
    omega
  · rw [filter_true, List.length_map, List.length_map, List.length_range, half_len]
    omega
  · unfold cardsL
    rw [List.map_append]
    congr 1
    exact comp_map _ _ _ _ fun m => rfl
  · rfl
  · rfl
theorem c_law_walk (T : Tx K mg) {mine theirs : List Int} (h1 : mine.length ≤ 1000) (h2 : theirs.length ≤ 1000) : Cal P w K mg base 2 "_law_walk" [lI mine, lI theirs] (lI (heightsL mine theirs)) := by
  refine cal_of T.d_law_walk sc_law_walk (fun _ _ _ _ _ _ us hl => match us, hl with | [_, _], _ => rfl) rfl fun Y hr => ?_
  have nd := sc_law_walk.nd
  show Bd _ [.val _, .val _, .any, .any, .any] _ _
  have hol := order_len mine theirs
  refine bd_seq1 (sd_asg (k := 2) nd rfl (.inl rfl) ev_int rfl rfl (.inl rfl)) (bd_seq1 (sd_asgN (k := 3) nd rfl (.inl rfl) (evn_lst (ea_cons ev_int ea_nil rfl) (Nat.le_of_ble_eq_true rfl)) rfl rfl (.inl rfl)) ?_)
  refine bd_for 4 (fun i => [.val (lI mine), .val (lI theirs), .val (.int (hgt (orderL mine theirs) i)), .own ((walkOf (orderL mine theirs) (i + 1)).map D.int), .any]) (fun _ => True) PassesOwn.never rfl nd rfl (.inl rfl) (by repeat (first | exact Wk.nil | refine Wk.any ?_ | refine Wk.same ?_ | refine Wk.frz ?_)) (ei_list (ev_call (c_law_order T h1 h2) (hr.mono (by decide)) (ea_cons (ev_var (nm 0 rfl (.inl rfl) rfl rfl) rfl) (ea_cons (ev_var (nm 1 rfl (.inl rfl) rfl rfl) rfl) ea_nil rfl) rfl) rfl (by decide) rfl rfl)) trivial ?_ ?_ (.inl rfl) (fun _ => rfl)
  · intro i d hd _
    rw [List.getElem?_map] at hd
    obtain ⟨c, hc, rfl⟩ := Option.map_eq_some_iff.mp hd
    have hcm := List.mem_of_getElem? hc
    have hi := lt_of_i hc
    refine bd_seq1 (sd_asg (k := 2) nd rfl (.inl rfl) (Ev.cast (d' := .int (hgt (orderL mine theirs) (i + 1))) (ev_sub (ev_add (ev_var (nm 2 rfl (.inl rfl) rfl rfl) rfl) ev_int) (ev_mul ev_int (ev_ixT (ev_var (nm 4 rfl (.inl rfl) rfl rfl) rfl) ev_int rfl (fun _ _ => rfl)) ?_)) ?_) rfl rfl (.inl rfl)) (bd_seq1 (sd_app (k := 3) (nm 3 rfl (.inl rfl) rfl rfl) rfl (ev_var (nm 2 rfl (.inl rfl) rfl rfl) rfl) ?_ rfl rfl rfl rfl rfl rfl rfl) (bd_nil ⟨?_, trivial⟩))
    · exact small_mul (by decide) (by decide)
    · rw [hgt_succ hc, stepC_side hcm]
      congr 1
      omega
    · rw [List.length_map, walk_len]
      omega
    · rw [walk_succ (orderL mine theirs) (i + 1), List.map_append]
      exact (by repeat (first | exact Wk.nil | refine Wk.any ?_ | refine Wk.same ?_ | refine Wk.frz ?_))
  · intro _
    rw [List.length_map]
    refine bd_wk (ρ' := [.any, .any, .any, .val (lI (heightsL mine theirs)), .any]) (by repeat (first | exact Wk.nil | refine Wk.any ?_ | refine Wk.same ?_ | refine Wk.frz ?_)) ?_
    refine bd_one (sd_ret (ev_var (nm 3 rfl (.inl rfl) rfl rfl) rfl) ?_)
    rfl
theorem c_law_levels (T : Tx K mg) {mine theirs : List Int} (h : mine.length = theirs.length) (h1 : mine.length ≤ 1000) : Cal P w K mg base 2 "_law_levels" [lI mine, lI theirs] (dL lI [levelsL mine theirs 1, levelsL mine theirs 0]) := by
  have h2 : theirs.length ≤ 1000 := by omega
  refine cal_of T.d_law_levels sc_law_levels (fun _ _ _ _ _ _ us hl => match us, hl with | [_, _], _ => rfl) rfl fun Y hr => ?_
  have nd := sc_law_levels.nd
  show Bd _ [.val _, .val _, .any, .any, .any, .any, .any] _ _
  have hol := order_len mine theirs
  have hz : ∀ (xs : List Int), (xs.filter fun _ => true).map (fun _ => D.int 0) = (List.replicate xs.length (0 : Int)).map D.int := fun xs => by
    rw [filter_true, List.map_replicate]
    exact List.map_const' ..
  refine bd_seq1 (sd_asg (k := 2) nd rfl (.inl rfl) ev_int rfl rfl (.inl rfl)) (bd_seq1 (sd_setLcE (k := 3) 4 _ (fun _ => true) _ ((lvl (orderL mine theirs) 1 mine.length 0).map D.int) rfl nd rfl rfl (sw_true rfl rfl rfl (by decide +kernel)) (ei_list (ev_var (nm 0 rfl (.inl rfl) rfl rfl) rfl)) ?_ (blkOk_by (N := N_law_levels) (sc := defScope s_law_levels) (by decide +kernel)) (fun _ _ _ _ _ => pg_name nd rfl (.inl rfl) (.inr rfl)) (fun _ _ _ _ _ _ _ => ets_nil) (fun x hx hcx s H C cl fp => ev_int) ?_ rfl (fun _ => rfl)) (bd_seq1 (sd_setLcE (k := 5) 4 _ (fun _ => true) _ ((lvl (orderL mine theirs) 0 mine.length 0).map D.int) rfl nd rfl rfl (sw_true rfl rfl rfl (by decide +kernel)) (ei_list (ev_var (nm 1 rfl (.inl rfl) rfl rfl) rfl)) ?_ (blkOk_by (N := N_law_levels) (sc := defScope s_law_levels) (by decide +kernel)) (fun _ _ _ _ _ => pg_name nd rfl (.inl rfl) (.inr rfl)) (fun _ _ _ _ _ _ _ => ets_nil) (fun x hx hcx s H C cl fp => ev_int) ?_ rfl (fun _ => rfl)) ?_))
  · omega
  · exact hz _
  · omega
  · rw [h]
    exact hz _
  refine bd_for 6 (fun i => [.val (lI mine), .val (lI theirs), .val (.int (hgt (orderL mine theirs) i)), .own ((lvl (orderL mine theirs) 1 mine.length i).map D.int), .any, .own ((lvl (orderL mine theirs) 0 mine.length i).map D.int), .any]) (fun _ => True) PassesOwn.never rfl nd rfl (.inl rfl) (by repeat (first | exact Wk.nil | refine Wk.any ?_ | refine Wk.same ?_ | refine Wk.frz ?_)) (ei_list (ev_call (c_law_order T h1 h2) (hr.mono (by decide)) (ea_cons (ev_var (nm 0 rfl (.inl rfl) rfl rfl) rfl) (ea_cons (ev_var (nm 1 rfl (.inl rfl) rfl rfl) rfl) ea_nil rfl) rfl) rfl (by decide) rfl rfl)) trivial ?_ ?_ (.inl rfl) (fun _ => rfl)
  · intro i d hd _
    rw [List.getElem?_map] at hd
    obtain ⟨c, hc, rfl⟩ := Option.map_eq_some_iff.mp hd
    have hcm := List.mem_of_getElem? hc
    have hi := lt_of_i hc
    have hix := order_ix h hcm
    refine bd_if [.val (lI mine), .val (lI theirs), .val (.int (hgt (orderL mine theirs) (i + 1))), .own ((lvl (orderL mine theirs) 1 mine.length (i + 1)).map D.int), .any, .own ((lvl (orderL mine theirs) 0 mine.length (i + 1)).map D.int), .any] (et_cmp (ec_eqI (ev_ixT (ev_var (nm 6 rfl (.inl rfl) rfl rfl) rfl) ev_int rfl (fun _ _ => rfl)) ev_int) (nomark _ (by decide) (by decide))) (fun e => ?_) (fun e => ?_) (bd_nil ⟨(by repeat (first | exact Wk.nil | refine Wk.any ?_ | refine Wk.same ?_ | refine Wk.frz ?_)), trivial⟩)
    · have e1 : c.2.1 = 1 := of_decide_eq_true e
      have e2 : hgt (orderL mine theirs) (i + 1) = hgt (orderL mine theirs) i - 1 := by
        rw [hgt_succ hc, stepC_side hcm, e1]
        rfl
      refine bd_seq1 (sd_asg (k := 2) nd rfl (.inl rfl) (Ev.cast (d' := .int (hgt (orderL mine theirs) (i + 1))) (ev_sub (ev_var (nm 2 rfl (.inl rfl) rfl rfl) rfl) ev_int) ?_) rfl rfl (.inl rfl)) (bd_seq1 (sd_setM (k := 3) (nm 3 rfl (.inl rfl) rfl rfl) rfl (ev_var (nm 2 rfl (.inl rfl) rfl rfl) rfl) (ev_ixT (ev_var (nm 6 rfl (.inl rfl) rfl rfl) rfl) ev_int rfl (fun _ _ => rfl)) ?_ ?_ rfl rfl rfl rfl (fun _ => rfl)) (bd_nil ?_))
      · rw [e2]
      · exact hix.1
      · rw [lvl_len]
        exact hix.2
      · rw [lvl_yes hc e1, lvl_no hc (by omega)]
        exact (by repeat (first | exact Wk.nil | refine Wk.any ?_ | refine Wk.same ?_ | refine Wk.frz ?_))
    · have e1 : c.2.1 = 0 := by
        have := of_decide_eq_false e
        rcases order_side hcm with z | z
        · exact z
        · exact absurd z this
      have e2 : hgt (orderL mine theirs) (i + 1) = hgt (orderL mine theirs) i + 1 := by
        rw [hgt_succ hc, stepC_side hcm, e1]
        rfl
      refine bd_seq1 (sd_setM (k := 5) (nm 5 rfl (.inl rfl) rfl rfl) rfl (ev_var (nm 2 rfl (.inl rfl) rfl rfl) rfl) (ev_ixT (ev_var (nm 6 rfl (.inl rfl) rfl rfl) rfl) ev_int rfl (fun _ _ => rfl)) ?_ ?_ rfl rfl rfl rfl (fun _ => rfl)) (bd_seq1 (sd_asg (k := 2) nd rfl (.inl rfl) (Ev.cast (d' := .int (hgt (orderL mine theirs) (i + 1))) (ev_add (ev_var (nm 2 rfl (.inl rfl) rfl rfl) rfl) ev_int) ?_) rfl rfl (.inl rfl)) (bd_nil ?_))
      · exact hix.1
      · rw [lvl_len]
        exact hix.2
      · rw [e2]
      · rw [lvl_yes hc e1, lvl_no hc (by omega)]
        exact (by repeat (first | exact Wk.nil | refine Wk.any ?_ | refine Wk.same ?_ | refine Wk.frz ?_))
  · intro _
    rw [List.length_map]
    refine bd_wk (ρ' := [.any, .any, .any, .val (lI (levelsL mine theirs 1)), .any, .val (lI (levelsL mine theirs 0)), .any]) (by repeat (first | exact Wk.nil | refine Wk.any ?_ | refine Wk.same ?_ | refine Wk.frz ?_)) ?_
    refine bd_one (sd_ret (EvN.ev (evn_lst (ea_cons (ev_var (nm 3 rfl (.inl rfl) rfl rfl) rfl) (ea_cons (ev_var (nm 5 rfl (.inl rfl) rfl rfl) rfl) ea_nil rfl) rfl) (Nat.le_of_ble_eq_true rfl))) ?_)
    rfl
theorem c_law_value (T : Tx K mg) {row : List Int} {word many : List Nat} (h1 : word.length ≤ 1000) (h2 : row.length ≠ 0 → word.length = row.length) : Cal P w K mg base 1 "_law_value" [lI row, dW word, dW many] (.int (lval row word many)) := by
  refine cal_of T.d_law_value sc_law_value (fun _ _ _ _ _ _ us hl => match us, hl with | [_, _, _], _ => rfl) rfl fun Y hr => ?_
  have nd := sc_law_value.nd
  show Bd _ [.val _, .val _, .val _, .any, .any, .any] _ _
  refine bd_ifRet (et_cmp (ec_eqI (ev_lenL T.b_len (Ev.l (ev_var (nm 0 rfl (.inl rfl) rfl rfl) rfl)) rfl rfl rfl) ev_int) (nomark _ (by decide) (by decide))) (fun e => bd_one (sd_ret ev_int ?_)) fun e => ?_
  · have : row.length = 0 := by simpa using e
    show D.int 0 = D.int _
    rw [lval, if_pos this]
  have hr0 : row.length ≠ 0 := by simpa using e
  have hc1 : word.dropLast.count 77 ≤ word.dropLast.length := List.count_le_length
  have hdl : word.dropLast.length = word.length - 1 := List.length_dropLast
  have hwl := h2 hr0
  refine bd_seq1 (sd_asg (k := 3) nd rfl (.inl rfl) (Ev.cast (d' := dW word.dropLast) (ev_sliceW (ev_var (nm 1 rfl (.inl rfl) rfl rfl) rfl) ep_none (ep_some (ev_sub (ev_lenW T.b_len (ev_var (nm 1 rfl (.inl rfl) rfl rfl) rfl) ?_ rfl rfl rfl) ev_int)) ?_) ?_) rfl rfl (.inl rfl)) (bd_seq1 (sd_asg (k := 4) nd rfl (.inl rfl) (Ev.cast (d' := .int ((word.dropLast.count 77 : Nat) : Int)) (ev_lenL T.b_len (EvN.l (evn_lc 5 _ _ _ rfl nd (ei_str (ev_var (nm 3 rfl (.inl rfl) rfl rfl) rfl)) ?_ (blkOk_by (N := N_law_value) (sc := defScope s_law_value) (by decide +kernel)) (fun _ _ _ _ _ => pg_name nd rfl (.inl rfl) (.inr rfl)) (fun x hx s H C cl fp => ets_one (et_cmp (ec_eqW (ev_var (nm 5 rfl (.inl rfl) rfl rfl) rfl) (ev_strW [77])) (nomark _ (by decide) (by decide)))) (fun x hx hcx s H C cl fp => (ev_var (nm 5 rfl (.inl rfl) rfl rfl) rfl)) (fun _ => rfl))) rfl rfl rfl) ?_) rfl rfl (.inl rfl)) ?_)
  · omega
  · omega
  · rw [cut_pre _ (by omega), List.dropLast_eq_take]
    congr 3
    omega
  · omega
  · congr 2
    rw [List.count_eq_countP, List.countP_eq_length_filter]
    congr 1
    refine List.filter_congr fun c _ => ?_
    simp [Bool.beq_eq_decide_eq]
  refine bd_ifRet (et_cmp (ec_eqW (ev_var (nm 2 rfl (.inl rfl) rfl rfl) rfl) (ev_strW [109, 105, 110, 101])) (nomark _ (by decide) (by decide))) (fun e => bd_one (sd_ret (ev_add (ev_add (ev_sub (ev_lenW T.b_len (ev_var (nm 3 rfl (.inl rfl) rfl rfl) rfl) ?_ rfl rfl rfl) (ev_var (nm 4 rfl (.inl rfl) rfl rfl) rfl)) ev_int) (ev_ixG (0 : Int) (Ev.l (ev_var (nm 0 rfl (.inl rfl) rfl rfl) rfl)) (ev_var (nm 4 rfl (.inl rfl) rfl rfl) rfl) ?_ ?_ (fun _ _ => rfl))) ?_)) fun e => bd_one (sd_ret (ev_add (ev_add (ev_var (nm 4 rfl (.inl rfl) rfl rfl) rfl) ev_int) (ev_ixG (0 : Int) (Ev.l (ev_var (nm 0 rfl (.inl rfl) rfl rfl) rfl)) (ev_sub (ev_lenW T.b_len (ev_var (nm 3 rfl (.inl rfl) rfl rfl) rfl) ?_ rfl rfl rfl) (ev_var (nm 4 rfl (.inl rfl) rfl rfl) rfl)) ?_ ?_ (fun _ _ => rfl))) ?_)
  · omega
  · omega
  · omega
  · show D.int _ = D.int _
    rw [lval, if_neg hr0, if_pos (of_decide_eq_true e), Int.toNat_natCast]
  · omega
  · omega
  · omega
  · show D.int _ = D.int _
    rw [lval, if_neg hr0, if_neg (of_decide_eq_false e)]
    have e9 : ((word.dropLast.length : Int) - ((word.dropLast.count 77 : Nat) : Int)).toNat = word.dropLast.length - word.dropLast.count 77 := by omega
    rw [e9]
end
end Y
end S_F9

section S_F10
set_option maxHeartbeats 2000000
namespace Y
open PySem PySem.Spec PyProof.Rows L2
theorem comp_id {α γ : Type} (xs : List α) (c : α → Bool) (f : α → γ) : (xs.filter c).map f = (xs.filter c).map f := rfl
inductive Form : List D → List Nat → Prop
  | nil : Form [] []
  | s {w : List Nat} {ds : List D} {fs : List Nat} : Form ds fs → Form (dW w :: ds) (115 :: fs)
  | i {n : Int} {ds : List D} {fs : List Nat} : Form ds fs → Form (.int n :: ds) (105 :: fs)
  | l {ns : List Int} {ds : List D} {fs : List Nat} : Form ds fs → Form (lI ns :: ds) (108 :: fs)
theorem Form.len {ds : List D} {fs : List Nat} (h : Form ds fs) : ds.length = fs.length := by
  induction h <;> simp_all
theorem Form.at {ds : List D} {fs : List Nat} (h : Form ds fs) : ∀ {k : Nat}, k < fs.length → (fs[k]? = some 115 ∧ ∃ w, ds[k]? = some (dW w)) ∨ (fs[k]? = some 105 ∧ ∃ n, ds[k]? = some (.int n)) ∨ (fs[k]? = some 108 ∧ ∃ ns, ds[k]? = some (lI ns)) := by
  induction h with
  | nil => exact fun hk => absurd hk (Nat.not_lt_zero _)
  | @s w ds fs h ih =>
    intro k hk
    cases k with
    | zero => exact .inl ⟨rfl, w, rfl⟩
    | succ k => simpa using ih (k := k) (by simpa using hk)
  | @i w ds fs h ih =>
    intro k hk
    cases k with
    | zero => exact .inr (.inl ⟨rfl, w, rfl⟩)
    | succ k => simpa using ih (k := k) (by simpa using hk)
  | @l w ds fs h ih =>
    intro k hk
    cases k with
    | zero => exact .inr (.inr ⟨rfl, w, rfl⟩)
    | succ k => simpa using ih (k := k) (by simpa using hk)
def Part (d : D) : Prop := (∃ i, d = .int i) ∨ (∃ w, d = dW w) ∨ ∃ ns, d = lI ns
section
variable {P : Program} {w : World} {K : PySem.W.Frag} {mg : Str → Option Value} {base : Heap}
theorem c_law_mates (T : Tx K mg) {mine theirs : List Int} (h : mine.length = theirs.length) (h1 : mine.length ≤ 1000) : Cal P w K mg base 2 "_law_mates" [lI mine, lI theirs, lI (levelsL mine theirs 1), lI (levelsL mine theirs 0)] (lI (matesL mine theirs)) := by
  have h2 : theirs.length ≤ 1000 := by omega
  have hol := order_len mine theirs
  obtain ⟨l1, l0⟩ := ord_len (mine := mine) (theirs := theirs)
  rw [mates_J]
  refine cal_of T.d_law_mates sc_law_mates (fun _ _ _ _ _ _ us hl => match us, hl with | [_, _, _, _], _ => rfl) rfl fun Y hr => ?_
  have nd := sc_law_mates.nd
  show Bd _ [.val _, .val _, .val _, .val _, .any, .any, .any, .any, .any, .any, .any, .any, .any, .any] _ _
  refine bd_seq1 (sd_asg (k := 4) nd rfl (.inl rfl) (ev_call (c_law_order T h1 h2) (hr.mono (by decide)) (ea_cons (ev_var (nm 0 rfl (.inl rfl) rfl rfl) rfl) (ea_cons (ev_var (nm 1 rfl (.inl rfl) rfl rfl) rfl) ea_nil rfl) rfl) rfl (by decide) rfl rfl) rfl rfl (.inl rfl)) ?_
  refine bd_seq1 (sd_setLcVE (k := 5) 6 _ _ _ ((ordS mine theirs 1).map D.int) rfl nd rfl rfl (sw_true rfl rfl rfl (by decide +kernel)) (ei_list (ev_var (nm 4 rfl (.inl rfl) rfl rfl) rfl)) ?_ (blkOk_by (N := N_law_mates) (sc := defScope s_law_mates) (by decide +kernel)) (fun _ _ _ _ _ => pg_name nd rfl (.inl rfl) (.inr rfl)) (fun x hx s H C cl fp => ets_one (et_cmp (ec_eqI (ev_ixT (ev_var (nm 6 rfl (.inl rfl) rfl rfl) rfl) ev_int rfl (fun _ _ => rfl)) ev_int) (nomark _ (by decide) (by decide)))) (fun x hx hcx s H C cl fp => (ev_ixT (ev_var (nm 6 rfl (.inl rfl) rfl rfl) rfl) ev_int rfl (fun _ _ => rfl))) ?_ rfl (fun _ => rfl)) (bd_seq1 (sd_setLcVE (k := 7) 6 _ _ _ ((ordS mine theirs 0).map D.int) rfl nd rfl rfl (sw_true rfl rfl rfl (by decide +kernel)) (ei_list (ev_var (nm 4 rfl (.inl rfl) rfl rfl) rfl)) ?_ (blkOk_by (N := N_law_mates) (sc := defScope s_law_mates) (by decide +kernel)) (fun _ _ _ _ _ => pg_name nd rfl (.inl rfl) (.inr rfl)) (fun x hx s H C cl fp => ets_one (et_cmp (ec_eqI (ev_ixT (ev_var (nm 6 rfl (.inl rfl) rfl rfl) rfl) ev_int rfl (fun _ _ => rfl)) ev_int) (nomark _ (by decide) (by decide)))) (fun x hx hcx s H C cl fp => (ev_ixT (ev_var (nm 6 rfl (.inl rfl) rfl rfl) rfl) ev_int rfl (fun _ _ => rfl))) ?_ rfl (fun _ => rfl)) ?_)
  · omega
  · rw [ordS, sideL, List.map_map]
    rfl
  · omega
  · rw [ordS, sideL, List.map_map]
    rfl
  refine bd_seq1 (sd_setLcE (k := 8) 9 _ (fun _ => true) _ ((mtJ (ordS mine theirs 1) (levelsL mine theirs 1) (fun z => (ordS mine theirs 0).filter fun k => decide ((levelsL mine theirs 0).getD k.toNat 0 = z)) mine.length 0).map D.int) rfl nd rfl rfl (sw_true rfl rfl rfl (by decide +kernel)) (ei_list (ev_var (nm 0 rfl (.inl rfl) rfl rfl) rfl)) ?_ (blkOk_by (N := N_law_mates) (sc := defScope s_law_mates) (by decide +kernel)) (fun _ _ _ _ _ => pg_name nd rfl (.inl rfl) (.inr rfl)) (fun _ _ _ _ _ _ _ => ets_nil) (fun x hx hcx s H C cl fp => ev_int) ?_ rfl (fun _ => rfl)) ?_
  · omega
  · rw [filter_true, mtJ, List.map_replicate]
    exact List.map_const' ..
  refine bd_for 10 (fun i => [.val (lI mine), .val (lI theirs), .val (lI (levelsL mine theirs 1)), .val (lI (levelsL mine theirs 0)), .any, .val (lI (ordS mine theirs 1)), .any, .val (lI (ordS mine theirs 0)), .own ((mtJ (ordS mine theirs 1) (levelsL mine theirs 1) (fun z => (ordS mine theirs 0).filter fun k => decide ((levelsL mine theirs 0).getD k.toNat 0 = z)) mine.length i).map D.int), .any, .any, .any, .any, .any]) (fun _ => True) PassesOwn.never rfl nd rfl (.inr rfl) (by repeat (first | exact Wk.nil | refine Wk.any ?_ | refine Wk.same ?_ | refine Wk.frz ?_)) (ei_list (ev_var (nm 5 rfl (.inl rfl) rfl rfl) rfl)) trivial ?_ ?_ (.inl rfl) (fun _ => rfl)
  · intro i d hd _
    rw [List.getElem?_map] at hd
    obtain ⟨m, hm, rfl⟩ := Option.map_eq_some_iff.mp hd
    have hi := lt_of_i hm
    have hmx := ord_ix h (List.mem_of_getElem? hm)
    have hmg : (ordS mine theirs 1).getD i 0 = m := getD_of hm
    obtain ⟨c, hc⟩ := side_get (mine := mine) (theirs := theirs) h (.inr rfl) (k := i) (by omega)
    have hcm : c.2.2 = m := by rw [← ord_getD hc]; exact hmg
    obtain ⟨q, hq, kq, sq⟩ := rank_at hc
    have hroom := mate_room h hq sq
    rw [cM_side, kq, wQ_side, hcm] at hroom
    refine bd_seq1 (sd_setLcVE (k := 11) 12 _ _ _ ((((ordS mine theirs 1).take i).filter fun k => decide ((levelsL mine theirs 1).getD k.toNat 0 = (levelsL mine theirs 1).getD m.toNat 0)).map D.int) rfl nd rfl rfl (sw_true rfl rfl rfl (by decide +kernel)) (ei_list (EvN.ev (EvN.cast (d' := ((ordS mine theirs 1).take i).map D.int) (evn_slice (Ev.l (ev_var (nm 5 rfl (.inl rfl) rfl rfl) rfl)) ep_none (ep_some (ev_index (j := i) (Ev.l (ev_var (nm 5 rfl (.inl rfl) rfl rfl) rfl)) (ev_var (nm 10 rfl (.inr (.inl rfl)) rfl rfl) rfl) ?_ ?_ rfl rfl rfl rfl rfl))) ?_))) ?_ (blkOk_by (N := N_law_mates) (sc := defScope s_law_mates) (by decide +kernel)) (fun _ _ _ _ _ => pg_name nd rfl (.inl rfl) (.inr rfl)) (fun x hx s H C cl fp => ets_one (et_cmp (ec_eqI (ev_ixG (0 : Int) (Ev.l (ev_var (nm 2 rfl (.inr (.inl rfl)) rfl rfl) rfl)) (ev_var (nm 12 rfl (.inl rfl) rfl rfl) rfl) ?_ ?_ (fun _ _ => rfl)) (ev_ixG (0 : Int) (Ev.l (ev_var (nm 2 rfl (.inr (.inl rfl)) rfl rfl) rfl)) (ev_var (nm 10 rfl (.inr (.inl rfl)) rfl rfl) rfl) ?_ ?_ (fun _ _ => rfl))) (nomark _ (by decide) (by decide)))) (fun x hx hcx s H C cl fp => (ev_var (nm 12 rfl (.inl rfl) rfl rfl) rfl)) ?_ rfl (fun _ => rfl)) ?_
    · exact hm
    · intro k hk e
      have hk2 := (List.getElem?_eq_some_iff.mp e).1
      have := (List.getElem?_inj hk2 (ord_nodup mine theirs 1)).mp (e.trans hm.symm)
      omega
    · rw [cut_map, cut_pre _ (by omega), Int.toNat_natCast]
    · rw [List.length_take]
      omega
    · have := List.mem_of_mem_take hx
      exact (ord_ix h this).1
    · have := List.mem_of_mem_take hx
      rw [lev_len]
      exact (ord_ix h this).2
    · exact hmx.1
    · rw [lev_len]
      exact hmx.2
    · rfl
    refine bd_seq1 (sd_setLcVE (k := 13) 12 _ _ _ (((ordS mine theirs 0).filter fun k => decide ((levelsL mine theirs 0).getD k.toNat 0 = (levelsL mine theirs 1).getD m.toNat 0)).map D.int) rfl nd rfl rfl (sw_true rfl rfl rfl (by decide +kernel)) (ei_list (ev_var (nm 7 rfl (.inl rfl) rfl rfl) rfl)) ?_ (blkOk_by (N := N_law_mates) (sc := defScope s_law_mates) (by decide +kernel)) (fun _ _ _ _ _ => pg_name nd rfl (.inl rfl) (.inr rfl)) (fun x hx s H C cl fp => ets_one (et_cmp (ec_eqI (ev_ixG (0 : Int) (Ev.l (ev_var (nm 3 rfl (.inr (.inl rfl)) rfl rfl) rfl)) (ev_var (nm 12 rfl (.inl rfl) rfl rfl) rfl) ?_ ?_ (fun _ _ => rfl)) (ev_ixG (0 : Int) (Ev.l (ev_var (nm 2 rfl (.inr (.inl rfl)) rfl rfl) rfl)) (ev_var (nm 10 rfl (.inr (.inl rfl)) rfl rfl) rfl) ?_ ?_ (fun _ _ => rfl))) (nomark _ (by decide) (by decide)))) (fun x hx hcx s H C cl fp => (ev_var (nm 12 rfl (.inl rfl) rfl rfl) rfl)) ?_ rfl (fun _ => rfl)) ?_
    · omega
    · exact (ord_ix h hx).1
    · rw [lev_len]
      exact (ord_ix h hx).2
    · exact hmx.1
    · rw [lev_len]
      exact hmx.2
    · rfl
    refine bd_seq1 (sd_setM (k := 8) (nm 8 rfl (.inl rfl) rfl rfl) rfl (ev_ixG (0 : Int) (Ev.l (ev_var (nm 13 rfl (.inl rfl) rfl rfl) rfl)) (ev_lenL T.b_len (Ev.l (ev_var (nm 11 rfl (.inl rfl) rfl rfl) rfl)) rfl rfl rfl) ?_ ?_ (fun _ _ => rfl)) (ev_var (nm 10 rfl (.inr (.inl rfl)) rfl rfl) rfl) ?_ ?_ rfl rfl rfl rfl (fun _ => rfl)) (bd_nil ⟨?_, trivial⟩)
    · omega
    · exact Int.ofNat_lt.mpr hroom
    · exact hmx.1
    · rw [mtJ_len]
      exact hmx.2
    · rw [mtJ, hmg, Int.toNat_natCast]
      exact (by repeat (first | exact Wk.nil | refine Wk.any ?_ | refine Wk.same ?_ | refine Wk.frz ?_))
  · intro _
    rw [List.length_map]
    refine bd_wk (ρ' := [.any, .any, .any, .any, .any, .any, .any, .any, .val (lI (mtJ (ordS mine theirs 1) (levelsL mine theirs 1) (fun z => (ordS mine theirs 0).filter fun k => decide ((levelsL mine theirs 0).getD k.toNat 0 = z)) mine.length mine.length)), .any, .any, .any, .any, .any]) (by rw [l1]; exact (by repeat (first | exact Wk.nil | refine Wk.any ?_ | refine Wk.same ?_ | refine Wk.frz ?_))) ?_
    refine bd_one (sd_ret (ev_var (nm 8 rfl (.inl rfl) rfl rfl) rfl) ?_)
    rfl
end
end Y
end S_F10

section S_F11
set_option maxHeartbeats 2000000
namespace Y
open PySem PySem.Spec PyProof.Rows L2
theorem EvL.cast {X : Cx} {ρ : Rho} {e : Expr} {ds d' : List D} (h : EvL X ρ e ds) (q : ds = d') : EvL X ρ e d' := q ▸ h
theorem EvI.cast {X : Cx} {ρ : Rho} {tg e : Expr} {ds d' : List D} (h : EvI X ρ tg e ds) (q : ds = d') : EvI X ρ tg e d' := q ▸ h
theorem take_set {α : Type} (xs : List α) (k : Nat) (x : α) (h : k < xs.length) : xs.take k ++ [x] ++ xs.drop (k + 1) = xs.set k x := by
  rw [List.set_eq_take_append_cons_drop, if_pos h, List.append_assoc]
  rfl
theorem prt_mod {n : Nat} {r : Int} {k : Nat} (r0 : 0 ≤ r) (r1 : r ≤ n) (hk : k < n) : ((k : Int) + r) % (n : Int) = prt n r k := by
  unfold prt
  split
  · have e : ((k : Int) + r) % (n : Int) = (((k : Int) + r - n) + n) % (n : Int) := by
      congr 1
      omega
    rw [e, Int.add_emod_right, Int.emod_eq_of_lt (by omega) (by omega)]
  · rw [Int.emod_eq_of_lt (by omega) (by omega)]
section
variable {P : Program} {w : World} {K : PySem.W.Frag} {mg : Str → Option Value} {base : Heap}
theorem c_law_rotation (T : Tx K mg) {mine theirs : List Int} (h : mine.length = theirs.length) (h1 : mine.length ≤ 1000) {r : Int} (r0 : 0 ≤ r) (r1 : r ≤ mine.length) : Cal P w K mg base 1 "_law_rotation" [lI mine, lI theirs, .int r] (lI (rotL mine theirs r)) := by
  have h2 : theirs.length ≤ 1000 := by omega
  obtain ⟨l1, l0⟩ := ord_len (mine := mine) (theirs := theirs)
  refine cal_of T.d_law_rotation sc_law_rotation (fun _ _ _ _ _ _ us hl => match us, hl with | [_, _, _], _ => rfl) rfl fun Y hr => ?_
  have nd := sc_law_rotation.nd
  show Bd _ [.val _, .val _, .val _, .any, .any, .any, .any, .any, .any, .any] _ _
  refine bd_seq1 (sd_setLcVE (k := 3) 4 _ (fun _ => true) _ ((ordS mine theirs 1).map D.int) rfl nd rfl rfl (sw_true rfl rfl rfl (by decide +kernel)) (ei_list (EvN.ev (evn_sorted2 hr.units T.b_sorted (EvN.l (EvN.cast (d' := (prsL mine).map d2) (evn_lc 5 _ (fun _ => true) _ rfl nd (ei_rng1 T.b_range (ev_lenL T.b_len (Ev.l (ev_var (nm 0 rfl (.inr (.inl rfl)) rfl rfl) rfl)) rfl rfl rfl) ?_ ?_ rfl rfl rfl) ?_ (blkOk_by (N := N_law_rotation) (sc := defScope s_law_rotation) (by decide +kernel)) (fun _ _ _ _ _ => pg_name nd rfl (.inl rfl) (.inr rfl)) (fun _ _ _ _ _ _ _ => ets_nil) (fun x hx hcx s H C cl fp => (ev_tup (ea_cons (ev_ixN (0 : Int) (Ev.l (ev_var (nm 0 rfl (.inr (.inl rfl)) rfl rfl) rfl)) (ev_var (nm 5 rfl (.inl rfl) rfl rfl) rfl) ?_ (fun _ _ => rfl)) (ea_cons (ev_var (nm 5 rfl (.inl rfl) rfl rfl) rfl) ea_nil rfl) rfl) (Nat.le_of_ble_eq_true rfl))) (fun _ => rfl)) ?_)) rfl rfl rfl))) ?_ (blkOk_by (N := N_law_rotation) (sc := defScope s_law_rotation) (by decide +kernel)) (fun _ _ _ _ _ => pg_name nd rfl (.inl rfl) (.inr rfl)) (fun _ _ _ _ _ _ _ => ets_nil) (fun x hx hcx s H C cl fp => (ev_ixT (ev_var (nm 4 rfl (.inl rfl) rfl rfl) rfl) ev_int rfl (fun _ _ => rfl))) ?_ rfl (fun _ => rfl)) ?_
  · omega
  · omega
  · rw [List.length_range]
    omega
  · rw [List.mem_range] at hx
    omega
  · exact comp_map _ _ _ _ fun m => rfl
  · rw [List.length_mergeSort, prsL, List.length_map, List.length_range]
    omega
  · rw [filter_true, ← ours_ord, List.map_map]
    rfl
  refine bd_seq1 (sd_setLcVE (k := 6) 4 _ (fun _ => true) _ ((ordS mine theirs 0).map D.int) rfl nd rfl rfl (sw_true rfl rfl rfl (by decide +kernel)) (ei_list (EvN.ev (evn_sorted2 hr.units T.b_sorted (EvN.l (EvN.cast (d' := (prsL theirs).map d2) (evn_lc 5 _ (fun _ => true) _ rfl nd (ei_rng1 T.b_range (ev_lenL T.b_len (Ev.l (ev_var (nm 1 rfl (.inr (.inl rfl)) rfl rfl) rfl)) rfl rfl rfl) ?_ ?_ rfl rfl rfl) ?_ (blkOk_by (N := N_law_rotation) (sc := defScope s_law_rotation) (by decide +kernel)) (fun _ _ _ _ _ => pg_name nd rfl (.inl rfl) (.inr rfl)) (fun _ _ _ _ _ _ _ => ets_nil) (fun x hx hcx s H C cl fp => (ev_tup (ea_cons (ev_ixN (0 : Int) (Ev.l (ev_var (nm 1 rfl (.inr (.inl rfl)) rfl rfl) rfl)) (ev_var (nm 5 rfl (.inl rfl) rfl rfl) rfl) ?_ (fun _ _ => rfl)) (ea_cons (ev_var (nm 5 rfl (.inl rfl) rfl rfl) rfl) ea_nil rfl) rfl) (Nat.le_of_ble_eq_true rfl))) (fun _ => rfl)) ?_)) rfl rfl rfl))) ?_ (blkOk_by (N := N_law_rotation) (sc := defScope s_law_rotation) (by decide +kernel)) (fun _ _ _ _ _ => pg_name nd rfl (.inl rfl) (.inr rfl)) (fun _ _ _ _ _ _ _ => ets_nil) (fun x hx hcx s H C cl fp => (ev_ixT (ev_var (nm 4 rfl (.inl rfl) rfl rfl) rfl) ev_int rfl (fun _ _ => rfl))) ?_ rfl (fun _ => rfl)) ?_
  · omega
  · omega
  · rw [List.length_range]
    omega
  · rw [List.mem_range] at hx
    omega
  · exact comp_map _ _ _ _ fun m => rfl
  · rw [List.length_mergeSort, prsL, List.length_map, List.length_range]
    omega
  · rw [filter_true, ← others_ord, List.map_map]
    rfl
  refine bd_seq1 (sd_setLcE (k := 7) 8 _ (fun _ => true) _ ((rotP (ordS mine theirs 1) (ordS mine theirs 0) mine.length r 0).map D.int) rfl nd rfl rfl (sw_true rfl rfl rfl (by decide +kernel)) (ei_list (ev_var (nm 0 rfl (.inr (.inl rfl)) rfl rfl) rfl)) ?_ (blkOk_by (N := N_law_rotation) (sc := defScope s_law_rotation) (by decide +kernel)) (fun _ _ _ _ _ => pg_name nd rfl (.inl rfl) (.inr rfl)) (fun _ _ _ _ _ _ _ => ets_nil) (fun x hx hcx s H C cl fp => ev_int) ?_ rfl (fun _ => rfl)) ?_
  · omega
  · rw [filter_true, rotP, List.map_replicate]
    exact List.map_const' ..
  refine bd_for 9 (fun i => [.val (lI mine), .val (lI theirs), .val (.int r), .val (lI (ordS mine theirs 1)), .any, .any, .val (lI (ordS mine theirs 0)), .own ((rotP (ordS mine theirs 1) (ordS mine theirs 0) mine.length r i).map D.int), .any, .any]) (fun _ => True) PassesOwn.never rfl nd rfl (.inl rfl) (by repeat (first | exact Wk.nil | refine Wk.any ?_ | refine Wk.same ?_ | refine Wk.frz ?_)) (ei_rng1 T.b_range (ev_lenL T.b_len (Ev.l (ev_var (nm 0 rfl (.inr (.inl rfl)) rfl rfl) rfl)) rfl rfl rfl) ?_ ?_ rfl rfl rfl) trivial ?_ ?_ (.inl rfl) (fun _ => rfl)
  · omega
  · omega
  · intro i d hd _
    obtain ⟨hi, rfl⟩ := rng_get hd
    rw [Int.toNat_natCast] at hi
    have hm := ord_ix h (getD_mem (z := 0) (show i < (ordS mine theirs 1).length by omega))
    have hp := prt_in r0 r1 hi
    refine bd_seq1 (sd_setM (k := 7) (nm 7 rfl (.inl rfl) rfl rfl) rfl (ev_ixG (0 : Int) (Ev.l (ev_var (nm 6 rfl (.inl rfl) rfl rfl) rfl)) (ev_mod (ev_intI T.b_int (ev_add (ev_var (nm 9 rfl (.inl rfl) rfl rfl) rfl) (ev_var (nm 2 rfl (.inl rfl) rfl rfl) rfl)) rfl rfl rfl) (ev_lenL T.b_len (Ev.l (ev_var (nm 0 rfl (.inr (.inl rfl)) rfl rfl) rfl)) rfl rfl rfl) ?_) ?_ ?_ (fun _ _ => rfl)) (ev_ixN (0 : Int) (Ev.l (ev_var (nm 3 rfl (.inl rfl) rfl rfl) rfl)) (ev_var (nm 9 rfl (.inl rfl) rfl rfl) rfl) ?_ (fun _ _ => rfl)) ?_ ?_ rfl rfl rfl rfl (fun _ => rfl)) (bd_nil ⟨?_, trivial⟩)
    · omega
    · rw [prt_mod r0 r1 hi]
      exact hp.1
    · rw [prt_mod r0 r1 hi, l0]
      omega
    · omega
    · exact hm.1
    · rw [rotP_len]
      exact hm.2
    · rw [rotP, prt_mod r0 r1 hi]
      exact (by repeat (first | exact Wk.nil | refine Wk.any ?_ | refine Wk.same ?_ | refine Wk.frz ?_))
  · intro _
    rw [List.length_map, List.length_range, Int.toNat_natCast]
    refine bd_wk (ρ' := [.any, .any, .any, .any, .any, .any, .any, .val (lI (rotL mine theirs r)), .any, .any]) (by repeat (first | exact Wk.nil | refine Wk.any ?_ | refine Wk.same ?_ | refine Wk.frz ?_)) ?_
    refine bd_one (sd_ret (ev_var (nm 7 rfl (.inl rfl) rfl rfl) rfl) ?_)
    rfl
theorem c_law_is_int (T : Tx K mg) {i : Int} : Cal P w K mg base 1 "_law_is_int" [.int i] (.bl true) := by
  refine cal_of T.d_law_is_int sc_law_is_int (fun _ _ _ _ _ _ us hl => match us, hl with | [_], _ => rfl) rfl fun Y hr => ?_
  have nd := sc_law_is_int.nd
  show Bd _ [.val _] _ _
  refine bd_one (sd_ret (ev_and (ev_isi "int" (r := true) T.b_isinstance (ev_var (nm 0 rfl (.inl rfl) rfl rfl) rfl) T.b_int (by decide +kernel) (show kitB "int" "int" = some true by decide +kernel) rfl rfl rfl rfl rfl rfl (by decide) (by decide)) fun hb0 => (ev_and1 (ev_not (ev_isi "bool" (r := false) T.b_isinstance (ev_var (nm 0 rfl (.inl rfl) rfl rfl) rfl) T.b_bool (by decide +kernel) (show kitB "int" "bool" = some false by decide +kernel) rfl rfl rfl rfl rfl rfl (by decide) (by decide))))) ?_)
  rfl
theorem c_law_is_ints (T : Tx K mg) {ns : List Int} (h1 : ns.length ≤ 100000) : Cal P w K mg base 2 "_law_is_ints" [lI ns] (.bl true) := by
  refine cal_of T.d_law_is_ints sc_law_is_ints (fun _ _ _ _ _ _ us hl => match us, hl with | [_], _ => rfl) rfl fun Y hr => ?_
  have nd := sc_law_is_ints.nd
  show Bd _ [.val _, .any] _ _
  refine bd_one (sd_ret (ev_and (ev_isi "list" (r := true) T.b_isinstance (ev_var (nm 0 rfl (.inl rfl) rfl rfl) rfl) T.b_list (by decide +kernel) (show kitB "list" "list" = some true by decide +kernel) rfl rfl rfl rfl rfl rfl (by decide) (by decide)) fun hb0 => (ev_and1 (ev_all rfl T.b_all (EvN.l (EvN.cast (d' := (ns.map fun _ => true).map D.bl) (evn_lc 1 _ (fun _ => true) _ rfl nd (ei_list (ev_var (nm 0 rfl (.inl rfl) rfl rfl) rfl)) ?_ (blkOk_by (N := N_law_is_ints) (sc := defScope s_law_is_ints) (by decide +kernel)) (fun _ _ _ _ _ => pg_name nd rfl (.inl rfl) (.inr rfl)) (fun _ _ _ _ _ _ _ => ets_nil) (fun x hx hcx s H C cl fp => (ev_call (c_law_is_int T) (hr.mono (by decide)) (ea_cons (ev_var (nm 1 rfl (.inl rfl) rfl rfl) rfl) ea_nil rfl) rfl (by decide) rfl rfl)) (fun _ => rfl)) ?_)) rfl rfl rfl))) ?_)
  · exact h1
  · exact comp_map _ _ _ _ fun m => rfl
  · show D.bl _ = D.bl _
    congr 1
    simp
theorem c_law_form_good (T : Tx K mg) {ds : List D} {fs : List Nat} (hf : Form ds fs) (h1 : fs.length ≤ 1000) (h2 : ∀ (ns : List Int), lI ns ∈ ds → ns.length ≤ 100000) : Cal P w K mg base 3 "_law_form_good" [.tup ds, dW fs] (.bl true) := by
  have hl := hf.len
  refine cal_of T.d_law_form_good sc_law_form_good (fun _ _ _ _ _ _ us hl => match us, hl with | [_, _], _ => rfl) rfl fun Y hr => ?_
  have nd := sc_law_form_good.nd
  show Bd _ [.val _, .val _, .any] _ _
  refine bd_ifRet (EvW.t (ew_or (et_not (et_ev (ev_isi "tuple" (r := true) T.b_isinstance (ev_var (nm 0 rfl (.inl rfl) rfl rfl) rfl) T.b_tuple (by decide +kernel) (show kitB "tuple" "tuple" = some true by decide +kernel) rfl rfl rfl rfl rfl rfl (by decide) (by decide)) (fun _ => rfl))) fun hb0 => (ew_or1 (et_cmp (ec_neI (ev_lenT T.b_len (ev_var (nm 0 rfl (.inl rfl) rfl rfl) rfl) rfl rfl rfl) (ev_lenW T.b_len (ev_var (nm 1 rfl (.inl rfl) rfl rfl) rfl) ?_ rfl rfl rfl)) (nomark _ (by decide) (by decide)))))) (fun e => ?_) fun e => ?_
  · omega
  · exfalso
    have : decide ((ds.length : Int) = (fs.length : Int)) = true := decide_eq_true (by omega)
    simp [this] at e
  refine bd_for 2 (fun i => [.val (.tup ds), .val (dW fs), .any]) (fun _ => True) PassesOwn.never rfl nd rfl (.inl rfl) (by repeat (first | exact Wk.nil | refine Wk.any ?_ | refine Wk.same ?_ | refine Wk.frz ?_)) (ei_rng1 T.b_range (ev_lenW T.b_len (ev_var (nm 1 rfl (.inl rfl) rfl rfl) rfl) ?_ rfl rfl rfl) ?_ ?_ rfl rfl rfl) trivial ?_ ?_ (.inl rfl) (fun _ => rfl)
  · omega
  · omega
  · omega
  · intro i d hd _
    obtain ⟨hi, rfl⟩ := rng_get hd
    rw [Int.toNat_natCast] at hi
    have hat : ∀ d, ds[i]? = some d → atI ds (i : Int) = some d := fun d hd => by
      rw [atI_in (by omega) (by omega), Int.toNat_natCast]
      exact hd
    rcases hf.at hi with ⟨e1, ww, e2⟩ | ⟨e1, nn, e2⟩ | ⟨e1, ns, e2⟩
    · have ef : fs.getD i 0 = 115 := getD_of e1
      refine bd_ifRet (EvT.cast (k' := false) (EvW.t (ew_and (et_cmp (ec_eqW (ev_ixWN (ev_var (nm 1 rfl (.inl rfl) rfl rfl) rfl) (ev_var (nm 2 rfl (.inl rfl) rfl rfl) rfl) ?_ ?_ (fun _ _ => rfl)) (ev_strW [115])) (nomark _ (by decide) (by decide))) fun hb0 => ew_and1 (et_not (et_ev (ev_isi "str" (d := dW ww) (r := true) T.b_isinstance (ev_ixT (ev_var (nm 0 rfl (.inl rfl) rfl rfl) rfl) (ev_var (nm 2 rfl (.inl rfl) rfl rfl) rfl) (hat _ e2) (fun _ _ => rfl)) T.b_str (by decide +kernel) (show kitB "str" "str" = some true by decide +kernel)) (fun _ => rfl))))) (by simp)) (fun e => nomatch e) fun _ => ?_
      · omega
      · exact hi
      refine bd_ifRet (EvT.cast (k' := false) (EvW.t (ew_and (l := false) (et_cmp (ec_eqW (ev_ixWN (ev_var (nm 1 rfl (.inl rfl) rfl rfl) rfl) (ev_var (nm 2 rfl (.inl rfl) rfl rfl) rfl) ?_ ?_ (fun _ _ => rfl)) (ev_strW [105])) (nomark _ (by decide) (by decide))) fun hb0 => ?_)) (by simp)) (fun e => nomatch e) fun _ => ?_
      · omega
      · exact hi
      · rw [ef] at hb0
        exact absurd hb0 (by decide)
      refine bd_ifRet (EvT.cast (k' := false) (EvW.t (ew_and (l := false) (et_cmp (ec_eqW (ev_ixWN (ev_var (nm 1 rfl (.inl rfl) rfl rfl) rfl) (ev_var (nm 2 rfl (.inl rfl) rfl rfl) rfl) ?_ ?_ (fun _ _ => rfl)) (ev_strW [108])) (nomark _ (by decide) (by decide))) fun hb0 => ?_)) (by simp)) (fun e => nomatch e) fun _ => bd_nil ⟨(by repeat (first | exact Wk.nil | refine Wk.any ?_ | refine Wk.same ?_ | refine Wk.frz ?_)), trivial⟩
      · omega
      · exact hi
      · rw [ef] at hb0
        exact absurd hb0 (by decide)
    · have ef : fs.getD i 0 = 105 := getD_of e1
      refine bd_ifRet (EvT.cast (k' := false) (EvW.t (ew_and (l := false) (et_cmp (ec_eqW (ev_ixWN (ev_var (nm 1 rfl (.inl rfl) rfl rfl) rfl) (ev_var (nm 2 rfl (.inl rfl) rfl rfl) rfl) ?_ ?_ (fun _ _ => rfl)) (ev_strW [115])) (nomark _ (by decide) (by decide))) fun hb0 => ?_)) (by simp)) (fun e => nomatch e) fun _ => ?_
      · omega
      · exact hi
      · rw [ef] at hb0
        exact absurd hb0 (by decide)
      refine bd_ifRet (EvT.cast (k' := false) (EvW.t (ew_and (et_cmp (ec_eqW (ev_ixWN (ev_var (nm 1 rfl (.inl rfl) rfl rfl) rfl) (ev_var (nm 2 rfl (.inl rfl) rfl rfl) rfl) ?_ ?_ (fun _ _ => rfl)) (ev_strW [105])) (nomark _ (by decide) (by decide))) fun hb0 => ew_and1 (et_not (et_ev (ev_call (c_law_is_int T (i := nn)) (hr.mono (by decide)) (ea_cons (ev_ixT (ev_var (nm 0 rfl (.inl rfl) rfl rfl) rfl) (ev_var (nm 2 rfl (.inl rfl) rfl rfl) rfl) (hat _ e2) (fun _ _ => rfl)) ea_nil rfl) rfl (by decide) rfl rfl) (fun _ => rfl))))) (by simp)) (fun e => nomatch e) fun _ => ?_
      · omega
      · exact hi
      refine bd_ifRet (EvT.cast (k' := false) (EvW.t (ew_and (l := false) (et_cmp (ec_eqW (ev_ixWN (ev_var (nm 1 rfl (.inl rfl) rfl rfl) rfl) (ev_var (nm 2 rfl (.inl rfl) rfl rfl) rfl) ?_ ?_ (fun _ _ => rfl)) (ev_strW [108])) (nomark _ (by decide) (by decide))) fun hb0 => ?_)) (by simp)) (fun e => nomatch e) fun _ => bd_nil ⟨(by repeat (first | exact Wk.nil | refine Wk.any ?_ | refine Wk.same ?_ | refine Wk.frz ?_)), trivial⟩
      · omega
      · exact hi
      · rw [ef] at hb0
        exact absurd hb0 (by decide)
    · have ef : fs.getD i 0 = 108 := getD_of e1
      refine bd_ifRet (EvT.cast (k' := false) (EvW.t (ew_and (l := false) (et_cmp (ec_eqW (ev_ixWN (ev_var (nm 1 rfl (.inl rfl) rfl rfl) rfl) (ev_var (nm 2 rfl (.inl rfl) rfl rfl) rfl) ?_ ?_ (fun _ _ => rfl)) (ev_strW [115])) (nomark _ (by decide) (by decide))) fun hb0 => ?_)) (by simp)) (fun e => nomatch e) fun _ => ?_
      · omega
      · exact hi
      · rw [ef] at hb0
        exact absurd hb0 (by decide)
      refine bd_ifRet (EvT.cast (k' := false) (EvW.t (ew_and (l := false) (et_cmp (ec_eqW (ev_ixWN (ev_var (nm 1 rfl (.inl rfl) rfl rfl) rfl) (ev_var (nm 2 rfl (.inl rfl) rfl rfl) rfl) ?_ ?_ (fun _ _ => rfl)) (ev_strW [105])) (nomark _ (by decide) (by decide))) fun hb0 => ?_)) (by simp)) (fun e => nomatch e) fun _ => ?_
      · omega
      · exact hi
      · rw [ef] at hb0
        exact absurd hb0 (by decide)
      refine bd_ifRet (EvT.cast (k' := false) (EvW.t (ew_and (et_cmp (ec_eqW (ev_ixWN (ev_var (nm 1 rfl (.inl rfl) rfl rfl) rfl) (ev_var (nm 2 rfl (.inl rfl) rfl rfl) rfl) ?_ ?_ (fun _ _ => rfl)) (ev_strW [108])) (nomark _ (by decide) (by decide))) fun hb0 => ew_and1 (et_not (et_ev (ev_call (c_law_is_ints T (ns := ns) (h2 ns (List.mem_of_getElem? e2))) (hr.mono (by decide)) (ea_cons (ev_ixT (ev_var (nm 0 rfl (.inl rfl) rfl rfl) rfl) (ev_var (nm 2 rfl (.inl rfl) rfl rfl) rfl) (hat _ e2) (fun _ _ => rfl)) ea_nil rfl) rfl (by decide) rfl rfl) (fun _ => rfl))))) (by simp)) (fun e => nomatch e) fun _ => bd_nil ⟨(by repeat (first | exact Wk.nil | refine Wk.any ?_ | refine Wk.same ?_ | refine Wk.frz ?_)), trivial⟩
      · omega
      · exact hi
  · intro _
    refine bd_one (sd_ret ev_bl ?_)
    rfl
theorem c_law_partI (T : Tx K mg) {i : Int} : Cal P w K mg base 1 "_law_part" [.int i] (.int i) := by
  refine cal_of T.d_law_part sc_law_part (fun _ _ _ _ _ _ us hl => match us, hl with | [_], _ => rfl) rfl fun Y hr => ?_
  have nd := sc_law_part.nd
  show Bd _ [.val _] _ _
  refine bd_ifRet (et_ev (ev_isi "list" (r := false) T.b_isinstance (ev_var (nm 0 rfl (.inl rfl) rfl rfl) rfl) T.b_list (by decide +kernel) (show kitB "int" "list" = some false by decide +kernel) rfl rfl rfl rfl rfl rfl (by decide) (by decide)) (fun _ => rfl)) (fun e => nomatch e) fun _ => bd_one (sd_ret (ev_var (nm 0 rfl (.inl rfl) rfl rfl) rfl) ?_)
  rfl
theorem c_law_partW (T : Tx K mg) {ws : List Nat} : Cal P w K mg base 1 "_law_part" [dW ws] (dW ws) := by
  refine cal_of T.d_law_part sc_law_part (fun _ _ _ _ _ _ us hl => match us, hl with | [_], _ => rfl) rfl fun Y hr => ?_
  have nd := sc_law_part.nd
  show Bd _ [.val _] _ _
  refine bd_ifRet (et_ev (ev_isi "list" (r := false) T.b_isinstance (ev_var (nm 0 rfl (.inl rfl) rfl rfl) rfl) T.b_list (by decide +kernel) (show kitB "str" "list" = some false by decide +kernel) rfl rfl rfl rfl rfl rfl (by decide) (by decide)) (fun _ => rfl)) (fun e => nomatch e) fun _ => bd_one (sd_ret (ev_var (nm 0 rfl (.inl rfl) rfl rfl) rfl) ?_)
  rfl
theorem c_law_partL (T : Tx K mg) {ns : List Int} : Cal P w K mg base 1 "_law_part" [lI ns] (lI ns) := by
  refine cal_of T.d_law_part sc_law_part (fun _ _ _ _ _ _ us hl => match us, hl with | [_], _ => rfl) rfl fun Y hr => ?_
  have nd := sc_law_part.nd
  show Bd _ [.val _] _ _
  refine bd_ifRet (et_ev (ev_isi "list" (r := true) T.b_isinstance (ev_var (nm 0 rfl (.inl rfl) rfl rfl) rfl) T.b_list (by decide +kernel) (show kitB "list" "list" = some true by decide +kernel) rfl rfl rfl rfl rfl rfl (by decide) (by decide)) (fun _ => rfl)) (fun _ => bd_one (sd_ret (EvN.ev (evn_list T.b_list (Ev.l (ev_var (nm 0 rfl (.inl rfl) rfl rfl) rfl)) rfl rfl rfl)) ?_)) fun e => nomatch e
  rfl
theorem c_law_part (T : Tx K mg) {d : D} (hp : Part d) : Cal P w K mg base 1 "_law_part" [d] d := by
  rcases hp with ⟨i, rfl⟩ | ⟨ws, rfl⟩ | ⟨ns, rfl⟩
  · exact c_law_partI T
  · exact c_law_partW T
  · exact c_law_partL T
theorem c_law_copy (T : Tx K mg) {ds : List D} (hp : ∀ d ∈ ds, Part d) (h1 : ds.length ≤ 100000) : Cal P w K mg base 2 "_law_copy" [.tup ds] (.tup ds) := by
  refine cal_of T.d_law_copy sc_law_copy (fun _ _ _ _ _ _ us hl => match us, hl with | [_], _ => rfl) rfl fun Y hr => ?_
  have nd := sc_law_copy.nd
  show Bd _ [.val _, .any] _ _
  refine bd_one (sd_ret (ev_tuple T.b_tuple (EvL.cast (d' := ds) (EvN.l (evn_lc (enc := fun d : D => d) 1 ds (fun _ => true) (fun d => d) rfl nd (EvI.cast (ei_tup (ev_var (nm 0 rfl (.inl rfl) rfl rfl) rfl)) (List.map_id' _).symm) h1 (blkOk_by (N := N_law_copy) (sc := defScope s_law_copy) (by decide +kernel)) (fun _ _ _ _ _ => pg_name nd rfl (.inl rfl) (.inr rfl)) (fun _ _ _ _ _ _ _ => ets_nil) (fun x hx hcx s H C cl fp => ev_call (c_law_part T (hp x hx)) (hr.mono (by decide)) (ea_cons (ev_var (nm 1 rfl (.inl rfl) rfl rfl) rfl) ea_nil rfl) rfl (by decide) rfl rfl) (fun _ => rfl))) ?_) rfl rfl rfl) ?_)
  · rw [filter_true]
    exact List.map_id' _
  · rfl
theorem c_law_near (T : Tx K mg) {α : Type} {f : α → D} {xs : List α} {ds : List D} {k : Nat} (h1 : xs.length ≤ 100000) (h2 : ds.length ≤ 1000) (hk : k < ds.length) : Cal P w K mg base 1 "_law_near" [.tup ds, .int (k : Int), dL f xs] (dL (fun x => .tup (ds.set k (f x))) xs) := by
  refine cal_of T.d_law_near sc_law_near (fun _ _ _ _ _ _ us hl => match us, hl with | [_, _, _], _ => rfl) rfl fun Y hr => ?_
  have nd := sc_law_near.nd
  show Bd _ [.val _, .val _, .val _, .any] _ _
  refine bd_one (sd_ret (Ev.cast (d' := dL (fun x => .tup (ds.set k (f x))) xs) (EvN.ev (evn_lc 3 _ (fun _ => true) _ rfl nd (ei_list (ev_var (nm 2 rfl (.inl rfl) rfl rfl) rfl)) ?_ (blkOk_by (N := N_law_near) (sc := defScope s_law_near) (by decide +kernel)) (fun _ _ _ _ _ => pg_name nd rfl (.inl rfl) (.inr rfl)) (fun _ _ _ _ _ _ _ => ets_nil) (fun x hx hcx s H C cl fp => (ev_catT (ev_catT (ev_sliceT (ev_var (nm 0 rfl (.inr (.inl rfl)) rfl rfl) rfl) ep_none (ep_some (ev_var (nm 1 rfl (.inr (.inl rfl)) rfl rfl) rfl))) (ev_tup (ea_cons (ev_var (nm 3 rfl (.inl rfl) rfl rfl) rfl) ea_nil rfl) (Nat.le_of_ble_eq_true rfl)) ?_) (ev_sliceT (ev_var (nm 0 rfl (.inr (.inl rfl)) rfl rfl) rfl) (ep_some (ev_add (ev_var (nm 1 rfl (.inr (.inl rfl)) rfl rfl) rfl) ev_int)) ep_none) ?_)) (fun _ => rfl))) ?_) ?_)
  · exact h1
  · rw [cut_pre _ (by omega), List.length_take]
    show _ + 1 ≤ _
    omega
  · rw [cut_pre _ (by omega), cut_suf _ (by omega), List.length_append, List.length_take, List.length_drop]
    show _ + 1 + _ ≤ _
    omega
  · refine congrArg D.lst ?_
    rw [filter_true]
    refine List.map_congr_left fun x _ => ?_
    rw [cut_pre _ (by omega), cut_suf _ (by omega), Int.toNat_natCast]
    have e : ((k : Int) + 1).toNat = k + 1 := by omega
    rw [e, take_set _ _ _ hk]
  · rfl
end
end Y
end S_F11

section S_F12
set_option maxHeartbeats 2000000
namespace Y
open PySem PySem.Spec PyProof.Rows L2
/-! ### things near to what is due -/
def big : Int := 1000000000000000000
def pnX (ps : List Int) (a b : Nat) : List Int := [ps.getD b 0, -1, ps.length, ps.getD a 0 - ps.length, ps.getD a 0 + ps.length, big, 0 - big]
def pnA (ps : List Int) : List (List Int) := [[], ps ++ [0], ps ++ [(ps.length : Int)], ps.map fun x => 0 - 1 - x]
def pairsNear (ps : List Int) (a b : Nat) : List (List Int) :=
  if ps.length = 0 then pnA ps else pnA ps ++ (pnX ps a b).map (fun x => ps.set a x) ++ [(ps.set a (ps.getD b 0)).set b (ps.getD a 0), ps.reverse, ps.take (ps.length - 1), ps.drop 1 ++ ps.take 1]
theorem pairsNear_len {ps : List Int} {a b : Nat} : ∀ l ∈ pairsNear ps a b, l.length ≤ ps.length + 1 := by
  have hA : ∀ l ∈ pnA ps, l.length ≤ ps.length + 1 := fun l hl => by
    simp only [pnA, List.mem_cons, List.not_mem_nil, or_false] at hl
    rcases hl with rfl | rfl | rfl | rfl <;> simp
  intro l hl
  unfold pairsNear at hl
  split at hl
  · exact hA l hl
  · rcases List.mem_append.mp hl with hl | hl
    · rcases List.mem_append.mp hl with hl | hl
      · exact hA l hl
      · obtain ⟨x, _, rfl⟩ := List.mem_map.mp hl
        simp
    · simp only [List.mem_cons, List.not_mem_nil, or_false] at hl
      rcases hl with rfl | rfl | rfl | rfl <;> simp <;> omega
theorem pairsNear_cnt (ps : List Int) (a b : Nat) : (pairsNear ps a b).length ≤ 20 := by
  unfold pairsNear
  split <;> simp [pnA, pnX]
def placesV (n : Nat) (more : List Int) : List Int :=
  if n < 8 then ((List.range (2 * n + 3)).map fun k : Nat => (k : Int) - 1) ++ [big, 0 - big] else [-1, 0, 1, (n : Int), 2 * (n : Int), 2 * (n : Int) + 1, big] ++ more.map fun x => x % (2 * (n : Int) + 1)
theorem placesV_len (n : Nat) (more : List Int) : (placesV n more).length ≤ 30 + more.length := by
  unfold placesV
  split
  · simp
    omega
  · simp
    omega
def rnX (row : List Int) (a b : Nat) : List Int := [row.getD a 0 + 1, row.getD a 0 - 1, row.getD b 0]
def rnA (row : List Int) : List (List Int) := [[], row ++ [0], row.map fun x => x + 1, row ++ row]
def rowsNear (row : List Int) (a b : Nat) : List (List Int) :=
  if row.length = 0 then rnA row else rnA row ++ (rnX row a b).map (fun x => row.set a x) ++ [(row.set a (row.getD b 0)).set b (row.getD a 0), row.reverse, row.take (row.length - 1), row.drop 1]
theorem rowsNear_cnt (ps : List Int) (a b : Nat) : (rowsNear ps a b).length ≤ 20 := by
  unfold rowsNear
  split <;> simp [rnA, rnX]
def wnL (ws : List Nat) (a b : Nat) : List (List Nat) :=
  [ws ++ [77], ws ++ [88], [], [88], ws.take a ++ ws.drop (a + 1), ws.take a ++ [88] ++ ws.drop (a + 1), ws.take a ++ [109] ++ ws.drop (a + 1), ws.take a ++ [77] ++ ws.drop (a + 1), ws.take a ++ [84] ++ ws.drop (a + 1),
    ws.take b ++ [84] ++ ws.drop (b + 1), ws.drop a ++ ws.take a, List.replicate ws.length 77, List.replicate ws.length 84, ws ++ [77, 88], [88] ++ ws.drop 2, ws.take a]
theorem mem_take_drop {ws : List Nat} {a : Nat} {c : Nat} (h : c ∈ ws.take a ∨ c ∈ ws.drop a) : c ∈ ws := by
  rcases h with h | h
  · exact List.mem_of_mem_take h
  · exact List.mem_of_mem_drop h
theorem wnL_ok {ws : List Nat} {a b : Nat} (h : ∀ c ∈ ws, c < 128) : ∀ l ∈ wnL ws a b, l.length ≤ 2 * ws.length + 3 ∧ ∀ c ∈ l, c < 128 := by
  have t : ∀ k c, c ∈ ws.take k → c < 128 := fun k c hc => h c (List.mem_of_mem_take hc)
  have d : ∀ k c, c ∈ ws.drop k → c < 128 := fun k c hc => h c (List.mem_of_mem_drop hc)
  intro l hl
  simp only [wnL, List.mem_cons, List.not_mem_nil, or_false] at hl
  have key : ∀ {x y : List Nat}, (∀ c ∈ x, c < 128) → (∀ c ∈ y, c < 128) → ∀ c ∈ x ++ y, c < 128 := fun {x y} hx hy c hc => by
    rcases List.mem_append.mp hc with hc | hc
    · exact hx c hc
    · exact hy c hc
  have rep : ∀ (k n : Nat), k < 128 → ∀ c ∈ List.replicate n k, c < 128 := fun k n hk c hc => by
    rw [(List.mem_replicate.mp hc).2]
    exact hk
  rcases hl with rfl | rfl | rfl | rfl | rfl | rfl | rfl | rfl | rfl | rfl | rfl | rfl | rfl | rfl | rfl | rfl
  · exact ⟨by simp; omega, key h (by decide)⟩
  · exact ⟨by simp; omega, key h (by decide)⟩
  · exact ⟨by simp, by simp⟩
  · exact ⟨by simp, by decide⟩
  · exact ⟨by simp; omega, key (t _) (d _)⟩
  · exact ⟨by simp; omega, key (key (t _) (by decide)) (d _)⟩
  · exact ⟨by simp; omega, key (key (t _) (by decide)) (d _)⟩
  · exact ⟨by simp; omega, key (key (t _) (by decide)) (d _)⟩
  · exact ⟨by simp; omega, key (key (t _) (by decide)) (d _)⟩
  · exact ⟨by simp; omega, key (key (t _) (by decide)) (d _)⟩
  · exact ⟨by simp; omega, key (d _) (t _)⟩
  · exact ⟨by simp; omega, rep _ _ (by decide)⟩
  · exact ⟨by simp; omega, rep _ _ (by decide)⟩
  · exact ⟨by simp; omega, key h (by decide)⟩
  · exact ⟨by simp; omega, key (by decide) (d _)⟩
  · exact ⟨by simp; omega, t _⟩
section
variable {P : Program} {w : World} {K : PySem.W.Frag} {mg : Str → Option Value} {base : Heap}
theorem c_law_pairings_near (T : Tx K mg) {ps : List Int} {a b : Nat} (h1 : ps.length ≤ 1000) (ha : ps.length ≠ 0 → a < ps.length) (hb : ps.length ≠ 0 → b < ps.length) : Cal P w K mg base 1 "_law_pairings_near" [lI ps, dN a, dN b] (dL lI (pairsNear ps a b)) := by
  refine cal_of T.d_law_pairings_near sc_law_pairings_near (fun _ _ _ _ _ _ us hl => match us, hl with | [_, _, _], _ => rfl) rfl fun Y hr => ?_
  have nd := sc_law_pairings_near.nd
  show Bd _ [.val _, .val _, .val _, .any, .any, .any, .any, .any] _ _
  refine bd_seq1 (sd_asg (k := 3) nd rfl (.inl rfl) (ev_lenL T.b_len (Ev.l (ev_var (nm 0 rfl (.inl rfl) rfl rfl) rfl)) rfl rfl rfl) rfl rfl (.inl rfl)) (bd_seq1 (sd_asgN (k := 4) nd rfl (.inl rfl) (EvN.cast (d' := (pnA ps).map lI) (evn_lst (ea_cons (EvN.ev (evn_lst ea_nil (Nat.le_of_ble_eq_true rfl))) (ea_cons (EvN.ev (evn_cat (Ev.l (ev_var (nm 0 rfl (.inl rfl) rfl rfl) rfl)) (EvN.l (evn_lst (ea_cons ev_int ea_nil rfl) (Nat.le_of_ble_eq_true rfl))) ?_)) (ea_cons (EvN.ev (evn_cat (Ev.l (ev_var (nm 0 rfl (.inl rfl) rfl rfl) rfl)) (EvN.l (evn_lst (ea_cons (ev_var (nm 3 rfl (.inl rfl) rfl rfl) rfl) ea_nil rfl) (Nat.le_of_ble_eq_true rfl))) ?_)) (ea_cons (EvN.ev (evn_lc 5 _ (fun _ => true) _ rfl nd (ei_list (ev_var (nm 0 rfl (.inl rfl) rfl rfl) rfl)) ?_ (blkOk_by (N := N_law_pairings_near) (sc := defScope s_law_pairings_near) (by decide +kernel)) (fun _ _ _ _ _ => pg_name nd rfl (.inl rfl) (.inr rfl)) (fun _ _ _ _ _ _ _ => ets_nil) (fun x hx hcx s H C cl fp => (ev_sub (ev_sub ev_int ev_int) (ev_var (nm 5 rfl (.inl rfl) rfl rfl) rfl))) (fun _ => rfl))) ea_nil rfl) rfl) rfl) rfl) (Nat.le_of_ble_eq_true rfl)) ?_) rfl rfl (.inl rfl)) ?_)
  · rw [List.length_map]
    show _ + 1 ≤ _
    omega
  · rw [List.length_map]
    show _ + 1 ≤ _
    omega
  · omega
  · rw [filter_true, pnA, List.map_cons, List.map_cons, List.map_cons, List.map_cons, lI, lI, lI, lI, List.map_append, List.map_append, List.map_map]
    rfl
  refine bd_ifRet (et_cmp (ec_eqI (ev_var (nm 3 rfl (.inl rfl) rfl rfl) rfl) ev_int) (nomark _ (by decide) (by decide))) (fun e => bd_wk (ρ' := [.any, .any, .any, .any, .val (dL lI (pnA ps)), .any, .any, .any]) (by repeat (first | exact Wk.nil | refine Wk.any ?_ | refine Wk.same ?_ | refine Wk.frz ?_)) (bd_one (sd_ret (ev_var (nm 4 rfl (.inl rfl) rfl rfl) rfl) ?_))) fun e => ?_
  · have : ps.length = 0 := by simpa using e
    show D.lst _ = D.lst _
    rw [pairsNear, if_pos this]
  have hn : ps.length ≠ 0 := by simpa using e
  have ha := ha hn
  have hb := hb hn
  refine bd_for 5 (fun i => [.val (lI ps), .val (dN a), .val (dN b), .val (.int (ps.length : Int)), .own ((pnA ps ++ ((pnX ps a b).take i).map (fun x => ps.set a x)).map lI), .any, .any, .any]) (fun _ => True) PassesOwn.never rfl nd rfl (.inl rfl) (by repeat (first | exact Wk.nil | refine Wk.any ?_ | refine Wk.same ?_ | refine Wk.frz ?_)) (ei_list (EvN.ev (EvN.cast (d' := (pnX ps a b).map D.int) (evn_lst (ea_cons (ev_ixN (0 : Int) (Ev.l (ev_var (nm 0 rfl (.inl rfl) rfl rfl) rfl)) (ev_var (nm 2 rfl (.inl rfl) rfl rfl) rfl) ?_ (fun _ _ => rfl)) (ea_cons (ev_neg ev_int) (ea_cons (ev_var (nm 3 rfl (.inl rfl) rfl rfl) rfl) (ea_cons (ev_sub (ev_ixN (0 : Int) (Ev.l (ev_var (nm 0 rfl (.inl rfl) rfl rfl) rfl)) (ev_var (nm 1 rfl (.inl rfl) rfl rfl) rfl) ?_ (fun _ _ => rfl)) (ev_var (nm 3 rfl (.inl rfl) rfl rfl) rfl)) (ea_cons (ev_add (ev_ixN (0 : Int) (Ev.l (ev_var (nm 0 rfl (.inl rfl) rfl rfl) rfl)) (ev_var (nm 1 rfl (.inl rfl) rfl rfl) rfl) ?_ (fun _ _ => rfl)) (ev_var (nm 3 rfl (.inl rfl) rfl rfl) rfl)) (ea_cons (ev_pow ev_int ev_int ?_) (ea_cons (ev_sub ev_int (ev_pow ev_int ev_int ?_)) ea_nil rfl) rfl) rfl) rfl) rfl) rfl) rfl) (Nat.le_of_ble_eq_true rfl)) ?_))) trivial ?_ ?_ (.inl rfl) (fun _ => rfl)
  · omega
  · omega
  · omega
  · exact ⟨by decide, by decide, by decide⟩
  · exact ⟨by decide, by decide, by decide⟩
  · rfl
  · intro i d hd _
    rw [List.getElem?_map] at hd
    obtain ⟨x, hx, rfl⟩ := Option.map_eq_some_iff.mp hd
    have hi := lt_of_i hx
    have hxl : (pnX ps a b).length = 7 := rfl
    refine bd_seq1 (sd_asgN (k := 6) nd rfl (.inl rfl) (evn_list T.b_list (Ev.l (ev_var (nm 0 rfl (.inl rfl) rfl rfl) rfl)) rfl rfl rfl) rfl rfl (.inl rfl)) (bd_seq1 (sd_setM (k := 6) (nm 6 rfl (.inl rfl) rfl rfl) rfl (ev_var (nm 5 rfl (.inl rfl) rfl rfl) rfl) (ev_var (nm 1 rfl (.inl rfl) rfl rfl) rfl) ?_ ?_ rfl rfl rfl rfl (fun _ => rfl)) ?_)
    · omega
    · omega
    refine bd_wk (ρ' := [.val (lI ps), .val (dN a), .val (dN b), .val (.int (ps.length : Int)), .own ((pnA ps ++ ((pnX ps a b).take i).map (fun x => ps.set a x)).map lI), .val (.int x), .val (lI (ps.set a x)), .any]) (by rw [Int.toNat_natCast]; exact (by repeat (first | exact Wk.nil | refine Wk.any ?_ | refine Wk.same ?_ | refine Wk.frz ?_))) ?_
    refine bd_seq1 (sd_app (k := 4) (nm 4 rfl (.inl rfl) rfl rfl) rfl (ev_var (nm 6 rfl (.inl rfl) rfl rfl) rfl) ?_ rfl rfl rfl rfl rfl rfl rfl) (bd_nil ⟨?_, trivial⟩)
    · rw [List.length_map, List.length_append, List.length_map, List.length_take]
      simp [pnA]
      omega
    · have e9 : (pnA ps ++ ((pnX ps a b).take (i + 1)).map (fun x => ps.set a x)).map lI = (pnA ps ++ ((pnX ps a b).take i).map (fun x => ps.set a x)).map lI ++ [lI (ps.set a x)] := by
        rw [take_succ_of hx]
        simp only [List.map_append, List.append_assoc, List.map_cons, List.map_nil]
      rw [e9]
      exact (by repeat (first | exact Wk.nil | refine Wk.any ?_ | refine Wk.same ?_ | refine Wk.frz ?_))
  · intro _
    rw [List.length_map, List.take_length]
    refine bd_seq1 (sd_asgN (k := 6) nd rfl (.inl rfl) (evn_list T.b_list (Ev.l (ev_var (nm 0 rfl (.inl rfl) rfl rfl) rfl)) rfl rfl rfl) rfl rfl (.inl rfl)) ?_
    refine bd_seq1 (sd_setM (k := 6) (nm 6 rfl (.inl rfl) rfl rfl) rfl (ev_ixN (0 : Int) (Ev.l (ev_var (nm 0 rfl (.inl rfl) rfl rfl) rfl)) (ev_var (nm 2 rfl (.inl rfl) rfl rfl) rfl) ?_ (fun _ _ => rfl)) (ev_var (nm 1 rfl (.inl rfl) rfl rfl) rfl) ?_ ?_ rfl rfl rfl rfl (fun _ => rfl)) (bd_seq1 (sd_setM (k := 6) (nm 6 rfl (.inl rfl) rfl rfl) rfl (ev_ixN (0 : Int) (Ev.l (ev_var (nm 0 rfl (.inl rfl) rfl rfl) rfl)) (ev_var (nm 1 rfl (.inl rfl) rfl rfl) rfl) ?_ (fun _ _ => rfl)) (ev_var (nm 2 rfl (.inl rfl) rfl rfl) rfl) ?_ ?_ rfl rfl rfl rfl (fun _ => rfl)) (bd_seq1 (sd_asgN (k := 7) nd rfl (.inl rfl) (evn_list T.b_list (Ev.l (ev_var (nm 0 rfl (.inl rfl) rfl rfl) rfl)) rfl rfl rfl) rfl rfl (.inl rfl)) (bd_seq1 (sd_rev (k := 7) (nm 7 rfl (.inl rfl) rfl rfl) rfl rfl rfl rfl rfl) ?_)))
    · omega
    · omega
    · omega
    · omega
    · omega
    · rw [List.length_set]
      omega
    rw [Int.toNat_natCast, Int.toNat_natCast]
    refine bd_wk (ρ' := [.val (lI ps), .any, .any, .val (.int (ps.length : Int)), .val (dL lI (pnA ps ++ (pnX ps a b).map (fun x => ps.set a x))), .any, .val (lI ((ps.set a (ps.getD b 0)).set b (ps.getD a 0))), .val (lI ps.reverse)]) (by rw [← List.map_reverse]; exact (by repeat (first | exact Wk.nil | refine Wk.any ?_ | refine Wk.same ?_ | refine Wk.frz ?_))) ?_
    refine bd_one (sd_ret (Ev.cast (d' := dL lI (pairsNear ps a b)) (EvN.ev (evn_cat (Ev.l (ev_var (nm 4 rfl (.inl rfl) rfl rfl) rfl)) (EvN.l (evn_lst (ea_cons (ev_var (nm 6 rfl (.inl rfl) rfl rfl) rfl) (ea_cons (ev_var (nm 7 rfl (.inl rfl) rfl rfl) rfl) (ea_cons (EvN.ev (evn_slice (Ev.l (ev_var (nm 0 rfl (.inl rfl) rfl rfl) rfl)) ep_none (ep_some (ev_sub (ev_var (nm 3 rfl (.inl rfl) rfl rfl) rfl) ev_int)))) (ea_cons (EvN.ev (evn_cat (EvN.l (evn_slice (Ev.l (ev_var (nm 0 rfl (.inl rfl) rfl rfl) rfl)) (ep_some ev_int) ep_none)) (EvN.l (evn_slice (Ev.l (ev_var (nm 0 rfl (.inl rfl) rfl rfl) rfl)) ep_none (ep_some ev_int))) ?_)) ea_nil rfl) rfl) rfl) rfl) (Nat.le_of_ble_eq_true rfl))) ?_)) ?_) ?_)
    · rw [cut_map, cut_map, List.length_map, List.length_map, cut_suf _ (by decide), cut_pre _ (by decide), List.length_drop, List.length_take]
      omega
    · simp [pnA, pnX]
    · rw [pairsNear, if_neg hn, dL, List.map_append, cut_map, cut_map, cut_map, cut_pre _ (by omega), cut_suf _ (by decide), cut_pre _ (by decide), ← List.map_append (f := D.int)]
      have e1 : ((ps.length : Int) - 1).toNat = ps.length - 1 := by omega
      rw [e1]
      rfl
    · rfl
theorem c_law_places (T : Tx K mg) {n : Nat} {more : List Int} (h1 : n ≤ 1000) (h2 : more.length ≤ 1000) : Cal P w K mg base 1 "_law_places" [.int (n : Int), lI more] (lI (placesV n more)) := by
  refine cal_of T.d_law_places sc_law_places (fun _ _ _ _ _ _ us hl => match us, hl with | [_, _], _ => rfl) rfl fun Y hr => ?_
  have nd := sc_law_places.nd
  show Bd _ [.val _, .val _, .any, .any] _ _
  refine bd_ifRet (et_cmp (ec_lt (ev_var (nm 0 rfl (.inr (.inl rfl)) rfl rfl) rfl) ev_int) (nomark _ (by decide) (by decide))) (fun e => bd_one (sd_ret (Ev.cast (d' := lI (placesV n more)) (EvN.ev (evn_cat (EvN.l (evn_lc 2 _ (fun _ => true) _ rfl nd (ei_rng1 T.b_range (ev_add (ev_mul ev_int (ev_var (nm 0 rfl (.inr (.inl rfl)) rfl rfl) rfl) ?_) ev_int) ?_ ?_ rfl rfl rfl) ?_ (blkOk_by (N := N_law_places) (sc := defScope s_law_places) (by decide +kernel)) (fun _ _ _ _ _ => pg_name nd rfl (.inl rfl) (.inr rfl)) (fun _ _ _ _ _ _ _ => ets_nil) (fun x hx hcx s H C cl fp => (ev_sub (ev_var (nm 2 rfl (.inl rfl) rfl rfl) rfl) ev_int)) (fun _ => rfl))) (EvN.l (evn_lst (ea_cons (ev_pow ev_int ev_int ?_) (ea_cons (ev_sub ev_int (ev_pow ev_int ev_int ?_)) ea_nil rfl) rfl) (Nat.le_of_ble_eq_true rfl))) ?_)) ?_) ?_)) fun e => bd_one (sd_ret (Ev.cast (d' := lI (placesV n more)) (EvN.ev (evn_cat (EvN.l (evn_lst (ea_cons (ev_neg ev_int) (ea_cons ev_int (ea_cons ev_int (ea_cons (ev_var (nm 0 rfl (.inr (.inl rfl)) rfl rfl) rfl) (ea_cons (ev_mul ev_int (ev_var (nm 0 rfl (.inr (.inl rfl)) rfl rfl) rfl) ?_) (ea_cons (ev_add (ev_mul ev_int (ev_var (nm 0 rfl (.inr (.inl rfl)) rfl rfl) rfl) ?_) ev_int) (ea_cons (ev_pow ev_int ev_int ?_) ea_nil rfl) rfl) rfl) rfl) rfl) rfl) rfl) (Nat.le_of_ble_eq_true rfl))) (EvN.l (evn_lc 3 _ (fun _ => true) _ rfl nd (ei_list (ev_var (nm 1 rfl (.inl rfl) rfl rfl) rfl)) ?_ (blkOk_by (N := N_law_places) (sc := defScope s_law_places) (by decide +kernel)) (fun _ _ _ _ _ => pg_name nd rfl (.inl rfl) (.inr rfl)) (fun _ _ _ _ _ _ _ => ets_nil) (fun x hx hcx s H C cl fp => (ev_mod (ev_intI T.b_int (ev_var (nm 3 rfl (.inl rfl) rfl rfl) rfl) rfl rfl rfl) (ev_add (ev_mul ev_int (ev_var (nm 0 rfl (.inr (.inl rfl)) rfl rfl) rfl) ?_) ev_int) ?_)) (fun _ => rfl))) ?_)) ?_) ?_)
  · exact small_mul (by decide) (by decide)
  · omega
  · omega
  · rw [List.length_range]
    omega
  · exact ⟨by decide, by decide, by decide⟩
  · exact ⟨by decide, by decide, by decide⟩
  · rw [filter_true, List.length_map, List.length_range]
    show _ + 2 ≤ _
    omega
  · have e1 : n < 8 := by
      have := of_decide_eq_true e
      omega
    rw [placesV, if_pos e1, lI, List.map_append, List.map_map]
    have e2 : (2 * (n : Int) + 3).toNat = 2 * n + 3 := by omega
    rw [e2, filter_true]
    rfl
  · rfl
  · exact small_mul (by decide) (by decide)
  · exact small_mul (by decide) (by decide)
  · exact ⟨by decide, by decide, by decide⟩
  · omega
  · exact small_mul (by decide) (by decide)
  · omega
  · rw [filter_true, List.length_map]
    show 7 + _ ≤ _
    omega
  · have e1 : ¬ n < 8 := by
      have := of_decide_eq_false e
      omega
    rw [placesV, if_neg e1, lI, List.map_append, List.map_map, filter_true]
    rfl
  · rfl
theorem c_law_rows_near (T : Tx K mg) {ps : List Int} {a b : Nat} (h1 : ps.length ≤ 1000) (ha : ps.length ≠ 0 → a < ps.length) (hb : ps.length ≠ 0 → b < ps.length) : Cal P w K mg base 1 "_law_rows_near" [lI ps, dN a, dN b] (dL lI (rowsNear ps a b)) := by
  refine cal_of T.d_law_rows_near sc_law_rows_near (fun _ _ _ _ _ _ us hl => match us, hl with | [_, _, _], _ => rfl) rfl fun Y hr => ?_
  have nd := sc_law_rows_near.nd
  show Bd _ [.val _, .val _, .val _, .any, .any, .any, .any] _ _
  refine bd_seq1 (sd_asgN (k := 3) nd rfl (.inl rfl) (EvN.cast (d' := (rnA ps).map lI) (evn_lst (ea_cons (EvN.ev (evn_lst ea_nil (Nat.le_of_ble_eq_true rfl))) (ea_cons (EvN.ev (evn_cat (Ev.l (ev_var (nm 0 rfl (.inl rfl) rfl rfl) rfl)) (EvN.l (evn_lst (ea_cons ev_int ea_nil rfl) (Nat.le_of_ble_eq_true rfl))) ?_)) (ea_cons (EvN.ev (evn_lc 4 _ (fun _ => true) _ rfl nd (ei_list (ev_var (nm 0 rfl (.inl rfl) rfl rfl) rfl)) ?_ (blkOk_by (N := N_law_rows_near) (sc := defScope s_law_rows_near) (by decide +kernel)) (fun _ _ _ _ _ => pg_name nd rfl (.inl rfl) (.inr rfl)) (fun _ _ _ _ _ _ _ => ets_nil) (fun x hx hcx s H C cl fp => (ev_add (ev_var (nm 4 rfl (.inl rfl) rfl rfl) rfl) ev_int)) (fun _ => rfl))) (ea_cons (EvN.ev (evn_cat (Ev.l (ev_var (nm 0 rfl (.inl rfl) rfl rfl) rfl)) (Ev.l (ev_var (nm 0 rfl (.inl rfl) rfl rfl) rfl)) ?_)) ea_nil rfl) rfl) rfl) rfl) (Nat.le_of_ble_eq_true rfl)) ?_) rfl rfl (.inl rfl)) ?_
  · rw [List.length_map]
    show _ + 1 ≤ _
    omega
  · omega
  · rw [List.length_map]
    omega
  · rw [filter_true, rnA, List.map_cons, List.map_cons, List.map_cons, List.map_cons, lI, lI, lI, lI, List.map_append, List.map_append, List.map_map]
    rfl
  refine bd_ifRet (et_cmp (ec_eqI (ev_lenL T.b_len (Ev.l (ev_var (nm 0 rfl (.inl rfl) rfl rfl) rfl)) rfl rfl rfl) ev_int) (nomark _ (by decide) (by decide))) (fun e => bd_wk (ρ' := [.any, .any, .any, .val (dL lI (rnA ps)), .any, .any, .any]) (by repeat (first | exact Wk.nil | refine Wk.any ?_ | refine Wk.same ?_ | refine Wk.frz ?_)) (bd_one (sd_ret (ev_var (nm 3 rfl (.inl rfl) rfl rfl) rfl) ?_))) fun e => ?_
  · have : ps.length = 0 := by simpa using e
    show D.lst _ = D.lst _
    rw [rowsNear, if_pos this]
  have hn : ps.length ≠ 0 := by simpa using e
  have ha := ha hn
  have hb := hb hn
  refine bd_for 4 (fun i => [.val (lI ps), .val (dN a), .val (dN b), .own ((rnA ps ++ ((rnX ps a b).take i).map (fun x => ps.set a x)).map lI), .any, .any, .any]) (fun _ => True) PassesOwn.never rfl nd rfl (.inl rfl) (by repeat (first | exact Wk.nil | refine Wk.any ?_ | refine Wk.same ?_ | refine Wk.frz ?_)) (ei_list (EvN.ev (EvN.cast (d' := (rnX ps a b).map D.int) (evn_lst (ea_cons (ev_add (ev_ixN (0 : Int) (Ev.l (ev_var (nm 0 rfl (.inl rfl) rfl rfl) rfl)) (ev_var (nm 1 rfl (.inl rfl) rfl rfl) rfl) ?_ (fun _ _ => rfl)) ev_int) (ea_cons (ev_sub (ev_ixN (0 : Int) (Ev.l (ev_var (nm 0 rfl (.inl rfl) rfl rfl) rfl)) (ev_var (nm 1 rfl (.inl rfl) rfl rfl) rfl) ?_ (fun _ _ => rfl)) ev_int) (ea_cons (ev_ixN (0 : Int) (Ev.l (ev_var (nm 0 rfl (.inl rfl) rfl rfl) rfl)) (ev_var (nm 2 rfl (.inl rfl) rfl rfl) rfl) ?_ (fun _ _ => rfl)) ea_nil rfl) rfl) rfl) (Nat.le_of_ble_eq_true rfl)) ?_))) trivial ?_ ?_ (.inl rfl) (fun _ => rfl)
  · omega
  · omega
  · omega
  · rfl
  · intro i d hd _
    rw [List.getElem?_map] at hd
    obtain ⟨x, hx, rfl⟩ := Option.map_eq_some_iff.mp hd
    have hi := lt_of_i hx
    have hxl : (rnX ps a b).length = 3 := rfl
    refine bd_seq1 (sd_asgN (k := 5) nd rfl (.inl rfl) (evn_list T.b_list (Ev.l (ev_var (nm 0 rfl (.inl rfl) rfl rfl) rfl)) rfl rfl rfl) rfl rfl (.inl rfl)) (bd_seq1 (sd_setM (k := 5) (nm 5 rfl (.inl rfl) rfl rfl) rfl (ev_var (nm 4 rfl (.inl rfl) rfl rfl) rfl) (ev_var (nm 1 rfl (.inl rfl) rfl rfl) rfl) ?_ ?_ rfl rfl rfl rfl (fun _ => rfl)) ?_)
    · omega
    · omega
    refine bd_wk (ρ' := [.val (lI ps), .val (dN a), .val (dN b), .own ((rnA ps ++ ((rnX ps a b).take i).map (fun x => ps.set a x)).map lI), .val (.int x), .val (lI (ps.set a x)), .any]) (by rw [Int.toNat_natCast]; exact (by repeat (first | exact Wk.nil | refine Wk.any ?_ | refine Wk.same ?_ | refine Wk.frz ?_))) ?_
    refine bd_seq1 (sd_app (k := 3) (nm 3 rfl (.inl rfl) rfl rfl) rfl (ev_var (nm 5 rfl (.inl rfl) rfl rfl) rfl) ?_ rfl rfl rfl rfl rfl rfl rfl) (bd_nil ⟨?_, trivial⟩)
    · rw [List.length_map, List.length_append, List.length_map, List.length_take]
      simp [rnA]
      omega
    · have e9 : (rnA ps ++ ((rnX ps a b).take (i + 1)).map (fun x => ps.set a x)).map lI = (rnA ps ++ ((rnX ps a b).take i).map (fun x => ps.set a x)).map lI ++ [lI (ps.set a x)] := by
        rw [take_succ_of hx]
        simp only [List.map_append, List.append_assoc, List.map_cons, List.map_nil]
      rw [e9]
      exact (by repeat (first | exact Wk.nil | refine Wk.any ?_ | refine Wk.same ?_ | refine Wk.frz ?_))
  · intro _
    rw [List.length_map, List.take_length]
    refine bd_seq1 (sd_asgN (k := 5) nd rfl (.inl rfl) (evn_list T.b_list (Ev.l (ev_var (nm 0 rfl (.inl rfl) rfl rfl) rfl)) rfl rfl rfl) rfl rfl (.inl rfl)) ?_
    refine bd_seq1 (sd_setM (k := 5) (nm 5 rfl (.inl rfl) rfl rfl) rfl (ev_ixN (0 : Int) (Ev.l (ev_var (nm 0 rfl (.inl rfl) rfl rfl) rfl)) (ev_var (nm 2 rfl (.inl rfl) rfl rfl) rfl) ?_ (fun _ _ => rfl)) (ev_var (nm 1 rfl (.inl rfl) rfl rfl) rfl) ?_ ?_ rfl rfl rfl rfl (fun _ => rfl)) (bd_seq1 (sd_setM (k := 5) (nm 5 rfl (.inl rfl) rfl rfl) rfl (ev_ixN (0 : Int) (Ev.l (ev_var (nm 0 rfl (.inl rfl) rfl rfl) rfl)) (ev_var (nm 1 rfl (.inl rfl) rfl rfl) rfl) ?_ (fun _ _ => rfl)) (ev_var (nm 2 rfl (.inl rfl) rfl rfl) rfl) ?_ ?_ rfl rfl rfl rfl (fun _ => rfl)) (bd_seq1 (sd_asgN (k := 6) nd rfl (.inl rfl) (evn_list T.b_list (Ev.l (ev_var (nm 0 rfl (.inl rfl) rfl rfl) rfl)) rfl rfl rfl) rfl rfl (.inl rfl)) (bd_seq1 (sd_rev (k := 6) (nm 6 rfl (.inl rfl) rfl rfl) rfl rfl rfl rfl rfl) ?_)))
    · omega
    · omega
    · omega
    · omega
    · omega
    · rw [List.length_set]
      omega
    rw [Int.toNat_natCast, Int.toNat_natCast]
    refine bd_wk (ρ' := [.val (lI ps), .any, .any, .val (dL lI (rnA ps ++ (rnX ps a b).map (fun x => ps.set a x))), .any, .val (lI ((ps.set a (ps.getD b 0)).set b (ps.getD a 0))), .val (lI ps.reverse)]) (by rw [← List.map_reverse]; exact (by repeat (first | exact Wk.nil | refine Wk.any ?_ | refine Wk.same ?_ | refine Wk.frz ?_))) ?_
    refine bd_one (sd_ret (Ev.cast (d' := dL lI (rowsNear ps a b)) (EvN.ev (evn_cat (Ev.l (ev_var (nm 3 rfl (.inl rfl) rfl rfl) rfl)) (EvN.l (evn_lst (ea_cons (ev_var (nm 5 rfl (.inl rfl) rfl rfl) rfl) (ea_cons (ev_var (nm 6 rfl (.inl rfl) rfl rfl) rfl) (ea_cons (EvN.ev (evn_slice (Ev.l (ev_var (nm 0 rfl (.inl rfl) rfl rfl) rfl)) ep_none (ep_some (ev_sub (ev_lenL T.b_len (Ev.l (ev_var (nm 0 rfl (.inl rfl) rfl rfl) rfl)) rfl rfl rfl) ev_int)))) (ea_cons (EvN.ev (evn_slice (Ev.l (ev_var (nm 0 rfl (.inl rfl) rfl rfl) rfl)) (ep_some ev_int) ep_none)) ea_nil rfl) rfl) rfl) rfl) (Nat.le_of_ble_eq_true rfl))) ?_)) ?_) ?_)
    · simp [rnA, rnX]
    · rw [rowsNear, if_neg hn, dL, List.map_append, cut_map, cut_map, cut_pre _ (by omega), cut_suf _ (by decide)]
      have e1 : ((ps.length : Int) - 1).toNat = ps.length - 1 := by omega
      rw [e1]
      rfl
    · rfl
theorem c_law_words_near (T : Tx K mg) {ws : List Nat} {a b : Nat} (h1 : ws.length ≤ 1000) (ha : a ≤ 1000) (hb : b ≤ 1000) : Cal P w K mg base 1 "_law_words_near" [dW ws, dN a, dN b] (dL dW (wnL ws a b)) := by
  have p : ∀ k : Nat, cut ws none (some (k : Int)) = ws.take k := fun k => by rw [cut_pre _ (by omega), Int.toNat_natCast]
  have q : ∀ k : Nat, cut ws (some ((k : Int) + 1)) none = ws.drop (k + 1) := fun k => by
    rw [cut_suf _ (by omega)]
    congr 1
  have q0 : ∀ k : Nat, cut ws (some (k : Int)) none = ws.drop k := fun k => by rw [cut_suf _ (by omega), Int.toNat_natCast]
  refine cal_of T.d_law_words_near sc_law_words_near (fun _ _ _ _ _ _ us hl => match us, hl with | [_, _, _], _ => rfl) rfl fun Y hr => ?_
  have nd := sc_law_words_near.nd
  show Bd _ [.val _, .val _, .val _, .any] _ _
  have l6 : ((wnL ws a b).take 6).length = 6 := rfl
  have l9 : ((wnL ws a b).take 9).length = 9 := rfl
  have l13 : ((wnL ws a b).take 13).length = 13 := rfl
  refine bd_seq1 (sd_asg (k := 3) nd rfl (.inl rfl) (Ev.cast (d' := dL dW ((wnL ws a b).take 6)) (EvN.ev (evn_lst (ea_cons (ev_addW (ev_var (nm 0 rfl (.inl rfl) rfl rfl) rfl) (ev_strW [77]) ?_) (ea_cons (ev_addW (ev_var (nm 0 rfl (.inl rfl) rfl rfl) rfl) (ev_strW [88]) ?_) (ea_cons (ev_strW []) (ea_cons (ev_strW [88]) (ea_cons (ev_addW (ev_sliceW (ev_var (nm 0 rfl (.inl rfl) rfl rfl) rfl) ep_none (ep_some (ev_var (nm 1 rfl (.inl rfl) rfl rfl) rfl)) ?_) (ev_sliceW (ev_var (nm 0 rfl (.inl rfl) rfl rfl) rfl) (ep_some (ev_add (ev_var (nm 1 rfl (.inl rfl) rfl rfl) rfl) ev_int)) ep_none ?_) ?_) (ea_cons (ev_addW (ev_addW (ev_sliceW (ev_var (nm 0 rfl (.inl rfl) rfl rfl) rfl) ep_none (ep_some (ev_var (nm 1 rfl (.inl rfl) rfl rfl) rfl)) ?_) (ev_strW [88]) ?_) (ev_sliceW (ev_var (nm 0 rfl (.inl rfl) rfl rfl) rfl) (ep_some (ev_add (ev_var (nm 1 rfl (.inl rfl) rfl rfl) rfl) ev_int)) ep_none ?_) ?_) ea_nil rfl) rfl) rfl) rfl) rfl) rfl) (Nat.le_of_ble_eq_true rfl))) ?_) rfl rfl (.inl rfl)) ?_
  all_goals try omega
  all_goals try (simp only [p, q, q0, List.length_append, List.length_take, List.length_drop, List.length_cons, List.length_nil]; omega)
  · rw [p, q]
    rfl
  refine bd_seq1 (sd_asg (k := 3) nd rfl (.inl rfl) (Ev.cast (d' := dL dW ((wnL ws a b).take 9)) (EvN.ev (evn_cat (Ev.l (ev_var (nm 3 rfl (.inl rfl) rfl rfl) rfl)) (EvN.l (evn_lst (ea_cons (ev_addW (ev_addW (ev_sliceW (ev_var (nm 0 rfl (.inl rfl) rfl rfl) rfl) ep_none (ep_some (ev_var (nm 1 rfl (.inl rfl) rfl rfl) rfl)) ?_) (ev_strW [109]) ?_) (ev_sliceW (ev_var (nm 0 rfl (.inl rfl) rfl rfl) rfl) (ep_some (ev_add (ev_var (nm 1 rfl (.inl rfl) rfl rfl) rfl) ev_int)) ep_none ?_) ?_) (ea_cons (ev_addW (ev_addW (ev_sliceW (ev_var (nm 0 rfl (.inl rfl) rfl rfl) rfl) ep_none (ep_some (ev_var (nm 1 rfl (.inl rfl) rfl rfl) rfl)) ?_) (ev_strW [77]) ?_) (ev_sliceW (ev_var (nm 0 rfl (.inl rfl) rfl rfl) rfl) (ep_some (ev_add (ev_var (nm 1 rfl (.inl rfl) rfl rfl) rfl) ev_int)) ep_none ?_) ?_) (ea_cons (ev_addW (ev_addW (ev_sliceW (ev_var (nm 0 rfl (.inl rfl) rfl rfl) rfl) ep_none (ep_some (ev_var (nm 1 rfl (.inl rfl) rfl rfl) rfl)) ?_) (ev_strW [84]) ?_) (ev_sliceW (ev_var (nm 0 rfl (.inl rfl) rfl rfl) rfl) (ep_some (ev_add (ev_var (nm 1 rfl (.inl rfl) rfl rfl) rfl) ev_int)) ep_none ?_) ?_) ea_nil rfl) rfl) rfl) (Nat.le_of_ble_eq_true rfl))) ?_)) ?_) rfl rfl (.inl rfl)) ?_
  all_goals try omega
  all_goals try (simp only [p, q, q0, List.length_append, List.length_take, List.length_drop, List.length_cons, List.length_nil, List.length_map, l6]; omega)
  · rw [p, q]
    rfl
  refine bd_seq1 (sd_asg (k := 3) nd rfl (.inl rfl) (Ev.cast (d' := dL dW ((wnL ws a b).take 13)) (EvN.ev (evn_cat (Ev.l (ev_var (nm 3 rfl (.inl rfl) rfl rfl) rfl)) (EvN.l (evn_lst (ea_cons (ev_addW (ev_addW (ev_sliceW (ev_var (nm 0 rfl (.inl rfl) rfl rfl) rfl) ep_none (ep_some (ev_var (nm 2 rfl (.inl rfl) rfl rfl) rfl)) ?_) (ev_strW [84]) ?_) (ev_sliceW (ev_var (nm 0 rfl (.inl rfl) rfl rfl) rfl) (ep_some (ev_add (ev_var (nm 2 rfl (.inl rfl) rfl rfl) rfl) ev_int)) ep_none ?_) ?_) (ea_cons (ev_addW (ev_sliceW (ev_var (nm 0 rfl (.inl rfl) rfl rfl) rfl) (ep_some (ev_var (nm 1 rfl (.inl rfl) rfl rfl) rfl)) ep_none ?_) (ev_sliceW (ev_var (nm 0 rfl (.inl rfl) rfl rfl) rfl) ep_none (ep_some (ev_var (nm 1 rfl (.inl rfl) rfl rfl) rfl)) ?_) ?_) (ea_cons (ev_repW (ev_strW [77]) (ev_lenW T.b_len (ev_var (nm 0 rfl (.inl rfl) rfl rfl) rfl) ?_ rfl rfl rfl) ?_ ?_) (ea_cons (ev_repW (ev_strW [84]) (ev_lenW T.b_len (ev_var (nm 0 rfl (.inl rfl) rfl rfl) rfl) ?_ rfl rfl rfl) ?_ ?_) ea_nil rfl) rfl) rfl) rfl) (Nat.le_of_ble_eq_true rfl))) ?_)) ?_) rfl rfl (.inl rfl)) ?_
  all_goals try omega
  all_goals try (simp only [p, q, q0, List.length_append, List.length_take, List.length_drop, List.length_cons, List.length_nil, List.length_map, l9]; omega)
  · rw [p, p, q, q0, Int.toNat_natCast]
    rfl
  refine bd_one (sd_ret (Ev.cast (d' := dL dW (wnL ws a b)) (EvN.ev (evn_cat (Ev.l (ev_var (nm 3 rfl (.inl rfl) rfl rfl) rfl)) (EvN.l (evn_lst (ea_cons (ev_addW (ev_var (nm 0 rfl (.inl rfl) rfl rfl) rfl) (ev_strW [77, 88]) ?_) (ea_cons (ev_addW (ev_strW [88]) (ev_sliceW (ev_var (nm 0 rfl (.inl rfl) rfl rfl) rfl) (ep_some ev_int) ep_none ?_) ?_) (ea_cons (ev_sliceW (ev_var (nm 0 rfl (.inl rfl) rfl rfl) rfl) ep_none (ep_some (ev_var (nm 1 rfl (.inl rfl) rfl rfl) rfl)) ?_) ea_nil rfl) rfl) rfl) (Nat.le_of_ble_eq_true rfl))) ?_)) ?_) ?_)
  all_goals try omega
  all_goals try (simp only [p, cut_suf ws (show (0 : Int) ≤ 2 by decide), List.length_append, List.length_take, List.length_drop, List.length_cons, List.length_nil, List.length_map, l13]; omega)
  · rw [p, cut_suf ws (show (0 : Int) ≤ 2 by decide)]
    rfl
  · rfl
end
end Y
end S_F12

section S_F13
set_option maxHeartbeats 2000000
namespace Y
open PySem PySem.Spec PyProof.Rows L2
theorem height_dec (walk : List Int) (p v : Int) : ((decide (0 ≤ p) && decide (p < (walk.length : Int))) && decide (walk.getD p.toNat 0 = v)) = decide (heightAt walk p = some v) := by
  unfold heightAt
  by_cases h0 : 0 ≤ p
  · by_cases h1 : p < (walk.length : Int)
    · rw [decide_eq_true h0, decide_eq_true h1, if_neg (by omega)]
      simp
    · rw [decide_eq_false h1, if_pos (by omega)]
      simp
  · rw [decide_eq_false h0, if_pos (by omega)]
    simp
theorem ev_ixLL {X : Cx} {ρ : Rho} {a b : Expr} {pos : Pos} {i : Int} {xs : List (List Int)} (ha : EvL X ρ a (xs.map lI)) (hb : Ev X ρ b (.int i)) (h0 : 0 ≤ i) (h1 : i < xs.length) (hs : PlainIx b := by exact fun _ _ => rfl) : Ev X ρ (.Subscript a b pos) (lI (xs.getD i.toNat [])) := ev_ixG [] ha hb h0 h1 hs
theorem winsE (mine theirs xs : List Int) : (winsL mine theirs xs).length = (winsL mine theirs xs).length := rfl
def asc (cs : List Nat) : Prop := ∀ c ∈ cs, c < 128
theorem fineW {k : Nat} {cs : List Nat} (h : asc cs) : Fine k (dW cs) := fine_str fun c hc => h c (by simpa [wd] using hc)
theorem fine_SP {p : SpanP} (h : asc p.tag) : Fine 60 (eSP p) := fine_tup (k := 59) fun d hd => by
  simp only [List.mem_cons, List.not_mem_nil, or_false] at hd
  rcases hd with rfl | rfl | rfl | rfl | rfl | rfl | rfl
  · exact fineW h
  · exact fine_int _
  · exact fine_int _
  · exact fine_ints _
  · exact fine_int _
  · exact fine_int _
  · exact fine_ints _
theorem fine_RP {p : RowP} (h : asc p.tag) : Fine 60 (eRP p) := fine_tup (k := 59) fun d hd => by
  simp only [List.mem_cons, List.not_mem_nil, or_false] at hd
  rcases hd with rfl | rfl | rfl
  · exact fineW h
  · exact fine_ints _
  · exact fine_ints _
theorem fine_VP {p : ValP} (h : asc p.tag) (h2 : asc p.word) (h3 : asc p.many) : Fine 60 (eVP p) := fine_tup (k := 59) fun d hd => by
  simp only [List.mem_cons, List.not_mem_nil, or_false] at hd
  rcases hd with rfl | rfl | rfl | rfl | rfl | rfl
  · exact fineW h
  · exact fineW h2
  · exact fineW h3
  · exact fine_int _
  · exact fine_ints _
  · exact fine_ints _
section
variable {P : Program} {w : World} {K : PySem.W.Frag} {mg : Str → Option Value} {base : Heap}
theorem c_law_height_is (T : Tx K mg) {walk : List Int} {p v : Int} : Cal P w K mg base 1 "_law_height_is" [lI walk, .int p, .int v] (.bl (decide (heightAt walk p = some v))) := by
  refine cal_of T.d_law_height_is sc_law_height_is (fun _ _ _ _ _ _ us hl => match us, hl with | [_, _, _], _ => rfl) rfl fun Y hr => ?_
  have nd := sc_law_height_is.nd
  show Bd _ [.val _, .val _, .val _] _ _
  refine bd_one (sd_ret (Ev.cast (d' := .bl (decide (heightAt walk p = some v))) (ev_and (ev_chain ev_int (ev_var (nm 1 rfl (.inl rfl) rfl rfl) rfl) (ev_lenL T.b_len (Ev.l (ev_var (nm 0 rfl (.inl rfl) rfl rfl) rfl)) rfl rfl rfl) (by with_unfolding_all rfl)) fun hb0 => (ev_and1 (ev_cmp (ec_eqI (ev_ixG (0 : Int) (Ev.l (ev_var (nm 0 rfl (.inl rfl) rfl rfl) rfl)) (ev_var (nm 1 rfl (.inl rfl) rfl rfl) rfl) ?_ ?_ (fun _ _ => rfl)) (ev_var (nm 2 rfl (.inl rfl) rfl rfl) rfl)) (nomark _ (by decide) (by decide))))) ?_) ?_)
  · exact of_decide_eq_true (Bool.and_eq_true_iff.mp hb0).1
  · exact of_decide_eq_true (Bool.and_eq_true_iff.mp hb0).2
  · rw [height_dec]
  · rfl
theorem c_law_span_right (T : Tx K mg) {mine theirs : List Int} (h : mine.length = theirs.length) (h1 : mine.length ≤ 1000) (p : SpanP) : Cal P w K mg base 2 "_law_span_right" [lI mine, lI theirs, lI (heightsL mine theirs), eSP p] (.bl (lookSpan mine theirs p)) := by
  have hid : ((List.range ((mine.length : Int)).toNat).filter fun _ => true).map (fun k : Nat => D.int (k : Int)) = (idL mine.length).map D.int := by
    rw [Int.toNat_natCast]
    exact comp_map _ _ _ _ fun m => rfl
  refine cal_of T.d_law_span_right sc_law_span_right (fun _ _ _ _ _ _ us hl => match us, hl with | [_, _, _, _], _ => rfl) rfl fun Y hr => ?_
  have nd := sc_law_span_right.nd
  show Bd _ [.val _, .val _, .val _, .val _, .any, .any] _ _
  refine bd_seq1 (sd_asg (k := 4) nd rfl (.inl rfl) (ev_lenL T.b_len (Ev.l (ev_var (nm 0 rfl (.inl rfl) rfl rfl) rfl)) rfl rfl rfl) rfl rfl (.inl rfl)) ?_
  refine bd_ifRet (EvT.cast (EvW.t (ew_or (et_cmp (ec_neLI hr.units (EvN.ev (evn_sortedI hr.units T.b_sorted (Ev.l (ev_ixT (ev_var (nm 3 rfl (.inl rfl) rfl rfl) rfl) ev_int rfl (fun _ _ => rfl))) rfl rfl rfl)) (EvN.ev (EvN.cast (d' := (idL mine.length).map D.int) (evn_lc 5 _ (fun _ => true) _ rfl nd (ei_rng1 T.b_range (ev_var (nm 4 rfl (.inl rfl) rfl rfl) rfl) ?_ ?_ rfl rfl rfl) ?_ (blkOk_by (N := N_law_span_right) (sc := defScope s_law_span_right) (by decide +kernel)) (fun _ _ _ _ _ => pg_name nd rfl (.inl rfl) (.inr rfl)) (fun _ _ _ _ _ _ _ => ets_nil) (fun x hx hcx s H C cl fp => (ev_var (nm 5 rfl (.inl rfl) rfl rfl) rfl)) (fun _ => rfl)) ?_))) (nomark _ (by decide) (by decide))) fun hb0 => (ew_or1 (et_cmp (ec_neLI hr.units (EvN.ev (evn_sortedI hr.units T.b_sorted (Ev.l (ev_ixT (ev_var (nm 3 rfl (.inl rfl) rfl rfl) rfl) ev_int rfl (fun _ _ => rfl))) rfl rfl rfl)) (EvN.ev (EvN.cast (d' := (idL mine.length).map D.int) (evn_lc 5 _ (fun _ => true) _ rfl nd (ei_rng1 T.b_range (ev_var (nm 4 rfl (.inl rfl) rfl rfl) rfl) ?_ ?_ rfl rfl rfl) ?_ (blkOk_by (N := N_law_span_right) (sc := defScope s_law_span_right) (by decide +kernel)) (fun _ _ _ _ _ => pg_name nd rfl (.inl rfl) (.inr rfl)) (fun _ _ _ _ _ _ _ => ets_nil) (fun x hx hcx s H C cl fp => (ev_var (nm 5 rfl (.inl rfl) rfl rfl) rfl)) (fun _ => rfl)) ?_))) (nomark _ (by decide) (by decide)))))) (k' := !(decide (isP p.loL mine.length) && decide (isP p.hiL mine.length))) ?_) (fun e => bd_one (sd_ret ev_bl ?_)) fun e => ?_
  · omega
  · omega
  · rw [List.length_range]
    omega
  · exact hid
  · omega
  · omega
  · rw [List.length_range]
    omega
  · exact hid
  · rw [sort_dec, sort_dec, Bool.not_and]
  · show D.bl _ = D.bl _
    rw [Bool.not_eq_true', ] at e
    rw [lookSpan, e]
    rfl
  have e2 : decide (isP p.loL mine.length) = true ∧ decide (isP p.hiL mine.length) = true := by simpa using e
  have i1 : isP p.loL mine.length := of_decide_eq_true e2.1
  have i2 : isP p.hiL mine.length := of_decide_eq_true e2.2
  refine bd_ifRet (EvW.t (ew_or (et_cmp (ec_neI (ev_call (c_law_result T h1 ?_ ?_) (hr.mono (by decide)) (ea_cons (ev_var (nm 0 rfl (.inl rfl) rfl rfl) rfl) (ea_cons (ev_var (nm 1 rfl (.inl rfl) rfl rfl) rfl) (ea_cons (ev_ixT (ev_var (nm 3 rfl (.inl rfl) rfl rfl) rfl) ev_int rfl (fun _ _ => rfl)) ea_nil rfl) rfl) rfl) rfl (by decide) rfl rfl) (ev_ixT (ev_var (nm 3 rfl (.inl rfl) rfl rfl) rfl) ev_int rfl (fun _ _ => rfl))) (nomark _ (by decide) (by decide))) fun hb0 => (ew_or1 (et_cmp (ec_neI (ev_call (c_law_result T h1 ?_ ?_) (hr.mono (by decide)) (ea_cons (ev_var (nm 0 rfl (.inl rfl) rfl rfl) rfl) (ea_cons (ev_var (nm 1 rfl (.inl rfl) rfl rfl) rfl) (ea_cons (ev_ixT (ev_var (nm 3 rfl (.inl rfl) rfl rfl) rfl) ev_int rfl (fun _ _ => rfl)) ea_nil rfl) rfl) rfl) rfl (by decide) rfl rfl) (ev_ixT (ev_var (nm 3 rfl (.inl rfl) rfl rfl) rfl) ev_int rfl (fun _ _ => rfl))) (nomark _ (by decide) (by decide)))))) (fun e3 => bd_one (sd_ret ev_bl ?_)) fun e3 => ?_
  · rw [i1.2]
    exact Nat.le_refl _
  · rw [← h]
    exact i1.1.1
  · rw [i2.2]
    exact Nat.le_refl _
  · rw [← h]
    exact i2.1.1
  · show D.bl _ = D.bl _
    rw [← Bool.not_and, Bool.not_eq_true'] at e3
    rw [lookSpan, e2.1, e2.2, Bool.true_and, Bool.true_and, e3]
    rfl
  · have e4 : decide (((winsL mine theirs p.loL).length : Int) = p.lo) = true ∧ decide (((winsL mine theirs p.hiL).length : Int) = p.hi) = true := by simpa using e3
    refine bd_one (sd_ret (ev_and (ev_call (c_law_height_is T) (hr.mono (by decide)) (ea_cons (ev_var (nm 2 rfl (.inl rfl) rfl rfl) rfl) (ea_cons (ev_ixT (ev_var (nm 3 rfl (.inl rfl) rfl rfl) rfl) ev_int rfl (fun _ _ => rfl)) (ea_cons (ev_ixT (ev_var (nm 3 rfl (.inl rfl) rfl rfl) rfl) ev_int rfl (fun _ _ => rfl)) ea_nil rfl) rfl) rfl) rfl (by decide) rfl rfl) fun hb0 => (ev_and1 (ev_call (c_law_height_is T) (hr.mono (by decide)) (ea_cons (ev_var (nm 2 rfl (.inl rfl) rfl rfl) rfl) (ea_cons (ev_ixT (ev_var (nm 3 rfl (.inl rfl) rfl rfl) rfl) ev_int rfl (fun _ _ => rfl)) (ea_cons (ev_sub (ev_ixT (ev_var (nm 3 rfl (.inl rfl) rfl rfl) rfl) ev_int rfl (fun _ _ => rfl)) (ev_var (nm 4 rfl (.inl rfl) rfl rfl) rfl)) ea_nil rfl) rfl) rfl) rfl (by decide) rfl rfl))) ?_)
    show D.bl _ = D.bl _
    rw [lookSpan, e2.1, e2.2, e4.1, e4.2]
    simp only [Bool.true_and]
theorem c_law_row_right (T : Tx K mg) {mine theirs row partners : List Int} (h : mine.length = theirs.length) (h1 : mine.length ≤ 1000) : Cal P w K mg base 1 "_law_row_right" [dL lI [levelsL mine theirs 1, levelsL mine theirs 0], lI row, lI partners] (.bl (showsRow mine theirs row partners)) := by
  have hid : ((List.range (((levelsL mine theirs 1).length : Int)).toNat).filter fun _ => true).map (fun k : Nat => D.int (k : Int)) = (idL mine.length).map D.int := by
    rw [Int.toNat_natCast, lev_len]
    exact comp_map _ _ _ _ fun m => rfl
  have hl0 := lev_len mine theirs 0
  have hl1 := lev_len mine theirs 1
  have d0 : (0 : Int) < (([levelsL mine theirs 1, levelsL mine theirs 0].length : Nat) : Int) := Int.ofNat_lt.mpr (Nat.zero_lt_succ _)
  have d1 : (1 : Int) < (([levelsL mine theirs 1, levelsL mine theirs 0].length : Nat) : Int) := Int.ofNat_lt.mpr (Nat.lt_succ_self _)
  refine cal_of T.d_law_row_right sc_law_row_right (fun _ _ _ _ _ _ us hl => match us, hl with | [_, _, _], _ => rfl) rfl fun Y hr => ?_
  have nd := sc_law_row_right.nd
  show Bd _ [.val _, .val _, .val _, .any, .any] _ _
  refine bd_ifRet (EvT.cast (et_cmp (ec_neLI hr.units (EvN.ev (evn_sortedI hr.units T.b_sorted (Ev.l (ev_var (nm 2 rfl (.inl rfl) rfl rfl) rfl)) rfl rfl rfl)) (EvN.ev (EvN.cast (d' := (idL mine.length).map D.int) (evn_lc 3 _ (fun _ => true) _ rfl nd (ei_rng1 T.b_range (ev_lenL T.b_len (Ev.l (ev_ixLL (Ev.l (ev_var (nm 0 rfl (.inr (.inl rfl)) rfl rfl) rfl)) ev_int ?_ ?_ (fun _ _ => rfl))) rfl rfl rfl) ?_ ?_ rfl rfl rfl) ?_ (blkOk_by (N := N_law_row_right) (sc := defScope s_law_row_right) (by decide +kernel)) (fun _ _ _ _ _ => pg_name nd rfl (.inl rfl) (.inr rfl)) (fun _ _ _ _ _ _ _ => ets_nil) (fun x hx hcx s H C cl fp => (ev_var (nm 3 rfl (.inl rfl) rfl rfl) rfl)) (fun _ => rfl)) ?_))) (nomark _ (by decide) (by decide))) (k' := !(decide (isP partners mine.length))) ?_) (fun e => bd_one (sd_ret ev_bl ?_)) fun e => ?_
  · decide
  · exact d0
  · show (0 : Int) ≤ ((levelsL mine theirs 1).length : Int)
    omega
  · show ((levelsL mine theirs 1).length : Int) ≤ 100000
    omega
  · rw [List.length_range]
    show ((levelsL mine theirs 1).length : Int).toNat ≤ 100000
    omega
  · exact hid
  · rw [sort_dec]
  · show D.bl _ = D.bl _
    rw [Bool.not_eq_true'] at e
    rw [showsRow, e]
    rfl
  have e2 : decide (isP partners mine.length) = true := by simpa using e
  have i1 : isP partners mine.length := of_decide_eq_true e2
  refine bd_ifRet (EvT.cast (et_cmp (ec_neLI hr.units (EvN.ev (EvN.cast (d' := (partners.map fun t => (levelsL mine theirs 0).getD t.toNat 0).map D.int) (evn_lc 4 _ (fun _ => true) _ rfl nd (ei_list (ev_var (nm 2 rfl (.inl rfl) rfl rfl) rfl)) ?_ (blkOk_by (N := N_law_row_right) (sc := defScope s_law_row_right) (by decide +kernel)) (fun _ _ _ _ _ => pg_name nd rfl (.inl rfl) (.inr rfl)) (fun _ _ _ _ _ _ _ => ets_nil) (fun x hx hcx s H C cl fp => (ev_ixG (0 : Int) (Ev.l (ev_ixLL (Ev.l (ev_var (nm 0 rfl (.inr (.inl rfl)) rfl rfl) rfl)) ev_int ?_ ?_ (fun _ _ => rfl))) (ev_var (nm 4 rfl (.inl rfl) rfl rfl) rfl) ?_ ?_ (fun _ _ => rfl))) (fun _ => rfl)) ?_)) (ev_ixLL (Ev.l (ev_var (nm 0 rfl (.inr (.inl rfl)) rfl rfl) rfl)) ev_int ?_ ?_ (fun _ _ => rfl))) (nomark _ (by decide) (by decide))) (k' := !(decide (∀ m, m < mine.length → matesB mine theirs partners m = true))) ?_) (fun e3 => bd_one (sd_ret ev_bl ?_)) fun e3 => bd_one (sd_ret (ev_cmp (ec_eqLI hr.units (ev_var (nm 1 rfl (.inl rfl) rfl rfl) rfl) (EvN.ev (evn_sortedI hr.units T.b_sorted (Ev.l (ev_ixLL (Ev.l (ev_var (nm 0 rfl (.inr (.inl rfl)) rfl rfl) rfl)) ev_int ?_ ?_ (fun _ _ => rfl))) rfl rfl rfl))) (nomark _ (by decide) (by decide))) ?_)
  · rw [i1.2]
    omega
  · decide
  · exact d1
  · exact (i1.1.1 _ hx).1
  · show x < ((levelsL mine theirs 0).length : Int)
    rw [hl0]
    exact (i1.1.1 _ hx).2
  · exact comp_map _ _ _ _ fun m => rfl
  · decide
  · exact d0
  · show (!decide ((partners.map fun t => (levelsL mine theirs 0).getD t.toNat 0) = levelsL mine theirs 1)) = _
    rw [mates_dec i1]
  · show D.bl _ = D.bl _
    rw [Bool.not_eq_true'] at e3
    rw [showsRow, e3]
    simp
  · decide
  · exact d0
  · have e4 : decide (∀ m, m < mine.length → matesB mine theirs partners m = true) = true := by
      rw [Bool.not_eq_false'] at e3
      exact e3
    show D.bl (decide (row = (levelsL mine theirs 1).mergeSort leI)) = D.bl _
    rw [showsRow, e2, e4]
    rfl
theorem c_law_value_right (T : Tx K mg) {mine theirs : List Int} (h : mine.length = theirs.length) (h1 : mine.length ≤ 1000) (p : ValP) (b2 : p.word.length ≤ 1000) : Cal P w K mg base 2 "_law_value_right" [dL lI [levelsL mine theirs 1, levelsL mine theirs 0], eVP p] (.bl (lookValue mine theirs p)) := by
  have hl1 := lev_len mine theirs 1
  refine cal_of T.d_law_value_right sc_law_value_right (fun _ _ _ _ _ _ us hl => match us, hl with | [_, _], _ => rfl) rfl fun Y hr => ?_
  have nd := sc_law_value_right.nd
  show Bd _ [.val _, .val _, .any] _ _
  refine bd_ifRet (EvT.cast (k' := !((decide (p.many = wMine) || decide (p.many = wTheirs)) && decide (p.word.length = mine.length))) (EvW.t (ew_or (et_cmp (ec_ninL (ss := [wd wMine, wd wTheirs]) (ev_ixT (ev_var (nm 1 rfl (.inl rfl) rfl rfl) rfl) ev_int rfl (fun _ _ => rfl)) (EvL.cast (d' := [wd wMine, wd wTheirs].map D.str) (EvN.l (evn_lst (ea_cons (ev_strW [109, 105, 110, 101]) (ea_cons (ev_strW [116, 104, 101, 105, 114, 115]) ea_nil rfl) rfl) (Nat.le_of_ble_eq_true rfl))) rfl)) rfl) fun hb0 => ew_or1 (et_cmp (ec_neI (ev_lenW T.b_len (ev_ixT (ev_var (nm 1 rfl (.inl rfl) rfl rfl) rfl) ev_int rfl (fun _ _ => rfl)) ?_ rfl rfl rfl) (ev_lenL T.b_len (Ev.l (ev_ixLL (Ev.l (ev_var (nm 0 rfl (.inl rfl) rfl rfl) rfl)) ev_int ?_ ?_ (fun _ _ => rfl))) rfl rfl rfl)) (nomark _ (by decide) (by decide))))) ?_) (fun e => bd_one (sd_ret ev_bl ?_)) fun e => ?_
  · omega
  · decide
  · exact Int.ofNat_lt.mpr (Nat.zero_lt_succ _)
  · have e1 : decide (wd p.many ∈ [wd wMine, wd wTheirs]) = (decide (p.many = wMine) || decide (p.many = wTheirs)) := by
      rw [Bool.eq_iff_iff]
      simp only [decide_eq_true_eq, Bool.or_eq_true, List.mem_cons, List.not_mem_nil, or_false]
      exact ⟨fun z => z.imp wd_inj wd_inj, fun z => z.imp (congrArg wd) (congrArg wd)⟩
    have e2 : decide ((p.word.length : Int) = (([levelsL mine theirs 1, levelsL mine theirs 0].getD (0 : Int).toNat []).length : Int)) = decide (p.word.length = mine.length) := by
      show decide ((p.word.length : Int) = ((levelsL mine theirs 1).length : Int)) = _
      rw [hl1, Bool.eq_iff_iff, decide_eq_true_eq, decide_eq_true_eq]
      omega
    rw [e1, e2, Bool.not_and]
  · show D.bl _ = D.bl _
    rw [Bool.not_eq_true'] at e
    rw [lookValue, e]
    rfl
  have e1 : (decide (p.many = wMine) || decide (p.many = wTheirs)) = true ∧ decide (p.word.length = mine.length) = true := Bool.and_eq_true_iff.mp (by rw [Bool.not_eq_false'] at e; exact e)
  refine bd_ifRet (EvT.cast (k' := !(decide (p.word.count 77 + p.word.count 84 = p.word.length) && showsRow mine theirs p.row p.mates)) (EvW.t (ew_or (et_not (et_ev (ev_all rfl T.b_all (EvN.l (EvN.cast (d' := (p.word.map fun c => decide (c ∈ [77, 84])).map D.bl) (evn_lc 2 _ (fun _ => true) _ rfl nd (ei_str (ev_ixT (ev_var (nm 1 rfl (.inl rfl) rfl rfl) rfl) ev_int rfl (fun _ _ => rfl))) ?_ (blkOk_by (N := N_law_value_right) (sc := defScope s_law_value_right) (by decide +kernel)) (fun _ _ _ _ _ => pg_name nd rfl (.inl rfl) (.inr rfl)) (fun _ _ _ _ _ _ _ => ets_nil) (fun x hx hcx s H C cl fp => (ev_cmp (ec_inW (ev_var (nm 2 rfl (.inl rfl) rfl rfl) rfl) (ev_strW [77, 84])) rfl)) (fun _ => rfl)) ?_)) rfl rfl rfl) (fun _ => rfl))) fun hb0 => (ew_or1 (et_not (et_ev (ev_call (c_law_row_right T h h1) (hr.mono (by decide)) (ea_cons (ev_var (nm 0 rfl (.inl rfl) rfl rfl) rfl) (ea_cons (ev_ixT (ev_var (nm 1 rfl (.inl rfl) rfl rfl) rfl) ev_int rfl (fun _ _ => rfl)) (ea_cons (ev_ixT (ev_var (nm 1 rfl (.inl rfl) rfl rfl) rfl) ev_int rfl (fun _ _ => rfl)) ea_nil rfl) rfl) rfl) rfl (by decide) rfl rfl) (fun _ => rfl)))))) ?_) (fun e3 => bd_one (sd_ret ev_bl ?_)) fun e3 => bd_one (sd_ret (ev_cmp (ec_eqI (ev_ixT (ev_var (nm 1 rfl (.inl rfl) rfl rfl) rfl) ev_int rfl (fun _ _ => rfl)) (ev_call (c_law_value T b2 ?_) (hr.mono (by decide)) (ea_cons (ev_ixT (ev_var (nm 1 rfl (.inl rfl) rfl rfl) rfl) ev_int rfl (fun _ _ => rfl)) (ea_cons (ev_ixT (ev_var (nm 1 rfl (.inl rfl) rfl rfl) rfl) ev_int rfl (fun _ _ => rfl)) (ea_cons (ev_ixT (ev_var (nm 1 rfl (.inl rfl) rfl rfl) rfl) ev_int rfl (fun _ _ => rfl)) ea_nil rfl) rfl) rfl) rfl (by decide) rfl rfl)) (nomark _ (by decide) (by decide))) ?_)
  · omega
  · exact comp_map _ _ _ _ fun m => rfl
  · rw [letters_all, Bool.not_and]
  · show D.bl _ = D.bl _
    rw [Bool.not_eq_true'] at e3
    rw [lookValue, e1.1, e1.2, Bool.true_and, Bool.true_and, e3]
    rfl
  · intro hr0
    have e4 : showsRow mine theirs p.row p.mates = true := (Bool.and_eq_true_iff.mp (by rw [Bool.not_eq_false'] at e3; exact e3)).2
    have := row_of_shows e4
    have := of_decide_eq_true e1.2
    omega
  · rw [Bool.not_eq_false'] at e3
    obtain ⟨e4, e5⟩ := Bool.and_eq_true_iff.mp e3
    have hL : letters p.word := letters_iff.mpr (of_decide_eq_true e4)
    show D.bl (decide (p.worth = lval p.row p.word p.many)) = D.bl _
    rw [lookValue, e1.1, e1.2, e4, e5, lval_c hL]
    rfl
end
end Y
end S_F13

section S_F14
set_option maxHeartbeats 2000000
namespace Y
open PySem PySem.Spec PyProof.Rows L2
def zSP : SpanP := ⟨[], 0, 0, [], 0, 0, []⟩
def zRP : RowP := ⟨[], [], []⟩
def zVP : ValP := ⟨[], [], [], 0, [], []⟩
def okSP (p : SpanP) : Prop := asc p.tag ∧ p.loL.length ≤ 1000 ∧ p.hiL.length ≤ 1000
def okRP (p : RowP) : Prop := asc p.tag ∧ p.mates.length ≤ 1000
def okVP (p : ValP) : Prop := asc p.tag ∧ asc p.word ∧ asc p.many ∧ p.word.length ≤ 1000 ∧ p.mates.length ≤ 1000
def someL {α : Type} (z : α) (n : Nat) (m0 : Int) (ps : List α) : List α :=
  if 12 < n then ps.take 1 ++ ((List.range (ps.length - 1)).filter fun k : Nat => decide ((1 + (k : Int) + m0) % 3 = 0)).map (fun k => ps.getD (k + 1) z) else ps
theorem someL_mem {α : Type} {z : α} {n : Nat} {m0 : Int} {ps : List α} : ∀ p ∈ someL z n m0 ps, p ∈ ps := by
  intro p hp
  unfold someL at hp
  split at hp
  · rcases List.mem_append.mp hp with h | h
    · exact List.mem_of_mem_take h
    · obtain ⟨k, hk, rfl⟩ := List.mem_map.mp h
      have := List.mem_range.mp (List.mem_filter.mp hk).1
      exact getD_mem (by omega)
  · exact hp
theorem part_SP (p : SpanP) : ∀ d ∈ ([dW p.tag, .int p.lo, .int p.loP, lI p.loL, .int p.hi, .int p.hiP, lI p.hiL] : List D), Part d := fun d hd => by
  simp only [List.mem_cons, List.not_mem_nil, or_false] at hd
  rcases hd with rfl | rfl | rfl | rfl | rfl | rfl | rfl
  · exact .inr (.inl ⟨_, rfl⟩)
  · exact .inl ⟨_, rfl⟩
  · exact .inl ⟨_, rfl⟩
  · exact .inr (.inr ⟨_, rfl⟩)
  · exact .inl ⟨_, rfl⟩
  · exact .inl ⟨_, rfl⟩
  · exact .inr (.inr ⟨_, rfl⟩)
theorem part_RP (p : RowP) : ∀ d ∈ ([dW p.tag, lI p.row, lI p.mates] : List D), Part d := fun d hd => by
  simp only [List.mem_cons, List.not_mem_nil, or_false] at hd
  rcases hd with rfl | rfl | rfl
  · exact .inr (.inl ⟨_, rfl⟩)
  · exact .inr (.inr ⟨_, rfl⟩)
  · exact .inr (.inr ⟨_, rfl⟩)
theorem part_VP (p : ValP) : ∀ d ∈ ([dW p.tag, dW p.word, dW p.many, .int p.worth, lI p.row, lI p.mates] : List D), Part d := fun d hd => by
  simp only [List.mem_cons, List.not_mem_nil, or_false] at hd
  rcases hd with rfl | rfl | rfl | rfl | rfl | rfl
  · exact .inr (.inl ⟨_, rfl⟩)
  · exact .inr (.inl ⟨_, rfl⟩)
  · exact .inr (.inl ⟨_, rfl⟩)
  · exact .inl ⟨_, rfl⟩
  · exact .inr (.inr ⟨_, rfl⟩)
  · exact .inr (.inr ⟨_, rfl⟩)
section
variable {P : Program} {w : World} {K : PySem.W.Frag} {mg : Str → Option Value} {base : Heap}
theorem c_law_look_good0 (T : Tx K mg) {mine theirs : List Int} (h : mine.length = theirs.length) (h1 : mine.length ≤ 1000) (p : SpanP) (hp : okSP p) : Cal P w K mg base 6 "_law_look_good" [.int 0, lI mine, lI theirs, eSP p, .bl (lookSpan mine theirs p)] (.bl true) := by
  refine cal_of T.d_law_look_good sc_law_look_good (fun _ _ _ _ _ _ us hl => match us, hl with | [_, _, _, _, _], _ => rfl) rfl fun Y hr => ?_
  have nd := sc_law_look_good.nd
  show Bd _ [.val _, .val _, .val _, .val _, .val _, .any, .any, .any, .any] _ _
  refine bd_seq1 (sd_asg (k := 5) nd rfl (.inl rfl) (EvN.ev (evn_list T.b_list (Ev.l (ev_var (nm 1 rfl (.inl rfl) rfl rfl) rfl)) rfl rfl rfl)) rfl rfl (.inl rfl)) (bd_seq1 (sd_asg (k := 6) nd rfl (.inl rfl) (EvN.ev (evn_list T.b_list (Ev.l (ev_var (nm 2 rfl (.inl rfl) rfl rfl) rfl)) rfl rfl rfl)) rfl rfl (.inl rfl)) (bd_seq1 (sd_asg (k := 7) nd rfl (.inl rfl) (Ev.cast (d' := eSP p) (ev_call (c_law_copy (ds := [dW p.tag, .int p.lo, .int p.loP, lI p.loL, .int p.hi, .int p.hiP, lI p.hiL]) T (part_SP p) (Nat.le_of_ble_eq_true rfl)) (hr.mono (by decide)) (ea_cons (ev_var (nm 3 rfl (.inl rfl) rfl rfl) rfl) ea_nil rfl) rfl (by decide) rfl rfl) ?_) rfl rfl (.inl rfl)) (bd_seq1 (sd_asg (k := 8) nd rfl (.inl rfl) ev_non rfl rfl (.inl rfl)) ?_)))
  · rfl
  refine bd_if [.any, .val (lI mine), .val (lI theirs), .val (eSP p), .val (.bl (lookSpan mine theirs p)), .val (lI mine), .val (lI theirs), .val (eSP p), .val (.bl (lookSpan mine theirs p))] (et_cmp (ec_eqI (ev_var (nm 0 rfl (.inl rfl) rfl rfl) rfl) ev_int) (nomark _ (by decide) (by decide))) (fun e => ?_) (fun e => ?_) (bd_one (sd_ret (ev_and (ev_isi "bool" (r := true) T.b_isinstance (ev_var (nm 8 rfl (.inl rfl) rfl rfl) rfl) T.b_bool (by decide +kernel) (show kitB "bool" "bool" = some true by decide +kernel) rfl rfl rfl rfl rfl rfl (by decide) (by decide)) fun hb0 => (ev_and (ev_cmp (ec_eqB (ev_var (nm 8 rfl (.inl rfl) rfl rfl) rfl) (ev_var (nm 4 rfl (.inl rfl) rfl rfl) rfl)) (nomark _ (by decide) (by decide))) fun hb1 => (ev_and (ev_cmp (ec_eqLI hr.units (ev_var (nm 5 rfl (.inl rfl) rfl rfl) rfl) (ev_var (nm 1 rfl (.inl rfl) rfl rfl) rfl)) (nomark _ (by decide) (by decide))) fun hb2 => (ev_and (ev_cmp (ec_eqLI hr.units (ev_var (nm 6 rfl (.inl rfl) rfl rfl) rfl) (ev_var (nm 2 rfl (.inl rfl) rfl rfl) rfl)) (nomark _ (by decide) (by decide))) fun hb3 => (ev_and1 (ev_cmp (ec_eqD hr.units ?_ ?_ (ev_var (nm 7 rfl (.inl rfl) rfl rfl) rfl) (ev_var (nm 3 rfl (.inl rfl) rfl rfl) rfl)) (nomark _ (by decide) (by decide)))))))) ?_))
  · exact bd_seq1 (sd_asg (k := 8) nd rfl (.inl rfl) (ev_call (c_look_span T h h1 p hp.2.1 hp.2.2) (hr.mono (by decide)) (ea_cons (ev_var (nm 5 rfl (.inl rfl) rfl rfl) rfl) (ea_cons (ev_var (nm 6 rfl (.inl rfl) rfl rfl) rfl) (ea_cons (ev_var (nm 7 rfl (.inl rfl) rfl rfl) rfl) ea_nil rfl) rfl) rfl) rfl (by decide) rfl rfl) rfl rfl (.inl rfl)) (bd_nil (by repeat (first | exact Wk.nil | refine Wk.any ?_ | refine Wk.same ?_ | refine Wk.frz ?_)))
  · exact absurd e (by decide)
  · exact fine_SP hp.1
  · exact fine_SP hp.1
  · show D.bl _ = D.bl _
    rw [eqD_refl (k := 60) (fine_SP hp.1)]
    simp
theorem c_law_looks_good0 (T : Tx K mg) {mine theirs : List Int} (h : mine.length = theirs.length) (h1 : mine.length ≤ 1000) {ps : List SpanP} (hps : ∀ p ∈ ps, okSP p) (hl : ps.length ≤ 100000) : Cal P w K mg base 7 "_law_looks_good" [.int 0, lI mine, lI theirs, dL eSP ps] (.bl true) := by
  have h2 : theirs.length ≤ 1000 := by omega
  refine cal_of T.d_law_looks_good sc_law_looks_good (fun _ _ _ _ _ _ us hl => match us, hl with | [_, _, _, _], _ => rfl) rfl fun Y hr => ?_
  have nd := sc_law_looks_good.nd
  show Bd _ [.val _, .val _, .val _, .val _, .any, .any, .any, .any, .any, .any] _ _
  refine bd_seq1 (sd_asg (k := 4) nd rfl (.inl rfl) (ev_call (c_law_walk T h1 h2) (hr.mono (by decide)) (ea_cons (ev_var (nm 1 rfl (.inr (.inl rfl)) rfl rfl) rfl) (ea_cons (ev_var (nm 2 rfl (.inl rfl) rfl rfl) rfl) ea_nil rfl) rfl) rfl (by decide) rfl rfl) rfl rfl (.inl rfl)) (bd_seq1 (sd_asg (k := 5) nd rfl (.inl rfl) (ev_call (c_law_levels T h h1) (hr.mono (by decide)) (ea_cons (ev_var (nm 1 rfl (.inr (.inl rfl)) rfl rfl) rfl) (ea_cons (ev_var (nm 2 rfl (.inl rfl) rfl rfl) rfl) ea_nil rfl) rfl) rfl (by decide) rfl rfl) rfl rfl (.inl rfl)) (bd_seq1 (sd_asg (k := 6) nd rfl (.inl rfl) (ev_var (nm 3 rfl (.inr (.inl rfl)) rfl rfl) rfl) rfl rfl (.inl rfl)) ?_))
  refine bd_if [.val (.int 0), .val (lI mine), .val (lI theirs), .any, .val (lI (heightsL mine theirs)), .val (dL lI [levelsL mine theirs 1, levelsL mine theirs 0]), .val (dL eSP (someL zSP mine.length (mine.getD 0 0) ps)), .any, .any, .any] (et_cmp (ec_gt (ev_lenL T.b_len (Ev.l (ev_var (nm 1 rfl (.inr (.inl rfl)) rfl rfl) rfl)) rfl rfl rfl) ev_int) (nomark _ (by decide) (by decide))) (fun e => bd_seq1 (sd_asg (k := 6) nd rfl (.inl rfl) (Ev.cast (d' := dL eSP (someL zSP mine.length (mine.getD 0 0) ps)) (EvN.ev (evn_cat (EvN.l (evn_slice (Ev.l (ev_var (nm 3 rfl (.inr (.inl rfl)) rfl rfl) rfl)) ep_none (ep_some ev_int))) (EvN.l (evn_lc 7 _ _ _ rfl nd (ei_rng2 T.b_range ev_int (ev_lenL T.b_len (Ev.l (ev_var (nm 3 rfl (.inr (.inl rfl)) rfl rfl) rfl)) rfl rfl rfl) ?_ ?_ ?_ ?_ rfl rfl rfl rfl rfl) ?_ (blkOk_by (N := N_law_looks_good) (sc := defScope s_law_looks_good) (by decide +kernel)) (fun _ _ _ _ _ => pg_name nd rfl (.inl rfl) (.inr rfl)) (fun x hx s H C cl fp => ets_one (et_cmp (ec_eqI (ev_mod (ev_intI T.b_int (ev_add (ev_var (nm 7 rfl (.inl rfl) rfl rfl) rfl) (ev_ixG (0 : Int) (Ev.l (ev_var (nm 1 rfl (.inr (.inl rfl)) rfl rfl) rfl)) ev_int ?_ ?_ (fun _ _ => rfl))) rfl rfl rfl) ev_int ?_) ev_int) (nomark _ (by decide) (by decide)))) (fun x hx hcx s H C cl fp => (ev_ixG zSP (Ev.l (ev_var (nm 3 rfl (.inr (.inl rfl)) rfl rfl) rfl)) (ev_var (nm 7 rfl (.inl rfl) rfl rfl) rfl) ?_ ?_ (fun _ _ => rfl))) (fun _ => rfl))) ?_)) ?_) rfl rfl (.inl rfl)) (bd_nil (by repeat (first | exact Wk.nil | refine Wk.any ?_ | refine Wk.same ?_ | refine Wk.frz ?_)))) (fun e => bd_nil ?_) ?_
  · decide
  · decide
  · omega
  · omega
  · rw [List.length_range]
    omega
  · decide
  · have := of_decide_eq_true e
    omega
  · decide
  · omega
  · have := List.mem_range.mp hx
    omega
  · rw [cut_pre _ (by decide), List.length_take, List.length_map, List.length_map]
    have := List.length_filter_le (fun k : Nat => decide ((1 + (k : Int) + mine.getD (0 : Int).toNat 0) % 3 = 0)) (List.range ((ps.length : Int) - 1).toNat)
    rw [List.length_range] at this
    omega
  · have e1 : 12 < mine.length := by
      have := of_decide_eq_true e
      omega
    have e2 : ((ps.length : Int) - 1).toNat = ps.length - 1 := by omega
    rw [someL, if_pos e1, dL, List.map_append, cut_map, cut_pre _ (by decide), e2, List.map_map]
    refine congrArg D.lst (congrArg _ (List.map_congr_left fun k hk => ?_))
    show eSP (ps.getD (1 + (k : Int)).toNat zSP) = eSP (ps.getD (k + 1) zSP)
    have e3 : (1 + (k : Int)).toNat = k + 1 := by omega
    rw [e3]
  · have e1 : ¬ 12 < mine.length := by
      have := of_decide_eq_false e
      omega
    rw [someL, if_neg e1]
    exact (by repeat (first | exact Wk.nil | refine Wk.any ?_ | refine Wk.same ?_ | refine Wk.frz ?_))
  refine bd_for 8 (fun i => [.val (.int 0), .val (lI mine), .val (lI theirs), .any, .val (lI (heightsL mine theirs)), .val (dL lI [levelsL mine theirs 1, levelsL mine theirs 0]), .val (dL eSP (someL zSP mine.length (mine.getD 0 0) ps)), .any, .any, .any]) (fun _ => True) PassesOwn.never rfl nd rfl (.inl rfl) (by repeat (first | exact Wk.nil | refine Wk.any ?_ | refine Wk.same ?_ | refine Wk.frz ?_)) (ei_list (ev_var (nm 6 rfl (.inl rfl) rfl rfl) rfl)) trivial ?_ ?_ (.inl rfl) (fun _ => rfl)
  · intro i d hd _
    rw [List.getElem?_map] at hd
    obtain ⟨p, hpi, rfl⟩ := Option.map_eq_some_iff.mp hd
    have hok := hps p (someL_mem p (List.mem_of_getElem? hpi))
    refine bd_if [.val (.int 0), .val (lI mine), .val (lI theirs), .any, .val (lI (heightsL mine theirs)), .val (dL lI [levelsL mine theirs 1, levelsL mine theirs 0]), .val (dL eSP (someL zSP mine.length (mine.getD 0 0) ps)), .any, .val (eSP p), .val (.bl (lookSpan mine theirs p))] (et_cmp (ec_eqI (ev_var (nm 0 rfl (.inl rfl) rfl rfl) rfl) ev_int) (nomark _ (by decide) (by decide))) (fun e => ?_) (fun e => ?_) ?_
    · exact bd_seq1 (sd_asg (k := 9) nd rfl (.inl rfl) (ev_call (c_law_span_right T h h1 p) (hr.mono (by decide)) (ea_cons (ev_var (nm 1 rfl (.inr (.inl rfl)) rfl rfl) rfl) (ea_cons (ev_var (nm 2 rfl (.inl rfl) rfl rfl) rfl) (ea_cons (ev_var (nm 4 rfl (.inl rfl) rfl rfl) rfl) (ea_cons (ev_var (nm 8 rfl (.inl rfl) rfl rfl) rfl) ea_nil rfl) rfl) rfl) rfl) rfl (by decide) rfl rfl) rfl rfl (.inl rfl)) (bd_nil (by repeat (first | exact Wk.nil | refine Wk.any ?_ | refine Wk.same ?_ | refine Wk.frz ?_)))
    · exact absurd e (by decide)
    · refine bd_ifRet (et_not (et_ev (ev_call (c_law_look_good0 T h h1 p hok) (hr.mono (by decide)) (ea_cons (ev_var (nm 0 rfl (.inl rfl) rfl rfl) rfl) (ea_cons (ev_var (nm 1 rfl (.inr (.inl rfl)) rfl rfl) rfl) (ea_cons (ev_var (nm 2 rfl (.inl rfl) rfl rfl) rfl) (ea_cons (ev_var (nm 8 rfl (.inl rfl) rfl rfl) rfl) (ea_cons (ev_var (nm 9 rfl (.inl rfl) rfl rfl) rfl) ea_nil rfl) rfl) rfl) rfl) rfl) rfl (by decide) rfl rfl) (fun _ => rfl))) (fun e => nomatch e) fun _ => bd_nil ⟨(by repeat (first | exact Wk.nil | refine Wk.any ?_ | refine Wk.same ?_ | refine Wk.frz ?_)), trivial⟩
  · intro _
    refine bd_one (sd_ret ev_bl ?_)
    rfl
theorem c_law_look_good1 (T : Tx K mg) {mine theirs : List Int} (h : mine.length = theirs.length) (h1 : mine.length ≤ 1000) (p : RowP) (hp : okRP p) : Cal P w K mg base 6 "_law_look_good" [.int 1, lI mine, lI theirs, eRP p, .bl (showsRow mine theirs p.row p.mates)] (.bl true) := by
  refine cal_of T.d_law_look_good sc_law_look_good (fun _ _ _ _ _ _ us hl => match us, hl with | [_, _, _, _, _], _ => rfl) rfl fun Y hr => ?_
  have nd := sc_law_look_good.nd
  show Bd _ [.val _, .val _, .val _, .val _, .val _, .any, .any, .any, .any] _ _
  refine bd_seq1 (sd_asg (k := 5) nd rfl (.inl rfl) (EvN.ev (evn_list T.b_list (Ev.l (ev_var (nm 1 rfl (.inl rfl) rfl rfl) rfl)) rfl rfl rfl)) rfl rfl (.inl rfl)) (bd_seq1 (sd_asg (k := 6) nd rfl (.inl rfl) (EvN.ev (evn_list T.b_list (Ev.l (ev_var (nm 2 rfl (.inl rfl) rfl rfl) rfl)) rfl rfl rfl)) rfl rfl (.inl rfl)) (bd_seq1 (sd_asg (k := 7) nd rfl (.inl rfl) (Ev.cast (d' := eRP p) (ev_call (c_law_copy (ds := [dW p.tag, lI p.row, lI p.mates]) T (part_RP p) (Nat.le_of_ble_eq_true rfl)) (hr.mono (by decide)) (ea_cons (ev_var (nm 3 rfl (.inl rfl) rfl rfl) rfl) ea_nil rfl) rfl (by decide) rfl rfl) ?_) rfl rfl (.inl rfl)) (bd_seq1 (sd_asg (k := 8) nd rfl (.inl rfl) ev_non rfl rfl (.inl rfl)) ?_)))
  · rfl
  refine bd_if [.any, .val (lI mine), .val (lI theirs), .val (eRP p), .val (.bl (showsRow mine theirs p.row p.mates)), .val (lI mine), .val (lI theirs), .val (eRP p), .val (.bl (showsRow mine theirs p.row p.mates))] (et_cmp (ec_eqI (ev_var (nm 0 rfl (.inl rfl) rfl rfl) rfl) ev_int) (nomark _ (by decide) (by decide))) (fun e => ?_) (fun e => ?_) (bd_one (sd_ret (ev_and (ev_isi "bool" (r := true) T.b_isinstance (ev_var (nm 8 rfl (.inl rfl) rfl rfl) rfl) T.b_bool (by decide +kernel) (show kitB "bool" "bool" = some true by decide +kernel) rfl rfl rfl rfl rfl rfl (by decide) (by decide)) fun hb0 => (ev_and (ev_cmp (ec_eqB (ev_var (nm 8 rfl (.inl rfl) rfl rfl) rfl) (ev_var (nm 4 rfl (.inl rfl) rfl rfl) rfl)) (nomark _ (by decide) (by decide))) fun hb1 => (ev_and (ev_cmp (ec_eqLI hr.units (ev_var (nm 5 rfl (.inl rfl) rfl rfl) rfl) (ev_var (nm 1 rfl (.inl rfl) rfl rfl) rfl)) (nomark _ (by decide) (by decide))) fun hb2 => (ev_and (ev_cmp (ec_eqLI hr.units (ev_var (nm 6 rfl (.inl rfl) rfl rfl) rfl) (ev_var (nm 2 rfl (.inl rfl) rfl rfl) rfl)) (nomark _ (by decide) (by decide))) fun hb3 => (ev_and1 (ev_cmp (ec_eqD hr.units ?_ ?_ (ev_var (nm 7 rfl (.inl rfl) rfl rfl) rfl) (ev_var (nm 3 rfl (.inl rfl) rfl rfl) rfl)) (nomark _ (by decide) (by decide)))))))) ?_))
  · exact absurd e (by decide)
  · exact bd_if [.any, .val (lI mine), .val (lI theirs), .val (eRP p), .val (.bl (showsRow mine theirs p.row p.mates)), .val (lI mine), .val (lI theirs), .val (eRP p), .val (.bl (showsRow mine theirs p.row p.mates))] (et_cmp (ec_eqI (ev_var (nm 0 rfl (.inl rfl) rfl rfl) rfl) ev_int) (nomark _ (by decide) (by decide))) (fun e => bd_seq1 (sd_asg (k := 8) nd rfl (.inl rfl) (ev_call (c_look_row T h h1 p hp.2) (hr.mono (by decide)) (ea_cons (ev_var (nm 5 rfl (.inl rfl) rfl rfl) rfl) (ea_cons (ev_var (nm 6 rfl (.inl rfl) rfl rfl) rfl) (ea_cons (ev_var (nm 7 rfl (.inl rfl) rfl rfl) rfl) ea_nil rfl) rfl) rfl) rfl (by decide) rfl rfl) rfl rfl (.inl rfl)) (bd_nil (by repeat (first | exact Wk.nil | refine Wk.any ?_ | refine Wk.same ?_ | refine Wk.frz ?_)))) (fun e => absurd e (by decide)) (bd_nil (by repeat (first | exact Wk.nil | refine Wk.any ?_ | refine Wk.same ?_ | refine Wk.frz ?_)))
  · exact fine_RP hp.1
  · exact fine_RP hp.1
  · show D.bl _ = D.bl _
    rw [eqD_refl (k := 60) (fine_RP hp.1)]
    simp
theorem c_law_looks_good1 (T : Tx K mg) {mine theirs : List Int} (h : mine.length = theirs.length) (h1 : mine.length ≤ 1000) {ps : List RowP} (hps : ∀ p ∈ ps, okRP p) (hl : ps.length ≤ 100000) : Cal P w K mg base 7 "_law_looks_good" [.int 1, lI mine, lI theirs, dL eRP ps] (.bl true) := by
  have h2 : theirs.length ≤ 1000 := by omega
  refine cal_of T.d_law_looks_good sc_law_looks_good (fun _ _ _ _ _ _ us hl => match us, hl with | [_, _, _, _], _ => rfl) rfl fun Y hr => ?_
  have nd := sc_law_looks_good.nd
  show Bd _ [.val _, .val _, .val _, .val _, .any, .any, .any, .any, .any, .any] _ _
  refine bd_seq1 (sd_asg (k := 4) nd rfl (.inl rfl) (ev_call (c_law_walk T h1 h2) (hr.mono (by decide)) (ea_cons (ev_var (nm 1 rfl (.inr (.inl rfl)) rfl rfl) rfl) (ea_cons (ev_var (nm 2 rfl (.inl rfl) rfl rfl) rfl) ea_nil rfl) rfl) rfl (by decide) rfl rfl) rfl rfl (.inl rfl)) (bd_seq1 (sd_asg (k := 5) nd rfl (.inl rfl) (ev_call (c_law_levels T h h1) (hr.mono (by decide)) (ea_cons (ev_var (nm 1 rfl (.inr (.inl rfl)) rfl rfl) rfl) (ea_cons (ev_var (nm 2 rfl (.inl rfl) rfl rfl) rfl) ea_nil rfl) rfl) rfl (by decide) rfl rfl) rfl rfl (.inl rfl)) (bd_seq1 (sd_asg (k := 6) nd rfl (.inl rfl) (ev_var (nm 3 rfl (.inr (.inl rfl)) rfl rfl) rfl) rfl rfl (.inl rfl)) ?_))
  refine bd_if [.val (.int 1), .val (lI mine), .val (lI theirs), .any, .val (lI (heightsL mine theirs)), .val (dL lI [levelsL mine theirs 1, levelsL mine theirs 0]), .val (dL eRP (someL zRP mine.length (mine.getD 0 0) ps)), .any, .any, .any] (et_cmp (ec_gt (ev_lenL T.b_len (Ev.l (ev_var (nm 1 rfl (.inr (.inl rfl)) rfl rfl) rfl)) rfl rfl rfl) ev_int) (nomark _ (by decide) (by decide))) (fun e => bd_seq1 (sd_asg (k := 6) nd rfl (.inl rfl) (Ev.cast (d' := dL eRP (someL zRP mine.length (mine.getD 0 0) ps)) (EvN.ev (evn_cat (EvN.l (evn_slice (Ev.l (ev_var (nm 3 rfl (.inr (.inl rfl)) rfl rfl) rfl)) ep_none (ep_some ev_int))) (EvN.l (evn_lc 7 _ _ _ rfl nd (ei_rng2 T.b_range ev_int (ev_lenL T.b_len (Ev.l (ev_var (nm 3 rfl (.inr (.inl rfl)) rfl rfl) rfl)) rfl rfl rfl) ?_ ?_ ?_ ?_ rfl rfl rfl rfl rfl) ?_ (blkOk_by (N := N_law_looks_good) (sc := defScope s_law_looks_good) (by decide +kernel)) (fun _ _ _ _ _ => pg_name nd rfl (.inl rfl) (.inr rfl)) (fun x hx s H C cl fp => ets_one (et_cmp (ec_eqI (ev_mod (ev_intI T.b_int (ev_add (ev_var (nm 7 rfl (.inl rfl) rfl rfl) rfl) (ev_ixG (0 : Int) (Ev.l (ev_var (nm 1 rfl (.inr (.inl rfl)) rfl rfl) rfl)) ev_int ?_ ?_ (fun _ _ => rfl))) rfl rfl rfl) ev_int ?_) ev_int) (nomark _ (by decide) (by decide)))) (fun x hx hcx s H C cl fp => (ev_ixG zRP (Ev.l (ev_var (nm 3 rfl (.inr (.inl rfl)) rfl rfl) rfl)) (ev_var (nm 7 rfl (.inl rfl) rfl rfl) rfl) ?_ ?_ (fun _ _ => rfl))) (fun _ => rfl))) ?_)) ?_) rfl rfl (.inl rfl)) (bd_nil (by repeat (first | exact Wk.nil | refine Wk.any ?_ | refine Wk.same ?_ | refine Wk.frz ?_)))) (fun e => bd_nil ?_) ?_
  · decide
  · decide
  · omega
  · omega
  · rw [List.length_range]
    omega
  · decide
  · have := of_decide_eq_true e
    omega
  · decide
  · omega
  · have := List.mem_range.mp hx
    omega
  · rw [cut_pre _ (by decide), List.length_take, List.length_map, List.length_map]
    have := List.length_filter_le (fun k : Nat => decide ((1 + (k : Int) + mine.getD (0 : Int).toNat 0) % 3 = 0)) (List.range ((ps.length : Int) - 1).toNat)
    rw [List.length_range] at this
    omega
  · have e1 : 12 < mine.length := by
      have := of_decide_eq_true e
      omega
    have e2 : ((ps.length : Int) - 1).toNat = ps.length - 1 := by omega
    rw [someL, if_pos e1, dL, List.map_append, cut_map, cut_pre _ (by decide), e2, List.map_map]
    refine congrArg D.lst (congrArg _ (List.map_congr_left fun k hk => ?_))
    show eRP (ps.getD (1 + (k : Int)).toNat zRP) = eRP (ps.getD (k + 1) zRP)
    have e3 : (1 + (k : Int)).toNat = k + 1 := by omega
    rw [e3]
  · have e1 : ¬ 12 < mine.length := by
      have := of_decide_eq_false e
      omega
    rw [someL, if_neg e1]
    exact (by repeat (first | exact Wk.nil | refine Wk.any ?_ | refine Wk.same ?_ | refine Wk.frz ?_))
  refine bd_for 8 (fun i => [.val (.int 1), .val (lI mine), .val (lI theirs), .any, .val (lI (heightsL mine theirs)), .val (dL lI [levelsL mine theirs 1, levelsL mine theirs 0]), .val (dL eRP (someL zRP mine.length (mine.getD 0 0) ps)), .any, .any, .any]) (fun _ => True) PassesOwn.never rfl nd rfl (.inl rfl) (by repeat (first | exact Wk.nil | refine Wk.any ?_ | refine Wk.same ?_ | refine Wk.frz ?_)) (ei_list (ev_var (nm 6 rfl (.inl rfl) rfl rfl) rfl)) trivial ?_ ?_ (.inl rfl) (fun _ => rfl)
  · intro i d hd _
    rw [List.getElem?_map] at hd
    obtain ⟨p, hpi, rfl⟩ := Option.map_eq_some_iff.mp hd
    have hok := hps p (someL_mem p (List.mem_of_getElem? hpi))
    refine bd_if [.val (.int 1), .val (lI mine), .val (lI theirs), .any, .val (lI (heightsL mine theirs)), .val (dL lI [levelsL mine theirs 1, levelsL mine theirs 0]), .val (dL eRP (someL zRP mine.length (mine.getD 0 0) ps)), .any, .val (eRP p), .val (.bl (showsRow mine theirs p.row p.mates))] (et_cmp (ec_eqI (ev_var (nm 0 rfl (.inl rfl) rfl rfl) rfl) ev_int) (nomark _ (by decide) (by decide))) (fun e => ?_) (fun e => ?_) ?_
    · exact absurd e (by decide)
    · exact bd_if [.val (.int 1), .val (lI mine), .val (lI theirs), .any, .val (lI (heightsL mine theirs)), .val (dL lI [levelsL mine theirs 1, levelsL mine theirs 0]), .val (dL eRP (someL zRP mine.length (mine.getD 0 0) ps)), .any, .val (eRP p), .val (.bl (showsRow mine theirs p.row p.mates))] (et_cmp (ec_eqI (ev_var (nm 0 rfl (.inl rfl) rfl rfl) rfl) ev_int) (nomark _ (by decide) (by decide))) (fun e => bd_seq1 (sd_asg (k := 9) nd rfl (.inl rfl) (ev_call (c_law_row_right T h h1) (hr.mono (by decide)) (ea_cons (ev_var (nm 5 rfl (.inl rfl) rfl rfl) rfl) (ea_cons (ev_ixT (ev_var (nm 8 rfl (.inl rfl) rfl rfl) rfl) ev_int rfl (fun _ _ => rfl)) (ea_cons (ev_ixT (ev_var (nm 8 rfl (.inl rfl) rfl rfl) rfl) ev_int rfl (fun _ _ => rfl)) ea_nil rfl) rfl) rfl) rfl (by decide) rfl rfl) rfl rfl (.inl rfl)) (bd_nil (by repeat (first | exact Wk.nil | refine Wk.any ?_ | refine Wk.same ?_ | refine Wk.frz ?_)))) (fun e => absurd e (by decide)) (bd_nil (by repeat (first | exact Wk.nil | refine Wk.any ?_ | refine Wk.same ?_ | refine Wk.frz ?_)))
    · refine bd_ifRet (et_not (et_ev (ev_call (c_law_look_good1 T h h1 p hok) (hr.mono (by decide)) (ea_cons (ev_var (nm 0 rfl (.inl rfl) rfl rfl) rfl) (ea_cons (ev_var (nm 1 rfl (.inr (.inl rfl)) rfl rfl) rfl) (ea_cons (ev_var (nm 2 rfl (.inl rfl) rfl rfl) rfl) (ea_cons (ev_var (nm 8 rfl (.inl rfl) rfl rfl) rfl) (ea_cons (ev_var (nm 9 rfl (.inl rfl) rfl rfl) rfl) ea_nil rfl) rfl) rfl) rfl) rfl) rfl (by decide) rfl rfl) (fun _ => rfl))) (fun e => nomatch e) fun _ => bd_nil ⟨(by repeat (first | exact Wk.nil | refine Wk.any ?_ | refine Wk.same ?_ | refine Wk.frz ?_)), trivial⟩
  · intro _
    refine bd_one (sd_ret ev_bl ?_)
    rfl
theorem c_law_look_good2 (T : Tx K mg) {mine theirs : List Int} (h : mine.length = theirs.length) (h1 : mine.length ≤ 1000) (p : ValP) (hp : okVP p) : Cal P w K mg base 6 "_law_look_good" [.int 2, lI mine, lI theirs, eVP p, .bl (lookValue mine theirs p)] (.bl true) := by
  refine cal_of T.d_law_look_good sc_law_look_good (fun _ _ _ _ _ _ us hl => match us, hl with | [_, _, _, _, _], _ => rfl) rfl fun Y hr => ?_
  have nd := sc_law_look_good.nd
  show Bd _ [.val _, .val _, .val _, .val _, .val _, .any, .any, .any, .any] _ _
  refine bd_seq1 (sd_asg (k := 5) nd rfl (.inl rfl) (EvN.ev (evn_list T.b_list (Ev.l (ev_var (nm 1 rfl (.inl rfl) rfl rfl) rfl)) rfl rfl rfl)) rfl rfl (.inl rfl)) (bd_seq1 (sd_asg (k := 6) nd rfl (.inl rfl) (EvN.ev (evn_list T.b_list (Ev.l (ev_var (nm 2 rfl (.inl rfl) rfl rfl) rfl)) rfl rfl rfl)) rfl rfl (.inl rfl)) (bd_seq1 (sd_asg (k := 7) nd rfl (.inl rfl) (Ev.cast (d' := eVP p) (ev_call (c_law_copy (ds := [dW p.tag, dW p.word, dW p.many, .int p.worth, lI p.row, lI p.mates]) T (part_VP p) (Nat.le_of_ble_eq_true rfl)) (hr.mono (by decide)) (ea_cons (ev_var (nm 3 rfl (.inl rfl) rfl rfl) rfl) ea_nil rfl) rfl (by decide) rfl rfl) ?_) rfl rfl (.inl rfl)) (bd_seq1 (sd_asg (k := 8) nd rfl (.inl rfl) ev_non rfl rfl (.inl rfl)) ?_)))
  · rfl
  refine bd_if [.any, .val (lI mine), .val (lI theirs), .val (eVP p), .val (.bl (lookValue mine theirs p)), .val (lI mine), .val (lI theirs), .val (eVP p), .val (.bl (lookValue mine theirs p))] (et_cmp (ec_eqI (ev_var (nm 0 rfl (.inl rfl) rfl rfl) rfl) ev_int) (nomark _ (by decide) (by decide))) (fun e => ?_) (fun e => ?_) (bd_one (sd_ret (ev_and (ev_isi "bool" (r := true) T.b_isinstance (ev_var (nm 8 rfl (.inl rfl) rfl rfl) rfl) T.b_bool (by decide +kernel) (show kitB "bool" "bool" = some true by decide +kernel) rfl rfl rfl rfl rfl rfl (by decide) (by decide)) fun hb0 => (ev_and (ev_cmp (ec_eqB (ev_var (nm 8 rfl (.inl rfl) rfl rfl) rfl) (ev_var (nm 4 rfl (.inl rfl) rfl rfl) rfl)) (nomark _ (by decide) (by decide))) fun hb1 => (ev_and (ev_cmp (ec_eqLI hr.units (ev_var (nm 5 rfl (.inl rfl) rfl rfl) rfl) (ev_var (nm 1 rfl (.inl rfl) rfl rfl) rfl)) (nomark _ (by decide) (by decide))) fun hb2 => (ev_and (ev_cmp (ec_eqLI hr.units (ev_var (nm 6 rfl (.inl rfl) rfl rfl) rfl) (ev_var (nm 2 rfl (.inl rfl) rfl rfl) rfl)) (nomark _ (by decide) (by decide))) fun hb3 => (ev_and1 (ev_cmp (ec_eqD hr.units ?_ ?_ (ev_var (nm 7 rfl (.inl rfl) rfl rfl) rfl) (ev_var (nm 3 rfl (.inl rfl) rfl rfl) rfl)) (nomark _ (by decide) (by decide)))))))) ?_))
  · exact absurd e (by decide)
  · exact bd_if [.any, .val (lI mine), .val (lI theirs), .val (eVP p), .val (.bl (lookValue mine theirs p)), .val (lI mine), .val (lI theirs), .val (eVP p), .val (.bl (lookValue mine theirs p))] (et_cmp (ec_eqI (ev_var (nm 0 rfl (.inl rfl) rfl rfl) rfl) ev_int) (nomark _ (by decide) (by decide))) (fun e => absurd e (by decide)) (fun e => bd_seq1 (sd_asg (k := 8) nd rfl (.inl rfl) (ev_call (c_look_value T h h1 p hp.2.2.2.2 hp.2.2.2.1) (hr.mono (by decide)) (ea_cons (ev_var (nm 5 rfl (.inl rfl) rfl rfl) rfl) (ea_cons (ev_var (nm 6 rfl (.inl rfl) rfl rfl) rfl) (ea_cons (ev_var (nm 7 rfl (.inl rfl) rfl rfl) rfl) ea_nil rfl) rfl) rfl) rfl (by decide) rfl rfl) rfl rfl (.inl rfl)) (bd_nil (by repeat (first | exact Wk.nil | refine Wk.any ?_ | refine Wk.same ?_ | refine Wk.frz ?_)))) (bd_nil (by repeat (first | exact Wk.nil | refine Wk.any ?_ | refine Wk.same ?_ | refine Wk.frz ?_)))
  · exact fine_VP hp.1 hp.2.1 hp.2.2.1
  · exact fine_VP hp.1 hp.2.1 hp.2.2.1
  · show D.bl _ = D.bl _
    rw [eqD_refl (k := 60) (fine_VP hp.1 hp.2.1 hp.2.2.1)]
    simp
theorem c_law_looks_good2 (T : Tx K mg) {mine theirs : List Int} (h : mine.length = theirs.length) (h1 : mine.length ≤ 1000) {ps : List ValP} (hps : ∀ p ∈ ps, okVP p) (hl : ps.length ≤ 100000) : Cal P w K mg base 7 "_law_looks_good" [.int 2, lI mine, lI theirs, dL eVP ps] (.bl true) := by
  have h2 : theirs.length ≤ 1000 := by omega
  refine cal_of T.d_law_looks_good sc_law_looks_good (fun _ _ _ _ _ _ us hl => match us, hl with | [_, _, _, _], _ => rfl) rfl fun Y hr => ?_
  have nd := sc_law_looks_good.nd
  show Bd _ [.val _, .val _, .val _, .val _, .any, .any, .any, .any, .any, .any] _ _
  refine bd_seq1 (sd_asg (k := 4) nd rfl (.inl rfl) (ev_call (c_law_walk T h1 h2) (hr.mono (by decide)) (ea_cons (ev_var (nm 1 rfl (.inr (.inl rfl)) rfl rfl) rfl) (ea_cons (ev_var (nm 2 rfl (.inl rfl) rfl rfl) rfl) ea_nil rfl) rfl) rfl (by decide) rfl rfl) rfl rfl (.inl rfl)) (bd_seq1 (sd_asg (k := 5) nd rfl (.inl rfl) (ev_call (c_law_levels T h h1) (hr.mono (by decide)) (ea_cons (ev_var (nm 1 rfl (.inr (.inl rfl)) rfl rfl) rfl) (ea_cons (ev_var (nm 2 rfl (.inl rfl) rfl rfl) rfl) ea_nil rfl) rfl) rfl (by decide) rfl rfl) rfl rfl (.inl rfl)) (bd_seq1 (sd_asg (k := 6) nd rfl (.inl rfl) (ev_var (nm 3 rfl (.inr (.inl rfl)) rfl rfl) rfl) rfl rfl (.inl rfl)) ?_))
  refine bd_if [.val (.int 2), .val (lI mine), .val (lI theirs), .any, .val (lI (heightsL mine theirs)), .val (dL lI [levelsL mine theirs 1, levelsL mine theirs 0]), .val (dL eVP (someL zVP mine.length (mine.getD 0 0) ps)), .any, .any, .any] (et_cmp (ec_gt (ev_lenL T.b_len (Ev.l (ev_var (nm 1 rfl (.inr (.inl rfl)) rfl rfl) rfl)) rfl rfl rfl) ev_int) (nomark _ (by decide) (by decide))) (fun e => bd_seq1 (sd_asg (k := 6) nd rfl (.inl rfl) (Ev.cast (d' := dL eVP (someL zVP mine.length (mine.getD 0 0) ps)) (EvN.ev (evn_cat (EvN.l (evn_slice (Ev.l (ev_var (nm 3 rfl (.inr (.inl rfl)) rfl rfl) rfl)) ep_none (ep_some ev_int))) (EvN.l (evn_lc 7 _ _ _ rfl nd (ei_rng2 T.b_range ev_int (ev_lenL T.b_len (Ev.l (ev_var (nm 3 rfl (.inr (.inl rfl)) rfl rfl) rfl)) rfl rfl rfl) ?_ ?_ ?_ ?_ rfl rfl rfl rfl rfl) ?_ (blkOk_by (N := N_law_looks_good) (sc := defScope s_law_looks_good) (by decide +kernel)) (fun _ _ _ _ _ => pg_name nd rfl (.inl rfl) (.inr rfl)) (fun x hx s H C cl fp => ets_one (et_cmp (ec_eqI (ev_mod (ev_intI T.b_int (ev_add (ev_var (nm 7 rfl (.inl rfl) rfl rfl) rfl) (ev_ixG (0 : Int) (Ev.l (ev_var (nm 1 rfl (.inr (.inl rfl)) rfl rfl) rfl)) ev_int ?_ ?_ (fun _ _ => rfl))) rfl rfl rfl) ev_int ?_) ev_int) (nomark _ (by decide) (by decide)))) (fun x hx hcx s H C cl fp => (ev_ixG zVP (Ev.l (ev_var (nm 3 rfl (.inr (.inl rfl)) rfl rfl) rfl)) (ev_var (nm 7 rfl (.inl rfl) rfl rfl) rfl) ?_ ?_ (fun _ _ => rfl))) (fun _ => rfl))) ?_)) ?_) rfl rfl (.inl rfl)) (bd_nil (by repeat (first | exact Wk.nil | refine Wk.any ?_ | refine Wk.same ?_ | refine Wk.frz ?_)))) (fun e => bd_nil ?_) ?_
  · decide
  · decide
  · omega
  · omega
  · rw [List.length_range]
    omega
  · decide
  · have := of_decide_eq_true e
    omega
  · decide
  · omega
  · have := List.mem_range.mp hx
    omega
  · rw [cut_pre _ (by decide), List.length_take, List.length_map, List.length_map]
    have := List.length_filter_le (fun k : Nat => decide ((1 + (k : Int) + mine.getD (0 : Int).toNat 0) % 3 = 0)) (List.range ((ps.length : Int) - 1).toNat)
    rw [List.length_range] at this
    omega
  · have e1 : 12 < mine.length := by
      have := of_decide_eq_true e
      omega
    have e2 : ((ps.length : Int) - 1).toNat = ps.length - 1 := by omega
    rw [someL, if_pos e1, dL, List.map_append, cut_map, cut_pre _ (by decide), e2, List.map_map]
    refine congrArg D.lst (congrArg _ (List.map_congr_left fun k hk => ?_))
    show eVP (ps.getD (1 + (k : Int)).toNat zVP) = eVP (ps.getD (k + 1) zVP)
    have e3 : (1 + (k : Int)).toNat = k + 1 := by omega
    rw [e3]
  · have e1 : ¬ 12 < mine.length := by
      have := of_decide_eq_false e
      omega
    rw [someL, if_neg e1]
    exact (by repeat (first | exact Wk.nil | refine Wk.any ?_ | refine Wk.same ?_ | refine Wk.frz ?_))
  refine bd_for 8 (fun i => [.val (.int 2), .val (lI mine), .val (lI theirs), .any, .val (lI (heightsL mine theirs)), .val (dL lI [levelsL mine theirs 1, levelsL mine theirs 0]), .val (dL eVP (someL zVP mine.length (mine.getD 0 0) ps)), .any, .any, .any]) (fun _ => True) PassesOwn.never rfl nd rfl (.inl rfl) (by repeat (first | exact Wk.nil | refine Wk.any ?_ | refine Wk.same ?_ | refine Wk.frz ?_)) (ei_list (ev_var (nm 6 rfl (.inl rfl) rfl rfl) rfl)) trivial ?_ ?_ (.inl rfl) (fun _ => rfl)
  · intro i d hd _
    rw [List.getElem?_map] at hd
    obtain ⟨p, hpi, rfl⟩ := Option.map_eq_some_iff.mp hd
    have hok := hps p (someL_mem p (List.mem_of_getElem? hpi))
    refine bd_if [.val (.int 2), .val (lI mine), .val (lI theirs), .any, .val (lI (heightsL mine theirs)), .val (dL lI [levelsL mine theirs 1, levelsL mine theirs 0]), .val (dL eVP (someL zVP mine.length (mine.getD 0 0) ps)), .any, .val (eVP p), .val (.bl (lookValue mine theirs p))] (et_cmp (ec_eqI (ev_var (nm 0 rfl (.inl rfl) rfl rfl) rfl) ev_int) (nomark _ (by decide) (by decide))) (fun e => ?_) (fun e => ?_) ?_
    · exact absurd e (by decide)
    · exact bd_if [.val (.int 2), .val (lI mine), .val (lI theirs), .any, .val (lI (heightsL mine theirs)), .val (dL lI [levelsL mine theirs 1, levelsL mine theirs 0]), .val (dL eVP (someL zVP mine.length (mine.getD 0 0) ps)), .any, .val (eVP p), .val (.bl (lookValue mine theirs p))] (et_cmp (ec_eqI (ev_var (nm 0 rfl (.inl rfl) rfl rfl) rfl) ev_int) (nomark _ (by decide) (by decide))) (fun e => absurd e (by decide)) (fun e => bd_seq1 (sd_asg (k := 9) nd rfl (.inl rfl) (ev_call (c_law_value_right T h h1 p hok.2.2.2.1) (hr.mono (by decide)) (ea_cons (ev_var (nm 5 rfl (.inl rfl) rfl rfl) rfl) (ea_cons (ev_var (nm 8 rfl (.inl rfl) rfl rfl) rfl) ea_nil rfl) rfl) rfl (by decide) rfl rfl) rfl rfl (.inl rfl)) (bd_nil (by repeat (first | exact Wk.nil | refine Wk.any ?_ | refine Wk.same ?_ | refine Wk.frz ?_)))) (bd_nil (by repeat (first | exact Wk.nil | refine Wk.any ?_ | refine Wk.same ?_ | refine Wk.frz ?_)))
    · refine bd_ifRet (et_not (et_ev (ev_call (c_law_look_good2 T h h1 p hok) (hr.mono (by decide)) (ea_cons (ev_var (nm 0 rfl (.inl rfl) rfl rfl) rfl) (ea_cons (ev_var (nm 1 rfl (.inr (.inl rfl)) rfl rfl) rfl) (ea_cons (ev_var (nm 2 rfl (.inl rfl) rfl rfl) rfl) (ea_cons (ev_var (nm 8 rfl (.inl rfl) rfl rfl) rfl) (ea_cons (ev_var (nm 9 rfl (.inl rfl) rfl rfl) rfl) ea_nil rfl) rfl) rfl) rfl) rfl) rfl (by decide) rfl rfl) (fun _ => rfl))) (fun e => nomatch e) fun _ => bd_nil ⟨(by repeat (first | exact Wk.nil | refine Wk.any ?_ | refine Wk.same ?_ | refine Wk.frz ?_)), trivial⟩
  · intro _
    refine bd_one (sd_ret ev_bl ?_)
    rfl
end
end Y
end S_F14

section S_F15
set_option maxHeartbeats 2000000
namespace Y
open PySem PySem.Spec PyProof.Rows L2
section
variable {X : Cx} {ρ ρ' : Rho} {e a b c tg : Expr} {d d0 d1 d2 : D} {ds ds1 ds2 : List D} {pos p apos pos' : Pos} {i j : Int} {x y : Str} {st : Stmt} {rest body : List Stmt} {P : Post}
theorem et_chain2 {k : Int} (ha : Ev X ρ a (.int i)) (hb : Ev X ρ b (.int j)) (hc : Ev X ρ c (.int k)) (hm : lastMarks [.LtE, .LtE] [b, c] = false := by with_unfolding_all rfl) : EvT X ρ (.Compare a [.LtE, .LtE] [b, c] pos) (decide (i ≤ j) && decide (j ≤ k)) := fun σ HB H he Q q =>
  ⟨_, pt_chain op_le op_le pe_wp pe_wp pe_wp hm, two he ha hb fun v u HB2 H2 x r1 r2 => ⟨i, j, r1.ofInt, r2.ofInt, _, rfl, by
    by_cases h : i ≤ j
    · rw [decide_eq_true h]
      refine iteT (hc σ HB2 H2 (he.step x) _ fun w HB3 H3 x3 r3 => ⟨j, k, r2.ofInt, r3.ofInt, _, rfl, ?_⟩)
      have := q HB3 H3 (x.trans x3)
      rw [decide_eq_true h, Bool.true_and] at this
      exact this
    · rw [decide_eq_false h]
      refine iteF ⟨_, rfl, ?_⟩
      have := q HB2 H2 x
      rw [decide_eq_false h, Bool.false_and] at this
      exact this⟩⟩
theorem bd_ifM {A B : List Stmt} {k : Bool} (M : Rho → Prop) (hc : EvT X ρ c k) (h1 : k = true → Bd X ρ A ⟨fun r => ∃ r', Wk r r' ∧ M r', P.rt⟩) (h2 : k = false → Bd X ρ B ⟨fun r => ∃ r', Wk r r' ∧ M r', P.rt⟩) (hr : ∀ r, M r → Bd X r rest P) : Bd X ρ (.If c A B pos :: rest) P :=
  bd_seq (M := M) (sd_if hc (fun e => bd_post (h1 e)) (fun e => bd_post (h2 e))) hr
/-- for x in iter, I an invariant -/
theorem bd_forI {iter : Expr} (k : Nat) (I : Nat → Rho → Prop) (hp : PassesOwn (model X.prog X.w) X.A X.env X.xe) (hc : X.calm = true) (hN : X.N.Nodup) (hk : X.N[k]? = some x) (hx : Loc X.env.scope x)
    (hi : EvI X ρ (.Name x pos') iter ds) (h0 : ∃ r', Wk ρ r' ∧ I 0 r') (ht : ∀ i d r, ds[i]? = some d → I i r → Bd X (r.set k (.val d)) body ⟨fun r => ∃ r', Wk r r' ∧ I (i + 1) r', P.rt⟩) (hd : ∀ r, I ds.length r → Bd X r rest P)
    (hi2 : ∀ r', Wk ρ r' → I 0 r' → EvI X r' (.Name x pos') iter ds)
    (hf : X.fn x = true ∨ X.env.scope.names.lookup x = some .local := by first | exact .inl rfl | exact .inr rfl | assumption) (hs : ∀ x, foldedSetIterable iter X.env x = pure x := by intro _; rfl) : Bd X ρ (.For (.Name x pos') iter body [] pos :: rest) P := by
  obtain ⟨r', w, h0⟩ := h0
  refine bd_wk w ?_
  exact bd_seq (M := fun r => I ds.length r) (sd_forN (k := k) I hp hc (hi2 r' w h0) hN hk hx h0 (fun i ρ' d hd hI => bd_post (ht i d ρ' hd hI)) (fun r h => h) hf hs) hd
end
theorem nth_of {xs : List Int} {k : Nat} {v : Int} (h : k < xs.length) (e : xs.getD k 0 = v) : xs[k]? = some v := by
  rw [List.getD_eq_getElem?_getD, List.getElem?_eq_getElem h] at e
  rw [List.getElem?_eq_getElem h]
  exact congrArg some e
theorem first_no {walk : List Int} {v : Int} (h : v ∈ walk) : walk[firstAt walk v]? = some v ∧ ∀ m, m < firstAt walk v → walk[m]? ≠ some v := by
  obtain ⟨f1, f2, f3⟩ := first_spec h
  exact ⟨nth_of f1 f2, fun m hm e => f3 m hm (getD_of e)⟩
abbrev wSpan : List Nat := [115, 112, 97, 110]
def spanP (mine theirs : List Int) : SpanP := ⟨wSpan, leastL mine theirs, (firstAt (heightsL mine theirs) (maxL (heightsL mine theirs)) : Nat), rotL mine theirs (leastL mine theirs), mostL mine theirs, (firstAt (heightsL mine theirs) (minL (heightsL mine theirs)) : Nat), rotL mine theirs (mostL mine theirs)⟩
theorem okSP_of {p : SpanP} (h1 : p.tag = wSpan) (h2 : p.loL.length ≤ 1000) (h3 : p.hiL.length ≤ 1000) : okSP p := ⟨by rw [h1]; unfold asc; decide, h2, h3⟩
theorem span_bad {mine theirs : List Int} {p : SpanP} (h : p.loL.length ≠ mine.length) : lookSpan mine theirs p = false := by
  unfold lookSpan
  rw [decide_eq_false (show ¬ isP p.loL mine.length from fun z => h z.2)]
  simp only [Bool.false_and]
theorem lI_inj {xs ys : List Int} (h : lI xs = lI ys) : xs = ys := by
  have e1 : xs.map D.int = ys.map D.int := by
    injection h
  have := congrArg (List.map fun d : D => match d with | .int i => i | _ => 0) e1
  simpa [Function.comp_def] using this
section
variable {P : Program} {w : World} {K : PySem.W.Frag} {mg : Str → Option Value} {base : Heap}
theorem c_form_SP (T : Tx K mg) (p : SpanP) (h1 : p.loL.length ≤ 100000) (h2 : p.hiL.length ≤ 100000) : Cal P w K mg base 3 "_law_form_good" [eSP p, dW [115, 105, 105, 108, 105, 105, 108]] (.bl true) :=
  c_law_form_good T (.s (.i (.i (.l (.i (.i (.l .nil))))))) (by decide) fun ns hn => by
    simp only [List.mem_cons, List.not_mem_nil, or_false] at hn
    rcases hn with e | e | e | e | e | e | e
    · cases e
    · cases e
    · cases e
    · rw [lI_inj e]
      exact h1
    · cases e
    · cases e
    · rw [lI_inj e]
      exact h2
theorem c_look_goodT0 (T : Tx K mg) {mine theirs : List Int} (h : mine.length = theirs.length) (h1 : mine.length ≤ 1000) (p : SpanP) (hp : okSP p) (hv : lookSpan mine theirs p = true) : Cal P w K mg base 6 "_law_look_good" [.int 0, lI mine, lI theirs, eSP p, .bl true] (.bl true) := by
  rw [← hv]
  have := c_law_look_good0 (P := P) (w := w) (base := base) T h h1 p hp
  rw [hv] at this ⊢
  exact this
theorem c_near_SP (T : Tx K mg) {α : Type} {f : α → D} {p : SpanP} {k : Nat} (g : α → SpanP) (xs : List α) (he : ∀ x, D.tup (([dW p.tag, .int p.lo, .int p.loP, lI p.loL, .int p.hi, .int p.hiP, lI p.hiL] : List D).set k (f x)) = eSP (g x)) (hk : k < 7) (h1 : xs.length ≤ 100000) : Cal P w K mg base 1 "_law_near" [eSP p, .int (k : Int), dL f xs] (dL eSP (xs.map g)) := by
  have h := c_law_near (P := P) (w := w) (base := base) T (f := f) (xs := xs) (ds := [dW p.tag, .int p.lo, .int p.loP, lI p.loL, .int p.hi, .int p.hiP, lI p.hiL]) (k := k) h1 (Nat.le_of_ble_eq_true rfl) hk
  have e : dL (fun x => D.tup (([dW p.tag, .int p.lo, .int p.loP, lI p.loL, .int p.hi, .int p.hiP, lI p.hiL] : List D).set k (f x))) xs = dL eSP (xs.map g) := by
    unfold dL
    rw [List.map_map]
    exact congrArg D.lst (List.map_congr_left fun x _ => he x)
  rw [e] at h
  exact h
theorem near_ok {α : Type} {g : α → SpanP} {xs : List α} (h : ∀ x ∈ xs, okSP (g x)) : ∀ p ∈ xs.map g, okSP p := fun p hp => by
  obtain ⟨x, hx, rfl⟩ := List.mem_map.mp hp
  exact h x hx
def newI (x : Int) (n : Nat) : List Int := [x + 1, x - 1, 0 - x, x + n, x - n, big]
theorem c_law_spans_good (T : Tx K mg) {mine theirs drawn more : List Int} (h : mine.length = theirs.length) (h1 : mine.length ≤ 300) (hd1 : drawn.length = mine.length) (hd2 : ∀ x ∈ drawn, 0 ≤ x ∧ x < (mine.length : Int)) (hm : 2 ≤ more.length ∧ more.length ≤ 100) (hm2 : ∀ i, i < 2 → 0 ≤ more.getD i 0 ∧ more.getD i 0 < max 1 (mine.length : Int)) : Cal P w K mg base 8 "_law_spans_good" [lI mine, lI theirs, lI drawn, lI more] (.bl true) := by
  have h1' : mine.length ≤ 1000 := by omega
  have h2 : theirs.length ≤ 1000 := by omega
  have h1s := h1
  replace h1 : mine.length ≤ 1000 := h1'
  obtain ⟨a0, a1⟩ := least_in h
  obtain ⟨b0, b1⟩ := most_in h
  obtain ⟨f1, f2⟩ := first_no (maxL_mem (heights_pos mine theirs))
  obtain ⟨g1, g2⟩ := first_no (minL_mem (heights_pos mine theirs))
  have hlen := heights_len mine theirs
  refine cal_of T.d_law_spans_good sc_law_spans_good (fun _ _ _ _ _ _ us hl => match us, hl with | [_, _, _, _], _ => rfl) rfl fun Y hr => ?_
  have nd := sc_law_spans_good.nd
  show Bd _ [.val _, .val _, .val _, .val _, .any, .any, .any, .any, .any, .any, .any, .any, .any, .any, .any, .any, .any, .any, .any] _ _
  refine bd_seq1 (sd_asg (k := 4) nd rfl (.inl rfl) (ev_lenL T.b_len (Ev.l (ev_var (nm 0 rfl (.inl rfl) rfl rfl) rfl)) rfl rfl rfl) rfl rfl (.inl rfl)) (bd_seq1 (sd_asg (k := 5) nd rfl (.inl rfl) (ev_call (c_law_walk T h1 h2) (hr.mono (by decide)) (ea_cons (ev_var (nm 0 rfl (.inl rfl) rfl rfl) rfl) (ea_cons (ev_var (nm 1 rfl (.inl rfl) rfl rfl) rfl) ea_nil rfl) rfl) rfl (by decide) rfl rfl) rfl rfl (.inl rfl)) (bd_seq1 (sd_asg (k := 6) nd rfl (.inl rfl) (ev_call (c_law_least T h1 h2) (hr.mono (by decide)) (ea_cons (ev_var (nm 0 rfl (.inl rfl) rfl rfl) rfl) (ea_cons (ev_var (nm 1 rfl (.inl rfl) rfl rfl) rfl) ea_nil rfl) rfl) rfl (by decide) rfl rfl) rfl rfl (.inl rfl)) (bd_seq1 (sd_asg (k := 7) nd rfl (.inl rfl) (ev_call (c_law_most T h1 h2) (hr.mono (by decide)) (ea_cons (ev_var (nm 0 rfl (.inl rfl) rfl rfl) rfl) (ea_cons (ev_var (nm 1 rfl (.inl rfl) rfl rfl) rfl) ea_nil rfl) rfl) rfl (by decide) rfl rfl) rfl rfl (.inl rfl)) ?_)))
  refine bd_seq1 (sd_asg (k := 8) nd rfl (.inl rfl) (ev_tup (ea_cons (ev_strW [115, 112, 97, 110]) (ea_cons (ev_var (nm 6 rfl (.inl rfl) rfl rfl) rfl) (ea_cons (ev_index (j := firstAt (heightsL mine theirs) (maxL (heightsL mine theirs))) (Ev.l (ev_var (nm 5 rfl (.inl rfl) rfl rfl) rfl)) (ev_maxL rfl T.b_max (Ev.l (ev_var (nm 5 rfl (.inl rfl) rfl rfl) rfl)) ?_ rfl rfl rfl) ?_ ?_ rfl rfl rfl rfl rfl) (ea_cons (ev_call (c_law_rotation T h h1 a0 a1) (hr.mono (by decide)) (ea_cons (ev_var (nm 0 rfl (.inl rfl) rfl rfl) rfl) (ea_cons (ev_var (nm 1 rfl (.inl rfl) rfl rfl) rfl) (ea_cons (ev_var (nm 6 rfl (.inl rfl) rfl rfl) rfl) ea_nil rfl) rfl) rfl) rfl (by decide) rfl rfl) ea_nil rfl) rfl) rfl) rfl) (Nat.le_of_ble_eq_true rfl)) rfl rfl (.inl rfl)) ?_
  · omega
  · exact f1
  · exact f2
  refine bd_seq1 (sd_asg (k := 8) nd rfl (.inl rfl) (Ev.cast (d' := eSP (spanP mine theirs)) (ev_catT (ev_var (nm 8 rfl (.inl rfl) rfl rfl) rfl) (ev_tup (ea_cons (ev_var (nm 7 rfl (.inl rfl) rfl rfl) rfl) (ea_cons (ev_index (j := firstAt (heightsL mine theirs) (minL (heightsL mine theirs))) (Ev.l (ev_var (nm 5 rfl (.inl rfl) rfl rfl) rfl)) (ev_minL rfl T.b_min (Ev.l (ev_var (nm 5 rfl (.inl rfl) rfl rfl) rfl)) ?_ rfl rfl rfl) ?_ ?_ rfl rfl rfl rfl rfl) (ea_cons (ev_call (c_law_rotation T h h1 b0 b1) (hr.mono (by decide)) (ea_cons (ev_var (nm 0 rfl (.inl rfl) rfl rfl) rfl) (ea_cons (ev_var (nm 1 rfl (.inl rfl) rfl rfl) rfl) (ea_cons (ev_var (nm 7 rfl (.inl rfl) rfl rfl) rfl) ea_nil rfl) rfl) rfl) rfl (by decide) rfl rfl) ea_nil rfl) rfl) rfl) (Nat.le_of_ble_eq_true rfl)) ?_) ?_) rfl rfl (.inl rfl)) ?_
  · omega
  · exact g1
  · exact g2
  · exact Nat.le_of_ble_eq_true rfl
  · rfl
  refine bd_seq1 (sd_asg (k := 9) nd rfl (.inl rfl) (EvN.ev (evn_list T.b_list (Ev.l (ev_var (nm 0 rfl (.inl rfl) rfl rfl) rfl)) rfl rfl rfl)) rfl rfl (.inl rfl)) (bd_seq1 (sd_asg (k := 10) nd rfl (.inl rfl) (EvN.ev (evn_list T.b_list (Ev.l (ev_var (nm 1 rfl (.inl rfl) rfl rfl) rfl)) rfl rfl rfl)) rfl rfl (.inl rfl)) ?_)
  refine bd_for 11 (fun _ => [.val (lI mine), .val (lI theirs), .val (lI drawn), .val (lI more), .val (.int (mine.length : Int)), .val (lI (heightsL mine theirs)), .any, .any, .val (eSP (spanP mine theirs)), .val (lI mine), .val (lI theirs), .any, .any, .any, .any, .any, .any, .any, .any]) (fun _ => True) PassesOwn.never rfl nd rfl (.inl rfl) (by repeat (first | exact Wk.nil | refine Wk.any ?_ | refine Wk.same ?_ | refine Wk.frz ?_)) (ei_rng1 T.b_range ev_int ?_ ?_ rfl rfl rfl) trivial ?_ ?_ (.inl rfl) (fun _ => rfl)
  · decide
  · decide
  · intro i d hd _
    have hok : okSP (spanP mine theirs) := okSP_of rfl (by show (rotL _ _ _).length ≤ _; rw [rotL_len]; omega) (by show (rotL _ _ _).length ≤ _; rw [rotL_len]; omega)
    refine bd_gd ?_
    refine gd_seq (M := fun r E' => ∃ v, PapX K E' v (spanN mine theirs) ∧ r = [.val (lI mine), .val (lI theirs), .val (lI drawn), .val (lI more), .val (.int (mine.length : Int)), .val (lI (heightsL mine theirs)), .any, .any, .val (eSP (spanP mine theirs)), .val (lI mine), .val (lI theirs), .val (d), .raw (v), .any, .any, .any, .any, .any, .any]) (ge_pap (k := 12) (c_span_paper T h h1) (hr.mono (by decide)) (ea_cons (ev_var (nm 9 rfl (.inl rfl) rfl rfl) rfl) (ea_cons (ev_var (nm 10 rfl (.inl rfl) rfl rfl) rfl) ea_nil rfl) rfl) nd rfl (.inl rfl) (fun v E' hp => ⟨v, hp, rfl⟩) rfl (by decide) rfl rfl rfl (.inl rfl)) ?_
    rintro _ E ⟨v, hp, rfl⟩
    refine gd_ifRetP (ρ2 := [.val (lI mine), .val (lI theirs), .val (lI drawn), .val (lI more), .val (.int (mine.length : Int)), .val (lI (heightsL mine theirs)), .any, .any, .val (eSP (spanP mine theirs)), .val (lI mine), .val (lI theirs), .val (d), .val (eSP (spanP mine theirs)), .any, .any, .any, .any, .any, .any]) (by repeat (first | exact Pk.nil | refine Pk.same ?_ | refine Pk.raw (show Rp K E v (eSP (spanP mine theirs)) from hp.rp) ?_)) (EvT.cast (k' := false) (EvW.t (ew_or (et_not (et_ev (ev_call (c_form_SP T (spanP mine theirs) (by show (rotL _ _ _).length ≤ _; rw [rotL_len]; omega) (by show (rotL _ _ _).length ≤ _; rw [rotL_len]; omega)) (hr.mono (by decide)) (ea_cons (ev_var (nm 12 rfl (.inl rfl) rfl rfl) rfl) (ea_cons (ev_strW [115, 105, 105, 108, 105, 105, 108]) ea_nil rfl) rfl) rfl (by decide) rfl rfl) (fun _ => rfl))) fun hb0 => (ew_or (et_cmp (ec_neD hr.units ?_ ?_ (ev_var (nm 12 rfl (.inl rfl) rfl rfl) rfl) (ev_var (nm 8 rfl (.inl rfl) rfl rfl) rfl)) (nomark _ (by decide) (by decide))) fun hb1 => (ew_or (et_cmp (ec_neLI hr.units (ev_var (nm 9 rfl (.inl rfl) rfl rfl) rfl) (ev_var (nm 0 rfl (.inl rfl) rfl rfl) rfl)) (nomark _ (by decide) (by decide))) fun hb2 => (ew_or1 (et_cmp (ec_neLI hr.units (ev_var (nm 10 rfl (.inl rfl) rfl rfl) rfl) (ev_var (nm 1 rfl (.inl rfl) rfl rfl) rfl)) (nomark _ (by decide) (by decide)))))))) ?_) (fun e => nomatch e) fun _ => ?_
    · exact fine_SP hok.1
    · exact fine_SP hok.1
    · rw [eqD_refl (k := 60) (fine_SP hok.1)]
      simp
    refine gd_ifRetP (ρ2 := [.val (lI mine), .val (lI theirs), .val (lI drawn), .val (lI more), .val (.int (mine.length : Int)), .val (lI (heightsL mine theirs)), .any, .any, .val (eSP (spanP mine theirs)), .val (lI mine), .val (lI theirs), .val (d), .val (eSP (spanP mine theirs)), .any, .any, .any, .any, .any, .any]) (by repeat (first | exact Pk.nil | refine Pk.same ?_ | refine Pk.raw (show Rp K E v (eSP (spanP mine theirs)) from hp.rp) ?_)) (EvT.cast (k' := false) (et_not (et_ev (ev_call (c_look_goodT0 T h h1 (spanP mine theirs) hok (span_looks h _)) (hr.mono (by decide)) (ea_cons ev_int (ea_cons (ev_var (nm 0 rfl (.inl rfl) rfl rfl) rfl) (ea_cons (ev_var (nm 1 rfl (.inl rfl) rfl rfl) rfl) (ea_cons (ev_var (nm 12 rfl (.inl rfl) rfl rfl) rfl) (ea_cons ev_bl ea_nil rfl) rfl) rfl) rfl) rfl) rfl (by decide) rfl rfl) (fun _ => rfl))) rfl) (fun e => nomatch e) fun _ => ?_
    obtain ⟨q, hq, hE⟩ := hp.at (i := 3) (ns := rotL mine theirs (leastL mine theirs)) rfl
    refine gd_seq (M := fun r E' => E = E' ∧ r = [.val (lI mine), .val (lI theirs), .val (lI drawn), .val (lI more), .val (.int (mine.length : Int)), .val (lI (heightsL mine theirs)), .any, .any, .val (eSP (spanP mine theirs)), .val (lI mine), .val (lI theirs), .val (d), .raw (v), .raw (.ref q), .any, .any, .any, .any, .any]) (ge_item (k := 13) (kp := 12) (m := 3) nd rfl (.inl rfl) (nm 12 rfl (.inl rfl) rfl rfl) rfl hq ⟨rfl, rfl⟩ rfl (.inl rfl) (fun _ _ => rfl)) ?_
    rintro _ _ ⟨rfl, rfl⟩
    refine gd_seq (M := fun r E' => E' = upd E q (.lst ((rotL mine theirs (leastL mine theirs) ++ [0]).map V.int)) ∧ r = [.val (lI mine), .val (lI theirs), .val (lI drawn), .val (lI more), .val (.int (mine.length : Int)), .val (lI (heightsL mine theirs)), .any, .any, .val (eSP (spanP mine theirs)), .val (lI mine), .val (lI theirs), .val (d), .raw (v), .raw (.ref q), .any, .any, .any, .any, .any]) (ge_appE (k := 13) (nm 13 rfl (.inl rfl) rfl rfl) rfl hE ev_int (by rw [rotL_len]; omega) ⟨rfl, rfl⟩ rfl rfl rfl rfl rfl rfl) ?_
    rintro _ _ ⟨rfl, rfl⟩
    have hp2 := hp.set rfl hq hE (rotL mine theirs (leastL mine theirs) ++ [0])
    refine gd_ifRetP (ρ2 := [.val (lI mine), .val (lI theirs), .val (lI drawn), .val (lI more), .val (.int (mine.length : Int)), .val (lI (heightsL mine theirs)), .any, .any, .val (eSP (spanP mine theirs)), .val (lI mine), .val (lI theirs), .val (d), .val (eSP { spanP mine theirs with loL := rotL mine theirs (leastL mine theirs) ++ [0] }), .raw (.ref q), .any, .any, .any, .any, .any]) (by repeat (first | exact Pk.nil | refine Pk.same ?_ | refine Pk.raw (show Rp K _ v (eSP { spanP mine theirs with loL := rotL mine theirs (leastL mine theirs) ++ [0] }) from hp2.rp) ?_)) (EvT.cast (k' := false) (EvW.t (ew_or (et_cmp (ec_neLI hr.units (ev_ixT (ev_var (nm 12 rfl (.inl rfl) rfl rfl) rfl) ev_int rfl (fun _ _ => rfl)) (ev_ixT (ev_var (nm 8 rfl (.inl rfl) rfl rfl) rfl) ev_int rfl (fun _ _ => rfl))) (nomark _ (by decide) (by decide))) fun hb0 => (ew_or1 (et_cmp (ec_isnB (ev_call (c_look_span T h h1 { spanP mine theirs with loL := rotL mine theirs (leastL mine theirs) ++ [0] } (by show (rotL _ _ _ ++ _).length ≤ _; rw [List.length_append, rotL_len]; show _ + 1 ≤ _; omega) hok.2.2) (hr.mono (by decide)) (ea_cons (ev_var (nm 9 rfl (.inl rfl) rfl rfl) rfl) (ea_cons (ev_var (nm 10 rfl (.inl rfl) rfl rfl) rfl) (ea_cons (ev_var (nm 12 rfl (.inl rfl) rfl rfl) rfl) ea_nil rfl) rfl) rfl) rfl (by decide) rfl rfl) ev_bl) (nomark _ (by decide) (by decide)))))) ?_) (fun e => nomatch e) fun _ => ?_
    · rw [span_bad (p := { spanP mine theirs with loL := rotL mine theirs (leastL mine theirs) ++ [0] }) (by show (rotL _ _ _ ++ _).length ≠ _; rw [List.length_append, rotL_len]; show _ + 1 ≠ _; omega)]
      show (!decide (rotL mine theirs (mostL mine theirs) = rotL mine theirs (mostL mine theirs)) || _) = _
      simp
    obtain ⟨q2, hq2, hE2⟩ := hp2.at (i := 6) (ns := rotL mine theirs (mostL mine theirs)) rfl
    refine gd_seq (M := fun r E' => upd E q (.lst ((rotL mine theirs (leastL mine theirs) ++ [0]).map V.int)) = E' ∧ r = [.val (lI mine), .val (lI theirs), .val (lI drawn), .val (lI more), .val (.int (mine.length : Int)), .val (lI (heightsL mine theirs)), .any, .any, .val (eSP (spanP mine theirs)), .val (lI mine), .val (lI theirs), .val (d), .raw (v), .raw (.ref q2), .any, .any, .any, .any, .any]) (ge_item (k := 13) (kp := 12) (m := 6) nd rfl (.inl rfl) (nm 12 rfl (.inl rfl) rfl rfl) rfl hq2 ⟨rfl, rfl⟩ rfl (.inl rfl) (fun _ _ => rfl)) ?_
    rintro _ _ ⟨rfl, rfl⟩
    refine gd_seq (M := fun r E' => r = [.val (lI mine), .val (lI theirs), .val (lI drawn), .val (lI more), .val (.int (mine.length : Int)), .val (lI (heightsL mine theirs)), .any, .any, .val (eSP (spanP mine theirs)), .val (lI mine), .val (lI theirs), .val (d), .raw (v), .raw (.ref q2), .any, .any, .any, .any, .any]) (ge_clrE (k := 13) (nm 13 rfl (.inl rfl) rfl rfl) rfl hE2 rfl rfl rfl rfl) ?_
    rintro _ _ rfl
    exact gd_nil ⟨(by repeat (first | exact Wk.nil | refine Wk.any ?_ | refine Wk.same ?_ | refine Wk.frz ?_)), trivial⟩
  · intro _
    refine bd_seq1 (sd_asg (k := 14) nd rfl (.inl rfl) (Ev.cast (d' := dL eSP [spanP mine theirs]) (EvN.ev (evn_lst (ea_cons (ev_var (nm 8 rfl (.inl rfl) rfl rfl) rfl) ea_nil rfl) (Nat.le_of_ble_eq_true rfl))) ?_) rfl rfl (.inl rfl)) ?_
    · rfl
    have hok : okSP (spanP mine theirs) := okSP_of rfl (by show (rotL _ _ _).length ≤ _; rw [rotL_len]; omega) (by show (rotL _ _ _).length ≤ _; rw [rotL_len]; omega)
    have step : ∀ (ps qs : List SpanP) (a b c : Nat), ((∀ p ∈ ps, okSP p) ∧ ps.length ≤ a) → ((∀ p ∈ qs, okSP p) ∧ qs.length ≤ b) → a + b ≤ c → (∀ p ∈ ps ++ qs, okSP p) ∧ (ps ++ qs).length ≤ c := fun ps qs a b c h1 h2 h3 => ⟨fun p hp => by
      rcases List.mem_append.mp hp with hp | hp
      · exact h1.1 p hp
      · exact h2.1 p hp, by rw [List.length_append]; omega⟩
    refine bd_forI 15 (fun i r => ∃ ps, r = [.val (lI mine), .val (lI theirs), .val (lI drawn), .val (lI more), .val (.int (mine.length : Int)), .val (lI (heightsL mine theirs)), .any, .any, .val (eSP (spanP mine theirs)), .val (lI mine), .val (lI theirs), .any, .any, .any, .val (dL eSP ps), .any, .any, .any, .any] ∧ (∀ p ∈ ps, okSP p) ∧ ps.length ≤ 1 + 10 * i) PassesOwn.never rfl nd rfl (.inl rfl) (ei_list (EvN.ev (evn_lst (ea_cons ev_int (ea_cons ev_int ea_nil rfl) rfl) (Nat.le_of_ble_eq_true rfl)))) ⟨_, (by repeat (first | exact Wk.nil | refine Wk.any ?_ | refine Wk.same ?_ | refine Wk.frz ?_)), _, rfl, fun p hp => by rw [List.mem_singleton.mp hp]; exact hok, by show 1 ≤ _; omega⟩ ?_ ?_ (fun r' _ ⟨ps, e, _⟩ => by rw [e]; exact (ei_list (EvN.ev (evn_lst (ea_cons ev_int (ea_cons ev_int ea_nil rfl) rfl) (Nat.le_of_ble_eq_true rfl))))) (.inl rfl) (fun _ => rfl)
    · rintro i d r hd ⟨ps, rfl, hps⟩
      match i, hd with
      | 0, hd =>
        cases hd
        refine bd_seq1 (sd_asg (k := 16) nd rfl (.inl rfl) (ev_ixT (d := .int (spanP mine theirs).lo) (ev_var (nm 8 rfl (.inl rfl) rfl rfl) rfl) (ev_var (nm 15 rfl (.inl rfl) rfl rfl) rfl) rfl (fun _ _ => rfl)) rfl rfl (.inl rfl)) ?_
        refine bd_seq1 (sd_asg (k := 14) nd rfl (.inl rfl) (Ev.cast (d' := dL eSP (ps ++ (newI (spanP mine theirs).lo mine.length).map fun y => { spanP mine theirs with lo := y })) (EvN.ev (evn_cat (Ev.l (ev_var (nm 14 rfl (.inl rfl) rfl rfl) rfl)) (Ev.l (ev_call (c_near_SP T (p := spanP mine theirs) (k := 1) (fun y => { spanP mine theirs with lo := y }) (newI (spanP mine theirs).lo mine.length) (fun x => rfl) (by decide) (Nat.le_of_ble_eq_true rfl)) (hr.mono (by decide)) (ea_cons (ev_var (nm 8 rfl (.inl rfl) rfl rfl) rfl) (ea_cons (ev_var (nm 15 rfl (.inl rfl) rfl rfl) rfl) (ea_cons (EvN.ev (EvN.cast (d' := (newI (spanP mine theirs).lo mine.length).map D.int) (evn_lst (ea_cons (ev_add (ev_var (nm 16 rfl (.inl rfl) rfl rfl) rfl) ev_int) (ea_cons (ev_sub (ev_var (nm 16 rfl (.inl rfl) rfl rfl) rfl) ev_int) (ea_cons (ev_sub ev_int (ev_var (nm 16 rfl (.inl rfl) rfl rfl) rfl)) (ea_cons (ev_add (ev_var (nm 16 rfl (.inl rfl) rfl rfl) rfl) (ev_var (nm 4 rfl (.inl rfl) rfl rfl) rfl)) (ea_cons (ev_sub (ev_var (nm 16 rfl (.inl rfl) rfl rfl) rfl) (ev_var (nm 4 rfl (.inl rfl) rfl rfl) rfl)) (ea_cons (ev_pow ev_int ev_int ?_) ea_nil rfl) rfl) rfl) rfl) rfl) rfl) (Nat.le_of_ble_eq_true rfl)) ?_)) ea_nil rfl) rfl) rfl) rfl (by decide) rfl rfl)) ?_)) ?_) rfl rfl (.inl rfl)) (bd_nil ⟨_, (by repeat (first | exact Wk.nil | refine Wk.any ?_ | refine Wk.same ?_ | refine Wk.frz ?_)), _, rfl, ?_⟩)
        · exact ⟨by decide, by decide, by decide⟩
        · rfl
        · simp only [List.length_map, newI, List.length_cons, List.length_nil]
          omega
        · exact congrArg D.lst List.map_append.symm
        · exact step _ _ _ 6 _ hps ⟨near_ok fun x _ => ⟨hok.1, hok.2.1, hok.2.2⟩, by rw [List.length_map]; exact Nat.le_refl _⟩ (by omega)
      | 1, hd =>
        cases hd
        refine bd_seq1 (sd_asg (k := 16) nd rfl (.inl rfl) (ev_ixT (d := .int (spanP mine theirs).hi) (ev_var (nm 8 rfl (.inl rfl) rfl rfl) rfl) (ev_var (nm 15 rfl (.inl rfl) rfl rfl) rfl) rfl (fun _ _ => rfl)) rfl rfl (.inl rfl)) ?_
        refine bd_seq1 (sd_asg (k := 14) nd rfl (.inl rfl) (Ev.cast (d' := dL eSP (ps ++ (newI (spanP mine theirs).hi mine.length).map fun y => { spanP mine theirs with hi := y })) (EvN.ev (evn_cat (Ev.l (ev_var (nm 14 rfl (.inl rfl) rfl rfl) rfl)) (Ev.l (ev_call (c_near_SP T (p := spanP mine theirs) (k := 4) (fun y => { spanP mine theirs with hi := y }) (newI (spanP mine theirs).hi mine.length) (fun x => rfl) (by decide) (Nat.le_of_ble_eq_true rfl)) (hr.mono (by decide)) (ea_cons (ev_var (nm 8 rfl (.inl rfl) rfl rfl) rfl) (ea_cons (ev_var (nm 15 rfl (.inl rfl) rfl rfl) rfl) (ea_cons (EvN.ev (EvN.cast (d' := (newI (spanP mine theirs).hi mine.length).map D.int) (evn_lst (ea_cons (ev_add (ev_var (nm 16 rfl (.inl rfl) rfl rfl) rfl) ev_int) (ea_cons (ev_sub (ev_var (nm 16 rfl (.inl rfl) rfl rfl) rfl) ev_int) (ea_cons (ev_sub ev_int (ev_var (nm 16 rfl (.inl rfl) rfl rfl) rfl)) (ea_cons (ev_add (ev_var (nm 16 rfl (.inl rfl) rfl rfl) rfl) (ev_var (nm 4 rfl (.inl rfl) rfl rfl) rfl)) (ea_cons (ev_sub (ev_var (nm 16 rfl (.inl rfl) rfl rfl) rfl) (ev_var (nm 4 rfl (.inl rfl) rfl rfl) rfl)) (ea_cons (ev_pow ev_int ev_int ?_) ea_nil rfl) rfl) rfl) rfl) rfl) rfl) (Nat.le_of_ble_eq_true rfl)) ?_)) ea_nil rfl) rfl) rfl) rfl (by decide) rfl rfl)) ?_)) ?_) rfl rfl (.inl rfl)) (bd_nil ⟨_, (by repeat (first | exact Wk.nil | refine Wk.any ?_ | refine Wk.same ?_ | refine Wk.frz ?_)), _, rfl, ?_⟩)
        · exact ⟨by decide, by decide, by decide⟩
        · rfl
        · simp only [List.length_map, newI, List.length_cons, List.length_nil]
          omega
        · exact congrArg D.lst List.map_append.symm
        · exact step _ _ _ 6 _ hps ⟨near_ok fun x _ => ⟨hok.1, hok.2.1, hok.2.2⟩, by rw [List.length_map]; exact Nat.le_refl _⟩ (by omega)
      | n + 2, hd => cases hd
    · rintro r ⟨ps, rfl, hps⟩
      have hpl := placesV_len mine.length more
      refine bd_forI 15 (fun i r => ∃ ps, r = [.val (lI mine), .val (lI theirs), .val (lI drawn), .val (lI more), .val (.int (mine.length : Int)), .val (lI (heightsL mine theirs)), .any, .any, .val (eSP (spanP mine theirs)), .val (lI mine), .val (lI theirs), .any, .any, .any, .val (dL eSP ps), .any, .any, .any, .any] ∧ (∀ p ∈ ps, okSP p) ∧ ps.length ≤ 21 + 140 * i) PassesOwn.never rfl nd rfl (.inl rfl) (ei_list (EvN.ev (evn_lst (ea_cons ev_int (ea_cons ev_int ea_nil rfl) rfl) (Nat.le_of_ble_eq_true rfl)))) ⟨_, (by repeat (first | exact Wk.nil | refine Wk.any ?_ | refine Wk.same ?_ | refine Wk.frz ?_)), _, rfl, hps.1, by have := hps.2; simpa using this⟩ ?_ ?_ (fun r' _ ⟨ps, e, _⟩ => by rw [e]; exact (ei_list (EvN.ev (evn_lst (ea_cons ev_int (ea_cons ev_int ea_nil rfl) rfl) (Nat.le_of_ble_eq_true rfl))))) (.inl rfl) (fun _ => rfl)
      · rintro i d r hd ⟨ps, rfl, hps⟩
        match i, hd with
        | 0, hd =>
          cases hd
          refine bd_seq1 (sd_asg (k := 14) nd rfl (.inl rfl) (Ev.cast (d' := dL eSP (ps ++ (placesV mine.length more ++ [(spanP mine theirs).loP - 2 * (mine.length : Int) - 1, 2 * (mine.length : Int) - (spanP mine theirs).loP]).map fun y => { spanP mine theirs with loP := y })) (EvN.ev (evn_cat (Ev.l (ev_var (nm 14 rfl (.inl rfl) rfl rfl) rfl)) (Ev.l (ev_call (c_near_SP T (p := spanP mine theirs) (k := 2) (fun y => { spanP mine theirs with loP := y }) (placesV mine.length more ++ [(spanP mine theirs).loP - 2 * (mine.length : Int) - 1, 2 * (mine.length : Int) - (spanP mine theirs).loP]) (fun x => rfl) (by decide) (by rw [List.length_append]; show _ + 2 ≤ _; omega)) (hr.mono (by decide)) (ea_cons (ev_var (nm 8 rfl (.inl rfl) rfl rfl) rfl) (ea_cons (ev_var (nm 15 rfl (.inl rfl) rfl rfl) rfl) (ea_cons (EvN.ev (EvN.cast (d' := (placesV mine.length more ++ [(spanP mine theirs).loP - 2 * (mine.length : Int) - 1, 2 * (mine.length : Int) - (spanP mine theirs).loP]).map D.int) (evn_cat (Ev.l (ev_call (c_law_places T h1 (by omega)) (hr.mono (by decide)) (ea_cons (ev_var (nm 4 rfl (.inl rfl) rfl rfl) rfl) (ea_cons (ev_var (nm 3 rfl (.inl rfl) rfl rfl) rfl) ea_nil rfl) rfl) rfl (by decide) rfl rfl)) (EvN.l (evn_lst (ea_cons (ev_sub (ev_sub (ev_ixT (d := .int (spanP mine theirs).loP) (ev_var (nm 8 rfl (.inl rfl) rfl rfl) rfl) (ev_var (nm 15 rfl (.inl rfl) rfl rfl) rfl) rfl (fun _ _ => rfl)) (ev_mul ev_int (ev_var (nm 4 rfl (.inl rfl) rfl rfl) rfl) ?_)) ev_int) (ea_cons (ev_sub (ev_mul ev_int (ev_var (nm 4 rfl (.inl rfl) rfl rfl) rfl) ?_) (ev_ixT (d := .int (spanP mine theirs).loP) (ev_var (nm 8 rfl (.inl rfl) rfl rfl) rfl) (ev_var (nm 15 rfl (.inl rfl) rfl rfl) rfl) rfl (fun _ _ => rfl))) ea_nil rfl) rfl) (Nat.le_of_ble_eq_true rfl))) ?_) ?_)) ea_nil rfl) rfl) rfl) rfl (by decide) rfl rfl)) ?_)) ?_) rfl rfl (.inl rfl)) (bd_nil ⟨_, (by repeat (first | exact Wk.nil | refine Wk.any ?_ | refine Wk.same ?_ | refine Wk.frz ?_)), _, rfl, ?_⟩)
          · exact small_mul (by decide) (by decide)
          · exact small_mul (by decide) (by decide)
          · rw [List.length_map]
            show _ + 2 ≤ _
            omega
          · rw [List.map_append]
            rfl
          · simp only [List.length_map, List.length_append, List.length_cons, List.length_nil]
            omega
          · exact congrArg D.lst List.map_append.symm
          · refine step _ _ _ 140 _ hps ⟨near_ok fun x _ => ⟨hok.1, hok.2.1, hok.2.2⟩, ?_⟩ (by omega)
            simp only [List.length_map, List.length_append, List.length_cons, List.length_nil]
            omega
        | 1, hd =>
          cases hd
          refine bd_seq1 (sd_asg (k := 14) nd rfl (.inl rfl) (Ev.cast (d' := dL eSP (ps ++ (placesV mine.length more ++ [(spanP mine theirs).hiP - 2 * (mine.length : Int) - 1, 2 * (mine.length : Int) - (spanP mine theirs).hiP]).map fun y => { spanP mine theirs with hiP := y })) (EvN.ev (evn_cat (Ev.l (ev_var (nm 14 rfl (.inl rfl) rfl rfl) rfl)) (Ev.l (ev_call (c_near_SP T (p := spanP mine theirs) (k := 5) (fun y => { spanP mine theirs with hiP := y }) (placesV mine.length more ++ [(spanP mine theirs).hiP - 2 * (mine.length : Int) - 1, 2 * (mine.length : Int) - (spanP mine theirs).hiP]) (fun x => rfl) (by decide) (by rw [List.length_append]; show _ + 2 ≤ _; omega)) (hr.mono (by decide)) (ea_cons (ev_var (nm 8 rfl (.inl rfl) rfl rfl) rfl) (ea_cons (ev_var (nm 15 rfl (.inl rfl) rfl rfl) rfl) (ea_cons (EvN.ev (EvN.cast (d' := (placesV mine.length more ++ [(spanP mine theirs).hiP - 2 * (mine.length : Int) - 1, 2 * (mine.length : Int) - (spanP mine theirs).hiP]).map D.int) (evn_cat (Ev.l (ev_call (c_law_places T h1 (by omega)) (hr.mono (by decide)) (ea_cons (ev_var (nm 4 rfl (.inl rfl) rfl rfl) rfl) (ea_cons (ev_var (nm 3 rfl (.inl rfl) rfl rfl) rfl) ea_nil rfl) rfl) rfl (by decide) rfl rfl)) (EvN.l (evn_lst (ea_cons (ev_sub (ev_sub (ev_ixT (d := .int (spanP mine theirs).hiP) (ev_var (nm 8 rfl (.inl rfl) rfl rfl) rfl) (ev_var (nm 15 rfl (.inl rfl) rfl rfl) rfl) rfl (fun _ _ => rfl)) (ev_mul ev_int (ev_var (nm 4 rfl (.inl rfl) rfl rfl) rfl) ?_)) ev_int) (ea_cons (ev_sub (ev_mul ev_int (ev_var (nm 4 rfl (.inl rfl) rfl rfl) rfl) ?_) (ev_ixT (d := .int (spanP mine theirs).hiP) (ev_var (nm 8 rfl (.inl rfl) rfl rfl) rfl) (ev_var (nm 15 rfl (.inl rfl) rfl rfl) rfl) rfl (fun _ _ => rfl))) ea_nil rfl) rfl) (Nat.le_of_ble_eq_true rfl))) ?_) ?_)) ea_nil rfl) rfl) rfl) rfl (by decide) rfl rfl)) ?_)) ?_) rfl rfl (.inl rfl)) (bd_nil ⟨_, (by repeat (first | exact Wk.nil | refine Wk.any ?_ | refine Wk.same ?_ | refine Wk.frz ?_)), _, rfl, ?_⟩)
          · exact small_mul (by decide) (by decide)
          · exact small_mul (by decide) (by decide)
          · rw [List.length_map]
            show _ + 2 ≤ _
            omega
          · rw [List.map_append]
            rfl
          · simp only [List.length_map, List.length_append, List.length_cons, List.length_nil]
            omega
          · exact congrArg D.lst List.map_append.symm
          · refine step _ _ _ 140 _ hps ⟨near_ok fun x _ => ⟨hok.1, hok.2.1, hok.2.2⟩, ?_⟩ (by omega)
            simp only [List.length_map, List.length_append, List.length_cons, List.length_nil]
            omega
        | n + 2, hd => cases hd
      · rintro r ⟨ps, rfl, hps⟩
        refine bd_forI 15 (fun i r => ∃ ps, r = [.val (lI mine), .val (lI theirs), .val (lI drawn), .val (lI more), .val (.int (mine.length : Int)), .val (lI (heightsL mine theirs)), .any, .any, .val (eSP (spanP mine theirs)), .val (lI mine), .val (lI theirs), .any, .any, .any, .val (dL eSP ps), .any, .any, .any, .any] ∧ (∀ p ∈ ps, okSP p) ∧ ps.length ≤ 301 + 21 * i) PassesOwn.never rfl nd rfl (.inl rfl) (ei_list (EvN.ev (evn_lst (ea_cons ev_int (ea_cons ev_int ea_nil rfl) rfl) (Nat.le_of_ble_eq_true rfl)))) ⟨_, (by repeat (first | exact Wk.nil | refine Wk.any ?_ | refine Wk.same ?_ | refine Wk.frz ?_)), _, rfl, hps.1, by have := hps.2; simpa using this⟩ ?_ ?_ (fun r' _ ⟨ps, e, _⟩ => by rw [e]; exact (ei_list (EvN.ev (evn_lst (ea_cons ev_int (ea_cons ev_int ea_nil rfl) rfl) (Nat.le_of_ble_eq_true rfl))))) (.inl rfl) (fun _ => rfl)
        · rintro i d r hd ⟨ps, rfl, hps⟩
          match i, hd with
          | 0, hd =>
            cases hd
            have hpc := pairsNear_cnt (spanP mine theirs).loL (more.getD 0 0).toNat (more.getD 1 0).toNat
            refine bd_seq1 (sd_asg (k := 14) nd rfl (.inl rfl) (Ev.cast (d' := dL eSP (ps ++ (pairsNear (spanP mine theirs).loL (more.getD 0 0).toNat (more.getD 1 0).toNat ++ [drawn]).map fun y => { spanP mine theirs with loL := y })) (EvN.ev (evn_cat (Ev.l (ev_var (nm 14 rfl (.inl rfl) rfl rfl) rfl)) (Ev.l (ev_call (c_near_SP T (p := spanP mine theirs) (k := 3) (fun y => { spanP mine theirs with loL := y }) (pairsNear (spanP mine theirs).loL (more.getD 0 0).toNat (more.getD 1 0).toNat ++ [drawn]) (fun x => rfl) (by decide) (by have := pairsNear_cnt (spanP mine theirs).loL (more.getD 0 0).toNat (more.getD 1 0).toNat; rw [List.length_append]; show _ + 1 ≤ _; omega)) (hr.mono (by decide)) (ea_cons (ev_var (nm 8 rfl (.inl rfl) rfl rfl) rfl) (ea_cons (ev_var (nm 15 rfl (.inl rfl) rfl rfl) rfl) (ea_cons (EvN.ev (EvN.cast (d' := (pairsNear (spanP mine theirs).loL (more.getD 0 0).toNat (more.getD 1 0).toNat ++ [drawn]).map lI) (evn_cat (Ev.l (ev_call (c_law_pairings_near T (ps := (spanP mine theirs).loL) (by show (rotL _ _ _).length ≤ _; rw [rotL_len]; omega) (fun hz => by have := (hm2 0 (by decide)); show _ < (rotL _ _ _).length; change (rotL _ _ _).length ≠ 0 at hz; rw [rotL_len] at *; omega) (fun hz => by have := (hm2 1 (by decide)); show _ < (rotL _ _ _).length; change (rotL _ _ _).length ≠ 0 at hz; rw [rotL_len] at *; omega)) (hr.mono (by decide)) (ea_cons (ev_ixT (d := lI (spanP mine theirs).loL) (ev_var (nm 8 rfl (.inl rfl) rfl rfl) rfl) (ev_var (nm 15 rfl (.inl rfl) rfl rfl) rfl) rfl (fun _ _ => rfl)) (ea_cons (Ev.cast (d' := dN (more.getD 0 0).toNat) (ev_ixG (0 : Int) (Ev.l (ev_var (nm 3 rfl (.inl rfl) rfl rfl) rfl)) ev_int ?_ ?_ (fun _ _ => rfl)) ?_) (ea_cons (Ev.cast (d' := dN (more.getD 1 0).toNat) (ev_ixG (0 : Int) (Ev.l (ev_var (nm 3 rfl (.inl rfl) rfl rfl) rfl)) ev_int ?_ ?_ (fun _ _ => rfl)) ?_) ea_nil rfl) rfl) rfl) rfl (by decide) rfl rfl)) (EvN.l (evn_lst (ea_cons (ev_var (nm 2 rfl (.inl rfl) rfl rfl) rfl) ea_nil rfl) (Nat.le_of_ble_eq_true rfl))) ?_) ?_)) ea_nil rfl) rfl) rfl) rfl (by decide) rfl rfl)) ?_)) ?_) rfl rfl (.inl rfl)) (bd_nil ⟨_, (by repeat (first | exact Wk.nil | refine Wk.any ?_ | refine Wk.same ?_ | refine Wk.frz ?_)), _, rfl, ?_⟩)
            · decide
            · omega
            · have := (hm2 0 (by decide)).1
              exact congrArg D.int (Int.toNat_of_nonneg this).symm
            · decide
            · omega
            · have := (hm2 1 (by decide)).1
              exact congrArg D.int (Int.toNat_of_nonneg this).symm
            · rw [List.length_map]
              show _ + 1 ≤ _
              omega
            · rw [List.map_append]
              rfl
            · simp only [List.length_map, List.length_append, List.length_cons, List.length_nil]
              omega
            · exact congrArg D.lst List.map_append.symm
            · refine step _ _ _ 21 _ hps ⟨near_ok fun x hx => ?_, ?_⟩ (by omega)
              · have hx' : x.length ≤ 1000 := by
                  rcases List.mem_append.mp hx with hx | hx
                  · have := pairsNear_len x hx
                    have e : (spanP mine theirs).loL.length = mine.length := rotL_len _ _ _
                    omega
                  · rw [List.mem_singleton.mp hx]
                    omega
                exact ⟨hok.1, hx', hok.2.2⟩
              · simp only [List.length_map, List.length_append, List.length_cons, List.length_nil]
                omega
          | 1, hd =>
            cases hd
            have hpc := pairsNear_cnt (spanP mine theirs).hiL (more.getD 0 0).toNat (more.getD 1 0).toNat
            refine bd_seq1 (sd_asg (k := 14) nd rfl (.inl rfl) (Ev.cast (d' := dL eSP (ps ++ (pairsNear (spanP mine theirs).hiL (more.getD 0 0).toNat (more.getD 1 0).toNat ++ [drawn]).map fun y => { spanP mine theirs with hiL := y })) (EvN.ev (evn_cat (Ev.l (ev_var (nm 14 rfl (.inl rfl) rfl rfl) rfl)) (Ev.l (ev_call (c_near_SP T (p := spanP mine theirs) (k := 6) (fun y => { spanP mine theirs with hiL := y }) (pairsNear (spanP mine theirs).hiL (more.getD 0 0).toNat (more.getD 1 0).toNat ++ [drawn]) (fun x => rfl) (by decide) (by have := pairsNear_cnt (spanP mine theirs).hiL (more.getD 0 0).toNat (more.getD 1 0).toNat; rw [List.length_append]; show _ + 1 ≤ _; omega)) (hr.mono (by decide)) (ea_cons (ev_var (nm 8 rfl (.inl rfl) rfl rfl) rfl) (ea_cons (ev_var (nm 15 rfl (.inl rfl) rfl rfl) rfl) (ea_cons (EvN.ev (EvN.cast (d' := (pairsNear (spanP mine theirs).hiL (more.getD 0 0).toNat (more.getD 1 0).toNat ++ [drawn]).map lI) (evn_cat (Ev.l (ev_call (c_law_pairings_near T (ps := (spanP mine theirs).hiL) (by show (rotL _ _ _).length ≤ _; rw [rotL_len]; omega) (fun hz => by have := (hm2 0 (by decide)); show _ < (rotL _ _ _).length; change (rotL _ _ _).length ≠ 0 at hz; rw [rotL_len] at *; omega) (fun hz => by have := (hm2 1 (by decide)); show _ < (rotL _ _ _).length; change (rotL _ _ _).length ≠ 0 at hz; rw [rotL_len] at *; omega)) (hr.mono (by decide)) (ea_cons (ev_ixT (d := lI (spanP mine theirs).hiL) (ev_var (nm 8 rfl (.inl rfl) rfl rfl) rfl) (ev_var (nm 15 rfl (.inl rfl) rfl rfl) rfl) rfl (fun _ _ => rfl)) (ea_cons (Ev.cast (d' := dN (more.getD 0 0).toNat) (ev_ixG (0 : Int) (Ev.l (ev_var (nm 3 rfl (.inl rfl) rfl rfl) rfl)) ev_int ?_ ?_ (fun _ _ => rfl)) ?_) (ea_cons (Ev.cast (d' := dN (more.getD 1 0).toNat) (ev_ixG (0 : Int) (Ev.l (ev_var (nm 3 rfl (.inl rfl) rfl rfl) rfl)) ev_int ?_ ?_ (fun _ _ => rfl)) ?_) ea_nil rfl) rfl) rfl) rfl (by decide) rfl rfl)) (EvN.l (evn_lst (ea_cons (ev_var (nm 2 rfl (.inl rfl) rfl rfl) rfl) ea_nil rfl) (Nat.le_of_ble_eq_true rfl))) ?_) ?_)) ea_nil rfl) rfl) rfl) rfl (by decide) rfl rfl)) ?_)) ?_) rfl rfl (.inl rfl)) (bd_nil ⟨_, (by repeat (first | exact Wk.nil | refine Wk.any ?_ | refine Wk.same ?_ | refine Wk.frz ?_)), _, rfl, ?_⟩)
            · decide
            · omega
            · have := (hm2 0 (by decide)).1
              exact congrArg D.int (Int.toNat_of_nonneg this).symm
            · decide
            · omega
            · have := (hm2 1 (by decide)).1
              exact congrArg D.int (Int.toNat_of_nonneg this).symm
            · rw [List.length_map]
              show _ + 1 ≤ _
              omega
            · rw [List.map_append]
              rfl
            · simp only [List.length_map, List.length_append, List.length_cons, List.length_nil]
              omega
            · exact congrArg D.lst List.map_append.symm
            · refine step _ _ _ 21 _ hps ⟨near_ok fun x hx => ?_, ?_⟩ (by omega)
              · have hx' : x.length ≤ 1000 := by
                  rcases List.mem_append.mp hx with hx | hx
                  · have := pairsNear_len x hx
                    have e : (spanP mine theirs).hiL.length = mine.length := rotL_len _ _ _
                    omega
                  · rw [List.mem_singleton.mp hx]
                    omega
                exact ⟨hok.1, hok.2.1, hx'⟩
              · simp only [List.length_map, List.length_append, List.length_cons, List.length_nil]
                omega
          | n + 2, hd => cases hd
        · rintro r ⟨ps, rfl, hps⟩
          refine bd_seq1 (sd_asg (k := 17) nd rfl (.inl rfl) (ev_call (c_law_result T h1 (by omega) (by rw [← h]; exact hd2)) (hr.mono (by decide)) (ea_cons (ev_var (nm 0 rfl (.inl rfl) rfl rfl) rfl) (ea_cons (ev_var (nm 1 rfl (.inl rfl) rfl rfl) rfl) (ea_cons (ev_var (nm 2 rfl (.inl rfl) rfl rfl) rfl) ea_nil rfl) rfl) rfl) rfl (by decide) rfl rfl) rfl rfl (.inl rfl)) ?_
          refine bd_forI 18 (fun i r => ∃ ps, r = [.val (lI mine), .val (lI theirs), .val (lI drawn), .val (lI more), .val (.int (mine.length : Int)), .val (lI (heightsL mine theirs)), .any, .any, .val (eSP (spanP mine theirs)), .val (lI mine), .val (lI theirs), .any, .any, .any, .val (dL eSP ps), .any, .any, .val (.int ((winsL mine theirs drawn).length : Int)), .any] ∧ (∀ p ∈ ps, okSP p) ∧ ps.length ≤ 343 + 4 * i) PassesOwn.never rfl nd rfl (.inl rfl) (ei_list (ev_call (c_law_places T h1 (by omega)) (hr.mono (by decide)) (ea_cons (ev_var (nm 4 rfl (.inl rfl) rfl rfl) rfl) (ea_cons (ev_var (nm 3 rfl (.inl rfl) rfl rfl) rfl) ea_nil rfl) rfl) rfl (by decide) rfl rfl)) ⟨_, (by repeat (first | exact Wk.nil | refine Wk.any ?_ | refine Wk.same ?_ | refine Wk.frz ?_)), _, rfl, hps.1, by have := hps.2; simpa using this⟩ ?_ ?_ (fun r' _ ⟨ps, e, _⟩ => by rw [e]; exact (ei_list (ev_call (c_law_places T h1 (by omega)) (hr.mono (by decide)) (ea_cons (ev_var (nm 4 rfl (.inl rfl) rfl rfl) rfl) (ea_cons (ev_var (nm 3 rfl (.inl rfl) rfl rfl) rfl) ea_nil rfl) rfl) rfl (by decide) rfl rfl))) (.inl rfl) (fun _ => rfl)
          · rintro i d r hd ⟨ps, rfl, hps⟩
            rw [List.getElem?_map] at hd
            obtain ⟨x, hx, rfl⟩ := Option.map_eq_some_iff.mp hd
            have hil := lt_of_i hx
            refine bd_ifM (fun r => ∃ ps, r = [.val (lI mine), .val (lI theirs), .val (lI drawn), .val (lI more), .val (.int (mine.length : Int)), .val (lI (heightsL mine theirs)), .any, .any, .val (eSP (spanP mine theirs)), .val (lI mine), .val (lI theirs), .any, .any, .any, .val (dL eSP ps), .any, .any, .val (.int ((winsL mine theirs drawn).length : Int)), .any] ∧ (∀ p ∈ ps, okSP p) ∧ ps.length ≤ 343 + 4 * (i + 1)) (et_chain2 ev_int (ev_var (nm 18 rfl (.inl rfl) rfl rfl) rfl) (ev_mul ev_int (ev_var (nm 4 rfl (.inl rfl) rfl rfl) rfl) ?_)) (fun e => ?_) (fun e => bd_nil ⟨_, (by repeat (first | exact Wk.nil | refine Wk.any ?_ | refine Wk.same ?_ | refine Wk.frz ?_)), _, rfl, hps.1, by have := hps.2; omega⟩) (fun r hr => bd_nil ⟨r, Wk.refl r, hr⟩)
            · exact small_mul (by decide) (by decide)
            · have e0 : 0 ≤ x := of_decide_eq_true (Bool.and_eq_true_iff.mp e).1
              have e1 : x ≤ 2 * (mine.length : Int) := of_decide_eq_true (Bool.and_eq_true_iff.mp e).2
              refine bd_seq1 (sd_asg (k := 14) nd rfl (.inl rfl) (Ev.cast (d' := dL eSP (ps ++ [{ spanP mine theirs with lo := (heightsL mine theirs).getD x.toNat 0, loP := x }, { spanP mine theirs with hi := (heightsL mine theirs).getD x.toNat 0 + (mine.length : Int), hiP := x }])) (EvN.ev (evn_cat (Ev.l (ev_var (nm 14 rfl (.inl rfl) rfl rfl) rfl)) (EvN.l (evn_lst (ea_cons (ev_catT (ev_tup (ea_cons (ev_strW [115, 112, 97, 110]) (ea_cons (ev_ixG (0 : Int) (Ev.l (ev_var (nm 5 rfl (.inl rfl) rfl rfl) rfl)) (ev_var (nm 18 rfl (.inl rfl) rfl rfl) rfl) ?_ ?_ (fun _ _ => rfl)) (ea_cons (ev_var (nm 18 rfl (.inl rfl) rfl rfl) rfl) ea_nil rfl) rfl) rfl) (Nat.le_of_ble_eq_true rfl)) (ev_sliceT (ev_var (nm 8 rfl (.inl rfl) rfl rfl) rfl) (ep_some ev_int) ep_none) ?_) (ea_cons (ev_catT (ev_sliceT (ev_var (nm 8 rfl (.inl rfl) rfl rfl) rfl) ep_none (ep_some ev_int)) (ev_tup (ea_cons (ev_add (ev_ixG (0 : Int) (Ev.l (ev_var (nm 5 rfl (.inl rfl) rfl rfl) rfl)) (ev_var (nm 18 rfl (.inl rfl) rfl rfl) rfl) ?_ ?_ (fun _ _ => rfl)) (ev_var (nm 4 rfl (.inl rfl) rfl rfl) rfl)) (ea_cons (ev_var (nm 18 rfl (.inl rfl) rfl rfl) rfl) (ea_cons (ev_ixT (ev_var (nm 8 rfl (.inl rfl) rfl rfl) rfl) ev_int rfl (fun _ _ => rfl)) ea_nil rfl) rfl) rfl) (Nat.le_of_ble_eq_true rfl)) ?_) ea_nil rfl) rfl) (Nat.le_of_ble_eq_true rfl))) ?_)) ?_) rfl rfl (.inl rfl)) ?_
              · exact e0
              · omega
              · exact Nat.le_of_ble_eq_true rfl
              · exact e0
              · omega
              · exact Nat.le_of_ble_eq_true rfl
              · rw [List.length_map]
                show _ + 2 ≤ _
                omega
              · refine congrArg D.lst (Eq.trans ?_ List.map_append.symm)
                rfl
              refine bd_seq1 (sd_asg (k := 14) nd rfl (.inl rfl) (Ev.cast (d' := dL eSP ((ps ++ [{ spanP mine theirs with lo := (heightsL mine theirs).getD x.toNat 0, loP := x }, { spanP mine theirs with hi := (heightsL mine theirs).getD x.toNat 0 + (mine.length : Int), hiP := x }]) ++ [{ spanP mine theirs with lo := ((winsL mine theirs drawn).length : Int), loP := x, loL := drawn }, { spanP mine theirs with hi := ((winsL mine theirs drawn).length : Int), hiP := x, hiL := drawn }])) (EvN.ev (evn_cat (Ev.l (ev_var (nm 14 rfl (.inl rfl) rfl rfl) rfl)) (EvN.l (evn_lst (ea_cons (ev_catT (ev_tup (ea_cons (ev_strW [115, 112, 97, 110]) (ea_cons (ev_var (nm 17 rfl (.inl rfl) rfl rfl) rfl) (ea_cons (ev_var (nm 18 rfl (.inl rfl) rfl rfl) rfl) (ea_cons (ev_var (nm 2 rfl (.inl rfl) rfl rfl) rfl) ea_nil rfl) rfl) rfl) rfl) (Nat.le_of_ble_eq_true rfl)) (ev_sliceT (ev_var (nm 8 rfl (.inl rfl) rfl rfl) rfl) (ep_some ev_int) ep_none) ?_) (ea_cons (ev_catT (ev_sliceT (ev_var (nm 8 rfl (.inl rfl) rfl rfl) rfl) ep_none (ep_some ev_int)) (ev_tup (ea_cons (ev_var (nm 17 rfl (.inl rfl) rfl rfl) rfl) (ea_cons (ev_var (nm 18 rfl (.inl rfl) rfl rfl) rfl) (ea_cons (ev_var (nm 2 rfl (.inl rfl) rfl rfl) rfl) ea_nil rfl) rfl) rfl) (Nat.le_of_ble_eq_true rfl)) ?_) ea_nil rfl) rfl) (Nat.le_of_ble_eq_true rfl))) ?_)) ?_) rfl rfl (.inl rfl)) (bd_nil ⟨_, (by repeat (first | exact Wk.nil | refine Wk.any ?_ | refine Wk.same ?_ | refine Wk.frz ?_)), _, rfl, ?_⟩)
              · exact Nat.le_of_ble_eq_true rfl
              · exact Nat.le_of_ble_eq_true rfl
              · rw [List.length_map, List.length_append]
                show _ + 2 + 2 ≤ _
                omega
              · refine congrArg D.lst (Eq.trans ?_ List.map_append.symm)
                rfl
              · refine step _ _ _ 2 _ (step _ _ _ 2 _ hps ⟨fun p hp => ?_, Nat.le_refl _⟩ (Nat.le_refl _)) ⟨fun p hp => ?_, Nat.le_refl _⟩ (by omega)
                · simp only [List.mem_cons, List.not_mem_nil, or_false] at hp
                  rcases hp with rfl | rfl
                  · exact hok
                  · exact hok
                · simp only [List.mem_cons, List.not_mem_nil, or_false] at hp
                  rcases hp with rfl | rfl
                  · exact ⟨hok.1, by show drawn.length ≤ _; omega, hok.2.2⟩
                  · exact ⟨hok.1, hok.2.1, by show drawn.length ≤ _; omega⟩
          · rintro r ⟨ps, rfl, hps⟩
            rw [List.length_map] at hps
            have hz : ps.length ≤ 100000 := by have := hps.2; omega
            refine bd_one (sd_ret (ev_and (l := true) (ev_call (c_law_looks_good0 T h h1 hps.1 hz) (hr.mono (by decide)) (ea_cons ev_int (ea_cons (ev_var (nm 0 rfl (.inl rfl) rfl rfl) rfl) (ea_cons (ev_var (nm 1 rfl (.inl rfl) rfl rfl) rfl) (ea_cons (ev_var (nm 14 rfl (.inl rfl) rfl rfl) rfl) ea_nil rfl) rfl) rfl) rfl) rfl (by decide) rfl rfl) fun _ => ev_and1 ?_) ?_)
            · refine (ev_call (c_law_looks_good0 T h.symm h2 (ps := ps.take 9) (fun p hp => hps.1 p (List.mem_of_mem_take hp)) (by rw [List.length_take]; omega)) (hr.mono (by decide)) (ea_cons ev_int (ea_cons (ev_var (nm 1 rfl (.inl rfl) rfl rfl) rfl) (ea_cons (ev_var (nm 0 rfl (.inl rfl) rfl rfl) rfl) (ea_cons (EvN.ev (EvN.cast (d' := (ps.take 9).map eSP) (evn_slice (Ev.l (ev_var (nm 14 rfl (.inl rfl) rfl rfl) rfl)) ep_none (ep_some ev_int)) ?_)) ea_nil rfl) rfl) rfl) rfl) rfl (by decide) rfl rfl)
              rw [cut_map, cut_pre _ (by decide)]
              rfl
            · rfl
end
end Y
end S_F15

section S_F16
set_option maxHeartbeats 2000000
namespace Y
open PySem PySem.Spec PyProof.Rows L2
abbrev wRow : List Nat := [114, 111, 119]
def rowP (mine theirs : List Int) : RowP := ⟨wRow, rowL mine theirs, matesL mine theirs⟩
theorem rowL_len (mine theirs : List Int) : (rowL mine theirs).length = mine.length := by rw [rowL, List.length_mergeSort, lev_len]
theorem row_bad {mine theirs row partners : List Int} (h : row.length ≠ mine.length) : showsRow mine theirs row partners = false := by
  unfold showsRow
  rw [decide_eq_false (show ¬ row = (levelsL mine theirs 1).mergeSort leI from fun z => h (by rw [z, List.length_mergeSort, lev_len]))]
  simp
section
variable {P : Program} {w : World} {K : PySem.W.Frag} {mg : Str → Option Value} {base : Heap}
theorem c_form_RP (T : Tx K mg) (p : RowP) (h1 : p.row.length ≤ 100000) (h2 : p.mates.length ≤ 100000) : Cal P w K mg base 3 "_law_form_good" [eRP p, dW [115, 108, 108]] (.bl true) :=
  c_law_form_good T (.s (.l (.l .nil))) (by decide) fun ns hn => by
    simp only [List.mem_cons, List.not_mem_nil, or_false] at hn
    rcases hn with e | e | e
    · cases e
    · rw [lI_inj e]
      exact h1
    · rw [lI_inj e]
      exact h2
theorem c_look_goodT1 (T : Tx K mg) {mine theirs : List Int} (h : mine.length = theirs.length) (h1 : mine.length ≤ 1000) (p : RowP) (hp : okRP p) (hv : showsRow mine theirs p.row p.mates = true) : Cal P w K mg base 6 "_law_look_good" [.int 1, lI mine, lI theirs, eRP p, .bl true] (.bl true) := by
  have := c_law_look_good1 (P := P) (w := w) (base := base) T h h1 p hp
  rw [hv] at this
  exact this
theorem c_near_RP (T : Tx K mg) {α : Type} {f : α → D} {p : RowP} {k : Nat} (g : α → RowP) (xs : List α) (he : ∀ x, D.tup (([dW p.tag, lI p.row, lI p.mates] : List D).set k (f x)) = eRP (g x)) (hk : k < 3) (h1 : xs.length ≤ 100000) : Cal P w K mg base 1 "_law_near" [eRP p, .int (k : Int), dL f xs] (dL eRP (xs.map g)) := by
  have h := c_law_near (P := P) (w := w) (base := base) T (f := f) (xs := xs) (ds := [dW p.tag, lI p.row, lI p.mates]) (k := k) h1 (Nat.le_of_ble_eq_true rfl) hk
  have e : dL (fun x => D.tup (([dW p.tag, lI p.row, lI p.mates] : List D).set k (f x))) xs = dL eRP (xs.map g) := by
    unfold dL
    rw [List.map_map]
    exact congrArg D.lst (List.map_congr_left fun x _ => he x)
  rw [e] at h
  exact h
theorem nearR_ok {α : Type} {g : α → RowP} {xs : List α} (h : ∀ x ∈ xs, okRP (g x)) : ∀ p ∈ xs.map g, okRP p := fun p hp => by
  obtain ⟨x, hx, rfl⟩ := List.mem_map.mp hp
  exact h x hx
theorem c_law_rows_good (T : Tx K mg) {mine theirs drawn more : List Int} (h : mine.length = theirs.length) (h1 : mine.length ≤ 300) (hd1 : drawn.length = mine.length) (hm : 2 ≤ more.length ∧ more.length ≤ 100) (hm2 : ∀ i, i < 2 → 0 ≤ more.getD i 0 ∧ more.getD i 0 < max 1 (mine.length : Int)) : Cal P w K mg base 8 "_law_rows_good" [lI mine, lI theirs, lI drawn, lI more] (.bl true) := by
  have h1' : mine.length ≤ 1000 := by omega
  have h2 : theirs.length ≤ 1000 := by omega
  have h1s := h1
  replace h1 : mine.length ≤ 1000 := h1'
  have hrl := rowL_len mine theirs
  have hml := mates_len mine theirs
  have hok : okRP (rowP mine theirs) := ⟨by show asc wRow; unfold asc; decide, by show (matesL _ _).length ≤ _; omega⟩
  have d0 : (0 : Int) < (([levelsL mine theirs 1, levelsL mine theirs 0].length : Nat) : Int) := Int.ofNat_lt.mpr (Nat.zero_lt_succ _)
  have d1 : (1 : Int) < (([levelsL mine theirs 1, levelsL mine theirs 0].length : Nat) : Int) := Int.ofNat_lt.mpr (Nat.lt_succ_self _)
  refine cal_of T.d_law_rows_good sc_law_rows_good (fun _ _ _ _ _ _ us hl => match us, hl with | [_, _, _, _], _ => rfl) rfl fun Y hr => ?_
  have nd := sc_law_rows_good.nd
  show Bd _ [.val _, .val _, .val _, .val _, .any, .any, .any, .any, .any, .any, .any, .any, .any] _ _
  refine bd_seq1 (sd_asg (k := 4) nd rfl (.inl rfl) (ev_call (c_law_levels T h h1) (hr.mono (by decide)) (ea_cons (ev_var (nm 0 rfl (.inl rfl) rfl rfl) rfl) (ea_cons (ev_var (nm 1 rfl (.inl rfl) rfl rfl) rfl) ea_nil rfl) rfl) rfl (by decide) rfl rfl) rfl rfl (.inl rfl)) (bd_seq1 (sd_asg (k := 5) nd rfl (.inl rfl) (EvN.ev (evn_list T.b_list (Ev.l (ev_var (nm 0 rfl (.inl rfl) rfl rfl) rfl)) rfl rfl rfl)) rfl rfl (.inl rfl)) (bd_seq1 (sd_asg (k := 6) nd rfl (.inl rfl) (EvN.ev (evn_list T.b_list (Ev.l (ev_var (nm 1 rfl (.inl rfl) rfl rfl) rfl)) rfl rfl rfl)) rfl rfl (.inl rfl)) (bd_seq1 (sd_asg (k := 7) nd rfl (.inl rfl) (EvN.ev (evn_lst ea_nil (Nat.le_of_ble_eq_true rfl))) rfl rfl (.inl rfl)) ?_)))
  refine bd_for 8 (fun i => [.val (lI mine), .val (lI theirs), .val (lI drawn), .val (lI more), .val (dL lI [levelsL mine theirs 1, levelsL mine theirs 0]), .val (lI mine), .val (lI theirs), .val (lI (if i = 0 then [] else matesL mine theirs)), .any, .any, .any, .any, .any]) (fun _ => True) PassesOwn.never rfl nd rfl (.inl rfl) (by repeat (first | exact Wk.nil | refine Wk.any ?_ | refine Wk.same ?_ | refine Wk.frz ?_)) (ei_rng1 T.b_range ev_int ?_ ?_ rfl rfl rfl) trivial ?_ ?_ (.inl rfl) (fun _ => rfl)
  · decide
  · decide
  · intro i d hd _
    refine bd_gd ?_
    refine gd_seq (M := fun r E' => ∃ v, PapX K E' v (rowN mine theirs) ∧ r = [.val (lI mine), .val (lI theirs), .val (lI drawn), .val (lI more), .val (dL lI [levelsL mine theirs 1, levelsL mine theirs 0]), .val (lI mine), .val (lI theirs), .val (lI (if i = 0 then [] else matesL mine theirs)), .val (d), .raw (v), .any, .any, .any]) (ge_pap (k := 9) (c_row_paper T h h1) (hr.mono (by decide)) (ea_cons (ev_var (nm 5 rfl (.inl rfl) rfl rfl) rfl) (ea_cons (ev_var (nm 6 rfl (.inl rfl) rfl rfl) rfl) ea_nil rfl) rfl) nd rfl (.inl rfl) (fun v E' hp => ⟨v, hp, rfl⟩) rfl (by decide) rfl rfl rfl (.inl rfl)) ?_
    rintro _ E ⟨v, hp, rfl⟩
    obtain ⟨pt, hpt⟩ : ∃ pt, pt = lI (if i = 0 then [] else matesL mine theirs) := ⟨_, rfl⟩
    rw [← hpt]
    refine gd_ifRetP (ρ2 := [.val (lI mine), .val (lI theirs), .val (lI drawn), .val (lI more), .val (dL lI [levelsL mine theirs 1, levelsL mine theirs 0]), .val (lI mine), .val (lI theirs), .val (pt), .val (d), .val (eRP (rowP mine theirs)), .any, .any, .any]) (by repeat (first | exact Pk.nil | refine Pk.same ?_ | refine Pk.raw (show Rp K E v (eRP (rowP mine theirs)) from hp.rp) ?_)) (EvT.cast (k' := false) (EvW.t (ew_or (et_not (et_ev (ev_call (c_form_RP T (rowP mine theirs) (by show (rowL _ _).length ≤ _; omega) (by show (matesL _ _).length ≤ _; omega)) (hr.mono (by decide)) (ea_cons (ev_var (nm 9 rfl (.inl rfl) rfl rfl) rfl) (ea_cons (ev_strW [115, 108, 108]) ea_nil rfl) rfl) rfl (by decide) rfl rfl) (fun _ => rfl))) fun hb0 => (ew_or (et_cmp (ec_neW (ev_ixT (ev_var (nm 9 rfl (.inl rfl) rfl rfl) rfl) ev_int rfl (fun _ _ => rfl)) (ev_strW [114, 111, 119])) (nomark _ (by decide) (by decide))) fun hb1 => (ew_or (et_cmp (ec_neLI hr.units (ev_var (nm 5 rfl (.inl rfl) rfl rfl) rfl) (ev_var (nm 0 rfl (.inl rfl) rfl rfl) rfl)) (nomark _ (by decide) (by decide))) fun hb2 => (ew_or1 (et_cmp (ec_neLI hr.units (ev_var (nm 6 rfl (.inl rfl) rfl rfl) rfl) (ev_var (nm 1 rfl (.inl rfl) rfl rfl) rfl)) (nomark _ (by decide) (by decide)))))))) ?_) (fun e => nomatch e) fun _ => ?_
    · show (!true || (!decide (wRow = wRow) || _)) = _
      simp
    refine gd_ifRetP (ρ2 := [.val (lI mine), .val (lI theirs), .val (lI drawn), .val (lI more), .val (dL lI [levelsL mine theirs 1, levelsL mine theirs 0]), .val (lI mine), .val (lI theirs), .val (pt), .val (d), .val (eRP (rowP mine theirs)), .any, .any, .any]) (by repeat (first | exact Pk.nil | refine Pk.same ?_ | refine Pk.raw (show Rp K E v (eRP (rowP mine theirs)) from hp.rp) ?_)) (EvT.cast (k' := false) (EvW.t (ew_or (et_not (et_ev (ev_call (c_law_row_right T h h1) (hr.mono (by decide)) (ea_cons (ev_var (nm 4 rfl (.inl rfl) rfl rfl) rfl) (ea_cons (ev_ixT (ev_var (nm 9 rfl (.inl rfl) rfl rfl) rfl) ev_int rfl (fun _ _ => rfl)) (ea_cons (ev_ixT (ev_var (nm 9 rfl (.inl rfl) rfl rfl) rfl) ev_int rfl (fun _ _ => rfl)) ea_nil rfl) rfl) rfl) rfl (by decide) rfl rfl) (fun _ => rfl))) fun hb0 => (ew_or1 (et_not (et_ev (ev_call (c_look_goodT1 T h h1 (rowP mine theirs) hok (mates_show h)) (hr.mono (by decide)) (ea_cons ev_int (ea_cons (ev_var (nm 0 rfl (.inl rfl) rfl rfl) rfl) (ea_cons (ev_var (nm 1 rfl (.inl rfl) rfl rfl) rfl) (ea_cons (ev_var (nm 9 rfl (.inl rfl) rfl rfl) rfl) (ea_cons ev_bl ea_nil rfl) rfl) rfl) rfl) rfl) rfl (by decide) rfl rfl) (fun _ => rfl)))))) ?_) (fun e => nomatch e) fun _ => ?_
    · show (!showsRow mine theirs (rowL mine theirs) (matesL mine theirs) || !true) = false
      rw [mates_show h]
      rfl
    refine gd_ifRetP (ρ2 := [.val (lI mine), .val (lI theirs), .val (lI drawn), .val (lI more), .val (dL lI [levelsL mine theirs 1, levelsL mine theirs 0]), .val (lI mine), .val (lI theirs), .val (pt), .val (d), .val (eRP (rowP mine theirs)), .any, .any, .any]) (by repeat (first | exact Pk.nil | refine Pk.same ?_ | refine Pk.raw (show Rp K E v (eRP (rowP mine theirs)) from hp.rp) ?_)) (EvT.cast (k' := false) (et_cmp (ec_neLI hr.units (ev_ixT (ev_var (nm 9 rfl (.inl rfl) rfl rfl) rfl) ev_int rfl (fun _ _ => rfl)) (ev_call (c_law_mates T h h1) (hr.mono (by decide)) (ea_cons (ev_var (nm 0 rfl (.inl rfl) rfl rfl) rfl) (ea_cons (ev_var (nm 1 rfl (.inl rfl) rfl rfl) rfl) (ea_cons (Ev.cast (d' := lI (levelsL mine theirs 1)) (ev_ixLL (Ev.l (ev_var (nm 4 rfl (.inl rfl) rfl rfl) rfl)) ev_int ?_ ?_ (fun _ _ => rfl)) ?_) (ea_cons (Ev.cast (d' := lI (levelsL mine theirs 0)) (ev_ixLL (Ev.l (ev_var (nm 4 rfl (.inl rfl) rfl rfl) rfl)) ev_int ?_ ?_ (fun _ _ => rfl)) ?_) ea_nil rfl) rfl) rfl) rfl) rfl (by decide) rfl rfl)) (nomark _ (by decide) (by decide))) ?_) (fun e => nomatch e) fun _ => ?_
    · decide
    · exact d0
    · rfl
    · decide
    · exact d1
    · rfl
    · show (!decide (matesL mine theirs = matesL mine theirs)) = _
      simp
    refine gd_seq (M := fun r E' => E = E' ∧ r = [.val (lI mine), .val (lI theirs), .val (lI drawn), .val (lI more), .val (dL lI [levelsL mine theirs 1, levelsL mine theirs 0]), .val (lI mine), .val (lI theirs), .val (lI (matesL mine theirs)), .val (d), .raw (v), .any, .any, .any]) (ge_copyP (k := 7) (ρ2 := [.val (lI mine), .val (lI theirs), .val (lI drawn), .val (lI more), .val (dL lI [levelsL mine theirs 1, levelsL mine theirs 0]), .val (lI mine), .val (lI theirs), .val (pt), .val (d), .val (eRP (rowP mine theirs)), .any, .any, .any]) (by repeat (first | exact Pk.nil | refine Pk.same ?_ | refine Pk.raw (show Rp K E v (eRP (rowP mine theirs)) from hp.rp) ?_)) nd rfl (.inl rfl) (evn_list T.b_list (Ev.l (ev_ixT (ev_var (nm 9 rfl (.inl rfl) rfl rfl) rfl) ev_int rfl (fun _ _ => rfl))) rfl rfl rfl) ⟨rfl, rfl⟩ rfl (.inl rfl)) ?_
    rintro _ _ ⟨rfl, rfl⟩
    obtain ⟨q, hq, hE⟩ := hp.at (i := 1) (ns := rowL mine theirs) rfl
    refine gd_seq (M := fun r E' => E = E' ∧ r = [.val (lI mine), .val (lI theirs), .val (lI drawn), .val (lI more), .val (dL lI [levelsL mine theirs 1, levelsL mine theirs 0]), .val (lI mine), .val (lI theirs), .val (lI (matesL mine theirs)), .val (d), .raw (v), .raw (.ref q), .any, .any]) (ge_item (k := 10) (kp := 9) (m := 1) nd rfl (.inl rfl) (nm 9 rfl (.inl rfl) rfl rfl) rfl hq ⟨rfl, rfl⟩ rfl (.inl rfl) (fun _ _ => rfl)) ?_
    rintro _ _ ⟨rfl, rfl⟩
    refine gd_seq (M := fun r E' => E' = upd E q (.lst ((rowL mine theirs ++ [0]).map V.int)) ∧ r = [.val (lI mine), .val (lI theirs), .val (lI drawn), .val (lI more), .val (dL lI [levelsL mine theirs 1, levelsL mine theirs 0]), .val (lI mine), .val (lI theirs), .val (lI (matesL mine theirs)), .val (d), .raw (v), .raw (.ref q), .any, .any]) (ge_appE (k := 10) (nm 10 rfl (.inl rfl) rfl rfl) rfl hE ev_int (by omega) ⟨rfl, rfl⟩ rfl rfl rfl rfl rfl rfl) ?_
    rintro _ _ ⟨rfl, rfl⟩
    have hp2 := hp.set rfl hq hE (rowL mine theirs ++ [0])
    refine gd_ifRetP (ρ2 := [.val (lI mine), .val (lI theirs), .val (lI drawn), .val (lI more), .val (dL lI [levelsL mine theirs 1, levelsL mine theirs 0]), .val (lI mine), .val (lI theirs), .val (lI (matesL mine theirs)), .val (d), .val (eRP { rowP mine theirs with row := rowL mine theirs ++ [0] }), .raw (.ref q), .any, .any]) (by repeat (first | exact Pk.nil | refine Pk.same ?_ | refine Pk.raw (show Rp K _ v (eRP { rowP mine theirs with row := rowL mine theirs ++ [0] }) from hp2.rp) ?_)) (EvT.cast (k' := false) (et_cmp (ec_isnB (ev_call (c_look_row T h h1 { rowP mine theirs with row := rowL mine theirs ++ [0] } hok.2) (hr.mono (by decide)) (ea_cons (ev_var (nm 5 rfl (.inl rfl) rfl rfl) rfl) (ea_cons (ev_var (nm 6 rfl (.inl rfl) rfl rfl) rfl) (ea_cons (ev_var (nm 9 rfl (.inl rfl) rfl rfl) rfl) ea_nil rfl) rfl) rfl) rfl (by decide) rfl rfl) ev_bl) (nomark _ (by decide) (by decide))) ?_) (fun e => nomatch e) fun _ => ?_
    · show (!decide (showsRow mine theirs (rowL mine theirs ++ [0]) _ = false)) = _
      rw [row_bad (by rw [List.length_append, hrl]; show _ + 1 ≠ _; omega)]
      rfl
    obtain ⟨q2, hq2, hE2⟩ := hp2.at (i := 2) (ns := matesL mine theirs) rfl
    refine gd_seq (M := fun r E' => upd E q (.lst ((rowL mine theirs ++ [0]).map V.int)) = E' ∧ r = [.val (lI mine), .val (lI theirs), .val (lI drawn), .val (lI more), .val (dL lI [levelsL mine theirs 1, levelsL mine theirs 0]), .val (lI mine), .val (lI theirs), .val (lI (matesL mine theirs)), .val (d), .raw (v), .raw (.ref q2), .any, .any]) (ge_item (k := 10) (kp := 9) (m := 2) nd rfl (.inl rfl) (nm 9 rfl (.inl rfl) rfl rfl) rfl hq2 ⟨rfl, rfl⟩ rfl (.inl rfl) (fun _ _ => rfl)) ?_
    rintro _ _ ⟨rfl, rfl⟩
    refine gd_seq (M := fun r E' => r = [.val (lI mine), .val (lI theirs), .val (lI drawn), .val (lI more), .val (dL lI [levelsL mine theirs 1, levelsL mine theirs 0]), .val (lI mine), .val (lI theirs), .val (lI (matesL mine theirs)), .val (d), .raw (v), .raw (.ref q2), .any, .any]) (ge_clrE (k := 10) (nm 10 rfl (.inl rfl) rfl rfl) rfl hE2 rfl rfl rfl rfl) ?_
    rintro _ _ rfl
    refine gd_nil ⟨?_, trivial⟩
    rw [if_neg (Nat.succ_ne_zero i)]
    exact (by repeat (first | exact Wk.nil | refine Wk.any ?_ | refine Wk.same ?_ | refine Wk.frz ?_))
  · intro _
    rw [List.length_map, List.length_range]
    show Bd _ [.val (lI mine), .val (lI theirs), .val (lI drawn), .val (lI more), .val (dL lI [levelsL mine theirs 1, levelsL mine theirs 0]), .val (lI mine), .val (lI theirs), .val (lI (matesL mine theirs)), .any, .any, .any, .any, .any] _ _
    refine bd_seq1 (sd_asg (k := 11) nd rfl (.inl rfl) (Ev.cast (d' := eRP (rowP mine theirs)) (ev_tup (ea_cons (ev_strW [114, 111, 119]) (ea_cons (EvN.ev (evn_sortedI hr.units T.b_sorted (Ev.l (ev_ixLL (Ev.l (ev_var (nm 4 rfl (.inl rfl) rfl rfl) rfl)) ev_int ?_ ?_ (fun _ _ => rfl))) rfl rfl rfl)) (ea_cons (ev_var (nm 7 rfl (.inl rfl) rfl rfl) rfl) ea_nil rfl) rfl) rfl) (Nat.le_of_ble_eq_true rfl)) ?_) rfl rfl (.inl rfl)) ?_
    · decide
    · exact d0
    · rfl
    have m0 := hm2 0 (by decide)
    have m1 := hm2 1 (by decide)
    have hrc := rowsNear_cnt (rowL mine theirs) (more.getD 0 0).toNat (more.getD 1 0).toNat
    have hpc := pairsNear_cnt (matesL mine theirs) (more.getD 0 0).toNat (more.getD 1 0).toNat
    refine bd_seq1 (sd_asg (k := 12) nd rfl (.inl rfl) (ev_call (c_near_RP T (p := rowP mine theirs) (k := 1) (fun y => { rowP mine theirs with row := y }) (rowsNear (rowL mine theirs) (more.getD 0 0).toNat (more.getD 1 0).toNat) (fun x => rfl) (by decide) (by omega)) (hr.mono (by decide)) (ea_cons (ev_var (nm 11 rfl (.inl rfl) rfl rfl) rfl) (ea_cons ev_int (ea_cons (ev_call (c_law_rows_near T (ps := rowL mine theirs) (by omega) (fun hz => by omega) (fun hz => by omega)) (hr.mono (by decide)) (ea_cons (ev_ixT (ev_var (nm 11 rfl (.inl rfl) rfl rfl) rfl) ev_int rfl (fun _ _ => rfl)) (ea_cons (Ev.cast (d' := dN (more.getD 0 0).toNat) (ev_ixG (0 : Int) (Ev.l (ev_var (nm 3 rfl (.inl rfl) rfl rfl) rfl)) ev_int ?_ ?_ (fun _ _ => rfl)) ?_) (ea_cons (Ev.cast (d' := dN (more.getD 1 0).toNat) (ev_ixG (0 : Int) (Ev.l (ev_var (nm 3 rfl (.inl rfl) rfl rfl) rfl)) ev_int ?_ ?_ (fun _ _ => rfl)) ?_) ea_nil rfl) rfl) rfl) rfl (by decide) rfl rfl) ea_nil rfl) rfl) rfl) rfl (by decide) rfl rfl) rfl rfl (.inl rfl)) ?_
    · decide
    · omega
    · exact congrArg D.int (Int.toNat_of_nonneg m0.1).symm
    · decide
    · omega
    · exact congrArg D.int (Int.toNat_of_nonneg m1.1).symm
    refine bd_seq1 (sd_asg (k := 12) nd rfl (.inl rfl) (Ev.cast (d' := dL eRP ((rowsNear (rowL mine theirs) (more.getD 0 0).toNat (more.getD 1 0).toNat).map (fun y => { rowP mine theirs with row := y }) ++ (pairsNear (matesL mine theirs) (more.getD 0 0).toNat (more.getD 1 0).toNat ++ [drawn]).map fun y => { rowP mine theirs with mates := y })) (EvN.ev (evn_cat (Ev.l (ev_var (nm 12 rfl (.inl rfl) rfl rfl) rfl)) (Ev.l (ev_call (c_near_RP T (p := rowP mine theirs) (k := 2) (fun y => { rowP mine theirs with mates := y }) (pairsNear (matesL mine theirs) (more.getD 0 0).toNat (more.getD 1 0).toNat ++ [drawn]) (fun x => rfl) (by decide) (by rw [List.length_append]; show _ + 1 ≤ _; omega)) (hr.mono (by decide)) (ea_cons (ev_var (nm 11 rfl (.inl rfl) rfl rfl) rfl) (ea_cons ev_int (ea_cons (EvN.ev (EvN.cast (d' := (pairsNear (matesL mine theirs) (more.getD 0 0).toNat (more.getD 1 0).toNat ++ [drawn]).map lI) (evn_cat (Ev.l (ev_call (c_law_pairings_near T (ps := matesL mine theirs) (by omega) (fun hz => by omega) (fun hz => by omega)) (hr.mono (by decide)) (ea_cons (ev_var (nm 7 rfl (.inl rfl) rfl rfl) rfl) (ea_cons (Ev.cast (d' := dN (more.getD 0 0).toNat) (ev_ixG (0 : Int) (Ev.l (ev_var (nm 3 rfl (.inl rfl) rfl rfl) rfl)) ev_int ?_ ?_ (fun _ _ => rfl)) ?_) (ea_cons (Ev.cast (d' := dN (more.getD 1 0).toNat) (ev_ixG (0 : Int) (Ev.l (ev_var (nm 3 rfl (.inl rfl) rfl rfl) rfl)) ev_int ?_ ?_ (fun _ _ => rfl)) ?_) ea_nil rfl) rfl) rfl) rfl (by decide) rfl rfl)) (EvN.l (evn_lst (ea_cons (ev_var (nm 2 rfl (.inl rfl) rfl rfl) rfl) ea_nil rfl) (Nat.le_of_ble_eq_true rfl))) ?_) ?_)) ea_nil rfl) rfl) rfl) rfl (by decide) rfl rfl)) ?_)) ?_) rfl rfl (.inl rfl)) ?_
    · decide
    · omega
    · exact congrArg D.int (Int.toNat_of_nonneg m0.1).symm
    · decide
    · omega
    · exact congrArg D.int (Int.toNat_of_nonneg m1.1).symm
    · rw [List.length_map]
      show _ + 1 ≤ _
      omega
    · rw [List.map_append]
      rfl
    · simp only [List.length_map, List.length_append, List.length_cons, List.length_nil]
      omega
    · exact congrArg D.lst List.map_append.symm
    obtain ⟨ps, hps⟩ : ∃ ps, ps = (rowsNear (rowL mine theirs) (more.getD 0 0).toNat (more.getD 1 0).toNat).map (fun y => { rowP mine theirs with row := y }) ++ (pairsNear (matesL mine theirs) (more.getD 0 0).toNat (more.getD 1 0).toNat ++ [drawn]).map fun y => { rowP mine theirs with mates := y } := ⟨_, rfl⟩
    have hpok : ∀ p ∈ ps, okRP p := fun p hp => by
      rw [hps] at hp
      rcases List.mem_append.mp hp with hp | hp
      · exact nearR_ok (g := fun y => { rowP mine theirs with row := y }) (fun x _ => hok) p hp
      · refine nearR_ok (g := fun y => { rowP mine theirs with mates := y }) (fun x hx => ⟨hok.1, ?_⟩) p hp
        show x.length ≤ 1000
        rcases List.mem_append.mp hx with hx | hx
        · have := pairsNear_len x hx
          omega
        · rw [List.mem_singleton.mp hx]
          omega
    have hpl : ps.length ≤ 50 := by
      rw [hps]
      simp only [List.length_map, List.length_append, List.length_cons, List.length_nil]
      omega
    rw [← hps]
    refine bd_one (sd_ret (ev_and (l := true) (ev_call (c_law_looks_good1 T h h1 (ps := ps ++ [rowP mine theirs]) (fun p hp => by rcases List.mem_append.mp hp with hp | hp; exact hpok p hp; rw [List.mem_singleton.mp hp]; exact hok) (by rw [List.length_append]; show _ + 1 ≤ _; omega)) (hr.mono (by decide)) (ea_cons ev_int (ea_cons (ev_var (nm 0 rfl (.inl rfl) rfl rfl) rfl) (ea_cons (ev_var (nm 1 rfl (.inl rfl) rfl rfl) rfl) (ea_cons (EvN.ev (EvN.cast (d' := (ps ++ [rowP mine theirs]).map eRP) (evn_cat (Ev.l (ev_var (nm 12 rfl (.inl rfl) rfl rfl) rfl)) (EvN.l (evn_lst (ea_cons (ev_var (nm 11 rfl (.inl rfl) rfl rfl) rfl) ea_nil rfl) (Nat.le_of_ble_eq_true rfl))) ?_) ?_)) ea_nil rfl) rfl) rfl) rfl) rfl (by decide) rfl rfl) fun _ => ev_and1 ?_) ?_)
    · rw [List.length_map]
      show _ + 1 ≤ _
      omega
    · rw [List.map_append]
      rfl
    · exact (ev_call (c_law_looks_good1 T h.symm h2 hpok (by omega)) (hr.mono (by decide)) (ea_cons ev_int (ea_cons (ev_var (nm 1 rfl (.inl rfl) rfl rfl) rfl) (ea_cons (ev_var (nm 0 rfl (.inl rfl) rfl rfl) rfl) (ea_cons (ev_var (nm 12 rfl (.inl rfl) rfl rfl) rfl) ea_nil rfl) rfl) rfl) rfl) rfl (by decide) rfl rfl)
    · rfl
end
end Y
end S_F16

section S_F17
set_option maxHeartbeats 2000000
namespace Y
open PySem PySem.Spec PyProof.Rows L2
theorem bd_forJ {X : Cx} {ρ : Rho} {pos pos' : Pos} {x : Str} {rest body : List Stmt} {P : Post} {iter : Expr} {ds : List D} (k : Nat) (I : Nat → Rho → Prop) (hp : PassesOwn (model X.prog X.w) X.A X.env X.xe) (hc : X.calm = true) (hN : X.N.Nodup) (hk : X.N[k]? = some x) (hx : Loc X.env.scope x)
    (h0 : ∃ r', Wk ρ r' ∧ I 0 r') (ht : ∀ i d r, ds[i]? = some d → I i r → Bd X (r.set k (.val d)) body ⟨fun r => ∃ r', Wk r r' ∧ I (i + 1) r', P.rt⟩) (hd : ∀ r, I ds.length r → Bd X r rest P)
    (hi2 : ∀ r', Wk ρ r' → I 0 r' → EvI X r' (.Name x pos') iter ds)
    (hf : X.fn x = true ∨ X.env.scope.names.lookup x = some .local := by first | exact .inl rfl | exact .inr rfl | assumption) (hs : ∀ x, foldedSetIterable iter X.env x = pure x := by intro _; rfl) : Bd X ρ (.For (.Name x pos') iter body [] pos :: rest) P := by
  obtain ⟨r', w, h0⟩ := h0
  refine bd_wk w ?_
  exact bd_seq (M := fun r => I ds.length r) (sd_forN (k := k) I hp hc (hi2 r' w h0) hN hk hx h0 (fun i ρ' d hd hI => bd_post (ht i d ρ' hd hI)) (fun r h => h) hf hs) hd
abbrev wVal : List Nat := [118, 97, 108, 117, 101]
def valP (mine theirs : List Int) (ws many : List Nat) : ValP := ⟨wVal, ws, many, cval (rowL mine theirs) ws many, rowL mine theirs, matesL mine theirs⟩
theorem side_many {s : Int} (hs : s = 0 ∨ s = 1) : (decide (sideW s = wMine) || decide (sideW s = wTheirs)) = true := by
  rcases hs with rfl | rfl <;> rfl
theorem side_asc {s : Int} (hs : s = 0 ∨ s = 1) : asc (sideW s) := by
  rcases hs with rfl | rfl
  · show asc wTheirs
    unfold asc
    decide
  · show asc wMine
    unfold asc
    decide
theorem letters_asc {ws : List Nat} (h : letters ws) : asc ws := fun c hc => by
  rcases h c hc with rfl | rfl <;> decide
theorem val_looks {mine theirs : List Int} {ws : List Nat} {s : Int} (h : mine.length = theirs.length) (hs : s = 0 ∨ s = 1) (hl : letters ws) (hz : ws.length = mine.length) : lookValue mine theirs (valP mine theirs ws (sideW s)) = true := by
  unfold lookValue valP
  simp only
  rw [side_many hs, mates_show h, decide_eq_true hz, decide_eq_true (letters_cnt hl)]
  simp
def wordsW : List (List Nat) := [wMine, wTheirs, [], [110, 111, 98, 111, 100, 121], [77, 105, 110, 101]]
theorem words_asc : ∀ y ∈ wordsW, asc y := by
  unfold asc
  decide
section
variable {P : Program} {w : World} {K : PySem.W.Frag} {mg : Str → Option Value} {base : Heap}
theorem c_form_VP (T : Tx K mg) (p : ValP) (h1 : p.row.length ≤ 100000) (h2 : p.mates.length ≤ 100000) : Cal P w K mg base 3 "_law_form_good" [eVP p, dW [115, 115, 115, 105, 108, 108]] (.bl true) :=
  c_law_form_good T (.s (.s (.s (.i (.l (.l .nil)))))) (by decide) fun ns hn => by
    simp only [List.mem_cons, List.not_mem_nil, or_false] at hn
    rcases hn with e | e | e | e | e | e
    · cases e
    · cases e
    · cases e
    · cases e
    · rw [lI_inj e]
      exact h1
    · rw [lI_inj e]
      exact h2
theorem c_look_goodT2 (T : Tx K mg) {mine theirs : List Int} (h : mine.length = theirs.length) (h1 : mine.length ≤ 1000) (p : ValP) (hp : okVP p) (hv : lookValue mine theirs p = true) : Cal P w K mg base 6 "_law_look_good" [.int 2, lI mine, lI theirs, eVP p, .bl true] (.bl true) := by
  have := c_law_look_good2 (P := P) (w := w) (base := base) T h h1 p hp
  rw [hv] at this
  exact this
theorem c_near_VP (T : Tx K mg) {α : Type} {f : α → D} {p : ValP} {k : Nat} (g : α → ValP) (xs : List α) (he : ∀ x, D.tup (([dW p.tag, dW p.word, dW p.many, .int p.worth, lI p.row, lI p.mates] : List D).set k (f x)) = eVP (g x)) (hk : k < 6) (h1 : xs.length ≤ 100000) : Cal P w K mg base 1 "_law_near" [eVP p, .int (k : Int), dL f xs] (dL eVP (xs.map g)) := by
  have h := c_law_near (P := P) (w := w) (base := base) T (f := f) (xs := xs) (ds := [dW p.tag, dW p.word, dW p.many, .int p.worth, lI p.row, lI p.mates]) (k := k) h1 (Nat.le_of_ble_eq_true rfl) hk
  have e : dL (fun x => D.tup (([dW p.tag, dW p.word, dW p.many, .int p.worth, lI p.row, lI p.mates] : List D).set k (f x))) xs = dL eVP (xs.map g) := by
    unfold dL
    rw [List.map_map]
    exact congrArg D.lst (List.map_congr_left fun x _ => he x)
  rw [e] at h
  exact h
theorem nearV_ok {α : Type} (g : α → ValP) {xs : List α} (h : ∀ x ∈ xs, okVP (g x)) : ∀ p ∈ xs.map g, okVP p := fun p hp => by
  obtain ⟨x, hx, rfl⟩ := List.mem_map.mp hp
  exact h x hx
theorem c_law_values_good (T : Tx K mg) {mine theirs drawn more : List Int} {ws : List Nat} {s : Int} (h : mine.length = theirs.length) (h1 : mine.length ≤ 300) (hs : s = 0 ∨ s = 1) (hl : letters ws) (hz : ws.length = mine.length) (hd1 : drawn.length = mine.length) (hm : 2 ≤ more.length ∧ more.length ≤ 100) (hm2 : ∀ i, i < 2 → 0 ≤ more.getD i 0 ∧ more.getD i 0 < max 1 (mine.length : Int)) : Cal P w K mg base 8 "_law_values_good" [lI mine, lI theirs, dW ws, dW (sideW s), lI drawn, lI more] (.bl true) := by
  have h1' : mine.length ≤ 1000 := by omega
  have h2 : theirs.length ≤ 1000 := by omega
  have h1s := h1
  replace h1 : mine.length ≤ 1000 := h1'
  have hrl := rowL_len mine theirs
  have hml := mates_len mine theirs
  have hok : okVP (valP mine theirs ws (sideW s)) := ⟨by show asc wVal; unfold asc; decide, letters_asc hl, side_asc hs, by show ws.length ≤ _; omega, by show (matesL _ _).length ≤ _; omega⟩
  have d0 : (0 : Int) < (([levelsL mine theirs 1, levelsL mine theirs 0].length : Nat) : Int) := Int.ofNat_lt.mpr (Nat.zero_lt_succ _)
  have d1 : (1 : Int) < (([levelsL mine theirs 1, levelsL mine theirs 0].length : Nat) : Int) := Int.ofNat_lt.mpr (Nat.lt_succ_self _)
  refine cal_of T.d_law_values_good sc_law_values_good (fun _ _ _ _ _ _ us hl => match us, hl with | [_, _, _, _, _, _], _ => rfl) rfl fun Y hr => ?_
  have nd := sc_law_values_good.nd
  show Bd _ [.val _, .val _, .val _, .val _, .val _, .val _, .any, .any, .any, .any, .any, .any, .any, .any, .any, .any, .any, .any] _ _
  refine bd_seq1 (sd_asg (k := 6) nd rfl (.inl rfl) (ev_call (c_law_levels T h h1) (hr.mono (by decide)) (ea_cons (ev_var (nm 0 rfl (.inl rfl) rfl rfl) rfl) (ea_cons (ev_var (nm 1 rfl (.inl rfl) rfl rfl) rfl) ea_nil rfl) rfl) rfl (by decide) rfl rfl) rfl rfl (.inl rfl)) ?_
  refine bd_seq1 (sd_asg (k := 7) nd rfl (.inl rfl) (Ev.cast (d' := lI (rowL mine theirs)) (EvN.ev (evn_sortedI hr.units T.b_sorted (Ev.l (ev_ixLL (Ev.l (ev_var (nm 6 rfl (.inl rfl) rfl rfl) rfl)) ev_int ?_ ?_ (fun _ _ => rfl))) rfl rfl rfl)) ?_) rfl rfl (.inl rfl)) ?_
  · decide
  · exact d0
  · rfl
  refine bd_seq1 (sd_asg (k := 8) nd rfl (.inl rfl) (Ev.cast (d' := .int (cval (rowL mine theirs) ws (sideW s))) (ev_call (c_law_value T (by omega) (fun _ => by omega)) (hr.mono (by decide)) (ea_cons (ev_var (nm 7 rfl (.inl rfl) rfl rfl) rfl) (ea_cons (ev_var (nm 2 rfl (.inl rfl) rfl rfl) rfl) (ea_cons (ev_var (nm 3 rfl (.inl rfl) rfl rfl) rfl) ea_nil rfl) rfl) rfl) rfl (by decide) rfl rfl) ?_) rfl rfl (.inl rfl)) ?_
  · rw [lval_c hl]
  refine bd_seq1 (sd_asg (k := 9) nd rfl (.inl rfl) (EvN.ev (evn_list T.b_list (Ev.l (ev_var (nm 0 rfl (.inl rfl) rfl rfl) rfl)) rfl rfl rfl)) rfl rfl (.inl rfl)) (bd_seq1 (sd_asg (k := 10) nd rfl (.inl rfl) (EvN.ev (evn_list T.b_list (Ev.l (ev_var (nm 1 rfl (.inl rfl) rfl rfl) rfl)) rfl rfl rfl)) rfl rfl (.inl rfl)) (bd_seq1 (sd_asg (k := 11) nd rfl (.inl rfl) (EvN.ev (evn_lst ea_nil (Nat.le_of_ble_eq_true rfl))) rfl rfl (.inl rfl)) ?_))
  refine bd_for 12 (fun i => [.val (lI mine), .val (lI theirs), .val (dW ws), .val (dW (sideW s)), .val (lI drawn), .val (lI more), .val (dL lI [levelsL mine theirs 1, levelsL mine theirs 0]), .val (lI (rowL mine theirs)), .val (.int (cval (rowL mine theirs) ws (sideW s))), .val (lI mine), .val (lI theirs), .val (lI (if i = 0 then [] else matesL mine theirs)), .any, .any, .any, .any, .any, .any]) (fun _ => True) PassesOwn.never rfl nd rfl (.inl rfl) (by repeat (first | exact Wk.nil | refine Wk.any ?_ | refine Wk.same ?_ | refine Wk.frz ?_)) (ei_rng1 T.b_range ev_int ?_ ?_ rfl rfl rfl) trivial ?_ ?_ (.inl rfl) (fun _ => rfl)
  · decide
  · decide
  · intro i d hd _
    obtain ⟨_, rfl⟩ := rng_get hd
    refine bd_gd ?_
    obtain ⟨pt, hpt⟩ : ∃ pt, pt = lI (if i = 0 then [] else matesL mine theirs) := ⟨_, rfl⟩
    rw [← hpt]
    refine gd_seq (M := fun r E' => ∃ v, PapX K E' v (valN mine theirs ws (sideW s)) ∧ r = [.val (lI mine), .val (lI theirs), .val (dW ws), .val (dW (sideW s)), .val (lI drawn), .val (lI more), .val (dL lI [levelsL mine theirs 1, levelsL mine theirs 0]), .val (lI (rowL mine theirs)), .val (.int (cval (rowL mine theirs) ws (sideW s))), .val (lI mine), .val (lI theirs), .val (pt), .val (.int (i : Int)), .raw (v), .any, .any, .any, .any]) (ge_papK (k := 13) (c_value_paperK T h h1 hs hl hz) (hr.mono (by decide)) (ea_cons (ev_var (nm 9 rfl (.inl rfl) rfl rfl) rfl) (ea_cons (ev_var (nm 10 rfl (.inl rfl) rfl rfl) rfl) (ea_cons (ev_var (nm 2 rfl (.inl rfl) rfl rfl) rfl) ea_nil rfl) rfl) rfl) (ev_var (nm 3 rfl (.inl rfl) rfl rfl) rfl) nd rfl (.inl rfl) (fun v E' hp => ⟨v, hp, rfl⟩) rfl rfl rfl (by decide) rfl rfl rfl (.inl rfl)) ?_
    rintro _ E ⟨v, hp, rfl⟩
    refine gd_seq (M := fun r E' => ∃ v, PapX K E' v (valN mine theirs ws (sideW s)) ∧ r = [.val (lI mine), .val (lI theirs), .val (dW ws), .val (dW (sideW s)), .val (lI drawn), .val (lI more), .val (dL lI [levelsL mine theirs 1, levelsL mine theirs 0]), .val (lI (rowL mine theirs)), .val (.int (cval (rowL mine theirs) ws (sideW s))), .val (lI mine), .val (lI theirs), .val (pt), .val (.int (i : Int)), .raw (v), .any, .any, .any, .any]) (gd_if (EvW.t (ew_and (et_cmp (ec_eqI (ev_var (nm 12 rfl (.inl rfl) rfl rfl) rfl) ev_int) (nomark _ (by decide) (by decide))) fun hb0 => (ew_and1 (et_cmp (ec_eqW (ev_var (nm 3 rfl (.inl rfl) rfl rfl) rfl) (ev_strW [109, 105, 110, 101])) (nomark _ (by decide) (by decide)))))) (fun e => ?_) (fun e => gd_nil ⟨v, hp, rfl⟩)) ?_
    · have e1 : s = 1 := by
        rcases hs with rfl | rfl
        · have e2 := (Bool.and_eq_true_iff.mp e).2
          have e3 : sideW 0 = wMine := of_decide_eq_true e2
          exact absurd e3 (by decide)
        · rfl
      subst e1
      refine gd_seq (M := fun r E' => ∃ v, PapX K E' v (valN mine theirs ws (sideW 1)) ∧ r = [.val (lI mine), .val (lI theirs), .val (dW ws), .val (dW (sideW 1)), .val (lI drawn), .val (lI more), .val (dL lI [levelsL mine theirs 1, levelsL mine theirs 0]), .val (lI (rowL mine theirs)), .val (.int (cval (rowL mine theirs) ws (sideW 1))), .val (lI mine), .val (lI theirs), .val (pt), .val (.int (i : Int)), .raw (v), .any, .any, .any, .any]) (ge_papD (k := 13) (c_value_paperD T h h1 hl hz) (hr.mono (by decide)) (ea_cons (ev_var (nm 9 rfl (.inl rfl) rfl rfl) rfl) (ea_cons (ev_var (nm 10 rfl (.inl rfl) rfl rfl) rfl) (ea_cons (ev_var (nm 2 rfl (.inl rfl) rfl rfl) rfl) ea_nil rfl) rfl) rfl) nd rfl (.inl rfl) (fun v E' hp => ⟨v, hp, rfl⟩) rfl (by decide) rfl rfl rfl (.inl rfl)) ?_
      rintro _ E ⟨v, hp, rfl⟩
      exact gd_nil ⟨v, hp, rfl⟩
    rintro _ E ⟨v, hp, rfl⟩
    refine gd_ifRetP (ρ2 := [.val (lI mine), .val (lI theirs), .val (dW ws), .val (dW (sideW s)), .val (lI drawn), .val (lI more), .val (dL lI [levelsL mine theirs 1, levelsL mine theirs 0]), .val (lI (rowL mine theirs)), .val (.int (cval (rowL mine theirs) ws (sideW s))), .val (lI mine), .val (lI theirs), .val (pt), .val (.int (i : Int)), .val (eVP (valP mine theirs ws (sideW s))), .any, .any, .any, .any]) (by repeat (first | exact Pk.nil | refine Pk.same ?_ | refine Pk.raw (show Rp K E v (eVP (valP mine theirs ws (sideW s))) from hp.rp) ?_)) (EvT.cast (k' := false) (EvW.t (ew_or (et_not (et_ev (ev_call (c_form_VP T (valP mine theirs ws (sideW s)) (by show (rowL _ _).length ≤ _; omega) (by show (matesL _ _).length ≤ _; omega)) (hr.mono (by decide)) (ea_cons (ev_var (nm 13 rfl (.inl rfl) rfl rfl) rfl) (ea_cons (ev_strW [115, 115, 115, 105, 108, 108]) ea_nil rfl) rfl) rfl (by decide) rfl rfl) (fun _ => rfl))) fun hb0 => (ew_or (et_cmp (ec_neLI hr.units (ev_var (nm 9 rfl (.inl rfl) rfl rfl) rfl) (ev_var (nm 0 rfl (.inl rfl) rfl rfl) rfl)) (nomark _ (by decide) (by decide))) fun hb1 => (ew_or1 (et_cmp (ec_neLI hr.units (ev_var (nm 10 rfl (.inl rfl) rfl rfl) rfl) (ev_var (nm 1 rfl (.inl rfl) rfl rfl) rfl)) (nomark _ (by decide) (by decide))))))) ?_) (fun e => nomatch e) fun _ => ?_
    · simp
    have fin5 : Fine 60 (.tup [dW wVal, dW ws, dW (sideW s), .int (cval (rowL mine theirs) ws (sideW s)), lI (rowL mine theirs)]) := fine_tup (k := 59) fun d hd => by
      simp only [List.mem_cons, List.not_mem_nil, or_false] at hd
      rcases hd with rfl | rfl | rfl | rfl | rfl
      · exact fineW hok.1
      · exact fineW hok.2.1
      · exact fineW hok.2.2.1
      · exact fine_int _
      · exact fine_ints _
    refine gd_ifRetP (ρ2 := [.val (lI mine), .val (lI theirs), .val (dW ws), .val (dW (sideW s)), .val (lI drawn), .val (lI more), .val (dL lI [levelsL mine theirs 1, levelsL mine theirs 0]), .val (lI (rowL mine theirs)), .val (.int (cval (rowL mine theirs) ws (sideW s))), .val (lI mine), .val (lI theirs), .val (pt), .val (.int (i : Int)), .val (eVP (valP mine theirs ws (sideW s))), .any, .any, .any, .any]) (by repeat (first | exact Pk.nil | refine Pk.same ?_ | refine Pk.raw (show Rp K E v (eVP (valP mine theirs ws (sideW s))) from hp.rp) ?_)) (EvT.cast (k' := false) (EvW.t (ew_or (et_cmp (ec_neD hr.units ?_ ?_ (ev_sliceT (ev_var (nm 13 rfl (.inl rfl) rfl rfl) rfl) ep_none (ep_some ev_int)) (ev_tup (ea_cons (ev_strW [118, 97, 108, 117, 101]) (ea_cons (ev_var (nm 2 rfl (.inl rfl) rfl rfl) rfl) (ea_cons (ev_var (nm 3 rfl (.inl rfl) rfl rfl) rfl) (ea_cons (ev_var (nm 8 rfl (.inl rfl) rfl rfl) rfl) (ea_cons (ev_var (nm 7 rfl (.inl rfl) rfl rfl) rfl) ea_nil rfl) rfl) rfl) rfl) rfl) (Nat.le_of_ble_eq_true rfl))) (nomark _ (by decide) (by decide))) fun hb0 => (ew_or1 (et_not (et_ev (ev_call (c_law_row_right T h h1) (hr.mono (by decide)) (ea_cons (ev_var (nm 6 rfl (.inl rfl) rfl rfl) rfl) (ea_cons (ev_var (nm 7 rfl (.inl rfl) rfl rfl) rfl) (ea_cons (ev_ixT (ev_var (nm 13 rfl (.inl rfl) rfl rfl) rfl) ev_int rfl (fun _ _ => rfl)) ea_nil rfl) rfl) rfl) rfl (by decide) rfl rfl) (fun _ => rfl)))))) ?_) (fun e => nomatch e) fun _ => ?_
    · exact fin5
    · exact fin5
    · show (!eqD (.tup [dW wVal, dW ws, dW (sideW s), .int (cval (rowL mine theirs) ws (sideW s)), lI (rowL mine theirs)]) (.tup [dW wVal, dW ws, dW (sideW s), .int (cval (rowL mine theirs) ws (sideW s)), lI (rowL mine theirs)]) || !showsRow mine theirs (rowL mine theirs) (matesL mine theirs)) = false
      rw [eqD_refl fin5, mates_show h]
      rfl
    refine gd_ifRetP (ρ2 := [.val (lI mine), .val (lI theirs), .val (dW ws), .val (dW (sideW s)), .val (lI drawn), .val (lI more), .val (dL lI [levelsL mine theirs 1, levelsL mine theirs 0]), .val (lI (rowL mine theirs)), .val (.int (cval (rowL mine theirs) ws (sideW s))), .val (lI mine), .val (lI theirs), .val (pt), .val (.int (i : Int)), .val (eVP (valP mine theirs ws (sideW s))), .any, .any, .any, .any]) (by repeat (first | exact Pk.nil | refine Pk.same ?_ | refine Pk.raw (show Rp K E v (eVP (valP mine theirs ws (sideW s))) from hp.rp) ?_)) (EvT.cast (k' := false) (et_cmp (ec_neLI hr.units (ev_ixT (ev_var (nm 13 rfl (.inl rfl) rfl rfl) rfl) ev_int rfl (fun _ _ => rfl)) (ev_call (c_law_mates T h h1) (hr.mono (by decide)) (ea_cons (ev_var (nm 0 rfl (.inl rfl) rfl rfl) rfl) (ea_cons (ev_var (nm 1 rfl (.inl rfl) rfl rfl) rfl) (ea_cons (Ev.cast (d' := lI (levelsL mine theirs 1)) (ev_ixLL (Ev.l (ev_var (nm 6 rfl (.inl rfl) rfl rfl) rfl)) ev_int ?_ ?_ (fun _ _ => rfl)) ?_) (ea_cons (Ev.cast (d' := lI (levelsL mine theirs 0)) (ev_ixLL (Ev.l (ev_var (nm 6 rfl (.inl rfl) rfl rfl) rfl)) ev_int ?_ ?_ (fun _ _ => rfl)) ?_) ea_nil rfl) rfl) rfl) rfl) rfl (by decide) rfl rfl)) (nomark _ (by decide) (by decide))) ?_) (fun e => nomatch e) fun _ => ?_
    · decide
    · exact d0
    · rfl
    · decide
    · exact d1
    · rfl
    · show (!decide (matesL mine theirs = matesL mine theirs)) = _
      simp
    refine gd_seq (M := fun r E' => E = E' ∧ r = [.val (lI mine), .val (lI theirs), .val (dW ws), .val (dW (sideW s)), .val (lI drawn), .val (lI more), .val (dL lI [levelsL mine theirs 1, levelsL mine theirs 0]), .val (lI (rowL mine theirs)), .val (.int (cval (rowL mine theirs) ws (sideW s))), .val (lI mine), .val (lI theirs), .val (lI (matesL mine theirs)), .val (.int (i : Int)), .raw (v), .any, .any, .any, .any]) (ge_copyP (k := 11) (ρ2 := [.val (lI mine), .val (lI theirs), .val (dW ws), .val (dW (sideW s)), .val (lI drawn), .val (lI more), .val (dL lI [levelsL mine theirs 1, levelsL mine theirs 0]), .val (lI (rowL mine theirs)), .val (.int (cval (rowL mine theirs) ws (sideW s))), .val (lI mine), .val (lI theirs), .val (pt), .val (.int (i : Int)), .val (eVP (valP mine theirs ws (sideW s))), .any, .any, .any, .any]) (by repeat (first | exact Pk.nil | refine Pk.same ?_ | refine Pk.raw (show Rp K E v (eVP (valP mine theirs ws (sideW s))) from hp.rp) ?_)) nd rfl (.inl rfl) (evn_list T.b_list (Ev.l (ev_ixT (ev_var (nm 13 rfl (.inl rfl) rfl rfl) rfl) ev_int rfl (fun _ _ => rfl))) rfl rfl rfl) ⟨rfl, rfl⟩ rfl (.inl rfl)) ?_
    rintro _ _ ⟨rfl, rfl⟩
    refine gd_ifRetP (ρ2 := [.val (lI mine), .val (lI theirs), .val (dW ws), .val (dW (sideW s)), .val (lI drawn), .val (lI more), .val (dL lI [levelsL mine theirs 1, levelsL mine theirs 0]), .val (lI (rowL mine theirs)), .val (.int (cval (rowL mine theirs) ws (sideW s))), .val (lI mine), .val (lI theirs), .val (lI (matesL mine theirs)), .val (.int (i : Int)), .val (eVP (valP mine theirs ws (sideW s))), .any, .any, .any, .any]) (by repeat (first | exact Pk.nil | refine Pk.same ?_ | refine Pk.raw (show Rp K E v (eVP (valP mine theirs ws (sideW s))) from hp.rp) ?_)) (EvT.cast (k' := false) (et_not (et_ev (ev_call (c_look_goodT2 T h h1 (valP mine theirs ws (sideW s)) hok (val_looks h hs hl hz)) (hr.mono (by decide)) (ea_cons ev_int (ea_cons (ev_var (nm 0 rfl (.inl rfl) rfl rfl) rfl) (ea_cons (ev_var (nm 1 rfl (.inl rfl) rfl rfl) rfl) (ea_cons (ev_var (nm 13 rfl (.inl rfl) rfl rfl) rfl) (ea_cons ev_bl ea_nil rfl) rfl) rfl) rfl) rfl) rfl (by decide) rfl rfl) (fun _ => rfl))) rfl) (fun e => nomatch e) fun _ => ?_
    obtain ⟨q, hq, hE⟩ := hp.at (i := 4) (ns := rowL mine theirs) rfl
    refine gd_seq (M := fun r E' => E = E' ∧ r = [.val (lI mine), .val (lI theirs), .val (dW ws), .val (dW (sideW s)), .val (lI drawn), .val (lI more), .val (dL lI [levelsL mine theirs 1, levelsL mine theirs 0]), .val (lI (rowL mine theirs)), .val (.int (cval (rowL mine theirs) ws (sideW s))), .val (lI mine), .val (lI theirs), .val (lI (matesL mine theirs)), .val (.int (i : Int)), .raw (v), .raw (.ref q), .any, .any, .any]) (ge_item (k := 14) (kp := 13) (m := 4) nd rfl (.inl rfl) (nm 13 rfl (.inl rfl) rfl rfl) rfl hq ⟨rfl, rfl⟩ rfl (.inl rfl) (fun _ _ => rfl)) ?_
    rintro _ _ ⟨rfl, rfl⟩
    refine gd_seq (M := fun r E' => E' = upd E q (.lst ((rowL mine theirs ++ [0]).map V.int)) ∧ r = [.val (lI mine), .val (lI theirs), .val (dW ws), .val (dW (sideW s)), .val (lI drawn), .val (lI more), .val (dL lI [levelsL mine theirs 1, levelsL mine theirs 0]), .val (lI (rowL mine theirs)), .val (.int (cval (rowL mine theirs) ws (sideW s))), .val (lI mine), .val (lI theirs), .val (lI (matesL mine theirs)), .val (.int (i : Int)), .raw (v), .raw (.ref q), .any, .any, .any]) (ge_appE (k := 14) (nm 14 rfl (.inl rfl) rfl rfl) rfl hE ev_int (by omega) ⟨rfl, rfl⟩ rfl rfl rfl rfl rfl rfl) ?_
    rintro _ _ ⟨rfl, rfl⟩
    have hp2 := hp.set rfl hq hE (rowL mine theirs ++ [0])
    obtain ⟨q2, hq2, hE2⟩ := hp2.at (i := 5) (ns := matesL mine theirs) rfl
    refine gd_seq (M := fun r E' => upd E q (.lst ((rowL mine theirs ++ [0]).map V.int)) = E' ∧ r = [.val (lI mine), .val (lI theirs), .val (dW ws), .val (dW (sideW s)), .val (lI drawn), .val (lI more), .val (dL lI [levelsL mine theirs 1, levelsL mine theirs 0]), .val (lI (rowL mine theirs)), .val (.int (cval (rowL mine theirs) ws (sideW s))), .val (lI mine), .val (lI theirs), .val (lI (matesL mine theirs)), .val (.int (i : Int)), .raw (v), .raw (.ref q2), .any, .any, .any]) (ge_item (k := 14) (kp := 13) (m := 5) nd rfl (.inl rfl) (nm 13 rfl (.inl rfl) rfl rfl) rfl hq2 ⟨rfl, rfl⟩ rfl (.inl rfl) (fun _ _ => rfl)) ?_
    rintro _ _ ⟨rfl, rfl⟩
    refine gd_seq (M := fun r E' => r = [.val (lI mine), .val (lI theirs), .val (dW ws), .val (dW (sideW s)), .val (lI drawn), .val (lI more), .val (dL lI [levelsL mine theirs 1, levelsL mine theirs 0]), .val (lI (rowL mine theirs)), .val (.int (cval (rowL mine theirs) ws (sideW s))), .val (lI mine), .val (lI theirs), .val (lI (matesL mine theirs)), .val (.int (i : Int)), .raw (v), .raw (.ref q2), .any, .any, .any]) (ge_appE (k := 14) (nm 14 rfl (.inl rfl) rfl rfl) rfl hE2 ev_int (by omega) rfl rfl rfl rfl rfl rfl rfl) ?_
    rintro _ _ rfl
    refine gd_nil ⟨?_, trivial⟩
    rw [if_neg (Nat.succ_ne_zero i)]
    exact (by repeat (first | exact Wk.nil | refine Wk.any ?_ | refine Wk.same ?_ | refine Wk.frz ?_))
  · intro _
    rw [List.length_map, List.length_range]
    show Bd _ [.val (lI mine), .val (lI theirs), .val (dW ws), .val (dW (sideW s)), .val (lI drawn), .val (lI more), .val (dL lI [levelsL mine theirs 1, levelsL mine theirs 0]), .val (lI (rowL mine theirs)), .val (.int (cval (rowL mine theirs) ws (sideW s))), .val (lI mine), .val (lI theirs), .val (lI (matesL mine theirs)), .any, .any, .any, .any, .any, .any] _ _
    refine bd_seq1 (sd_asg (k := 15) nd rfl (.inl rfl) (Ev.cast (d' := eVP (valP mine theirs ws (sideW s))) (ev_tup (ea_cons (ev_strW [118, 97, 108, 117, 101]) (ea_cons (ev_var (nm 2 rfl (.inl rfl) rfl rfl) rfl) (ea_cons (ev_var (nm 3 rfl (.inl rfl) rfl rfl) rfl) (ea_cons (ev_var (nm 8 rfl (.inl rfl) rfl rfl) rfl) (ea_cons (ev_var (nm 7 rfl (.inl rfl) rfl rfl) rfl) (ea_cons (ev_var (nm 11 rfl (.inl rfl) rfl rfl) rfl) ea_nil rfl) rfl) rfl) rfl) rfl) rfl) (Nat.le_of_ble_eq_true rfl)) ?_) rfl rfl (.inl rfl)) ?_
    · rfl
    have step : ∀ (ps qs : List ValP) (a b c : Nat), ((∀ p ∈ ps, okVP p) ∧ ps.length ≤ a) → ((∀ p ∈ qs, okVP p) ∧ qs.length ≤ b) → a + b ≤ c → (∀ p ∈ ps ++ qs, okVP p) ∧ (ps ++ qs).length ≤ c := fun ps qs a b c h1 h2 h3 => ⟨fun p hp => by
      rcases List.mem_append.mp hp with hp | hp
      · exact h1.1 p hp
      · exact h2.1 p hp, by rw [List.length_append]; omega⟩
    have m0 := hm2 0 (by decide)
    have m1 := hm2 1 (by decide)
    have hrc := rowsNear_cnt (rowL mine theirs) (more.getD 0 0).toNat (more.getD 1 0).toNat
    have hpc := pairsNear_cnt (matesL mine theirs) (more.getD 0 0).toNat (more.getD 1 0).toNat
    refine bd_seq1 (sd_asg (k := 16) nd rfl (.inl rfl) (Ev.cast (d' := dL eVP ([valP mine theirs ws (sideW s)] ++ wordsW.map fun y => { valP mine theirs ws (sideW s) with many := y })) (EvN.ev (evn_cat (EvN.l (evn_lst (ea_cons (ev_var (nm 15 rfl (.inl rfl) rfl rfl) rfl) ea_nil rfl) (Nat.le_of_ble_eq_true rfl))) (Ev.l (ev_call (c_near_VP T (p := valP mine theirs ws (sideW s)) (k := 2) (fun y => { valP mine theirs ws (sideW s) with many := y }) wordsW (fun x => rfl) (by decide) (Nat.le_of_ble_eq_true rfl)) (hr.mono (by decide)) (ea_cons (ev_var (nm 15 rfl (.inl rfl) rfl rfl) rfl) (ea_cons ev_int (ea_cons (EvN.ev (EvN.cast (d' := wordsW.map dW) (evn_lst (ea_cons (ev_strW [109, 105, 110, 101]) (ea_cons (ev_strW [116, 104, 101, 105, 114, 115]) (ea_cons (ev_strW []) (ea_cons (ev_strW [110, 111, 98, 111, 100, 121]) (ea_cons (ev_strW [77, 105, 110, 101]) ea_nil rfl) rfl) rfl) rfl) rfl) (Nat.le_of_ble_eq_true rfl)) ?_)) ea_nil rfl) rfl) rfl) rfl (by decide) rfl rfl)) ?_)) ?_) rfl rfl (.inl rfl)) ?_
    · rfl
    · exact Nat.le_of_ble_eq_true rfl
    · refine congrArg D.lst (Eq.trans ?_ List.map_append.symm)
      rfl
    have g1 := step [valP mine theirs ws (sideW s)] (wordsW.map fun y => { valP mine theirs ws (sideW s) with many := y }) 1 5 6 ⟨fun p hp => by rw [List.mem_singleton.mp hp]; exact hok, Nat.le_refl _⟩ ⟨nearV_ok _ fun x hx => ⟨hok.1, hok.2.1, words_asc x hx, hok.2.2.2.1, hok.2.2.2.2⟩, Nat.le_refl _⟩ (by omega)
    generalize [valP mine theirs ws (sideW s)] ++ wordsW.map (fun y => { valP mine theirs ws (sideW s) with many := y }) = ps1 at g1 ⊢
    refine bd_seq1 (sd_asg (k := 16) nd rfl (.inl rfl) (Ev.cast (d' := dL eVP (ps1 ++ [cval (rowL mine theirs) ws (sideW s) + 1, cval (rowL mine theirs) ws (sideW s) - 1, 0 - cval (rowL mine theirs) ws (sideW s), cval (rowL mine theirs) ws (sideW s) + (mine.length : Int), 0].map fun y => { valP mine theirs ws (sideW s) with worth := y })) (EvN.ev (evn_cat (Ev.l (ev_var (nm 16 rfl (.inl rfl) rfl rfl) rfl)) (Ev.l (ev_call (c_near_VP T (p := valP mine theirs ws (sideW s)) (k := 3) (fun y => { valP mine theirs ws (sideW s) with worth := y }) [cval (rowL mine theirs) ws (sideW s) + 1, cval (rowL mine theirs) ws (sideW s) - 1, 0 - cval (rowL mine theirs) ws (sideW s), cval (rowL mine theirs) ws (sideW s) + (mine.length : Int), 0] (fun x => rfl) (by decide) (Nat.le_of_ble_eq_true rfl)) (hr.mono (by decide)) (ea_cons (ev_var (nm 15 rfl (.inl rfl) rfl rfl) rfl) (ea_cons ev_int (ea_cons (EvN.ev (EvN.cast (d' := [cval (rowL mine theirs) ws (sideW s) + 1, cval (rowL mine theirs) ws (sideW s) - 1, 0 - cval (rowL mine theirs) ws (sideW s), cval (rowL mine theirs) ws (sideW s) + (mine.length : Int), 0].map D.int) (evn_lst (ea_cons (ev_add (ev_var (nm 8 rfl (.inl rfl) rfl rfl) rfl) ev_int) (ea_cons (ev_sub (ev_var (nm 8 rfl (.inl rfl) rfl rfl) rfl) ev_int) (ea_cons (ev_sub ev_int (ev_var (nm 8 rfl (.inl rfl) rfl rfl) rfl)) (ea_cons (ev_add (ev_var (nm 8 rfl (.inl rfl) rfl rfl) rfl) (ev_lenL T.b_len (Ev.l (ev_var (nm 0 rfl (.inl rfl) rfl rfl) rfl)) rfl rfl rfl)) (ea_cons ev_int ea_nil rfl) rfl) rfl) rfl) rfl) (Nat.le_of_ble_eq_true rfl)) ?_)) ea_nil rfl) rfl) rfl) rfl (by decide) rfl rfl)) ?_)) ?_) rfl rfl (.inl rfl)) ?_
    · rfl
    · rw [List.length_map]
      show _ + 5 ≤ _
      omega
    · refine congrArg D.lst (Eq.trans ?_ List.map_append.symm)
      rfl
    have g2 := step ps1 ([cval (rowL mine theirs) ws (sideW s) + 1, cval (rowL mine theirs) ws (sideW s) - 1, 0 - cval (rowL mine theirs) ws (sideW s), cval (rowL mine theirs) ws (sideW s) + (mine.length : Int), 0].map fun y => { valP mine theirs ws (sideW s) with worth := y }) 6 5 11 g1 ⟨nearV_ok _ fun x hx => hok, Nat.le_refl _⟩ (by omega)
    generalize ps1 ++ [cval (rowL mine theirs) ws (sideW s) + 1, cval (rowL mine theirs) ws (sideW s) - 1, 0 - cval (rowL mine theirs) ws (sideW s), cval (rowL mine theirs) ws (sideW s) + (mine.length : Int), 0].map (fun y => { valP mine theirs ws (sideW s) with worth := y }) = ps2 at g2 ⊢
    refine bd_seq1 (sd_asg (k := 16) nd rfl (.inl rfl) (Ev.cast (d' := dL eVP (ps2 ++ (rowsNear (rowL mine theirs) (more.getD 0 0).toNat (more.getD 1 0).toNat).map fun y => { valP mine theirs ws (sideW s) with row := y })) (EvN.ev (evn_cat (Ev.l (ev_var (nm 16 rfl (.inl rfl) rfl rfl) rfl)) (Ev.l (ev_call (c_near_VP T (p := valP mine theirs ws (sideW s)) (k := 4) (fun y => { valP mine theirs ws (sideW s) with row := y }) (rowsNear (rowL mine theirs) (more.getD 0 0).toNat (more.getD 1 0).toNat) (fun x => rfl) (by decide) (by omega)) (hr.mono (by decide)) (ea_cons (ev_var (nm 15 rfl (.inl rfl) rfl rfl) rfl) (ea_cons ev_int (ea_cons (ev_call (c_law_rows_near T (ps := rowL mine theirs) (by omega) (fun hz => by omega) (fun hz => by omega)) (hr.mono (by decide)) (ea_cons (ev_var (nm 7 rfl (.inl rfl) rfl rfl) rfl) (ea_cons (Ev.cast (d' := dN (more.getD 0 0).toNat) (ev_ixG (0 : Int) (Ev.l (ev_var (nm 5 rfl (.inl rfl) rfl rfl) rfl)) ev_int ?_ ?_ (fun _ _ => rfl)) ?_) (ea_cons (Ev.cast (d' := dN (more.getD 1 0).toNat) (ev_ixG (0 : Int) (Ev.l (ev_var (nm 5 rfl (.inl rfl) rfl rfl) rfl)) ev_int ?_ ?_ (fun _ _ => rfl)) ?_) ea_nil rfl) rfl) rfl) rfl (by decide) rfl rfl) ea_nil rfl) rfl) rfl) rfl (by decide) rfl rfl)) ?_)) ?_) rfl rfl (.inl rfl)) ?_
    · decide
    · omega
    · exact congrArg D.int (Int.toNat_of_nonneg m0.1).symm
    · decide
    · omega
    · exact congrArg D.int (Int.toNat_of_nonneg m1.1).symm
    · simp only [List.length_map]
      omega
    · exact congrArg D.lst List.map_append.symm
    have g3 := step ps2 ((rowsNear (rowL mine theirs) (more.getD 0 0).toNat (more.getD 1 0).toNat).map fun y => { valP mine theirs ws (sideW s) with row := y }) 11 20 31 g2 ⟨nearV_ok _ fun x hx => hok, by rw [List.length_map]; exact hrc⟩ (by omega)
    generalize ps2 ++ (rowsNear (rowL mine theirs) (more.getD 0 0).toNat (more.getD 1 0).toNat).map (fun y => { valP mine theirs ws (sideW s) with row := y }) = ps3 at g3 ⊢
    refine bd_seq1 (sd_asgN (k := 16) nd rfl (.inl rfl) (EvN.cast (d' := (ps3 ++ (pairsNear (matesL mine theirs) (more.getD 0 0).toNat (more.getD 1 0).toNat ++ [drawn]).map fun y => { valP mine theirs ws (sideW s) with mates := y }).map eVP) (evn_cat (Ev.l (ev_var (nm 16 rfl (.inl rfl) rfl rfl) rfl)) (Ev.l (ev_call (c_near_VP T (p := valP mine theirs ws (sideW s)) (k := 5) (fun y => { valP mine theirs ws (sideW s) with mates := y }) (pairsNear (matesL mine theirs) (more.getD 0 0).toNat (more.getD 1 0).toNat ++ [drawn]) (fun x => rfl) (by decide) (by rw [List.length_append]; show _ + 1 ≤ _; omega)) (hr.mono (by decide)) (ea_cons (ev_var (nm 15 rfl (.inl rfl) rfl rfl) rfl) (ea_cons ev_int (ea_cons (EvN.ev (EvN.cast (d' := (pairsNear (matesL mine theirs) (more.getD 0 0).toNat (more.getD 1 0).toNat ++ [drawn]).map lI) (evn_cat (Ev.l (ev_call (c_law_pairings_near T (ps := matesL mine theirs) (by omega) (fun hz => by omega) (fun hz => by omega)) (hr.mono (by decide)) (ea_cons (ev_var (nm 11 rfl (.inl rfl) rfl rfl) rfl) (ea_cons (Ev.cast (d' := dN (more.getD 0 0).toNat) (ev_ixG (0 : Int) (Ev.l (ev_var (nm 5 rfl (.inl rfl) rfl rfl) rfl)) ev_int ?_ ?_ (fun _ _ => rfl)) ?_) (ea_cons (Ev.cast (d' := dN (more.getD 1 0).toNat) (ev_ixG (0 : Int) (Ev.l (ev_var (nm 5 rfl (.inl rfl) rfl rfl) rfl)) ev_int ?_ ?_ (fun _ _ => rfl)) ?_) ea_nil rfl) rfl) rfl) rfl (by decide) rfl rfl)) (EvN.l (evn_lst (ea_cons (ev_var (nm 4 rfl (.inl rfl) rfl rfl) rfl) ea_nil rfl) (Nat.le_of_ble_eq_true rfl))) ?_) ?_)) ea_nil rfl) rfl) rfl) rfl (by decide) rfl rfl)) ?_) ?_) rfl rfl (.inl rfl)) ?_
    · decide
    · omega
    · exact congrArg D.int (Int.toNat_of_nonneg m0.1).symm
    · decide
    · omega
    · exact congrArg D.int (Int.toNat_of_nonneg m1.1).symm
    · rw [List.length_map]
      show _ + 1 ≤ _
      omega
    · rw [List.map_append]
      rfl
    · simp only [List.length_map, List.length_append, List.length_cons, List.length_nil]
      omega
    · exact List.map_append.symm
    have g4 := step ps3 ((pairsNear (matesL mine theirs) (more.getD 0 0).toNat (more.getD 1 0).toNat ++ [drawn]).map fun y => { valP mine theirs ws (sideW s) with mates := y }) 31 21 52 g3 ⟨nearV_ok _ fun x hx => ⟨hok.1, hok.2.1, hok.2.2.1, hok.2.2.2.1, by
      show x.length ≤ 1000
      rcases List.mem_append.mp hx with hx | hx
      · have := pairsNear_len x hx
        omega
      · rw [List.mem_singleton.mp hx]
        omega⟩, by rw [List.length_map, List.length_append]; show _ + 1 ≤ _; omega⟩ (by omega)
    generalize ps3 ++ (pairsNear (matesL mine theirs) (more.getD 0 0).toNat (more.getD 1 0).toNat ++ [drawn]).map (fun y => { valP mine theirs ws (sideW s) with mates := y }) = ps4 at g4 ⊢
    refine bd_forJ (ds := (wnL ws (more.getD 0 0).toNat (more.getD 1 0).toNat).map dW) 17 (fun i r => ∃ ps : List ValP, r = [.val (lI mine), .val (lI theirs), .val (dW ws), .val (dW (sideW s)), .val (lI drawn), .val (lI more), .val (dL lI [levelsL mine theirs 1, levelsL mine theirs 0]), .val (lI (rowL mine theirs)), .val (.int (cval (rowL mine theirs) ws (sideW s))), .val (lI mine), .val (lI theirs), .val (lI (matesL mine theirs)), .any, .any, .any, .val (eVP (valP mine theirs ws (sideW s))), .own (ps.map eVP), .any] ∧ (∀ p ∈ ps, okVP p) ∧ ps.length ≤ 52 + 2 * i) PassesOwn.never rfl nd rfl (.inl rfl) ⟨_, (by repeat (first | exact Wk.nil | refine Wk.any ?_ | refine Wk.same ?_ | refine Wk.frz ?_)), _, rfl, g4⟩ ?_ ?_ ?_ (.inl rfl) (fun _ => rfl)
    · rintro i d r hd ⟨ps, rfl, hps⟩
      rw [List.getElem?_map] at hd
      obtain ⟨lt, hx, rfl⟩ := Option.map_eq_some_iff.mp hd
      have hil := lt_of_i hx
      have hwl : (wnL ws (more.getD 0 0).toNat (more.getD 1 0).toNat).length = 16 := rfl
      have hlt := wnL_ok (letters_asc hl) lt (List.mem_of_getElem? hx)
      refine bd_seq1 (sd_app (k := 16) (nm 16 rfl (.inl rfl) rfl rfl) rfl (ev_catT (ev_catT (ev_sliceT (ev_var (nm 15 rfl (.inl rfl) rfl rfl) rfl) ep_none (ep_some ev_int)) (ev_tup (ea_cons (ev_var (nm 17 rfl (.inl rfl) rfl rfl) rfl) ea_nil rfl) (Nat.le_of_ble_eq_true rfl)) ?_) (ev_sliceT (ev_var (nm 15 rfl (.inl rfl) rfl rfl) rfl) (ep_some ev_int) ep_none) ?_) ?_ rfl rfl rfl rfl rfl rfl rfl) ?_
      · exact Nat.le_of_ble_eq_true rfl
      · exact Nat.le_of_ble_eq_true rfl
      · rw [List.length_map]
        omega
      have o1 : okVP { valP mine theirs ws (sideW s) with word := lt } := ⟨hok.1, hlt.2, hok.2.2.1, by show lt.length ≤ _; omega, hok.2.2.2.2⟩
      have g5 := step ps [{ valP mine theirs ws (sideW s) with word := lt }] _ 1 (53 + 2 * i) hps ⟨fun p hp => by rw [List.mem_singleton.mp hp]; exact o1, Nat.le_refl _⟩ (by omega)
      have e5 : ps.map eVP ++ [D.tup (cut [dW (valP mine theirs ws (sideW s)).tag, dW (valP mine theirs ws (sideW s)).word, dW (valP mine theirs ws (sideW s)).many, .int (valP mine theirs ws (sideW s)).worth, lI (valP mine theirs ws (sideW s)).row, lI (valP mine theirs ws (sideW s)).mates] none (some 1) ++ [dW lt] ++ cut [dW (valP mine theirs ws (sideW s)).tag, dW (valP mine theirs ws (sideW s)).word, dW (valP mine theirs ws (sideW s)).many, .int (valP mine theirs ws (sideW s)).worth, lI (valP mine theirs ws (sideW s)).row, lI (valP mine theirs ws (sideW s)).mates] (some 2) none)] = (ps ++ [{ valP mine theirs ws (sideW s) with word := lt }]).map eVP := by
        rw [List.map_append]
        rfl
      rw [e5]
      generalize ps ++ [{ valP mine theirs ws (sideW s) with word := lt }] = ps5 at g5 ⊢
      refine bd_ifM (fun r => ∃ ps : List ValP, r = [.val (lI mine), .val (lI theirs), .val (dW ws), .val (dW (sideW s)), .val (lI drawn), .val (lI more), .val (dL lI [levelsL mine theirs 1, levelsL mine theirs 0]), .val (lI (rowL mine theirs)), .val (.int (cval (rowL mine theirs) ws (sideW s))), .val (lI mine), .val (lI theirs), .val (lI (matesL mine theirs)), .any, .any, .any, .val (eVP (valP mine theirs ws (sideW s))), .own (ps.map eVP), .any] ∧ (∀ p ∈ ps, okVP p) ∧ ps.length ≤ 52 + 2 * (i + 1)) (et_cmp (ec_eqI (ev_lenW T.b_len (ev_var (nm 17 rfl (.inl rfl) rfl rfl) rfl) ?_ rfl rfl rfl) (ev_lenW T.b_len (ev_var (nm 2 rfl (.inl rfl) rfl rfl) rfl) ?_ rfl rfl rfl)) (nomark _ (by decide) (by decide))) (fun e => ?_) (fun e => bd_nil ⟨_, (by repeat (first | exact Wk.nil | refine Wk.any ?_ | refine Wk.same ?_ | refine Wk.frz ?_)), _, rfl, g5.1, by have := g5.2; omega⟩) (fun r hr => bd_nil ⟨r, Wk.refl r, hr⟩)
      · omega
      · omega
      · have e1 : lt.length = ws.length := by
          have := of_decide_eq_true e
          omega
        refine bd_seq1 (sd_app (k := 16) (nm 16 rfl (.inl rfl) rfl rfl) rfl (ev_tup (ea_cons (ev_strW [118, 97, 108, 117, 101]) (ea_cons (ev_var (nm 17 rfl (.inl rfl) rfl rfl) rfl) (ea_cons (ev_var (nm 3 rfl (.inl rfl) rfl rfl) rfl) (ea_cons (ev_call (c_law_value T (by omega) (fun _ => by omega)) (hr.mono (by decide)) (ea_cons (ev_var (nm 7 rfl (.inl rfl) rfl rfl) rfl) (ea_cons (ev_var (nm 17 rfl (.inl rfl) rfl rfl) rfl) (ea_cons (ev_var (nm 3 rfl (.inl rfl) rfl rfl) rfl) ea_nil rfl) rfl) rfl) rfl (by decide) rfl rfl) (ea_cons (ev_var (nm 7 rfl (.inl rfl) rfl rfl) rfl) (ea_cons (ev_var (nm 11 rfl (.inl rfl) rfl rfl) rfl) ea_nil rfl) rfl) rfl) rfl) rfl) rfl) (Nat.le_of_ble_eq_true rfl)) ?_ rfl rfl rfl rfl rfl rfl rfl) ?_
        · rw [List.length_map]
          have := g5.2
          omega
        have o2 : okVP { valP mine theirs ws (sideW s) with word := lt, worth := lval (rowL mine theirs) lt (sideW s) } := o1
        have g6 := step ps5 [{ valP mine theirs ws (sideW s) with word := lt, worth := lval (rowL mine theirs) lt (sideW s) }] _ 1 (52 + 2 * (i + 1)) g5 ⟨fun p hp => by rw [List.mem_singleton.mp hp]; exact o2, Nat.le_refl _⟩ (by omega)
        refine bd_nil ⟨_, ?_, ps5 ++ [{ valP mine theirs ws (sideW s) with word := lt, worth := lval (rowL mine theirs) lt (sideW s) }], rfl, g6⟩
        rw [List.map_append]
        exact (by repeat (first | exact Wk.nil | refine Wk.any ?_ | refine Wk.same ?_ | refine Wk.frz ?_))
    · rintro r ⟨ps, rfl, hps⟩
      rw [List.length_map] at hps
      have hwl : (wnL ws (more.getD 0 0).toNat (more.getD 1 0).toNat).length = 16 := rfl
      have hpl : ps.length ≤ 1000 := by have := hps.2; omega
      refine bd_wk (ρ' := [.val (lI mine), .val (lI theirs), .val (dW ws), .val (dW (sideW s)), .val (lI drawn), .val (lI more), .val (dL lI [levelsL mine theirs 1, levelsL mine theirs 0]), .val (lI (rowL mine theirs)), .val (.int (cval (rowL mine theirs) ws (sideW s))), .val (lI mine), .val (lI theirs), .any, .any, .any, .any, .any, .val (dL eVP ps), .any]) (by repeat (first | exact Wk.nil | refine Wk.any ?_ | refine Wk.same ?_ | refine Wk.frz ?_)) ?_
      refine bd_one (sd_ret (ev_and (l := true) (ev_call (c_law_looks_good2 T h h1 hps.1 (by omega)) (hr.mono (by decide)) (ea_cons ev_int (ea_cons (ev_var (nm 0 rfl (.inl rfl) rfl rfl) rfl) (ea_cons (ev_var (nm 1 rfl (.inl rfl) rfl rfl) rfl) (ea_cons (ev_var (nm 16 rfl (.inl rfl) rfl rfl) rfl) ea_nil rfl) rfl) rfl) rfl) rfl (by decide) rfl rfl) fun _ => ev_and1 ?_) ?_)
      · refine (ev_call (c_law_looks_good2 T h.symm h2 (ps := ps.take 8) (fun p hp => hps.1 p (List.mem_of_mem_take hp)) (by rw [List.length_take]; omega)) (hr.mono (by decide)) (ea_cons ev_int (ea_cons (ev_var (nm 1 rfl (.inl rfl) rfl rfl) rfl) (ea_cons (ev_var (nm 0 rfl (.inl rfl) rfl rfl) rfl) (ea_cons (EvN.ev (EvN.cast (d' := (ps.take 8).map eVP) (evn_slice (Ev.l (ev_var (nm 16 rfl (.inl rfl) rfl rfl) rfl)) ep_none (ep_some ev_int)) ?_)) ea_nil rfl) rfl) rfl) rfl) rfl (by decide) rfl rfl)
        rw [cut_map, cut_pre _ (by decide)]
        rfl
      · rfl
    · rintro r' _ ⟨ps, rfl, _⟩
      refine (ei_list (ev_call (c_law_words_near T (by omega) (by omega) (by omega)) (hr.mono (by decide)) (ea_cons (ev_var (nm 2 rfl (.inl rfl) rfl rfl) rfl) (ea_cons (Ev.cast (d' := dN (more.getD 0 0).toNat) (ev_ixG (0 : Int) (Ev.l (ev_var (nm 5 rfl (.inl rfl) rfl rfl) rfl)) ev_int ?_ ?_ (fun _ _ => rfl)) ?_) (ea_cons (Ev.cast (d' := dN (more.getD 1 0).toNat) (ev_ixG (0 : Int) (Ev.l (ev_var (nm 5 rfl (.inl rfl) rfl rfl) rfl)) ev_int ?_ ?_ (fun _ _ => rfl)) ?_) ea_nil rfl) rfl) rfl) rfl (by decide) rfl rfl))
      · decide
      · omega
      · exact congrArg D.int (Int.toNat_of_nonneg m0.1).symm
      · decide
      · omega
      · exact congrArg D.int (Int.toNat_of_nonneg m1.1).symm
end
end Y
end S_F17

section S_E1
set_option maxHeartbeats 2000000
/-! an own exception over ClimbrowError (ValueError) whose __init__ says super().__init__(text) and stores fields -/
namespace Y.Er
open PySem PySem.W PySem.Calls PyProof.Rows PySem.HandSPX
/-- what stands of such a class at C, of its __init__ at fI -/
structure ErrC (P : Program) (K : Frag) (mg : Str → Option Value) (x qual : Str) (params : Arguments) (body : List Stmt) (scope : Scope) (fs : List Str) (C fI : Addr) : Prop where
  gC : mg x = some (.ref C)
  cls : ∃ nm q N bs bm sn sub ab col dd k0 k1 k2 k3 k5, K.lookup C = some (excClassObj nm q C N bs bm true sn sub ab col dd k0 k1 k2 k3 k5 "ValueError.__new__") ∧ refsVE bm = true
  sa : findIn K (.ref C) "__setattr__" = some (some (.builtin "object.__setattr__"))
  ga : findIn K (.ref C) "__getattribute__" = some (some (.builtin "BaseException.__getattribute__"))
  gg : findIn K (.ref C) "__getattr__" = some none
  no : ∀ f ∈ fs, findIn K (.ref C) f = some none
  iC : findIn K (.ref C) "__init__" = some (some (.ref fI))
  tC : typeIn K (.ref fI) = some (.type "function")
  kC : keepIn K (.ref C) = true
  exC : subIn K (.ref C) (.type "BaseException") = some true
  tyC : typeIn K (.ref C) = some (.type "type")
  hdC : hasDictIn K C = true
  th : nsIn K cStatics "thirdparty.any" = some none
  su : ks_superIn K C C "__init__" = some (some (.builtin "ValueError.__init__"))
  ve : subIn K (.ref C) (.type "ValueError") = some true
  sc : mroIn K C (.ref C) = some true
  sup : mg "super" = none
  top : (P.main.scope.names.lookup ("super" : Str)).isSome = false
  fn : ∃ (oc : Value) (od : Option Addr) (doc pm : Value) (an : Option Addr) (cda cc : Addr) (ct : Value) (osl : Array (Option Value)),
    K.lookup fI = some ⟨oc, od, .func (ksFn "__init__" qual params body scope .none .none doc pm an (.ref cda) ct cc), osl⟩ ∧ codeIn K (.ref cda) qual = true ∧
    (∃ ccl cdd vs ccs file tf, K.lookup cda = some ⟨ccl, cdd, .fields vs, ccs⟩ ∧ vs[2]? = some (.str file tf) ∧ ((P.main.file : Str) == file) = true) ∧
    ∃ cl cld csl, K.lookup cc = some ⟨cl, cld, .cell (some (.ref C)), csl⟩
section
variable {prog : Program} {w : World} {A : Around} {E : Value → Shared → Prop} {h : Heap} {g : Array GenState} {d : Drawn} {t : Nat} {os : OsState}
theorem call_mw {nm q : Str} {C N : Addr} {bs bm : List Value} {hdct : Bool} {sn : List Str} {sub : List Value} {ab : Bool} {col : Option Bool} {dd : Option Addr} {k0 k1 k2 k3 k5 : Option Value} {u e t0 : Addr} {rest : List Value} {Q : Value → Shared → Prop}
    (hC : h.get? C = some (excClassObj nm q C N bs bm hdct sn sub ab col dd k0 k1 k2 k3 k5 "ValueError.__new__")) (he : h.get? e = some (excO C t0)) (hu : h.get? u = some (kxs_mw "ValueError.__init__" e)) (hrest : rest.length ≤ sizeLine)
    (hq : ∀ h' t1, (∀ b o, b ≠ e → h.get? b = some o → h'.get? b = some o) → h'.get? e = some (excO C t1) → Q .none ⟨h', g, d, t, os⟩) :
    wpAny (model prog w) A (call (.ref u) rest) Q E ⟨h, g, d, t, os⟩ := by
  refine wpAny_call (codeAny_of_tree ?_)
  show wpAny _ A.in1 (callAny (.ref u) ⟨rest, []⟩) _ _ _
  simp only [callAny]
  refine wpAny_bind (wpAny_load hu ?_)
  simp only [kxs_mw, show (Value.type "method-wrapper" == Value.type "method" || Value.type "method-wrapper" == Value.type "builtin_function_or_method" || Value.type "method-wrapper" == Value.type "method-wrapper") = true by decide, if_true]
  refine KFB.if_so (by decide) ?_
  refine wpAny_bind (PySem.ESX.check_bound F.excBase_ValueError hC he rfl ?_)
  refine wpAny_bind (wpAny_pure (wpAny_pure ?_))
  refine ⟨Code.quiet_builtin _ (by decide +kernel), codeAny_builtin F.excBase_ValueError.initEntry ?_⟩
  rw [Around.under_plainId F.excBase_ValueError.init.plain _]
  wp_walk
  refine hq _ h.objs.size (fun b o hb ho => ?_) ?_
  · rw [Heap.get?_update_other _ _ (Ne.symm hb)]
    exact Heap.get?_push_of_some _ ho
  · rw [Heap.get?_update_self _ (Heap.get?_push_of_some _ he) rfl]
    rfl
variable {P : Program} {K : Frag} {mg mb : Str → Option Value} {x q qual : Str} {params : Arguments} {fbody : List Stmt} {scope : Scope} {fs : List Str} {C fI : Addr}
/-- super().__init__(txt) -/
theorem super_part (T : ErrC prog K mg x qual params fbody scope fs C fI) {cda cc L e t0 : Addr} {m : Str → Option Value} {body : List Stmt} {txt : Str} {k : Nat} {p0 p1 p2 p3 p4 p5 : Pos} {ar : Arg} {oc doc pm ct : Value} {od an : Option Addr} {osl : Array (Option Value)} {pl : Sem Bool} {Q : Flow → Shared → Prop}
    (hf : K.lookup fI = some ⟨oc, od, .func (ksFn "__init__" qual params fbody scope .none .none doc pm an (.ref cda) ct cc), osl⟩)
    (hcode : ∃ ccl cdd vs ccs file tf, K.lookup cda = some ⟨ccl, cdd, .fields vs, ccs⟩ ∧ vs[2]? = some (.str file tf) ∧ ((prog.main.file : Str) == file) = true)
    (hcell : ∃ cl cld csl, K.lookup cc = some ⟨cl, cld, .cell (some (.ref C)), csl⟩)
    (hp : (params.posonlyargs ++ params.args).head? = some ar)
    (X : K.In h) (hn : h.Ns L m) (hv : m ar.arg = some (.ref e)) (hx : h.get? e = some (excO C t0)) (hG : h.Ns mainGlobals mg) (hB : h.Ns builtinsNs mb) (hmb : mb "super" = some (.type "super"))
    (hks : scope.names.lookup ("super" : Str) = some .globalImplicit) (hkc : scope.names.lookup ("__class__" : Str) = some .free) (hka : scope.names.lookup ar.arg = some .local) (hk : scope.kind = .function)
    (hq : ∀ h' t1 tk, (∀ b o, b ≠ e → h.get? b = some o → h'.get? b = some o) → h'.get? e = some (excO C t1) → Q .next ⟨h', g, d, tk, os⟩)
    (he : eval (.Call (.Attribute (.Call (.Name "super" p0) [] [] p1) "__init__" p2) [.Constant (.str txt) k p3] [] p4) (ksEnv qual scope L fI (.ref cda) cc) = (do
      let ov ← attributeBase (.Call (.Name "super" p0) [] [] p1) "__init__" (ksEnv qual scope L fI (.ref cda) cc) (eval (.Call (.Name "super" p0) [] [] p1) (ksEnv qual scope L fI (.ref cda) cc))
      standAt p2.atName
      let (f, first) ← holding [ov] (getMethod ov "__init__" pl)
      callWith p4 f first (backTo p4 (starEach [.Constant (.str txt) k p3] (ksEnv qual scope L fI (.ref cda) cc))) []) := by rfl)
    (hi : interactive (ksEnv qual scope L fI (.ref cda) cc) = false := by rfl) (hs : swapsWith (.Call (.Attribute (.Call (.Name "super" p0) [] [] p1) "__init__" p2) [.Constant (.str txt) k p3] [] p4) none p5.line (ksEnv qual scope L fI (.ref cda) cc) = pure false := by rfl)
    (hst : backTo p4 (starEach [.Constant (.str txt) k p3] (ksEnv qual scope L fI (.ref cda) cc)) = [(false, eval (.Constant (.str txt) k p3) (ksEnv qual scope L fI (.ref cda) cc))] := by rfl) :
    _root_.PySem.wpAt (model prog w) A (.func body (ksEnv qual scope L fI (.ref cda) cc)) (exec (.Expr (.Call (.Attribute (.Call (.Name "super" p0) [] [] p1) "__init__" p2) [.Constant (.str txt) k p3] [] p4) p5) (ksEnv qual scope L fI (.ref cda) cc)) Q E ⟨h, g, d, t, os⟩ := by
  obtain ⟨ccl, cdd, vs, ccs, file, tf, c1, c2, c3⟩ := hcode
  obtain ⟨cl, cld, csl, c4⟩ := hcell
  obtain ⟨nm, qn, N, bs, bm, sn, sub, ab, col, dd, k0, k1, k2, k3, k5, hC, hbm⟩ := T.cls
  obtain ⟨cd, hcd, hmro⟩ : ∃ cd, clsIn K C = some cd ∧ cd.mro = .ref C :: bm := by
    refine ⟨{ name := nm, bases := bs, mro := .ref C :: bm, ns := N, qualname := qn, hasDict := true, slotNames := sn, subclasses := sub, abstract := ab, collection := col, hasDel := false }, ?_, rfl⟩
    unfold clsIn
    rw [hC] <;> rfl
  obtain ⟨oD, hD1, hD2⟩ : ∃ oD, h.get? C = some oD ∧ oD.data = .cls cd := by
    have := hcd
    unfold clsIn at this
    split at this
    · rename_i c d cd' sl ho
      cases this
      exact ⟨_, X _ _ ho, rfl⟩
    · cases this
  refine ks_wpAt_Expr_any (ks_wpAt_MethodCall (ks_wpAt_super_base (env := ksEnv qual scope L fI (.ref cda) cc) hks hkc (by decide) rfl (X _ _ hf) rfl hp rfl (X _ _ c1) rfl c2 c3 T.top ?_) he) hi hs
  refine ks_loadName_global hk hks (loadGlobal_builtin (env := ksEnv qual scope L fI (.ref cda) cc) hG T.sup hB hmb ⟨rfl, ?_⟩)
  refine wpAny_loadName_free hk hkc rfl ⟨_, X _ _ c4, rfl⟩ ?_
  refine wpAny_loadName_local hk hka hn hv ?_
  refine ks_wpAny_isType_cls hD1 hD2 ⟨rfl, ?_⟩
  refine ks_wpAny_call_super hD1 hD2 hx rfl (fun c z => by cases z) (looks_mroIn X T.sc) (fun h1 e1 y1 => ?_)
  have X1 : K.In h1 := X.keeps y1
  have hx1 := y1 _ _ hx
  have hxC : e ≠ C := fun z => by
    subst z
    rw [hx] at hD1
    cases hD1
    cases hD2
  have hI : Looks (model prog w) h1 (isInstance (.ref e) (.type "ValueError")) true := by
    have I : InstAt h1 e (excO C t0) C none := ⟨hx1, rfl, rfl, trivial⟩
    exact I.type.andThen (looks_subIn X1 T.ve)
  have hsu : alongIn K "__init__" ((cd.mro.dropWhile (· != .ref C)).drop 1) = some (some (.builtin "ValueError.__init__")) := by
    have := T.su
    unfold ks_superIn at this
    rw [hcd] at this
    exact this
  refine kxs_getMethod kxs_ValueError e1 (looks_opaque X1 T.th) (l₀ := cd.mro) ?_ rfl X1 hsu hI hxC (by decide) ?_
  · exact fun A Q E s k q => wpAny_bind ((looks_clsIn X1 hcd) A _ E s k (wpAny_pure q))
  have y2 : ∀ b o, h1.get? b = some o → (h1.push (kxs_mw "ValueError.__init__" e)).get? b = some o := fun b o z => Heap.get?_push_of_some _ z
  have hu : (h1.push (kxs_mw "ValueError.__init__" e)).get? h1.objs.size = some (kxs_mw "ValueError.__init__" e) := Heap.get?_push_at rfl rfl
  show wpAny _ _ (callWith p4 (.ref h1.objs.size) [] (backTo p4 (starEach [.Constant (.str txt) k p3] (ksEnv qual scope L fI (.ref cda) cc))) []) _ _ _
  rw [hst]
  refine kxs_callWith (i := "ValueError.__init__") (x := e) rfl (evalArgs_plain (spliced_cons (wpAny_Constant_str (spliced_nil ⟨hu, ?_⟩))))
  refine call_mw (X1 _ _ hC |> y2 _ _) (y2 _ _ hx1) hu (by rw [sizeLine_eq]; exact (by decide : 1 ≤ 16777216)) fun h' t1 y3 hx3 => ?_
  exact hq h' t1 _ (fun b o hb ho => y3 b o hb (y2 _ _ (y1 _ _ ho))) hx3
/-- self.f = v -/
abbrev setS (f v : Str) (q1 q2 q3 q4 : Pos) : Stmt := .Assign [.Attribute (.Name "self" q1) f q2] (.Name v q3) q4
abbrev supS (txt : Str) (k : Nat) (p0 p1 p2 p3 p4 p5 : Pos) : Stmt := .Expr (.Call (.Attribute (.Call (.Name "super" p0) [] [] p1) "__init__" p2) [.Constant (.str txt) k p3] [] p4) p5
/-- what the text of the super call wants of the interpreter -/
def SupOk (qual : Str) (scope : Scope) (fI : Addr) (txt : Str) (kk : Nat) (p0 p1 p2 p3 p4 p5 : Pos) (L cda cc : Addr) : Prop :=
  (∃ pl : Sem Bool, eval (.Call (.Attribute (.Call (.Name "super" p0) [] [] p1) "__init__" p2) [.Constant (.str txt) kk p3] [] p4) (ksEnv qual scope L fI (.ref cda) cc) = (do
      let ov ← attributeBase (.Call (.Name "super" p0) [] [] p1) "__init__" (ksEnv qual scope L fI (.ref cda) cc) (eval (.Call (.Name "super" p0) [] [] p1) (ksEnv qual scope L fI (.ref cda) cc))
      standAt p2.atName
      let (f, first) ← holding [ov] (getMethod ov "__init__" pl)
      callWith p4 f first (backTo p4 (starEach [.Constant (.str txt) kk p3] (ksEnv qual scope L fI (.ref cda) cc))) [])) ∧
  interactive (ksEnv qual scope L fI (.ref cda) cc) = false ∧ swapsWith (.Call (.Attribute (.Call (.Name "super" p0) [] [] p1) "__init__" p2) [.Constant (.str txt) kk p3] [] p4) none p5.line (ksEnv qual scope L fI (.ref cda) cc) = pure false
/-- a first field of an exception without a dict -/
theorem set_first (T : ErrC prog K mg x qual params fbody scope fs C fI) {env : Env} {m : Str → Option Value} {e t0 : Addr} {f v : Str} {q1 q2 q3 q4 : Pos} {u : Value} {Q : Flow → Shared → Prop} (X : K.In h) (hn : h.Ns env.locals m) (hself : m "self" = some (.ref e)) (hvv : m v = some u) (hx : h.get? e = some (excO C t0)) (hfs : f ∈ fs)
    (hk : env.scope.kind = .function) (hl1 : env.kindOf "self" = some .local) (hl2 : env.kindOf v = some .local) (hd2 : (v == ("__debug__" : Str)) = false) (hs : swapsWith (.Name v q3) (some (.Attribute (.Name "self" q1) f q2)) q4.line env = pure false)
    (hq : ∀ h' tk dx, (∀ b o, b ≠ e → h.get? b = some o → h'.get? b = some o) → h.objs.size ≤ dx → dx ≠ e → h'.get? e = some { cls := .ref C, dict := some dx, data := .fields #[.ref t0, .none, .none, .none, .bool false, .none] } → h'.Ns1 dx (fun y => if y = f then some u else none) → Q .next ⟨h', g, d, tk, os⟩) :
    wpAny (model prog w) A (exec (setS f v q1 q2 q3 q4) env) Q E ⟨h, g, d, t, os⟩ := by
  obtain ⟨nm, qn, N, bs, bm, sn, sub, ab, col, dd, k0, k1, k2, k3, k5, hC, hbm⟩ := T.cls
  have hcl : clsIn K C = some { name := nm, bases := bs, mro := .ref C :: bm, ns := N, qualname := qn, hasDict := true, slotNames := sn, subclasses := sub, abstract := ab, collection := col, hasDel := false } := by unfold clsIn; rw [hC] <;> rfl
  refine plainObj_wpAny_Assign_Attribute ?_ hs
  refine PySem.ESX.ldL hn hvv (PySem.ESX.ldL hn hself ?_ hk hl1 (by decide)) hk hl2 hd2
  refine set_plain X (ox := excO C t0) (od := none) ⟨hx, rfl, rfl, trivial⟩ T.sa ?_
  exact exc_osa X hx hcl (show refsVE (.ref C :: bm) = true from hbm) rfl (T.no f hfs) fun h3 tk3 dx y3 dn dne hx3 hn3 => hq h3 tk3 dx y3 dn dne hx3 hn3
/-- a further field -/
theorem set_more (T : ErrC prog K mg x qual params fbody scope fs C fI) {env : Env} {m m0 : Str → Option Value} {e dx : Addr} {f v : Str} {q1 q2 q3 q4 : Pos} {u : Value} {fv : Array Value} {nl : List Str} {Q : Flow → Shared → Prop} (X : K.In h) (hn : h.Ns env.locals m) (hself : m "self" = some (.ref e)) (hvv : m v = some u)
    (hx : h.get? e = some { cls := .ref C, dict := some dx, data := .fields fv }) (hns : h.Ns1 dx m0) (hw : Within m0 nl) (hz : nl.length ≤ 1000) (hfs : f ∈ fs)
    (hk : env.scope.kind = .function) (hl1 : env.kindOf "self" = some .local) (hl2 : env.kindOf v = some .local) (hd2 : (v == ("__debug__" : Str)) = false) (hs : swapsWith (.Name v q3) (some (.Attribute (.Name "self" q1) f q2)) q4.line env = pure false)
    (hq : ∀ h' tk, (∀ b o, b ≠ dx → h.get? b = some o → h'.get? b = some o) → h'.Ns1 dx (fun y => if y = f then some u else m0 y) → Q .next ⟨h', g, d, tk, os⟩) :
    wpAny (model prog w) A (exec (setS f v q1 q2 q3 q4) env) Q E ⟨h, g, d, t, os⟩ := by
  obtain ⟨nm, qn, N, bs, bm, sn, sub, ab, col, dd, k0, k1, k2, k3, k5, hC, hbm⟩ := T.cls
  have hcl : clsIn K C = some { name := nm, bases := bs, mro := .ref C :: bm, ns := N, qualname := qn, hasDict := true, slotNames := sn, subclasses := sub, abstract := ab, collection := col, hasDel := false } := by unfold clsIn; rw [hC] <;> rfl
  obtain ⟨oD, esD, epD, hoD, hdD, _⟩ := hns.count hw
  refine plainObj_wpAny_Assign_Attribute ?_ hs
  refine PySem.ESX.ldL hn hvv (PySem.ESX.ldL hn hself ?_ hk hl1 (by decide)) hk hl2 hd2
  refine set_plain X (ox := { cls := .ref C, dict := some dx, data := .fields fv }) (od := some oD) ⟨hx, rfl, rfl, hoD⟩ T.sa ?_
  exact PySem.OEX.osa_old X hx hns hw hz hcl (show refsVE (.ref C :: bm) = true from hbm) rfl (T.no f hfs) fun h3 tk3 y3 hn3 => hq h3 tk3 y3 hn3
/-- what __init__ leaves of a fresh exception at x -/
structure InitEnd (h h' : Heap) (x C dx : Addr) (mA : Str → Option Value) : Prop where
  keep : ∀ b o, b ≠ x → h.get? b = some o → h'.get? b = some o
  obj : ∃ t1, h'.get? x = some { cls := .ref C, dict := some dx, data := .fields #[.ref t1, .none, .none, .none, .bool false, .none] }
  dbig : h.objs.size ≤ dx
  dne : dx ≠ x
  ns : h'.Ns1 dx mA
/-- a made exception -/
structure Made (h h' : Heap) (e C d : Addr) (mA : Str → Option Value) : Prop where
  keep : ∀ b o, h.get? b = some o → h'.get? b = some o
  new : h.objs.size ≤ e
  obj : ∃ oe vs, h'.get? e = some oe ∧ oe.cls = .ref C ∧ oe.dict = some d ∧ oe.data = .fields vs ∧ vs[1]? = some .none
  dbig : h.objs.size ≤ d
  dne : d ≠ e
  ns : h'.Ns1 d mA
abbrev b2 (e : Addr) (f1 f2 : Str) (va vb : Value) : List (Str × Value) := [(("self" : Str), .ref e), (f1, va), (f2, vb)]
abbrev b1 (e : Addr) (f1 : Str) (va : Value) : List (Str × Value) := [(("self" : Str), .ref e), (f1, va)]
theorem init2 {R : Result → Shared → Prop} {f1 f2 : Str} {txt : Str} {kk : Nat} {p0 p1 p2 p3 p4 p5 q1 q2 q3 q4 r1 r2 r3 r4 : Pos} {ar : Arg} (T : ErrC prog K mg x qual params [supS txt kk p0 p1 p2 p3 p4 p5, setS f1 f1 q1 q2 q3 q4, setS f2 f2 r1 r2 r3 r4] scope [f1, f2] C fI) {e t0 : Addr} {va vb : Value}
    (X : K.In h) (hlim : h.NoLimit) (hx : h.get? e = some (excO C t0)) (hnx : K.lookup e = none) (hroom : A.depth < recursionLimit) (hG : h.Ns mainGlobals mg) (hB : h.Ns builtinsNs mb) (hmb : mb "super" = some (.type "super"))
    (hp : (params.posonlyargs ++ params.args).head? = some ar) (har : ar.arg = "self") (hbd : ∀ (doc pm ct : Value) (an : Option Addr) (cda cc : Addr), bindArgs (ksFn "__init__" qual params [supS txt kk p0 p1 p2 p3 p4 p5, setS f1 f1 q1 q2 q3 q4, setS f2 f2 r1 r2 r3 r4] scope .none .none doc pm an (.ref cda) ct cc) ⟨[.ref e, va, vb], []⟩ = pure (b2 e f1 f2 va vb))
    (hcell : ∀ x ∈ scope.names, x.2 ≠ .cell) (hloc : ∀ y ∈ (b2 e f1 f2 va vb), scope.names.lookup y.1 = some .local)
    (hks : scope.names.lookup ("super" : Str) = some .globalImplicit) (hkc : scope.names.lookup ("__class__" : Str) = some .free) (hk : scope.kind = .function) (hco : scope.isCoroutine = false) (hgen : scope.isGenerator = false)
    (n1 : (f1 == ("self" : Str)) = false) (n2 : (f2 == ("self" : Str)) = false) (n12 : (f1 == f2) = false) (d1 : (f1 == ("__debug__" : Str)) = false) (d2 : (f2 == ("__debug__" : Str)) = false)
    (hev : ∀ (L cda cc : Addr), SupOk qual scope fI txt kk p0 p1 p2 p3 p4 p5 L cda cc ∧
      swapsWith (.Name f1 q3) (some (.Attribute (.Name "self" q1) f1 q2)) q4.line (ksEnv qual scope L fI (.ref cda) cc) = pure false ∧ swapsWith (.Name f2 r3) (some (.Attribute (.Name "self" r1) f2 r2)) r4.line (ksEnv qual scope L fI (.ref cda) cc) = pure false)
    (hq : ∀ h' tk dx, InitEnd h h' e C dx (fun y => if y = f2 then some vb else if y = f1 then some va else none) → R (.ok (.ret .none)) ⟨h', g, d, tk, os⟩) :
    codeAny (model prog w) A (.call (.ref fI) ⟨[.ref e, va, vb], []⟩) R ⟨h, g, d, t, os⟩ := by
  obtain ⟨oc, od, doc, pm, an, cda, cc, ct, osl, ho, hcd, hcode, hcl⟩ := T.fn
  have l0 := hloc _ (List.mem_cons_self ..)
  have l1 := hloc (f1, va) (by simp)
  have l2 := hloc (f2, vb) (by simp)
  refine ks_codeAny_call_defAt (fd := ksFn "__init__" qual params [supS txt kk p0 p1 p2 p3 p4 p5, setS f1 f1 q1 q2 q3 q4, setS f2 f2 r1 r2 r3 r4] scope .none .none doc pm an (.ref cda) ct cc) hroom (X _ _ ho) rfl hlim (codeRec_of X hcd) rfl (.of_eq (hbd ..)) hcell hloc (fun h1 hns y1 => ?_) hco hgen hk
  obtain ⟨⟨⟨pl, i0⟩, i1, i2⟩, i3, i4⟩ := hev h.objs.size cda cc
  have hx1 := y1 _ _ hx
  have X1 : K.In h1 := X.keeps y1
  have hL : h.objs.size ≠ e := Nat.ne_of_gt (Heap.lt_size hx)
  have m0 : (b2 e f1 f2 va vb).reverse.lookup ("self" : Str) = some (.ref e) := by
    have e1 : (("self" : Str) == f1) = false := by rw [Bool.eq_false_iff] at n1 ⊢; exact fun z => n1 (by rw [beq_iff_eq] at z ⊢; exact z.symm)
    have e2 : (("self" : Str) == f2) = false := by rw [Bool.eq_false_iff] at n2 ⊢; exact fun z => n2 (by rw [beq_iff_eq] at z ⊢; exact z.symm)
    simp [List.lookup, e1, e2]
  have m1 : (b2 e f1 f2 va vb).reverse.lookup f1 = some va := by
    simp [List.lookup, n12]
  have m2 : (b2 e f1 f2 va vb).reverse.lookup f2 = some vb := by
    simp [List.lookup]
  refine ks_wpAt_execs_cons (super_part T (m := fun y => (b2 e f1 f2 va vb).reverse.lookup y) ho hcode hcl hp X1 hns (by rw [har]; exact m0) hx1 (hG.keeps y1) (hB.keeps y1) hmb hks hkc (by rw [har]; exact l0) hk (fun h2 t2 tk2 y2 hx2 => ?_) i0 i1 i2 rfl)
  have kept : ∀ {hA hB : Heap} {z : Addr}, K.In hA → K.lookup z = none → (∀ b o, b ≠ z → hA.get? b = some o → hB.get? b = some o) → K.In hB := fun {hA hB z} XA hz y a o q => y a o (fun w => by
    rw [w, hz] at q
    cases q) (XA a o q)
  have X2 : K.In h2 := kept X1 hnx y2
  have hn2 : h2.Ns h.objs.size (fun y => (b2 e f1 f2 va vb).reverse.lookup y) := hns.at fun o z => y2 _ _ hL z
  refine wpAt_of_wpAny (wpAny_execs_cons (set_first T X2 hn2 m0 m1 hx2 (by simp) hk l0 l1 d1 i3 fun h3 tk3 dx y3 dn dne hx3 hn3 => ?_))
  have X3 : K.In h3 := kept X2 hnx y3
  have hn3' : h3.Ns h.objs.size (fun y => (b2 e f1 f2 va vb).reverse.lookup y) := hn2.at fun o z => y3 _ _ hL z
  refine wpAny_execs_cons (set_more T X3 hn3' m0 m2 hx3 hn3 (nl := [f1]) (fun y hy => ?_) (by simp) (by simp) hk l0 l2 d2 i4 fun h4 tk4 y4 hn4 => ?_)
  · by_cases hz : y = f1
    · simp [hz]
    · rw [if_neg hz] at hy
      exact absurd rfl hy
  refine wpAny_execs_nil (hq h4 _ dx ⟨fun b o hb z => ?_, ⟨t2, y4 _ _ (Ne.symm dne) hx3⟩, ?_, dne, hn4⟩)
  · have hbd : b ≠ dx := fun w => by
      subst w
      exact absurd (Nat.lt_of_lt_of_le (Nat.lt_trans (Heap.lt_size z) hn2.lt) dn) (Nat.lt_irrefl _)
    exact y4 b o hbd (y3 b o hb (y2 b o hb (y1 b o z)))
  · have q2 : h.objs.size < h2.objs.size := hn2.lt
    omega
theorem init1 {R : Result → Shared → Prop} {f1 : Str} {txt : Str} {kk : Nat} {p0 p1 p2 p3 p4 p5 q1 q2 q3 q4 : Pos} {ar : Arg} (T : ErrC prog K mg x qual params [supS txt kk p0 p1 p2 p3 p4 p5, setS f1 f1 q1 q2 q3 q4] scope [f1] C fI) {e t0 : Addr} {va : Value}
    (X : K.In h) (hlim : h.NoLimit) (hx : h.get? e = some (excO C t0)) (hnx : K.lookup e = none) (hroom : A.depth < recursionLimit) (hG : h.Ns mainGlobals mg) (hB : h.Ns builtinsNs mb) (hmb : mb "super" = some (.type "super"))
    (hp : (params.posonlyargs ++ params.args).head? = some ar) (har : ar.arg = "self") (hbd : ∀ (doc pm ct : Value) (an : Option Addr) (cda cc : Addr), bindArgs (ksFn "__init__" qual params [supS txt kk p0 p1 p2 p3 p4 p5, setS f1 f1 q1 q2 q3 q4] scope .none .none doc pm an (.ref cda) ct cc) ⟨[.ref e, va], []⟩ = pure (b1 e f1 va))
    (hcell : ∀ x ∈ scope.names, x.2 ≠ .cell) (hloc : ∀ y ∈ (b1 e f1 va), scope.names.lookup y.1 = some .local)
    (hks : scope.names.lookup ("super" : Str) = some .globalImplicit) (hkc : scope.names.lookup ("__class__" : Str) = some .free) (hk : scope.kind = .function) (hco : scope.isCoroutine = false) (hgen : scope.isGenerator = false)
    (n1 : (f1 == ("self" : Str)) = false) (d1 : (f1 == ("__debug__" : Str)) = false)
    (hev : ∀ (L cda cc : Addr), SupOk qual scope fI txt kk p0 p1 p2 p3 p4 p5 L cda cc ∧
      swapsWith (.Name f1 q3) (some (.Attribute (.Name "self" q1) f1 q2)) q4.line (ksEnv qual scope L fI (.ref cda) cc) = pure false)
    (hq : ∀ h' tk dx, InitEnd h h' e C dx (fun y => if y = f1 then some va else none) → R (.ok (.ret .none)) ⟨h', g, d, tk, os⟩) :
    codeAny (model prog w) A (.call (.ref fI) ⟨[.ref e, va], []⟩) R ⟨h, g, d, t, os⟩ := by
  obtain ⟨oc, od, doc, pm, an, cda, cc, ct, osl, ho, hcd, hcode, hcl⟩ := T.fn
  have l0 := hloc _ (List.mem_cons_self ..)
  have l1 := hloc (f1, va) (by simp)
  refine ks_codeAny_call_defAt (fd := ksFn "__init__" qual params [supS txt kk p0 p1 p2 p3 p4 p5, setS f1 f1 q1 q2 q3 q4] scope .none .none doc pm an (.ref cda) ct cc) hroom (X _ _ ho) rfl hlim (codeRec_of X hcd) rfl (.of_eq (hbd ..)) hcell hloc (fun h1 hns y1 => ?_) hco hgen hk
  obtain ⟨⟨⟨pl, i0⟩, i1, i2⟩, i3⟩ := hev h.objs.size cda cc
  have hx1 := y1 _ _ hx
  have X1 : K.In h1 := X.keeps y1
  have hL : h.objs.size ≠ e := Nat.ne_of_gt (Heap.lt_size hx)
  have m0 : (b1 e f1 va).reverse.lookup ("self" : Str) = some (.ref e) := by
    have e1 : (("self" : Str) == f1) = false := by rw [Bool.eq_false_iff] at n1 ⊢; exact fun z => n1 (by rw [beq_iff_eq] at z ⊢; exact z.symm)
    simp [List.lookup, e1]
  have m1 : (b1 e f1 va).reverse.lookup f1 = some va := by
    simp [List.lookup]
  refine ks_wpAt_execs_cons (super_part T (m := fun y => (b1 e f1 va).reverse.lookup y) ho hcode hcl hp X1 hns (by rw [har]; exact m0) hx1 (hG.keeps y1) (hB.keeps y1) hmb hks hkc (by rw [har]; exact l0) hk (fun h2 t2 tk2 y2 hx2 => ?_) i0 i1 i2 rfl)
  have kept : ∀ {hA hB : Heap} {z : Addr}, K.In hA → K.lookup z = none → (∀ b o, b ≠ z → hA.get? b = some o → hB.get? b = some o) → K.In hB := fun {hA hB z} XA hz y a o q => y a o (fun w => by
    rw [w, hz] at q
    cases q) (XA a o q)
  have X2 : K.In h2 := kept X1 hnx y2
  have hn2 : h2.Ns h.objs.size (fun y => (b1 e f1 va).reverse.lookup y) := hns.at fun o z => y2 _ _ hL z
  refine wpAt_of_wpAny (wpAny_execs_cons (set_first T X2 hn2 m0 m1 hx2 (by simp) hk l0 l1 d1 i3 fun h3 tk3 dx y3 dn dne hx3 hn3 => ?_))
  refine wpAny_execs_nil (hq h3 _ dx ⟨fun b o hb z => y3 b o hb (y2 b o hb (y1 b o z)), ⟨t2, hx3⟩, ?_, dne, hn3⟩)
  have q2 : h.objs.size < h2.objs.size := hn2.lt
  omega
end
end Y.Er
end S_E1

section S_E2
set_option maxHeartbeats 2000000
namespace Y.Er
open PySem PySem.W PySem.Calls PyProof.Rows PySem.HandSPX
/-- __init__ does what it should -/
def InitOk (prog : Program) (w : World) (K : Frag) (mg : Str → Option Value) (C fI : Addr) (vs : List Value) (mA : Str → Option Value) : Prop :=
  ∀ (A : Around) (R : Result → Shared → Prop) (h : Heap) (g : Array GenState) (d : Drawn) (t : Nat) (os : OsState) (mb : Str → Option Value) (e t0 : Addr), K.In h → h.NoLimit → h.get? e = some (excO C t0) → K.lookup e = none → A.depth < recursionLimit → h.Ns mainGlobals mg → h.Ns builtinsNs mb →
    mb "super" = some (.type "super") → (∀ h' tk dx, InitEnd h h' e C dx mA → R (.ok (.ret .none)) ⟨h', g, d, tk, os⟩) → codeAny (model prog w) A (.call (.ref fI) ⟨.ref e :: vs, []⟩) R ⟨h, g, d, t, os⟩
section
variable {prog : Program} {w : World} {A : Around} {E : Value → Shared → Prop} {s : Shared}
variable {P : Program} {K : Frag} {mg mb : Str → Option Value} {x qual : Str} {params : Arguments} {fbody : List Stmt} {scope : Scope} {fs : List Str} {C fI : Addr} {vs : List Value} {mA : Str → Option Value}
theorem made {R : Result → Shared → Prop} (T : ErrC prog K mg x qual params fbody scope fs C fI) (hI : InitOk prog w K mg C fI vs mA) (X : K.In s.heap) (hlim : s.heap.NoLimit) (hroom : A.depth + 1 < recursionLimit) (hz : vs.length ≤ sizeLine) (hG : s.heap.Ns mainGlobals mg) (hB : s.heap.Ns builtinsNs mb) (hmb : mb "super" = some (.type "super"))
    (hq : ∀ h' tk e d, Made s.heap h' e C d mA → R (.ok (.ret (.ref e))) { s with heap := h', toks := tk }) : codeAny (model prog w) A (.call (.ref C) ⟨vs, []⟩) R s := by
  obtain ⟨nm, q, N, bs, bm, sn, sub, ab, col, dd, k0, k1, k2, k3, k5, hC, hbm⟩ := T.cls
  obtain ⟨hp, g, dr, tk, os⟩ := s
  have k : ∀ b o, hp.get? b = some o → ((hp.push (kdv_tup vs)).push (excO C hp.objs.size)).get? b = some o := fun b o e => Heap.get?_push_of_some _ (Heap.get?_push_of_some _ e)
  have hget : ((hp.push (kdv_tup vs)).push (excO C hp.objs.size)).get? (hp.objs.size + 1) = some (excO C hp.objs.size) := by heap_get
  have hnx : K.lookup (hp.objs.size + 1) = none := by
    cases e : K.lookup (hp.objs.size + 1) with
    | none => rfl
    | some o =>
      have z : hp.get? (hp.objs.size + 1) = some o := X _ _ e
      exact absurd (Nat.lt_of_succ_lt (Heap.lt_size z)) (Nat.lt_irrefl _)
  refine call_own F.excBase_ValueError (fun X => refsVE_contains X bm hbm) (X _ _ hC) (looks_findIn X T.iC) (fun self => bind_fn X self T.tC) hz ?_
  refine hI _ _ ((hp.push (kdv_tup vs)).push (excO C hp.objs.size)) g dr tk os mb _ _ (X.keeps k) (hlim.keeps k) hget hnx ?_ (hG.keeps k) (hB.keeps k) hmb fun h' tk' dx ⟨k', hx, dn, dne, hns⟩ => ?_
  · show A.depth + 1 < recursionLimit
    exact hroom
  · have old : ∀ b o, hp.get? b = some o → h'.get? b = some o := fun b o e => k' b o (Nat.ne_of_lt (Nat.lt_succ_of_lt (Heap.lt_size e))) (k b o e)
    have z : hp.objs.size + 1 + 1 ≤ dx := by
      first
        | (simpa only [Heap.size_push] using dn)
        | exact dn
        | (have q := dn; rw [Heap.size_push, Heap.size_push] at q; exact q)
    obtain ⟨t1, hx⟩ := hx
    exact ⟨rfl, hq h' tk' (hp.objs.size + 1) dx ⟨old, Nat.le_succ _, ⟨_, _, hx, rfl, rfl, rfl, rfl⟩, Nat.le_trans (Nat.le_trans (Nat.le_succ _) (Nat.le_succ _)) z, dne, hns⟩⟩
end
end Y.Er
namespace Y
open PySem PySem.Spec PyProof.Rows L2
section
variable {X : Cx} {C fI : Addr} {x qual : Str} {params : Arguments} {fbody : List Stmt} {scope : Scope} {fs : List Str}
/-- C(e, ..), its fields by fl -/
def tMkE (C : Addr) (n : Nat) (fl : List V → List (Str × V)) (ta : TA) : L2.St → Hp → XK → Prop := fun σ H Q => ta σ H fun vs H1 => vs.length = n ∧ ∀ d, H1 d = none → Q (.ref C) (some d) (upd H1 d (.xd (fl vs)))
theorem pmk_err {e : Expr} {es : List Expr} {ta : TA} {p pos : Pos} {k n : Nat} {fl : List V → List (Str × V)} {mA : List Value → Str → Option Value} (T : Er.ErrC X.prog X.K X.mg x qual params fbody scope fs C fI) (hI : ∀ us : List Value, us.length = n → Er.InitOk X.prog X.w X.K X.mg C fI us (mA us)) (hn : n ≤ 1000)
    (hrel : ∀ (vs : List V) (us : List Value), vs.length = n → Vals vs us → ∀ f, RelO ((fl vs).lookup f) (mA us f)) (hr : Room k X.A) (ha : PA X (e :: es) ta) (hg : Gl X x) (hdb : (x == ("__debug__" : Str)) = false)
    (he : starEach (e :: es) X.env = (false, eval e X.env) :: starEach es X.env := by rfl) (hpl : (backTo pos (starEach es X.env)).any (·.1) = false := by rfl) :
    PMk X (.Call (.Name x p) (e :: es) [] pos) (tMkE C n fl ta) := by
  intro pins s σ H Q I h
  refine wpAny_Call_Name_kw (ld_glob I hg T.gC ?_ hdb)
  refine PySem.W.callWith_K (h₀ := X.base) I.ok.mod.kin T.kC (thn (ha.run pos pins s σ H _ I h) fun us s1 hh => ?_) he hpl
  obtain ⟨vs, H1, I1, r1, hl, q1⟩ := hh
  refine ⟨I1.kIn, ?_⟩
  have hul : us.length = n := by rw [← r1.length, hl]
  show wpAny _ _ (call (.ref C) us) _ _ _
  have hlim := I1.nolimit
  obtain ⟨mb, hb1, hb2⟩ := I1.mod.blt
  obtain ⟨hp, g, dr, tk, os⟩ := s1
  refine wpAny_call (Er.made T (hI us hul) I1.kIn hlim (by have := hr.dp; omega) (by rw [hul, sizeLine_eq]; omega) (I1.mod.glob.keeps I1.bk) (hb1.keeps I1.bk) ((hb2 "super" (by decide)).trans (by decide +kernel)) fun h' tk' e d M => ?_)
  show MkP X pins σ Q (.ref e) ⟨h', g, dr, tk', os⟩
  obtain ⟨oe, fv, hoe, hc, hd, hdat, h1⟩ := M.obj
  have hns := M.ns
  obtain ⟨G', g1, g2⟩ := restrict h' fun b => decide (b ≠ e)
  have gk : ∀ b, b ≠ e → G'.get? b = h'.get? b := fun b hb => g1 b (decide_eq_true hb)
  have ge : G'.get? e = none := g2 e (by simp)
  have old : ∀ b o, hp.get? b = some o → G'.get? b = some o := fun b o q => (gk b (Nat.ne_of_lt (Nat.lt_of_lt_of_le (Heap.lt_size q) M.new))).trans (M.keep b o q)
  have ob : ObjOk X.prog X.w (upd H1 d (.xd (fl vs))) G' d (.xd (fl vs)) := ⟨_, hns.at (fun o q => (gk d M.dne).trans q), fun f => hrel vs us hl r1 f⟩
  have J : Inv X pins σ (upd H1 d (.xd (fl vs))) ⟨G', g, dr, tk', os⟩ := I1.laid (t' := tk') old M.dbig ob
  refine ⟨e, oe, fv, ⟨G', g, dr, tk', os⟩, _, .ref C, some d, rfl, J, fun b o q => ?_, ge, hoe, ⟨hc, hd⟩, hdat, h1, ?_, rfl, I1.bare, raises_own T.exC T.tyC, q1 d (I1.hok.fresh M.dbig)⟩
  · by_cases hb : b = e
    · have q' : G'.get? b = some o := q
      rw [hb, ge] at q'; cases q'
    · exact (gk b hb).symm.trans q
  · rw [upd_ne (Ne.symm M.dne)]
    exact I1.hok.fresh M.new
/-- raise C(e, ..) -/
theorem ps_raiseE {e : Expr} {es : List Expr} {ta : TA} {W : WX} {p pos pos2 : Pos} {k n : Nat} {fl : List V → List (Str × V)} {mA : List Value → Str → Option Value} (hc : X.calm = true) (T : Er.ErrC X.prog X.K X.mg x qual params fbody scope fs C fI) (hI : ∀ us : List Value, us.length = n → Er.InitOk X.prog X.w X.K X.mg C fI us (mA us)) (hn : n ≤ 1000)
    (hrel : ∀ (vs : List V) (us : List Value), vs.length = n → Vals vs us → ∀ f, RelO ((fl vs).lookup f) (mA us f)) (hr : Room k X.A) (tk : Takes X W) (ha : PA X (e :: es) ta) (hg : Gl X x) (hdb : (x == ("__debug__" : Str)) = false)
    (he : starEach (e :: es) X.env = (false, eval e X.env) :: starEach es X.env := by rfl) (hpl : (backTo pos (starEach es X.env)).any (·.1) = false := by rfl) :
    PS X (.Raise (some (.Call (.Name x p) (e :: es) [] pos)) none pos2) (fun _ σ H => tMkE C n fl ta σ H fun cls d H' => W cls d σ H') := ps_raise hc tk (pmk_err T hI hn hrel hr ha hg hdb he hpl)
end
end Y
end S_E2

section S_E3
set_option maxHeartbeats 2000000
namespace Y
open PySem PySem.Spec PyProof.Rows L2
def clsBody : Stmt → List Stmt
  | .ClassDef _ _ _ body .. => body
  | _ => []
def inner (i : Nat) : Stmt := (clsBody (topS i)).getD 0 (.Pass ⟨0, 0, 0, 0⟩)
abbrev iBH : Stmt := inner 2
abbrev iBW : Stmt := inner 3
abbrev fBH : List Str := ["mine_count", "theirs_count"]
abbrev fBW : List Str := ["position"]
abbrev ErrBH (P : Program) (K : PySem.W.Frag) (mg : Str → Option Value) (C fI : Addr) : Prop := Er.ErrC P K mg "BadHands" "BadHands.__init__" (defArgs iBH) (defBody iBH) (defScope iBH) fBH C fI
abbrev ErrBW (P : Program) (K : PySem.W.Frag) (mg : Str → Option Value) (C fI : Addr) : Prop := Er.ErrC P K mg "BadWord" "BadWord.__init__" (defArgs iBW) (defBody iBW) (defScope iBW) fBW C fI
def mBH (us : List Value) : Str → Option Value := fun y => if y = "theirs_count" then us[1]? else if y = "mine_count" then us[0]? else none
def mBW (us : List Value) : Str → Option Value := fun y => if y = "position" then us[0]? else none
def lBH (vs : List V) : List (Str × V) := fBH.zip vs
def lBW (vs : List V) : List (Str × V) := fBW.zip vs
section
variable {P : Program} {w : World} {K : PySem.W.Frag} {mg : Str → Option Value} {C fI : Addr}
theorem init_BH (T : ErrBH P K mg C fI) (us : List Value) (hl : us.length = 2) : Er.InitOk P w K mg C fI us (mBH us) := by
  match us, hl with
  | [va, vb], _ =>
    intro A R h g d t os mb e t0 X hlim hx hnx hroom hG hB hmb hq
    refine Er.init2 (ar := _) (f1 := "mine_count") (f2 := "theirs_count") T X hlim hx hnx hroom hG hB hmb rfl rfl (fun _ _ _ _ _ _ => rfl) (by decide +kernel) (fun y hy => ?_) rfl rfl rfl rfl rfl (by decide) (by decide) (by decide) (by decide) (by decide) (fun _ _ _ => ⟨⟨⟨_, rfl⟩, rfl, rfl⟩, rfl, rfl⟩) fun h' tk dx hi => hq h' tk dx hi
    simp only [List.mem_cons, List.not_mem_nil, or_false] at hy
    rcases hy with rfl | rfl | rfl <;> rfl
theorem init_BW (T : ErrBW P K mg C fI) (us : List Value) (hl : us.length = 1) : Er.InitOk P w K mg C fI us (mBW us) := by
  match us, hl with
  | [va], _ =>
    intro A R h g d t os mb e t0 X hlim hx hnx hroom hG hB hmb hq
    refine Er.init1 (ar := _) (f1 := "position") T X hlim hx hnx hroom hG hB hmb rfl rfl (fun _ _ _ _ _ _ => rfl) (by decide +kernel) (fun y hy => ?_) rfl rfl rfl rfl rfl (by decide) (by decide) (fun _ _ _ => ⟨⟨⟨_, rfl⟩, rfl, rfl⟩, rfl⟩) fun h' tk dx hi => hq h' tk dx hi
    simp only [List.mem_cons, List.not_mem_nil, or_false] at hy
    rcases hy with rfl | rfl <;> rfl
theorem rel_BH (vs : List V) (us : List Value) (hl : vs.length = 2) (r : Vals vs us) (f : Str) : RelO ((lBH vs).lookup f) (mBH us f) := by
  match vs, us, hl, r with
  | [a, b], _, _, .cons ra (.cons rb .nil) =>
    unfold lBH mBH
    by_cases h1 : f = "mine_count"
    · subst h1
      have : (fBH.zip [a, b] : List (Str × V)).lookup ("mine_count" : Str) = some a := rfl
      rw [this, if_neg (by decide), if_pos rfl]
      exact ra
    · by_cases h2 : f = "theirs_count"
      · subst h2
        have : (fBH.zip [a, b] : List (Str × V)).lookup ("theirs_count" : Str) = some b := by
          have q : (("theirs_count" : Str) == ("mine_count" : Str)) = false := by decide
          simp [List.lookup, q]
        rw [this, if_pos rfl]
        exact rb
      · rw [if_neg h2, if_neg h1]
        have q1 : (f == ("mine_count" : Str)) = false := by simpa using h1
        have q2 : (f == ("theirs_count" : Str)) = false := by simpa using h2
        have : (fBH.zip [a, b] : List (Str × V)).lookup f = none := by simp [List.lookup, q1, q2]
        rw [this]
        trivial
theorem rel_BW (vs : List V) (us : List Value) (hl : vs.length = 1) (r : Vals vs us) (f : Str) : RelO ((lBW vs).lookup f) (mBW us f) := by
  match vs, us, hl, r with
  | [a], _, _, .cons ra .nil =>
    unfold lBW mBW
    by_cases h1 : f = "position"
    · subst h1
      have : (fBW.zip [a] : List (Str × V)).lookup ("position" : Str) = some a := rfl
      rw [this, if_pos rfl]
      exact ra
    · rw [if_neg h1]
      have q1 : (f == ("position" : Str)) = false := by simpa using h1
      have : (fBW.zip [a] : List (Str × V)).lookup f = none := by simp [List.lookup, q1]
      rw [this]
      trivial
end
end Y
end S_E3

section S_X1
set_option maxHeartbeats 2000000
namespace Y
open PySem PySem.Spec PyProof.Rows L2
/-! ### raising -/
def spExc (K : PySem.W.Frag) (ds : List D) (C : Addr) (fs : List (Str × V)) : Sp := fun vs H Q E => ∃ HB, Ex HB H ∧ RpAll K HB vs ds ∧ ∀ d H2, Ex H H2 → H d = none → H2 d = some (.xd fs) → E (.ref C) (some d) H2
structure CalX (P : Program) (w : World) (K : PySem.W.Frag) (mg : Str → Option Value) (base : Heap) (k : Nat) (x : Str) (ds : List D) (C : Addr) (fs : List (Str × V)) : Prop where
  ex : ∃ (f : Addr) (fd : FuncData) (ps : List Str), mg x = some (.ref f) ∧ PySem.W.keepIn K (.ref f) = true ∧ Binds K fd ps [] ∧ FnOk P w K mg base (L2.CX P w) k f fd ps (spExc K ds C fs)
structure CalXK (P : Program) (w : World) (K : PySem.W.Frag) (mg : Str → Option Value) (base : Heap) (k : Nat) (x kw : Str) (ds : List D) (d0 : D) (C : Addr) (fs : List (Str × V)) : Prop where
  ex : ∃ (f : Addr) (fd : FuncData) (ps : List Str), mg x = some (.ref f) ∧ PySem.W.keepIn K (.ref f) = true ∧ KBn K fd ps ds.length [kw] (fun us ws => us ++ ws) (fun vs zs => vs ++ zs) ∧ FnOk P w K mg base (L2.CX P w) k f fd ps (spExc K (ds ++ [d0]) C fs)
structure CalXD (P : Program) (w : World) (K : PySem.W.Frag) (mg : Str → Option Value) (base : Heap) (k : Nat) (x : Str) (dv : V) (ds : List D) (d0 : D) (C : Addr) (fs : List (Str × V)) : Prop where
  ex : ∃ (f : Addr) (fd : FuncData) (ps : List Str) (us : List Value), mg x = some (.ref f) ∧ PySem.W.keepIn K (.ref f) = true ∧ Vals [dv] us ∧ Binds K fd ps us ∧ (∀ H, Rp K H dv d0) ∧ FnOk P w K mg base (L2.CX P w) k f fd ps (spExc K (ds ++ [d0]) C fs)
theorem CalX.mono {P : Program} {w : World} {K : PySem.W.Frag} {mg : Str → Option Value} {base : Heap} {j k : Nat} {x : Str} {ds : List D} {C : Addr} {fs : List (Str × V)} (c : CalX P w K mg base j x ds C fs) (h : j ≤ k) : CalX P w K mg base k x ds C fs := by
  obtain ⟨f, fd, ps, h1, h2, h3, h4⟩ := c.ex
  exact ⟨f, fd, ps, h1, h2, h3, h4.mono h⟩
/-- the statements raise C with the fields fs -/
def Bx (X : Cx) (W : WX) (ρ : Rho) (sts : List Stmt) (C : Addr) (fs : List (Str × V)) : Prop := ∀ (HBe He : Hp) (σ : L2.St) (HB H : Hp), EnvS X.K HBe He HB H σ ρ → ∀ Dn : Ends, (∀ σ' d H', Ex He H' → He d = none → H' d = some (.xd fs) → W (.ref C) (some d) σ' H') → wpB X sts Dn σ H
section
variable {X : Cx} {W : WX} {ρ ρ' : Rho} {e a b c tg : Expr} {es : List Expr} {d d0 d1 : D} {ds : List D} {pos p pos' cpos : Pos} {x y kw : Str} {st : Stmt} {rest body A B : List Stmt} {C fI : Addr} {fs : List (Str × V)} {qual : Str} {params : Arguments} {fbody : List Stmt} {scope : Scope} {fn : List Str} {n k : Nat}
theorem bx_seq (h : Sd X ρ st ⟨fun r => r = ρ', fun _ => False⟩) (q : Bx X W ρ' rest C fs) : Bx X W ρ (st :: rest) C fs := fun HBe He σ HB H hE Dn z =>
  ⟨_, pss_cons ps_wp pss_wp, h HBe He σ HB H hE { Dn with nx := wpB X rest Dn } ⟨fun r σ' HB' H' m e => by
    have m' : r = ρ' := m
    subst m'
    exact q HBe He σ' HB' H' e Dn z, fun _ _ _ _ f => f.elim, fun _ _ _ _ _ f => f.elim⟩⟩
theorem bx_ifT (hc : EvT X ρ c true) (h : Bx X W ρ A C fs) : Bx X W ρ (.If c A B pos :: rest) C fs := fun HBe He σ HB H hE Dn z =>
  ⟨_, pss_cons (ps_if pt_wp pss_wp pss_wp) pss_wp, hc σ HB H hE.e _ fun HB2 H2 x2 => iteT (h HBe He σ HB2 H2 (hE.step x2) _ z)⟩
theorem bx_ifF (hc : EvT X ρ c false) (h : Bx X W ρ rest C fs) : Bx X W ρ (.If c A [] pos :: rest) C fs := bx_seq (ρ' := ρ) (sd_if hc (fun e => by cases e) fun _ => bd_nil rfl) h
theorem bx_raise {mA : List Value → Str → Option Value} {fl : List V → List (Str × V)} {ns : List Int} (hc : X.calm = true) (tk : Takes X W) (T : Er.ErrC X.prog X.K X.mg x qual params fbody scope fn C fI) (hI : ∀ us : List Value, us.length = n → Er.InitOk X.prog X.w X.K X.mg C fI us (mA us)) (hn : n ≤ 1000)
    (hrel : ∀ (vs : List V) (us : List Value), vs.length = n → Vals vs us → ∀ f, RelO ((fl vs).lookup f) (mA us f)) (hr : Room k X.A) (ha : EvA X ρ (e :: es) (ns.map D.int)) (hl : ns.length = n) (hg : Gl X x) (hdb : (x == ("__debug__" : Str)) = false)
    (he : starEach (e :: es) X.env = (false, eval e X.env) :: starEach es X.env := by rfl) (hpl : (backTo cpos (starEach es X.env)).any (·.1) = false := by rfl) :
    Bx X W ρ (.Raise (some (.Call (.Name x p) (e :: es) [] cpos)) none pos :: rest) C (fl (ns.map V.int)) := fun HBe He σ HB H hE Dn z =>
  ⟨_, pss_cons (ps_raiseE hc T hI hn hrel hr tk pa_wp hg hdb he hpl) pss_wp, ha σ HB H hE.e _ fun vs HB2 H2 x2 r2 => by
    have e1 := r2.ints
    subst e1
    exact ⟨by rw [List.length_map, hl], fun d hd => z σ d _ ((hE.s.h.trans x2.h).trans (Ex.new hd)) ((hE.s.h.trans x2.h).free hd) upd_same⟩⟩
/-- f(e, ..), that raises -/
theorem bx_call (Cc : CalX X.prog X.w X.K X.mg X.base k x ds C fs) (hr : Room k X.A) (tk : Takes X W) (ha : EvA X ρ (e :: es) ds) (hg : Gl X x := by rfl) (hdb : (x == ("__debug__" : Str)) = false := by decide) (he : starEach (e :: es) X.env = (false, eval e X.env) :: starEach es X.env := by rfl) (hpl : NoStar X cpos es := by rfl)
    (hs : swapsWith (.Call (.Name x p) (e :: es) [] cpos) none pos.line X.env = pure false := by rfl) : Bx X W ρ (.Expr (.Call (.Name x p) (e :: es) [] cpos) pos :: rest) C fs := fun HBe He σ HB H hE Dn z => by
  obtain ⟨f, fd, ps, hm, hk, hb, F⟩ := Cc.ex
  refine ⟨_, pss_cons (ps_expr (pe_callS (E := WE W) F hr hg hm hk hb (fun σ => passAt tk σ) pa_wp hdb he hpl) hs) pss_wp, ha σ HB H hE.e _ fun vs HB1 H1 x1 r1 => ?_⟩
  exact ⟨HB1, x1.in_, r1, fun d H2 h2 h0 h3 => z σ d H2 ((hE.s.h.trans x1.h).trans h2) ((hE.s.h.trans x1.h).free h0) h3⟩
/-- y = f(e, .., kw = b), that raises -/
theorem bx_asgK {kp : Pos} {j : Nat} (Cc : CalXK X.prog X.w X.K X.mg X.base k x kw ds d0 C fs) (hr : Room k X.A) (tk : Takes X W) (ha : EvA X ρ (e :: es) ds) (hb : Ev X ρ b d0) (hN : X.N.Nodup) (hi : X.N[j]? = some y) (hx : Loc X.env.scope y) (hg : Gl X x := by rfl)
    (hall : (backToKw cpos (keywordEach [⟨some kw, b, kp⟩] X.env)).all (·.1.isSome) = true := by rfl)
    (hks : (backToKw cpos (keywordEach [⟨some kw, b, kp⟩] X.env)).filterMap (·.1) = [kw] := by rfl) (hdb : (x == ("__debug__" : Str)) = false := by decide) (he : starEach (e :: es) X.env = (false, eval e X.env) :: starEach es X.env := by rfl)
    (hpl : ((backTo cpos (starEach (e :: es) X.env)).any (·.1) || (backToKw cpos (keywordEach [⟨some kw, b, kp⟩] X.env)).any (·.1.isNone)) = false := by rfl)
    (hs : swapsWith (.Call (.Name x p) (e :: es) [⟨some kw, b, kp⟩] cpos) (some (.Name y pos')) pos.line X.env = pure false := by rfl)
    (hf : X.fn y = true ∨ X.env.scope.names.lookup y = some .local := by first | exact .inl rfl | exact .inr rfl | assumption) : Bx X W ρ (.Assign [.Name y pos'] (.Call (.Name x p) (e :: es) [⟨some kw, b, kp⟩] cpos) pos :: rest) C fs := fun HBe He σ HB H hE Dn z => by
  obtain ⟨f, fd, ps, hm, hk, hbn, F⟩ := Cc.ex
  refine ⟨_, pss_cons (ps_set hN hi hx (pe_callN (E := fun cls d H => ∀ σ, W cls d σ H) F hr hg hm hk hbn (passes_call tk fun cls d σ H h => h σ) pa_wp (pk_cons pe_wp pk_nil) hall hks hdb he hpl) hs hf) pss_wp, ha σ HB H hE.e _ fun vs HB1 H1 x1 r1 => hb σ HB1 H1 (hE.e.step x1) _ fun v HB2 H2 x2 r2 => ?_⟩
  exact ⟨r1.length, rfl, HB2, x2.in_, (r1.mono x2.b).ap r2, fun d H3 h3 h0 h4 σ' => z σ' d H3 (((hE.s.h.trans x1.h).trans x2.h).trans h3) (((hE.s.h.trans x1.h).trans x2.h).free h0) h4⟩
/-- for x in iter: the j-th turn raises -/
theorem bx_for {iter : Expr} (j : Nat) {dj : D} (kx : Nat) (I : Nat → Rho → Prop) (hp : PassesOwn (model X.prog X.w) X.A X.env X.xe) (hc : X.calm = true) (hi : EvI X ρ (.Name x pos') iter ds) (hN : X.N.Nodup) (hk : X.N[kx]? = some x) (hx : Loc X.env.scope x)
    (h0 : I 0 ρ) (hj : ds[j]? = some dj) (ht : ∀ i ρ' d, i < j → ds[i]? = some d → I i ρ' → Bd X (ρ'.set kx (.val d)) body ⟨I (i + 1), fun _ => False⟩) (hx2 : ∀ ρ', I j ρ' → Bx X W (ρ'.set kx (.val dj)) body C fs)
    (hf : X.fn x = true ∨ X.env.scope.names.lookup x = some .local := by first | exact .inl rfl | exact .inr rfl | assumption) (hs : ∀ x, foldedSetIterable iter X.env x = pure x := by intro _; rfl) : Bx X W ρ (.For (.Name x pos') iter body [] pos :: rest) C fs := fun HBe He σ HB H hE Dn q => by
  refine ⟨_, pss_cons (ps_for hp hc pi_wp (pg_name hN hk hx hf) pss_wp hs) pss_wp, hi σ HB H hE.e _ fun J HB1 H1 x1 w => ?_⟩
  have hjl := (List.getElem?_eq_some_iff.mp hj).1
  refine ⟨fun i m σ' H' => m = ds.length - i ∧ i ≤ j ∧ ∃ ρ' HB', I i ρ' ∧ Ex HB1 HB' ∧ EnvS X.K HBe He HB' H' σ' ρ', ⟨ds.length, by simp, Nat.zero_le _, ρ, HB1, h0, Ex.refl _, hE.step x1⟩, ?_⟩
  rintro i m σ' H' ⟨rfl, hle, ρ', HB', hI, hxx, hE'⟩
  have w' := w i HB' H' hxx hE'.e.ex
  have hlt : i < ds.length := by omega
  have hdi : ds[i]? = some ds[i] := List.getElem?_eq_getElem hlt
  obtain ⟨go, yl⟩ := w'.1 _ hdi
  by_cases hij : i = j
  · subst hij
    refine .inr ⟨go, fun _ _ => False, fun _ _ f => f.elim, fun v H2 hv => ?_⟩
    obtain ⟨HB2, x2, r2⟩ := yl v H2 hv
    rw [hdi] at hj
    cases hj
    exact hx2 ρ' hI HBe He _ HB2 H2 ((hE'.step x2).setVal kx r2) _ q
  · refine .inr ⟨go, fun σ2 H2 => ∃ ρ2 HB2, I (i + 1) ρ2 ∧ Ex HB1 HB2 ∧ EnvS X.K HBe He HB2 H2 σ2 ρ2, fun σ2 H2 ⟨ρ2, HB2, a1, a2, a3⟩ => ⟨ds.length - (i + 1), by omega, rfl, by omega, ρ2, HB2, a1, a2, a3⟩, fun v H2 hv => ?_⟩
    obtain ⟨HB2, x2, r2⟩ := yl v H2 hv
    have hb := ht i ρ' _ (by omega) hdi hI
    have hE3 := (hE'.step x2).setVal kx r2
    have hE4 : EnvS X.K HB2 He HB2 H2 (σ'.set kx (some v)) (ρ'.set kx (.val ds[i])) := ⟨hE3.e, ⟨Ex.refl _, hE3.s.in_, hE3.s.h, fun a h1 h2 => absurd h1 h2⟩, hE3.o⟩
    refine hb HB2 He _ HB2 H2 hE4 _ ⟨fun ρ4 σ4 HB4 H4 n4 hE5 => ⟨ρ4, HB4, n4, (hxx.trans x2.b).trans hE5.s.b, ⟨hE5.e, ⟨hE3.s.b.trans hE5.s.b, hE5.s.in_, hE5.s.h, fun a h1 h2 => ?_⟩, hE5.o⟩⟩, fun _ _ _ _ f => f.elim, fun _ _ _ _ _ f => f.elim⟩
    cases z : HB2 a with
    | none => exact hE5.s.fr a z h2
    | some o => exact hE3.s.fr a h1 (by rw [z]; exact fun z => nomatch z)
end
/-! ### a def that raises -/
abbrev cxX (P : Program) (w : World) (K : PySem.W.Frag) (mg : Str → Option Value) (base : Heap) (N : List Str) (qual : Str) (sc : Scope) (Y : Fx) : Cx := cxOf (L2.CX P w) P w K mg base N qual sc Y.f Y.cdv Y.A Y.outer Y.s Y.H Y.E
section
variable {P : Program} {w : World} {K : PySem.W.Frag} {mg : Str → Option Value} {base : Heap} {k : Nat} {x : Str} {st : Stmt} {N ps : List Str} {ds : List D} {C : Addr} {fs : List (Str × V)}
theorem fn_bodyX {f : Addr} {fd : FuncData} {kws : List (Str × V)} (F : FunD K x x (defArgs st) (defBody st) (defScope st) [] kws f fd) (S : FnScope N ps (defScope st)) (hl : ds.length = ps.length)
    (hbody : ∀ Y : Fx, Room k (cxX P w K mg base N x (defScope st) Y).A → Takes (cxX P w K mg base N x (defScope st) Y) (fun cls d _ H => Y.E cls d H) → Bx (cxX P w K mg base N x (defScope st) Y) (fun cls d _ H => Y.E cls d H) (rho0 N ds) (defBody st) C fs) : FnOk P w K mg base (L2.CX P w) (k + 1) f fd ps (spExc K ds C fs) := by
  refine F.ok S (fun vs H Q E h => ?_) (fun cdv A outer s H vs Q E hr h => ?_)
  · obtain ⟨HB, _, r, _⟩ := h
    rw [r.length, hl]
  · obtain ⟨HB, e, r, q⟩ := h
    refine ⟨wpB (cxX P w K mg base N x (defScope st) ⟨f, cdv, A, outer, s, H, E⟩) (defBody st), pss_wp, ?_⟩
    exact hbody ⟨f, cdv, A, outer, s, H, E⟩ hr (takes_of rfl rfl rfl rfl) HB H (L2.start N vs) HB H ⟨env_start e r, Step.refl e, fun i es p h1 => absurd h1 noown⟩ _ fun σ' d H' h1 h0 h2 => q d H' h1 h0 h2
theorem calx_of (T : DefOk K mg x st []) (S : FnScope N ps (defScope st)) (hb : ∀ (kV doc pm : Value) (an : Option Addr) (cdv ct : Value) (us : List Value), us.length = ps.length → bindArgs (PySem.W.fnOf x x (defArgs st) (defBody st) (defScope st) .none kV doc pm an cdv ct) ⟨us, []⟩ = pure (ps.zip us))
    (hl : ds.length = ps.length)
    (hbody : ∀ Y : Fx, Room k (cxX P w K mg base N x (defScope st) Y).A → Takes (cxX P w K mg base N x (defScope st) Y) (fun cls d _ H => Y.E cls d H) → Bx (cxX P w K mg base N x (defScope st) Y) (fun cls d _ H => Y.E cls d H) (rho0 N ds) (defBody st) C fs) : CalX P w K mg base (k + 1) x ds C fs := by
  obtain ⟨f, fd, hm, F⟩ := T.ex
  exact ⟨f, fd, ps, hm, F.kp, F.bindsN hb, fn_bodyX F S hl hbody⟩
theorem calxk_of {kw : Str} {d0 : D} {kws : List (Str × V)} (T : DefOk K mg x st kws) (S : FnScope N ps (defScope st)) (hb : ∀ (kV doc pm : Value) (an : Option Addr) (cdv ct : Value) (us ws : List Value), us.length = ds.length → ws.length = 1 → bindArgs (PySem.W.fnOf x x (defArgs st) (defBody st) (defScope st) .none kV doc pm an cdv ct) ⟨us, [kw].zip ws⟩ = pure (ps.zip (us ++ ws)))
    (hl : (ds ++ [d0]).length = ps.length)
    (hbody : ∀ Y : Fx, Room k (cxX P w K mg base N x (defScope st) Y).A → Takes (cxX P w K mg base N x (defScope st) Y) (fun cls d _ H => Y.E cls d H) → Bx (cxX P w K mg base N x (defScope st) Y) (fun cls d _ H => Y.E cls d H) (rho0 N (ds ++ [d0])) (defBody st) C fs) : CalXK P w K mg base (k + 1) x kw ds d0 C fs := by
  obtain ⟨f, fd, hm, F⟩ := T.ex
  refine ⟨f, fd, ps, hm, F.kp, ⟨fun s us ws X l1 l2 => ?_, fun r1 r2 => r1.append r2⟩, fn_bodyX F S hl hbody⟩
  obtain ⟨oc, od, dV, kV, doc, pm, an, cdv, ct, osl, rfl, lk, hcd, hD, hK⟩ := F.ex
  rcases hD with ⟨_, rfl⟩ | ⟨e, _⟩
  · exact .of_eq (hb kV doc pm an cdv ct us ws l1 l2)
  · exact absurd rfl e
theorem calxd_of {kw : Str} {dv : V} {d0 : D} (T : DefOk K mg x st [(kw, dv)]) (S : FnScope N ps (defScope st)) (hb : ∀ (D : Addr) (doc pm : Value) (an : Option Addr) (cdv ct : Value) (us ks : List Value), us.length = ds.length → ks.length = 1 →
      KwChain D ([kw].zip ks) (bindArgs (PySem.W.fnOf x x (defArgs st) (defBody st) (defScope st) .none (.ref D) doc pm an cdv ct) ⟨us, []⟩) (ps.zip (us ++ ks))) (hd : ∀ H, Rp K H dv d0)
    (hl : (ds ++ [d0]).length = ps.length)
    (hbody : ∀ Y : Fx, Room k (cxX P w K mg base N x (defScope st) Y).A → Takes (cxX P w K mg base N x (defScope st) Y) (fun cls d _ H => Y.E cls d H) → Bx (cxX P w K mg base N x (defScope st) Y) (fun cls d _ H => Y.E cls d H) (rho0 N (ds ++ [d0])) (defBody st) C fs) : CalXD P w K mg base (k + 1) x dv ds d0 C fs := by
  obtain ⟨f, fd, hm, F⟩ := T.ex
  have hl' : ds.length + 1 = ps.length := by
    rw [← hl, List.length_append]
    rfl
  obtain ⟨us, h1, h2⟩ := F.binds0 ds.length (fun e => nomatch e) (by rw [← hl']; rfl) fun D doc pm an cdv ct us ks l1 l2 => hb D doc pm an cdv ct us ks l1 l2
  exact ⟨f, fd, ps, us, hm, F.kp, h1, h2, hd, fn_bodyX F S hl hbody⟩
end
end Y
end S_X1

section S_X2
set_option maxHeartbeats 2000000
namespace Y
open PySem PySem.Spec PyProof.Rows L2
/-- what is wrong with a word, and where -/
inductive Wrong (ws : List Nat) (n : Nat) : Nat → Prop
  | bad {j : Nat} (h : j < ws.length) (hb : ¬ (ws.getD j 0 = 77 ∨ ws.getD j 0 = 84)) (ho : ∀ i, i < j → ws.getD i 0 = 77 ∨ ws.getD i 0 = 84) : Wrong ws n j
  | long (hl : letters ws) (h : n < ws.length) : Wrong ws n n
  | short (hl : letters ws) (h : ws.length < n) : Wrong ws n ws.length
abbrev fH (mine theirs : List Int) : List (Str × V) := lBH ([(mine.length : Int), (theirs.length : Int)].map V.int)
abbrev fW (p : Nat) : List (Str × V) := lBW ([(p : Int)].map V.int)
section
variable {P : Program} {w : World} {K : PySem.W.Frag} {mg : Str → Option Value} {base : Heap} {CH iH CW iW : Addr}
theorem x_check_hands (T : Tx K mg) (TH : ErrBH P K mg CH iH) {mine theirs : List Int} (h : mine.length ≠ theirs.length) : CalX P w K mg base 1 "check_hands" [lI mine, lI theirs] CH (fH mine theirs) := by
  refine calx_of T.d_check_hands sc_check_hands (fun _ _ _ _ _ _ us hl => match us, hl with | [_, _], _ => rfl) rfl fun Y hr tk => ?_
  have nd := sc_check_hands.nd
  show Bx _ _ [.val _, .val _] _ _ _
  refine bx_ifT (EvT.cast (et_cmp (ec_neI (ev_lenL T.b_len (Ev.l (ev_var (nm 0 rfl (.inl rfl) rfl rfl) rfl)) rfl rfl rfl) (ev_lenL T.b_len (Ev.l (ev_var (nm 1 rfl (.inl rfl) rfl rfl) rfl)) rfl rfl rfl)) (nomark _ (by decide) (by decide))) ?_) (bx_raise (ns := [(mine.length : Int), (theirs.length : Int)]) rfl tk TH (fun us hl => init_BH TH us hl) (by decide) rel_BH hr (ea_cons (ev_lenL T.b_len (Ev.l (ev_var (nm 0 rfl (.inl rfl) rfl rfl) rfl)) rfl rfl rfl) (ea_cons (ev_lenL T.b_len (Ev.l (ev_var (nm 1 rfl (.inl rfl) rfl rfl) rfl)) rfl rfl rfl) ea_nil rfl) rfl) rfl rfl (by decide) rfl rfl)
  rw [Bool.not_eq_true']
  exact decide_eq_false (by omega)
theorem x_check_lettersB (T : Tx K mg) (TW : ErrBW P K mg CW iW) {ws : List Nat} {m : Int} (h1 : ws.length ≤ 10000) {j : Nat} (h : j < ws.length) (hb : ¬ (ws.getD j 0 = 77 ∨ ws.getD j 0 = 84)) (ho : ∀ i, i < j → ws.getD i 0 = 77 ∨ ws.getD i 0 = 84) : CalX P w K mg base 1 "check_letters" [dW ws, .int m] CW (fW j) := by
  have dec : ∀ c : Nat, (!decide ([c] = [77]) && !decide ([c] = [84])) = !decide (c = 77 ∨ c = 84) := fun c => by
    by_cases h7 : c = 77 <;> by_cases h8 : c = 84 <;> simp [h7, h8]
  refine calx_of T.d_check_letters sc_check_letters (fun _ _ _ _ _ _ us hl => match us, hl with | [_, _], _ => rfl) rfl fun Y hr tk => ?_
  have nd := sc_check_letters.nd
  show Bx _ _ [.val _, .val _, .any] _ _ _
  refine bx_for j (dj := .int (j : Int)) 2 (fun i r => r = [.val (dW ws), .val (.int m), .any] ∨ r = [.val (dW ws), .val (.int m), .val (.int ((i : Int) - 1))]) (passes_of rfl) rfl (ei_rng1 T.b_range (ev_lenW T.b_len (ev_var (nm 0 rfl (.inl rfl) rfl rfl) rfl) ?_ rfl rfl rfl) ?_ ?_ rfl rfl rfl) nd rfl (.inl rfl) (.inl rfl) ?_ ?_ ?_ (.inl rfl) (fun _ => rfl)
  · omega
  · omega
  · omega
  · rw [Int.toNat_natCast, List.getElem?_map, List.getElem?_range h]
    rfl
  · intro i r d hi hd hr2
    obtain ⟨hi2, rfl⟩ := rng_get hd
    rw [Int.toNat_natCast] at hi2
    have : r.set 2 (.val (.int (i : Int))) = [.val (dW ws), .val (.int m), .val (.int (i : Int))] := by
      rcases hr2 with rfl | rfl <;> rfl
    rw [this]
    refine bd_ifRet (EvT.cast (k' := false) (EvW.t (ew_and (et_cmp (ec_neW (ev_ixWN (ev_var (nm 0 rfl (.inl rfl) rfl rfl) rfl) (ev_var (nm 2 rfl (.inl rfl) rfl rfl) rfl) ?_ ?_ (fun _ _ => rfl)) (ev_strW [77])) (nomark _ (by decide) (by decide))) fun hb0 => (ew_and1 (et_cmp (ec_neW (ev_ixWN (ev_var (nm 0 rfl (.inl rfl) rfl rfl) rfl) (ev_var (nm 2 rfl (.inl rfl) rfl rfl) rfl) ?_ ?_ (fun _ _ => rfl)) (ev_strW [84])) (nomark _ (by decide) (by decide)))))) ?_) (fun e => nomatch e) fun _ => bd_nil (.inr (by
      have : (((i + 1 : Nat) : Int) - 1) = (i : Int) := by omega
      rw [this]))
    · omega
    · exact hi2
    · omega
    · exact hi2
    · rw [dec, Bool.not_eq_false', decide_eq_true_eq]
      exact ho i hi
  · intro r hr2
    have : r.set 2 (.val (.int (j : Int))) = [.val (dW ws), .val (.int m), .val (.int (j : Int))] := by
      rcases hr2 with rfl | rfl <;> rfl
    rw [this]
    refine bx_ifT (EvT.cast (k' := true) (EvW.t (ew_and (et_cmp (ec_neW (ev_ixWN (ev_var (nm 0 rfl (.inl rfl) rfl rfl) rfl) (ev_var (nm 2 rfl (.inl rfl) rfl rfl) rfl) ?_ ?_ (fun _ _ => rfl)) (ev_strW [77])) (nomark _ (by decide) (by decide))) fun hb0 => (ew_and1 (et_cmp (ec_neW (ev_ixWN (ev_var (nm 0 rfl (.inl rfl) rfl rfl) rfl) (ev_var (nm 2 rfl (.inl rfl) rfl rfl) rfl) ?_ ?_ (fun _ _ => rfl)) (ev_strW [84])) (nomark _ (by decide) (by decide)))))) ?_) (bx_raise (ns := [(j : Int)]) rfl tk TW (fun us hl => init_BW TW us hl) (by decide) rel_BW hr (ea_cons (ev_var (nm 2 rfl (.inl rfl) rfl rfl) rfl) ea_nil rfl) rfl rfl (by decide) rfl rfl)
    · omega
    · exact h
    · omega
    · exact h
    · rw [dec, Bool.not_eq_true', decide_eq_false_iff_not]
      exact hb
theorem x_check_lettersL (T : Tx K mg) (TW : ErrBW P K mg CW iW) {ws : List Nat} {m : Nat} (h1 : ws.length ≤ 10000) (hl : letters ws) (h : m < ws.length) : CalX P w K mg base 1 "check_letters" [dW ws, .int (m : Int)] CW (fW m) := by
  have dec : ∀ c : Nat, (!decide ([c] = [77]) && !decide ([c] = [84])) = !decide (c = 77 ∨ c = 84) := fun c => by
    by_cases h7 : c = 77 <;> by_cases h8 : c = 84 <;> simp [h7, h8]
  refine calx_of T.d_check_letters sc_check_letters (fun _ _ _ _ _ _ us hl => match us, hl with | [_, _], _ => rfl) rfl fun Y hr tk => ?_
  have nd := sc_check_letters.nd
  show Bx _ _ [.val _, .val _, .any] _ _ _
  refine bx_seq (ρ' := [.val (dW ws), .val (.int (m : Int)), .any]) ?_ (bx_ifT (EvT.cast (k' := true) (et_cmp (ec_gt (ev_lenW T.b_len (ev_var (nm 0 rfl (.inl rfl) rfl rfl) rfl) ?_ rfl rfl rfl) (ev_var (nm 1 rfl (.inl rfl) rfl rfl) rfl)) (nomark _ (by decide) (by decide))) ?_) (bx_raise (ns := [(m : Int)]) rfl tk TW (fun us hl => init_BW TW us hl) (by decide) rel_BW hr (ea_cons (ev_var (nm 1 rfl (.inl rfl) rfl rfl) rfl) ea_nil rfl) rfl rfl (by decide) rfl rfl))
  · refine sd_forN (k := 2) (fun i r => r = [.val (dW ws), .val (.int (m : Int)), .any]) (passes_of rfl) rfl (ei_rng1 T.b_range (ev_lenW T.b_len (ev_var (nm 0 rfl (.inl rfl) rfl rfl) rfl) ?_ rfl rfl rfl) ?_ ?_ rfl rfl rfl) nd rfl (.inl rfl) rfl ?_ (fun r h => h) (.inl rfl) (fun _ => rfl)
    · omega
    · omega
    · omega
    · intro i r d hd hI
      subst hI
      obtain ⟨hi2, rfl⟩ := rng_get hd
      rw [Int.toNat_natCast] at hi2
      refine bd_post ?_
      show Bd _ [.val (dW ws), .val (.int (m : Int)), .val (.int (i : Int))] _ _
      refine bd_ifRet (EvT.cast (k' := false) (EvW.t (ew_and (et_cmp (ec_neW (ev_ixWN (ev_var (nm 0 rfl (.inl rfl) rfl rfl) rfl) (ev_var (nm 2 rfl (.inl rfl) rfl rfl) rfl) ?_ ?_ (fun _ _ => rfl)) (ev_strW [77])) (nomark _ (by decide) (by decide))) fun hb0 => (ew_and1 (et_cmp (ec_neW (ev_ixWN (ev_var (nm 0 rfl (.inl rfl) rfl rfl) rfl) (ev_var (nm 2 rfl (.inl rfl) rfl rfl) rfl) ?_ ?_ (fun _ _ => rfl)) (ev_strW [84])) (nomark _ (by decide) (by decide)))))) ?_) (fun e => nomatch e) fun _ => bd_nil ⟨_, (by repeat (first | exact Wk.nil | refine Wk.any ?_ | refine Wk.same ?_ | refine Wk.frz ?_)), rfl⟩
      · omega
      · exact hi2
      · omega
      · exact hi2
      · rw [dec, Bool.not_eq_false', decide_eq_true_eq]
        exact hl _ (getD_mem hi2)
  · omega
  · exact decide_eq_true (by omega)
theorem x_check_word (T : Tx K mg) (TW : ErrBW P K mg CW iW) {ws : List Nat} {n p : Nat} (h1 : ws.length ≤ 1000) (hw : Wrong ws n p) : CalX P w K mg base 2 "check_word" [dW ws, .int (n : Int)] CW (fW p) := by
  refine calx_of T.d_check_word sc_check_word (fun _ _ _ _ _ _ us hl => match us, hl with | [_, _], _ => rfl) rfl fun Y hr tk => ?_
  have nd := sc_check_word.nd
  show Bx _ _ [.val _, .val _] _ _ _
  cases hw with
  | bad h hb ho => exact bx_call (x_check_lettersB T TW (by omega) h hb ho) (hr.mono (by decide)) tk (ea_cons (ev_var (nm 0 rfl (.inl rfl) rfl rfl) rfl) (ea_cons (ev_var (nm 1 rfl (.inl rfl) rfl rfl) rfl) ea_nil rfl) rfl) rfl (by decide) rfl rfl rfl
  | long hl h => exact bx_call (x_check_lettersL T TW (by omega) hl h) (hr.mono (by decide)) tk (ea_cons (ev_var (nm 0 rfl (.inl rfl) rfl rfl) rfl) (ea_cons (ev_var (nm 1 rfl (.inl rfl) rfl rfl) rfl) ea_nil rfl) rfl) rfl (by decide) rfl rfl rfl
  | short hl h =>
    refine bx_seq (sd_expr (ev_call (c_check_letters T h1 hl (by omega)) (hr.mono (by decide)) (ea_cons (ev_var (nm 0 rfl (.inl rfl) rfl rfl) rfl) (ea_cons (ev_var (nm 1 rfl (.inl rfl) rfl rfl) rfl) ea_nil rfl) rfl) rfl (by decide) rfl rfl) rfl rfl) (bx_ifT (EvT.cast (k' := true) (et_cmp (ec_lt (ev_lenW T.b_len (ev_var (nm 0 rfl (.inl rfl) rfl rfl) rfl) ?_ rfl rfl rfl) (ev_var (nm 1 rfl (.inl rfl) rfl rfl) rfl)) (nomark _ (by decide) (by decide))) ?_) (bx_raise (ns := [(ws.length : Int)]) rfl tk TW (fun us hl => init_BW TW us hl) (by decide) rel_BW hr (ea_cons (ev_lenW T.b_len (ev_var (nm 0 rfl (.inl rfl) rfl rfl) rfl) ?_ rfl rfl rfl) ea_nil rfl) rfl rfl (by decide) rfl rfl))
    · omega
    · exact decide_eq_true (by omega)
    · omega
theorem x_value (T : Tx K mg) (TW : ErrBW P K mg CW iW) {row : List Int} {ws many : List Nat} {p : Nat} (h1 : ws.length ≤ 1000) (hw : Wrong ws row.length p) : CalXK P w K mg base 3 "value" "many" [lI row, dW ws] (dW many) CW (fW p) := by
  refine calxk_of T.d_value sc_value (fun _ _ _ _ _ _ us ws h1 h2 => match us, h1, ws, h2 with | [_, _], _, [_], _ => rfl) rfl fun Y hr tk => ?_
  have nd := sc_value.nd
  show Bx _ _ [.val _, .val _, .val _, .any, .any] _ _ _
  exact bx_call (x_check_word T TW h1 hw) (hr.mono (by decide)) tk (ea_cons (ev_var (nm 1 rfl (.inl rfl) rfl rfl) rfl) (ea_cons (ev_lenL T.b_len (Ev.l (ev_var (nm 0 rfl (.inl rfl) rfl rfl) rfl)) rfl rfl rfl) ea_nil rfl) rfl) rfl (by decide) rfl rfl rfl
theorem x_value_paperW (T : Tx K mg) (TW : ErrBW P K mg CW iW) {mine theirs : List Int} {ws : List Nat} {p : Nat} (h : mine.length = theirs.length) (h1 : mine.length ≤ 1000) (h2 : ws.length ≤ 1000) (hw : Wrong ws mine.length p) : CalXD P w K mg base 5 "value_paper" (.str "mine") [lI mine, lI theirs, dW ws] (dW (sideW 1)) CW (fW p) := by
  refine calxd_of T.d_value_paper sc_value_paper (fun D doc pm an cdv ct us ks h1 h2 => match us, h1, ks, h2 with | [_, _, _], _, [_], _ => ⟨_, _, _, _, _, _, rfl, rfl, rfl⟩) (fun H => by
    rw [w_mine]
    exact .str _) rfl fun Y hr tk => ?_
  have nd := sc_value_paper.nd
  show Bx _ _ [.val _, .val _, .val _, .val _, .any, .any] _ _ _
  refine bx_seq (sd_expr (ev_call (c_check_hands T h) (hr.mono (by decide)) (ea_cons (ev_var (nm 0 rfl (.inl rfl) rfl rfl) rfl) (ea_cons (ev_var (nm 1 rfl (.inl rfl) rfl rfl) rfl) ea_nil rfl) rfl) rfl (by decide) rfl rfl) rfl rfl) (bx_seq (sd_asg (k := 4) nd rfl (.inl rfl) (EvN.ev (evn_call (c_row_of T h h1) (hr.mono (by decide)) (ea_cons (ev_var (nm 0 rfl (.inl rfl) rfl rfl) rfl) (ea_cons (ev_var (nm 1 rfl (.inl rfl) rfl rfl) rfl) ea_nil rfl) rfl) rfl (by decide) rfl rfl)) rfl rfl (.inl rfl)) ?_)
  exact bx_asgK (j := 5) (x_value T TW h2 (by rw [rowL_len]; exact hw)) (hr.mono (by decide)) tk (ea_cons (ev_var (nm 4 rfl (.inl rfl) rfl rfl) rfl) (ea_cons (ev_var (nm 2 rfl (.inl rfl) rfl rfl) rfl) ea_nil rfl) rfl) (ev_var (nm 3 rfl (.inl rfl) rfl rfl) rfl) nd rfl (.inl rfl) rfl rfl rfl (by decide) rfl rfl rfl (.inl rfl)
theorem x_value_paperH (T : Tx K mg) (TH : ErrBH P K mg CH iH) {mine theirs : List Int} {ws : List Nat} (h : mine.length ≠ theirs.length) : CalXD P w K mg base 5 "value_paper" (.str "mine") [lI mine, lI theirs, dW ws] (dW (sideW 1)) CH (fH mine theirs) := by
  refine calxd_of T.d_value_paper sc_value_paper (fun D doc pm an cdv ct us ks h1 h2 => match us, h1, ks, h2 with | [_, _, _], _, [_], _ => ⟨_, _, _, _, _, _, rfl, rfl, rfl⟩) (fun H => by
    rw [w_mine]
    exact .str _) rfl fun Y hr tk => ?_
  have nd := sc_value_paper.nd
  show Bx _ _ [.val _, .val _, .val _, .val _, .any, .any] _ _ _
  exact bx_call (x_check_hands T TH h) (hr.mono (by decide)) tk (ea_cons (ev_var (nm 0 rfl (.inl rfl) rfl rfl) rfl) (ea_cons (ev_var (nm 1 rfl (.inl rfl) rfl rfl) rfl) ea_nil rfl) rfl) rfl (by decide) rfl rfl rfl
theorem x_span_paper (T : Tx K mg) (TH : ErrBH P K mg CH iH) {mine theirs : List Int} (h : mine.length ≠ theirs.length) : CalX P w K mg base 2 "span_paper" [lI mine, lI theirs] CH (fH mine theirs) := by
  refine calx_of T.d_span_paper sc_span_paper (fun _ _ _ _ _ _ us hl => match us, hl with | [_, _], _ => rfl) rfl fun Y hr tk => ?_
  have nd := sc_span_paper.nd
  show Bx _ _ [.val _, .val _, .any, .any, .any, .any, .any, .any] _ _ _
  exact bx_call (x_check_hands T TH h) (hr.mono (by decide)) tk (ea_cons (ev_var (nm 0 rfl (.inl rfl) rfl rfl) rfl) (ea_cons (ev_var (nm 1 rfl (.inl rfl) rfl rfl) rfl) ea_nil rfl) rfl) rfl (by decide) rfl rfl rfl
theorem x_row_paper (T : Tx K mg) (TH : ErrBH P K mg CH iH) {mine theirs : List Int} (h : mine.length ≠ theirs.length) : CalX P w K mg base 2 "row_paper" [lI mine, lI theirs] CH (fH mine theirs) := by
  refine calx_of T.d_row_paper sc_row_paper (fun _ _ _ _ _ _ us hl => match us, hl with | [_, _], _ => rfl) rfl fun Y hr tk => ?_
  have nd := sc_row_paper.nd
  show Bx _ _ [.val _, .val _] _ _ _
  exact bx_call (x_check_hands T TH h) (hr.mono (by decide)) tk (ea_cons (ev_var (nm 0 rfl (.inl rfl) rfl rfl) rfl) (ea_cons (ev_var (nm 1 rfl (.inl rfl) rfl rfl) rfl) ea_nil rfl) rfl) rfl (by decide) rfl rfl rfl
theorem x_look_span (T : Tx K mg) (TH : ErrBH P K mg CH iH) {mine theirs : List Int} {d : D} (h : mine.length ≠ theirs.length) : CalX P w K mg base 2 "look_span" [lI mine, lI theirs, d] CH (fH mine theirs) := by
  refine calx_of T.d_look_span sc_look_span (fun _ _ _ _ _ _ us hl => match us, hl with | [_, _, _], _ => rfl) rfl fun Y hr tk => ?_
  have nd := sc_look_span.nd
  show Bx _ _ [.val _, .val _, .val _, .any, .any, .any, .any, .any, .any, .any, .any] _ _ _
  exact bx_call (x_check_hands T TH h) (hr.mono (by decide)) tk (ea_cons (ev_var (nm 0 rfl (.inl rfl) rfl rfl) rfl) (ea_cons (ev_var (nm 1 rfl (.inl rfl) rfl rfl) rfl) ea_nil rfl) rfl) rfl (by decide) rfl rfl rfl
theorem x_look_row (T : Tx K mg) (TH : ErrBH P K mg CH iH) {mine theirs : List Int} {d : D} (h : mine.length ≠ theirs.length) : CalX P w K mg base 2 "look_row" [lI mine, lI theirs, d] CH (fH mine theirs) := by
  refine calx_of T.d_look_row sc_look_row (fun _ _ _ _ _ _ us hl => match us, hl with | [_, _, _], _ => rfl) rfl fun Y hr tk => ?_
  have nd := sc_look_row.nd
  show Bx _ _ [.val _, .val _, .val _] _ _ _
  exact bx_call (x_check_hands T TH h) (hr.mono (by decide)) tk (ea_cons (ev_var (nm 0 rfl (.inl rfl) rfl rfl) rfl) (ea_cons (ev_var (nm 1 rfl (.inl rfl) rfl rfl) rfl) ea_nil rfl) rfl) rfl (by decide) rfl rfl rfl
theorem x_look_value (T : Tx K mg) (TH : ErrBH P K mg CH iH) {mine theirs : List Int} {d : D} (h : mine.length ≠ theirs.length) : CalX P w K mg base 2 "look_value" [lI mine, lI theirs, d] CH (fH mine theirs) := by
  refine calx_of T.d_look_value sc_look_value (fun _ _ _ _ _ _ us hl => match us, hl with | [_, _, _], _ => rfl) rfl fun Y hr tk => ?_
  have nd := sc_look_value.nd
  show Bx _ _ [.val _, .val _, .val _, .any, .any, .any, .any, .any, .any] _ _ _
  exact bx_call (x_check_hands T TH h) (hr.mono (by decide)) tk (ea_cons (ev_var (nm 0 rfl (.inl rfl) rfl rfl) rfl) (ea_cons (ev_var (nm 1 rfl (.inl rfl) rfl rfl) rfl) ea_nil rfl) rfl) rfl (by decide) rfl rfl rfl
end
end Y
end S_X2

section S_X3
set_option maxHeartbeats 2000000
namespace Y
open PySem PySem.Spec PyProof.Rows L2
/-! ### try .. except as, the caught error asked -/
theorem takesF {X : Cx} : Takes X (fun _ _ _ _ => False) := fun _ _ ⟨_, _, _, _, _, _, _, _, _, _, _, _, _, _, _, _, w⟩ => w.elim
def tbW (X : Cx) (body : List Stmt) (W : WX) : TS := fun D σ H => ∀ (pn : List (Addr × Obj)) (xe : Value → Shared → Prop), Takes (X.tr pn xe) W → PassesOwn (model X.prog X.w) X.A X.env xe → wpB (X.tr pn xe) body D σ H
def tsW (X : Cx) (suite : List Stmt) (a : Addr) (cls : Value) (d : Option Addr) : TS := fun D σ H => ∀ (oe : Obj) (pn : List (Addr × Obj)), Zc cls d oe → (∃ vs, oe.data = .fields vs) → wpB (X.suite a ((a, oe) :: pn)) suite D σ H
theorem ps_tryW {X : Cx} {x n : Str} {c : Value} {i : Nat} {body suite : List Stmt} {b₀ : Stmt} {np pos pos' : Pos} (hs : X.stack = X.env :: X.outer) (hf : X.env.frame = some X.env.locals) (hN : X.N.Nodup) (hi : X.N[i]? = some n) (hln : X.env.kindOf n = some .local) (hc : Names X x c) :
    PS X (.Try body [.ExceptHandler (some (.Name x np)) (some n) (b₀ :: suite) pos'] [] [] pos) (fun D σ H => tbW X body (wAs X.K c i (tsW X (b₀ :: suite)) (fun _ _ _ _ => False) D) D σ H) :=
  ps_try_as (tb := tbW X body) (ts := tsW X (b₀ :: suite)) hs hf hN hi hln hc takesF (fun W pn xe tk po => ⟨fun pins s σ H D I h => pss_wp.run pins s σ H D I (h pn xe tk po)⟩) fun a oe cls d pn hz hfl => ⟨fun pins s σ H D I h => pss_wp.run pins s σ H D I (h oe pn hz hfl)⟩
/-- the statements raise C, with the slots as they stand -/
def Bxs (X : Cx) (W : WX) (ρ : Rho) (sts : List Stmt) (C : Addr) (fs : List (Str × V)) : Prop := ∀ (HBe He : Hp) (σ : L2.St) (HB H : Hp), EnvS X.K HBe He HB H σ ρ → ∀ Dn : Ends, (∀ d H', Ex H H' → H d = none → H' d = some (.xd fs) → W (.ref C) (some d) σ H') → wpB X sts Dn σ H
section
variable {X : Cx} {W : WX} {ρ ρ' : Rho} {e a b c tg : Expr} {es : List Expr} {d d0 d1 : D} {ds ps : List D} {pos p pos' cpos : Pos} {x y kw : Str} {st : Stmt} {rest body A B : List Stmt} {C fI : Addr} {fs : List (Str × V)} {n k : Nat} {dv : V} {P : Post}
theorem EnvS.setCond {K : PySem.W.Frag} {HBe He HB H : Hp} {σ : L2.St} (e : EnvS K HBe He HB H σ ρ) (k : Nat) {v : V} {a : Addr} {u : HO} (h : HB a = some u) : EnvS K HBe He HB H (σ.set k (some v)) (ρ.set k (.cond v a u)) := by
  have e1 := e.setRaw k v
  refine ⟨⟨e1.e.ex, by rw [e1.e.len, List.length_set, List.length_set], fun i o s h1 h2 => ?_, fun i j p ds es h1 h2 h3 h4 => ?_⟩, e1.s, fun i ds p h1 h2 => ?_⟩
  · by_cases hi : k = i
    · subst hi
      have hk : k < ρ.length := by
        have := (List.getElem?_eq_some_iff.mp h2).1
        rwa [List.length_set] at this
      rw [List.getElem?_set_self hk] at h2
      cases h2
      have hk2 : k < σ.length := by rw [e.e.len]; exact hk
      rw [List.getElem?_set_self hk2] at h1
      cases h1
      exact ⟨rfl, h⟩
    · rw [List.getElem?_set_ne hi] at h2
      exact e1.e.ok i o s h1 (by rw [List.getElem?_set_ne hi]; exact h2)
  all_goals
    have low : ∀ {i : Nat} {ds : List D}, (ρ.set k (.cond v a u))[i]? = some (Slot.own ds) → (ρ.set k (.raw v))[i]? = some (Slot.own ds) := fun {i ds} q => by
      by_cases hi : k = i
      · subst hi
        rw [List.getElem?_set] at q
        simp only [if_true] at q
        split at q <;> cases q
      · rw [List.getElem?_set_ne hi] at q ⊢
        exact q
  · exact e1.e.sep i j p ds es (low h1) (low h2) h3 h4
  · exact e1.o i ds p (low h1) h2
theorem bxs_ifT (hc : EvT X ρ c true) (h : Bxs X W ρ A C fs) : Bxs X W ρ (.If c A B pos :: rest) C fs := fun HBe He σ HB H hE Dn z =>
  ⟨_, pss_cons (ps_if pt_wp pss_wp pss_wp) pss_wp, hc σ HB H hE.e _ fun HB2 H2 x2 => iteT (h HBe He σ HB2 H2 (hE.step x2) _ fun d H' h1 h2 h3 => z d H' (x2.h.trans h1) (x2.h.free h2) h3)⟩
theorem bxs_ifE (hc : EvT X ρ c false) (h : Bxs X W ρ B C fs) : Bxs X W ρ (.If c A B pos :: rest) C fs := fun HBe He σ HB H hE Dn z =>
  ⟨_, pss_cons (ps_if pt_wp pss_wp pss_wp) pss_wp, hc σ HB H hE.e _ fun HB2 H2 x2 => iteF (h HBe He σ HB2 H2 (hE.step x2) _ fun d H' h1 h2 h3 => z d H' (x2.h.trans h1) (x2.h.free h2) h3)⟩
theorem bxs_call (Cc : CalX X.prog X.w X.K X.mg X.base k x ds C fs) (hr : Room k X.A) (tk : Takes X W) (ha : EvA X ρ (e :: es) ds) (hg : Gl X x := by rfl) (hdb : (x == ("__debug__" : Str)) = false := by decide) (he : starEach (e :: es) X.env = (false, eval e X.env) :: starEach es X.env := by rfl) (hpl : NoStar X cpos es := by rfl)
    (hs : swapsWith (.Call (.Name x p) (e :: es) [] cpos) none pos.line X.env = pure false := by rfl) : Bxs X W ρ (.Expr (.Call (.Name x p) (e :: es) [] cpos) pos :: rest) C fs := fun HBe He σ HB H hE Dn z => by
  obtain ⟨f, fd, ps, hm, hk, hb, F⟩ := Cc.ex
  refine ⟨_, pss_cons (ps_expr (pe_callS (E := WE W) F hr hg hm hk hb (fun σ => passAt tk σ) pa_wp hdb he hpl) hs) pss_wp, ha σ HB H hE.e _ fun vs HB1 H1 x1 r1 => ?_⟩
  exact ⟨HB1, x1.in_, r1, fun d H2 h2 h0 h3 => z d H2 (x1.h.trans h2) (x1.h.free h0) h3⟩
def tCallSd (sp : Sp) (dvs : List V) (E : L2.St → XK) (t : TA) : TE := fun σ H Q => t σ H fun vs H1 => sp (vs ++ dvs) H1 Q (E σ)
theorem pe_callSd {CX : CXT} {E : L2.St → XK} {f : Addr} {fd : FuncData} {qs : List Str} {sp : Sp} {dvs : List V} {us0 : List Value} {t : TA} (F : FnOk X.prog X.w X.K X.mg X.base CX k f fd qs sp) (hr : Room k X.A) (hg : Gl X x) (hm : X.mg x = some (.ref f)) (hk : PySem.W.keepIn X.K (.ref f) = true) (hb : Binds X.K fd qs us0) (hd : Vals dvs us0) (hx : ∀ σ, PassesAt CX X σ (E σ))
    (ha : PA X (e :: es) t) (hdb : (x == ("__debug__" : Str)) = false := by decide) (he : starEach (e :: es) X.env = (false, eval e X.env) :: starEach es X.env := by rfl) (hpl : (backTo cpos (starEach es X.env)).any (·.1) = false := by rfl) :
    PE X (.Call (.Name x p) (e :: es) [] cpos) (tCallSd sp dvs E t) := by
  refine ⟨fun pins s σ H Q I h => ?_⟩
  refine wpAny_Call_Name_kw (ld_glob I hg hm ?_ hdb)
  refine PySem.W.callWith_K (h₀ := X.base) I.ok.mod.kin hk (thn (ha.run cpos pins s σ H _ I h) fun us s1 ⟨vs, H1, I1, r, q⟩ => ⟨I1.kIn, ?_⟩) he hpl
  have r2 := r.append hd
  have hl : (us ++ us0).length = qs.length := by rw [← r2.length]; exact F.len _ _ _ _ q
  have b := hb s1 us I1.kIn hl
  refine wpAny_call (codeAny_mono (F.run X.A X.stack s1 H1 ⟨us, []⟩ (us ++ us0) (vs ++ dvs) Q (E σ) hr I1.env0 b r2 q) fun r s' hq => ?_)
  cases r with
  | error e => exact hx σ pins H1 s1 e s' I1 hq
  | ok fl =>
    cases fl with
    | ret u => exact I1.after hq
    | next => exact False.elim hq
    | brk => exact False.elim hq
    | cont => exact False.elim hq
theorem bxs_callD (Cc : CalXD X.prog X.w X.K X.mg X.base k x dv ds d0 C fs) (hr : Room k X.A) (tk : Takes X W) (ha : EvA X ρ (e :: es) ds) (hg : Gl X x := by rfl) (hdb : (x == ("__debug__" : Str)) = false := by decide) (he : starEach (e :: es) X.env = (false, eval e X.env) :: starEach es X.env := by rfl) (hpl : NoStar X cpos es := by rfl)
    (hs : swapsWith (.Call (.Name x p) (e :: es) [] cpos) none pos.line X.env = pure false := by rfl) : Bxs X W ρ (.Expr (.Call (.Name x p) (e :: es) [] cpos) pos :: rest) C fs := fun HBe He σ HB H hE Dn z => by
  obtain ⟨f, fd, ps, us, hm, hk, hv, hb, hd, F⟩ := Cc.ex
  refine ⟨_, pss_cons (ps_expr (pe_callSd (E := WE W) F hr hg hm hk hb hv (fun σ => passAt tk σ) pa_wp hdb he hpl) hs) pss_wp, ha σ HB H hE.e _ fun vs HB1 H1 x1 r1 => ?_⟩
  exact ⟨HB1, x1.in_, RpAll.ap r1 (hd _), fun d H2 h2 h0 h3 => z d H2 (x1.h.trans h2) (x1.h.free h0) h3⟩
/-- a paper that is made and left -/
theorem sd_papD (Cc : CalPD X.prog X.w X.K X.mg X.base k x dv ds d0 ps) (hr : Room k X.A) (ha : EvA X ρ (e :: es) ds) (h : P.nx ρ) (hg : Gl X x := by rfl) (hdb : (x == ("__debug__" : Str)) = false := by decide) (he : starEach (e :: es) X.env = (false, eval e X.env) :: starEach es X.env := by rfl) (hpl : NoStar X cpos es := by rfl)
    (hs : swapsWith (.Call (.Name x p) (e :: es) [] cpos) none pos.line X.env = pure false := by rfl) : Sd X ρ (.Expr (.Call (.Name x p) (e :: es) [] cpos) pos) P := fun HBe He σ HB H hE Dn q => by
  obtain ⟨f, fd, qs, us, hm, hk, hv, hb, hd, F⟩ := Cc.ex
  refine ⟨_, ps_expr (pe_call (E := E0) F hr hg hm hk hb hv passN pa_wp hdb he hpl) hs, ha σ HB H hE.e _ fun vs HB1 H1 x1 r1 => ?_⟩
  exact ⟨HB1, x1.in_, RpAll.ap r1 (hd _), fun v E' HB2 H2 x2 hf hp => q.1 _ _ HB2 H2 h (hE.step (x1.trans x2))⟩
/-- try: a body that raises C; its clause takes it -/
theorem sd_tryX {n : Str} {cv : Value} {i : Nat} {suite : List Stmt} {b₀ : Stmt} {np : Pos} (hs : X.stack = X.env :: X.outer) (hf : X.env.frame = some X.env.locals) (hN : X.N.Nodup) (hi : X.N[i]? = some n) (hln : X.env.kindOf n = some .local) (hc : Names X x cv)
    (hb : ∀ pn xe W, Takes (X.tr pn xe) W → Bxs (X.tr pn xe) W ρ body C fs) (hm : PySem.W.exmOne X.K (.ref C) cv = some true)
    (hsu : ∀ (a dd : Addr) (oe : Obj) (pn : List (Addr × Obj)), Zc (.ref C) (some dd) oe → (∃ vs, oe.data = .fields vs) → Bd (X.suite a ((a, oe) :: pn)) (ρ.set i (.cond (.ref a) dd (.xd fs))) (b₀ :: suite) ⟨fun _ => False, P.rt⟩) :
    Sd X ρ (.Try body [.ExceptHandler (some (.Name x np)) (some n) (b₀ :: suite) pos'] [] [] pos) P := fun HBe He σ HB H hE Dn q => by
  refine ⟨_, ps_tryW hs hf hN hi hln hc, fun pn xe tk po => hb pn xe _ tk HBe He σ HB H hE Dn fun d H' h1 h2 h3 => ⟨true, hm, fun _ a ha oe pn2 hz hfl => ?_, fun h => nomatch h⟩⟩
  have hE1 : EnvS X.K HBe He HB H' σ ρ := hE.step ⟨Ex.refl _, hE.e.ex.trans h1, h1, fun a h1 h2 => absurd h1 h2⟩
  have x : Step HB H (upd HB d (.xd fs)) H' := Step.know ⟨Ex.refl _, hE.e.ex.trans h1, h1, fun a h1 h2 => absurd h1 h2⟩ h2 (hE.e.ex.free h2) h3
  have hE2 := (hE.step x).setCond i (v := .ref a) (upd_same (H := HB) (a := d) (o := HO.xd fs))
  exact hsu a d oe pn2 hz hfl HBe He _ _ H' hE2 _ ⟨fun _ _ _ _ f => f.elim, q.2⟩
/-- try: a body that ends -/
theorem sd_tryN {n : Str} {cv : Value} {i : Nat} {suite : List Stmt} {b₀ : Stmt} {np : Pos} (hs : X.stack = X.env :: X.outer) (hf : X.env.frame = some X.env.locals) (hN : X.N.Nodup) (hi : X.N[i]? = some n) (hln : X.env.kindOf n = some .local) (hc : Names X x cv)
    (hb : ∀ pn xe, Bd (X.tr pn xe) ρ body P) : Sd X ρ (.Try body [.ExceptHandler (some (.Name x np)) (some n) (b₀ :: suite) pos'] [] [] pos) P := fun HBe He σ HB H hE Dn q =>
  ⟨_, ps_tryW hs hf hN hi hln hc, fun pn xe tk po => hb pn xe HBe He σ HB H hE Dn q⟩
end
/-! ### isinstance of the caught error -/
/-- what its class says -/
structure ExcD (K : PySem.W.Frag) (C : Addr) : Prop where
  cl : (PySem.W.clsIn K C).isSome = true
  ga : PySem.W.findIn K (.ref C) "__getattribute__" = some (some (.builtin "BaseException.__getattribute__"))
  gg : PySem.W.findIn K (.ref C) "__getattr__" = some none
  ex : PySem.W.subIn K (.ref C) (.type "BaseException") = some true
  hd : PySem.W.hasDictIn K C = true
  ca : PySem.W.findIn K (.ref C) "__class__" = some (some (.builtin "object.__class__"))
  cg : PySem.W.specialIn K (.builtin "object.__class__") "__get__" = some (some (.builtin "getset_descriptor.__get__"))
  ct : PySem.W.takesIn K (.builtin "object.__class__") = some true
  ob : PySem.W.mroIn K C (.type "object") = some true
def rIsD (K : PySem.W.Frag) (C a dd : Addr) (fs : List (Str × V)) : List V → Hp → VK → Prop := fun xs H Q => ∃ (c : V) (cv : Value) (b : Bool), xs = [.ref a, c] ∧ ClsV c cv ∧ PySem.W.kitOne K (.ref C) cv = some b ∧ H dd = some (.xd fs) ∧ Q (.bl b) H
def rIsTD (K : PySem.W.Frag) (C a dd : Addr) (fs : List (Str × V)) : List V → Hp → VK → Prop := fun xs H Q => ∃ (tp : Addr) (cs : List V) (us : List Value) (b : Bool), xs = [.ref a, .ref tp] ∧ H tp = some (.tup cs) ∧ Paired ClsV cs us ∧ PySem.W.kitAny K (.ref C) us = some b ∧ H dd = some (.xd fs) ∧ Q (.bl b) H
section
variable {X : Cx} {a C dd : Addr} {oe : Obj} {pn : List (Addr × Obj)} {fs : List (Str × V)}
theorem inst_of {pins : List (Addr × Obj)} {σ : L2.St} {H : Hp} {s : Shared} (hz : Zc (.ref C) (some dd) oe) (hf : ∃ vs, oe.data = .fields vs) (I : Inv (X.suite a ((a, oe) :: pn)) pins σ H s) (ha : H dd = some (.xd fs)) : ∃ od, PySem.W.InstAt s.heap a oe C (some od) := by
  obtain ⟨hp, _⟩ := I.pin (a, oe) (List.mem_append_left _ List.mem_cons_self)
  obtain ⟨vs, hd⟩ := hf
  have hx : ObjOk X.prog X.w H s.heap dd (.xd fs) := I.hok dd _ ha
  obtain ⟨mA, hns, hr⟩ := hx
  obtain ⟨od, ho, hl⟩ := lookIn_ns hns
  exact ⟨od, ⟨hp, hz.1, by unfold PySem.W.notCls; rw [hd] <;> rfl, by rw [hz.2]; exact ho⟩⟩
theorem call_isD (T : ExcD X.K C) (hz : Zc (.ref C) (some dd) oe) (hf : ∃ vs, oe.data = .fields vs) : CallR (X.suite a ((a, oe) :: pn)) (.builtin "isinstance") (rIsD X.K C a dd fs) := by
  intro pins s σ H xs us Q I r h
  obtain ⟨c, cv, b, rfl, hcv, e, hdd, q⟩ := h
  obtain ⟨od, J⟩ := inst_of hz hf I hdd
  obtain ⟨u1, u2, rfl, r1, r2⟩ := vals2 r
  obtain rfl : u1 = Value.ref a := r1
  obtain rfl := hcv.eq r2
  exact PySem.W.kia_one (PySem.W.kitx_exc T.cl T.ga T.gg T.ex T.ca T.cg T.ct T.ob) I.kIn J e (fun z => nomatch z) fun tk => ⟨.bl b, H, I.tok tk, rfl, q⟩
theorem call_isTD (T : ExcD X.K C) (hz : Zc (.ref C) (some dd) oe) (hf : ∃ vs, oe.data = .fields vs) : CallR (X.suite a ((a, oe) :: pn)) (.builtin "isinstance") (rIsTD X.K C a dd fs) := by
  intro pins s σ H xs us Q I r h
  obtain ⟨tp, cs, ws, b, rfl, hT, k, e, hdd, q⟩ := h
  obtain ⟨od, J⟩ := inst_of hz hf I hdd
  obtain ⟨u1, u2, rfl, r1, r2⟩ := vals2 r
  obtain rfl : u1 = Value.ref a := r1
  obtain rfl : u2 = Value.ref tp := r2
  obtain ⟨_, its, rv, o, h1, h2, n, h3⟩ := (show ObjOk X.prog X.w H s.heap tp (.tup cs) from I.hok tp _ hT)
  have e3 := ClsV.all k rv
  subst e3
  obtain ⟨oc, od2, dt, sl⟩ := o
  simp only at h2 h3
  subst h2 h3
  exact PySem.W.kia_tup (PySem.W.kitx_exc T.cl T.ga T.gg T.ex T.ca T.cg T.ct T.ob) I.kIn J h1 e (fun z => nomatch z) fun tk => ⟨.bl b, H, I.tok tk, rfl, q⟩
def tCl (cs : List V) : TA := fun _ H Q => Q cs H
theorem pa_clN {X : Cx} : PA X [] (tCl []) := pa_nil
theorem pa_clC {X : Cx} {x : Str} {p : Pos} {C : Addr} {es : List Expr} {cs : List V} (hg : Gl X x) (hm : X.mg x = some (.ref C)) (h : PA X es (tCl cs)) (hd : (x == ("__debug__" : Str)) = false := by decide) (hs : starEach (.Name x p :: es) X.env = (false, eval (.Name x p) X.env) :: starEach es X.env := by rfl) : PA X (.Name x p :: es) (tCl (.ref C :: cs)) :=
  pa_cons (pe_glob hg hm (show RelV (.ref C) (.ref C) from rfl) hd) h hs
variable {ρ : Rho} {e : Expr} {es : List Expr} {pos p p2 tp : Pos} {i : Nat} {x : Str} {b : Bool}
theorem ev_isD {c : V} {cv : Value} {te : Expr} (T : ExcD X.K C) (hz : Zc (.ref C) (some dd) oe) (hf : ∃ vs, oe.data = .fields vs) (hv : PE (X.suite a ((a, oe) :: pn)) e (tVar i)) (hk : ρ[i]? = some (.cond (.ref a) dd (.xd fs))) (hc : PE (X.suite a ((a, oe) :: pn)) te (tC c)) (hcv : ClsV c cv) (hb : PySem.W.kitOne X.K (.ref C) cv = some b)
    (hm : X.mg "isinstance" = none) (hg : Gl (X.suite a ((a, oe) :: pn)) "isinstance" := by rfl) (hs : St2 (X.suite a ((a, oe) :: pn)) e te := by rfl) (hs' : St1 (X.suite a ((a, oe) :: pn)) te := by rfl) (hp : NoStar (X.suite a ((a, oe) :: pn)) pos [te] := by rfl) :
    Ev (X.suite a ((a, oe) :: pn)) ρ (.Call (.Name "isinstance" p) [e, te] [] pos) (.bl b) := fun σ HB H he Q q => by
  obtain ⟨h1, h2⟩ := he.cond hk
  exact ⟨_, pe_callB (call_isD (fs := fs) T hz hf) hg hm (by decide +kernel) (pa_cons hv (pa_cons hc pa_nil hs') hs) (he := hs) (hpl := hp), _, h1, c, cv, b, rfl, hcv, hb, he.ex _ _ h2, q _ HB H (Step.refl he.ex) (.bl b)⟩
theorem ev_isTD {cs : List V} {us : List Value} {k : Nat} (T : ExcD X.K C) (hz : Zc (.ref C) (some dd) oe) (hf : ∃ vs, oe.data = .fields vs) (hv : PE (X.suite a ((a, oe) :: pn)) e (tVar i)) (hk : ρ[i]? = some (.cond (.ref a) dd (.xd fs))) (hc : PA (X.suite a ((a, oe) :: pn)) es (tCl cs)) (hl : cs.length ≤ 100000) (hcv : Paired ClsV cs us) (hb : PySem.W.kitAny X.K (.ref C) us = some b)
    (hm : X.mg "isinstance" = none) (hg : Gl (X.suite a ((a, oe) :: pn)) "isinstance" := by rfl) (hs : St2 (X.suite a ((a, oe) :: pn)) e (.Tuple es k tp) := by rfl) (hs' : St1 (X.suite a ((a, oe) :: pn)) (.Tuple es k tp) := by rfl) (hp : NoStar (X.suite a ((a, oe) :: pn)) pos [.Tuple es k tp] := by rfl) :
    Ev (X.suite a ((a, oe) :: pn)) ρ (.Call (.Name "isinstance" p) [e, .Tuple es k tp] [] pos) (.bl b) := fun σ HB H he Q q => by
  obtain ⟨h1, h2⟩ := he.cond hk
  refine ⟨_, pe_callB (call_isTD (fs := fs) T hz hf) hg hm (by decide +kernel) (pa_cons hv (pa_cons (pe_tup hc) pa_nil hs') hs) (he := hs) (hpl := hp), _, h1, Nat.le_trans hl (by decide), fun pp hpp => ?_⟩
  refine ⟨pp, cs, us, b, rfl, upd_same, hcv, hb, ?_, q _ HB _ (Step.out he.ex hpp) (.bl b)⟩
  have hne : dd ≠ pp := fun z => by
    subst z
    rw [he.ex _ _ h2] at hpp
    cases hpp
  rw [upd_ne hne]
  exact he.ex _ _ h2
/-- e.f -/
theorem ev_xfI {f : Str} {z : Int} (T : XfC X.K C) (hno : PySem.W.findIn X.K (.ref C) f = some none) (hz : Zc (.ref C) (some dd) oe) (hf : ∃ vs, oe.data = .fields vs) (hv : PE (X.suite a ((a, oe) :: pn)) e (tVar i)) (hk : ρ[i]? = some (.cond (.ref a) dd (.xd fs))) (hl : fs.lookup f = some (.int z)) (hb : attributeBase e f X.env (eval e X.env) = eval e X.env := by rfl) :
    Ev (X.suite a ((a, oe) :: pn)) ρ (.Attribute e f pos) (.int z) := fun σ HB H he Q q => by
  obtain ⟨h1, h2⟩ := he.cond hk
  exact ⟨_, pe_xf T hno hz hf hv hb, _, h1, rfl, rfl, dd, fs, .int z, rfl, he.ex _ _ h2, hl, q _ HB H (Step.refl he.ex) (.int z)⟩
end
end Y
end S_X3

section S_X4
set_option maxHeartbeats 2000000
namespace Y
open PySem PySem.Spec PyProof.Rows L2
/-- what is wanted of the errors' classes -/
structure ErrTx (P : Program) (K : PySem.W.Frag) (mg : Str → Option Value) (CH iH CW iW CE : Addr) : Prop where
  eH : ErrBH P K mg CH iH
  eW : ErrBW P K mg CW iW
  dH : ExcD K CH
  dV : ExcD K CW
  gE : mg "ClimbrowError" = some (.ref CE)
  emH : PySem.W.exmOne K (.ref CH) (.ref CE) = some true
  emW : PySem.W.exmOne K (.ref CW) (.ref CE) = some true
  vH : PySem.W.kitOne K (.ref CH) (.type "ValueError") = some true
  vW : PySem.W.kitOne K (.ref CW) (.type "ValueError") = some true
  hh : PySem.W.kitOne K (.ref CH) (.ref CH) = some true
  hw : PySem.W.kitOne K (.ref CH) (.ref CW) = some false
  wh : PySem.W.kitOne K (.ref CW) (.ref CH) = some false
  ww : PySem.W.kitOne K (.ref CW) (.ref CW) = some true
  oth : ∃ c1 c2 c3 c4 c5 c6 c7 c8 c9 c10 c11 c12 : Addr, (mg "BadBounds" = some (.ref c1) ∧ mg "BadCard" = some (.ref c2) ∧ mg "BadPairing" = some (.ref c3) ∧ mg "BadPlace" = some (.ref c4) ∧ mg "BadSchedule" = some (.ref c5) ∧ mg "BadText" = some (.ref c6) ∧ mg "Contradiction" = some (.ref c7) ∧ mg "DuplicateName" = some (.ref c8) ∧ mg "OutOfTurn" = some (.ref c9) ∧ mg "UnknownName" = some (.ref c10) ∧ mg "Unreachable" = some (.ref c11) ∧ mg "Unsteady" = some (.ref c12)) ∧ ∀ D, D = CH ∨ D = CW → PySem.W.kitAny K (.ref D) [.ref c1, .ref c2, .ref c3, .ref c4, .ref c5, .ref c6, .ref c7] = some false ∧ PySem.W.kitAny K (.ref D) [.ref c8, .ref c9, .ref c10, .ref c11, .ref c12] = some false
theorem xf_of {P : Program} {K : PySem.W.Frag} {mg : Str → Option Value} {x q : Str} {a : Arguments} {b : List Stmt} {sc : Scope} {fs : List Str} {C fI : Addr} (T : Er.ErrC P K mg x q a b sc fs C fI) : XfC K C := ⟨T.ga, T.gg, T.exC, T.hdC⟩
abbrev wHands : List Nat := [104, 97, 110, 100, 115]
abbrev wWord : List Nat := [119, 111, 114, 100]
abbrev wNone : List Nat := [110, 111, 110, 101]
section
variable {P : Program} {w : World} {K : PySem.W.Frag} {mg : Str → Option Value} {base : Heap} {CH iH CW iW CE : Addr}

theorem c_refusedH0 (T : Tx K mg) (E : ErrTx P K mg CH iH CW iW CE) {mine theirs : List Int} {ws : List Nat} (h : mine.length ≠ theirs.length) (h1 : mine.length ≤ 1000) : Cal P w K mg base 6 "_law_refused" [.int 0, lI mine, lI theirs, dW ws] (.tup [dW wHands, .int (mine.length : Int), .int (theirs.length : Int)]) := by
  obtain ⟨c1, c2, c3, c4, c5, c6, c7, c8, c9, c10, c11, c12, ⟨g1, g2, g3, g4, g5, g6, g7, g8, g9, g10, g11, g12⟩, k12⟩ := E.oth
  refine cal_of T.d_law_refused sc_law_refused (fun _ _ _ _ _ _ us hl => match us, hl with | [_, _, _, _], _ => rfl) rfl fun Y hr => ?_
  have nd := sc_law_refused.nd
  show Bd _ [.val _, .val _, .val _, .val _, .any, .any, .any] _ _
  refine bd_seq (M := fun _ => False) (sd_tryX (C := CH) (fs := fH mine theirs) (i := 5) rfl rfl nd rfl rfl ⟨rfl, by decide, .inl E.gE⟩ (fun pn xe W tk => ?_) E.emH fun a dd oe pn hz hf => ?_) fun _ h => h.elim
  · exact bxs_ifT (EvT.cast (k' := true) (et_cmp (ec_eqI (ev_var (nm 0 rfl (.inl rfl) rfl rfl) rfl) ev_int) (nomark _ (by decide) (by decide))) rfl) (bxs_call (x_span_paper T E.eH h) (hr.mono (by decide)) tk (ea_cons (ev_var (nm 1 rfl (.inl rfl) rfl rfl) rfl) (ea_cons (ev_var (nm 2 rfl (.inl rfl) rfl rfl) rfl) ea_nil rfl) rfl) rfl (by decide) rfl rfl rfl)
  · refine bd_seq1 (sd_asg (k := 6) nd rfl (.inl rfl) (ev_isTD E.dH hz hf (nm 5 rfl (.inl rfl) rfl rfl) rfl (pa_clC rfl g1 (pa_clC rfl g2 (pa_clC rfl g3 (pa_clC rfl g4 (pa_clC rfl g5 (pa_clC rfl g6 (pa_clC rfl g7 pa_clN (by decide) rfl) (by decide) rfl) (by decide) rfl) (by decide) rfl) (by decide) rfl) (by decide) rfl) (by decide) rfl) (Nat.le_of_ble_eq_true rfl) (.cons (.own _) (.cons (.own _) (.cons (.own _) (.cons (.own _) (.cons (.own _) (.cons (.own _) (.cons (.own _) .nil))))))) (k12 _ (.inl rfl)).1 T.b_isinstance rfl rfl rfl rfl) rfl rfl (.inl rfl)) ?_
    refine bd_seq1 (sd_asg (k := 6) nd rfl (.inl rfl) (ev_or (ev_var (nm 6 rfl (.inl rfl) rfl rfl) rfl) fun _ => ev_and1 (ev_isTD E.dH hz hf (nm 5 rfl (.inl rfl) rfl rfl) rfl (pa_clC rfl g8 (pa_clC rfl g9 (pa_clC rfl g10 (pa_clC rfl g11 (pa_clC rfl g12 pa_clN (by decide) rfl) (by decide) rfl) (by decide) rfl) (by decide) rfl) (by decide) rfl) (Nat.le_of_ble_eq_true rfl) (.cons (.own _) (.cons (.own _) (.cons (.own _) (.cons (.own _) (.cons (.own _) .nil))))) (k12 _ (.inl rfl)).2 T.b_isinstance rfl rfl rfl rfl)) rfl rfl (.inl rfl)) ?_
    refine bd_ifRet (EvT.cast (k' := false) (EvW.t (ew_or (et_ev (ev_var (nm 6 rfl (.inl rfl) rfl rfl) rfl) (fun _ => rfl)) fun _ => ew_or (et_not (et_ev (ev_isD E.dH hz hf (nm 5 rfl (.inl rfl) rfl rfl) rfl (pe_bltn rfl T.b_ValueError (by decide +kernel) (show RelV (.ty "ValueError") (.type "ValueError") from rfl)) (.ty _) E.vH T.b_isinstance rfl rfl rfl rfl) (fun _ => rfl))) fun _ => ew_or1 (et_cmp (ec_eqB (ev_isD E.dH hz hf (nm 5 rfl (.inl rfl) rfl rfl) rfl (pe_glob rfl E.eH.gC (show RelV (.ref CH) (.ref CH) from rfl)) (.own _) E.hh T.b_isinstance rfl rfl rfl rfl) (ev_isD E.dH hz hf (nm 5 rfl (.inl rfl) rfl rfl) rfl (pe_glob rfl E.eW.gC (show RelV (.ref CW) (.ref CW) from rfl)) (.own _) E.hw T.b_isinstance rfl rfl rfl rfl)) (nomark _ (by decide) (by decide))))) rfl) (fun e => nomatch e) fun _ => ?_
    exact bd_ifRet (EvT.cast (k' := true) (et_ev (ev_isD E.dH hz hf (nm 5 rfl (.inl rfl) rfl rfl) rfl (pe_glob rfl E.eH.gC (show RelV (.ref CH) (.ref CH) from rfl)) (.own _) E.hh T.b_isinstance rfl rfl rfl rfl) (fun _ => rfl)) rfl) (fun _ => bd_one (sd_ret (ev_tup (ea_cons (ev_strW [104, 97, 110, 100, 115]) (ea_cons (ev_xfI (f := "mine_count") (xf_of E.eH) (E.eH.no _ (by simp)) hz hf (nm 5 rfl (.inl rfl) rfl rfl) rfl rfl rfl) (ea_cons (ev_xfI (f := "theirs_count") (xf_of E.eH) (E.eH.no _ (by simp)) hz hf (nm 5 rfl (.inl rfl) rfl rfl) rfl rfl rfl) ea_nil rfl) rfl) rfl) (Nat.le_of_ble_eq_true rfl)) rfl)) (fun e => nomatch e)
theorem c_refusedH1 (T : Tx K mg) (E : ErrTx P K mg CH iH CW iW CE) {mine theirs : List Int} {ws : List Nat} (h : mine.length ≠ theirs.length) (h1 : mine.length ≤ 1000) : Cal P w K mg base 6 "_law_refused" [.int 1, lI mine, lI theirs, dW ws] (.tup [dW wHands, .int (mine.length : Int), .int (theirs.length : Int)]) := by
  obtain ⟨c1, c2, c3, c4, c5, c6, c7, c8, c9, c10, c11, c12, ⟨g1, g2, g3, g4, g5, g6, g7, g8, g9, g10, g11, g12⟩, k12⟩ := E.oth
  refine cal_of T.d_law_refused sc_law_refused (fun _ _ _ _ _ _ us hl => match us, hl with | [_, _, _, _], _ => rfl) rfl fun Y hr => ?_
  have nd := sc_law_refused.nd
  show Bd _ [.val _, .val _, .val _, .val _, .any, .any, .any] _ _
  refine bd_seq (M := fun _ => False) (sd_tryX (C := CH) (fs := fH mine theirs) (i := 5) rfl rfl nd rfl rfl ⟨rfl, by decide, .inl E.gE⟩ (fun pn xe W tk => ?_) E.emH fun a dd oe pn hz hf => ?_) fun _ h => h.elim
  · exact bxs_ifE (EvT.cast (k' := false) (et_cmp (ec_eqI (ev_var (nm 0 rfl (.inl rfl) rfl rfl) rfl) ev_int) (nomark _ (by decide) (by decide))) rfl) (bxs_ifT (EvT.cast (k' := true) (et_cmp (ec_eqI (ev_var (nm 0 rfl (.inl rfl) rfl rfl) rfl) ev_int) (nomark _ (by decide) (by decide))) rfl) (bxs_call (x_row_paper T E.eH h) (hr.mono (by decide)) tk (ea_cons (ev_var (nm 1 rfl (.inl rfl) rfl rfl) rfl) (ea_cons (ev_var (nm 2 rfl (.inl rfl) rfl rfl) rfl) ea_nil rfl) rfl) rfl (by decide) rfl rfl rfl))
  · refine bd_seq1 (sd_asg (k := 6) nd rfl (.inl rfl) (ev_isTD E.dH hz hf (nm 5 rfl (.inl rfl) rfl rfl) rfl (pa_clC rfl g1 (pa_clC rfl g2 (pa_clC rfl g3 (pa_clC rfl g4 (pa_clC rfl g5 (pa_clC rfl g6 (pa_clC rfl g7 pa_clN (by decide) rfl) (by decide) rfl) (by decide) rfl) (by decide) rfl) (by decide) rfl) (by decide) rfl) (by decide) rfl) (Nat.le_of_ble_eq_true rfl) (.cons (.own _) (.cons (.own _) (.cons (.own _) (.cons (.own _) (.cons (.own _) (.cons (.own _) (.cons (.own _) .nil))))))) (k12 _ (.inl rfl)).1 T.b_isinstance rfl rfl rfl rfl) rfl rfl (.inl rfl)) ?_
    refine bd_seq1 (sd_asg (k := 6) nd rfl (.inl rfl) (ev_or (ev_var (nm 6 rfl (.inl rfl) rfl rfl) rfl) fun _ => ev_and1 (ev_isTD E.dH hz hf (nm 5 rfl (.inl rfl) rfl rfl) rfl (pa_clC rfl g8 (pa_clC rfl g9 (pa_clC rfl g10 (pa_clC rfl g11 (pa_clC rfl g12 pa_clN (by decide) rfl) (by decide) rfl) (by decide) rfl) (by decide) rfl) (by decide) rfl) (Nat.le_of_ble_eq_true rfl) (.cons (.own _) (.cons (.own _) (.cons (.own _) (.cons (.own _) (.cons (.own _) .nil))))) (k12 _ (.inl rfl)).2 T.b_isinstance rfl rfl rfl rfl)) rfl rfl (.inl rfl)) ?_
    refine bd_ifRet (EvT.cast (k' := false) (EvW.t (ew_or (et_ev (ev_var (nm 6 rfl (.inl rfl) rfl rfl) rfl) (fun _ => rfl)) fun _ => ew_or (et_not (et_ev (ev_isD E.dH hz hf (nm 5 rfl (.inl rfl) rfl rfl) rfl (pe_bltn rfl T.b_ValueError (by decide +kernel) (show RelV (.ty "ValueError") (.type "ValueError") from rfl)) (.ty _) E.vH T.b_isinstance rfl rfl rfl rfl) (fun _ => rfl))) fun _ => ew_or1 (et_cmp (ec_eqB (ev_isD E.dH hz hf (nm 5 rfl (.inl rfl) rfl rfl) rfl (pe_glob rfl E.eH.gC (show RelV (.ref CH) (.ref CH) from rfl)) (.own _) E.hh T.b_isinstance rfl rfl rfl rfl) (ev_isD E.dH hz hf (nm 5 rfl (.inl rfl) rfl rfl) rfl (pe_glob rfl E.eW.gC (show RelV (.ref CW) (.ref CW) from rfl)) (.own _) E.hw T.b_isinstance rfl rfl rfl rfl)) (nomark _ (by decide) (by decide))))) rfl) (fun e => nomatch e) fun _ => ?_
    exact bd_ifRet (EvT.cast (k' := true) (et_ev (ev_isD E.dH hz hf (nm 5 rfl (.inl rfl) rfl rfl) rfl (pe_glob rfl E.eH.gC (show RelV (.ref CH) (.ref CH) from rfl)) (.own _) E.hh T.b_isinstance rfl rfl rfl rfl) (fun _ => rfl)) rfl) (fun _ => bd_one (sd_ret (ev_tup (ea_cons (ev_strW [104, 97, 110, 100, 115]) (ea_cons (ev_xfI (f := "mine_count") (xf_of E.eH) (E.eH.no _ (by simp)) hz hf (nm 5 rfl (.inl rfl) rfl rfl) rfl rfl rfl) (ea_cons (ev_xfI (f := "theirs_count") (xf_of E.eH) (E.eH.no _ (by simp)) hz hf (nm 5 rfl (.inl rfl) rfl rfl) rfl rfl rfl) ea_nil rfl) rfl) rfl) (Nat.le_of_ble_eq_true rfl)) rfl)) (fun e => nomatch e)
theorem c_refusedH2 (T : Tx K mg) (E : ErrTx P K mg CH iH CW iW CE) {mine theirs : List Int} {ws : List Nat} (h : mine.length ≠ theirs.length) (h1 : mine.length ≤ 1000) : Cal P w K mg base 6 "_law_refused" [.int 2, lI mine, lI theirs, dW ws] (.tup [dW wHands, .int (mine.length : Int), .int (theirs.length : Int)]) := by
  obtain ⟨c1, c2, c3, c4, c5, c6, c7, c8, c9, c10, c11, c12, ⟨g1, g2, g3, g4, g5, g6, g7, g8, g9, g10, g11, g12⟩, k12⟩ := E.oth
  refine cal_of T.d_law_refused sc_law_refused (fun _ _ _ _ _ _ us hl => match us, hl with | [_, _, _, _], _ => rfl) rfl fun Y hr => ?_
  have nd := sc_law_refused.nd
  show Bd _ [.val _, .val _, .val _, .val _, .any, .any, .any] _ _
  refine bd_seq (M := fun _ => False) (sd_tryX (C := CH) (fs := fH mine theirs) (i := 5) rfl rfl nd rfl rfl ⟨rfl, by decide, .inl E.gE⟩ (fun pn xe W tk => ?_) E.emH fun a dd oe pn hz hf => ?_) fun _ h => h.elim
  · exact bxs_ifE (EvT.cast (k' := false) (et_cmp (ec_eqI (ev_var (nm 0 rfl (.inl rfl) rfl rfl) rfl) ev_int) (nomark _ (by decide) (by decide))) rfl) (bxs_ifE (EvT.cast (k' := false) (et_cmp (ec_eqI (ev_var (nm 0 rfl (.inl rfl) rfl rfl) rfl) ev_int) (nomark _ (by decide) (by decide))) rfl) (bxs_ifT (EvT.cast (k' := true) (et_cmp (ec_eqI (ev_var (nm 0 rfl (.inl rfl) rfl rfl) rfl) ev_int) (nomark _ (by decide) (by decide))) rfl) (bxs_callD (x_value_paperH T E.eH h) (hr.mono (by decide)) tk (ea_cons (ev_var (nm 1 rfl (.inl rfl) rfl rfl) rfl) (ea_cons (ev_var (nm 2 rfl (.inl rfl) rfl rfl) rfl) (ea_cons (ev_var (nm 3 rfl (.inl rfl) rfl rfl) rfl) ea_nil rfl) rfl) rfl) rfl (by decide) rfl rfl rfl)))
  · refine bd_seq1 (sd_asg (k := 6) nd rfl (.inl rfl) (ev_isTD E.dH hz hf (nm 5 rfl (.inl rfl) rfl rfl) rfl (pa_clC rfl g1 (pa_clC rfl g2 (pa_clC rfl g3 (pa_clC rfl g4 (pa_clC rfl g5 (pa_clC rfl g6 (pa_clC rfl g7 pa_clN (by decide) rfl) (by decide) rfl) (by decide) rfl) (by decide) rfl) (by decide) rfl) (by decide) rfl) (by decide) rfl) (Nat.le_of_ble_eq_true rfl) (.cons (.own _) (.cons (.own _) (.cons (.own _) (.cons (.own _) (.cons (.own _) (.cons (.own _) (.cons (.own _) .nil))))))) (k12 _ (.inl rfl)).1 T.b_isinstance rfl rfl rfl rfl) rfl rfl (.inl rfl)) ?_
    refine bd_seq1 (sd_asg (k := 6) nd rfl (.inl rfl) (ev_or (ev_var (nm 6 rfl (.inl rfl) rfl rfl) rfl) fun _ => ev_and1 (ev_isTD E.dH hz hf (nm 5 rfl (.inl rfl) rfl rfl) rfl (pa_clC rfl g8 (pa_clC rfl g9 (pa_clC rfl g10 (pa_clC rfl g11 (pa_clC rfl g12 pa_clN (by decide) rfl) (by decide) rfl) (by decide) rfl) (by decide) rfl) (by decide) rfl) (Nat.le_of_ble_eq_true rfl) (.cons (.own _) (.cons (.own _) (.cons (.own _) (.cons (.own _) (.cons (.own _) .nil))))) (k12 _ (.inl rfl)).2 T.b_isinstance rfl rfl rfl rfl)) rfl rfl (.inl rfl)) ?_
    refine bd_ifRet (EvT.cast (k' := false) (EvW.t (ew_or (et_ev (ev_var (nm 6 rfl (.inl rfl) rfl rfl) rfl) (fun _ => rfl)) fun _ => ew_or (et_not (et_ev (ev_isD E.dH hz hf (nm 5 rfl (.inl rfl) rfl rfl) rfl (pe_bltn rfl T.b_ValueError (by decide +kernel) (show RelV (.ty "ValueError") (.type "ValueError") from rfl)) (.ty _) E.vH T.b_isinstance rfl rfl rfl rfl) (fun _ => rfl))) fun _ => ew_or1 (et_cmp (ec_eqB (ev_isD E.dH hz hf (nm 5 rfl (.inl rfl) rfl rfl) rfl (pe_glob rfl E.eH.gC (show RelV (.ref CH) (.ref CH) from rfl)) (.own _) E.hh T.b_isinstance rfl rfl rfl rfl) (ev_isD E.dH hz hf (nm 5 rfl (.inl rfl) rfl rfl) rfl (pe_glob rfl E.eW.gC (show RelV (.ref CW) (.ref CW) from rfl)) (.own _) E.hw T.b_isinstance rfl rfl rfl rfl)) (nomark _ (by decide) (by decide))))) rfl) (fun e => nomatch e) fun _ => ?_
    exact bd_ifRet (EvT.cast (k' := true) (et_ev (ev_isD E.dH hz hf (nm 5 rfl (.inl rfl) rfl rfl) rfl (pe_glob rfl E.eH.gC (show RelV (.ref CH) (.ref CH) from rfl)) (.own _) E.hh T.b_isinstance rfl rfl rfl rfl) (fun _ => rfl)) rfl) (fun _ => bd_one (sd_ret (ev_tup (ea_cons (ev_strW [104, 97, 110, 100, 115]) (ea_cons (ev_xfI (f := "mine_count") (xf_of E.eH) (E.eH.no _ (by simp)) hz hf (nm 5 rfl (.inl rfl) rfl rfl) rfl rfl rfl) (ea_cons (ev_xfI (f := "theirs_count") (xf_of E.eH) (E.eH.no _ (by simp)) hz hf (nm 5 rfl (.inl rfl) rfl rfl) rfl rfl rfl) ea_nil rfl) rfl) rfl) (Nat.le_of_ble_eq_true rfl)) rfl)) (fun e => nomatch e)
theorem c_refusedH3 (T : Tx K mg) (E : ErrTx P K mg CH iH CW iW CE) {mine theirs : List Int} {ws : List Nat} (h : mine.length ≠ theirs.length) (h1 : mine.length ≤ 1000) : Cal P w K mg base 6 "_law_refused" [.int 3, lI mine, lI theirs, dW ws] (.tup [dW wHands, .int (mine.length : Int), .int (theirs.length : Int)]) := by
  obtain ⟨c1, c2, c3, c4, c5, c6, c7, c8, c9, c10, c11, c12, ⟨g1, g2, g3, g4, g5, g6, g7, g8, g9, g10, g11, g12⟩, k12⟩ := E.oth
  refine cal_of T.d_law_refused sc_law_refused (fun _ _ _ _ _ _ us hl => match us, hl with | [_, _, _, _], _ => rfl) rfl fun Y hr => ?_
  have nd := sc_law_refused.nd
  show Bd _ [.val _, .val _, .val _, .val _, .any, .any, .any] _ _
  refine bd_seq (M := fun _ => False) (sd_tryX (C := CH) (fs := fH mine theirs) (i := 5) rfl rfl nd rfl rfl ⟨rfl, by decide, .inl E.gE⟩ (fun pn xe W tk => ?_) E.emH fun a dd oe pn hz hf => ?_) fun _ h => h.elim
  · refine bxs_ifE (EvT.cast (k' := false) (et_cmp (ec_eqI (ev_var (nm 0 rfl (.inl rfl) rfl rfl) rfl) ev_int) (nomark _ (by decide) (by decide))) rfl) (bxs_ifE (EvT.cast (k' := false) (et_cmp (ec_eqI (ev_var (nm 0 rfl (.inl rfl) rfl rfl) rfl) ev_int) (nomark _ (by decide) (by decide))) rfl) (bxs_ifE (EvT.cast (k' := false) (et_cmp (ec_eqI (ev_var (nm 0 rfl (.inl rfl) rfl rfl) rfl) ev_int) (nomark _ (by decide) (by decide))) rfl) (bxs_ifT (EvT.cast (k' := true) (et_cmp (ec_eqI (ev_var (nm 0 rfl (.inl rfl) rfl rfl) rfl) ev_int) (nomark _ (by decide) (by decide))) rfl) (bxs_call (x_look_span T E.eH h) (hr.mono (by decide)) tk (ea_cons (ev_var (nm 1 rfl (.inl rfl) rfl rfl) rfl) (ea_cons (ev_var (nm 2 rfl (.inl rfl) rfl rfl) rfl) (ea_cons (ev_tup (ea_cons (ev_strW [115, 112, 97, 110]) (ea_cons ev_int (ea_cons ev_int (ea_cons (EvN.ev (evn_lc 4 _ (fun _ => true) _ rfl nd (ei_list (ev_var (nm 1 rfl (.inl rfl) rfl rfl) rfl)) ?_ (blkOk_by (N := N_law_refused) (sc := defScope s_law_refused) (by decide +kernel)) (fun _ _ _ _ _ => pg_name nd rfl (.inl rfl) (.inr rfl)) (fun _ _ _ _ _ _ _ => ets_nil) (fun x hx hcx s H C cl fp => ev_int) (fun _ => rfl))) (ea_cons ev_int (ea_cons ev_int (ea_cons (EvN.ev (evn_lst ea_nil (Nat.le_of_ble_eq_true rfl))) ea_nil rfl) rfl) rfl) rfl) rfl) rfl) rfl) (Nat.le_of_ble_eq_true rfl)) ea_nil rfl) rfl) rfl) rfl (by decide) rfl rfl rfl))))
    omega
  · refine bd_seq1 (sd_asg (k := 6) nd rfl (.inl rfl) (ev_isTD E.dH hz hf (nm 5 rfl (.inl rfl) rfl rfl) rfl (pa_clC rfl g1 (pa_clC rfl g2 (pa_clC rfl g3 (pa_clC rfl g4 (pa_clC rfl g5 (pa_clC rfl g6 (pa_clC rfl g7 pa_clN (by decide) rfl) (by decide) rfl) (by decide) rfl) (by decide) rfl) (by decide) rfl) (by decide) rfl) (by decide) rfl) (Nat.le_of_ble_eq_true rfl) (.cons (.own _) (.cons (.own _) (.cons (.own _) (.cons (.own _) (.cons (.own _) (.cons (.own _) (.cons (.own _) .nil))))))) (k12 _ (.inl rfl)).1 T.b_isinstance rfl rfl rfl rfl) rfl rfl (.inl rfl)) ?_
    refine bd_seq1 (sd_asg (k := 6) nd rfl (.inl rfl) (ev_or (ev_var (nm 6 rfl (.inl rfl) rfl rfl) rfl) fun _ => ev_and1 (ev_isTD E.dH hz hf (nm 5 rfl (.inl rfl) rfl rfl) rfl (pa_clC rfl g8 (pa_clC rfl g9 (pa_clC rfl g10 (pa_clC rfl g11 (pa_clC rfl g12 pa_clN (by decide) rfl) (by decide) rfl) (by decide) rfl) (by decide) rfl) (by decide) rfl) (Nat.le_of_ble_eq_true rfl) (.cons (.own _) (.cons (.own _) (.cons (.own _) (.cons (.own _) (.cons (.own _) .nil))))) (k12 _ (.inl rfl)).2 T.b_isinstance rfl rfl rfl rfl)) rfl rfl (.inl rfl)) ?_
    refine bd_ifRet (EvT.cast (k' := false) (EvW.t (ew_or (et_ev (ev_var (nm 6 rfl (.inl rfl) rfl rfl) rfl) (fun _ => rfl)) fun _ => ew_or (et_not (et_ev (ev_isD E.dH hz hf (nm 5 rfl (.inl rfl) rfl rfl) rfl (pe_bltn rfl T.b_ValueError (by decide +kernel) (show RelV (.ty "ValueError") (.type "ValueError") from rfl)) (.ty _) E.vH T.b_isinstance rfl rfl rfl rfl) (fun _ => rfl))) fun _ => ew_or1 (et_cmp (ec_eqB (ev_isD E.dH hz hf (nm 5 rfl (.inl rfl) rfl rfl) rfl (pe_glob rfl E.eH.gC (show RelV (.ref CH) (.ref CH) from rfl)) (.own _) E.hh T.b_isinstance rfl rfl rfl rfl) (ev_isD E.dH hz hf (nm 5 rfl (.inl rfl) rfl rfl) rfl (pe_glob rfl E.eW.gC (show RelV (.ref CW) (.ref CW) from rfl)) (.own _) E.hw T.b_isinstance rfl rfl rfl rfl)) (nomark _ (by decide) (by decide))))) rfl) (fun e => nomatch e) fun _ => ?_
    exact bd_ifRet (EvT.cast (k' := true) (et_ev (ev_isD E.dH hz hf (nm 5 rfl (.inl rfl) rfl rfl) rfl (pe_glob rfl E.eH.gC (show RelV (.ref CH) (.ref CH) from rfl)) (.own _) E.hh T.b_isinstance rfl rfl rfl rfl) (fun _ => rfl)) rfl) (fun _ => bd_one (sd_ret (ev_tup (ea_cons (ev_strW [104, 97, 110, 100, 115]) (ea_cons (ev_xfI (f := "mine_count") (xf_of E.eH) (E.eH.no _ (by simp)) hz hf (nm 5 rfl (.inl rfl) rfl rfl) rfl rfl rfl) (ea_cons (ev_xfI (f := "theirs_count") (xf_of E.eH) (E.eH.no _ (by simp)) hz hf (nm 5 rfl (.inl rfl) rfl rfl) rfl rfl rfl) ea_nil rfl) rfl) rfl) (Nat.le_of_ble_eq_true rfl)) rfl)) (fun e => nomatch e)
theorem c_refusedH4 (T : Tx K mg) (E : ErrTx P K mg CH iH CW iW CE) {mine theirs : List Int} {ws : List Nat} (h : mine.length ≠ theirs.length) (h1 : mine.length ≤ 1000) : Cal P w K mg base 6 "_law_refused" [.int 4, lI mine, lI theirs, dW ws] (.tup [dW wHands, .int (mine.length : Int), .int (theirs.length : Int)]) := by
  obtain ⟨c1, c2, c3, c4, c5, c6, c7, c8, c9, c10, c11, c12, ⟨g1, g2, g3, g4, g5, g6, g7, g8, g9, g10, g11, g12⟩, k12⟩ := E.oth
  refine cal_of T.d_law_refused sc_law_refused (fun _ _ _ _ _ _ us hl => match us, hl with | [_, _, _, _], _ => rfl) rfl fun Y hr => ?_
  have nd := sc_law_refused.nd
  show Bd _ [.val _, .val _, .val _, .val _, .any, .any, .any] _ _
  refine bd_seq (M := fun _ => False) (sd_tryX (C := CH) (fs := fH mine theirs) (i := 5) rfl rfl nd rfl rfl ⟨rfl, by decide, .inl E.gE⟩ (fun pn xe W tk => ?_) E.emH fun a dd oe pn hz hf => ?_) fun _ h => h.elim
  · refine bxs_ifE (EvT.cast (k' := false) (et_cmp (ec_eqI (ev_var (nm 0 rfl (.inl rfl) rfl rfl) rfl) ev_int) (nomark _ (by decide) (by decide))) rfl) (bxs_ifE (EvT.cast (k' := false) (et_cmp (ec_eqI (ev_var (nm 0 rfl (.inl rfl) rfl rfl) rfl) ev_int) (nomark _ (by decide) (by decide))) rfl) (bxs_ifE (EvT.cast (k' := false) (et_cmp (ec_eqI (ev_var (nm 0 rfl (.inl rfl) rfl rfl) rfl) ev_int) (nomark _ (by decide) (by decide))) rfl) (bxs_ifE (EvT.cast (k' := false) (et_cmp (ec_eqI (ev_var (nm 0 rfl (.inl rfl) rfl rfl) rfl) ev_int) (nomark _ (by decide) (by decide))) rfl) (bxs_ifT (EvT.cast (k' := true) (et_cmp (ec_eqI (ev_var (nm 0 rfl (.inl rfl) rfl rfl) rfl) ev_int) (nomark _ (by decide) (by decide))) rfl) (bxs_call (x_look_row T E.eH h) (hr.mono (by decide)) tk (ea_cons (ev_var (nm 1 rfl (.inl rfl) rfl rfl) rfl) (ea_cons (ev_var (nm 2 rfl (.inl rfl) rfl rfl) rfl) (ea_cons (ev_tup (ea_cons (ev_strW [114, 111, 119]) (ea_cons (EvN.ev (evn_lst ea_nil (Nat.le_of_ble_eq_true rfl))) (ea_cons (EvN.ev (evn_lc 4 _ (fun _ => true) _ rfl nd (ei_list (ev_var (nm 1 rfl (.inl rfl) rfl rfl) rfl)) ?_ (blkOk_by (N := N_law_refused) (sc := defScope s_law_refused) (by decide +kernel)) (fun _ _ _ _ _ => pg_name nd rfl (.inl rfl) (.inr rfl)) (fun _ _ _ _ _ _ _ => ets_nil) (fun x hx hcx s H C cl fp => ev_int) (fun _ => rfl))) ea_nil rfl) rfl) rfl) (Nat.le_of_ble_eq_true rfl)) ea_nil rfl) rfl) rfl) rfl (by decide) rfl rfl rfl)))))
    omega
  · refine bd_seq1 (sd_asg (k := 6) nd rfl (.inl rfl) (ev_isTD E.dH hz hf (nm 5 rfl (.inl rfl) rfl rfl) rfl (pa_clC rfl g1 (pa_clC rfl g2 (pa_clC rfl g3 (pa_clC rfl g4 (pa_clC rfl g5 (pa_clC rfl g6 (pa_clC rfl g7 pa_clN (by decide) rfl) (by decide) rfl) (by decide) rfl) (by decide) rfl) (by decide) rfl) (by decide) rfl) (by decide) rfl) (Nat.le_of_ble_eq_true rfl) (.cons (.own _) (.cons (.own _) (.cons (.own _) (.cons (.own _) (.cons (.own _) (.cons (.own _) (.cons (.own _) .nil))))))) (k12 _ (.inl rfl)).1 T.b_isinstance rfl rfl rfl rfl) rfl rfl (.inl rfl)) ?_
    refine bd_seq1 (sd_asg (k := 6) nd rfl (.inl rfl) (ev_or (ev_var (nm 6 rfl (.inl rfl) rfl rfl) rfl) fun _ => ev_and1 (ev_isTD E.dH hz hf (nm 5 rfl (.inl rfl) rfl rfl) rfl (pa_clC rfl g8 (pa_clC rfl g9 (pa_clC rfl g10 (pa_clC rfl g11 (pa_clC rfl g12 pa_clN (by decide) rfl) (by decide) rfl) (by decide) rfl) (by decide) rfl) (by decide) rfl) (Nat.le_of_ble_eq_true rfl) (.cons (.own _) (.cons (.own _) (.cons (.own _) (.cons (.own _) (.cons (.own _) .nil))))) (k12 _ (.inl rfl)).2 T.b_isinstance rfl rfl rfl rfl)) rfl rfl (.inl rfl)) ?_
    refine bd_ifRet (EvT.cast (k' := false) (EvW.t (ew_or (et_ev (ev_var (nm 6 rfl (.inl rfl) rfl rfl) rfl) (fun _ => rfl)) fun _ => ew_or (et_not (et_ev (ev_isD E.dH hz hf (nm 5 rfl (.inl rfl) rfl rfl) rfl (pe_bltn rfl T.b_ValueError (by decide +kernel) (show RelV (.ty "ValueError") (.type "ValueError") from rfl)) (.ty _) E.vH T.b_isinstance rfl rfl rfl rfl) (fun _ => rfl))) fun _ => ew_or1 (et_cmp (ec_eqB (ev_isD E.dH hz hf (nm 5 rfl (.inl rfl) rfl rfl) rfl (pe_glob rfl E.eH.gC (show RelV (.ref CH) (.ref CH) from rfl)) (.own _) E.hh T.b_isinstance rfl rfl rfl rfl) (ev_isD E.dH hz hf (nm 5 rfl (.inl rfl) rfl rfl) rfl (pe_glob rfl E.eW.gC (show RelV (.ref CW) (.ref CW) from rfl)) (.own _) E.hw T.b_isinstance rfl rfl rfl rfl)) (nomark _ (by decide) (by decide))))) rfl) (fun e => nomatch e) fun _ => ?_
    exact bd_ifRet (EvT.cast (k' := true) (et_ev (ev_isD E.dH hz hf (nm 5 rfl (.inl rfl) rfl rfl) rfl (pe_glob rfl E.eH.gC (show RelV (.ref CH) (.ref CH) from rfl)) (.own _) E.hh T.b_isinstance rfl rfl rfl rfl) (fun _ => rfl)) rfl) (fun _ => bd_one (sd_ret (ev_tup (ea_cons (ev_strW [104, 97, 110, 100, 115]) (ea_cons (ev_xfI (f := "mine_count") (xf_of E.eH) (E.eH.no _ (by simp)) hz hf (nm 5 rfl (.inl rfl) rfl rfl) rfl rfl rfl) (ea_cons (ev_xfI (f := "theirs_count") (xf_of E.eH) (E.eH.no _ (by simp)) hz hf (nm 5 rfl (.inl rfl) rfl rfl) rfl rfl rfl) ea_nil rfl) rfl) rfl) (Nat.le_of_ble_eq_true rfl)) rfl)) (fun e => nomatch e)
theorem c_refusedH5 (T : Tx K mg) (E : ErrTx P K mg CH iH CW iW CE) {mine theirs : List Int} {ws : List Nat} (h : mine.length ≠ theirs.length) (h1 : mine.length ≤ 1000) : Cal P w K mg base 6 "_law_refused" [.int 5, lI mine, lI theirs, dW ws] (.tup [dW wHands, .int (mine.length : Int), .int (theirs.length : Int)]) := by
  obtain ⟨c1, c2, c3, c4, c5, c6, c7, c8, c9, c10, c11, c12, ⟨g1, g2, g3, g4, g5, g6, g7, g8, g9, g10, g11, g12⟩, k12⟩ := E.oth
  refine cal_of T.d_law_refused sc_law_refused (fun _ _ _ _ _ _ us hl => match us, hl with | [_, _, _, _], _ => rfl) rfl fun Y hr => ?_
  have nd := sc_law_refused.nd
  show Bd _ [.val _, .val _, .val _, .val _, .any, .any, .any] _ _
  refine bd_seq (M := fun _ => False) (sd_tryX (C := CH) (fs := fH mine theirs) (i := 5) rfl rfl nd rfl rfl ⟨rfl, by decide, .inl E.gE⟩ (fun pn xe W tk => ?_) E.emH fun a dd oe pn hz hf => ?_) fun _ h => h.elim
  · exact bxs_ifE (EvT.cast (k' := false) (et_cmp (ec_eqI (ev_var (nm 0 rfl (.inl rfl) rfl rfl) rfl) ev_int) (nomark _ (by decide) (by decide))) rfl) (bxs_ifE (EvT.cast (k' := false) (et_cmp (ec_eqI (ev_var (nm 0 rfl (.inl rfl) rfl rfl) rfl) ev_int) (nomark _ (by decide) (by decide))) rfl) (bxs_ifE (EvT.cast (k' := false) (et_cmp (ec_eqI (ev_var (nm 0 rfl (.inl rfl) rfl rfl) rfl) ev_int) (nomark _ (by decide) (by decide))) rfl) (bxs_ifE (EvT.cast (k' := false) (et_cmp (ec_eqI (ev_var (nm 0 rfl (.inl rfl) rfl rfl) rfl) ev_int) (nomark _ (by decide) (by decide))) rfl) (bxs_ifE (EvT.cast (k' := false) (et_cmp (ec_eqI (ev_var (nm 0 rfl (.inl rfl) rfl rfl) rfl) ev_int) (nomark _ (by decide) (by decide))) rfl) (bxs_call (x_look_value T E.eH h) (hr.mono (by decide)) tk (ea_cons (ev_var (nm 1 rfl (.inl rfl) rfl rfl) rfl) (ea_cons (ev_var (nm 2 rfl (.inl rfl) rfl rfl) rfl) (ea_cons (ev_tup (ea_cons (ev_strW [118, 97, 108, 117, 101]) (ea_cons (ev_var (nm 3 rfl (.inl rfl) rfl rfl) rfl) (ea_cons (ev_strW [109, 105, 110, 101]) (ea_cons ev_int (ea_cons (EvN.ev (evn_lst ea_nil (Nat.le_of_ble_eq_true rfl))) (ea_cons (EvN.ev (evn_lst ea_nil (Nat.le_of_ble_eq_true rfl))) ea_nil rfl) rfl) rfl) rfl) rfl) rfl) (Nat.le_of_ble_eq_true rfl)) ea_nil rfl) rfl) rfl) rfl (by decide) rfl rfl rfl)))))
  · refine bd_seq1 (sd_asg (k := 6) nd rfl (.inl rfl) (ev_isTD E.dH hz hf (nm 5 rfl (.inl rfl) rfl rfl) rfl (pa_clC rfl g1 (pa_clC rfl g2 (pa_clC rfl g3 (pa_clC rfl g4 (pa_clC rfl g5 (pa_clC rfl g6 (pa_clC rfl g7 pa_clN (by decide) rfl) (by decide) rfl) (by decide) rfl) (by decide) rfl) (by decide) rfl) (by decide) rfl) (by decide) rfl) (Nat.le_of_ble_eq_true rfl) (.cons (.own _) (.cons (.own _) (.cons (.own _) (.cons (.own _) (.cons (.own _) (.cons (.own _) (.cons (.own _) .nil))))))) (k12 _ (.inl rfl)).1 T.b_isinstance rfl rfl rfl rfl) rfl rfl (.inl rfl)) ?_
    refine bd_seq1 (sd_asg (k := 6) nd rfl (.inl rfl) (ev_or (ev_var (nm 6 rfl (.inl rfl) rfl rfl) rfl) fun _ => ev_and1 (ev_isTD E.dH hz hf (nm 5 rfl (.inl rfl) rfl rfl) rfl (pa_clC rfl g8 (pa_clC rfl g9 (pa_clC rfl g10 (pa_clC rfl g11 (pa_clC rfl g12 pa_clN (by decide) rfl) (by decide) rfl) (by decide) rfl) (by decide) rfl) (by decide) rfl) (Nat.le_of_ble_eq_true rfl) (.cons (.own _) (.cons (.own _) (.cons (.own _) (.cons (.own _) (.cons (.own _) .nil))))) (k12 _ (.inl rfl)).2 T.b_isinstance rfl rfl rfl rfl)) rfl rfl (.inl rfl)) ?_
    refine bd_ifRet (EvT.cast (k' := false) (EvW.t (ew_or (et_ev (ev_var (nm 6 rfl (.inl rfl) rfl rfl) rfl) (fun _ => rfl)) fun _ => ew_or (et_not (et_ev (ev_isD E.dH hz hf (nm 5 rfl (.inl rfl) rfl rfl) rfl (pe_bltn rfl T.b_ValueError (by decide +kernel) (show RelV (.ty "ValueError") (.type "ValueError") from rfl)) (.ty _) E.vH T.b_isinstance rfl rfl rfl rfl) (fun _ => rfl))) fun _ => ew_or1 (et_cmp (ec_eqB (ev_isD E.dH hz hf (nm 5 rfl (.inl rfl) rfl rfl) rfl (pe_glob rfl E.eH.gC (show RelV (.ref CH) (.ref CH) from rfl)) (.own _) E.hh T.b_isinstance rfl rfl rfl rfl) (ev_isD E.dH hz hf (nm 5 rfl (.inl rfl) rfl rfl) rfl (pe_glob rfl E.eW.gC (show RelV (.ref CW) (.ref CW) from rfl)) (.own _) E.hw T.b_isinstance rfl rfl rfl rfl)) (nomark _ (by decide) (by decide))))) rfl) (fun e => nomatch e) fun _ => ?_
    exact bd_ifRet (EvT.cast (k' := true) (et_ev (ev_isD E.dH hz hf (nm 5 rfl (.inl rfl) rfl rfl) rfl (pe_glob rfl E.eH.gC (show RelV (.ref CH) (.ref CH) from rfl)) (.own _) E.hh T.b_isinstance rfl rfl rfl rfl) (fun _ => rfl)) rfl) (fun _ => bd_one (sd_ret (ev_tup (ea_cons (ev_strW [104, 97, 110, 100, 115]) (ea_cons (ev_xfI (f := "mine_count") (xf_of E.eH) (E.eH.no _ (by simp)) hz hf (nm 5 rfl (.inl rfl) rfl rfl) rfl rfl rfl) (ea_cons (ev_xfI (f := "theirs_count") (xf_of E.eH) (E.eH.no _ (by simp)) hz hf (nm 5 rfl (.inl rfl) rfl rfl) rfl rfl rfl) ea_nil rfl) rfl) rfl) (Nat.le_of_ble_eq_true rfl)) rfl)) (fun e => nomatch e)
theorem c_refusedW (T : Tx K mg) (E : ErrTx P K mg CH iH CW iW CE) {mine theirs : List Int} {ws : List Nat} {p : Nat} (h : mine.length = theirs.length) (h1 : mine.length ≤ 1000) (h2 : ws.length ≤ 1000) (hw : Wrong ws mine.length p) : Cal P w K mg base 6 "_law_refused" [.int 2, lI mine, lI theirs, dW ws] (.tup [dW wWord, .int (p : Int), .int 0]) := by
  obtain ⟨c1, c2, c3, c4, c5, c6, c7, c8, c9, c10, c11, c12, ⟨g1, g2, g3, g4, g5, g6, g7, g8, g9, g10, g11, g12⟩, k12⟩ := E.oth
  refine cal_of T.d_law_refused sc_law_refused (fun _ _ _ _ _ _ us hl => match us, hl with | [_, _, _, _], _ => rfl) rfl fun Y hr => ?_
  have nd := sc_law_refused.nd
  show Bd _ [.val _, .val _, .val _, .val _, .any, .any, .any] _ _
  refine bd_seq (M := fun _ => False) (sd_tryX (C := CW) (fs := fW p) (i := 5) rfl rfl nd rfl rfl ⟨rfl, by decide, .inl E.gE⟩ (fun pn xe W tk => ?_) E.emW fun a dd oe pn hz hf => ?_) fun _ h => h.elim
  · exact bxs_ifE (EvT.cast (k' := false) (et_cmp (ec_eqI (ev_var (nm 0 rfl (.inl rfl) rfl rfl) rfl) ev_int) (nomark _ (by decide) (by decide))) rfl) (bxs_ifE (EvT.cast (k' := false) (et_cmp (ec_eqI (ev_var (nm 0 rfl (.inl rfl) rfl rfl) rfl) ev_int) (nomark _ (by decide) (by decide))) rfl) (bxs_ifT (EvT.cast (k' := true) (et_cmp (ec_eqI (ev_var (nm 0 rfl (.inl rfl) rfl rfl) rfl) ev_int) (nomark _ (by decide) (by decide))) rfl) (bxs_callD (x_value_paperW T E.eW h h1 h2 hw) (hr.mono (by decide)) tk (ea_cons (ev_var (nm 1 rfl (.inl rfl) rfl rfl) rfl) (ea_cons (ev_var (nm 2 rfl (.inl rfl) rfl rfl) rfl) (ea_cons (ev_var (nm 3 rfl (.inl rfl) rfl rfl) rfl) ea_nil rfl) rfl) rfl) rfl (by decide) rfl rfl rfl)))
  · refine bd_seq1 (sd_asg (k := 6) nd rfl (.inl rfl) (ev_isTD E.dV hz hf (nm 5 rfl (.inl rfl) rfl rfl) rfl (pa_clC rfl g1 (pa_clC rfl g2 (pa_clC rfl g3 (pa_clC rfl g4 (pa_clC rfl g5 (pa_clC rfl g6 (pa_clC rfl g7 pa_clN (by decide) rfl) (by decide) rfl) (by decide) rfl) (by decide) rfl) (by decide) rfl) (by decide) rfl) (by decide) rfl) (Nat.le_of_ble_eq_true rfl) (.cons (.own _) (.cons (.own _) (.cons (.own _) (.cons (.own _) (.cons (.own _) (.cons (.own _) (.cons (.own _) .nil))))))) (k12 _ (.inr rfl)).1 T.b_isinstance rfl rfl rfl rfl) rfl rfl (.inl rfl)) ?_
    refine bd_seq1 (sd_asg (k := 6) nd rfl (.inl rfl) (ev_or (ev_var (nm 6 rfl (.inl rfl) rfl rfl) rfl) fun _ => ev_and1 (ev_isTD E.dV hz hf (nm 5 rfl (.inl rfl) rfl rfl) rfl (pa_clC rfl g8 (pa_clC rfl g9 (pa_clC rfl g10 (pa_clC rfl g11 (pa_clC rfl g12 pa_clN (by decide) rfl) (by decide) rfl) (by decide) rfl) (by decide) rfl) (by decide) rfl) (Nat.le_of_ble_eq_true rfl) (.cons (.own _) (.cons (.own _) (.cons (.own _) (.cons (.own _) (.cons (.own _) .nil))))) (k12 _ (.inr rfl)).2 T.b_isinstance rfl rfl rfl rfl)) rfl rfl (.inl rfl)) ?_
    refine bd_ifRet (EvT.cast (k' := false) (EvW.t (ew_or (et_ev (ev_var (nm 6 rfl (.inl rfl) rfl rfl) rfl) (fun _ => rfl)) fun _ => ew_or (et_not (et_ev (ev_isD E.dV hz hf (nm 5 rfl (.inl rfl) rfl rfl) rfl (pe_bltn rfl T.b_ValueError (by decide +kernel) (show RelV (.ty "ValueError") (.type "ValueError") from rfl)) (.ty _) E.vW T.b_isinstance rfl rfl rfl rfl) (fun _ => rfl))) fun _ => ew_or1 (et_cmp (ec_eqB (ev_isD E.dV hz hf (nm 5 rfl (.inl rfl) rfl rfl) rfl (pe_glob rfl E.eH.gC (show RelV (.ref CH) (.ref CH) from rfl)) (.own _) E.wh T.b_isinstance rfl rfl rfl rfl) (ev_isD E.dV hz hf (nm 5 rfl (.inl rfl) rfl rfl) rfl (pe_glob rfl E.eW.gC (show RelV (.ref CW) (.ref CW) from rfl)) (.own _) E.ww T.b_isinstance rfl rfl rfl rfl)) (nomark _ (by decide) (by decide))))) rfl) (fun e => nomatch e) fun _ => ?_
    refine bd_ifRet (EvT.cast (k' := false) (et_ev (ev_isD E.dV hz hf (nm 5 rfl (.inl rfl) rfl rfl) rfl (pe_glob rfl E.eH.gC (show RelV (.ref CH) (.ref CH) from rfl)) (.own _) E.wh T.b_isinstance rfl rfl rfl rfl) (fun _ => rfl)) rfl) (fun e => nomatch e) fun _ => ?_
    exact bd_one (sd_ret (ev_tup (ea_cons (ev_strW [119, 111, 114, 100]) (ea_cons (ev_xfI (f := "position") (xf_of E.eW) (E.eW.no _ (by simp)) hz hf (nm 5 rfl (.inl rfl) rfl rfl) rfl rfl rfl) (ea_cons ev_int ea_nil rfl) rfl) rfl) (Nat.le_of_ble_eq_true rfl)) rfl)
theorem c_refusedN (T : Tx K mg) (E : ErrTx P K mg CH iH CW iW CE) {mine theirs : List Int} {ws : List Nat} (h : mine.length = theirs.length) (h1 : mine.length ≤ 1000) (hl : letters ws) (hz : ws.length = mine.length) : Cal P w K mg base 6 "_law_refused" [.int 2, lI mine, lI theirs, dW ws] (.tup [dW wNone, .int 0, .int 0]) := by
  refine cal_of T.d_law_refused sc_law_refused (fun _ _ _ _ _ _ us hl => match us, hl with | [_, _, _, _], _ => rfl) rfl fun Y hr => ?_
  have nd := sc_law_refused.nd
  show Bd _ [.val _, .val _, .val _, .val _, .any, .any, .any] _ _
  refine bd_seq1 (ρ' := [.val (.int 2), .val (lI mine), .val (lI theirs), .val (dW ws), .any, .any, .any]) (sd_tryN (i := 5) rfl rfl nd rfl rfl ⟨rfl, by decide, .inl E.gE⟩ fun pn xe => ?_) (bd_one (sd_ret (ev_tup (ea_cons (ev_strW [110, 111, 110, 101]) (ea_cons ev_int (ea_cons ev_int ea_nil rfl) rfl) rfl) (Nat.le_of_ble_eq_true rfl)) ?_))
  · exact bd_one (sd_if (EvT.cast (k' := false) (et_cmp (ec_eqI (ev_var (nm 0 rfl (.inl rfl) rfl rfl) rfl) ev_int) (nomark _ (by decide) (by decide))) rfl) (fun e => nomatch e) fun _ => bd_one (sd_if (EvT.cast (k' := false) (et_cmp (ec_eqI (ev_var (nm 0 rfl (.inl rfl) rfl rfl) rfl) ev_int) (nomark _ (by decide) (by decide))) rfl) (fun e => nomatch e) fun _ => bd_one (sd_if (EvT.cast (k' := true) (et_cmp (ec_eqI (ev_var (nm 0 rfl (.inl rfl) rfl rfl) rfl) ev_int) (nomark _ (by decide) (by decide))) rfl) (fun _ => bd_one (sd_papD (c_value_paperD T h h1 hl hz) (hr.mono (by decide)) (ea_cons (ev_var (nm 1 rfl (.inl rfl) rfl rfl) rfl) (ea_cons (ev_var (nm 2 rfl (.inl rfl) rfl rfl) rfl) (ea_cons (ev_var (nm 3 rfl (.inl rfl) rfl rfl) rfl) ea_nil rfl) rfl) rfl) rfl rfl (by decide) rfl rfl rfl)) (fun e => nomatch e))))
  · rfl
end
end Y
end S_X4

section S_F18
set_option maxHeartbeats 2000000
namespace Y
open PySem PySem.Spec PyProof.Rows L2
def eP2 (p : List Int × List Int) : D := dL lI [p.1, p.2]
def badH (mine theirs : List Int) (a : Nat) : List (List Int × List Int) := [(mine ++ [(a : Int)], theirs), (mine, theirs ++ [0, (a : Int)]), (mine.take (mine.length / 2), theirs), ([], [0]), ([(a : Int)], [])]
theorem badH_len {mine theirs : List Int} {a : Nat} (h : mine.length ≤ 500) (h2 : theirs.length ≤ 500) : ∀ p ∈ badH mine theirs a, p.1.length ≤ 1000 ∧ p.2.length ≤ 1000 := fun p hp => by
  simp only [badH, List.mem_cons, List.not_mem_nil, or_false] at hp
  rcases hp with rfl | rfl | rfl | rfl | rfl <;> simp <;> omega
def wrongL (ws : List Nat) : List Nat := (List.range ws.length).filter fun k => !decide (ws.getD k 0 ∈ [77, 84])
def dueD (ws : List Nat) (n : Nat) : D := if 0 < (wrongL ws).length then .tup [dW wWord, .int (((wrongL ws).getD 0 0 : Nat) : Int), .int 0] else if ws.length ≠ n then .tup [dW wWord, .int (min (ws.length : Int) (n : Int)), .int 0] else .tup [dW wNone, .int 0, .int 0]
theorem due_form (ws : List Nat) (n : Nat) : ∃ (v : List Nat) (p q : Int), asc v ∧ dueD ws n = .tup [dW v, .int p, .int q] := by
  unfold dueD
  split
  · exact ⟨wWord, _, _, by unfold asc; decide, rfl⟩
  split
  · exact ⟨wWord, _, _, by unfold asc; decide, rfl⟩
  · exact ⟨wNone, _, _, by unfold asc; decide, rfl⟩
theorem wrong_none {ws : List Nat} (h : ¬ 0 < (wrongL ws).length) : letters ws := fun c hc => by
  obtain ⟨i, hi, e⟩ := List.getElem_of_mem hc
  have h0 : wrongL ws = [] := List.eq_nil_of_length_eq_zero (by omega)
  unfold wrongL at h0
  have h1 := List.filter_eq_nil_iff.mp h0 i (List.mem_range.mpr hi)
  have e2 : ws.getD i 0 = c := by rw [List.getD_eq_getElem?_getD, List.getElem?_eq_getElem hi]; exact e
  rw [e2] at h1
  by_cases h7 : c = 77
  · exact .inl h7
  · by_cases h8 : c = 84
    · exact .inr h8
    · simp [h7, h8] at h1
theorem wrong_some {ws : List Nat} {n : Nat} (h : 0 < (wrongL ws).length) : Wrong ws n ((wrongL ws).getD 0 0) := by
  have hm : (wrongL ws).getD 0 0 ∈ wrongL ws := getD_mem h
  obtain ⟨h1, h2⟩ := List.mem_filter.mp hm
  have hl := List.mem_range.mp h1
  refine .bad hl (by simpa using h2) fun i hi => ?_
  by_cases hb : ws.getD i 0 = 77 ∨ ws.getD i 0 = 84
  · exact hb
  · exfalso
    have him : i ∈ wrongL ws := List.mem_filter.mpr ⟨List.mem_range.mpr (by omega), by simpa using hb⟩
    obtain ⟨k, hk, e⟩ := List.getElem_of_mem him
    have hs : (wrongL ws).Pairwise (· < ·) := List.pairwise_lt_range.filter _
    rw [List.getD_eq_getElem?_getD, List.getElem?_eq_getElem h] at hi
    change i < (wrongL ws)[0] at hi
    by_cases hk0 : k = 0
    · subst hk0
      omega
    · have := List.pairwise_iff_getElem.mp hs 0 k h hk (by omega)
      omega
section
variable {P : Program} {w : World} {K : PySem.W.Frag} {mg : Str → Option Value} {base : Heap} {CH iH CW iW CE : Addr}
theorem c_refusedH (T : Tx K mg) (E : ErrTx P K mg CH iH CW iW CE) {mine theirs : List Int} {ws : List Nat} (h : mine.length ≠ theirs.length) (h1 : mine.length ≤ 1000) {k : Nat} (hk : k < 6) : Cal P w K mg base 6 "_law_refused" [dN k, lI mine, lI theirs, dW ws] (.tup [dW wHands, .int (mine.length : Int), .int (theirs.length : Int)]) :=
  match k, hk with
  | 0, _ => c_refusedH0 T E h h1
  | 1, _ => c_refusedH1 T E h h1
  | 2, _ => c_refusedH2 T E h h1
  | 3, _ => c_refusedH3 T E h h1
  | 4, _ => c_refusedH4 T E h h1
  | 5, _ => c_refusedH5 T E h h1
theorem c_refused2 (T : Tx K mg) (E : ErrTx P K mg CH iH CW iW CE) {mine theirs : List Int} {ws : List Nat} (h : mine.length = theirs.length) (h1 : mine.length ≤ 1000) (h2 : ws.length ≤ 1000) : Cal P w K mg base 6 "_law_refused" [.int 2, lI mine, lI theirs, dW ws] (dueD ws mine.length) := by
  unfold dueD
  by_cases hw : 0 < (wrongL ws).length
  · rw [if_pos hw]
    exact c_refusedW T E h h1 h2 (wrong_some hw)
  · rw [if_neg hw]
    have hl := wrong_none hw
    by_cases hn : ws.length = mine.length
    · rw [if_neg (by omega)]
      exact c_refusedN T E h h1 hl hn
    · rw [if_pos hn]
      rcases Nat.lt_or_gt_of_ne hn with hlt | hgt
      · have e : min (ws.length : Int) (mine.length : Int) = (ws.length : Int) := Int.min_eq_left (by omega)
        rw [e]
        exact c_refusedW T E h h1 h2 (.short hl hlt)
      · have e : min (ws.length : Int) (mine.length : Int) = (mine.length : Int) := Int.min_eq_right (by omega)
        rw [e]
        exact c_refusedW T E h h1 h2 (.long hl hgt)
theorem c_form_TW (T : Tx K mg) (v : List Nat) (p q : Int) : Cal P w K mg base 3 "_law_form_good" [.tup [dW v, .int p, .int q], dW [115, 105, 105]] (.bl true) :=
  c_law_form_good T (.s (.i (.i .nil))) (by decide) fun ns hn => by
    simp only [List.mem_cons, List.not_mem_nil, or_false] at hn
    rcases hn with e | e | e <;> cases e
theorem fine_TW {v : List Nat} {p q : Int} (h : asc v) : Fine 60 (.tup [dW v, .int p, .int q]) := fine_tup (k := 59) fun d hd => by
  simp only [List.mem_cons, List.not_mem_nil, or_false] at hd
  rcases hd with rfl | rfl | rfl
  · exact fineW h
  · exact fine_int _
  · exact fine_int _
theorem c_law_errors_good (T : Tx K mg) (E : ErrTx P K mg CH iH CW iW CE) {mine theirs : List Int} {ws : List Nat} {a : Nat} (h : mine.length = theirs.length) (h1 : mine.length ≤ 300) (hl : letters ws) (hz : ws.length = mine.length) (ha : a ≤ 300) : Cal P w K mg base 7 "_law_errors_good" [lI mine, lI theirs, dW ws, dN a] (.bl true) := by
  have h2 : theirs.length ≤ 300 := by omega
  refine cal_of T.d_law_errors_good sc_law_errors_good (fun _ _ _ _ _ _ us hl => match us, hl with | [_, _, _, _], _ => rfl) rfl fun Y hr => ?_
  have nd := sc_law_errors_good.nd
  show Bd _ [.val _, .val _, .val _, .val _, .any, .any, .any, .any, .any, .any, .any, .any] _ _
  refine bd_seq1 (sd_asg (k := 4) nd rfl (.inl rfl) (ev_lenL T.b_len (Ev.l (ev_var (nm 0 rfl (.inl rfl) rfl rfl) rfl)) rfl rfl rfl) rfl rfl (.inl rfl)) ?_
  refine bd_forJ (ds := (badH mine theirs a).map eP2) 5 (fun i r => r = [.val (lI mine), .val (lI theirs), .val (dW ws), .val (dN a), .val (.int (mine.length : Int)), .any, .any, .any, .any, .any, .any, .any]) PassesOwn.never rfl nd rfl (.inl rfl) ⟨_, (by repeat (first | exact Wk.nil | refine Wk.any ?_ | refine Wk.same ?_ | refine Wk.frz ?_)), rfl⟩ ?_ ?_ ?_ (.inl rfl) (fun _ => rfl)
  · rintro i d r hd rfl
    rw [List.getElem?_map] at hd
    obtain ⟨⟨mm, tt⟩, hx, rfl⟩ := Option.map_eq_some_iff.mp hd
    obtain ⟨q1, q2⟩ := badH_len (by omega) (by omega) _ (List.mem_of_getElem? hx)
    have d0 : (0 : Int) < (([mm, tt].length : Nat) : Int) := Int.ofNat_lt.mpr (Nat.zero_lt_succ _)
    have d1 : (1 : Int) < (([mm, tt].length : Nat) : Int) := Int.ofNat_lt.mpr (Nat.lt_succ_self _)
    refine bd_wk (ρ' := [.val (lI mine), .val (lI theirs), .val (dW ws), .val (dN a), .val (.int (mine.length : Int)), .val (dL lI [mm, tt]), .any, .any, .any, .any, .any, .any]) (by repeat (first | exact Wk.nil | refine Wk.any ?_ | refine Wk.same ?_ | refine Wk.frz ?_)) ?_
    refine bd_ifM (fun r => r = [.val (lI mine), .val (lI theirs), .val (dW ws), .val (dN a), .val (.int (mine.length : Int)), .any, .any, .any, .any, .any, .any, .any]) (et_cmp (ec_neI (ev_lenL T.b_len (Ev.l (Ev.cast (d' := lI mm) (ev_ixLL (Ev.l (ev_var (nm 5 rfl (.inl rfl) rfl rfl) rfl)) ev_int ?_ ?_ (fun _ _ => rfl)) ?_)) rfl rfl rfl) (ev_lenL T.b_len (Ev.l (Ev.cast (d' := lI tt) (ev_ixLL (Ev.l (ev_var (nm 5 rfl (.inl rfl) rfl rfl) rfl)) ev_int ?_ ?_ (fun _ _ => rfl)) ?_)) rfl rfl rfl)) (nomark _ (by decide) (by decide))) (fun e => ?_) (fun e => bd_nil ⟨_, (by repeat (first | exact Wk.nil | refine Wk.any ?_ | refine Wk.same ?_ | refine Wk.frz ?_)), rfl⟩) (fun r hr => bd_nil ⟨r, Wk.refl r, hr⟩)
    · decide
    · exact d0
    · rfl
    · decide
    · exact d1
    · rfl
    · have hne : mm.length ≠ tt.length := fun z => by
        rw [Bool.not_eq_true', decide_eq_false_iff_not] at e
        omega
      refine bd_for 6 (fun _ => [.val (lI mine), .val (lI theirs), .val (dW ws), .val (dN a), .val (.int (mine.length : Int)), .val (dL lI [mm, tt]), .any, .any, .any, .any, .any, .any]) (fun _ => True) PassesOwn.never rfl nd rfl (.inl rfl) (by repeat (first | exact Wk.nil | refine Wk.any ?_ | refine Wk.same ?_ | refine Wk.frz ?_)) (ei_rng1 T.b_range ev_int ?_ ?_ rfl rfl rfl) trivial ?_ ?_ (.inl rfl) (fun _ => rfl)
      · decide
      · decide
      · intro k d hd _
        obtain ⟨hk, rfl⟩ := rng_get hd
        change k < 6 at hk
        refine bd_forJ (ds := [dW ws, dW (ws ++ [88])]) 7 (fun i r => r = [.val (lI mine), .val (lI theirs), .val (dW ws), .val (dN a), .val (.int (mine.length : Int)), .val (dL lI [mm, tt]), .val (dN k), .any, .any, .any, .any, .any]) PassesOwn.never rfl nd rfl (.inr rfl) ⟨_, (by repeat (first | exact Wk.nil | refine Wk.any ?_ | refine Wk.same ?_ | refine Wk.frz ?_)), rfl⟩ ?_ ?_ ?_ (.inl rfl) (fun _ => rfl)
        · rintro j d r hd rfl
          obtain ⟨vs, rfl⟩ : ∃ vs, d = dW vs := by
            match j, hd with
            | 0, hd =>
              cases hd
              exact ⟨_, rfl⟩
            | 1, hd =>
              cases hd
              exact ⟨_, rfl⟩
            | n + 2, hd => cases hd
          refine bd_seq1 (sd_asg (k := 8) nd rfl (.inl rfl) (ev_call (c_refusedH T E hne q1 hk) (hr.mono (by decide)) (ea_cons (ev_var (nm 6 rfl (.inl rfl) rfl rfl) rfl) (ea_cons (EvN.ev (evn_list T.b_list (Ev.l (Ev.cast (d' := lI mm) (ev_ixLL (Ev.l (ev_var (nm 5 rfl (.inl rfl) rfl rfl) rfl)) ev_int ?_ ?_ (fun _ _ => rfl)) ?_)) rfl rfl rfl)) (ea_cons (EvN.ev (evn_list T.b_list (Ev.l (Ev.cast (d' := lI tt) (ev_ixLL (Ev.l (ev_var (nm 5 rfl (.inl rfl) rfl rfl) rfl)) ev_int ?_ ?_ (fun _ _ => rfl)) ?_)) rfl rfl rfl)) (ea_cons (ev_var (nm 7 rfl (.inr (.inl rfl)) rfl rfl) rfl) ea_nil rfl) rfl) rfl) rfl) rfl (by decide) rfl rfl) rfl rfl (.inl rfl)) ?_
          · decide
          · exact d0
          · rfl
          · decide
          · exact d1
          · rfl
          refine bd_ifRet (EvT.cast (k' := false) (EvW.t (ew_or (et_not (et_ev (ev_call (c_form_TW T _ _ _) (hr.mono (by decide)) (ea_cons (ev_var (nm 8 rfl (.inl rfl) rfl rfl) rfl) (ea_cons (ev_strW [115, 105, 105]) ea_nil rfl) rfl) rfl (by decide) rfl rfl) (fun _ => rfl))) fun hb0 => (ew_or1 (et_cmp (ec_neD hr.units ?_ ?_ (ev_var (nm 8 rfl (.inl rfl) rfl rfl) rfl) (ev_tup (ea_cons (ev_strW [104, 97, 110, 100, 115]) (ea_cons (ev_lenL T.b_len (Ev.l (Ev.cast (d' := lI mm) (ev_ixLL (Ev.l (ev_var (nm 5 rfl (.inl rfl) rfl rfl) rfl)) ev_int ?_ ?_ (fun _ _ => rfl)) ?_)) rfl rfl rfl) (ea_cons (ev_lenL T.b_len (Ev.l (Ev.cast (d' := lI tt) (ev_ixLL (Ev.l (ev_var (nm 5 rfl (.inl rfl) rfl rfl) rfl)) ev_int ?_ ?_ (fun _ _ => rfl)) ?_)) rfl rfl rfl) ea_nil rfl) rfl) rfl) (Nat.le_of_ble_eq_true rfl))) (nomark _ (by decide) (by decide)))))) ?_) (fun e => nomatch e) fun _ => bd_nil ⟨_, (by repeat (first | exact Wk.nil | refine Wk.any ?_ | refine Wk.same ?_ | refine Wk.frz ?_)), rfl⟩
          · exact fine_TW (by unfold asc; decide)
          · exact fine_TW (by unfold asc; decide)
          · decide
          · exact d0
          · rfl
          · decide
          · exact d1
          · rfl
          · rw [eqD_refl (k := 60) (fine_TW (by unfold asc; decide))]
            rfl
        · rintro r rfl
          exact bd_nil ⟨(by repeat (first | exact Wk.nil | refine Wk.any ?_ | refine Wk.same ?_ | refine Wk.frz ?_)), trivial⟩
        · rintro r _ rfl
          refine EvI.cast (ei_list (EvN.ev (evn_lst (ea_cons (ev_var (nm 2 rfl (.inl rfl) rfl rfl) rfl) (ea_cons (ev_addW (ev_var (nm 2 rfl (.inl rfl) rfl rfl) rfl) (ev_strW [88]) ?_) ea_nil rfl) rfl) (Nat.le_of_ble_eq_true rfl)))) rfl
          show ws.length + 1 ≤ _
          omega
      · intro _
        exact bd_nil ⟨_, (by repeat (first | exact Wk.nil | refine Wk.any ?_ | refine Wk.same ?_ | refine Wk.frz ?_)), rfl⟩
  · rintro r rfl
    refine bd_forJ (ds := (wnL ws a 0).map dW) 7 (fun i r => r = [.val (lI mine), .val (lI theirs), .val (dW ws), .val (dN a), .val (.int (mine.length : Int)), .any, .any, .any, .any, .any, .any, .any]) PassesOwn.never rfl nd rfl (.inr rfl) ⟨_, (by repeat (first | exact Wk.nil | refine Wk.any ?_ | refine Wk.same ?_ | refine Wk.frz ?_)), rfl⟩ ?_ ?_ ?_ (.inl rfl) (fun _ => rfl)
    · rintro i d r hd rfl
      rw [List.getElem?_map] at hd
      obtain ⟨lt, hx, rfl⟩ := Option.map_eq_some_iff.mp hd
      have hlt := wnL_ok (letters_asc hl) lt (List.mem_of_getElem? hx)
      have hlt2 : lt.length ≤ 1000 := by have := hlt.1; omega
      refine bd_seq1 (sd_setLcVE (k := 9) 10 _ _ _ ((wrongL lt).map dN) rfl nd rfl rfl (sw_true rfl rfl rfl (by decide +kernel)) (ei_rng1 T.b_range (ev_lenW T.b_len (ev_var (nm 7 rfl (.inr (.inl rfl)) rfl rfl) rfl) ?_ rfl rfl rfl) ?_ ?_ rfl rfl rfl) ?_ (blkOk_by (N := N_law_errors_good) (sc := defScope s_law_errors_good) (by decide +kernel)) (fun _ _ _ _ _ => pg_name nd rfl (.inl rfl) (.inr rfl)) (fun x hx s H C cl fp => ets_one (et_cmp (ec_ninW (ev_ixWN (ev_var (nm 7 rfl (.inr (.inl rfl)) rfl rfl) rfl) (ev_var (nm 10 rfl (.inl rfl) rfl rfl) rfl) ?_ ?_ (fun _ _ => rfl)) (ev_strW [77, 84])) rfl)) (fun x hx hcx s H C cl fp => (ev_var (nm 10 rfl (.inl rfl) rfl rfl) rfl)) ?_ rfl (fun _ => rfl)) ?_
      · omega
      · omega
      · omega
      · rw [List.length_range]
        omega
      · omega
      · have := List.mem_range.mp hx
        omega
      · rfl
      refine bd_seq1 (sd_asg (k := 11) nd rfl (.inl rfl) (ev_tup (ea_cons (ev_strW [110, 111, 110, 101]) (ea_cons ev_int (ea_cons ev_int ea_nil rfl) rfl) rfl) (Nat.le_of_ble_eq_true rfl)) rfl rfl (.inl rfl)) ?_
      refine bd_if [.val (lI mine), .val (lI theirs), .val (dW ws), .val (dN a), .val (.int (mine.length : Int)), .any, .any, .val (dW lt), .any, .any, .any, .val (dueD lt mine.length)] (et_cmp (ec_gt (ev_lenL T.b_len (Ev.l (ev_var (nm 9 rfl (.inl rfl) rfl rfl) rfl)) rfl rfl rfl) ev_int) (nomark _ (by decide) (by decide))) (fun e => bd_seq1 (sd_asg (k := 11) nd rfl (.inl rfl) (Ev.cast (d' := dueD lt mine.length) (ev_tup (ea_cons (ev_strW [119, 111, 114, 100]) (ea_cons (ev_ixG (0 : Nat) (Ev.l (ev_var (nm 9 rfl (.inl rfl) rfl rfl) rfl)) ev_int ?_ ?_ (fun _ _ => rfl)) (ea_cons ev_int ea_nil rfl) rfl) rfl) (Nat.le_of_ble_eq_true rfl)) ?_) rfl rfl (.inl rfl)) (bd_nil (by repeat (first | exact Wk.nil | refine Wk.any ?_ | refine Wk.same ?_ | refine Wk.frz ?_)))) (fun e => ?_) ?_
      · decide
      · exact of_decide_eq_true e
      · have e1 : 0 < (wrongL lt).length := by
          have := of_decide_eq_true e
          omega
        rw [dueD, if_pos e1]
        rfl
      · have e1 : ¬ 0 < (wrongL lt).length := by
          have := of_decide_eq_false e
          omega
        refine bd_if [.val (lI mine), .val (lI theirs), .val (dW ws), .val (dN a), .val (.int (mine.length : Int)), .any, .any, .val (dW lt), .any, .any, .any, .val (dueD lt mine.length)] (et_cmp (ec_neI (ev_lenW T.b_len (ev_var (nm 7 rfl (.inr (.inl rfl)) rfl rfl) rfl) ?_ rfl rfl rfl) (ev_var (nm 4 rfl (.inl rfl) rfl rfl) rfl)) (nomark _ (by decide) (by decide))) (fun e2 => bd_seq1 (sd_asg (k := 11) nd rfl (.inl rfl) (Ev.cast (d' := dueD lt mine.length) (ev_tup (ea_cons (ev_strW [119, 111, 114, 100]) (ea_cons (ev_min2 rfl T.b_min (ev_lenW T.b_len (ev_var (nm 7 rfl (.inr (.inl rfl)) rfl rfl) rfl) ?_ rfl rfl rfl) (ev_var (nm 4 rfl (.inl rfl) rfl rfl) rfl) rfl rfl rfl rfl) (ea_cons ev_int ea_nil rfl) rfl) rfl) (Nat.le_of_ble_eq_true rfl)) ?_) rfl rfl (.inl rfl)) (bd_nil (by repeat (first | exact Wk.nil | refine Wk.any ?_ | refine Wk.same ?_ | refine Wk.frz ?_)))) (fun e2 => bd_nil ?_) (bd_nil (by repeat (first | exact Wk.nil | refine Wk.any ?_ | refine Wk.same ?_ | refine Wk.frz ?_)))
        · omega
        · omega
        · have e3 : lt.length ≠ mine.length := fun z => by
            rw [Bool.not_eq_true', decide_eq_false_iff_not] at e2
            omega
          rw [dueD, if_neg e1, if_pos e3]
        · have e3 : ¬ lt.length ≠ mine.length := fun z => by
            rw [Bool.not_eq_false', decide_eq_true_eq] at e2
            omega
          rw [dueD, if_neg e1, if_neg e3]
          exact (by repeat (first | exact Wk.nil | refine Wk.any ?_ | refine Wk.same ?_ | refine Wk.frz ?_))
      · obtain ⟨dv, dp, dq, dasc, hdue⟩ := due_form lt mine.length
        rw [hdue]
        refine bd_seq1 (sd_asg (k := 8) nd rfl (.inl rfl) (ev_call (hdue ▸ c_refused2 T E h (by omega) hlt2) (hr.mono (by decide)) (ea_cons ev_int (ea_cons (EvN.ev (evn_list T.b_list (Ev.l (ev_var (nm 0 rfl (.inl rfl) rfl rfl) rfl)) rfl rfl rfl)) (ea_cons (EvN.ev (evn_list T.b_list (Ev.l (ev_var (nm 1 rfl (.inl rfl) rfl rfl) rfl)) rfl rfl rfl)) (ea_cons (ev_var (nm 7 rfl (.inr (.inl rfl)) rfl rfl) rfl) ea_nil rfl) rfl) rfl) rfl) rfl (by decide) rfl rfl) rfl rfl (.inl rfl)) ?_
        refine bd_ifRet (EvT.cast (k' := false) (EvW.t (ew_or (et_not (et_ev (ev_call (c_form_TW T _ _ _) (hr.mono (by decide)) (ea_cons (ev_var (nm 8 rfl (.inl rfl) rfl rfl) rfl) (ea_cons (ev_strW [115, 105, 105]) ea_nil rfl) rfl) rfl (by decide) rfl rfl) (fun _ => rfl))) fun hb0 => (ew_or1 (et_cmp (ec_neD hr.units ?_ ?_ (ev_var (nm 8 rfl (.inl rfl) rfl rfl) rfl) (ev_var (nm 11 rfl (.inl rfl) rfl rfl) rfl)) (nomark _ (by decide) (by decide)))))) ?_) (fun e => nomatch e) fun _ => bd_nil ⟨_, (by repeat (first | exact Wk.nil | refine Wk.any ?_ | refine Wk.same ?_ | refine Wk.frz ?_)), rfl⟩
        · exact fine_TW dasc
        · exact fine_TW dasc
        · rw [eqD_refl (k := 60) (fine_TW dasc)]
          rfl
    · rintro r rfl
      refine bd_one (sd_ret ev_bl ?_)
      rfl
    · rintro r _ rfl
      refine (ei_list (ev_call (c_law_words_near T (by omega) (by omega) (by omega)) (hr.mono (by decide)) (ea_cons (ev_var (nm 2 rfl (.inl rfl) rfl rfl) rfl) (ea_cons (ev_var (nm 3 rfl (.inl rfl) rfl rfl) rfl) (ea_cons (Ev.cast (d' := dN 0) ev_int ?_) ea_nil rfl) rfl) rfl) rfl (by decide) rfl rfl))
      rfl
  · rintro r _ rfl
    refine EvI.cast (ds := (badH mine theirs a).map eP2) (ei_list (EvN.ev (EvN.cast (d' := (badH mine theirs a).map eP2) (evn_lst (ea_cons (EvN.ev (evn_lst (ea_cons (EvN.ev (evn_cat (Ev.l (ev_var (nm 0 rfl (.inl rfl) rfl rfl) rfl)) (EvN.l (evn_lst (ea_cons (ev_var (nm 3 rfl (.inl rfl) rfl rfl) rfl) ea_nil rfl) (Nat.le_of_ble_eq_true rfl))) ?_)) (ea_cons (ev_var (nm 1 rfl (.inl rfl) rfl rfl) rfl) ea_nil rfl) rfl) (Nat.le_of_ble_eq_true rfl))) (ea_cons (EvN.ev (evn_lst (ea_cons (ev_var (nm 0 rfl (.inl rfl) rfl rfl) rfl) (ea_cons (EvN.ev (evn_cat (Ev.l (ev_var (nm 1 rfl (.inl rfl) rfl rfl) rfl)) (EvN.l (evn_lst (ea_cons ev_int (ea_cons (ev_var (nm 3 rfl (.inl rfl) rfl rfl) rfl) ea_nil rfl) rfl) (Nat.le_of_ble_eq_true rfl))) ?_)) ea_nil rfl) rfl) (Nat.le_of_ble_eq_true rfl))) (ea_cons (EvN.ev (evn_lst (ea_cons (EvN.ev (evn_slice (Ev.l (ev_var (nm 0 rfl (.inl rfl) rfl rfl) rfl)) ep_none (ep_some (ev_fdiv (ev_var (nm 4 rfl (.inl rfl) rfl rfl) rfl) ev_int ?_)))) (ea_cons (ev_var (nm 1 rfl (.inl rfl) rfl rfl) rfl) ea_nil rfl) rfl) (Nat.le_of_ble_eq_true rfl))) (ea_cons (EvN.ev (evn_lst (ea_cons (EvN.ev (evn_lst ea_nil (Nat.le_of_ble_eq_true rfl))) (ea_cons (EvN.ev (evn_lst (ea_cons ev_int ea_nil rfl) (Nat.le_of_ble_eq_true rfl))) ea_nil rfl) rfl) (Nat.le_of_ble_eq_true rfl))) (ea_cons (EvN.ev (evn_lst (ea_cons (EvN.ev (evn_lst (ea_cons (ev_var (nm 3 rfl (.inl rfl) rfl rfl) rfl) ea_nil rfl) (Nat.le_of_ble_eq_true rfl))) (ea_cons (EvN.ev (evn_lst ea_nil (Nat.le_of_ble_eq_true rfl))) ea_nil rfl) rfl) (Nat.le_of_ble_eq_true rfl))) ea_nil rfl) rfl) rfl) rfl) rfl) (Nat.le_of_ble_eq_true rfl)) ?_))) rfl
    · rw [List.length_map]
      show _ + 1 ≤ _
      omega
    · rw [List.length_map]
      show _ + 2 ≤ _
      omega
    · exact small_div (by decide) (by decide)
    · have e1 : ((mine.length : Int) / 2).toNat = mine.length / 2 := by omega
      rw [cut_map, cut_pre _ (by omega), e1]
      simp only [badH, eP2, List.map_cons, List.map_nil, lI, dL, List.map_append]
end
end Y
end S_F18

section S_F19
set_option maxHeartbeats 2000000
namespace Y
open PySem PySem.Spec PyProof.Rows L2
abbrev sz7 : List Int := [8, 7, 41, 41, 41, 81, 81]
def shp (ns : List Int) : List Int := drawsL (cellV ns 0) sz7
def sizeI (ns : List Int) : Int := if (shp ns).getD 0 0 = 7 then (shp ns).getD 2 0 else (shp ns).getD 1 0
theorem shp_in (ns : List Int) {i : Nat} (h : i < 7) : 0 ≤ (shp ns).getD i 0 ∧ (shp ns).getD i 0 < sz7.getD i 0 := draws_in (by decide) h
theorem size_in (ns : List Int) : 0 ≤ sizeI ns ∧ sizeI ns ≤ 40 := by
  have h1 : 0 ≤ (shp ns).getD 1 0 ∧ (shp ns).getD 1 0 < 7 := shp_in ns (by decide)
  have h2 : 0 ≤ (shp ns).getD 2 0 ∧ (shp ns).getD 2 0 < 41 := shp_in ns (by decide)
  unfold sizeI
  split <;> omega
def moreL (ns : List Int) (n : Nat) : List Int := (((shp ns).drop 3).take 2).map (fun x => x % max 1 (n : Int)) ++ (shp ns).drop 5
theorem shp_len (ns : List Int) : (shp ns).length = 7 := draws_len _ _
theorem more_len (ns : List Int) (n : Nat) : (moreL ns n).length = 4 := by
  simp [moreL, shp_len]
theorem more_in (ns : List Int) (n : Nat) : ∀ i, i < 2 → 0 ≤ (moreL ns n).getD i 0 ∧ (moreL ns n).getD i 0 < max 1 (n : Int) := fun i hi => by
  have hl : (((shp ns).drop 3).take 2).length = 2 := by simp [shp_len]
  unfold moreL
  rw [List.getD_eq_getElem?_getD, List.getElem?_append_left (by rw [List.length_map, hl]; exact hi), List.getElem?_map, List.getElem?_eq_getElem (by omega)]
  show 0 ≤ _ % _ ∧ _ % _ < _
  have h1 : (0 : Int) < max 1 (n : Int) := by omega
  exact ⟨Int.emod_nonneg _ (by omega), Int.emod_lt_of_pos _ h1⟩
section
variable {P : Program} {w : World} {K : PySem.W.Frag} {mg : Str → Option Value} {base : Heap} {CH iH CW iW CE : Addr}
theorem c_law (T : Tx K mg) (E : ErrTx P K mg CH iH CW iW CE) (DL : DefOk K mg "law" s_law []) {ns : List Int} : Cal P w K mg base 10 "law" [.scr ns] (.bl true) := by
  obtain ⟨z0, z1⟩ := size_in ns
  have sl := shp_len ns
  obtain ⟨n, hn⟩ : ∃ n : Nat, n = (sizeI ns).toNat := ⟨_, rfl⟩
  have hz : sizeI ns = (n : Int) := by omega
  have hn1 : n ≤ 300 := by omega
  have hml := mine_len ns 1 n
  have htl := theirs_len ns 1 n
  have hwl := word_len (cellV ns 5) n
  have hll := word_letters (cellV ns 5) n
  have hdl := drawn_len (cellV ns 4) n
  have hdm := drawn_mem (cellV ns 4) n
  have hkl := more_len ns n
  have hki := more_in ns n
  have hs7 : ∀ s ∈ sz7, 0 < s ∧ s < 10000000000000000 := by decide
  refine cal_of DL sc_law (fun _ _ _ _ _ _ us hl => match us, hl with | [_], _ => rfl) rfl fun Y hr => ?_
  have nd := sc_law.nd
  show Bd _ [.val _, .any, .any, .any, .any, .any, .any, .any, .any, .any, .any] _ _
  refine bd_seq1 (sd_asg (k := 1) nd rfl (.inl rfl) (Ev.cast (d' := lI (shp ns)) (ev_call (c_law_draws (sz := sz7) T (by decide) hs7) (hr.mono (by decide)) (ea_cons (ev_call (c_law_cell T (by decide) (by decide)) (hr.mono (by decide)) (ea_cons (ev_var (nm 0 rfl (.inl rfl) rfl rfl) rfl) (ea_cons ev_int ea_nil rfl) rfl) rfl (by decide) rfl rfl) (ea_cons (EvN.ev (evn_lst (ea_cons ev_int (ea_cons ev_int (ea_cons ev_int (ea_cons ev_int (ea_cons ev_int (ea_cons ev_int (ea_cons ev_int ea_nil rfl) rfl) rfl) rfl) rfl) rfl) rfl) (Nat.le_of_ble_eq_true rfl))) ea_nil rfl) rfl) rfl (by decide) rfl rfl) ?_) rfl rfl (.inl rfl)) ?_
  · rfl
  refine bd_seq1 (sd_asg (k := 2) nd rfl (.inr rfl) (ev_ixG (0 : Int) (Ev.l (ev_var (nm 1 rfl (.inl rfl) rfl rfl) rfl)) ev_int ?_ ?_ (fun _ _ => rfl)) rfl rfl (.inl rfl)) ?_
  · decide
  · rw [sl]
    decide
  refine bd_if [.val (.scr ns), .val (lI (shp ns)), .val (.int (n : Int)), .any, .any, .any, .any, .any, .any, .any, .any] (et_cmp (ec_eqI (ev_ixG (0 : Int) (Ev.l (ev_var (nm 1 rfl (.inl rfl) rfl rfl) rfl)) ev_int ?_ ?_ (fun _ _ => rfl)) ev_int) (nomark _ (by decide) (by decide))) (fun e => bd_seq1 (sd_asg (k := 2) nd rfl (.inr rfl) (Ev.cast (d' := .int (n : Int)) (ev_ixG (0 : Int) (Ev.l (ev_var (nm 1 rfl (.inl rfl) rfl rfl) rfl)) ev_int ?_ ?_ (fun _ _ => rfl)) ?_) rfl rfl (.inl rfl)) (bd_nil (by repeat (first | exact Wk.nil | refine Wk.any ?_ | refine Wk.same ?_ | refine Wk.frz ?_)))) (fun e => bd_nil ?_) ?_
  · decide
  · rw [sl]
    decide
  · decide
  · rw [sl]
    decide
  · have e1 : (shp ns).getD 0 0 = 7 := of_decide_eq_true e
    rw [← hz, sizeI, if_pos e1]
    rfl
  · have e1 : ¬ (shp ns).getD 0 0 = 7 := of_decide_eq_false e
    rw [← hz, sizeI, if_neg e1]
    exact (by repeat (first | exact Wk.nil | refine Wk.any ?_ | refine Wk.same ?_ | refine Wk.frz ?_))
  refine bd_seq1 (sd_asg (k := 3) nd rfl (.inl rfl) (ev_call (c_law_hands T (by decide) (by decide) (by omega)) (hr.mono (by decide)) (ea_cons (ev_var (nm 0 rfl (.inl rfl) rfl rfl) rfl) (ea_cons ev_int (ea_cons (ev_var (nm 2 rfl (.inr (.inl rfl)) rfl rfl) rfl) ea_nil rfl) rfl) rfl) rfl (by decide) rfl rfl) rfl rfl (.inl rfl)) ?_
  refine bd_seq1 (sd_asg (k := 4) nd rfl (.inl rfl) (ev_ixT (ev_var (nm 3 rfl (.inl rfl) rfl rfl) rfl) ev_int rfl (fun _ _ => rfl)) rfl rfl (.inl rfl)) (bd_seq1 (sd_asg (k := 5) nd rfl (.inl rfl) (ev_ixT (ev_var (nm 3 rfl (.inl rfl) rfl rfl) rfl) ev_int rfl (fun _ _ => rfl)) rfl rfl (.inl rfl)) ?_)
  refine bd_seq1 (sd_asg (k := 6) nd rfl (.inl rfl) (ev_call (c_law_pairing T (by omega)) (hr.mono (by decide)) (ea_cons (ev_call (c_law_cell T (by decide) (by decide)) (hr.mono (by decide)) (ea_cons (ev_var (nm 0 rfl (.inl rfl) rfl rfl) rfl) (ea_cons ev_int ea_nil rfl) rfl) rfl (by decide) rfl rfl) (ea_cons (ev_var (nm 2 rfl (.inr (.inl rfl)) rfl rfl) rfl) ea_nil rfl) rfl) rfl (by decide) rfl rfl) rfl rfl (.inl rfl)) (bd_seq1 (sd_asg (k := 7) nd rfl (.inl rfl) (ev_call (c_law_word T (by omega)) (hr.mono (by decide)) (ea_cons (ev_call (c_law_cell T (by decide) (by decide)) (hr.mono (by decide)) (ea_cons (ev_var (nm 0 rfl (.inl rfl) rfl rfl) rfl) (ea_cons ev_int ea_nil rfl) rfl) rfl (by decide) rfl rfl) (ea_cons (ev_var (nm 2 rfl (.inr (.inl rfl)) rfl rfl) rfl) ea_nil rfl) rfl) rfl (by decide) rfl rfl) rfl rfl (.inl rfl)) ?_)
  refine bd_seq1 (sd_asg (k := 8) nd rfl (.inl rfl) (Ev.cast (d' := lI (moreL ns n)) (EvN.ev (evn_cat (EvN.l (evn_lc 9 _ (fun _ => true) _ rfl nd (ei_list (EvN.ev (EvN.cast (d' := (((shp ns).drop 3).take 2).map D.int) (evn_slice (Ev.l (ev_var (nm 1 rfl (.inl rfl) rfl rfl) rfl)) (ep_some ev_int) (ep_some ev_int)) ?_))) ?_ (blkOk_by (N := N_law) (sc := defScope s_law) (by decide +kernel)) (fun _ _ _ _ _ => pg_name nd rfl (.inl rfl) (.inr rfl)) (fun _ _ _ _ _ _ _ => ets_nil) (fun x hx hcx s H C cl fp => (ev_mod (ev_intI T.b_int (ev_var (nm 9 rfl (.inl rfl) rfl rfl) rfl) rfl rfl rfl) (ev_max2 rfl T.b_max ev_int (ev_var (nm 2 rfl (.inr (.inl rfl)) rfl rfl) rfl) rfl rfl rfl rfl) ?_)) (fun _ => rfl))) (EvN.l (EvN.cast (d' := ((shp ns).drop 5).map D.int) (evn_slice (Ev.l (ev_var (nm 1 rfl (.inl rfl) rfl rfl) rfl)) (ep_some ev_int) ep_none) ?_)) ?_)) ?_) rfl rfl (.inl rfl)) ?_
  · rw [cut_map]
    unfold cut
    rw [sl]
    rfl
  · simp [sl]
  · omega
  · rw [cut_map, cut_suf _ (by decide)]
    rfl
  · rw [filter_true]
    simp [sl]
  · rw [filter_true, moreL, lI, List.map_append, List.map_map]
    rfl
  refine bd_ifRet (EvT.cast (k' := false) (EvW.t (ew_or (et_not (et_ev (ev_call (c_law_spans_good T (hml.trans htl.symm) (by omega) (by omega) (by rw [hml]; exact hdm) (by omega) (by rw [hml]; exact hki)) (hr.mono (by decide)) (ea_cons (ev_var (nm 4 rfl (.inl rfl) rfl rfl) rfl) (ea_cons (ev_var (nm 5 rfl (.inl rfl) rfl rfl) rfl) (ea_cons (ev_var (nm 6 rfl (.inl rfl) rfl rfl) rfl) (ea_cons (ev_var (nm 8 rfl (.inl rfl) rfl rfl) rfl) ea_nil rfl) rfl) rfl) rfl) rfl (by decide) rfl rfl) (fun _ => rfl))) fun hb0 => (ew_or1 (et_not (et_ev (ev_call (c_law_rows_good T (hml.trans htl.symm) (by omega) (by omega) (by omega) (by rw [hml]; exact hki)) (hr.mono (by decide)) (ea_cons (ev_var (nm 4 rfl (.inl rfl) rfl rfl) rfl) (ea_cons (ev_var (nm 5 rfl (.inl rfl) rfl rfl) rfl) (ea_cons (ev_var (nm 6 rfl (.inl rfl) rfl rfl) rfl) (ea_cons (ev_var (nm 8 rfl (.inl rfl) rfl rfl) rfl) ea_nil rfl) rfl) rfl) rfl) rfl (by decide) rfl rfl) (fun _ => rfl)))))) rfl) (fun e => nomatch e) fun _ => ?_
  refine bd_forJ (ds := [dW (sideW 1), dW (sideW 0)]) 10 (fun i r => r = [.any, .any, .any, .any, .val (lI (mineL ns 1 n)), .val (lI (theirsL ns 1 n)), .val (lI (drawnL (cellV ns 4) n)), .val (dW (wordL (cellV ns 5) n)), .val (lI (moreL ns n)), .any, .any]) PassesOwn.never rfl nd rfl (.inl rfl) ⟨_, (by repeat (first | exact Wk.nil | refine Wk.any ?_ | refine Wk.same ?_ | refine Wk.frz ?_)), rfl⟩ ?_ ?_ ?_ (.inl rfl) (fun _ => rfl)
  · rintro i d r hd rfl
    obtain ⟨s, hs, rfl⟩ : ∃ s : Int, (s = 0 ∨ s = 1) ∧ d = dW (sideW s) := by
      match i, hd with
      | 0, hd =>
        cases hd
        exact ⟨1, .inr rfl, rfl⟩
      | 1, hd =>
        cases hd
        exact ⟨0, .inl rfl, rfl⟩
      | n + 2, hd => cases hd
    exact bd_ifRet (EvT.cast (k' := false) (et_not (et_ev (ev_call (c_law_values_good T (hml.trans htl.symm) (by omega) hs hll (by omega) (by omega) (by omega) (by rw [hml]; exact hki)) (hr.mono (by decide)) (ea_cons (ev_var (nm 4 rfl (.inl rfl) rfl rfl) rfl) (ea_cons (ev_var (nm 5 rfl (.inl rfl) rfl rfl) rfl) (ea_cons (ev_var (nm 7 rfl (.inl rfl) rfl rfl) rfl) (ea_cons (ev_var (nm 10 rfl (.inl rfl) rfl rfl) rfl) (ea_cons (ev_var (nm 6 rfl (.inl rfl) rfl rfl) rfl) (ea_cons (ev_var (nm 8 rfl (.inl rfl) rfl rfl) rfl) ea_nil rfl) rfl) rfl) rfl) rfl) rfl) rfl (by decide) rfl rfl) (fun _ => rfl))) rfl) (fun e => nomatch e) fun _ => bd_nil ⟨_, (by repeat (first | exact Wk.nil | refine Wk.any ?_ | refine Wk.same ?_ | refine Wk.frz ?_)), rfl⟩
  · rintro r rfl
    have k0 := hki 0 (by decide)
    refine bd_one (sd_ret (ev_call (c_law_errors_good T E (hml.trans htl.symm) (by omega) hll (by omega) (by omega)) (hr.mono (by decide)) (ea_cons (ev_var (nm 4 rfl (.inl rfl) rfl rfl) rfl) (ea_cons (ev_var (nm 5 rfl (.inl rfl) rfl rfl) rfl) (ea_cons (ev_var (nm 7 rfl (.inl rfl) rfl rfl) rfl) (ea_cons (Ev.cast (d' := dN ((moreL ns n).getD 0 0).toNat) (ev_ixG (0 : Int) (Ev.l (ev_var (nm 8 rfl (.inl rfl) rfl rfl) rfl)) ev_int ?_ ?_ (fun _ _ => rfl)) ?_) ea_nil rfl) rfl) rfl) rfl) rfl (by decide) rfl rfl) ?_)
    · decide
    · rw [hkl]
      decide
    · exact congrArg D.int (Int.toNat_of_nonneg k0.1).symm
    · rfl
  · rintro r _ rfl
    exact EvI.cast (ei_list (EvN.ev (evn_lst (ea_cons (ev_strW [109, 105, 110, 101]) (ea_cons (ev_strW [116, 104, 101, 105, 114, 115]) ea_nil rfl) rfl) (Nat.le_of_ble_eq_true rfl)))) rfl
end
end Y
end S_F19

section S_F20
set_option maxHeartbeats 2000000
namespace Y
open PySem PySem.Spec PyProof.Rows L2
section
variable {P : Program} {w : World} {K : PySem.W.Frag} {mg : Str → Option Value} {base : Heap} {CH iH CW iW CE : Addr}
theorem c_lawF {f : Addr} {fd : FuncData} (T : Tx K mg) (E : ErrTx P K mg CH iH CW iW CE) (F : FunD K "law" "law" (defArgs s_law) (defBody s_law) (defScope s_law) [] [] f fd) {ns : List Int} : FnOk P w K mg base CX0 10 f fd ["_law_script"] (spOne K [.scr ns] (.bl true)) := by
  obtain ⟨z0, z1⟩ := size_in ns
  have sl := shp_len ns
  obtain ⟨n, hn⟩ : ∃ n : Nat, n = (sizeI ns).toNat := ⟨_, rfl⟩
  have hz : sizeI ns = (n : Int) := by omega
  have hn1 : n ≤ 300 := by omega
  have hml := mine_len ns 1 n
  have htl := theirs_len ns 1 n
  have hwl := word_len (cellV ns 5) n
  have hll := word_letters (cellV ns 5) n
  have hdl := drawn_len (cellV ns 4) n
  have hdm := drawn_mem (cellV ns 4) n
  have hkl := more_len ns n
  have hki := more_in ns n
  have hs7 : ∀ s ∈ sz7, 0 < s ∧ s < 10000000000000000 := by decide
  refine fn_body F sc_law rfl (nn_hyp trivial) fun Y hr => ?_
  have nd := sc_law.nd
  show Bd _ [.val _, .any, .any, .any, .any, .any, .any, .any, .any, .any, .any] _ _
  refine bd_seq1 (sd_asg (k := 1) nd rfl (.inl rfl) (Ev.cast (d' := lI (shp ns)) (ev_call (c_law_draws (sz := sz7) T (by decide) hs7) (hr.mono (by decide)) (ea_cons (ev_call (c_law_cell T (by decide) (by decide)) (hr.mono (by decide)) (ea_cons (ev_var (nm 0 rfl (.inl rfl) rfl rfl) rfl) (ea_cons ev_int ea_nil rfl) rfl) rfl (by decide) rfl rfl) (ea_cons (EvN.ev (evn_lst (ea_cons ev_int (ea_cons ev_int (ea_cons ev_int (ea_cons ev_int (ea_cons ev_int (ea_cons ev_int (ea_cons ev_int ea_nil rfl) rfl) rfl) rfl) rfl) rfl) rfl) (Nat.le_of_ble_eq_true rfl))) ea_nil rfl) rfl) rfl (by decide) rfl rfl) ?_) rfl rfl (.inl rfl)) ?_
  · rfl
  refine bd_seq1 (sd_asg (k := 2) nd rfl (.inr rfl) (ev_ixG (0 : Int) (Ev.l (ev_var (nm 1 rfl (.inl rfl) rfl rfl) rfl)) ev_int ?_ ?_ (fun _ _ => rfl)) rfl rfl (.inl rfl)) ?_
  · decide
  · rw [sl]
    decide
  refine bd_if [.val (.scr ns), .val (lI (shp ns)), .val (.int (n : Int)), .any, .any, .any, .any, .any, .any, .any, .any] (et_cmp (ec_eqI (ev_ixG (0 : Int) (Ev.l (ev_var (nm 1 rfl (.inl rfl) rfl rfl) rfl)) ev_int ?_ ?_ (fun _ _ => rfl)) ev_int) (nomark _ (by decide) (by decide))) (fun e => bd_seq1 (sd_asg (k := 2) nd rfl (.inr rfl) (Ev.cast (d' := .int (n : Int)) (ev_ixG (0 : Int) (Ev.l (ev_var (nm 1 rfl (.inl rfl) rfl rfl) rfl)) ev_int ?_ ?_ (fun _ _ => rfl)) ?_) rfl rfl (.inl rfl)) (bd_nil (by repeat (first | exact Wk.nil | refine Wk.any ?_ | refine Wk.same ?_ | refine Wk.frz ?_)))) (fun e => bd_nil ?_) ?_
  · decide
  · rw [sl]
    decide
  · decide
  · rw [sl]
    decide
  · have e1 : (shp ns).getD 0 0 = 7 := of_decide_eq_true e
    rw [← hz, sizeI, if_pos e1]
    rfl
  · have e1 : ¬ (shp ns).getD 0 0 = 7 := of_decide_eq_false e
    rw [← hz, sizeI, if_neg e1]
    exact (by repeat (first | exact Wk.nil | refine Wk.any ?_ | refine Wk.same ?_ | refine Wk.frz ?_))
  refine bd_seq1 (sd_asg (k := 3) nd rfl (.inl rfl) (ev_call (c_law_hands T (by decide) (by decide) (by omega)) (hr.mono (by decide)) (ea_cons (ev_var (nm 0 rfl (.inl rfl) rfl rfl) rfl) (ea_cons ev_int (ea_cons (ev_var (nm 2 rfl (.inr (.inl rfl)) rfl rfl) rfl) ea_nil rfl) rfl) rfl) rfl (by decide) rfl rfl) rfl rfl (.inl rfl)) ?_
  refine bd_seq1 (sd_asg (k := 4) nd rfl (.inl rfl) (ev_ixT (ev_var (nm 3 rfl (.inl rfl) rfl rfl) rfl) ev_int rfl (fun _ _ => rfl)) rfl rfl (.inl rfl)) (bd_seq1 (sd_asg (k := 5) nd rfl (.inl rfl) (ev_ixT (ev_var (nm 3 rfl (.inl rfl) rfl rfl) rfl) ev_int rfl (fun _ _ => rfl)) rfl rfl (.inl rfl)) ?_)
  refine bd_seq1 (sd_asg (k := 6) nd rfl (.inl rfl) (ev_call (c_law_pairing T (by omega)) (hr.mono (by decide)) (ea_cons (ev_call (c_law_cell T (by decide) (by decide)) (hr.mono (by decide)) (ea_cons (ev_var (nm 0 rfl (.inl rfl) rfl rfl) rfl) (ea_cons ev_int ea_nil rfl) rfl) rfl (by decide) rfl rfl) (ea_cons (ev_var (nm 2 rfl (.inr (.inl rfl)) rfl rfl) rfl) ea_nil rfl) rfl) rfl (by decide) rfl rfl) rfl rfl (.inl rfl)) (bd_seq1 (sd_asg (k := 7) nd rfl (.inl rfl) (ev_call (c_law_word T (by omega)) (hr.mono (by decide)) (ea_cons (ev_call (c_law_cell T (by decide) (by decide)) (hr.mono (by decide)) (ea_cons (ev_var (nm 0 rfl (.inl rfl) rfl rfl) rfl) (ea_cons ev_int ea_nil rfl) rfl) rfl (by decide) rfl rfl) (ea_cons (ev_var (nm 2 rfl (.inr (.inl rfl)) rfl rfl) rfl) ea_nil rfl) rfl) rfl (by decide) rfl rfl) rfl rfl (.inl rfl)) ?_)
  refine bd_seq1 (sd_asg (k := 8) nd rfl (.inl rfl) (Ev.cast (d' := lI (moreL ns n)) (EvN.ev (evn_cat (EvN.l (evn_lc 9 _ (fun _ => true) _ rfl nd (ei_list (EvN.ev (EvN.cast (d' := (((shp ns).drop 3).take 2).map D.int) (evn_slice (Ev.l (ev_var (nm 1 rfl (.inl rfl) rfl rfl) rfl)) (ep_some ev_int) (ep_some ev_int)) ?_))) ?_ (blkOk_by (N := N_law) (sc := defScope s_law) (by decide +kernel)) (fun _ _ _ _ _ => pg_name nd rfl (.inl rfl) (.inr rfl)) (fun _ _ _ _ _ _ _ => ets_nil) (fun x hx hcx s H C cl fp => (ev_mod (ev_intI T.b_int (ev_var (nm 9 rfl (.inl rfl) rfl rfl) rfl) rfl rfl rfl) (ev_max2 rfl T.b_max ev_int (ev_var (nm 2 rfl (.inr (.inl rfl)) rfl rfl) rfl) rfl rfl rfl rfl) ?_)) (fun _ => rfl))) (EvN.l (EvN.cast (d' := ((shp ns).drop 5).map D.int) (evn_slice (Ev.l (ev_var (nm 1 rfl (.inl rfl) rfl rfl) rfl)) (ep_some ev_int) ep_none) ?_)) ?_)) ?_) rfl rfl (.inl rfl)) ?_
  · rw [cut_map]
    unfold cut
    rw [sl]
    rfl
  · simp [sl]
  · omega
  · rw [cut_map, cut_suf _ (by decide)]
    rfl
  · rw [filter_true]
    simp [sl]
  · rw [filter_true, moreL, lI, List.map_append, List.map_map]
    rfl
  refine bd_ifRet (EvT.cast (k' := false) (EvW.t (ew_or (et_not (et_ev (ev_call (c_law_spans_good T (hml.trans htl.symm) (by omega) (by omega) (by rw [hml]; exact hdm) (by omega) (by rw [hml]; exact hki)) (hr.mono (by decide)) (ea_cons (ev_var (nm 4 rfl (.inl rfl) rfl rfl) rfl) (ea_cons (ev_var (nm 5 rfl (.inl rfl) rfl rfl) rfl) (ea_cons (ev_var (nm 6 rfl (.inl rfl) rfl rfl) rfl) (ea_cons (ev_var (nm 8 rfl (.inl rfl) rfl rfl) rfl) ea_nil rfl) rfl) rfl) rfl) rfl (by decide) rfl rfl) (fun _ => rfl))) fun hb0 => (ew_or1 (et_not (et_ev (ev_call (c_law_rows_good T (hml.trans htl.symm) (by omega) (by omega) (by omega) (by rw [hml]; exact hki)) (hr.mono (by decide)) (ea_cons (ev_var (nm 4 rfl (.inl rfl) rfl rfl) rfl) (ea_cons (ev_var (nm 5 rfl (.inl rfl) rfl rfl) rfl) (ea_cons (ev_var (nm 6 rfl (.inl rfl) rfl rfl) rfl) (ea_cons (ev_var (nm 8 rfl (.inl rfl) rfl rfl) rfl) ea_nil rfl) rfl) rfl) rfl) rfl (by decide) rfl rfl) (fun _ => rfl)))))) rfl) (fun e => nomatch e) fun _ => ?_
  refine bd_forJ (ds := [dW (sideW 1), dW (sideW 0)]) 10 (fun i r => r = [.any, .any, .any, .any, .val (lI (mineL ns 1 n)), .val (lI (theirsL ns 1 n)), .val (lI (drawnL (cellV ns 4) n)), .val (dW (wordL (cellV ns 5) n)), .val (lI (moreL ns n)), .any, .any]) PassesOwn.never rfl nd rfl (.inl rfl) ⟨_, (by repeat (first | exact Wk.nil | refine Wk.any ?_ | refine Wk.same ?_ | refine Wk.frz ?_)), rfl⟩ ?_ ?_ ?_ (.inl rfl) (fun _ => rfl)
  · rintro i d r hd rfl
    obtain ⟨s, hs, rfl⟩ : ∃ s : Int, (s = 0 ∨ s = 1) ∧ d = dW (sideW s) := by
      match i, hd with
      | 0, hd =>
        cases hd
        exact ⟨1, .inr rfl, rfl⟩
      | 1, hd =>
        cases hd
        exact ⟨0, .inl rfl, rfl⟩
      | n + 2, hd => cases hd
    exact bd_ifRet (EvT.cast (k' := false) (et_not (et_ev (ev_call (c_law_values_good T (hml.trans htl.symm) (by omega) hs hll (by omega) (by omega) (by omega) (by rw [hml]; exact hki)) (hr.mono (by decide)) (ea_cons (ev_var (nm 4 rfl (.inl rfl) rfl rfl) rfl) (ea_cons (ev_var (nm 5 rfl (.inl rfl) rfl rfl) rfl) (ea_cons (ev_var (nm 7 rfl (.inl rfl) rfl rfl) rfl) (ea_cons (ev_var (nm 10 rfl (.inl rfl) rfl rfl) rfl) (ea_cons (ev_var (nm 6 rfl (.inl rfl) rfl rfl) rfl) (ea_cons (ev_var (nm 8 rfl (.inl rfl) rfl rfl) rfl) ea_nil rfl) rfl) rfl) rfl) rfl) rfl) rfl (by decide) rfl rfl) (fun _ => rfl))) rfl) (fun e => nomatch e) fun _ => bd_nil ⟨_, (by repeat (first | exact Wk.nil | refine Wk.any ?_ | refine Wk.same ?_ | refine Wk.frz ?_)), rfl⟩
  · rintro r rfl
    have k0 := hki 0 (by decide)
    refine bd_one (sd_ret (ev_call (c_law_errors_good T E (hml.trans htl.symm) (by omega) hll (by omega) (by omega)) (hr.mono (by decide)) (ea_cons (ev_var (nm 4 rfl (.inl rfl) rfl rfl) rfl) (ea_cons (ev_var (nm 5 rfl (.inl rfl) rfl rfl) rfl) (ea_cons (ev_var (nm 7 rfl (.inl rfl) rfl rfl) rfl) (ea_cons (Ev.cast (d' := dN ((moreL ns n).getD 0 0).toNat) (ev_ixG (0 : Int) (Ev.l (ev_var (nm 8 rfl (.inl rfl) rfl rfl) rfl)) ev_int ?_ ?_ (fun _ _ => rfl)) ?_) ea_nil rfl) rfl) rfl) rfl) rfl (by decide) rfl rfl) ?_)
    · decide
    · rw [hkl]
      decide
    · exact congrArg D.int (Int.toNat_of_nonneg k0.1).symm
    · rfl
  · rintro r _ rfl
    exact EvI.cast (ei_list (EvN.ev (evn_lst (ea_cons (ev_strW [109, 105, 110, 101]) (ea_cons (ev_strW [116, 104, 101, 105, 114, 115]) ea_nil rfl) rfl) (Nat.le_of_ble_eq_true rfl)))) rfl
end
end Y
end S_F20

section S_H1
set_option maxHeartbeats 2000000
/-! the head's hook: He's facts, the tuple SIDES, the two classes of own exceptions -/
namespace Y.Hd
open PySem PySem.Spec PyProof.Rows L2
open He (ga ba eqO eqO_ok)
/-- what an object names, as far as it is wanted here: a dict's values, a function's code, keyword defaults and cells, a class's own dict (no mro: so nothing comes twice, and nothing has to be sought for doubles) -/
def nx (o : Obj) : List Addr := match o.data with
  | .dict es _ => es.toList.flatMap fun e => He.refV e.val
  | .func fd => He.refV fd.code ++ (He.refV fd.kwdefaults ++ fd.closure.map (·.2))
  | .cls cd => [cd.ns]
  | _ => []
def lev (g : Addr → Option Obj) (as : List Addr) : List Addr := as.flatMap fun a => match g a with
  | some o => nx o
  | none => []
def asN (g : Addr → Option Obj) : Nat → List Addr → List Addr
  | 0, l => l
  | n + 1, l => l ++ asN g n (lev g l)
def asE (g : Addr → Option Obj) (n : Nat) : List Addr := asN g n [mainGlobals] ++ [cStatics]
abbrev FnI : Type := Option (Str × Str × Arguments × FuncBody × Scope × Addr × List Str × Addr)
def iA (K : PySem.W.Frag) (x : Str) : Addr := He.ma K (ga K x) "__init__"
def fnI (K : PySem.W.Frag) (f : Addr) : FnI := match K.lookup f with
  | some ⟨_, _, .func fd, _⟩ => some (fd.name, fd.qualname, fd.params, fd.body, fd.scope, fd.globals, fd.closure.map (·.1), fd.builtins)
  | _ => none
def valI (qual : Str) (st : Stmt) : FnI := some ("__init__", qual, defArgs st, .stmts (defBody st), defScope st, mainGlobals, ["__class__"], builtinsNs)
def clB (K : PySem.W.Frag) (C : Addr) : Bool := match K.lookup C with
  | some ⟨.type "type", _, .cls cd, sl⟩ => (match cd.mro, sl.toList with
    | .ref C' :: bm, [_, _, _, _, some (.builtin n), _] => C' == C && n == "ValueError.__new__" && !cd.hasDel && cd.hasDict && PySem.HandSPX.refsVE bm
    | _, _ => false)
  | _ => false
theorem clB_ok {K : PySem.W.Frag} {C : Addr} (q : clB K C = true) : ∃ nm q N bs bm sn sub ab col dd k0 k1 k2 k3 k5, K.lookup C = some (excClassObj nm q C N bs bm true sn sub ab col dd k0 k1 k2 k3 k5 "ValueError.__new__") ∧ PySem.HandSPX.refsVE bm = true := by
  unfold clB at q
  split at q
  · rename_i dd cd sl ho
    split at q
    · rename_i C' bm k0 k1 k2 k3 n k5 hm hs
      simp only [Bool.and_eq_true, beq_iff_eq, Bool.not_eq_true'] at q
      obtain ⟨⟨⟨⟨rfl, rfl⟩, hdel⟩, hd⟩, ht⟩ := q
      obtain ⟨nm, bs, mro, ns, qn, hdd, sn, sub, ab, col, del⟩ := cd
      dsimp only at hm hdel hd
      subst hm hdel hd
      have hsl : sl = #[k0, k1, k2, k3, some (.builtin "ValueError.__new__"), k5] := by
        obtain ⟨l⟩ := sl
        exact congrArg Array.mk hs
      subst hsl
      exact ⟨_, _, _, _, _, _, _, _, _, _, _, _, _, _, _, ho, ht⟩
    · cases q
  · cases q
def noneB : Value → Bool
  | .none => true
  | _ => false
theorem noneB_ok {v : Value} (h : noneB v = true) : v = .none := by
  cases v with
  | none => rfl
  | _ => cases h
def cdB (K : PySem.W.Frag) (file : Str) (c : Addr) : Bool := match K.lookup c with
  | some ⟨_, _, .fields vs, _⟩ => (match (vs[2]? : Option Value) with
    | some (Value.str f _) => file == f
    | _ => false)
  | _ => false
def ceB (K : PySem.W.Frag) (C c : Addr) : Bool := match K.lookup c with
  | some ⟨_, _, .cell (some (.ref D)), _⟩ => decide (D = C)
  | _ => false
def fnB (K : PySem.W.Frag) (file qual : Str) (C f : Addr) : Bool := match K.lookup f with
  | some ⟨_, _, .func fd, _⟩ => noneB fd.defaults && (noneB fd.kwdefaults && ((match fd.code with
    | .ref c => PySem.W.codeIn K (.ref c) qual && cdB K file c
    | _ => false) && (match fd.closure with
    | [(_, c)] => ceB K C c
    | _ => false)))
  | _ => false
theorem cdB_ok {K : PySem.W.Frag} {file : Str} {c : Addr} (h : cdB K file c = true) : ∃ ccl cdd vs ccs f tf, K.lookup c = some ⟨ccl, cdd, .fields vs, ccs⟩ ∧ vs[2]? = some (.str f tf) ∧ (file == f) = true := by
  unfold cdB at h
  split at h
  · rename_i a1 a2 vs a3 ho
    split at h
    · rename_i f t e
      exact ⟨_, _, _, _, _, _, ho, e, h⟩
    · cases h
  · cases h
theorem ceB_ok {K : PySem.W.Frag} {C c : Addr} (h : ceB K C c = true) : ∃ cl cld csl, K.lookup c = some ⟨cl, cld, .cell (some (.ref C)), csl⟩ := by
  unfold ceB at h
  split at h
  · rename_i a1 a2 D a3 ho
    have e : D = C := of_decide_eq_true h
    subst e
    exact ⟨_, _, _, ho⟩
  · cases h
theorem fnB_ok {K : PySem.W.Frag} {file qual : Str} {C f : Addr} {st : Stmt} (h : fnB K file qual C f = true) (e : fnI K f = valI qual st) :
    ∃ (oc : Value) (od : Option Addr) (doc pm : Value) (an : Option Addr) (cda cc : Addr) (ct : Value) (osl : Array (Option Value)),
    K.lookup f = some ⟨oc, od, .func (PySem.W.ksFn "__init__" qual (defArgs st) (defBody st) (defScope st) .none .none doc pm an (.ref cda) ct cc), osl⟩ ∧ PySem.W.codeIn K (.ref cda) qual = true ∧
    (∃ ccl cdd vs ccs file' tf, K.lookup cda = some ⟨ccl, cdd, .fields vs, ccs⟩ ∧ vs[2]? = some (.str file' tf) ∧ (file == file') = true) ∧
    ∃ cl cld csl, K.lookup cc = some ⟨cl, cld, .cell (some (.ref C)), csl⟩ := by
  unfold fnB at h
  unfold fnI at e
  cases q : K.lookup f with
  | none =>
    rw [q] at h
    cases h
  | some o =>
    obtain ⟨oc, od, dt, osl⟩ := o
    rw [q] at h e
    cases dt with
    | func fd =>
      obtain ⟨n1, n2, n3, n4, n5, n6, n7, n8, n9, n10, n11, n12, n13, n14, n15⟩ := fd
      have e2 : (some (n1, n2, n3, n4, n5, n6, n7.map (·.1), n15) : FnI) = valI qual st := e
      unfold valI at e2
      simp only [Option.some.injEq, Prod.mk.injEq] at e2
      obtain ⟨h1, h2, h3, h4, h5, h6, h7, h8⟩ := e2
      obtain ⟨k1, h⟩ := ba h
      obtain ⟨k2, h⟩ := ba h
      obtain ⟨k3, k4⟩ := ba h
      have z1 := noneB_ok k1
      have z2 := noneB_ok k2
      clear k1 k2
      dsimp only at z1 z2 k3 k4
      match n7, h7, k4 with
      | [(y, c)], h7, k4 =>
        have hy : y = "__class__" := (List.cons.inj h7).1
        subst h1 h2 h3 h4 h5 h6 h8 z1 z2 hy
        match n13, k3 with
        | .ref cda, k3 =>
          obtain ⟨k5, k6⟩ := ba k3
          exact ⟨_, _, _, _, _, cda, c, _, _, rfl, k5, cdB_ok k6, ceB_ok k4⟩
    | _ => cases h
/-- all that is wanted of one class -/
def xB (P : Program) (K : PySem.W.Frag) (x qual : Str) (fs : List Str) : Bool :=
  eqO (PySem.W.nsIn K mainGlobals x) (some (some (.ref (ga K x)))) && (clB K (ga K x) && (eqO (PySem.W.findIn K (.ref (ga K x)) "__setattr__") (some (some (.builtin "object.__setattr__"))) &&
  (eqO (PySem.W.findIn K (.ref (ga K x)) "__getattribute__") (some (some (.builtin "BaseException.__getattribute__"))) && (eqO (PySem.W.findIn K (.ref (ga K x)) "__getattr__") (some none) &&
  ((fs.all fun f => eqO (PySem.W.findIn K (.ref (ga K x)) f) (some none)) && (eqO (PySem.W.findIn K (.ref (ga K x)) "__init__") (some (some (.ref (iA K x)))) && (decide (PySem.W.typeIn K (.ref (iA K x)) = some (.type "function")) &&
  (PySem.W.keepIn K (.ref (ga K x)) && (decide (PySem.W.subIn K (.ref (ga K x)) (.type "BaseException") = some true) && (decide (PySem.W.typeIn K (.ref (ga K x)) = some (.type "type")) && (PySem.W.hasDictIn K (ga K x) &&
  (eqO (PySem.W.nsIn K cStatics "thirdparty.any") (some none) && (eqO (PySem.W.ks_superIn K (ga K x) (ga K x) "__init__") (some (some (.builtin "ValueError.__init__"))) && (decide (PySem.W.subIn K (.ref (ga K x)) (.type "ValueError") = some true) &&
  (decide (PySem.W.mroIn K (ga K x) (.ref (ga K x)) = some true) && (fnB K P.main.file qual (ga K x) (iA K x) &&
  ((PySem.W.clsIn K (ga K x)).isSome && (eqO (PySem.W.findIn K (.ref (ga K x)) "__class__") (some (some (.builtin "object.__class__"))) && (eqO (PySem.W.specialIn K (.builtin "object.__class__") "__get__") (some (some (.builtin "getset_descriptor.__get__"))) &&
  (decide (PySem.W.takesIn K (.builtin "object.__class__") = some true) && (decide (PySem.W.mroIn K (ga K x) (.type "object") = some true) &&
  (decide (PySem.W.exmOne K (.ref (ga K x)) (.ref (ga K "ClimbrowError")) = some true) && (decide (PySem.W.kitOne K (.ref (ga K x)) (.type "ValueError") = some true) &&
  (decide (PySem.W.kitOne K (.ref (ga K x)) (.ref (ga K "BadHands")) = some (x == "BadHands")) && (decide (PySem.W.kitOne K (.ref (ga K x)) (.ref (ga K "BadWord")) = some (x == "BadWord")) &&
  (decide (PySem.W.kitAny K (.ref (ga K x)) [.ref (ga K "BadBounds"), .ref (ga K "BadCard"), .ref (ga K "BadPairing"), .ref (ga K "BadPlace"), .ref (ga K "BadSchedule"), .ref (ga K "BadText"), .ref (ga K "Contradiction")] = some false) &&
  decide (PySem.W.kitAny K (.ref (ga K x)) [.ref (ga K "DuplicateName"), .ref (ga K "OutOfTurn"), .ref (ga K "UnknownName"), .ref (ga K "Unreachable"), .ref (ga K "Unsteady")] = some false)))))))))))))))))))))))))))
structure XOk (P : Program) (K : PySem.W.Frag) (mg : Str → Option Value) (x qual : Str) (st : Stmt) (fs : List Str) : Prop where
  e : Er.ErrC P K mg x qual (defArgs st) (defBody st) (defScope st) fs (ga K x) (iA K x)
  d : ExcD K (ga K x)
  em : PySem.W.exmOne K (.ref (ga K x)) (.ref (ga K "ClimbrowError")) = some true
  v : PySem.W.kitOne K (.ref (ga K x)) (.type "ValueError") = some true
  h : PySem.W.kitOne K (.ref (ga K x)) (.ref (ga K "BadHands")) = some (x == "BadHands")
  w : PySem.W.kitOne K (.ref (ga K x)) (.ref (ga K "BadWord")) = some (x == "BadWord")
  o1 : PySem.W.kitAny K (.ref (ga K x)) [.ref (ga K "BadBounds"), .ref (ga K "BadCard"), .ref (ga K "BadPairing"), .ref (ga K "BadPlace"), .ref (ga K "BadSchedule"), .ref (ga K "BadText"), .ref (ga K "Contradiction")] = some false
  o2 : PySem.W.kitAny K (.ref (ga K x)) [.ref (ga K "DuplicateName"), .ref (ga K "OutOfTurn"), .ref (ga K "UnknownName"), .ref (ga K "Unreachable"), .ref (ga K "Unsteady")] = some false
theorem xB_ok {P : Program} {K : PySem.W.Frag} {h : Heap} {mg : Str → Option Value} {x qual : Str} {st : Stmt} {fs : List Str} (X : K.In h) (G : h.Ns mainGlobals mg) (su : mg "super" = none) (tp : (P.main.scope.names.lookup ("super" : Str)).isSome = false) (c : xB P K x qual fs = true) (e : fnI K (iA K x) = valI qual st) : XOk P K mg x qual st fs := by
  unfold xB at c
  obtain ⟨c1, c⟩ := ba c
  obtain ⟨c2, c⟩ := ba c
  obtain ⟨c3, c⟩ := ba c
  obtain ⟨c4, c⟩ := ba c
  obtain ⟨c5, c⟩ := ba c
  obtain ⟨c6, c⟩ := ba c
  obtain ⟨c7, c⟩ := ba c
  obtain ⟨c8, c⟩ := ba c
  obtain ⟨c9, c⟩ := ba c
  obtain ⟨c10, c⟩ := ba c
  obtain ⟨c11, c⟩ := ba c
  obtain ⟨c12, c⟩ := ba c
  obtain ⟨c13, c⟩ := ba c
  obtain ⟨c14, c⟩ := ba c
  obtain ⟨c15, c⟩ := ba c
  obtain ⟨c16, c⟩ := ba c
  obtain ⟨c17, c⟩ := ba c
  obtain ⟨c18, c⟩ := ba c
  obtain ⟨c19, c⟩ := ba c
  obtain ⟨c20, c⟩ := ba c
  obtain ⟨c21, c⟩ := ba c
  obtain ⟨c22, c⟩ := ba c
  obtain ⟨c23, c⟩ := ba c
  obtain ⟨c24, c⟩ := ba c
  obtain ⟨c25, c⟩ := ba c
  obtain ⟨c26, c⟩ := ba c
  obtain ⟨c27, c28⟩ := ba c
  exact ⟨⟨PySem.W.mg_of X G (eqO_ok c1), clB_ok c2, eqO_ok c3, eqO_ok c4, eqO_ok c5, fun f hf => eqO_ok (List.all_eq_true.mp c6 f hf), eqO_ok c7, of_decide_eq_true c8, c9, of_decide_eq_true c10, of_decide_eq_true c11, c12, eqO_ok c13, eqO_ok c14, of_decide_eq_true c15, of_decide_eq_true c16, su, tp, fnB_ok c17 e⟩,
    ⟨c18, eqO_ok c4, eqO_ok c5, of_decide_eq_true c10, c12, eqO_ok c19, eqO_ok c20, of_decide_eq_true c21, of_decide_eq_true c22⟩, of_decide_eq_true c23, of_decide_eq_true c24, of_decide_eq_true c25, of_decide_eq_true c26, of_decide_eq_true c27, of_decide_eq_true c28⟩
/-! ### the hook -/
def zB (K : PySem.W.Frag) : Bool := match K.lookup 0 with
  | some ⟨_, _, .func _, _⟩ => false
  | _ => true
theorem gz {K : PySem.W.Frag} {x : Str} {oc : Value} {od : Option Addr} {fd : FuncData} {osl : Array (Option Value)} (z : zB K = true) (q : K.lookup (ga K x) = some ⟨oc, od, .func fd, osl⟩) : PySem.W.nsIn K mainGlobals x = some (some (.ref (ga K x))) := by
  unfold He.ga at q ⊢
  split at q
  · rename_i a e
    rw [e]
  · unfold zB at z
    rw [q] at z
    cases z
def exB (P : Program) (K : PySem.W.Frag) : Bool := zB K && (He.tupB K "SIDES" [.str "theirs", .str "mine"] && (xB P K "BadHands" "BadHands.__init__" fBH && xB P K "BadWord" "BadWord.__init__" fBW))
abbrev AlE : Type := He.AlD × Bool × FnI × FnI
def obsE (P : Program) (fa : List He.Fa) (fn : List He.DefD) (K : PySem.W.Frag) : AlE := (He.obsD fa fn K, exB P K, fnI K (iA K "BadHands"), fnI K (iA K "BadWord"))
def valE (fn : List He.DefD) : AlE := (He.valD fn, true, valI "BadHands.__init__" iBH, valI "BadWord.__init__" iBW)
def SaysE (P : Program) (fa : List He.Fa) (fn : List He.DefD) (K : PySem.W.Frag) : Prop := obsE P fa fn K = valE fn
def obsEG (P : Program) (n : Nat) (fa : List He.Fa) (fn : List He.DefD) (g : Addr → Option Obj) : AlE := obsE P fa fn (He.frG g (asE g n))
def hookE (P : Program) (n : Nat) (fa : List He.Fa) (fn : List He.DefD) : PySem.W.Hook where
  α := AlE
  obs := fun s => obsEG P n fa fn s.heap.get?
  val := fun _ => valE fn
  says := fun _ h => ∃ K : PySem.W.Frag, K.In h ∧ SaysE P fa fn K
  of := fun _ _ e => ⟨_, He.frG_in, e⟩
  keeps := fun _ _ _ ⟨K, hK, c⟩ k => ⟨K, PySem.W.Frag.In.keeps hK k, c⟩
theorem obsEG_eq {P : Program} {n : Nat} {fa : List He.Fa} {fn : List He.DefD} {g : Addr → Option Obj} {s : Shared} (h : ∀ a, g a = s.heap.get? a) : obsEG P n fa fn g = (hookE P n fa fn).obs s := by
  have e : g = s.heap.get? := funext h
  rw [e] <;> rfl
def obsFG (n : Nat) (fa : List He.Fa) (g : Addr → Option Obj) : He.AlD := He.obsD fa [] (He.frG g (asE g n))
def hookF (n : Nat) (fa : List He.Fa) : PySem.W.Hook where
  α := He.AlD
  obs := fun s => obsFG n fa s.heap.get?
  val := fun _ => He.valD []
  says := fun _ h => ∃ K : PySem.W.Frag, K.In h ∧ He.SaysD fa [] K
  of := fun _ _ e => ⟨_, He.frG_in, e⟩
  keeps := fun _ _ _ ⟨K, hK, c⟩ k => ⟨K, PySem.W.Frag.In.keeps hK k, c⟩
def hookP (P : Program) (n : Nat) (fa : List He.Fa) (fn : List He.DefD) : PySem.W.Hook where
  α := AlE × He.AlD
  obs := fun s => (obsEG P n [] fn s.heap.get?, obsFG n fa s.heap.get?)
  val := fun _ => (valE fn, He.valD [])
  says := fun _ h => ∃ K : PySem.W.Frag, K.In h ∧ SaysE P [] fn K ∧ He.SaysD fa [] K
  of := fun _ _ e => ⟨_, He.frG_in, congrArg (fun z : AlE × He.AlD => z.1) e, congrArg (fun z : AlE × He.AlD => z.2) e⟩
  keeps := fun _ _ _ ⟨K, hK, c⟩ k => ⟨K, PySem.W.Frag.In.keeps hK k, c⟩
theorem obsPG_eq {P : Program} {n : Nat} {fa : List He.Fa} {fn : List He.DefD} {g : Addr → Option Obj} {s : Shared} (h : ∀ a, g a = s.heap.get? a) : (obsEG P n [] fn g, obsFG n fa g) = (hookP P n fa fn).obs s := by
  have e : g = s.heap.get? := funext h
  rw [e] <;> rfl
/-- four looks at one run, each by itself, are one look -/
theorem mapJ {α β γ δ ε1 ε2 ε3 ζ : Type} {z : Option α} {a : α → β} {b : α → γ} {c : α → δ} {d1 : α → ε1} {d2 : α → ε2} {d3 : α → ε3} {d4 : α → ζ} {t : β} {u : γ} {v : δ} {x1 : ε1} {x2 : ε2} {x3 : ε3} {x4 : ζ}
    (h1 : z.map a = some t) (h2 : z.map b = some u) (h3 : z.map c = some v) (h4 : z.map (fun s => (d1 s, d2 s, d3 s, d4 s)) = some (x1, x2, x3, x4)) :
    z.map (fun s => (a s, b s, ((c s, d1 s, d2 s, d3 s), d4 s))) = some (t, u, ((v, x1, x2, x3), x4)) := by
  cases z with
  | none => cases h1
  | some s =>
    have e1 : a s = t := Option.some.inj h1
    have e2 : b s = u := Option.some.inj h2
    have e3 : c s = v := Option.some.inj h3
    have e4 : (d1 s, d2 s, d3 s, d4 s) = (x1, x2, x3, x4) := Option.some.inj h4
    simp only [Prod.mk.injEq] at e4
    obtain ⟨rfl, rfl, rfl, rfl⟩ := e4
    subst e1 e2 e3
    rfl
section
variable {P : Program} {fa : List He.Fa} {fn : List He.DefD} {K : PySem.W.Frag} {h : Heap} {mg : Str → Option Value}
theorem SaysE.d (c : SaysE P fa fn K) : He.SaysD fa fn K := congrArg (fun z : AlE => z.1) c
theorem SaysE.ex (c : SaysE P fa fn K) : exB P K = true := congrArg (fun z : AlE => z.2.1) c
theorem SaysE.bh (c : SaysE P fa fn K) : fnI K (iA K "BadHands") = valI "BadHands.__init__" iBH := congrArg (fun z : AlE => z.2.2.1) c
theorem SaysE.bw (c : SaysE P fa fn K) : fnI K (iA K "BadWord") = valI "BadWord.__init__" iBW := congrArg (fun z : AlE => z.2.2.2) c
end
end Y.Hd
end S_H1

section S_HeadD
set_option maxHeartbeats 0
namespace Y.Hd
open PySem PySem.Spec PyProof.Rows L2
def d_check_hands : He.DefD := ⟨("check_hands", none), "check_hands", "check_hands", defArgs s_check_hands, defBody s_check_hands, defScope s_check_hands, [], []⟩
def d_check_letters : He.DefD := ⟨("check_letters", none), "check_letters", "check_letters", defArgs s_check_letters, defBody s_check_letters, defScope s_check_letters, [], []⟩
def d_check_word : He.DefD := ⟨("check_word", none), "check_word", "check_word", defArgs s_check_word, defBody s_check_word, defScope s_check_word, [], []⟩
def d_lays_before_last : He.DefD := ⟨("lays_before_last", none), "lays_before_last", "lays_before_last", defArgs s_lays_before_last, defBody s_lays_before_last, defScope s_lays_before_last, [], []⟩
def d_wins : He.DefD := ⟨("wins", none), "wins", "wins", defArgs s_wins, defBody s_wins, defScope s_wins, [], []⟩
def d_deck : He.DefD := ⟨("deck", none), "deck", "deck", defArgs s_deck, defBody s_deck, defScope s_deck, [], []⟩
def d_heights : He.DefD := ⟨("heights", none), "heights", "heights", defArgs s_heights, defBody s_heights, defScope s_heights, [], []⟩
def d_peak : He.DefD := ⟨("peak", none), "peak", "peak", defArgs s_peak, defBody s_peak, defScope s_peak, [], []⟩
def d_valley : He.DefD := ⟨("valley", none), "valley", "valley", defArgs s_valley, defBody s_valley, defScope s_valley, [], []⟩
def d_places_at : He.DefD := ⟨("places_at", none), "places_at", "places_at", defArgs s_places_at, defBody s_places_at, defScope s_places_at, [], []⟩
def d_peak_places : He.DefD := ⟨("peak_places", none), "peak_places", "peak_places", defArgs s_peak_places, defBody s_peak_places, defScope s_peak_places, [], []⟩
def d_valley_places : He.DefD := ⟨("valley_places", none), "valley_places", "valley_places", defArgs s_valley_places, defBody s_valley_places, defScope s_valley_places, [], []⟩
def d_is_pairing : He.DefD := ⟨("is_pairing", none), "is_pairing", "is_pairing", defArgs s_is_pairing, defBody s_is_pairing, defScope s_is_pairing, [], []⟩
def d_wins_of : He.DefD := ⟨("wins_of", none), "wins_of", "wins_of", defArgs s_wins_of, defBody s_wins_of, defScope s_wins_of, [], []⟩
def d_height_at : He.DefD := ⟨("height_at", none), "height_at", "height_at", defArgs s_height_at, defBody s_height_at, defScope s_height_at, [], []⟩
def d_look_span : He.DefD := ⟨("look_span", none), "look_span", "look_span", defArgs s_look_span, defBody s_look_span, defScope s_look_span, [], []⟩
def d_card_levels : He.DefD := ⟨("card_levels", none), "card_levels", "card_levels", defArgs s_card_levels, defBody s_card_levels, defScope s_card_levels, [], []⟩
def d_shows_row : He.DefD := ⟨("shows_row", none), "shows_row", "shows_row", defArgs s_shows_row, defBody s_shows_row, defScope s_shows_row, [], []⟩
def d_look_row : He.DefD := ⟨("look_row", none), "look_row", "look_row", defArgs s_look_row, defBody s_look_row, defScope s_look_row, [], []⟩
def d_counted_value : He.DefD := ⟨("counted_value", none), "counted_value", "counted_value", defArgs s_counted_value, defBody s_counted_value, defScope s_counted_value, [], []⟩
def d_look_value : He.DefD := ⟨("look_value", none), "look_value", "look_value", defArgs s_look_value, defBody s_look_value, defScope s_look_value, [], []⟩
def d_side_levels : He.DefD := ⟨("side_levels", none), "side_levels", "side_levels", defArgs s_side_levels, defBody s_side_levels, defScope s_side_levels, [], []⟩
def d_row_of : He.DefD := ⟨("row_of", none), "row_of", "row_of", defArgs s_row_of, defBody s_row_of, defScope s_row_of, [], []⟩
def d_mates : He.DefD := ⟨("mates", none), "mates", "mates", defArgs s_mates, defBody s_mates, defScope s_mates, [], []⟩
def d_rotation : He.DefD := ⟨("rotation", none), "rotation", "rotation", defArgs s_rotation, defBody s_rotation, defScope s_rotation, [], []⟩
def d_least : He.DefD := ⟨("least", none), "least", "least", defArgs s_least, defBody s_least, defScope s_least, [], []⟩
def d_most : He.DefD := ⟨("most", none), "most", "most", defArgs s_most, defBody s_most, defScope s_most, [], []⟩
def d_entry_value : He.DefD := ⟨("entry_value", none), "entry_value", "entry_value", defArgs s_entry_value, defBody s_entry_value, defScope s_entry_value, [], []⟩
def d_value : He.DefD := ⟨("value", none), "value", "value", defArgs s_value, defBody s_value, defScope s_value, [], [("many", .str "mine")]⟩
def d_span_paper : He.DefD := ⟨("span_paper", none), "span_paper", "span_paper", defArgs s_span_paper, defBody s_span_paper, defScope s_span_paper, [], []⟩
def d_row_paper : He.DefD := ⟨("row_paper", none), "row_paper", "row_paper", defArgs s_row_paper, defBody s_row_paper, defScope s_row_paper, [], []⟩
def d_value_paper : He.DefD := ⟨("value_paper", none), "value_paper", "value_paper", defArgs s_value_paper, defBody s_value_paper, defScope s_value_paper, [], [("many", .str "mine")]⟩
def d_law_cell : He.DefD := ⟨("_law_cell", none), "_law_cell", "_law_cell", defArgs s_law_cell, defBody s_law_cell, defScope s_law_cell, [], []⟩
def d_law_draws : He.DefD := ⟨("_law_draws", none), "_law_draws", "_law_draws", defArgs s_law_draws, defBody s_law_draws, defScope s_law_draws, [], []⟩
def d_law_hand : He.DefD := ⟨("_law_hand", none), "_law_hand", "_law_hand", defArgs s_law_hand, defBody s_law_hand, defScope s_law_hand, [], []⟩
def d_law_hands : He.DefD := ⟨("_law_hands", none), "_law_hands", "_law_hands", defArgs s_law_hands, defBody s_law_hands, defScope s_law_hands, [], []⟩
def d_law_word : He.DefD := ⟨("_law_word", none), "_law_word", "_law_word", defArgs s_law_word, defBody s_law_word, defScope s_law_word, [], []⟩
def d_law_pairing : He.DefD := ⟨("_law_pairing", none), "_law_pairing", "_law_pairing", defArgs s_law_pairing, defBody s_law_pairing, defScope s_law_pairing, [], []⟩
def d_law_is_int : He.DefD := ⟨("_law_is_int", none), "_law_is_int", "_law_is_int", defArgs s_law_is_int, defBody s_law_is_int, defScope s_law_is_int, [], []⟩
def d_law_is_ints : He.DefD := ⟨("_law_is_ints", none), "_law_is_ints", "_law_is_ints", defArgs s_law_is_ints, defBody s_law_is_ints, defScope s_law_is_ints, [], []⟩
def d_law_result : He.DefD := ⟨("_law_result", none), "_law_result", "_law_result", defArgs s_law_result, defBody s_law_result, defScope s_law_result, [], []⟩
def d_law_least : He.DefD := ⟨("_law_least", none), "_law_least", "_law_least", defArgs s_law_least, defBody s_law_least, defScope s_law_least, [], []⟩
def d_law_most : He.DefD := ⟨("_law_most", none), "_law_most", "_law_most", defArgs s_law_most, defBody s_law_most, defScope s_law_most, [], []⟩
def d_law_order : He.DefD := ⟨("_law_order", none), "_law_order", "_law_order", defArgs s_law_order, defBody s_law_order, defScope s_law_order, [], []⟩
def d_law_value : He.DefD := ⟨("_law_value", none), "_law_value", "_law_value", defArgs s_law_value, defBody s_law_value, defScope s_law_value, [], []⟩
def d_law_walk : He.DefD := ⟨("_law_walk", none), "_law_walk", "_law_walk", defArgs s_law_walk, defBody s_law_walk, defScope s_law_walk, [], []⟩
def d_law_levels : He.DefD := ⟨("_law_levels", none), "_law_levels", "_law_levels", defArgs s_law_levels, defBody s_law_levels, defScope s_law_levels, [], []⟩
def d_law_mates : He.DefD := ⟨("_law_mates", none), "_law_mates", "_law_mates", defArgs s_law_mates, defBody s_law_mates, defScope s_law_mates, [], []⟩
def d_law_rotation : He.DefD := ⟨("_law_rotation", none), "_law_rotation", "_law_rotation", defArgs s_law_rotation, defBody s_law_rotation, defScope s_law_rotation, [], []⟩
def d_law_form_good : He.DefD := ⟨("_law_form_good", none), "_law_form_good", "_law_form_good", defArgs s_law_form_good, defBody s_law_form_good, defScope s_law_form_good, [], []⟩
def d_law_part : He.DefD := ⟨("_law_part", none), "_law_part", "_law_part", defArgs s_law_part, defBody s_law_part, defScope s_law_part, [], []⟩
def d_law_copy : He.DefD := ⟨("_law_copy", none), "_law_copy", "_law_copy", defArgs s_law_copy, defBody s_law_copy, defScope s_law_copy, [], []⟩
def d_law_near : He.DefD := ⟨("_law_near", none), "_law_near", "_law_near", defArgs s_law_near, defBody s_law_near, defScope s_law_near, [], []⟩
def d_law_pairings_near : He.DefD := ⟨("_law_pairings_near", none), "_law_pairings_near", "_law_pairings_near", defArgs s_law_pairings_near, defBody s_law_pairings_near, defScope s_law_pairings_near, [], []⟩
def d_law_places : He.DefD := ⟨("_law_places", none), "_law_places", "_law_places", defArgs s_law_places, defBody s_law_places, defScope s_law_places, [], []⟩
def d_law_rows_near : He.DefD := ⟨("_law_rows_near", none), "_law_rows_near", "_law_rows_near", defArgs s_law_rows_near, defBody s_law_rows_near, defScope s_law_rows_near, [], []⟩
def d_law_words_near : He.DefD := ⟨("_law_words_near", none), "_law_words_near", "_law_words_near", defArgs s_law_words_near, defBody s_law_words_near, defScope s_law_words_near, [], []⟩
def d_law_height_is : He.DefD := ⟨("_law_height_is", none), "_law_height_is", "_law_height_is", defArgs s_law_height_is, defBody s_law_height_is, defScope s_law_height_is, [], []⟩
def d_law_span_right : He.DefD := ⟨("_law_span_right", none), "_law_span_right", "_law_span_right", defArgs s_law_span_right, defBody s_law_span_right, defScope s_law_span_right, [], []⟩
def d_law_row_right : He.DefD := ⟨("_law_row_right", none), "_law_row_right", "_law_row_right", defArgs s_law_row_right, defBody s_law_row_right, defScope s_law_row_right, [], []⟩
def d_law_value_right : He.DefD := ⟨("_law_value_right", none), "_law_value_right", "_law_value_right", defArgs s_law_value_right, defBody s_law_value_right, defScope s_law_value_right, [], []⟩
def d_law_look_good : He.DefD := ⟨("_law_look_good", none), "_law_look_good", "_law_look_good", defArgs s_law_look_good, defBody s_law_look_good, defScope s_law_look_good, [], []⟩
def d_law_looks_good : He.DefD := ⟨("_law_looks_good", none), "_law_looks_good", "_law_looks_good", defArgs s_law_looks_good, defBody s_law_looks_good, defScope s_law_looks_good, [], []⟩
def d_law_spans_good : He.DefD := ⟨("_law_spans_good", none), "_law_spans_good", "_law_spans_good", defArgs s_law_spans_good, defBody s_law_spans_good, defScope s_law_spans_good, [], []⟩
def d_law_rows_good : He.DefD := ⟨("_law_rows_good", none), "_law_rows_good", "_law_rows_good", defArgs s_law_rows_good, defBody s_law_rows_good, defScope s_law_rows_good, [], []⟩
def d_law_values_good : He.DefD := ⟨("_law_values_good", none), "_law_values_good", "_law_values_good", defArgs s_law_values_good, defBody s_law_values_good, defScope s_law_values_good, [], []⟩
def d_law_refused : He.DefD := ⟨("_law_refused", none), "_law_refused", "_law_refused", defArgs s_law_refused, defBody s_law_refused, defScope s_law_refused, [], []⟩
def d_law_errors_good : He.DefD := ⟨("_law_errors_good", none), "_law_errors_good", "_law_errors_good", defArgs s_law_errors_good, defBody s_law_errors_good, defScope s_law_errors_good, [], []⟩
def d_law : He.DefD := ⟨("law", none), "law", "law", defArgs s_law, defBody s_law, defScope s_law, [], []⟩
def fn0 : List He.DefD := [d_check_hands, d_check_letters, d_check_word, d_lays_before_last, d_wins, d_deck, d_heights, d_peak, d_valley, d_places_at, d_peak_places, d_valley_places, d_is_pairing, d_wins_of, d_height_at]
def fn1 : List He.DefD := [d_look_span, d_card_levels, d_shows_row, d_look_row, d_counted_value, d_look_value, d_side_levels, d_row_of, d_mates, d_rotation, d_least, d_most, d_entry_value, d_value, d_span_paper]
def fn2 : List He.DefD := [d_row_paper, d_value_paper, d_law_cell, d_law_draws, d_law_hand, d_law_hands, d_law_word, d_law_pairing, d_law_is_int, d_law_is_ints, d_law_result, d_law_least, d_law_most, d_law_order, d_law_value]
def fn3 : List He.DefD := [d_law_walk, d_law_levels, d_law_mates, d_law_rotation, d_law_form_good, d_law_part, d_law_copy, d_law_near, d_law_pairings_near, d_law_places, d_law_rows_near, d_law_words_near, d_law_height_is, d_law_span_right, d_law_row_right]
def fn4 : List He.DefD := [d_law_value_right, d_law_look_good, d_law_looks_good, d_law_spans_good, d_law_rows_good, d_law_values_good, d_law_refused, d_law_errors_good, d_law]
def fn : List He.DefD := fn0 ++ fn1 ++ fn2 ++ fn3 ++ fn4
def ls0 : List Str := ["ClimbrowError", "BadHands", "BadWord", "Unsteady", "BadCard", "BadPairing", "BadPlace", "OutOfTurn", "Unreachable", "Contradiction", "BadBounds", "BadSchedule"]
def ls1 : List Str := ["BadText", "UnknownName", "DuplicateName", "check_hands", "check_letters", "check_word", "lays_before_last", "SIDES", "wins", "deck", "heights", "peak"]
def ls2 : List Str := ["valley", "places_at", "peak_places", "valley_places", "is_pairing", "wins_of", "height_at", "look_span", "card_levels", "shows_row", "look_row", "counted_value"]
def ls3 : List Str := ["look_value", "side_levels", "row_of", "mates", "rotation", "least", "most", "entry_value", "value", "span_paper", "row_paper", "value_paper"]
def ls4 : List Str := ["_law_cell", "_law_draws", "_law_hand", "_law_hands", "_law_word", "_law_pairing", "_law_is_int", "_law_is_ints", "_law_result", "_law_least", "_law_most", "_law_order"]
def ls5 : List Str := ["_law_value", "_law_walk", "_law_levels", "_law_mates", "_law_rotation", "_law_form_good", "_law_part", "_law_copy", "_law_near", "_law_pairings_near", "_law_places", "_law_rows_near"]
def ls6 : List Str := ["_law_words_near", "_law_height_is", "_law_span_right", "_law_row_right", "_law_value_right", "_law_look_good", "_law_looks_good", "_law_spans_good", "_law_rows_good", "_law_values_good", "_law_refused", "_law_errors_good"]
def ls : List Str := ls0 ++ ls1 ++ ls2 ++ ls3 ++ ls4 ++ ls5 ++ ls6
def fa0 : List He.Fa := [.free "len", .free "abs", .free "int", .free "max", .free "min", .free "sum", .free "all", .free "sorted", .free "list", .free "tuple", .free "range", .free "enumerate", .free "isinstance", .free "bool", .free "str", .free "ValueError", .free "super"]
def fa1 : List He.Fa := [.glo "ClimbrowError", .glo "BadHands", .glo "BadWord", .glo "BadBounds", .glo "BadCard", .glo "BadPairing", .glo "BadPlace", .glo "BadSchedule", .glo "BadText", .glo "Contradiction", .glo "DuplicateName", .glo "OutOfTurn", .glo "UnknownName", .glo "Unreachable", .glo "Unsteady", .glo "SIDES"]
def fa : List He.Fa := fa0 ++ fa1
abbrev R : PySem.W.OpenRow := PySem.W.OpenLaw.row PySem.Challenge.rw_climbrow_k55_whole_lookers_of_values
abbrev PP : Program := PySem.Challenge.rw_climbrow_k55_whole_lookers_of_values.prog
end Y.Hd
end S_HeadD

section S_HeadY0
set_option maxHeartbeats 0
namespace Y.Hd
open PySem PySem.Spec PyProof.Rows L2
/-- the run of the top, from the boot -/
noncomputable abbrev zR (w : World) (os : OsState) : Option PySem.W.SharedT := HandSHeadRun.endF (HandSHeadRun.stepQ (HandSHeadRun.denQ HandSHeadRun.tabQ) R.prog w) 20000 R.prog w os
abbrev vq : Program := PySem.W.view R.prog [95]
def kS (s : PySem.W.SharedT) : PySem.W.Frag := He.frG (HandSHeadRun.getT s) (asE (HandSHeadRun.getT s) 4)
end Y.Hd
end S_HeadY0

section S_HeadY1
set_option maxHeartbeats 0
namespace Y.Hd
open PySem PySem.Spec PyProof.Rows L2
open PySem.W PySem.Calls in
theorem run1 (w : World) (os : OsState) : (zR w os).map (fun s => HandSHeadRun.looksF R.prog (boot_heap w.params) s.abs) = some true := by
  kernel_rfl
end Y.Hd
end S_HeadY1

section S_HeadY2
set_option maxHeartbeats 0
namespace Y.Hd
open PySem PySem.Spec PyProof.Rows L2
theorem run2 (w : World) (os : OsState) : (zR w os).map (fun s => HandSHeadRun.seenQ vq ls (importedModules R.prog.main.body) (fun s => PySem.W.xlAt vq [] s && PySem.W.recOk R.toRowW.records s) s.abs) = some (PySem.W.openGood vq ls) := by
  kernel_rfl
end Y.Hd
end S_HeadY2

section S_HeadY3
set_option maxHeartbeats 0
namespace Y.Hd
open PySem PySem.Spec PyProof.Rows L2
theorem run3 (w : World) (os : OsState) : (zR w os).map (fun s => He.obsD [] fn (kS s)) = some (He.valD fn) := by
  kernel_rfl
end Y.Hd
end S_HeadY3

section S_HeadY4
set_option maxHeartbeats 0
namespace Y.Hd
open PySem PySem.Spec PyProof.Rows L2
theorem run4 (w : World) (os : OsState) : (zR w os).map (fun s => (exB PP (kS s), fnI (kS s) (iA (kS s) "BadHands"), fnI (kS s) (iA (kS s) "BadWord"), He.obsD fa [] (kS s))) = some (true, valI "BadHands.__init__" iBH, valI "BadWord.__init__" iBW, He.valD []) := by
  kernel_rfl
end Y.Hd
end S_HeadY4

section S_HeadY
set_option maxHeartbeats 0
namespace Y.Hd
open PySem PySem.Spec PyProof.Rows L2
abbrev hk : PySem.W.Hook := hookP PP 4 fa fn
def ob (s : PySem.W.SharedT) : AlE × He.AlD := (obsEG PP 4 [] fn (HandSHeadRun.getT s), obsFG 4 fa (HandSHeadRun.getT s))
theorem ob_eq (s : PySem.W.SharedT) : ob s = hk.obs s.abs := obsPG_eq (HandSHeadRun.getT_eq s)
theorem run (w : World) : HandSHeadRun.RunEq R (PySem.W.view R.prog [95]) hk ob 20000 ls w := fun os => mapJ (run1 w os) (run2 w os) (run3 w os) (run4 w os)
end Y.Hd
end S_HeadY

section S_HeadZ
set_option maxHeartbeats 0
namespace Y.Hd
open PySem PySem.Spec PyProof.Rows L2
section
variable {P : Program} {K : PySem.W.Frag} {h : Heap} {mg : Str → Option Value}
theorem gl (X : K.In h) (G : h.Ns mainGlobals mg) (c : SaysE P [] fn K) (cf : He.SaysD fa [] K) (i : Nat) {x : Str} (e : fa[i]? = some (.glo x) := by rfl) : mg x = some (.ref (He.ga K x)) := He.glo_ok X G (cf.fact i e)
theorem fr (X : K.In h) (G : h.Ns mainGlobals mg) (c : SaysE P [] fn K) (cf : He.SaysD fa [] K) (i : Nat) {x : Str} (e : fa[i]? = some (.free x) := by rfl) : mg x = none := He.free_ok X G (cf.fact i e)
theorem df (X : K.In h) (G : h.Ns mainGlobals mg) (c : SaysE P [] fn K) (cf : He.SaysD fa [] K) (j : Nat) {x : Str} {st : Stmt} {kws : List (Str × V)} {kw : List (Str × He.Dv)} (e2 : fn[j]? = some ⟨(x, none), x, x, defArgs st, defBody st, defScope st, [], kw⟩ := by rfl) (e3 : kw.map (fun q => (q.1, q.2.v K)) = kws := by rfl) : DefOk K mg x st kws := by
  obtain ⟨fd, F⟩ := c.d.def_ j e2
  subst e3
  obtain ⟨⟨oc, od, n8, n9, n10, n11, n12, n13, n14, osl, hfd, q, r⟩, kp⟩ := id F
  exact ⟨_, fd, PySem.W.mg_of X G (gz (He.ba c.ex).1 q), F⟩
theorem tx (X : K.In h) (G : h.Ns mainGlobals mg) (c : SaysE P [] fn K) (cf : He.SaysD fa [] K) : Tx K mg where
  b_len := fr X G c cf 0
  b_abs := fr X G c cf 1
  b_int := fr X G c cf 2
  b_max := fr X G c cf 3
  b_min := fr X G c cf 4
  b_sum := fr X G c cf 5
  b_all := fr X G c cf 6
  b_sorted := fr X G c cf 7
  b_list := fr X G c cf 8
  b_tuple := fr X G c cf 9
  b_range := fr X G c cf 10
  b_enumerate := fr X G c cf 11
  b_isinstance := fr X G c cf 12
  b_bool := fr X G c cf 13
  b_str := fr X G c cf 14
  b_ValueError := fr X G c cf 15
  b_super := fr X G c cf 16
  sides := ⟨_, gl X G c cf 32, fun H => He.tupB_ok (He.ba (He.ba c.ex).2).1 H⟩
  d_check_hands := df X G c cf 0
  d_check_letters := df X G c cf 1
  d_check_word := df X G c cf 2
  d_lays_before_last := df X G c cf 3
  d_wins := df X G c cf 4
  d_deck := df X G c cf 5
  d_heights := df X G c cf 6
  d_peak := df X G c cf 7
  d_valley := df X G c cf 8
  d_places_at := df X G c cf 9
  d_peak_places := df X G c cf 10
  d_valley_places := df X G c cf 11
  d_is_pairing := df X G c cf 12
  d_wins_of := df X G c cf 13
  d_height_at := df X G c cf 14
  d_look_span := df X G c cf 15
  d_card_levels := df X G c cf 16
  d_shows_row := df X G c cf 17
  d_look_row := df X G c cf 18
  d_counted_value := df X G c cf 19
  d_look_value := df X G c cf 20
  d_side_levels := df X G c cf 21
  d_row_of := df X G c cf 22
  d_mates := df X G c cf 23
  d_rotation := df X G c cf 24
  d_least := df X G c cf 25
  d_most := df X G c cf 26
  d_entry_value := df X G c cf 27
  d_value := df X G c cf 28
  d_span_paper := df X G c cf 29
  d_row_paper := df X G c cf 30
  d_value_paper := df X G c cf 31
  d_law_cell := df X G c cf 32
  d_law_draws := df X G c cf 33
  d_law_hand := df X G c cf 34
  d_law_hands := df X G c cf 35
  d_law_word := df X G c cf 36
  d_law_pairing := df X G c cf 37
  d_law_is_int := df X G c cf 38
  d_law_is_ints := df X G c cf 39
  d_law_result := df X G c cf 40
  d_law_least := df X G c cf 41
  d_law_most := df X G c cf 42
  d_law_order := df X G c cf 43
  d_law_value := df X G c cf 44
  d_law_walk := df X G c cf 45
  d_law_levels := df X G c cf 46
  d_law_mates := df X G c cf 47
  d_law_rotation := df X G c cf 48
  d_law_form_good := df X G c cf 49
  d_law_part := df X G c cf 50
  d_law_copy := df X G c cf 51
  d_law_near := df X G c cf 52
  d_law_pairings_near := df X G c cf 53
  d_law_places := df X G c cf 54
  d_law_rows_near := df X G c cf 55
  d_law_words_near := df X G c cf 56
  d_law_height_is := df X G c cf 57
  d_law_span_right := df X G c cf 58
  d_law_row_right := df X G c cf 59
  d_law_value_right := df X G c cf 60
  d_law_look_good := df X G c cf 61
  d_law_looks_good := df X G c cf 62
  d_law_spans_good := df X G c cf 63
  d_law_rows_good := df X G c cf 64
  d_law_values_good := df X G c cf 65
  d_law_refused := df X G c cf 66
  d_law_errors_good := df X G c cf 67
  d_law := df X G c cf 68
theorem dl (X : K.In h) (G : h.Ns mainGlobals mg) (c : SaysE P [] fn K) (cf : He.SaysD fa [] K) : DefOk K mg "law" s_law [] := df X G c cf 68
theorem et (X : K.In h) (G : h.Ns mainGlobals mg) (c : SaysE P [] fn K) (cf : He.SaysD fa [] K) (tp : (P.main.scope.names.lookup ("super" : Str)).isSome = false) : ErrTx P K mg (He.ga K "BadHands") (iA K "BadHands") (He.ga K "BadWord") (iA K "BadWord") (He.ga K "ClimbrowError") := by
  have su : mg "super" = none := fr X G c cf 16
  obtain ⟨b1, b2⟩ := He.ba (He.ba (He.ba c.ex).2).2
  have H := xB_ok X G su tp b1 c.bh
  have W := xB_ok X G su tp b2 c.bw
  refine ⟨H.e, W.e, H.d, W.d, gl X G c cf 17, H.em, W.em, H.v, W.v, H.h, H.w, W.h, W.w, ?_⟩
  refine ⟨_, _, _, _, _, _, _, _, _, _, _, _, ⟨gl X G c cf 20, gl X G c cf 21, gl X G c cf 22, gl X G c cf 23, gl X G c cf 24, gl X G c cf 25, gl X G c cf 26, gl X G c cf 27, gl X G c cf 28, gl X G c cf 29, gl X G c cf 30, gl X G c cf 31⟩, fun D hD => ?_⟩
  rcases hD with rfl | rfl
  · exact ⟨H.o1, H.o2⟩
  · exact ⟨W.o1, W.o2⟩
end
end Y.Hd
end S_HeadZ

section S_Fin
set_option maxHeartbeats 0
namespace Y.Hd
open PySem PySem.Spec PyProof.Rows L2
def spL (K : PySem.W.Frag) : Sp := fun vs H Q E => ∃ ns : List Int, spOne K [.scr ns] (.bl true) vs H Q E
theorem facts {w : World} {K : PySem.W.Frag} {h : Heap} {mg : Str → Option Value} {f : Addr} (X : K.In h) (G : h.Ns mainGlobals mg) (hfa : mg ("law" : Str) = some (.ref f)) (c : SaysE PP [] fn K) (cf : He.SaysD fa [] K) :
    ∃ fd : FuncData, (∀ (s : Shared) (v : Value), BindsTo s fd ⟨[v], []⟩ [("_law_script", v)]) ∧ ∀ base : Heap, K.In base → base.Ns mainGlobals mg → FnOk PP w K mg base CX0 10 f fd ["_law_script"] (spL K) := by
  obtain ⟨f', fd, hm, F⟩ := (dl X G c cf).ex
  have e := hfa.symm.trans hm
  cases e
  have b := FunD.bindsA (ps := ["_law_script"]) F fun _ _ _ _ _ _ us hl => match us, hl with | [_], _ => rfl
  refine ⟨fd, fun s v => b s [v] rfl, fun base _ _ => ⟨fun vs H Q E h => ?_, fun A outer s H args us vs Q E hr e0 hb hv h => ?_⟩⟩
  · obtain ⟨ns, h⟩ := h
    exact (c_lawF (P := PP) (w := w) (base := base) (tx X G c cf) (et X G c cf (by decide +kernel)) F).len vs H Q E h
  · obtain ⟨ns, h⟩ := h
    exact (c_lawF (P := PP) (w := w) (base := base) (tx X G c cf) (et X G c cf (by decide +kernel)) F).run A outer s H args us vs Q E hr e0 hb hv h
end Y.Hd
open PySem PySem.W PySem.Calls PyProof.Rows
theorem PySem.Challenge.cw_climbrow_k55_whole_lookers_of_values_holds : PySem.Challenge.rw_climbrow_k55_whole_lookers_of_values.Holds := by
  w_on; o_law
  refine HandSHeadRun.head_any (r := OpenLaw.row PySem.Challenge.rw_climbrow_k55_whole_lookers_of_values) (q := view (OpenLaw.row PySem.Challenge.rw_climbrow_k55_whole_lookers_of_values).prog [95]) (H := Y.Hd.hk) (ob := Y.Hd.ob) (M := 20000) (loose := Y.Hd.ls) (d := HandSHeadRun.topDef (OpenLaw.row PySem.Challenge.rw_climbrow_k55_whole_lookers_of_values).prog 95) (kwd := []) Y.Hd.ob_eq
    (by kernel_rfl) (fun s => by kernel_rfl) Y.Hd.run (by kernel_rfl) (by kernel_rfl) (by kernel_rfl) (by rfl) (by first | assumption | decide +kernel) (by decide +kernel) ⟨rfl, rfl, rfl, rfl, rfl, by decide +kernel⟩ ?hw ?hc
  case hw => w_witness2
  case hc =>
    refine L2.walk_ofE (l := PySem.Challenge.rw_climbrow_k55_whole_lookers_of_values) (n := 63) (k := 10) (x := "_law_script") (CX := L2.CX0) rfl (by decide) (by kernel_rfl) ⟨rfl, by decide, by decide⟩ ?F (fun _ _ _ _ z => z)
    intro w mg fa h SY G hmg0
    obtain ⟨K, KX, c, cf⟩ := SY
    have hmg : mg ("law" : PySem.Str) = some (.ref fa) := by
      have e : (HandSHeadRun.topDef (OpenLaw.row PySem.Challenge.rw_climbrow_k55_whole_lookers_of_values).prog 95).name = ("law" : PySem.Str) := by kernel_rfl
      rw [← e]
      exact hmg0
    obtain ⟨fd, hb, hF⟩ := Y.Hd.facts (w := w) KX G hmg c cf
    exact ⟨K, fd, Y.Hd.spL K, KX, hb, fun H a ns hl _ hS => ⟨ns, H, fun _ _ e => e, .cons (.scr hS) .nil, fun v HB2 H2 _ hv => by cases hv; rfl⟩, hF⟩
end S_Fin

