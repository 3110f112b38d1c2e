import PyProof.Rows.All
import HandS.ForMost
import HandS.TupAny
import HandS.TupMul
import HandS.Conv
import HandS.Flow
import HandS.Zip
import HandS.Rev
import HandS.Wide
import HandS.Style
import HandS.SortKw
import HandS.IsInst
import HandS.Deep
import KE.SortData
import KE.DataCmp
import HandS.Defaults
import HandS.HeadEnd
import HandS.HeadHook1
import HandS.HeadHook2
import KE.GoesEnum
import KE.GoesNew
import HandS.SortInts
import PySem.Challenge.RW_dockheld_k10_whole_watches_in_turn
import KE.Datum
import KE.DatumOrd
import Wide.All
import OpenK.AllK
import Wide.FinOn
import KE.KStateDown
import HandS.Head0
import HandS.Head1
import HandS.Head2
set_option Elab.async false
set_option linter.all false
set_option maxRecDepth 100000
set_option maxHeartbeats 4000000
set_option autoImplicit false
/-! Pl: a pure layer over HandS. Values are PyData; an expression is read as a function of the slots. -/
namespace Pl
open PySem PySem.Spec PyProof.Rows L2
variable {K : PySem.W.Frag}

abbrev PV := PyData
/-- a slot: not known, a value that never changes, a list (dict) of the def's own -/
inductive Slot where
  | un | val (v : PV) | own (v : PV)
abbrev PEnv := List Slot
abbrev PF := PEnv → Option PV

/-! ### representation -/
mutual
/-- the value v stands for the data d, all of it in F -/
inductive Dr (K : PySem.W.Frag) (F : Hp) : V → PyData → Prop
  | non : Dr K F .non .none
  | bl (b : Bool) : Dr K F (.bl b) (.bool b)
  | int (i : Int) : Dr K F (.int i) (.int i)
  | str (x : Str) : Dr K F (.str x) (.str x)
  | lst {a : Addr} {xs : List V} {ds : List PyData} (h : SqL K F a xs) (g : DrAll K F xs ds) : Dr K F (.ref a) (.list ds)
  | tup {a : Addr} {xs : List V} {ds : List PyData} (h : SqT K F a xs) (g : DrAll K F xs ds) : Dr K F (.ref a) (.tuple ds)
inductive DrAll (K : PySem.W.Frag) (F : Hp) : List V → List PyData → Prop
  | nil : DrAll K F [] []
  | cons {v : V} {vs : List V} {d : PyData} {ds : List PyData} (h : Dr K F v d) (g : DrAll K F vs ds) : DrAll K F (v :: vs) (d :: ds)
end
theorem sqL_same {H H' : Hp} {a : Addr} {xs : List V} (e : Same H H') (h : SqL K H a xs) : SqL K H' a xs := e.seq h
theorem sqT_same {H H' : Hp} {a : Addr} {xs : List V} (e : Same H H') (h : SqT K H a xs) : SqT K H' a xs := by
  rcases h with (h | ⟨o, h⟩) | h
  · exact .inl (.inl (e _ _ h))
  · exact .inl (.inr ⟨o, e _ _ h⟩)
  · exact .inr h
theorem rd_same {H H' : Hp} {a : Addr} {o : HO} (e : Same H H') (h : Rd H a o) : Rd H' a o := by
  rcases h with h | ⟨u, h⟩
  · exact .inl (e _ _ h)
  · exact .inr ⟨u, e _ _ h⟩
mutual
theorem dr_same {F F' : Hp} (e : Same F F') : ∀ (d : PyData) (v : V), Dr K F v d → Dr K F' v d
  | .none, _, h => by cases h; exact .non
  | .bool b, _, h => by cases h; exact .bl b
  | .int i, _, h => by cases h; exact .int i
  | .str x, _, h => by cases h; exact .str x
  | .list ds, _, h => by
    cases h with
    | lst hs ha => exact .lst (sqL_same e hs) (drAll_same e ds _ ha)
  | .tuple ds, _, h => by
    cases h with
    | tup hs ha => exact .tup (sqT_same e hs) (drAll_same e ds _ ha)
  | .dict _, _, h => by cases h
theorem drAll_same {F F' : Hp} (e : Same F F') : ∀ (ds : List PyData) (vs : List V), DrAll K F vs ds → DrAll K F' vs ds
  | [], _, h => by cases h; exact .nil
  | d :: ds, _, h => by
    cases h with
    | cons h1 h2 => exact .cons (dr_same e d _ h1) (drAll_same e ds _ h2)
end
mutual
theorem dr_dp {F : Hp} : ∀ (d : PyData) (v : V), Dr K F v d → Dp K F v d
  | .none, _, h => by cases h; exact .non
  | .bool b, _, h => by cases h; exact .bl b
  | .int i, _, h => by cases h; exact .int i
  | .str x, _, h => by cases h; exact .str x
  | .list ds, _, h => by
    cases h with
    | lst hs ha => exact .lst hs (drAll_dp ds _ ha)
  | .tuple ds, _, h => by
    cases h with
    | tup hs ha => exact .tup hs (drAll_dp ds _ ha)
  | .dict _, _, h => by cases h
theorem drAll_dp {F : Hp} : ∀ (ds : List PyData) (vs : List V), DrAll K F vs ds → DpAll K F vs ds
  | [], _, h => by cases h; exact .nil
  | d :: ds, _, h => by
    cases h with
    | cons h1 h2 => exact .cons (dr_dp d _ h1) (drAll_dp ds _ h2)
end
theorem drAll_length {F : Hp} : ∀ {ds : List PyData} {vs : List V}, DrAll K F vs ds → vs.length = ds.length
  | [], _, h => by cases h; rfl
  | d :: ds, _, h => by
    cases h with
    | cons h1 h2 => rw [List.length_cons, List.length_cons, drAll_length h2]
theorem drAll_append {F : Hp} : ∀ {ds es : List PyData} {vs ws : List V}, DrAll K F vs ds → DrAll K F ws es → DrAll K F (vs ++ ws) (ds ++ es)
  | [], _, _, _, h, g => by cases h; exact g
  | d :: ds, _, _, _, h, g => by
    cases h with
    | cons h1 h2 => exact .cons h1 (drAll_append h2 g)
theorem drAll_get {F : Hp} : ∀ {ds : List PyData} {vs : List V} {i : Nat} {d : PyData}, DrAll K F vs ds → ds[i]? = some d → ∃ v, vs[i]? = some v ∧ Dr K F v d
  | [], _, _, _, h, e => by simp at e
  | d :: ds, _, 0, _, h, e => by
    cases h with
    | cons h1 h2 =>
      simp at e
      subst e
      exact ⟨_, rfl, h1⟩
  | d :: ds, _, i + 1, _, h, e => by
    cases h with
    | cons h1 h2 => simpa using drAll_get h2 (by simpa using e)
theorem drAll_get' {F : Hp} : ∀ {ds : List PyData} {vs : List V} {i : Nat} {v : V}, DrAll K F vs ds → vs[i]? = some v → ∃ d, ds[i]? = some d ∧ Dr K F v d
  | [], _, _, _, h, e => by cases h; simp at e
  | d :: ds, _, 0, _, h, e => by
    cases h with
    | cons h1 h2 =>
      simp at e
      subst e
      exact ⟨_, rfl, h1⟩
  | d :: ds, _, i + 1, _, h, e => by
    cases h with
    | cons h1 h2 => simpa using drAll_get' h2 (by simpa using e)
theorem drAll_drop {F : Hp} : ∀ {ds : List PyData} {vs : List V} (n : Nat), DrAll K F vs ds → DrAll K F (vs.drop n) (ds.drop n)
  | _, _, 0, h => h
  | [], _, n + 1, h => by cases h; exact .nil
  | d :: ds, _, n + 1, h => by
    cases h with
    | cons h1 h2 => exact drAll_drop n h2
theorem drAll_take {F : Hp} : ∀ {ds : List PyData} {vs : List V} (n : Nat), DrAll K F vs ds → DrAll K F (vs.take n) (ds.take n)
  | _, _, 0, h => .nil
  | [], _, n + 1, h => by cases h; exact .nil
  | d :: ds, _, n + 1, h => by
    cases h with
    | cons h1 h2 => exact .cons h1 (drAll_take n h2)
theorem drAll_set {F : Hp} {v : V} {d : PyData} (q : Dr K F v d) : ∀ {ds : List PyData} {vs : List V} (n : Nat), DrAll K F vs ds → DrAll K F (vs.set n v) (ds.set n d)
  | [], _, _, h => by cases h; exact .nil
  | _ :: ds, _, 0, h => by
    cases h with
    | cons h1 h2 => exact .cons q h2
  | _ :: ds, _, n + 1, h => by
    cases h with
    | cons h1 h2 => exact .cons h1 (drAll_set q n h2)
theorem drAll_ints {F : Hp} : ∀ {ns : List Int} {vs : List V}, DrAll K F vs (ns.map PyData.int) → vs = ns.map V.int
  | [], _, h => by cases h; rfl
  | n :: ns, _, h => by
    cases h with
    | cons h1 h2 =>
      cases h1
      rw [List.map_cons, drAll_ints h2]
theorem drAll_of_ints {F : Hp} : ∀ (ns : List Int), DrAll K F (ns.map V.int) (ns.map PyData.int)
  | [] => .nil
  | n :: ns => .cons (.int n) (drAll_of_ints ns)

/-- an object of the def's own at a, its contents in F -/
def OwnR (K : PySem.W.Frag) (F H : Hp) (a : Addr) : PV → Prop
  | .list l => ∃ xs, H a = some (.lst xs) ∧ DrAll K F xs l
  | _ => False
theorem OwnR.same {F F' H H' : Hp} {a : Addr} {v : PV} (h : OwnR K F H a v) (e : Same F F') (q : H' a = H a) : OwnR K F' H' a v := by
  cases v with
  | list l =>
    obtain ⟨xs, h1, h2⟩ := h
    exact ⟨xs, q.trans h1, drAll_same e _ _ h2⟩
  | _ => exact h.elim
theorem OwnR.some {F H : Hp} {a : Addr} {v : PV} (h : OwnR K F H a v) : ∃ o, H a = some o := by
  cases v with
  | list l =>
    obtain ⟨xs, h1, h2⟩ := h
    exact ⟨_, h1⟩
  | _ => exact h.elim
/-- what may be looked at -/
def BoR (K : PySem.W.Frag) (F H : Hp) (x : V) (v : PV) : Prop := Dr K F x v ∨ ∃ a, x = .ref a ∧ OwnR K F H a v

/-- slots and what stands for them. B: the heap at the def's entry, F0: what was known then, F: what is known now and never changes -/
structure RE (K : PySem.W.Frag) (B F0 F H : Hp) (σ : L2.St) (ρ : PEnv) : Prop where
  fh : Same F H
  bh : Same B H
  f0 : Same F0 F
  ff : ∀ a o, F a = some o → F0 a = some o ∨ B a = none
  len : σ.length = ρ.length
  val : ∀ (i : Nat) v, ρ[i]? = some (.val v) → ∃ x, σ[i]? = some (some x) ∧ Dr K F x v
  own : ∀ (i : Nat) v, ρ[i]? = some (.own v) → ∃ a, σ[i]? = some (some (.ref a)) ∧ F a = none ∧ B a = none ∧ OwnR K F H a v
  sep : ∀ (i j : Nat) v w a, ρ[i]? = some (.own v) → ρ[j]? = some (.own w) → σ[i]? = some (some (.ref a)) → σ[j]? = some (some (.ref a)) → i = j
/-- what an expression may do -/
structure Ext (F H F' H' : Hp) : Prop where
  f : Same F F'
  h : Same H H'
  n : ∀ a o, F' a = some o → F a = some o ∨ H a = none
theorem Ext.refl (F H : Hp) : Ext F H F H := ⟨Same.refl F, Same.refl H, fun _ _ h => .inl h⟩
theorem Ext.trans {F H F1 H1 F2 H2 : Hp} (a : Ext F H F1 H1) (b : Ext F1 H1 F2 H2) : Ext F H F2 H2 :=
  ⟨a.f.trans b.f, a.h.trans b.h, fun c o h => by
    rcases b.n c o h with q | q
    · exact a.n c o q
    · exact .inr (a.h.free q)⟩
theorem Ext.keepNone {F H F' H' : Hp} (e : Ext F H F' H') {a : Addr} {o : HO} (h : H a = some o) (f : F a = none) : F' a = none := by
  cases q : F' a with
  | none => rfl
  | some u =>
    rcases e.n a u q with r | r
    · rw [f] at r; cases r
    · rw [h] at r; cases r
theorem RE.ext {B F0 F H F' H' : Hp} {σ : L2.St} {ρ : PEnv} (R : RE K B F0 F H σ ρ) (e : Ext F H F' H') (fh : Same F' H') : RE K B F0 F' H' σ ρ where
  fh := fh
  bh := R.bh.trans e.h
  f0 := R.f0.trans e.f
  ff := fun a o h => by
    rcases e.n a o h with q | q
    · exact R.ff a o q
    · exact .inr (R.bh.free q)
  len := R.len
  val := fun i v h => by
    obtain ⟨x, h1, h2⟩ := R.val i v h
    exact ⟨x, h1, dr_same e.f _ _ h2⟩
  own := fun i v h => by
    obtain ⟨a, h1, h2, h3, h4⟩ := R.own i v h
    obtain ⟨o, ho⟩ := h4.some
    exact ⟨a, h1, e.keepNone ho h2, h3, h4.same e.f (by rw [e.h _ _ ho, ho])⟩
  sep := R.sep
/-- a new object is made and kept apart -/
theorem ext_new {F H : Hp} {p : Addr} {o : HO} (h : H p = none) : Ext F H F (upd H p o) := ⟨Same.refl F, fun b u e => by
  rw [upd_ne (ne_of_none e h)]
  exact e, fun _ _ h => .inl h⟩
theorem same_upd2 {F H : Hp} {p : Addr} {o : HO} (e : Same F H) (h : H p = none) : Same F (upd H p o) := fun b u q => by
  rw [upd_ne (ne_of_none (e _ _ q) h)]
  exact e _ _ q
/-- a new object that never changes -/
theorem ext_frz {F H : Hp} {p : Addr} {o : HO} (fh : Same F H) (h : H p = none) : Ext F H (upd F p o) (upd H p o) := ⟨fun b u e => by
  rw [upd_ne (ne_of_none (fh _ _ e) h)]
  exact e, fun b u e => by
  rw [upd_ne (ne_of_none e h)]
  exact e, fun a u q => by
  by_cases z : a = p
  · subst z
    exact .inr h
  · rw [upd_ne z] at q
    exact .inl q⟩
theorem same_frz {F H : Hp} {p : Addr} {o : HO} (fh : Same F H) (h : H p = none) : Same (upd F p o) (upd H p o) := fun b u e => by
  by_cases z : b = p
  · subst z
    rw [upd_same] at e ⊢
    exact e
  · rw [upd_ne z] at e ⊢
    exact fh _ _ e

/-! ### readings -/
def tP (K : PySem.W.Frag) (f : PF) : TE := fun σ H Q => ∃ B F0 F ρ v, RE K B F0 F H σ ρ ∧ f ρ = some v ∧ ∀ x H' F', RE K B F0 F' H' σ ρ → Ext F H F' H' → Dr K F' x v → Q x H'
def tF (K : PySem.W.Frag) (f : PF) : TE := fun σ H Q => ∃ B F0 F ρ v, RE K B F0 F H σ ρ ∧ f ρ = some v ∧ ∀ a H' F', RE K B F0 F' H' σ ρ → Ext F H F' H' → F' a = none → H a = none → OwnR K F' H' a v → Q (.ref a) H'
def tB (K : PySem.W.Frag) (f : PF) : TE := fun σ H Q => ∃ B F0 F ρ v, RE K B F0 F H σ ρ ∧ f ρ = some v ∧ ∀ x H' F', RE K B F0 F' H' σ ρ → Ext F H F' H' → BoR K F' H' x v → Q x H'
def tA (K : PySem.W.Frag) (f : PEnv → Option (List PV)) : TA := fun σ H Q => ∃ B F0 F ρ v, RE K B F0 F H σ ρ ∧ f ρ = some v ∧ ∀ x H' F', RE K B F0 F' H' σ ρ → Ext F H F' H' → DrAll K F' x v → Q x H'
def tT (K : PySem.W.Frag) (f : PEnv → Option Bool) : TT := fun σ H Q => ∃ B F0 F ρ v, RE K B F0 F H σ ρ ∧ f ρ = some v ∧ ∀ H' F', RE K B F0 F' H' σ ρ → Ext F H F' H' → Q v H'
/-- an expression that gives a value that never changes; one that makes an own object; one that is only looked at -/
abbrev SE (X : Cx) (e : Expr) (f : PF) : Prop := PE X e (tP X.K f)
abbrev SF (X : Cx) (e : Expr) (f : PF) : Prop := PE X e (tF X.K f)
abbrev SB (X : Cx) (e : Expr) (f : PF) : Prop := PE X e (tB X.K f)
abbrev SA (X : Cx) (es : List Expr) (f : PEnv → Option (List PV)) : Prop := PA X es (tA X.K f)
abbrev ST (X : Cx) (e : Expr) (f : PEnv → Option Bool) : Prop := PT X e (tT X.K f)
abbrev SW (X : Cx) (e : Expr) (f : PEnv → Option Bool) : Prop := PW X e (tT X.K f)

theorem PE.imp {X : Cx} {e : Expr} {t t' : TE} (h : PE X e t) (i : ∀ σ H Q, t' σ H Q → t σ H Q) : PE X e t' := ⟨fun pins s σ H Q I q => h.run pins s σ H Q I (i σ H Q q)⟩
theorem PT.imp {X : Cx} {e : Expr} {t t' : TT} (h : PT X e t) (i : ∀ σ H Q, t' σ H Q → t σ H Q) : PT X e t' := ⟨fun pins s σ H Q I q => h.run pins s σ H Q I (i σ H Q q)⟩
theorem PW.imp {X : Cx} {e : Expr} {t t' : TT} (h : PW X e t) (i : ∀ σ H Q, t' σ H Q → t σ H Q) : PW X e t' := ⟨fun wh pins s σ H Q I q => h.run wh pins s σ H Q I (i σ H Q q)⟩
theorem PA.imp {X : Cx} {e : List Expr} {t t' : TA} (h : PA X e t) (i : ∀ σ H Q, t' σ H Q → t σ H Q) : PA X e t' := ⟨fun pos pins s σ H Q I q => h.run pos pins s σ H Q I (i σ H Q q)⟩
theorem PS.imp {X : Cx} {e : Stmt} {t t' : TS} (h : PS X e t) (i : ∀ D σ H, t' D σ H → t D σ H) : PS X e t' := ⟨fun pins s σ H D I q => h.run pins s σ H D I (i D σ H q)⟩
theorem PSs.imp {X : Cx} {e : List Stmt} {t t' : TS} (h : PSs X e t) (i : ∀ D σ H, t' D σ H → t D σ H) : PSs X e t' := ⟨fun pins s σ H D I q => h.run pins s σ H D I (i D σ H q)⟩

/-! ### combinators -/
def eK (v : PV) : PF := fun _ => some v
def eV (i : Nat) : PF := fun ρ => match ρ[i]? with | some (.val v) => some v | _ => none
def eB (i : Nat) : PF := fun ρ => match ρ[i]? with | some (.val v) => some v | some (.own v) => some v | _ => none
def e1 (g : PV → Option PV) (a : PF) : PF := fun ρ => (a ρ).bind g
def e2 (g : PV → PV → Option PV) (a b : PF) : PF := fun ρ => (a ρ).bind fun x => (b ρ).bind fun y => g x y
def aNil : PEnv → Option (List PV) := fun _ => some []
def aCons (a : PF) (r : PEnv → Option (List PV)) : PEnv → Option (List PV) := fun ρ => (a ρ).bind fun x => (r ρ).bind fun l => some (x :: l)
def eCall (g : List PV → Option PV) (a : PEnv → Option (List PV)) : PF := fun ρ => (a ρ).bind g
def eIf (c : PEnv → Option Bool) (a b : PF) : PF := fun ρ => (c ρ).bind fun k => if k = true then a ρ else b ρ
def toB : PV → Option Bool | .bool b => some b | _ => none
def ofB (b : Bool) : PV := .bool b
def cB (a : PF) : PEnv → Option Bool := fun ρ => (a ρ).bind toB
def cAnd (a b : PEnv → Option Bool) : PEnv → Option Bool := fun ρ => (a ρ).bind fun k => if k = true then b ρ else some false
def cOr (a b : PEnv → Option Bool) : PEnv → Option Bool := fun ρ => (a ρ).bind fun k => if k = true then some true else b ρ
def cNot (a : PEnv → Option Bool) : PEnv → Option Bool := fun ρ => (a ρ).bind fun k => some (!k)
/-- and, or as values, where the first is a bool -/
def eAnd (a b : PF) : PF := fun ρ => (a ρ).bind fun x => (toB x).bind fun k => if k = true then b ρ else some (.bool false)
def eOr (a b : PF) : PF := fun ρ => (a ρ).bind fun x => (toB x).bind fun k => if k = true then some (.bool true) else b ρ
def eNot (a : PF) : PF := fun ρ => (a ρ).bind fun x => (toB x).bind fun k => some (.bool (!k))

section
variable {X : Cx} {a b c : Expr} {f g : PF} {pos : Pos}
theorem bind_some {α β : Type} {o : Option α} {k : α → Option β} {y : β} (h : o.bind k = some y) : ∃ x, o = some x ∧ k x = some y := by
  cases o with
  | none => cases h
  | some x => exact ⟨x, rfl, h⟩

/-! ### from one kind to another -/
theorem sb_of (h : SE X a f) : SB X a f := PE.imp h fun σ H Q ⟨B, F0, F, ρ, v, R, e, q⟩ => ⟨B, F0, F, ρ, v, R, e, fun x H' F' R' E' d => q x H' F' R' E' (.inl d)⟩
theorem sb_ofF (h : SF X a f) : SB X a f := PE.imp h fun σ H Q ⟨B, F0, F, ρ, v, R, e, q⟩ => ⟨B, F0, F, ρ, v, R, e, fun x H' F' R' E' _ _ d => q _ H' F' R' E' (.inr ⟨x, rfl, d⟩)⟩
theorem RE.freeze {B F0 F H : Hp} {σ : L2.St} {ρ : PEnv} {p : Addr} {o : HO} (R : RE K B F0 F H σ ρ) (hp : H p = some o) (fp : F p = none) (bp : B p = none)
    (no : ∀ (i : Nat) v, ρ[i]? = some (.own v) → σ[i]? ≠ some (some (.ref p))) : RE K B F0 (upd F p o) H σ ρ := by
  have ef : Same F (upd F p o) := fun b u e => by
    rw [upd_ne (ne_of_none e fp)]
    exact e
  refine ⟨fun b u e => ?_, R.bh, R.f0.trans ef, fun b u e => ?_, R.len, fun i v h => ?_, fun i v h => ?_, R.sep⟩
  · by_cases z : b = p
    · subst z
      rw [upd_same] at e
      rw [hp]
      exact e
    · rw [upd_ne z] at e
      exact R.fh _ _ e
  · by_cases z : b = p
    · subst z
      exact .inr bp
    · rw [upd_ne z] at e
      exact R.ff _ _ e
  · obtain ⟨x, h1, h2⟩ := R.val i v h
    exact ⟨x, h1, dr_same ef _ _ h2⟩
  · obtain ⟨a, h1, h2, h3, h4⟩ := R.own i v h
    have z : a ≠ p := fun z => no i v h (z ▸ h1)
    exact ⟨a, h1, by rw [upd_ne z]; exact h2, h3, h4.same ef rfl⟩
/-- an own object given up: from now on it never changes -/
theorem own_dp {F H : Hp} {a : Addr} {v : PV} (h : OwnR K F H a v) (fa : F a = none) : ∃ o, H a = some o ∧ Dr K (upd F a o) (.ref a) v := by
  cases v with
  | list l =>
    obtain ⟨xs, h1, h2⟩ := h
    refine ⟨_, h1, .lst (.inl (.inl upd_same)) (drAll_same (fun b u e => ?_) _ _ h2)⟩
    rw [upd_ne (ne_of_none e fa)]
    exact e
  | _ => exact h.elim
theorem tF_of_tP {σ : L2.St} {H : Hp} {Q : VK} (w : tP K f σ H Q) : tF K f σ H Q := by
  obtain ⟨B, F0, F, ρ, v, R, e, q⟩ := w
  exact ⟨B, F0, F, ρ, v, R, e, fun p H' F' R' E' fp hp d => by
  obtain ⟨o, ho, hd⟩ := own_dp d fp
  have bp : B p = none := R.bh.free hp
  have no : ∀ (i : Nat) v, ρ[i]? = some (.own v) → σ[i]? ≠ some (some (.ref p)) := fun i v hi z => by
    obtain ⟨a, h1, h2, h3, h4⟩ := R.own i v hi
    obtain ⟨u, hu⟩ := h4.some
    rw [z] at h1
    cases h1
    rw [hp] at hu
    cases hu
  refine q _ H' (upd F' p o) (R'.freeze ho fp bp no) ⟨fun b u z => ?_, E'.h, fun b u z => ?_⟩ hd
  · have z' := E'.f _ _ z
    rw [upd_ne (ne_of_none z' fp)]
    exact z'
  · by_cases y : b = p
    · subst y
      exact .inr hp
    · rw [upd_ne y] at z
      exact E'.n _ _ z⟩
theorem se_ofF (h : SF X a f) : SE X a f := PE.imp h fun _ _ _ w => tF_of_tP w

/-! ### names, constants -/
theorem se_const {v : PV} {x : V} (h : PE X a (tC x)) (d : ∀ F, Dr X.K F x v) : SE X a (eK v) := PE.imp h fun σ H Q ⟨B, F0, F, ρ, w, R, e, q⟩ => by
  cases e
  exact q x H F R (Ext.refl _ _) (d _)
theorem se_int {i j} : SE X (.Constant (.int i) j pos) (eK (.int i)) := se_const pe_int fun _ => .int i
theorem se_bl {i j} : SE X (.Constant (.bool i) j pos) (eK (.bool i)) := se_const pe_bl fun _ => .bl i
theorem se_non {j} : SE X (.Constant .none j pos) (eK .none) := se_const pe_non fun _ => .non
theorem se_str {i j} : SE X (.Constant (.str i) j pos) (eK (.str i)) := se_const pe_str fun _ => .str i
theorem se_var (i : Nat) (h : PE X a (tVar i)) : SE X a (eV i) := PE.imp h fun σ H Q ⟨B, F0, F, ρ, w, R, e, q⟩ => by
  unfold eV at e
  split at e
  · rename_i v hv
    cases e
    obtain ⟨x, h1, h2⟩ := R.val i _ hv
    exact ⟨x, h1, q x H F R (Ext.refl _ _) h2⟩
  · cases e
theorem sb_var (i : Nat) (h : PE X a (tVar i)) : SB X a (eB i) := PE.imp h fun σ H Q ⟨B, F0, F, ρ, w, R, e, q⟩ => by
  unfold eB at e
  split at e
  · rename_i v hv
    cases e
    obtain ⟨x, h1, h2⟩ := R.val i _ hv
    exact ⟨x, h1, q x H F R (Ext.refl _ _) (.inl h2)⟩
  · rename_i v hv
    cases e
    obtain ⟨p, h1, h2, h3, h4⟩ := R.own i _ hv
    exact ⟨_, h1, q _ H F R (Ext.refl _ _) (.inr ⟨p, rfl, h4⟩)⟩
  · cases e

/-! ### two places -/
/-- an operation on two looked-at values that gives a value without a heap -/
theorem BoR.ext {F H F' H' : Hp} {x : V} {v : PV} (h : BoR K F H x v) (e : Ext F H F' H') : BoR K F' H' x v := by
  rcases h with h | ⟨a, rfl, h⟩
  · exact .inl (dr_same e.f _ _ h)
  · obtain ⟨o, ho⟩ := h.some
    exact .inr ⟨a, rfl, h.same e.f (by rw [e.h _ _ ho, ho])⟩
/-- an operation by values: what its rule wants is had from what the values stand for -/
def Op2 (K : PySem.W.Frag) (r : R2) (g : PV → PV → Option PV) : Prop := ∀ (F H : Hp) (x y : V) (v w z : PV) (Q : VK), Same F H → BoR K F H x v → BoR K F H y w → g v w = some z →
  (∀ u H' F', Ext F H F' H' → Same F' H' → Dr K F' u z → Q u H') → r x y H Q
def Op2F (K : PySem.W.Frag) (r : R2) (g : PV → PV → Option PV) : Prop := ∀ (F H : Hp) (x y : V) (v w z : PV) (Q : VK), Same F H → BoR K F H x v → BoR K F H y w → g v w = some z →
  (∀ p H' F', Ext F H F' H' → Same F' H' → F' p = none → H p = none → OwnR K F' H' p z → Q (.ref p) H') → r x y H Q
theorem se_op2 {r : R2} {h : PV → PV → Option PV} (o : Op2 X.K r h) (ha : SB X a f) (hb : SB X b g) {e : Expr} (he : ∀ {ta tb}, PE X a ta → PE X b tb → PE X e (tOp r ta tb)) : SE X e (e2 h f g) :=
  PE.imp (he ha hb) fun σ H Q ⟨B, F0, F, ρ, z, R, e, q⟩ => by
    obtain ⟨v, e1, e⟩ := bind_some e
    obtain ⟨w, e2, e⟩ := bind_some e
    refine ⟨B, F0, F, ρ, v, R, e1, fun x H1 F1 R1 E1 d1 => ⟨B, F0, F1, ρ, w, R1, e2, fun y H2 F2 R2 E2 d2 => ?_⟩⟩
    exact o F2 H2 x y v w z Q R2.fh (d1.ext E2) d2 e fun u H3 F3 E3 s3 d3 => q u H3 F3 (R2.ext E3 s3) ((E1.trans E2).trans E3) d3
theorem sf_op2 {r : R2} {h : PV → PV → Option PV} (o : Op2F X.K r h) (ha : SB X a f) (hb : SB X b g) {e : Expr} (he : ∀ {ta tb}, PE X a ta → PE X b tb → PE X e (tOp r ta tb)) : SF X e (e2 h f g) :=
  PE.imp (he ha hb) fun σ H Q ⟨B, F0, F, ρ, z, R, e, q⟩ => by
    obtain ⟨v, e1, e⟩ := bind_some e
    obtain ⟨w, e2, e⟩ := bind_some e
    refine ⟨B, F0, F, ρ, v, R, e1, fun x H1 F1 R1 E1 d1 => ⟨B, F0, F1, ρ, w, R1, e2, fun y H2 F2 R2 E2 d2 => ?_⟩⟩
    exact o F2 H2 x y v w z Q R2.fh (d1.ext E2) d2 e fun p H3 F3 E3 s3 fp hp d3 => q p H3 F3 (R2.ext E3 s3) ((E1.trans E2).trans E3) fp ((E1.trans E2).h.free hp) d3
theorem bor_int {F H : Hp} {x : V} {i : Int} (h : BoR K F H x (.int i)) : x = .int i := by
  rcases h with h | ⟨a, rfl, h⟩
  · cases h; rfl
  · exact h.elim
theorem bor_bool {F H : Hp} {x : V} {i : Bool} (h : BoR K F H x (.bool i)) : x = .bl i := by
  rcases h with h | ⟨a, rfl, h⟩
  · cases h; rfl
  · exact h.elim
theorem bor_str {F H : Hp} {x : V} {i : Str} (h : BoR K F H x (.str i)) : x = .str i := by
  rcases h with h | ⟨a, rfl, h⟩
  · cases h; rfl
  · exact h.elim
theorem bor_none {F H : Hp} {x : V} (h : BoR K F H x .none) : x = .non := by
  rcases h with h | ⟨a, rfl, h⟩
  · cases h; rfl
  · exact h.elim
theorem bor_tup {F H : Hp} {x : V} {l : List PV} (fh : Same F H) (h : BoR K F H x (.tuple l)) : ∃ a xs, x = .ref a ∧ SqT K F a xs ∧ SqT K H a xs ∧ DrAll K F xs l := by
  rcases h with h | ⟨a, rfl, h⟩
  · cases h with
    | tup hs ha => exact ⟨_, _, rfl, hs, sqT_same fh hs, ha⟩
  · exact h.elim
theorem bor_lst {F H : Hp} {x : V} {l : List PV} (fh : Same F H) (h : BoR K F H x (.list l)) : ∃ a xs, x = .ref a ∧ SqL K H a xs ∧ DrAll K F xs l := by
  rcases h with h | ⟨a, rfl, h⟩
  · cases h with
    | lst hs ha => exact ⟨_, _, rfl, sqL_same fh hs, ha⟩
  · obtain ⟨xs, h1, h2⟩ := h
    exact ⟨a, xs, rfl, .inl (.inl h1), h2⟩
/-- what is looked at, as data of the whole heap -/
theorem bor_dp {F H : Hp} {x : V} {v : PV} (fh : Same F H) (h : BoR K F H x v) : Dp K H x v := by
  rcases h with h | ⟨a, rfl, h⟩
  · exact dr_dp _ _ (dr_same fh _ _ h)
  · cases v with
    | list l =>
      obtain ⟨xs, h1, h2⟩ := h
      exact .lst (.inl (.inl h1)) (drAll_dp _ _ (drAll_same fh _ _ h2))
    | _ => exact h.elim
end
end Pl

set_option Elab.async false
set_option linter.all false
set_option maxRecDepth 100000
set_option maxHeartbeats 4000000
set_option autoImplicit false
namespace Pl
open PySem PySem.Spec PyProof.Rows L2
open PySem.W (alike dataLt lt_data le_data gt_data ge_data)
variable {K : PySem.W.Frag}

/-! ### operations on data -/
def mulOk (i j : Int) : Bool := decide (i.natAbs < 2 ^ 63) || decide (j.natAbs < 2 ^ 63)
def divOk (j : Int) : Bool := decide (j.natAbs.log2 < 9000)
def lineOk (n : Nat) : Bool := decide (n ≤ sizeLine)
def pAdd : PV → PV → Option PV
  | .int i, .int j => some (.int (i + j))
  | .tuple a, .tuple b => if lineOk (a.length + b.length) = true then some (.tuple (a ++ b)) else none
  | _, _ => none
def pCat : PV → PV → Option PV
  | .list a, .list b => if lineOk (a.length + b.length) = true then some (.list (a ++ b)) else none
  | _, _ => none
def pSub : PV → PV → Option PV
  | .int i, .int j => some (.int (i - j))
  | _, _ => none
def pMul : PV → PV → Option PV
  | .int i, .int j => if mulOk i j = true then some (.int (i * j)) else none
  | _, _ => none
def pDiv : PV → PV → Option PV
  | .int i, .int j => if 0 < j then (if divOk j = true then some (.int (i / j)) else none) else if j < 0 ∧ -1073741824 < j then some (.int (i.fdiv j)) else none
  | _, _ => none
def pMod : PV → PV → Option PV
  | .int i, .int j => if 0 < j then some (.int (i % j)) else if j < 0 then some (.int (i.fmod j)) else none
  | _, _ => none
def pPow : PV → PV → Option PV
  | .int i, .int j => if 0 ≤ j ∧ j ≤ 1000000 ∧ i.natAbs < 2 ^ 64 then some (.int (i ^ j.toNat)) else none
  | _, _ => none
def pNeg : PV → Option PV
  | .int i => some (.int (-i))
  | _ => none
def pEq (v w : PV) : Option PV := match v, w with
  | .int i, .int j => some (.bool (decide (i = j)))
  | v, w => if SeqAt.shaped v = true ∧ SeqAt.shaped w = true then some (.bool (PyData.eqv v w)) else none
def pNe (v w : PV) : Option PV := match v, w with
  | .int i, .int j => some (.bool (!decide (i = j)))
  | v, w => if SeqAt.shaped v = true ∧ SeqAt.shaped w = true then some (.bool (!PyData.eqv v w)) else none
def notNone : PV → Bool
  | .none => false
  | _ => true
def ordOk (v w : PV) : Bool := alike v w && (notNone v && (notNone w && (decide (v.depth ≤ 64))))
def pLt (v w : PV) : Option PV := match v, w with
  | .int i, .int j => some (.bool (decide (i < j)))
  | v, w => if ordOk v w = true then some (.bool (dataLt v w)) else none
def pLe (v w : PV) : Option PV := match v, w with
  | .int i, .int j => some (.bool (decide (i ≤ j)))
  | v, w => if ordOk v w = true then some (.bool (!dataLt w v)) else none
def pGt (v w : PV) : Option PV := match v, w with
  | .int i, .int j => some (.bool (decide (j < i)))
  | v, w => if ordOk v w = true then some (.bool (dataLt w v)) else none
def pGe (v w : PV) : Option PV := match v, w with
  | .int i, .int j => some (.bool (decide (j ≤ i)))
  | v, w => if ordOk v w = true then some (.bool (!dataLt v w)) else none
def isNone : PV → Bool
  | .none => true
  | _ => false
def pIsN (v : PV) : Option PV := some (.bool (isNone v))
def pNotN (v : PV) : Option PV := some (.bool (!isNone v))
def inL (v : PV) (l : List PV) : Bool := l.any fun z => PyData.eqv z v
def pIn (v w : PV) : Option PV := match w with
  | .list l => if SeqAt.shaped v = true ∧ SeqAt.shaped (.list l) = true then some (.bool (inL v l)) else none
  | .tuple l => if SeqAt.shaped v = true ∧ SeqAt.shaped (.tuple l) = true then some (.bool (inL v l)) else none
  | _ => none
def pNotIn (v w : PV) : Option PV := match w with
  | .list l => if SeqAt.shaped v = true ∧ SeqAt.shaped (.list l) = true then some (.bool (!inL v l)) else none
  | .tuple l => if SeqAt.shaped v = true ∧ SeqAt.shaped (.tuple l) = true then some (.bool (!inL v l)) else none
  | _ => none
def pTru : PV → Option Bool
  | .none => some false
  | .bool b => some b
  | .int i => some (i != 0)
  | .list l => some (!l.isEmpty)
  | .tuple l => some (!l.isEmpty)
  | _ => none
def cTru (a : PF) : PEnv → Option Bool := fun ρ => (a ρ).bind pTru
def pIx : PV → PV → Option PV
  | .list l, .int i => atI l i
  | .tuple l, .int i => atI l i
  | _, _ => none
def pLen : PV → Option PV
  | .list l => some (.int l.length)
  | .tuple l => some (.int l.length)
  | _ => none
def cutD (l : List PV) (lo hi : Option Int) : List PV := (l.drop (HT.sIx l.length 0 lo)).take (HT.sIx l.length l.length hi - HT.sIx l.length 0 lo)
def pSlT (v : PV) (lo hi : Option Int) : Option PV := match v with
  | .tuple l => some (.tuple (cutD l lo hi))
  | _ => none
def pSlL (v : PV) (lo hi : Option Int) : Option PV := match v with
  | .list l => some (.list (cutD l lo hi))
  | _ => none
def toI : PV → Option Int
  | .int i => some i
  | _ => none

section
variable {X : Cx} {a b c : Expr} {f g : PF} {pos : Pos}
theorem fin0 {F H : Hp} {z : PV} {x : V} {Q : VK} (fh : Same F H) (d : Dr K F x z) (q : ∀ u H' F', Ext F H F' H' → Same F' H' → Dr K F' u z → Q u H') : Q x H := q x H F (Ext.refl _ _) fh d
theorem finNew {F H : Hp} {z : PV} {Q : VK} {xs : List V} {l : List PV} (fh : Same F H) (d : DrAll K F xs l) (q : ∀ u H' F', Ext F H F' H' → Same F' H' → Dr K F' u (.tuple l) → Q u H') : ∀ p, H p = none → Q (.ref p) (upd H p (.tup xs)) := fun p hp => by
  have E := ext_frz (o := HO.tup xs) fh hp
  exact q _ _ _ E (same_frz fh hp) (.tup (.inl (.inl upd_same)) (drAll_same E.f _ _ d))
theorem finOwn {F H : Hp} {Q : VK} {xs : List V} {l : List PV} (fh : Same F H) (d : DrAll K F xs l) (q : ∀ p H' F', Ext F H F' H' → Same F' H' → F' p = none → H p = none → OwnR K F' H' p (.list l) → Q (.ref p) H') : ∀ p, H p = none → Q (.ref p) (upd H p (.lst xs)) := fun p hp => by
  have fp : F p = none := fh.free hp
  exact q _ _ F (ext_new hp) (same_upd2 fh hp) fp hp ⟨xs, upd_same, d⟩

theorem Op2.ii {g : PV → PV → Option PV} {r : R2} (h : ∀ (F H : Hp) (v w z : PV) (Q : VK), g v w = some z → (∀ i j, v = .int i → w = .int j → (∀ x, Dr K F x z → Q x H) → r (.int i) (.int j) H Q)) (hg : ∀ v w z, g v w = some z → ∃ i j, v = .int i ∧ w = .int j) : Op2 K r g := fun F H x y v w z Q fh dx dy e q => by
  obtain ⟨i, j, rfl, rfl⟩ := hg v w z e
  obtain rfl := bor_int dx
  obtain rfl := bor_int dy
  exact h F H _ _ z Q e i j rfl rfl fun x d => fin0 fh d q

def rAddX : R2 := fun x y H Q => rI0 (fun i j => .int (i + j)) x y H Q
theorem op2_add : Op2 K (fun x y H Q => rI0 (fun i j => .int (i + j)) x y H Q ∨ rCatA K x y H Q) pAdd := fun F H x y v w z Q fh dx dy e q => by
  unfold pAdd at e
  split at e
  · cases e
    obtain rfl := bor_int dx
    obtain rfl := bor_int dy
    exact .inl ⟨_, _, rfl, rfl, fin0 fh (.int _) q⟩
  · rename_i l m
    split at e
    · rename_i hz
      cases e
      obtain ⟨p, xs, rfl, f1, h1, d1⟩ := bor_tup fh dx
      obtain ⟨p2, ys, rfl, f2, h2, d2⟩ := bor_tup fh dy
      have l1 := drAll_length d1
      have l2 := drAll_length d2
      have hz' : l.length + m.length ≤ sizeLine := of_decide_eq_true hz
      refine .inr ⟨p, p2, xs, ys, rfl, rfl, h1, h2, by omega, fun e0 => ?_, fun _ e0 => ?_, fun _ _ => ?_⟩
      · subst e0
        cases d1
        exact fin0 fh (.tup f2 d2) q
      · subst e0
        cases d2
        rw [List.append_nil] at q
        exact fin0 fh (.tup f1 d1) q
      · exact finNew (z := .none) fh (drAll_append d1 d2) q
    · cases e
  · cases e
theorem se_add (ha : SB X a f) (hb : SB X b g) : SE X (.BinOp a .Add b pos) (e2 pAdd f g) := se_op2 op2_add ha hb fun h1 h2 => pe_op (OpR.or op_add op_catA) h1 h2
theorem se_sub (ha : SB X a f) (hb : SB X b g) : SE X (.BinOp a .Sub b pos) (e2 pSub f g) :=
  se_op2 (.ii (fun F H v w z Q e i j hv hw q => by subst hv hw; cases e; exact ⟨i, j, rfl, rfl, q _ (.int _)⟩) fun v w z e => by unfold pSub at e; split at e; exact ⟨_, _, rfl, rfl⟩; cases e) ha hb fun h1 h2 => pe_op op_sub h1 h2
theorem mulOk_c {i j : Int} (h : mulOk i j = true) : CMul i j := by
  unfold mulOk at h
  rcases Bool.or_eq_true_iff.mp h with h | h
  · have := of_decide_eq_true h
    exact .inl ⟨by omega, by omega⟩
  · have := of_decide_eq_true h
    exact .inr ⟨by omega, by omega⟩
theorem se_mul (ha : SB X a f) (hb : SB X b g) : SE X (.BinOp a .Mult b pos) (e2 pMul f g) :=
  se_op2 (.ii (fun F H v w z Q e i j hv hw q => by
      subst hv hw
      unfold pMul at e
      dsimp only at e
      split at e
      · rename_i hc
        cases e
        exact ⟨i, j, rfl, rfl, mulOk_c hc, q _ (.int _)⟩
      · cases e) fun v w z e => by unfold pMul at e; split at e; exact ⟨_, _, rfl, rfl⟩; cases e) ha hb fun h1 h2 => pe_op op_mul h1 h2
theorem se_div (ha : SB X a f) (hb : SB X b g) : SE X (.BinOp a .FloorDiv b pos) (e2 pDiv f g) :=
  se_op2 (r := fun x y H Q => rI CDivW (fun i j => .int (i / j)) x y H Q ∨ rI CDivN (fun i j => .int (i.fdiv j)) x y H Q) (.ii (fun F H v w z Q e i j hv hw q => by
      subst hv hw
      unfold pDiv at e
      dsimp only at e
      split at e
      · rename_i h0
        split at e
        · rename_i hc
          cases e
          exact .inl ⟨i, j, rfl, rfl, ⟨h0, of_decide_eq_true hc⟩, q _ (.int _)⟩
        · cases e
      · split at e
        · rename_i hc
          cases e
          exact .inr ⟨i, j, rfl, rfl, ⟨by omega, by omega⟩, q _ (.int _)⟩
        · cases e) fun v w z e => by unfold pDiv at e; split at e; exact ⟨_, _, rfl, rfl⟩; cases e) ha hb fun h1 h2 => pe_op (OpR.or op_fdivW op_fdivN) h1 h2
theorem se_mod (ha : SB X a f) (hb : SB X b g) : SE X (.BinOp a .Mod b pos) (e2 pMod f g) :=
  se_op2 (r := fun x y H Q => rI (fun _ j => 0 < j) (fun i j => .int (i % j)) x y H Q ∨ rI (fun _ j => j ≠ 0) (fun i j => .int (i.fmod j)) x y H Q) (.ii (fun F H v w z Q e i j hv hw q => by
      subst hv hw
      unfold pMod at e
      dsimp only at e
      split at e
      · rename_i h0
        cases e
        exact .inl ⟨i, j, rfl, rfl, h0, q _ (.int _)⟩
      · split at e
        · rename_i hc
          cases e
          exact .inr ⟨i, j, rfl, rfl, (by omega : j ≠ 0), q _ (.int _)⟩
        · cases e) fun v w z e => by unfold pMod at e; split at e; exact ⟨_, _, rfl, rfl⟩; cases e) ha hb fun h1 h2 => pe_op (OpR.or op_mod op_modN) h1 h2
theorem se_pow (ha : SB X a f) (hb : SB X b g) : SE X (.BinOp a .Pow b pos) (e2 pPow f g) :=
  se_op2 (.ii (fun F H v w z Q e i j hv hw q => by
      subst hv hw
      unfold pPow at e
      dsimp only at e
      split at e
      · rename_i hc
        cases e
        exact ⟨i, j, rfl, rfl, hc, q _ (.int _)⟩
      · cases e) fun v w z e => by unfold pPow at e; split at e; exact ⟨_, _, rfl, rfl⟩; cases e) ha hb fun h1 h2 => pe_op op_pow h1 h2
theorem se_neg (ha : SB X a f) : SE X (.UnaryOp .USub a pos) (e1 pNeg f) := PE.imp (pe_un un_neg ha) fun σ H Q ⟨B, F0, F, ρ, z, R, e, q⟩ => by
  obtain ⟨v, e1, e⟩ := bind_some e
  refine ⟨B, F0, F, ρ, v, R, e1, fun x H1 F1 R1 E1 d1 => ?_⟩
  unfold pNeg at e
  split at e
  · cases e
    obtain rfl := bor_int d1
    exact ⟨_, rfl, q _ _ _ R1 E1 (.int _)⟩
  · cases e

/-! list + list -/
def rCatR (K : PySem.W.Frag) : R2 := fun x y H Q => ∃ a1 a2 us ws, x = .ref a1 ∧ y = .ref a2 ∧ SqL K H a1 us ∧ SqL K H a2 ws ∧ us.length + ws.length ≤ sizeLine ∧ ∀ p, H p = none → Q (.ref p) (upd H p (.lst (us ++ ws)))
theorem op_catR : OpR X (binaryOp .Add) (rCatR X.K) := by
  intro pins s σ H x y v u Q I rx ry ⟨a1, a2, us, ws, e1, e2, r1, r2, hz, q⟩
  subst e1 e2
  cases rx
  cases ry
  obtain ⟨i1, v1, ⟨⟨c1, d1, t1, l1⟩, n1, g1, hc1, hd1, ht1⟩, z1⟩ := I.list r1
  obtain ⟨i2, v2, ⟨⟨c2, d2, t2, l2⟩, n2, g2, hc2, hd2, ht2⟩, z2⟩ := I.list r2
  have k1 := v1.length
  have k2 := v2.length
  dsimp only at hc1 hd1 ht1 hc2 hd2 ht2
  subst hc1 hd1 ht1 hc2 hd2 ht2
  have J := I.lnew (ys := us ++ ws) (its := i1 ++ i2) (t' := s.toks) (v1.append v2) (by rw [List.length_append]; exact hz)
  have w := list_addW a1 a2 i1.toArray i2.toArray n1 n2 none none l1 l2 (by simp only [List.size_toArray]; omega)
  refine concat_meets ⟨_, g1, rfl⟩ ⟨_, g2, rfl⟩ noFill_list_add seq_list_add PySem.F.slot_list_add PySem.F.entry_list_add (PySem.F.args_list_add_2 _ _) w ⟨g1, g2, ?_⟩
  rw [show i1.toArray ++ i2.toArray = (i1 ++ i2).toArray by simp]
  exact ⟨.ref _, _, J, rfl, q _ I.fresh⟩
theorem op2_cat : Op2F K (rCatR K) pCat := fun F H x y v w z Q fh dx dy e q => by
  unfold pCat at e
  split at e
  · rename_i l m
    split at e
    · rename_i hz
      cases e
      obtain ⟨p, xs, rfl, h1, d1⟩ := bor_lst fh dx
      obtain ⟨p2, ys, rfl, h2, d2⟩ := bor_lst fh dy
      have l1 := drAll_length d1
      have l2 := drAll_length d2
      have hz' : l.length + m.length ≤ sizeLine := of_decide_eq_true hz
      exact ⟨p, p2, xs, ys, rfl, rfl, h1, h2, by omega, finOwn fh (drAll_append d1 d2) q⟩
    · cases e
  · cases e
theorem sf_cat (ha : SB X a f) (hb : SB X b g) : SF X (.BinOp a .Add b pos) (e2 pCat f g) := sf_op2 op2_cat ha hb fun h1 h2 => pe_op op_catR h1 h2

/-! ### comparisons -/
def rEqX (K : PySem.W.Frag) : R2 := fun x y H Q => rI0 (fun i j => .bl (decide (i = j))) x y H Q ∨ rEqD K x y H Q
def rNeX (K : PySem.W.Frag) : R2 := fun x y H Q => rI0 (fun i j => .bl (!decide (i = j))) x y H Q ∨ rNeD K x y H Q
theorem op_eqI : OpR X (compareOp .Eq) (rI0 fun i j => .bl (decide (i = j))) := opB0 fun i j _ _ _ _ _ q => eq_int (by rw [Bool.beq_eq_decide_eq]; exact q)
theorem op_neI : OpR X (compareOp .NotEq) (rI0 fun i j => .bl (!decide (i = j))) := opB0 fun i j _ _ _ _ _ q => ne_int (by rw [bne, Bool.beq_eq_decide_eq]; exact q)
theorem op2_eq : Op2 K (rEqX K) pEq := fun F H x y v w z Q fh dx dy e q => by
  unfold pEq at e
  split at e
  · cases e
    obtain rfl := bor_int dx
    obtain rfl := bor_int dy
    exact .inl ⟨_, _, rfl, rfl, fin0 fh (.bl _) q⟩
  · split at e
    · rename_i hs
      cases e
      exact .inr ⟨v, w, bor_dp fh dx, bor_dp fh dy, hs.1, hs.2, fin0 fh (.bl _) q⟩
    · cases e
theorem op2_ne : Op2 K (rNeX K) pNe := fun F H x y v w z Q fh dx dy e q => by
  unfold pNe at e
  split at e
  · cases e
    obtain rfl := bor_int dx
    obtain rfl := bor_int dy
    exact .inl ⟨_, _, rfl, rfl, fin0 fh (.bl _) q⟩
  · split at e
    · rename_i hs
      cases e
      exact .inr ⟨v, w, bor_dp fh dx, bor_dp fh dy, hs.1, hs.2, fin0 fh (.bl _) q⟩
    · cases e
/-- order of data -/
def rOrd (K : PySem.W.Frag) (k : PV → PV → Bool) : R2 := fun x y H Q => ∃ d e, Dp K H x d ∧ Dp K H y e ∧ ordOk d e = true ∧ Q (.bl (k d e)) H
theorem ordOk_iff {v w : PV} (h : ordOk v w = true) : alike v w = true ∧ v ≠ .none ∧ w ≠ .none ∧ v.depth ≤ 64 := by
  unfold ordOk at h
  simp only [Bool.and_eq_true, decide_eq_true_eq] at h
  refine ⟨h.1, ?_, ?_, h.2.2.2⟩
  · rintro rfl
    exact Bool.noConfusion h.2.1
  · rintro rfl
    exact Bool.noConfusion h.2.2.1
theorem op_ord {op : CmpOp} {k : PV → PV → Bool} (hu : X.A.units + 64 < cLine)
    (rule : ∀ {s : Shared} {va vb : Value} {da db : PyData} {as bs : List Addr} {Q : Value → Shared → Prop}, Reads s.heap va da as → Reads s.heap vb db bs → alike da db = true → da ≠ .none → X.A.units + min da.depth db.depth < cLine → Q (.bool (k da db)) s →
      wpAny (model X.prog X.w) X.A (compareOp op va vb) Q X.xe s) : OpR X (compareOp op) (rOrd X.K k) := by
  intro pins s σ H x y v u Q I rx ry ⟨d, e, hd, he, ok, q⟩
  obtain ⟨o1, o2, o3, o4⟩ := ordOk_iff ok
  obtain ⟨as, r1⟩ := Dp.reads I d x v hd rx
  obtain ⟨bs, r2⟩ := Dp.reads I e y u he ry
  refine rule r1 r2 o1 o2 ?_ ⟨.bl _, H, I, rfl, q⟩
  have := Nat.min_le_left d.depth e.depth
  omega
theorem op2_ord {p : Int → Int → Bool} {k : PV → PV → Bool} {g : PV → PV → Option PV} (hg : ∀ v w z, g v w = some z → (∃ i j, v = .int i ∧ w = .int j ∧ z = .bool (p i j)) ∨ (ordOk v w = true ∧ z = .bool (k v w))) :
    Op2 K (fun x y H Q => rI0 (fun i j => .bl (p i j)) x y H Q ∨ rOrd K k x y H Q) g := fun F H x y v w z Q fh dx dy e q => by
  rcases hg v w z e with ⟨i, j, rfl, rfl, rfl⟩ | ⟨ok, rfl⟩
  · obtain rfl := bor_int dx
    obtain rfl := bor_int dy
    exact .inl ⟨_, _, rfl, rfl, fin0 fh (.bl _) q⟩
  · exact .inr ⟨v, w, bor_dp fh dx, bor_dp fh dy, ok, fin0 fh (.bl _) q⟩
theorem lt_cases : ∀ v w z, pLt v w = some z → (∃ i j, v = .int i ∧ w = .int j ∧ z = .bool (decide (i < j))) ∨ (ordOk v w = true ∧ z = .bool (dataLt v w)) := fun v w z e => by
  unfold pLt at e
  split at e
  · cases e; exact .inl ⟨_, _, rfl, rfl, rfl⟩
  · split at e
    · cases e; exact .inr ⟨by assumption, rfl⟩
    · cases e
theorem le_cases : ∀ v w z, pLe v w = some z → (∃ i j, v = .int i ∧ w = .int j ∧ z = .bool (decide (i ≤ j))) ∨ (ordOk v w = true ∧ z = .bool (!dataLt w v)) := fun v w z e => by
  unfold pLe at e
  split at e
  · cases e; exact .inl ⟨_, _, rfl, rfl, rfl⟩
  · split at e
    · cases e; exact .inr ⟨by assumption, rfl⟩
    · cases e
theorem gt_cases : ∀ v w z, pGt v w = some z → (∃ i j, v = .int i ∧ w = .int j ∧ z = .bool (decide (j < i))) ∨ (ordOk v w = true ∧ z = .bool (dataLt w v)) := fun v w z e => by
  unfold pGt at e
  split at e
  · cases e; exact .inl ⟨_, _, rfl, rfl, rfl⟩
  · split at e
    · cases e; exact .inr ⟨by assumption, rfl⟩
    · cases e
theorem ge_cases : ∀ v w z, pGe v w = some z → (∃ i j, v = .int i ∧ w = .int j ∧ z = .bool (decide (j ≤ i))) ∨ (ordOk v w = true ∧ z = .bool (!dataLt v w)) := fun v w z e => by
  unfold pGe at e
  split at e
  · cases e; exact .inl ⟨_, _, rfl, rfl, rfl⟩
  · split at e
    · cases e; exact .inr ⟨by assumption, rfl⟩
    · cases e
/-- a comparison known: its operation with its reading -/
structure CmpK (X : Cx) (op : CmpOp) (g : PV → PV → Option PV) (r : R2) : Prop where
  o : OpR X (compareOp op) r
  d : Op2 X.K r g
theorem ck_eq (hu : X.A.units + 64 < cLine) : CmpK X .Eq pEq (rEqX X.K) := ⟨OpR.or op_eqI (op_eqD hu), op2_eq⟩
theorem ck_ne (hu : X.A.units + 64 < cLine) : CmpK X .NotEq pNe (rNeX X.K) := ⟨OpR.or op_neI (op_neD hu), op2_ne⟩
theorem ck_lt (hu : X.A.units + 64 < cLine) : CmpK X .Lt pLt (fun x y H Q => rI0 (fun i j => .bl (decide (i < j))) x y H Q ∨ rOrd X.K dataLt x y H Q) := ⟨OpR.or op_lt (op_ord hu lt_data), op2_ord lt_cases⟩
theorem ck_le (hu : X.A.units + 64 < cLine) : CmpK X .LtE pLe (fun x y H Q => rI0 (fun i j => .bl (decide (i ≤ j))) x y H Q ∨ rOrd X.K (fun v w => !dataLt w v) x y H Q) := ⟨OpR.or op_le (op_ord hu le_data), op2_ord le_cases⟩
theorem ck_gt (hu : X.A.units + 64 < cLine) : CmpK X .Gt pGt (fun x y H Q => rI0 (fun i j => .bl (decide (j < i))) x y H Q ∨ rOrd X.K (fun v w => dataLt w v) x y H Q) := ⟨OpR.or op_gt (op_ord hu gt_data), op2_ord gt_cases⟩
theorem ck_ge (hu : X.A.units + 64 < cLine) : CmpK X .GtE pGe (fun x y H Q => rI0 (fun i j => .bl (decide (j ≤ i))) x y H Q ∨ rOrd X.K (fun v w => !dataLt v w) x y H Q) := ⟨OpR.or op_ge (op_ord hu ge_data), op2_ord ge_cases⟩
def rInT (K : PySem.W.Frag) (c : Bool) : R2 := fun x y H Q => ∃ d ds, Dp K H x d ∧ Dp K H y (.tuple ds) ∧ SeqAt.shaped d = true ∧ SeqAt.shaped (.tuple ds) = true ∧ Q (.bl (c ^^ inL d ds)) H
theorem op_inT (hu : X.A.units + 65 < cLine) : OpR X (compareOp .In) (rInT X.K false) := by
  intro pins s σ H x y v u Q I rx ry h
  obtain ⟨d, ds, hd, he, sd, se, q⟩ := h
  obtain ⟨as, r1⟩ := Dp.reads I d x v hd rx
  obtain ⟨bs, r2⟩ := Dp.reads I (.tuple ds) y u he ry
  rw [Bool.false_xor] at q
  exact SeqAt.in_tuple_reads r2 r1 (SeqAt.canLay_of_shaped se) (SeqAt.canLay_of_shaped sd) (room_in_shaped sd hu) ⟨.bl _, H, I, rfl, q⟩
theorem op_notInT (hu : X.A.units + 65 < cLine) : OpR X (compareOp .NotIn) (rInT X.K true) := by
  intro pins s σ H x y v u Q I rx ry h
  obtain ⟨d, ds, hd, he, sd, se, q⟩ := h
  obtain ⟨as, r1⟩ := Dp.reads I d x v hd rx
  obtain ⟨bs, r2⟩ := Dp.reads I (.tuple ds) y u he ry
  rw [Bool.true_xor] at q
  exact SeqAt.notIn_tuple_reads r2 r1 (SeqAt.canLay_of_shaped se) (SeqAt.canLay_of_shaped sd) (room_in_shaped sd hu) ⟨.bl _, H, I, rfl, q⟩
theorem ck_in (hu : X.A.units + 65 < cLine) : CmpK X .In pIn (fun x y H Q => rInD X.K x y H Q ∨ rInT X.K false x y H Q) := ⟨OpR.or (op_inD hu) (op_inT hu), fun F H x y v w z Q fh dx dy e q => by
  unfold pIn at e
  split at e
  · split at e
    · rename_i hs
      cases e
      exact .inl ⟨v, _, bor_dp fh dx, bor_dp fh dy, hs.1, hs.2, fin0 fh (.bl _) q⟩
    · cases e
  · split at e
    · rename_i hs
      cases e
      exact .inr ⟨v, _, bor_dp fh dx, bor_dp fh dy, hs.1, hs.2, by rw [Bool.false_xor]; exact fin0 fh (.bl _) q⟩
    · cases e
  · cases e⟩
theorem ck_notIn (hu : X.A.units + 65 < cLine) : CmpK X .NotIn pNotIn (fun x y H Q => rNotInD X.K x y H Q ∨ rInT X.K true x y H Q) := ⟨OpR.or (op_notInD hu) (op_notInT hu), fun F H x y v w z Q fh dx dy e q => by
  unfold pNotIn at e
  split at e
  · split at e
    · rename_i hs
      cases e
      exact .inl ⟨v, _, bor_dp fh dx, bor_dp fh dy, hs.1, hs.2, fin0 fh (.bl _) q⟩
    · cases e
  · split at e
    · rename_i hs
      cases e
      exact .inr ⟨v, _, bor_dp fh dx, bor_dp fh dy, hs.1, hs.2, by rw [Bool.true_xor]; exact fin0 fh (.bl _) q⟩
    · cases e
  · cases e⟩
theorem se_cmp {op : CmpOp} {h : PV → PV → Option PV} {r : R2} (k : CmpK X op h r) (ha : SB X a f) (hb : SB X b g) (hm : behindInMarks op b = false) : SE X (.Compare a [op] [b] pos) (e2 h f g) := se_op2 k.d ha hb fun h1 h2 => pe_cmpR k.o h1 h2 hm
theorem dr_bool {F : Hp} {x : V} {b : Bool} (h : Dr K F x (.bool b)) : x = .bl b := by cases h; rfl
theorem toB_some {v : PV} {k : Bool} (h : toB v = some k) : v = .bool k := by
  cases v <;> first | (cases h; rfl) | cases h
theorem st_cmp {op : CmpOp} {h : PV → PV → Option PV} {r : R2} (k : CmpK X op h r) (ha : SB X a f) (hb : SB X b g) (hm : behindInMarks op b = false) : ST X (.Compare a [op] [b] pos) (cB (e2 h f g)) :=
  PT.imp (pt_cmpR k.o ha hb hm) fun σ H Q ⟨B, F0, F, ρ, z, R, e, q⟩ => by
    obtain ⟨v0, e0, e⟩ := bind_some e
    obtain ⟨v, e1, e0⟩ := bind_some e0
    obtain ⟨w, e2, e0⟩ := bind_some e0
    refine ⟨B, F0, F, ρ, v, R, e1, fun x H1 F1 R1 E1 d1 => ⟨B, F0, F1, ρ, w, R1, e2, fun y H2 F2 R2 E2 d2 => ?_⟩⟩
    refine k.d F2 H2 x y v w v0 _ R2.fh (d1.ext E2) d2 e0 fun u H3 F3 E3 s3 d3 => ?_
    obtain rfl := toB_some e
    obtain rfl := dr_bool d3
    exact ⟨_, rfl, q _ _ (R2.ext E3 s3) ((E1.trans E2).trans E3)⟩
theorem se_isN {j pos'} (ha : SB X a f) : SE X (.Compare a [.Is] [.Constant .none j pos'] pos) (e1 pIsN f) := PE.imp (pe_cmp (pc_isN ha)) fun σ H Q ⟨B, F0, F, ρ, z, R, e, q⟩ => by
  obtain ⟨v, e1, e⟩ := bind_some e
  refine ⟨B, F0, F, ρ, v, R, e1, fun x H1 F1 R1 E1 d1 => ?_⟩
  cases e
  have : decide (x = .non) = isNone v := by
    rcases d1 with d1 | ⟨p, rfl, d1⟩
    · cases d1 <;> rfl
    · cases v <;> first | exact d1.elim | rfl
  rw [this]
  exact q _ _ _ R1 E1 (.bl _)
theorem se_notN {j pos'} (ha : SB X a f) : SE X (.Compare a [.IsNot] [.Constant .none j pos'] pos) (e1 pNotN f) := PE.imp (pe_cmp (pc_notN ha)) fun σ H Q ⟨B, F0, F, ρ, z, R, e, q⟩ => by
  obtain ⟨v, e1, e⟩ := bind_some e
  refine ⟨B, F0, F, ρ, v, R, e1, fun x H1 F1 R1 E1 d1 => ?_⟩
  cases e
  have : decide (x = .non) = isNone v := by
    rcases d1 with d1 | ⟨p, rfl, d1⟩
    · cases d1 <;> rfl
    · cases v <;> first | exact d1.elim | rfl
  rw [this]
  exact q _ _ _ R1 E1 (.bl _)
theorem st_isN {j pos'} (ha : SB X a f) : ST X (.Compare a [.Is] [.Constant .none j pos'] pos) (cB (e1 pIsN f)) := PT.imp (pt_cmp (pc_isN ha)) fun σ H Q ⟨B, F0, F, ρ, z, R, e, q⟩ => by
  obtain ⟨v0, e0, e⟩ := bind_some e
  obtain ⟨v, e1, e0⟩ := bind_some e0
  refine ⟨B, F0, F, ρ, v, R, e1, fun x H1 F1 R1 E1 d1 => ?_⟩
  cases e0
  cases e
  have : decide (x = .non) = isNone v := by
    rcases d1 with d1 | ⟨p, rfl, d1⟩
    · cases d1 <;> rfl
    · cases v <;> first | exact d1.elim | rfl
  rw [this]
  exact ⟨_, rfl, q _ _ R1 E1⟩
theorem st_notN {j pos'} (ha : SB X a f) : ST X (.Compare a [.IsNot] [.Constant .none j pos'] pos) (cB (e1 pNotN f)) := PT.imp (pt_cmp (pc_notN ha)) fun σ H Q ⟨B, F0, F, ρ, z, R, e, q⟩ => by
  obtain ⟨v0, e0, e⟩ := bind_some e
  obtain ⟨v, e1, e0⟩ := bind_some e0
  refine ⟨B, F0, F, ρ, v, R, e1, fun x H1 F1 R1 E1 d1 => ?_⟩
  cases e0
  cases e
  have : decide (x = .non) = isNone v := by
    rcases d1 with d1 | ⟨p, rfl, d1⟩
    · cases d1 <;> rfl
    · cases v <;> first | exact d1.elim | rfl
  rw [this]
  exact ⟨_, rfl, q _ _ R1 E1⟩

/-! chains a op b op' c -/
def e3c (h h' : PV → PV → Option PV) (f g k : PF) : PF := fun ρ => (f ρ).bind fun x => (g ρ).bind fun y => (h x y).bind fun z => (toB z).bind fun t => if t = true then (k ρ).bind fun w => h' y w else some (.bool false)
theorem se_chain {op op' : CmpOp} {h h' : PV → PV → Option PV} {r r' : R2} {k : PF} (k1 : CmpK X op h r) (k2 : CmpK X op' h' r') (ha : SB X a f) (hb : SB X b g) (hc : SB X c k) (hm : lastMarks [op, op'] [b, c] = false := by with_unfolding_all rfl) :
    SE X (.Compare a [op, op'] [b, c] pos) (e3c h h' f g k) := PE.imp (pe_chain k1.o k2.o ha hb hc hm) fun σ H Q ⟨B, F0, F, ρ, z, R, e, q⟩ => by
  obtain ⟨v, q1, ea⟩ := bind_some e
  obtain ⟨w, q2, eb⟩ := bind_some ea
  obtain ⟨t0, q3, ec⟩ := bind_some eb
  obtain ⟨t, q4, ed⟩ := bind_some ec
  obtain rfl := toB_some q4
  refine ⟨B, F0, F, ρ, v, R, q1, fun x H1 F1 R1 E1 d1 => ⟨B, F0, F1, ρ, w, R1, q2, fun y H2 F2 R2 E2 d2 => ?_⟩⟩
  refine k1.d F2 H2 x y v w _ _ R2.fh (d1.ext E2) d2 q3 fun u H3 F3 E3 s3 d3 => ?_
  obtain rfl := dr_bool d3
  refine ⟨t, rfl, ?_⟩
  have R3 := R2.ext E3 s3
  cases t with
  | false =>
    rw [if_neg Bool.false_ne_true]
    rw [if_neg Bool.false_ne_true] at ed
    cases ed
    exact q _ _ _ R3 ((E1.trans E2).trans E3) (.bl _)
  | true =>
    rw [if_pos rfl]
    rw [if_pos rfl] at ed
    obtain ⟨m, q5, ee⟩ := bind_some ed
    refine ⟨B, F0, F3, ρ, m, R3, q5, fun y2 H4 F4 R4 E4 d4 => ?_⟩
    refine k2.d F4 H4 y y2 w m z _ R4.fh ((d2.ext E3).ext E4) d4 ee fun u H5 F5 E5 s5 d5 => ?_
    exact q _ _ _ (R4.ext E5 s5) ((((E1.trans E2).trans E3).trans E4).trans E5) d5
theorem st_chain {op op' : CmpOp} {h h' : PV → PV → Option PV} {r r' : R2} {k : PF} (k1 : CmpK X op h r) (k2 : CmpK X op' h' r') (ha : SB X a f) (hb : SB X b g) (hc : SB X c k) (hm : lastMarks [op, op'] [b, c] = false := by with_unfolding_all rfl) :
    ST X (.Compare a [op, op'] [b, c] pos) (cB (e3c h h' f g k)) := PT.imp (pt_chain k1.o k2.o ha hb hc hm) fun σ H Q ⟨B, F0, F, ρ, z, R, e, q⟩ => by
  obtain ⟨v00, e, q6⟩ := bind_some e
  obtain ⟨v, q1, ea⟩ := bind_some e
  obtain ⟨w, q2, eb⟩ := bind_some ea
  obtain ⟨t0, q3, ec⟩ := bind_some eb
  obtain ⟨t, q4, ed⟩ := bind_some ec
  obtain rfl := toB_some q4
  obtain rfl := toB_some q6
  refine ⟨B, F0, F, ρ, v, R, q1, fun x H1 F1 R1 E1 d1 => ⟨B, F0, F1, ρ, w, R1, q2, fun y H2 F2 R2 E2 d2 => ?_⟩⟩
  refine k1.d F2 H2 x y v w _ _ R2.fh (d1.ext E2) d2 q3 fun u H3 F3 E3 s3 d3 => ?_
  obtain rfl := dr_bool d3
  refine ⟨t, rfl, ?_⟩
  have R3 := R2.ext E3 s3
  cases t with
  | false =>
    rw [if_neg Bool.false_ne_true]
    rw [if_neg Bool.false_ne_true] at ed
    cases ed
    exact ⟨_, rfl, q _ _ R3 ((E1.trans E2).trans E3)⟩
  | true =>
    rw [if_pos rfl]
    rw [if_pos rfl] at ed
    obtain ⟨m, q5, ee⟩ := bind_some ed
    refine ⟨B, F0, F3, ρ, m, R3, q5, fun y2 H4 F4 R4 E4 d4 => ?_⟩
    refine k2.d F4 H4 y y2 w m _ _ R4.fh ((d2.ext E3).ext E4) d4 ee fun u H5 F5 E5 s5 d5 => ?_
    obtain rfl := dr_bool d5
    exact ⟨_, rfl, q _ _ (R4.ext E5 s5) ((((E1.trans E2).trans E3).trans E4).trans E5)⟩
end
end Pl

set_option Elab.async false
set_option linter.all false
set_option maxRecDepth 100000
set_option maxHeartbeats 4000000
set_option autoImplicit false
namespace Pl
open PySem PySem.Spec PyProof.Rows L2
open PySem.W (alike dataLt lt_data le_data gt_data ge_data)
variable {K : PySem.W.Frag}

/-! ### tests, and, or, if -/
section
variable {X : Cx} {a b c : Expr} {f g : PF} {pos : Pos} {k l : PEnv → Option Bool} {rest : List Expr}
theorem tru_of {F H : Hp} {x : V} {v : PV} {b : Bool} (fh : Same F H) (d : BoR K F H x v) (h : pTru v = some b) : TruV K x H b := by
  unfold pTru at h
  split at h
  · cases h
    obtain rfl := bor_none d
    exact rfl
  · cases h
    obtain rfl := bor_bool d
    exact rfl
  · cases h
    obtain rfl := bor_int d
    exact rfl
  · rename_i l
    cases h
    obtain ⟨p, xs, rfl, h1, d1⟩ := bor_lst fh d
    refine .inl ⟨xs, h1, ?_⟩
    cases d1 <;> rfl
  · rename_i l
    cases h
    obtain ⟨p, xs, rfl, f1, h1, d1⟩ := bor_tup fh d
    refine .inr (.inl ⟨xs, h1, ?_⟩)
    cases d1 <;> rfl
  · cases h
theorem st_tru (ha : SB X a f) (he : ∀ whole, isTrue a X.env whole = (do let v ← whole; standAt a.pos; holding [v] (truthy v)) := by intro _; rfl) : ST X a (cTru f) := PT.imp (pt_truth ha he) fun σ H Q ⟨B, F0, F, ρ, z, R, e, q⟩ => by
  obtain ⟨v, e1, e⟩ := bind_some e
  exact ⟨B, F0, F, ρ, v, R, e1, fun x H1 F1 R1 E1 d1 => ⟨z, tru_of R1.fh d1 e, q _ _ R1 E1⟩⟩
theorem st_not (ha : ST X a k) : ST X (.UnaryOp .Not a pos) (cNot k) := PT.imp (pt_not ha) fun σ H Q ⟨B, F0, F, ρ, z, R, e, q⟩ => by
  obtain ⟨v, e1, e⟩ := bind_some e
  cases e
  exact ⟨B, F0, F, ρ, v, R, e1, fun H1 F1 R1 E1 => q _ _ R1 E1⟩
theorem sw_and1 (ha : ST X a k) : SW X (.BoolOp .And [a] pos) k := pw_and1 ha
theorem sw_or1 (ha : ST X a k) : SW X (.BoolOp .Or [a] pos) k := pw_or1 ha
theorem sw_and (ha : ST X a k) (hb : SW X (.BoolOp .And (b :: rest) pos) l) : SW X (.BoolOp .And (a :: b :: rest) pos) (cAnd k l) := PW.imp (pw_and ha hb) fun σ H Q ⟨B, F0, F, ρ, z, R, e, q⟩ => by
  obtain ⟨v, e1, e⟩ := bind_some e
  refine ⟨B, F0, F, ρ, v, R, e1, fun H1 F1 R1 E1 => ?_⟩
  cases v with
  | true => exact ⟨B, F0, F1, ρ, z, R1, e, fun H2 F2 R2 E2 => q _ _ R2 (E1.trans E2)⟩
  | false =>
    cases e
    exact q _ _ R1 E1
theorem sw_or (ha : ST X a k) (hb : SW X (.BoolOp .Or (b :: rest) pos) l) : SW X (.BoolOp .Or (a :: b :: rest) pos) (cOr k l) := PW.imp (pw_or ha hb) fun σ H Q ⟨B, F0, F, ρ, z, R, e, q⟩ => by
  obtain ⟨v, e1, e⟩ := bind_some e
  refine ⟨B, F0, F, ρ, v, R, e1, fun H1 F1 R1 E1 => ?_⟩
  cases v with
  | false => exact ⟨B, F0, F1, ρ, z, R1, e, fun H2 F2 R2 E2 => q _ _ R2 (E1.trans E2)⟩
  | true =>
    cases e
    exact q _ _ R1 E1
theorem st_w (h : SW X a k) : ST X a k := h.pt
theorem se_one {op} (h : SE X a f) : SE X (.BoolOp op [a] pos) f := pe_one h
theorem se_and (ha : SE X a f) (hb : SE X (.BoolOp .And (b :: rest) pos) g) : SE X (.BoolOp .And (a :: b :: rest) pos) (eAnd f g) := PE.imp (pe_and ha hb) fun σ H Q ⟨B, F0, F, ρ, z, R, e, q⟩ => by
  obtain ⟨v, e1, e2⟩ := bind_some e
  obtain ⟨t, e3, e4⟩ := bind_some e2
  obtain rfl := toB_some e3
  refine ⟨B, F0, F, ρ, _, R, e1, fun x H1 F1 R1 E1 d1 => ?_⟩
  obtain rfl := dr_bool d1
  refine ⟨t, rfl, ?_⟩
  cases t with
  | true => exact ⟨B, F0, F1, ρ, z, R1, e4, fun x2 H2 F2 R2 E2 d2 => q _ _ _ R2 (E1.trans E2) d2⟩
  | false =>
    rw [if_neg Bool.false_ne_true]
    rw [if_neg Bool.false_ne_true] at e4
    cases e4
    exact q _ _ _ R1 E1 (.bl _)
theorem se_or (ha : SE X a f) (hb : SE X (.BoolOp .Or (b :: rest) pos) g) : SE X (.BoolOp .Or (a :: b :: rest) pos) (eOr f g) := PE.imp (pe_or ha hb) fun σ H Q ⟨B, F0, F, ρ, z, R, e, q⟩ => by
  obtain ⟨v, e1, e2⟩ := bind_some e
  obtain ⟨t, e3, e4⟩ := bind_some e2
  obtain rfl := toB_some e3
  refine ⟨B, F0, F, ρ, _, R, e1, fun x H1 F1 R1 E1 d1 => ?_⟩
  obtain rfl := dr_bool d1
  refine ⟨t, rfl, ?_⟩
  cases t with
  | false => exact ⟨B, F0, F1, ρ, z, R1, e4, fun x2 H2 F2 R2 E2 d2 => q _ _ _ R2 (E1.trans E2) d2⟩
  | true =>
    rw [if_pos rfl]
    rw [if_pos rfl] at e4
    cases e4
    exact q _ _ _ R1 E1 (.bl _)
theorem se_not (ha : SE X a f) : SE X (.UnaryOp .Not a pos) (eNot f) := PE.imp (pe_not ha) fun σ H Q ⟨B, F0, F, ρ, z, R, e, q⟩ => by
  obtain ⟨v, e1, e2⟩ := bind_some e
  obtain ⟨t, e3, e4⟩ := bind_some e2
  obtain rfl := toB_some e3
  cases e4
  refine ⟨B, F0, F, ρ, _, R, e1, fun x H1 F1 R1 E1 d1 => ?_⟩
  obtain rfl := dr_bool d1
  exact ⟨t, rfl, q _ _ _ R1 E1 (.bl _)⟩
/-- not of any value, by its truth -/
def eNotT (k : PEnv → Option Bool) : PF := fun ρ => (k ρ).bind fun t => some (.bool (!t))
theorem se_if (hc : ST X c k) (ha : SE X a f) (hb : SE X b g) : SE X (.IfExp c a b pos) (eIf k f g) := PE.imp (pe_ifExp hc ha hb) fun σ H Q ⟨B, F0, F, ρ, z, R, e, q⟩ => by
  obtain ⟨v, e1, e⟩ := bind_some e
  refine ⟨B, F0, F, ρ, v, R, e1, fun H1 F1 R1 E1 => ?_⟩
  cases v with
  | true => exact ⟨B, F0, F1, ρ, z, R1, e, fun x2 H2 F2 R2 E2 d2 => q _ _ _ R2 (E1.trans E2) d2⟩
  | false => exact ⟨B, F0, F1, ρ, z, R1, e, fun x2 H2 F2 R2 E2 d2 => q _ _ _ R2 (E1.trans E2) d2⟩

/-! ### arguments, displays -/
variable {es : List Expr} {r : PEnv → Option (List PV)}
theorem sa_nil : SA X [] aNil := PA.imp pa_nil fun σ H Q ⟨B, F0, F, ρ, z, R, e, q⟩ => by
  cases e
  exact q _ _ _ R (Ext.refl _ _) .nil
theorem sa_cons (ha : SE X a f) (hr : SA X es r) (hs : starEach (a :: es) X.env = (false, eval a X.env) :: starEach es X.env := by rfl) : SA X (a :: es) (aCons f r) := PA.imp (pa_cons ha hr hs) fun σ H Q ⟨B, F0, F, ρ, z, R, e, q⟩ => by
  obtain ⟨v, e1, e2⟩ := bind_some e
  obtain ⟨l, e3, e4⟩ := bind_some e2
  cases e4
  refine ⟨B, F0, F, ρ, v, R, e1, fun x H1 F1 R1 E1 d1 => ⟨B, F0, F1, ρ, l, R1, e3, fun xs H2 F2 R2 E2 d2 => ?_⟩⟩
  exact q _ _ _ R2 (E1.trans E2) (.cons (dr_same E2.f _ _ d1) d2)
def pTup (l : List PV) : Option PV := if lineOk l.length = true then some (.tuple l) else none
def pLst (l : List PV) : Option PV := if lineOk l.length = true then some (.list l) else none
theorem se_tup {x1} (h : SA X es r) : SE X (.Tuple es x1 pos) (eCall pTup r) := PE.imp (pe_tup h) fun σ H Q ⟨B, F0, F, ρ, z, R, e, q⟩ => by
  obtain ⟨l, e1, e2⟩ := bind_some e
  unfold pTup at e2
  split at e2
  · rename_i hz
    cases e2
    refine ⟨B, F0, F, ρ, l, R, e1, fun xs H1 F1 R1 E1 d1 => ⟨?_, ?_⟩⟩
    · rw [drAll_length d1]
      exact of_decide_eq_true hz
    · exact finNew (z := .none) R1.fh d1 fun u H2 F2 E2 s2 d2 => q _ _ _ (R1.ext E2 s2) (E1.trans E2) d2
  · cases e2
theorem sf_lst (h : SA X es r) : SF X (.List es pos) (eCall pLst r) := PE.imp (pe_lst h) fun σ H Q ⟨B, F0, F, ρ, z, R, e, q⟩ => by
  obtain ⟨l, e1, e2⟩ := bind_some e
  unfold pLst at e2
  split at e2
  · rename_i hz
    cases e2
    refine ⟨B, F0, F, ρ, l, R, e1, fun xs H1 F1 R1 E1 d1 => ⟨?_, ?_⟩⟩
    · rw [drAll_length d1]
      exact of_decide_eq_true hz
    · exact finOwn R1.fh d1 fun p H2 F2 E2 s2 fp hp d2 => q _ _ _ (R1.ext E2 s2) (E1.trans E2) fp (E1.h.free hp) d2
  · cases e2

/-! ### items, slices -/
theorem atI_map {F : Hp} {xs : List V} {l : List PV} {i : Int} {z : PV} (d : DrAll K F xs l) (h : atI l i = some z) : ∃ x, atI xs i = some x ∧ Dr K F x z := by
  unfold atI at h ⊢
  rw [drAll_length d]
  cases q : ixN l.length i with
  | none => rw [q] at h; cases h
  | some j =>
    rw [q] at h
    exact drAll_get d h
theorem op2_ix : Op2 K (fun x y H Q => rIxL K x y H Q ∨ rIxT K x y H Q) pIx := fun F H x y v w z Q fh dx dy e q => by
  unfold pIx at e
  split at e
  · obtain rfl := bor_int dy
    rcases dx with dx | ⟨p, rfl, dx⟩
    · cases dx with
      | lst hs ha =>
        obtain ⟨u, h1, h2⟩ := atI_map ha e
        exact .inl ⟨_, _, _, u, rfl, rfl, sqL_same fh hs, h1, fin0 fh h2 q⟩
    · obtain ⟨xs, h1, h2⟩ := dx
      obtain ⟨u, h3, h4⟩ := atI_map h2 e
      exact .inl ⟨_, _, _, u, rfl, rfl, .inl (.inl h1), h3, fin0 fh h4 q⟩
  · obtain rfl := bor_int dy
    obtain ⟨p, xs, rfl, f1, h1, d1⟩ := bor_tup fh dx
    obtain ⟨u, h3, h4⟩ := atI_map d1 e
    exact .inr ⟨_, _, _, u, rfl, rfl, h1, h3, fin0 fh h4 q⟩
  · cases e
theorem se_ix (ha : SB X a f) (hb : SB X b g) (hs : PlainIx b) : SE X (.Subscript a b pos) (e2 pIx f g) := se_op2 op2_ix ha hb fun h1 h2 => pe_ix (IxR.or ix_list ix_tup) h1 h2 hs
/-- a part of a slice -/
def tO (K : PySem.W.Frag) (p : PEnv → Option (Option Int)) : TO := fun σ H Q => ∃ B F0 F ρ v, RE K B F0 F H σ ρ ∧ p ρ = some v ∧ ∀ H' F', RE K B F0 F' H' σ ρ → Ext F H F' H' → Q v H'
abbrev SO (X : Cx) (e : Option Expr) (p : PEnv → Option (Option Int)) : Prop := PO X e (tO X.K p)
theorem PO.imp {e : Option Expr} {t t' : TO} (h : PO X e t) (i : ∀ σ H Q, t' σ H Q → t σ H Q) : PO X e t' := ⟨fun pins s σ H Q I q => h.run pins s σ H Q I (i σ H Q q)⟩
def oNone : PEnv → Option (Option Int) := fun _ => some none
def oSome (f : PF) : PEnv → Option (Option Int) := fun ρ => (f ρ).bind fun v => (toI v).bind fun i => some (some i)
theorem so_none : SO X none oNone := PO.imp po_none fun σ H Q ⟨B, F0, F, ρ, z, R, e, q⟩ => by
  cases e
  exact q _ _ R (Ext.refl _ _)
theorem toI_some {v : PV} {i : Int} (h : toI v = some i) : v = .int i := by
  cases v <;> first | (cases h; rfl) | cases h
theorem so_some (h : SB X a f) : SO X (some a) (oSome f) := PO.imp (po_some h) fun σ H Q ⟨B, F0, F, ρ, z, R, e, q⟩ => by
  obtain ⟨v, e1, e2⟩ := bind_some e
  obtain ⟨i, e3, e4⟩ := bind_some e2
  obtain rfl := toI_some e3
  cases e4
  refine ⟨B, F0, F, ρ, _, R, e1, fun x H1 F1 R1 E1 d1 => ?_⟩
  exact ⟨i, bor_int d1, q _ _ R1 E1⟩
theorem drAll_cut {F : Hp} {xs : List V} {l : List PV} (d : DrAll K F xs l) (lo hi : Option Int) : DrAll K F (cutV xs lo hi) (cutD l lo hi) := by
  unfold cutV cutD
  rw [drAll_length d]
  exact drAll_take _ (drAll_drop _ d)
def pSl (v : PV) (lo hi : Option Int) : Option PV := match v with
  | .tuple l => some (.tuple (cutD l lo hi))
  | .list l => some (.list (cutD l lo hi))
  | _ => none
def eSl (f : PF) (p q : PEnv → Option (Option Int)) : PF := fun ρ => (f ρ).bind fun v => (p ρ).bind fun lo => (q ρ).bind fun hi => pSl v lo hi
def eSlL (f : PF) (p q : PEnv → Option (Option Int)) : PF := fun ρ => (f ρ).bind fun v => (p ρ).bind fun lo => (q ρ).bind fun hi => pSlL v lo hi
theorem finFrz {F H : Hp} {Q : VK} {xs : List V} {l : List PV} (fh : Same F H) (d : DrAll K F xs l) (q : ∀ u H' F', Ext F H F' H' → Same F' H' → Dr K F' u (.list l) → Q u H') : ∀ p, H p = none → Q (.ref p) (upd H p (.lst xs)) := fun p hp => by
  have E := ext_frz (o := HO.lst xs) fh hp
  exact q _ _ _ E (same_frz fh hp) (.lst (.inl (.inl upd_same)) (drAll_same E.f _ _ d))
theorem se_sl {lo hi : Option Expr} {p2 : Pos} {p q : PEnv → Option (Option Int)} (ha : SB X a f) (hl : SO X lo p) (hh : SO X hi q) : SE X (.Subscript a (.Slice lo hi none p2) pos) (eSl f p q) :=
  PE.imp (pe_slice (SlR.or sl_list sl_tupA) ha hl hh) fun σ H Q ⟨B, F0, F, ρ, z, R, e, k⟩ => by
    obtain ⟨v, e1, e2⟩ := bind_some e
    obtain ⟨i, e3, e4⟩ := bind_some e2
    obtain ⟨j, e5, e6⟩ := bind_some e4
    refine ⟨B, F0, F, ρ, v, R, e1, fun x H1 F1 R1 E1 d1 => ⟨B, F0, F1, ρ, i, R1, e3, fun H2 F2 R2 E2 => ⟨B, F0, F2, ρ, j, R2, e5, fun H3 F3 R3 E3 => ?_⟩⟩⟩
    have d3 := (d1.ext E2).ext E3
    have k3 : ∀ u H' F', Ext F3 H3 F' H' → Same F' H' → Dr X.K F' u z → Q u H' := fun u H4 F4 E4 s4 d4 => k _ _ _ (R3.ext E4 s4) (((E1.trans E2).trans E3).trans E4) d4
    unfold pSl at e6
    split at e6
    · rename_i l
      cases e6
      obtain ⟨a1, xs, rfl, f1, h1, d1⟩ := bor_tup R3.fh d3
      refine .inr ⟨a1, xs, rfl, h1, fun hw => ?_, fun hw => finNew (z := .none) R3.fh (drAll_cut d1 _ _) k3⟩
      have : cutD l i j = l := by
        unfold cutD
        rw [← drAll_length d1, hw.1, hw.2]
        simp [drAll_length d1]
      rw [this] at k3
      exact fin0 R3.fh (.tup f1 d1) k3
    · rename_i l
      cases e6
      obtain ⟨a1, xs, rfl, h1, d1⟩ := bor_lst R3.fh d3
      exact .inl ⟨a1, xs, rfl, h1, finFrz R3.fh (drAll_cut d1 _ _) k3⟩
    · cases e6
theorem sf_sl {lo hi : Option Expr} {p2 : Pos} {p q : PEnv → Option (Option Int)} (ha : SB X a f) (hl : SO X lo p) (hh : SO X hi q) : SF X (.Subscript a (.Slice lo hi none p2) pos) (eSlL f p q) :=
  PE.imp (pe_slice sl_list ha hl hh) fun σ H Q ⟨B, F0, F, ρ, z, R, e, k⟩ => by
    obtain ⟨v, e1, e2⟩ := bind_some e
    obtain ⟨i, e3, e4⟩ := bind_some e2
    obtain ⟨j, e5, e6⟩ := bind_some e4
    refine ⟨B, F0, F, ρ, v, R, e1, fun x H1 F1 R1 E1 d1 => ⟨B, F0, F1, ρ, i, R1, e3, fun H2 F2 R2 E2 => ⟨B, F0, F2, ρ, j, R2, e5, fun H3 F3 R3 E3 => ?_⟩⟩⟩
    have d3 := (d1.ext E2).ext E3
    unfold pSlL at e6
    split at e6
    · rename_i l
      cases e6
      obtain ⟨a1, xs, rfl, h1, d1⟩ := bor_lst R3.fh d3
      exact ⟨a1, xs, rfl, h1, finOwn R3.fh (drAll_cut d1 _ _) fun u H4 F4 E4 s4 fp hp d4 => k _ _ _ (R3.ext E4 s4) (((E1.trans E2).trans E3).trans E4) fp (((E1.trans E2).trans E3).h.free hp) d4⟩
    · cases e6

/-! ### + of any two: ints, tuples, lists (a new list that is not changed) -/
def pPlus (v w : PV) : Option PV := match v, w with
  | .int i, .int j => some (.int (i + j))
  | .tuple a, .tuple b => if lineOk (a.length + b.length) = true then some (.tuple (a ++ b)) else none
  | .list a, .list b => if lineOk (a.length + b.length) = true then some (.list (a ++ b)) else none
  | _, _ => none
theorem op2_plus : Op2 K (fun x y H Q => (rI0 (fun i j => .int (i + j)) x y H Q ∨ rCatA K x y H Q) ∨ rCatR K x y H Q) pPlus := fun F H x y v w z Q fh dx dy e q => by
  unfold pPlus at e
  split at e
  · exact .inl (op2_add F H x y _ _ z Q fh dx dy e q)
  · exact .inl (op2_add F H x y _ _ z Q fh dx dy e q)
  · rename_i l m
    split at e
    · rename_i hz
      cases e
      obtain ⟨p, xs, rfl, h1, d1⟩ := bor_lst fh dx
      obtain ⟨p2, ys, rfl, h2, d2⟩ := bor_lst fh dy
      have l1 := drAll_length d1
      have l2 := drAll_length d2
      have hz' : l.length + m.length ≤ sizeLine := of_decide_eq_true hz
      exact .inr ⟨p, p2, xs, ys, rfl, rfl, h1, h2, by omega, finFrz fh (drAll_append d1 d2) q⟩
    · cases e
  · cases e
theorem se_plus (ha : SB X a f) (hb : SB X b g) : SE X (.BinOp a .Add b pos) (e2 pPlus f g) := se_op2 op2_plus ha hb fun h1 h2 => pe_op (OpR.or (OpR.or op_add op_catA) op_catR) h1 h2
end
end Pl

set_option Elab.async false
set_option linter.all false
set_option maxRecDepth 100000
set_option maxHeartbeats 4000000
set_option autoImplicit false
namespace Pl
open PySem PySem.Spec PyProof.Rows L2
open PySem.W (alike dataLt lt_data le_data gt_data ge_data)
variable {K : PySem.W.Frag}

/-! ### built-in functions of one and two values -/
def Un1 (K : PySem.W.Frag) (r : List V → Hp → VK → Prop) (g : PV → Option PV) : Prop := ∀ (F H : Hp) (x : V) (v z : PV) (Q : VK), Same F H → BoR K F H x v → g v = some z → (∀ u H' F', Ext F H F' H' → Same F' H' → Dr K F' u z → Q u H') → r [x] H Q
def Un1F (K : PySem.W.Frag) (r : List V → Hp → VK → Prop) (g : PV → Option PV) : Prop := ∀ (F H : Hp) (x : V) (v z : PV) (Q : VK), Same F H → BoR K F H x v → g v = some z → (∀ p H' F', Ext F H F' H' → Same F' H' → F' p = none → H p = none → OwnR K F' H' p z → Q (.ref p) H') → r [x] H Q
def Un2 (K : PySem.W.Frag) (r : List V → Hp → VK → Prop) (g : PV → PV → Option PV) : Prop := ∀ (F H : Hp) (x y : V) (v w z : PV) (Q : VK), Same F H → BoR K F H x v → BoR K F H y w → g v w = some z → (∀ u H' F', Ext F H F' H' → Same F' H' → Dr K F' u z → Q u H') → r [x, y] H Q
/-- no star -/
def NS (a : Expr) : Prop := ∀ env es, starEach (a :: es) env = (false, eval a env) :: starEach es env
theorem NS.one {b : Expr} (h : NS b) (pos : Pos) (env : Env) : (backTo pos (starEach [b] env)).any (·.1) = false := by
  rw [h]
  rfl
section
variable {X : Cx} {a b c e : Expr} {f g : PF} {pos p : Pos} {x : Str}
theorem se_un1 {r : List V → Hp → VK → Prop} {h : PV → Option PV} (o : Un1 X.K r h) (ha : SB X a f) (he : ∀ {t}, PA X [a] t → PE X e (tCB r t)) (na : NS a) : SE X e (e1 h f) :=
  PE.imp (he (pa_cons ha pa_nil (na _ _))) fun σ H Q ⟨B, F0, F, ρ, z, R, e, q⟩ => by
    obtain ⟨v, e1, e2⟩ := bind_some e
    refine ⟨B, F0, F, ρ, v, R, e1, fun x H1 F1 R1 E1 d1 => ?_⟩
    exact o F1 H1 x v z Q R1.fh d1 e2 fun u H2 F2 E2 s2 d2 => q _ _ _ (R1.ext E2 s2) (E1.trans E2) d2
theorem sf_un1 {r : List V → Hp → VK → Prop} {h : PV → Option PV} (o : Un1F X.K r h) (ha : SB X a f) (he : ∀ {t}, PA X [a] t → PE X e (tCB r t)) (na : NS a) : SF X e (e1 h f) :=
  PE.imp (he (pa_cons ha pa_nil (na _ _))) fun σ H Q ⟨B, F0, F, ρ, z, R, e, q⟩ => by
    obtain ⟨v, e1, e2⟩ := bind_some e
    refine ⟨B, F0, F, ρ, v, R, e1, fun x H1 F1 R1 E1 d1 => ?_⟩
    exact o F1 H1 x v z Q R1.fh d1 e2 fun u H2 F2 E2 s2 fp hp d2 => q _ _ _ (R1.ext E2 s2) (E1.trans E2) fp (E1.h.free hp) d2
theorem se_un2 {r : List V → Hp → VK → Prop} {h : PV → PV → Option PV} (o : Un2 X.K r h) (ha : SB X a f) (hb : SB X b g) (he : ∀ {t}, PA X [a, b] t → PE X e (tCB r t)) (na : NS a) (nb : NS b) : SE X e (e2 h f g) :=
  PE.imp (he (pa_cons ha (pa_cons hb pa_nil (nb _ _)) (na _ _))) fun σ H Q ⟨B, F0, F, ρ, z, R, e, q⟩ => by
    obtain ⟨v, e1, e2⟩ := bind_some e
    obtain ⟨w, e3, e4⟩ := bind_some e2
    refine ⟨B, F0, F, ρ, v, R, e1, fun x H1 F1 R1 E1 d1 => ⟨B, F0, F1, ρ, w, R1, e3, fun y H2 F2 R2 E2 d2 => ?_⟩⟩
    exact o F2 H2 x y v w z Q R2.fh (d1.ext E2) d2 e4 fun u H3 F3 E3 s3 d3 => q _ _ _ (R2.ext E3 s3) ((E1.trans E2).trans E3) d3

theorem un_len : Un1 K (fun xs H Q => ∃ p ys, xs = [.ref p] ∧ (SqL K H p ys ∨ SqT K H p ys) ∧ Q (.int ys.length) H) pLen := fun F H x v z Q fh d e q => by
  unfold pLen at e
  split at e
  · cases e
    obtain ⟨p, xs, rfl, h1, d1⟩ := bor_lst fh d
    refine ⟨p, xs, rfl, .inl h1, ?_⟩
    rw [drAll_length d1]
    exact fin0 fh (.int _) q
  · cases e
    obtain ⟨p, xs, rfl, f1, h1, d1⟩ := bor_tup fh d
    refine ⟨p, xs, rfl, .inr h1, ?_⟩
    rw [drAll_length d1]
    exact fin0 fh (.int _) q
  · cases e
theorem se_len (hg : Gl X "len") (hm : X.mg "len" = none) (ha : SB X a f) (na : NS a := by intro _ _; rfl) : SE X (.Call (.Name "len" p) [a] [] pos) (e1 pLen f) := se_un1 un_len ha (fun h => pe_callB call_len_seq hg hm PySem.boot_len h (he := na _ _)) na
def pInt : PV → Option PV
  | .int i => some (.int i)
  | .bool b => some (.int (if b = true then 1 else 0))
  | _ => none
theorem un_int : Un1 K (fun xs H Q => (∃ i, xs = [.int i] ∧ Q (.int i) H) ∨ ∃ k, xs = [.bl k] ∧ Q (.int (if k then 1 else 0)) H) pInt := fun F H x v z Q fh d e q => by
  unfold pInt at e
  split at e
  · cases e
    obtain rfl := bor_int d
    exact .inl ⟨_, rfl, fin0 fh (.int _) q⟩
  · cases e
    obtain rfl := bor_bool d
    exact .inr ⟨_, rfl, fin0 fh (.int _) q⟩
  · cases e
theorem boot_int' : bootBuiltins "int" = some (.type "int") := by decide +kernel
theorem boot_abs' : bootBuiltins "abs" = some (.builtin "abs") := by decide +kernel
theorem boot_tuple' : bootBuiltins "tuple" = some (.type "tuple") := by decide +kernel
theorem boot_list' : bootBuiltins "list" = some (.type "list") := by decide +kernel
theorem boot_sum' : bootBuiltins "sum" = some (.builtin "sum") := by decide +kernel
theorem boot_all' : bootBuiltins "all" = some (.builtin "all") := by decide +kernel
theorem boot_any' : bootBuiltins "any" = some (.builtin "any") := by decide +kernel
theorem boot_min' : bootBuiltins "min" = some (.builtin "min") := by decide +kernel
theorem boot_max' : bootBuiltins "max" = some (.builtin "max") := by decide +kernel
theorem boot_sorted' : bootBuiltins "sorted" = some (.builtin "sorted") := by decide +kernel
theorem boot_isi' : bootBuiltins "isinstance" = some (.builtin "isinstance") := by decide +kernel
theorem boot_bool' : bootBuiltins "bool" = some (.type "bool") := by decide +kernel
theorem boot_str' : bootBuiltins "str" = some (.type "str") := by decide +kernel
theorem se_intc (hg : Gl X "int") (hm : X.mg "int" = none) (ha : SB X a f) (na : NS a := by intro _ _; rfl) : SE X (.Call (.Name "int" p) [a] [] pos) (e1 pInt f) := se_un1 un_int ha (fun h => pe_callTy call_int1 hg hm boot_int' h (he := na _ _)) na
def pAbs : PV → Option PV
  | .int i => some (.int (if i < 0 then -i else i))
  | _ => none
theorem un_abs : Un1 K (fun xs H Q => ∃ i, xs = [.int i] ∧ Q (.int (if i < 0 then -i else i)) H) pAbs := fun F H x v z Q fh d e q => by
  unfold pAbs at e
  split at e
  · cases e
    obtain rfl := bor_int d
    exact ⟨_, rfl, fin0 fh (.int _) q⟩
  · cases e
theorem se_abs (hg : Gl X "abs") (hm : X.mg "abs" = none) (ha : SB X a f) (na : NS a := by intro _ _; rfl) : SE X (.Call (.Name "abs" p) [a] [] pos) (e1 pAbs f) := se_un1 un_abs ha (fun h => pe_callB call_abs hg hm boot_abs' h (he := na _ _)) na
def pTuple : PV → Option PV
  | .list l => some (.tuple l)
  | .tuple l => some (.tuple l)
  | _ => none
theorem un_tuple : Un1 K (fun xs H Q => ∃ p ys, xs = [.ref p] ∧ ((SqL K H p ys ∧ ∀ l, H l = none → Q (.ref l) (upd H l (.tup ys))) ∨ (SqT K H p ys ∧ Q (.ref p) H))) pTuple := fun F H x v z Q fh d e q => by
  unfold pTuple at e
  split at e
  · cases e
    obtain ⟨p, xs, rfl, h1, d1⟩ := bor_lst fh d
    exact ⟨p, xs, rfl, .inl ⟨h1, finNew (z := .none) fh d1 q⟩⟩
  · cases e
    obtain ⟨p, xs, rfl, f1, h1, d1⟩ := bor_tup fh d
    exact ⟨p, xs, rfl, .inr ⟨h1, fin0 fh (.tup f1 d1) q⟩⟩
  · cases e
theorem se_tuple (hg : Gl X "tuple") (hm : X.mg "tuple" = none) (ha : SB X a f) (na : NS a := by intro _ _; rfl) : SE X (.Call (.Name "tuple" p) [a] [] pos) (e1 pTuple f) := se_un1 un_tuple ha (fun h => pe_callTy call_tuple_of hg hm boot_tuple' h (he := na _ _)) na
def pList : PV → Option PV
  | .list l => some (.list l)
  | .tuple l => some (.list l)
  | _ => none
theorem un_list : Un1F K (fun xs H Q => ∃ p ys, xs = [.ref p] ∧ (SqL K H p ys ∨ SqT K H p ys) ∧ ∀ l, H l = none → Q (.ref l) (upd H l (.lst ys))) pList := fun F H x v z Q fh d e q => by
  unfold pList at e
  split at e
  · cases e
    obtain ⟨p, xs, rfl, h1, d1⟩ := bor_lst fh d
    exact ⟨p, xs, rfl, .inl h1, finOwn fh d1 q⟩
  · cases e
    obtain ⟨p, xs, rfl, f1, h1, d1⟩ := bor_tup fh d
    exact ⟨p, xs, rfl, .inr h1, finOwn fh d1 q⟩
  · cases e
theorem sf_list (hg : Gl X "list") (hm : X.mg "list" = none) (ha : SB X a f) (na : NS a := by intro _ _; rfl) : SF X (.Call (.Name "list" p) [a] [] pos) (e1 pList f) := sf_un1 un_list ha (fun h => pe_callTy call_list_of hg hm boot_list' h (he := na _ _)) na
/-! lists of ints, of bools -/
def toIs : List PV → Option (List Int)
  | [] => some []
  | d :: r => (toI d).bind fun i => (toIs r).bind fun l => some (i :: l)
def toBs : List PV → Option (List Bool)
  | [] => some []
  | d :: r => (toB d).bind fun i => (toBs r).bind fun l => some (i :: l)
theorem toIs_some : ∀ {l : List PV} {is : List Int}, toIs l = some is → l = is.map PyData.int
  | [], _, h => by cases h; rfl
  | d :: r, _, h => by
    obtain ⟨i, h1, h2⟩ := bind_some h
    obtain ⟨m, h3, h4⟩ := bind_some h2
    cases h4
    rw [toI_some h1, toIs_some h3]
    rfl
theorem toBs_some : ∀ {l : List PV} {is : List Bool}, toBs l = some is → l = is.map PyData.bool
  | [], _, h => by cases h; rfl
  | d :: r, _, h => by
    obtain ⟨i, h1, h2⟩ := bind_some h
    obtain ⟨m, h3, h4⟩ := bind_some h2
    cases h4
    rw [toB_some h1, toBs_some h3]
    rfl
theorem toIs_map (is : List Int) : toIs (is.map PyData.int) = some is := by
  induction is with
  | nil => rfl
  | cons i r ih => simp [toIs, toI, ih]
theorem toBs_map (is : List Bool) : toBs (is.map PyData.bool) = some is := by
  induction is with
  | nil => rfl
  | cons i r ih => simp [toBs, toB, ih]
theorem drAll_bools {F : Hp} : ∀ {bs : List Bool} {vs : List V}, DrAll K F vs (bs.map PyData.bool) → vs = bs.map V.bl
  | [], _, h => by cases h; rfl
  | n :: ns, _, h => by
    cases h with
    | cons h1 h2 =>
      cases h1
      rw [List.map_cons, drAll_bools h2]
def pSumL : PV → Option PV
  | .list l => (toIs l).bind fun is => some (.int is.sum)
  | _ => none
theorem un_sum : Un1 K (rSum K) pSumL := fun F H x v z Q fh d e q => by
  unfold pSumL at e
  split at e
  · obtain ⟨is, e1, e2⟩ := bind_some e
    cases e2
    obtain rfl := toIs_some e1
    obtain ⟨p, xs, rfl, h1, d1⟩ := bor_lst fh d
    obtain rfl := drAll_ints d1
    exact ⟨p, is, rfl, h1, fin0 fh (.int _) q⟩
  · cases e
theorem se_sum (hc : X.calm = true) (hg : Gl X "sum") (hm : X.mg "sum" = none) (ha : SB X a f) (na : NS a := by intro _ _; rfl) : SE X (.Call (.Name "sum" p) [a] [] pos) (e1 pSumL f) := se_un1 un_sum ha (fun h => pe_callB (cr_sum hc) hg hm boot_sum' h (he := na _ _)) na
def pAll : PV → Option PV
  | .list l => (toBs l).bind fun is => some (.bool (is.all id))
  | _ => none
def pAny : PV → Option PV
  | .list l => (toBs l).bind fun is => some (.bool (is.any id))
  | _ => none
theorem un_all : Un1 K (rAll K) pAll := fun F H x v z Q fh d e q => by
  unfold pAll at e
  split at e
  · obtain ⟨is, e1, e2⟩ := bind_some e
    cases e2
    obtain rfl := toBs_some e1
    obtain ⟨p, xs, rfl, h1, d1⟩ := bor_lst fh d
    obtain rfl := drAll_bools d1
    exact ⟨p, is, rfl, h1, fin0 fh (.bl _) q⟩
  · cases e
theorem un_any : Un1 K (rAny K) pAny := fun F H x v z Q fh d e q => by
  unfold pAny at e
  split at e
  · obtain ⟨is, e1, e2⟩ := bind_some e
    cases e2
    obtain rfl := toBs_some e1
    obtain ⟨p, xs, rfl, h1, d1⟩ := bor_lst fh d
    obtain rfl := drAll_bools d1
    exact ⟨p, is, rfl, h1, fin0 fh (.bl _) q⟩
  · cases e
theorem se_all (hc : X.calm = true) (hg : Gl X "all") (hm : X.mg "all" = none) (ha : SB X a f) (na : NS a := by intro _ _; rfl) : SE X (.Call (.Name "all" p) [a] [] pos) (e1 pAll f) := se_un1 un_all ha (fun h => pe_callB (cr_all hc) hg hm boot_all' h (he := na _ _)) na
theorem se_any (hc : X.calm = true) (hg : Gl X "any") (hm : X.mg "any" = none) (ha : SB X a f) (na : NS a := by intro _ _; rfl) : SE X (.Call (.Name "any" p) [a] [] pos) (e1 pAny f) := se_un1 un_any ha (fun h => pe_callB (cr_any hc) hg hm boot_any' h (he := na _ _)) na
def pMin2 : PV → PV → Option PV
  | .int i, .int j => some (.int (if j < i then j else i))
  | _, _ => none
def pMax2 : PV → PV → Option PV
  | .int i, .int j => some (.int (if i < j then j else i))
  | _, _ => none
theorem se_min2 (hc : X.calm = true) (hg : Gl X "min") (hm : X.mg "min" = none) (ha : SB X a f) (hb : SB X b g) (na : NS a := by intro _ _; rfl) (nb : NS b := by intro _ _; rfl) : SE X (.Call (.Name "min" p) [a, b] [] pos) (e2 pMin2 f g) :=
  se_un2 (fun F H x y v w z Q fh d1 d2 e q => by
    unfold pMin2 at e
    split at e
    · cases e
      obtain rfl := bor_int d1
      obtain rfl := bor_int d2
      exact ⟨_, _, rfl, fin0 fh (.int _) q⟩
    · cases e) ha hb (fun h => pe_callB (call_min2 hc) hg hm boot_min' h (he := na _ _) (hpl := nb.one _ _)) na nb
theorem se_max2 (hc : X.calm = true) (hg : Gl X "max") (hm : X.mg "max" = none) (ha : SB X a f) (hb : SB X b g) (na : NS a := by intro _ _; rfl) (nb : NS b := by intro _ _; rfl) : SE X (.Call (.Name "max" p) [a, b] [] pos) (e2 pMax2 f g) :=
  se_un2 (fun F H x y v w z Q fh d1 d2 e q => by
    unfold pMax2 at e
    split at e
    · cases e
      obtain rfl := bor_int d1
      obtain rfl := bor_int d2
      exact ⟨_, _, rfl, fin0 fh (.int _) q⟩
    · cases e) ha hb (fun h => pe_callB (call_max2 hc) hg hm boot_max' h (he := na _ _) (hpl := nb.one _ _)) na nb

/-! isinstance -/
def tyName : PV → Option String
  | .none => some "NoneType"
  | .bool _ => some "bool"
  | .int _ => some "int"
  | .str _ => some "str"
  | .list _ => some "list"
  | .tuple _ => some "tuple"
  | .dict _ => none
theorem ty_of {F H : Hp} {x : V} {v : PV} {t : String} (fh : Same F H) (d : BoR K F H x v) (h : tyName v = some t) : TyX K H x (.type t) := by
  cases v with
  | none => cases h; obtain rfl := bor_none d; exact .base .non
  | bool b => cases h; obtain rfl := bor_bool d; exact .base (.bl b)
  | int i => cases h; obtain rfl := bor_int d; exact .base (.int i)
  | str i => cases h; obtain rfl := bor_str d; exact .base (.str i)
  | list l =>
    cases h
    obtain ⟨p, xs, rfl, h1, d1⟩ := bor_lst fh d
    rcases h1 with (h1 | ⟨o, h1⟩) | ⟨o, is, m, h1, hc, _⟩
    · exact .base (.lst h1)
    · exact .base (.frz h1)
    · exact .kList h1 hc
  | tuple l =>
    cases h
    obtain ⟨p, xs, rfl, f1, h1, d1⟩ := bor_tup fh d
    rcases h1 with (h1 | ⟨o, h1⟩) | ⟨o, is, m, h1, hc, _⟩
    · exact .base (.tup h1)
    · exact .fTuple h1
    · exact .kTuple h1 hc
  | dict l => cases h
def pIsi (T : String) (v : PV) : Option PV := (tyName v).bind fun t => (kitB t T).bind fun b => some (.bool b)
/-- isinstance(a, T), T a built-in class by its name -/
theorem se_isi {T : Str} {n : String} {pT : Pos} (hg : Gl X "isinstance") (hm : X.mg "isinstance" = none) (ha : SB X a f) (hT : PE X (.Name T pT) (tC (.ty n))) (na : NS a := by intro _ _; rfl) : SE X (.Call (.Name "isinstance" p) [a, .Name T pT] [] pos) (e1 (pIsi n) f) :=
  PE.imp (pe_callB call_isi hg hm boot_isi' (pa_cons ha (pa_cons hT pa_nil) (na _ _)) (he := na _ _)) fun σ H Q ⟨B, F0, F, ρ, z, R, e, q⟩ => by
    obtain ⟨v, e1, e2⟩ := bind_some e
    refine ⟨B, F0, F, ρ, v, R, e1, fun x H1 F1 R1 E1 d1 => ?_⟩
    obtain ⟨t, e3, e4⟩ := bind_some e2
    obtain ⟨k, e5, e6⟩ := bind_some e4
    cases e6
    exact ⟨x, .ty n, .type t, .type n, k, rfl, .ty n, ty_of R1.fh d1 e3, kit_ty e5, q _ _ _ R1 E1 (.bl _)⟩
theorem kit_vals : kitB "NoneType" "int" = some false ∧ kitB "bool" "int" = some true ∧ kitB "int" "int" = some true ∧ kitB "str" "int" = some false ∧ kitB "list" "int" = some false ∧ kitB "tuple" "int" = some false ∧
    kitB "NoneType" "bool" = some false ∧ kitB "bool" "bool" = some true ∧ kitB "int" "bool" = some false ∧ kitB "str" "bool" = some false ∧ kitB "list" "bool" = some false ∧ kitB "tuple" "bool" = some false ∧
    kitB "NoneType" "tuple" = some false ∧ kitB "bool" "tuple" = some false ∧ kitB "int" "tuple" = some false ∧ kitB "str" "tuple" = some false ∧ kitB "list" "tuple" = some false ∧ kitB "tuple" "tuple" = some true ∧
    kitB "NoneType" "str" = some false ∧ kitB "bool" "str" = some false ∧ kitB "int" "str" = some false ∧ kitB "str" "str" = some true ∧ kitB "list" "str" = some false ∧ kitB "tuple" "str" = some false := by decide +kernel
end
end Pl

set_option Elab.async false
set_option linter.all false
set_option maxRecDepth 100000
set_option maxHeartbeats 4000000
set_option autoImplicit false
namespace Pl
open PySem PySem.Spec PyProof.Rows L2
open PySem.W (alike dataLt lt_data le_data gt_data ge_data)
variable {K : PySem.W.Frag}

/-! ### what is walked -/
/-- the iterator J yields the items l while all of G stands; each item stands in F, or is a new tuple of such -/
structure Yl (K : PySem.W.Frag) (J : It) (l : List PV) (F G : Hp) : Prop where
  go : ∀ (i : Nat) (H : Hp), Same G H → i < l.length → J.go i H
  stop : ∀ (i : Nat) (H : Hp), Same G H → l.length = i → J.stop i H
  yld : ∀ (i : Nat) (H : Hp) (x : V) (H' : Hp), Same G H → i < l.length → J.yld i H x H' → ∃ d, l[i]? = some d ∧ ((H' = H ∧ Dr K F x d) ∨ ∃ T xs ds, x = .ref T ∧ H T = none ∧ H' = upd H T (.tup xs) ∧ DrAll K F xs ds ∧ d = .tuple ds)
abbrev LF := PEnv → Option (List PV)
/-- for a loop: what is walked never changes -/
def tI (K : PySem.W.Frag) (L : LF) : TI := fun σ H R => ∃ B F0 F ρ l, RE K B F0 F H σ ρ ∧ L ρ = some l ∧ ∀ J H' F', RE K B F0 F' H' σ ρ → Ext F H F' H' → Yl K J l F' F' → R J H'
/-- for a comprehension: an own list may be walked too -/
def tIB (K : PySem.W.Frag) (L : LF) : TI := fun σ H R => ∃ B F0 F ρ l, RE K B F0 F H σ ρ ∧ L ρ = some l ∧ ∀ J H' F' G, RE K B F0 F' H' σ ρ → Ext F H F' H' → Same F' G → Same G H' → Yl K J l F' G → R J H'
abbrev SI (X : Cx) (tg e : Expr) (L : LF) : Prop := PI X tg e (tI X.K L)
abbrev SIB (X : Cx) (tg e : Expr) (L : LF) : Prop := PI X tg e (tIB X.K L)
section
variable {X : Cx} {tg a b c e : Expr} {f g : PF} {pos p : Pos} {x : Str}
theorem PI.imp {t t' : TI} (h : PI X tg e t) (i : ∀ σ H Q, t' σ H Q → t σ H Q) : PI X tg e t' := ⟨fun pins s σ H Q I q => h.run pins s σ H Q I (i σ H Q q)⟩
theorem sib_of {L : LF} (h : SI X tg e L) : SIB X tg e L := PI.imp h fun σ H R ⟨B, F0, F, ρ, l, R1, e, q⟩ => ⟨B, F0, F, ρ, l, R1, e, fun J H' F' R' E' y => q J H' F' F' R' E' (Same.refl _) R'.fh y⟩
/-- a list or a tuple, whichever it is -/
def iSeq (K : PySem.W.Frag) (tl : TE) : TI := fun σ H R => tl σ H fun x H1 => ∃ a, x = .ref a ∧ (((∃ xs, SqL K H1 a xs) ∧ R (Itl K a) H1) ∨ ((∃ xs, SqT K H1 a xs) ∧ R (Itt K a) H1))
theorem pi_seq {tl : TE} (hl : PE X e tl) : PI X tg e (iSeq X.K tl) := by
  refine ⟨fun pins s σ H R I h => thn (hl.run pins s σ H _ I h) fun v s1 ⟨y, H1, I1, ry, q1⟩ => ?_⟩
  obtain ⟨ad, ey, q2⟩ := q1
  subst ey
  cases ry
  have fp : ∀ b ∈ [s1.heap.objs.size], FpOk X pins H1 b := fun b hb => by
    rw [List.mem_singleton.mp hb]
    exact I1.fpOk (Nat.le_refl _) I1.fresh
  have kp : ∀ o : Obj, Inv X pins σ H1 { s1 with heap := s1.heap.push o } := fun o => I1.kept (t' := s1.toks) fun _ _ z => Heap.get?_push_of_some _ z
  rcases q2 with ⟨⟨xs, hq⟩, r⟩ | ⟨⟨xs, hq⟩, r⟩
  · obtain ⟨its, rv, pl, hz⟩ := I1.list hq
    exact wpAny_pyIter_list pl.isList ⟨_, _, _, _, H1, rfl, kp _, turn_list ad _, ⟨_, Heap.get?_push_size _ rfl, rfl, rfl⟩, fp, r⟩
  · obtain ⟨its, rv, pl, hz⟩ := I1.tuple hq
    exact wpAny_pyIter_tuple (show s1.heap.IsTuple ad its.toArray from pl) ⟨_, _, _, _, H1, rfl, kp _, turn_tuple ad _, ⟨_, Heap.get?_push_size _ rfl, rfl, rfl⟩, fp, r⟩
def toL : PV → Option (List PV)
  | .list l => some l
  | .tuple l => some l
  | _ => none
def lSeq (f : PF) : LF := fun ρ => (f ρ).bind toL
theorem yl_list {a : Addr} {xs : List V} {l : List PV} {F G : Hp} (h : SqL K G a xs) (d : DrAll K F xs l) : Yl K (Itl K a) l F G where
  go := fun i H s hi => by
    obtain ⟨v, h1, h2⟩ := drAll_get d (List.getElem?_eq_getElem hi)
    exact ⟨xs, v, sqL_same s h, h1⟩
  stop := fun i H s hi => ⟨xs, sqL_same s h, by rw [drAll_length d]; exact Nat.le_of_eq hi⟩
  yld := fun i H x H' s hi y => by
    obtain ⟨e1, e2⟩ := y
    obtain ⟨dd, h1, h2⟩ := drAll_get' d (e2 xs (sqL_same s h))
    exact ⟨dd, h1, .inl ⟨e1, h2⟩⟩
theorem yl_tup {a : Addr} {xs : List V} {l : List PV} {F G : Hp} (h : SqT K G a xs) (d : DrAll K F xs l) : Yl K (Itt K a) l F G where
  go := fun i H s hi => by
    obtain ⟨v, h1, h2⟩ := drAll_get d (List.getElem?_eq_getElem hi)
    exact ⟨xs, v, sqT_same s h, h1⟩
  stop := fun i H s hi => ⟨xs, sqT_same s h, by rw [drAll_length d]; exact Nat.le_of_eq hi⟩
  yld := fun i H x H' s hi y => by
    obtain ⟨e1, e2⟩ := y
    obtain ⟨dd, h1, h2⟩ := drAll_get' d (e2 xs (sqT_same s h))
    exact ⟨dd, h1, .inl ⟨e1, h2⟩⟩
theorem si_seq (ha : SE X a f) : SI X tg a (lSeq f) := PI.imp (pi_seq ha) fun σ H R ⟨B, F0, F, ρ, l, R1, e, q⟩ => by
  obtain ⟨v, e1, e2⟩ := bind_some e
  refine ⟨B, F0, F, ρ, v, R1, e1, fun x H1 F1 R2 E1 d1 => ?_⟩
  unfold toL at e2
  split at e2
  · cases e2
    cases d1 with
    | lst hs ha => exact ⟨_, rfl, .inl ⟨⟨_, sqL_same R2.fh hs⟩, q _ _ _ R2 E1 (yl_list hs ha)⟩⟩
  · cases e2
    cases d1 with
    | tup hs ha => exact ⟨_, rfl, .inr ⟨⟨_, sqT_same R2.fh hs⟩, q _ _ _ R2 E1 (yl_tup hs ha)⟩⟩
  · cases e2
theorem same_add {F H : Hp} {a : Addr} {o : HO} (fh : Same F H) (h : H a = some o) : Same F (upd F a o) ∧ Same (upd F a o) H := ⟨fun b u e => by
  by_cases z : b = a
  · subst z
    rw [upd_same, ← h, fh _ _ e]
  · rw [upd_ne z]
    exact e, fun b u e => by
  by_cases z : b = a
  · subst z
    rw [upd_same] at e
    rw [h]
    exact e
  · rw [upd_ne z] at e
    exact fh _ _ e⟩
theorem sib_seq (ha : SB X a f) : SIB X tg a (lSeq f) := PI.imp (pi_seq ha) fun σ H R ⟨B, F0, F, ρ, l, R1, e, q⟩ => by
  obtain ⟨v, e1, e2⟩ := bind_some e
  refine ⟨B, F0, F, ρ, v, R1, e1, fun x H1 F1 R2 E1 d1 => ?_⟩
  unfold toL at e2
  split at e2
  · cases e2
    rcases d1 with d1 | ⟨p, rfl, xs, h1, h2⟩
    · cases d1 with
      | lst hs ha => exact ⟨_, rfl, .inl ⟨⟨_, sqL_same R2.fh hs⟩, q _ _ _ _ R2 E1 (Same.refl _) R2.fh (yl_list hs ha)⟩⟩
    · obtain ⟨s1, s2⟩ := same_add R2.fh h1
      exact ⟨p, rfl, .inl ⟨⟨_, .inl (.inl h1)⟩, q _ _ _ _ R2 E1 s1 s2 (yl_list (.inl (.inl upd_same)) h2)⟩⟩
  · cases e2
    obtain ⟨p, xs, rfl, f1, h1, d1⟩ := bor_tup R2.fh d1
    exact ⟨p, rfl, .inr ⟨⟨_, h1⟩, q _ _ _ _ R2 E1 (Same.refl _) R2.fh (yl_tup f1 d1)⟩⟩
  · cases e2
/-- a, a + 1, .. b - 1 -/
def rng (a b : Int) : List Int := (List.range (b - a).toNat).map fun i => a + ((i : Nat) : Int)
theorem rng_length (a b : Int) : (rng a b).length = (b - a).toNat := by unfold rng; rw [List.length_map, List.length_range]
theorem rng_get (a b : Int) (i : Nat) (h : i < (b - a).toNat) : (rng a b)[i]? = some (a + (i : Int)) := by
  unfold rng
  rw [List.getElem?_map, List.getElem?_range h]
  rfl
theorem yl_rng (a b : Int) (F G : Hp) : Yl K (Itr a (b - a).toNat) ((rng a b).map PyData.int) F G where
  go := fun i H s hi => by
    rw [List.length_map, rng_length] at hi
    exact hi
  stop := fun i H s hi => by
    rw [List.length_map, rng_length] at hi
    exact Nat.le_of_eq hi
  yld := fun i H x H' s hi y => by
    obtain ⟨e1, e2⟩ := y
    subst e1 e2
    rw [List.length_map, rng_length] at hi
    refine ⟨.int (a + (i : Int)), ?_, .inl ⟨rfl, .int _⟩⟩
    rw [List.getElem?_map, rng_get a b i hi]
    rfl
def rOk (a b : Int) : Bool := decide (-(2 ^ 62) ≤ a) && (decide (a < 2 ^ 62) && (decide (-(2 ^ 62) ≤ b) && decide (b < 2 ^ 62)))
theorem rOk_iff {a b : Int} (h : rOk a b = true) : -(2 ^ 62) ≤ a ∧ a < 2 ^ 62 ∧ -(2 ^ 62) ≤ b ∧ b < 2 ^ 62 := by
  unfold rOk at h
  simp only [Bool.and_eq_true, decide_eq_true_eq] at h
  exact h
def pRng (v w : PV) : Option (List PV) := (toI v).bind fun i => (toI w).bind fun j => if rOk i j = true then some ((rng i j).map PyData.int) else none
def lRng1 (f : PF) : LF := fun ρ => (f ρ).bind fun v => pRng (.int 0) v
def lRng2 (f g : PF) : LF := fun ρ => (f ρ).bind fun v => (g ρ).bind fun w => pRng v w
theorem pRng_some {v w : PV} {l : List PV} (h : pRng v w = some l) : ∃ i j, v = .int i ∧ w = .int j ∧ (-(2 ^ 62) ≤ i ∧ i < 2 ^ 62 ∧ -(2 ^ 62) ≤ j ∧ j < 2 ^ 62) ∧ l = (rng i j).map PyData.int := by
  obtain ⟨i, h1, h2⟩ := bind_some h
  obtain ⟨j, h3, h4⟩ := bind_some h2
  split at h4
  · rename_i ok
    cases h4
    exact ⟨i, j, toI_some h1, toI_some h3, rOk_iff ok, rfl⟩
  · cases h4
theorem si_rng1 (hg : Gl X "range") (hm : X.mg "range" = none) (ha : SB X a f) (na : NS a := by intro _ _; rfl) : SI X tg (.Call (.Name "range" p) [a] [] pos) (lRng1 f) := PI.imp (pi_range1 hg hm (pa_cons ha pa_nil (na _ _)) (na _ _)) fun σ H R ⟨B, F0, F, ρ, l, R1, e, q⟩ => by
  obtain ⟨v, e1, e2⟩ := bind_some e
  obtain ⟨i, j, hi, rfl, ok, rfl⟩ := pRng_some e2
  cases hi
  refine ⟨B, F0, F, ρ, _, R1, e1, fun x H1 F1 R2 E1 d1 => ?_⟩
  obtain rfl := bor_int d1
  refine ⟨j, rfl, ok.2.2.1, ok.2.2.2, q _ _ _ R2 E1 ?_⟩
  have := yl_rng (K := X.K) 0 j F1 F1
  rw [Int.sub_zero] at this
  exact this
theorem si_rng2 (hg : Gl X "range") (hm : X.mg "range" = none) (ha : SB X a f) (hb : SB X b g) (na : NS a := by intro _ _; rfl) (nb : NS b := by intro _ _; rfl) : SI X tg (.Call (.Name "range" p) [a, b] [] pos) (lRng2 f g) :=
  PI.imp (pi_range2 hg hm (pa_cons ha (pa_cons hb pa_nil (nb _ _)) (na _ _)) (by rw [na, nb]; rfl) (nb _ _)) fun σ H R ⟨B, F0, F, ρ, l, R1, e, q⟩ => by
  obtain ⟨v, e1, e2⟩ := bind_some e
  obtain ⟨w, e3, e4⟩ := bind_some e2
  obtain ⟨i, j, rfl, rfl, ok, rfl⟩ := pRng_some e4
  refine ⟨B, F0, F, ρ, _, R1, e1, fun x H1 F1 R2 E1 d1 => ⟨B, F0, F1, ρ, _, R2, e3, fun y H2 F2 R3 E2 d2 => ?_⟩⟩
  obtain rfl := bor_int d1
  obtain rfl := bor_int d2
  exact ⟨i, j, rfl, ok, q _ _ _ R3 (E1.trans E2) (yl_rng i j F2 F2)⟩

/-! ### targets -/
abbrev GF := PV → PEnv → Option PEnv
def tG (K : PySem.W.Frag) (h : GF) (ts : List Nat) : TG := fun x σ H Q => ∃ B F0 F ρ d ρ', RE K B F0 F H σ ρ ∧ Dr K F x d ∧ h d ρ = some ρ' ∧ ∀ σ', RE K B F0 F H σ' ρ' → (∀ vs : List Nat, (∀ i ∈ ts, i ∈ vs) → wipe σ' vs = wipe σ vs) → (∀ (i : Nat) v, ρ'[i]? = some (.own v) → ρ[i]? = some (.own v) ∧ σ'[i]? = σ[i]?) → Q σ' H
abbrev SG (X : Cx) (tg : Expr) (h : GF) (ts : List Nat) : Prop := PG X tg (tG X.K h ts)
theorem PG.imp {t t' : TG} (h : PG X tg t) (i : ∀ x σ H Q, t' x σ H Q → t x σ H Q) : PG X tg t' := ⟨fun pins s σ H v u Q I r q => h.run pins s σ H v u Q I r (i v σ H Q q)⟩
def gN (i : Nat) : GF := fun d ρ => if i < ρ.length then some (ρ.set i (.val d)) else none
theorem RE.setVal {B F0 F H : Hp} {σ : L2.St} {ρ : PEnv} {i : Nat} {v : V} {d : PV} (R : RE K B F0 F H σ ρ) (hd : Dr K F v d) : RE K B F0 F H (σ.set i (some v)) (ρ.set i (.val d)) := by
  refine ⟨R.fh, R.bh, R.f0, R.ff, by rw [List.length_set, List.length_set]; exact R.len, fun j w h => ?_, fun j w h => ?_, fun j k w w' ad h1 h2 h3 h4 => ?_⟩
  · by_cases z : i = j
    · subst z
      by_cases hi : i < ρ.length
      · rw [List.getElem?_set_self hi] at h
        cases h
        exact ⟨v, List.getElem?_set_self (by rw [R.len]; exact hi), hd⟩
      · rw [List.getElem?_eq_none (by rw [List.length_set]; omega)] at h
        cases h
    · rw [List.getElem?_set_ne z] at h ⊢
      exact R.val j w h
  · by_cases z : i = j
    · subst z
      by_cases hi : i < ρ.length
      · rw [List.getElem?_set_self hi] at h
        cases h
      · rw [List.getElem?_eq_none (by rw [List.length_set]; omega)] at h
        cases h
    · rw [List.getElem?_set_ne z] at h ⊢
      exact R.own j w h
  · have f : ∀ m u, (ρ.set i (.val d))[m]? = some (.own u) → i ≠ m ∧ ρ[m]? = some (.own u) := fun m u h => by
      by_cases z : i = m
      · subst z
        by_cases hi : i < ρ.length
        · rw [List.getElem?_set_self hi] at h
          cases h
        · rw [List.getElem?_eq_none (by rw [List.length_set]; omega)] at h
          cases h
      · rw [List.getElem?_set_ne z] at h
        exact ⟨z, h⟩
    obtain ⟨z1, g1⟩ := f j w h1
    obtain ⟨z2, g2⟩ := f k w' h2
    rw [List.getElem?_set_ne z1] at h3
    rw [List.getElem?_set_ne z2] at h4
    exact R.sep j k w w' ad g1 g2 h3 h4
theorem wipe_set {σ : L2.St} {i : Nat} {o : Option V} : ∀ {vs : List Nat}, i ∈ vs → wipe (σ.set i o) vs = wipe σ vs
  | [], h => by cases h
  | v :: vs, h => by
    unfold wipe
    by_cases z : i = v
    · subst z
      by_cases hv : i ∈ vs
      · rw [wipe_set hv]
      · have : ∀ vs : List Nat, i ∉ vs → wipe (σ.set i o) vs = (wipe σ vs).set i o := fun vs => by
          induction vs with
          | nil => intro _; rfl
          | cons w ws ih =>
            intro h
            simp only [List.mem_cons, not_or] at h
            unfold wipe
            rw [ih h.2, List.set_comm _ _ h.1]
        rw [this vs hv, List.set_set]
    · have : i ∈ vs := by
        rcases List.mem_cons.mp h with h | h
        · exact absurd h z
        · exact h
      rw [wipe_set this]
theorem sg_name {i : Nat} {pos' : Pos} (hN : X.N.Nodup) (hi : X.N[i]? = some x) (hx : Loc X.env.scope x) (hf : X.fn x = true ∨ X.env.scope.names.lookup x = some .local := by first | exact .inl rfl | exact .inr rfl | assumption) : SG X (.Name x pos') (gN i) [i] :=
  PG.imp (pg_name hN hi hx hf) fun y σ H Q ⟨B, F0, F, ρ, d, ρ', R, dr, e, q⟩ => by
    unfold gN at e
    split at e
    · cases e
      refine q _ (R.setVal dr) (fun vs h => wipe_set (h i (by simp))) fun j w h => ?_
      by_cases z : i = j
      · subst z
        rw [List.getElem?_set_self (by assumption)] at h
        cases h
      · rw [List.getElem?_set_ne z] at h ⊢
        exact ⟨h, rfl⟩
    · cases e
/-! several -/
abbrev GFs := List PV → PEnv → Option PEnv
def tGs (K : PySem.W.Frag) (h : GFs) (ts : List Nat) : TGs := fun xs σ H Q => ∃ B F0 F ρ d ρ', RE K B F0 F H σ ρ ∧ DrAll K F xs d ∧ h d ρ = some ρ' ∧ ∀ σ', RE K B F0 F H σ' ρ' → (∀ vs : List Nat, (∀ i ∈ ts, i ∈ vs) → wipe σ' vs = wipe σ vs) → (∀ (i : Nat) v, ρ'[i]? = some (.own v) → ρ[i]? = some (.own v) ∧ σ'[i]? = σ[i]?) → Q σ' H
abbrev SGs (X : Cx) (tgs : List Expr) (h : GFs) (ts : List Nat) : Prop := PGs X tgs (tGs X.K h ts)
theorem PGs.imp {es : List Expr} {t t' : TGs} (h : PGs X es t) (i : ∀ x σ H Q, t' x σ H Q → t x σ H Q) : PGs X es t' := ⟨fun pins s σ H v u Q I r q => h.run pins s σ H v u Q I r (i v σ H Q q)⟩
def gNil' : GFs := fun ds ρ => match ds with
  | [] => some ρ
  | _ => none
def gCons' (h : GF) (r : GFs) : GFs := fun ds ρ => match ds with
  | [] => none
  | d :: t => (h d ρ).bind fun ρ1 => r t ρ1
def gT (h : GFs) : GF := fun d ρ => match d with
  | .tuple l => h l ρ
  | _ => none
theorem sgs_nil : SGs X [] gNil' [] := PGs.imp pgs_nil fun xs σ H Q ⟨B, F0, F, ρ, d, ρ', R, dr, e, q⟩ => by
  unfold gNil' at e
  split at e
  · cases e
    cases dr
    exact ⟨rfl, q _ R (fun vs _ => rfl) fun _ _ h => ⟨h, rfl⟩⟩
  · cases e
theorem sgs_cons {es : List Expr} {h : GF} {r : GFs} {t1 t2 : List Nat} (h1 : SG X e h t1) (h2 : SGs X es r t2) (hs : (assignEach (e :: es) X.env).map (·.2) = assign e X.env :: (assignEach es X.env).map (·.2) := by rfl) : SGs X (e :: es) (gCons' h r) (t1 ++ t2) :=
  PGs.imp (pgs_cons h1 h2 hs) fun xs σ H Q ⟨B, F0, F, ρ, d, ρ', R, dr, e, q⟩ => by
    unfold gCons' at e
    split at e
    · cases e
    · rename_i d0 t
      cases dr with
      | cons g1 g2 =>
        obtain ⟨ρ1, e1, e2⟩ := bind_some e
        refine ⟨_, _, rfl, B, F0, F, ρ, d0, ρ1, R, g1, e1, fun σ1 R1 w1 o1 => ⟨B, F0, F, ρ1, t, ρ', R1, g2, e2, fun σ2 R2 w2 o2 => q _ R2 (fun vs hv => ?_) fun i v h => ?_⟩⟩
        · rw [w2 vs fun i hi => hv i (List.mem_append_right _ hi), w1 vs fun i hi => hv i (List.mem_append_left _ hi)]
        · obtain ⟨h1, h2⟩ := o2 i v h
          obtain ⟨h3, h4⟩ := o1 i v h1
          exact ⟨h3, h2.trans h4⟩
theorem sg_tup {es : List Expr} {k n : Nat} {h : GFs} {ts : List Nat} (hc : X.calm = true) (hs : SGs X es h ts) (hn : (assignEach es X.env).length = n := by rfl) (hst : (assignEach es X.env).findIdx? (·.1) = none := by rfl) (hl : ∀ ds ρ ρ', h ds ρ = some ρ' → ds.length = n) : SG X (.Tuple es k pos) (gT h) ts :=
  PG.imp (pg_tup hc hs hn hst) fun y σ H Q ⟨B, F0, F, ρ, d, ρ', R, dr, e, q⟩ => by
    unfold gT at e
    split at e
    · rename_i l
      cases dr with
      | tup hs ha =>
        exact ⟨_, _, rfl, sqT_same R.fh hs, by rw [drAll_length ha]; exact hl _ _ _ e, B, F0, F, ρ, l, ρ', R, ha, e, q⟩
    · cases e
theorem gNil_len : ∀ ds ρ ρ', gNil' ds ρ = some ρ' → ds.length = 0 := fun ds ρ ρ' h => by
  unfold gNil' at h
  split at h
  · rfl
  · cases h
theorem gCons_len {h : GF} {r : GFs} {n : Nat} (hr : ∀ ds ρ ρ', r ds ρ = some ρ' → ds.length = n) : ∀ ds ρ ρ', gCons' h r ds ρ = some ρ' → ds.length = n + 1 := fun ds ρ ρ' e => by
  unfold gCons' at e
  split at e
  · cases e
  · obtain ⟨ρ1, e1, e2⟩ := bind_some e
    rw [List.length_cons, hr _ _ _ e2]

/-! ### comprehensions -/
def wipeE (ρ : PEnv) : List Nat → PEnv
  | [] => ρ
  | v :: vs => (wipeE ρ vs).set v .un
theorem RE.setUn {B F0 F H : Hp} {σ : L2.St} {ρ : PEnv} {i : Nat} {o : Option V} (R : RE K B F0 F H σ ρ) : RE K B F0 F H (σ.set i o) (ρ.set i .un) := by
  have f : ∀ m s, (ρ.set i .un)[m]? = some s → s ≠ .un → i ≠ m ∧ ρ[m]? = some s := fun m s h n => by
    by_cases z : i = m
    · subst z
      by_cases hi : i < ρ.length
      · rw [List.getElem?_set_self hi] at h
        cases h
        exact absurd rfl n
      · rw [List.getElem?_eq_none (by rw [List.length_set]; omega)] at h
        cases h
    · rw [List.getElem?_set_ne z] at h
      exact ⟨z, h⟩
  refine ⟨R.fh, R.bh, R.f0, R.ff, by rw [List.length_set, List.length_set]; exact R.len, fun j w h => ?_, fun j w h => ?_, fun j k w w' ad h1 h2 h3 h4 => ?_⟩
  · obtain ⟨z, g⟩ := f j _ h (fun q => by cases q)
    rw [List.getElem?_set_ne z]
    exact R.val j w g
  · obtain ⟨z, g⟩ := f j _ h (fun q => by cases q)
    rw [List.getElem?_set_ne z]
    exact R.own j w g
  · obtain ⟨z1, g1⟩ := f j _ h1 (fun q => by cases q)
    obtain ⟨z2, g2⟩ := f k _ h2 (fun q => by cases q)
    rw [List.getElem?_set_ne z1] at h3
    rw [List.getElem?_set_ne z2] at h4
    exact R.sep j k w w' ad g1 g2 h3 h4
theorem RE.wiped {B F0 F H : Hp} {σ : L2.St} {ρ : PEnv} (R : RE K B F0 F H σ ρ) : ∀ vs : List Nat, RE K B F0 F H (wipe σ vs) (wipeE ρ vs)
  | [] => R
  | v :: vs => (R.wiped vs).setUn
def compL (h : GF) (c : PEnv → Option Bool) (e : PF) (ρ : PEnv) : List PV → Option (List PV)
  | [] => some []
  | x :: r => (h x ρ).bind fun ρ1 => (c ρ1).bind fun b => if b = true then (e ρ1).bind fun y => (compL h c e ρ r).bind fun ys => some (y :: ys) else compL h c e ρ r
def eComp (L : LF) (vs : List Nat) (h : GF) (c : PEnv → Option Bool) (e : PF) : PF := fun ρ => (L ρ).bind fun l => (compL h c e (wipeE ρ vs) l).bind pLst
def cYes : PEnv → Option Bool := fun _ => some true
/-- the tests of a clause -/
structure STs (X : Cx) (ifs : List Expr) (c : PEnv → Option Bool) : Prop where
  h : PTs X ifs (tT X.K c)
theorem PTs.imp {ifs : List Expr} {t t' : TT} (h : PTs X ifs t) (i : ∀ σ H Q, t' σ H Q → t σ H Q) : PTs X ifs t' := ⟨fun pins s σ H Q I q => h.run pins s σ H Q I (i σ H Q q)⟩
theorem sts_nil : PTs X [] (tT X.K cYes) := PTs.imp pts_nil fun σ H Q ⟨B, F0, F, ρ, z, R, e, q⟩ => by
  cases e
  exact q _ _ R (Ext.refl _ _)
theorem sts_one {k : PEnv → Option Bool} (h : ST X c k) : PTs X [c] (tT X.K k) := pts_one h
end
end Pl

set_option Elab.async false
set_option linter.all false
set_option maxRecDepth 100000
set_option maxHeartbeats 4000000
set_option autoImplicit false
namespace Pl
open PySem PySem.Spec PyProof.Rows L2
open PySem.W (alike dataLt lt_data le_data gt_data ge_data)
variable {K : PySem.W.Frag}

theorem RE.updOther {B F0 F H : Hp} {σ : L2.St} {ρ : PEnv} {D : Addr} {o : HO} (R : RE K B F0 F H σ ρ) (fd : F D = none) (bd : B D = none) (no : ∀ (i : Nat) v, ρ[i]? = some (.own v) → σ[i]? ≠ some (some (.ref D))) : RE K B F0 F (upd H D o) σ ρ := by
  refine ⟨fun b u e => ?_, fun b u e => ?_, R.f0, R.ff, R.len, R.val, fun i v h => ?_, R.sep⟩
  · rw [upd_ne (ne_of_none e fd)]
    exact R.fh _ _ e
  · rw [upd_ne (ne_of_none e bd)]
    exact R.bh _ _ e
  · obtain ⟨a, h1, h2, h3, h4⟩ := R.own i v h
    have z : a ≠ D := fun z => no i v h (z ▸ h1)
    exact ⟨a, h1, h2, h3, h4.same (Same.refl _) (upd_ne z)⟩
theorem RE.notOwn {B F0 F H : Hp} {σ : L2.St} {ρ : PEnv} {D : Addr} (R : RE K B F0 F H σ ρ) (h : H D = none) : ∀ (i : Nat) v, ρ[i]? = some (.own v) → σ[i]? ≠ some (some (.ref D)) := fun i v hi z => by
  obtain ⟨a, h1, h2, h3, h4⟩ := R.own i v hi
  obtain ⟨u, hu⟩ := h4.some
  rw [z] at h1
  cases h1
  rw [h] at hu
  cases hu
/-- a comprehension under way: D is the new list, got what it holds; rs: the slots that are kept -/
structure LcI (K : PySem.W.Frag) (B F0 F1 H1 G : Hp) (rs : List (L2.St × PEnv)) (D : Addr) (got : List PV) (Fc Hc : Hp) (acc : List V) : Prop where
  re : ∀ p ∈ rs, RE K B F0 Fc Hc p.1 p.2
  no : ∀ p ∈ rs, ∀ (i : Nat) v, p.2[i]? = some (.own v) → p.1[i]? ≠ some (some (.ref D))
  f : Same F1 Fc
  fh : Same Fc Hc
  g : Same G Hc
  h : Same H1 Hc
  n : ∀ a o, Fc a = some o → F1 a = some o ∨ H1 a = none
  fd : Fc D = none
  bd : B D = none
  gd : G D = none
  d1 : H1 D = none
  hd : Hc D = some (.lst acc)
  dr : DrAll K Fc acc got
theorem LcI.ext {B F0 F1 H1 G : Hp} {rs : List (L2.St × PEnv)} {D : Addr} {got : List PV} {Fc Hc F2 H2 : Hp} {acc : List V} (I : LcI K B F0 F1 H1 G rs D got Fc Hc acc) (E : Ext Fc Hc F2 H2) (s : Same F2 H2) : LcI K B F0 F1 H1 G rs D got F2 H2 acc where
  re := fun p hp => (I.re p hp).ext E s
  no := I.no
  f := I.f.trans E.f
  fh := s
  g := I.g.trans E.h
  h := I.h.trans E.h
  n := fun a o q => by
    rcases E.n a o q with z | z
    · exact I.n a o z
    · exact .inr (I.h.free z)
  fd := E.keepNone I.hd I.fd
  bd := I.bd
  gd := I.gd
  d1 := I.d1
  hd := E.h _ _ I.hd
  dr := drAll_same E.f _ _ I.dr
theorem LcI.push {B F0 F1 H1 G : Hp} {rs : List (L2.St × PEnv)} {D : Addr} {got : List PV} {Fc Hc : Hp} {acc : List V} {y : V} {d : PV} (I : LcI K B F0 F1 H1 G rs D got Fc Hc acc) (q : Dr K Fc y d) : LcI K B F0 F1 H1 G rs D (got ++ [d]) Fc (upd Hc D (.lst (acc ++ [y]))) (acc ++ [y]) where
  re := fun p hp => (I.re p hp).updOther I.fd I.bd (I.no p hp)
  no := I.no
  f := I.f
  fh := fun b u e => by
    rw [upd_ne (ne_of_none e I.fd)]
    exact I.fh _ _ e
  g := fun b u e => by
    rw [upd_ne (ne_of_none e I.gd)]
    exact I.g _ _ e
  h := fun b u e => by
    rw [upd_ne (ne_of_none e I.d1)]
    exact I.h _ _ e
  n := I.n
  fd := I.fd
  bd := I.bd
  gd := I.gd
  d1 := I.d1
  hd := upd_same
  dr := drAll_append I.dr (.cons q .nil)
theorem LcI.addRe {B F0 F1 H1 G : Hp} {rs : List (L2.St × PEnv)} {D : Addr} {got : List PV} {Fc Hc : Hp} {acc : List V} {σ : L2.St} {ρ : PEnv} (I : LcI K B F0 F1 H1 G rs D got Fc Hc acc) (R : RE K B F0 Fc Hc σ ρ) (no : ∀ (i : Nat) v, ρ[i]? = some (.own v) → σ[i]? ≠ some (some (.ref D))) : LcI K B F0 F1 H1 G ((σ, ρ) :: rs) D got Fc Hc acc where
  re := fun p hp => by
    rcases List.mem_cons.mp hp with rfl | hp
    · exact R
    · exact I.re p hp
  no := fun p hp => by
    rcases List.mem_cons.mp hp with rfl | hp
    · exact no
    · exact I.no p hp
  f := I.f
  fh := I.fh
  g := I.g
  h := I.h
  n := I.n
  fd := I.fd
  bd := I.bd
  gd := I.gd
  d1 := I.d1
  hd := I.hd
  dr := I.dr
theorem LcI.lessRe {B F0 F1 H1 G : Hp} {rs rs' : List (L2.St × PEnv)} {D : Addr} {got : List PV} {Fc Hc : Hp} {acc : List V} (I : LcI K B F0 F1 H1 G rs D got Fc Hc acc) (s : ∀ p ∈ rs', p ∈ rs) : LcI K B F0 F1 H1 G rs' D got Fc Hc acc :=
  ⟨fun p hp => I.re p (s p hp), fun p hp => I.no p (s p hp), I.f, I.fh, I.g, I.h, I.n, I.fd, I.bd, I.gd, I.d1, I.hd, I.dr⟩
/-- what an iterator yields, with what is known then -/
theorem Yl.item {J : It} {l : List PV} {F1 G Fc Hc H' : Hp} {i : Nat} {x : V} (Y : Yl K J l F1 G) (f : Same F1 Fc) (fh : Same Fc Hc) (g : Same G Hc) (hi : i < l.length) (y : J.yld i Hc x H') : ∃ d F', l[i]? = some d ∧ Ext Fc Hc F' H' ∧ Same F' H' ∧ Dr K F' x d := by
  obtain ⟨d, h1, h2⟩ := Y.yld i Hc x H' g hi y
  rcases h2 with ⟨rfl, h2⟩ | ⟨T, xs, ds, rfl, hT, rfl, h2, rfl⟩
  · exact ⟨d, Fc, h1, Ext.refl _ _, fh, dr_same f _ _ h2⟩
  · have E := ext_frz (o := HO.tup xs) fh hT
    exact ⟨_, _, h1, E, same_frz fh hT, .tup (.inl (.inl upd_same)) (drAll_same (f.trans E.f) _ _ h2)⟩
theorem wipeE_own {σ : L2.St} {ρ : PEnv} {D : Addr} (h : ∀ (i : Nat) v, ρ[i]? = some (.own v) → σ[i]? ≠ some (some (.ref D))) : ∀ (vs : List Nat) (i : Nat) v, (wipeE ρ vs)[i]? = some (.own v) → (wipe σ vs)[i]? ≠ some (some (.ref D))
  | [], i, v, q => h i v q
  | w :: vs, i, v, q => by
    unfold wipeE at q
    unfold wipe
    by_cases z : w = i
    · subst z
      by_cases hw : w < (wipeE ρ vs).length
      · rw [List.getElem?_set_self hw] at q
        cases q
      · rw [List.getElem?_eq_none (by rw [List.length_set]; omega)] at q
        cases q
    · rw [List.getElem?_set_ne z] at q ⊢
      exact wipeE_own h vs i v q

theorem wipe_out' {σ : L2.St} {w : Nat} : ∀ {vs : List Nat}, w ∉ vs → wipe (σ.set w none) vs = (wipe σ vs).set w none
  | [], _ => rfl
  | v :: vs, h => by
    simp only [List.mem_cons, not_or] at h
    unfold wipe
    rw [wipe_out' h.2, List.set_comm _ _ h.1]
theorem wipe_wipe (σ : L2.St) : ∀ vs : List Nat, wipe (wipe σ vs) vs = wipe σ vs
  | [] => rfl
  | v :: vs => by
    show (wipe ((wipe σ vs).set v none) vs).set v none = (wipe σ vs).set v none
    by_cases h : v ∈ vs
    · rw [wipe_set h, wipe_wipe σ vs]
    · rw [wipe_out' h, wipe_wipe σ vs, List.set_set]

section
variable {X : Cx} {tg a b c e : Expr} {f g : PF} {pos p : Pos} {x : Str}
/-- the loop of one clause, from any point of a comprehension -/
theorem lc_loop {B F0 F1 H1 G : Hp} {rs : List (L2.St × PEnv)} {D : Addr} {σ : L2.St} {ρ : PEnv} {vs ts : List Nat} {J : It} {l : List PV} {FJ GJ : Hp} {h : GF} {k : PEnv → Option Bool} {el : PF} {ys got0 : List PV} {Hs Fs : Hp} {accs : List V} {Qd : Hp → Prop}
    (Y : Yl K J l FJ GJ) (hts : ∀ i ∈ ts, i ∈ vs) (hc : compL h k el (wipeE ρ vs) l = some ys) (hz : (got0 ++ ys).length ≤ sizeLine) (gD : GJ D = none)
    (I0 : LcI K B F0 F1 H1 G rs D got0 Fs Hs accs) (hm : (σ, ρ) ∈ rs) (fj : Same FJ Fs) (gj : Same GJ Hs)
    (hd : ∀ Fc Hc acc, LcI K B F0 F1 H1 G rs D (got0 ++ ys) Fc Hc acc → Qd Hc) :
    ∃ W : Nat → Nat → Hp → Prop, (∃ m, W 0 m Hs) ∧ ∀ i m H, W i m H →
      (J.stop i H ∧ Qd H) ∨ (J.go i H ∧ ∃ Nx : Hp → Prop, (∀ H', Nx H' → ∃ m', m' < m ∧ W (i + 1) m' H') ∧ ∀ x H', J.yld i H x H' → tG K h ts x (wipe σ vs) H' fun σ2 H2 => wipe σ2 vs = wipe σ vs ∧ tT K k σ2 H2 fun b H3 =>
        if b = true then tP K el σ2 H3 fun y H4 => ∃ acc, H4 D = some (.lst acc) ∧ acc.length < sizeLine ∧ Nx (upd H4 D (.lst (acc ++ [y]))) else Nx H3) := by
  let Z : Nat → Hp → Prop := fun i H => i ≤ l.length ∧ ∃ Fc acc got rest, LcI K B F0 F1 H1 G rs D got Fc H acc ∧ Same FJ Fc ∧ Same GJ H ∧ compL h k el (wipeE ρ vs) (l.drop i) = some rest ∧ got ++ rest = got0 ++ ys
  refine ⟨fun i m H => m = l.length - i ∧ Z i H, ⟨l.length, by simp, Nat.zero_le _, Fs, accs, got0, ys, I0, fj, gj, hc, rfl⟩, ?_⟩
  rintro i m H ⟨rfl, hi, Fc, acc, got, rest, I, fc, gc, hr, ht⟩
  by_cases hlt : i < l.length
  · refine .inr ⟨Y.go i H gc hlt, fun H' => Z (i + 1) H', fun H' z => ⟨l.length - (i + 1), by omega, rfl, z⟩, fun x H' y => ?_⟩
    obtain ⟨d, F', h1, E1, s1, dx⟩ := Y.item fc I.fh gc hlt y
    have ed : l.drop i = d :: l.drop (i + 1) := by
      rw [List.drop_eq_getElem_cons hlt]
      rw [List.getElem?_eq_getElem hlt] at h1
      cases h1
      rfl
    rw [ed] at hr
    unfold compL at hr
    obtain ⟨ρ1, q1, hr1⟩ := bind_some hr
    obtain ⟨t, q2, hr2⟩ := bind_some hr1
    have I1 := I.ext E1 s1
    refine ⟨B, F0, F', wipeE ρ vs, d, ρ1, ((I1.re _ hm)).wiped vs, dx, q1, fun σ2 R2 w2 o2 => ⟨(w2 vs hts).trans (wipe_wipe σ vs), B, F0, F', ρ1, t, R2, q2, fun H3 F3 R3 E3 => ?_⟩⟩
    have I3 := I1.ext E3 R3.fh
    have fj3 : Same FJ F3 := (fc.trans E1.f).trans E3.f
    have gj3 : Same GJ H3 := (gc.trans E1.h).trans E3.h
    cases t with
    | true =>
      rw [if_pos rfl] at hr2
      obtain ⟨yd, q3, hr3⟩ := bind_some hr2
      obtain ⟨zs, q4, hr4⟩ := bind_some hr3
      cases hr4
      refine L2.iteT ⟨B, F0, F3, ρ1, yd, R3, q3, fun y4 H4 F4 R4 E4 dy => ?_⟩
      have I4 := I3.ext E4 R4.fh
      have lz : got.length + (yd :: zs).length ≤ sizeLine := by
        rw [← ht, List.length_append] at hz
        exact hz
      refine ⟨acc, I4.hd, ?_, by omega, F4, acc ++ [y4], got ++ [yd], zs, I4.push dy, fj3.trans E4.f, fun b u q => ?_, q4, ?_⟩
      · have := drAll_length I4.dr
        rw [List.length_cons] at lz
        omega
      · rw [upd_ne (ne_of_none q gD)]
        exact (gj3.trans E4.h) _ _ q
      · rw [← ht, List.append_assoc]
        rfl
    | false =>
      rw [if_neg Bool.false_ne_true] at hr2
      exact L2.iteF ⟨by omega, F3, acc, got, rest, I3, fj3, gj3, hr2, ht⟩
  · have e : i = l.length := by omega
    subst e
    refine .inl ⟨Y.stop _ H gc rfl, ?_⟩
    rw [List.drop_length] at hr
    cases hr
    rw [List.append_nil] at ht
    rw [ht] at I
    exact hd Fc H acc I
theorem pLst_some {l : List PV} {z : PV} (h : pLst l = some z) : l.length ≤ sizeLine ∧ z = .list l := by
  unfold pLst at h
  split at h
  · cases h
    exact ⟨of_decide_eq_true (by assumption), rfl⟩
  · cases h
theorem LcI.start {B F0 F1 H1 G : Hp} {σ : L2.St} {ρ : PEnv} {D : Addr} (R : RE K B F0 F1 H1 σ ρ) (sG : Same F1 G) (gH : Same G H1) (hD : H1 D = none) : LcI K B F0 F1 H1 G [(σ, ρ)] D [] F1 (upd H1 D (.lst [])) [] := by
  have E : Ext F1 H1 F1 (upd H1 D (.lst [])) := ext_new hD
  refine ⟨fun p hp => ?_, fun p hp => ?_, Same.refl _, same_upd2 R.fh hD, same_upd2 gH hD, E.h, fun _ _ q => .inl q, R.fh.free hD, R.bh.free hD, gH.free hD, hD, upd_same, .nil⟩
  · rw [List.mem_singleton.mp hp]
    exact R.ext E (same_upd2 R.fh hD)
  · rw [List.mem_singleton.mp hp]
    exact R.notOwn hD
theorem lc_imp {L : LF} {h : GF} {ts vs : List Nat} {k : PEnv → Option Bool} {el : PF} (hts : ∀ i ∈ ts, i ∈ vs) {σ : L2.St} {H : Hp} {Q : VK} (w : tF K (eComp L vs h k el) σ H Q) : tLc (tIB K L) (tG K h ts) (tT K k) (tP K el) vs σ H Q := by
  obtain ⟨B, F0, F, ρ, z, R, e, q⟩ := w
  obtain ⟨l, e1, e2⟩ := bind_some e
  obtain ⟨ys, e3, e4⟩ := bind_some e2
  obtain ⟨lz, rfl⟩ := pLst_some e4
  refine ⟨B, F0, F, ρ, l, R, e1, fun J H1 F1 G R1 E1 sG gH Y D hD => ?_⟩
  refine lc_loop (got0 := []) (ys := ys) (rs := [(σ, ρ)]) Y hts e3 (by simpa using lz) (gH.free hD) (LcI.start R1 sG gH hD) (by simp) (Same.refl _) (same_upd2 gH hD) fun Fc Hc acc I => ?_
  exact q D Hc Fc (I.re (σ, ρ) (by simp)) (E1.trans ⟨I.f, I.h, I.n⟩) I.fd (E1.h.free hD) ⟨acc, I.hd, I.dr⟩

theorem sf_lc {elt iter : Expr} {ifs : List Expr} {scope : Scope} {own : List (Str × Nat)} {vs : List Nat} {L : LF} {h : GF} {ts : List Nat} {k : PEnv → Option Bool} {el : PF} (hc : X.calm = true) (hN : X.N.Nodup) (hi : SIB X tg iter L) (ok : BlkOk X.N X.env.scope scope own)
    (hg : ∀ (s : Shared) (H : Hp) (C : Addr) (cl : List (Str × Addr)) (fp : List Addr), SG (X.blk s H scope (compEnvC scope cl C X.env) fp) tg h ts)
    (ht : ∀ (s : Shared) (H : Hp) (C : Addr) (cl : List (Str × Addr)) (fp : List Addr), PTs (X.blk s H scope (compEnvC scope cl C X.env) fp) ifs (tT X.K k))
    (he : ∀ (s : Shared) (H : Hp) (C : Addr) (cl : List (Str × Addr)) (fp : List Addr), SE (X.blk s H scope (compEnvC scope cl C X.env) fp) elt el)
    (hts : ∀ i ∈ ts, i ∈ vs) (hvs : own.map (·.2) = vs := by rfl) (hs : ∀ x, foldedSetIterable iter X.env x = pure x := by intro _; rfl) :
    SF X (.ListComp elt [⟨tg, iter, ifs, 0⟩] scope pos) (eComp L vs h k el) := by
  subst hvs
  exact PE.imp (pe_lc hc hN hi ok hg ht he hs) fun _ _ _ w => lc_imp hts w

/-! two clauses -/
def compL2 (h : GF) (k : PEnv → Option Bool) (L1 : LF) (vs1 : List Nat) (h1 : GF) (k1 : PEnv → Option Bool) (el : PF) (ρ : PEnv) : List PV → Option (List PV)
  | [] => some []
  | x :: r => (h x ρ).bind fun ρ1 => (k ρ1).bind fun b => if b = true then (L1 ρ1).bind fun l1 => (compL h1 k1 el (wipeE ρ1 vs1) l1).bind fun ys => (compL2 h k L1 vs1 h1 k1 el ρ r).bind fun zs => some (ys ++ zs) else compL2 h k L1 vs1 h1 k1 el ρ r
def eComp2 (L : LF) (vs : List Nat) (h : GF) (k : PEnv → Option Bool) (L1 : LF) (vs1 : List Nat) (h1 : GF) (k1 : PEnv → Option Bool) (el : PF) : PF := fun ρ => (L ρ).bind fun l => (compL2 h k L1 vs1 h1 k1 el (wipeE ρ vs) l).bind pLst
theorem lc2_imp {L L1 : LF} {h h1 : GF} {ts ts1 vs vs1 : List Nat} {k k1 : PEnv → Option Bool} {el : PF} (hts : ∀ i ∈ ts, i ∈ vs) (hts1 : ∀ i ∈ ts1, i ∈ vs1) {σ : L2.St} {H : Hp} {Q : VK} (w : tF K (eComp2 L vs h k L1 vs1 h1 k1 el) σ H Q) : tLc2 (tIB K L) (tG K h ts) (tT K k) (tI K L1) (tG K h1 ts1) (tT K k1) (tP K el) vs vs1 σ H Q := by
  obtain ⟨B, F0, F, ρ, z, R, e, q⟩ := w
  obtain ⟨l, e1, e2⟩ := bind_some e
  obtain ⟨tot, e3, e4⟩ := bind_some e2
  obtain ⟨lz, rfl⟩ := pLst_some e4
  refine ⟨B, F0, F, ρ, l, R, e1, fun J H1 F1 G R1 E1 sG gH Y D hD => ?_⟩
  let Z : Nat → Hp → Prop := fun i H => i ≤ l.length ∧ ∃ Fc acc got rest, LcI K B F0 F1 H1 G [(σ, ρ)] D got Fc H acc ∧ compL2 h k L1 vs1 h1 k1 el (wipeE ρ vs) (l.drop i) = some rest ∧ got ++ rest = tot
  refine ⟨fun i m H => m = l.length - i ∧ Z i H, ⟨l.length, by simp, Nat.zero_le _, F1, [], [], tot, LcI.start R1 sG gH hD, e3, rfl⟩, ?_⟩
  rintro i m H ⟨rfl, hi, Fc, acc, got, rest, I, hr, ht⟩
  by_cases hlt : i < l.length
  · refine .inr ⟨Y.go i H I.g hlt, fun H' => Z (i + 1) H', fun H' z => ⟨l.length - (i + 1), by omega, rfl, z⟩, fun x H' y => ?_⟩
    obtain ⟨d, F', g1, E2, s2, dx⟩ := Y.item I.f I.fh I.g hlt y
    have ed : l.drop i = d :: l.drop (i + 1) := by
      rw [List.drop_eq_getElem_cons hlt]
      rw [List.getElem?_eq_getElem hlt] at g1
      cases g1
      rfl
    rw [ed] at hr
    unfold compL2 at hr
    obtain ⟨ρ1, q1, hr1⟩ := bind_some hr
    obtain ⟨t, q2, hr2⟩ := bind_some hr1
    have I1 := I.ext E2 s2
    refine ⟨B, F0, F', _, d, ρ1, (I1.re (σ, ρ) (by simp)).wiped _, dx, q1, fun σ2 R2 w2 o2 => ⟨(w2 _ hts).trans (wipe_wipe σ _), B, F0, F', ρ1, t, R2, q2, fun H3 F3 R3 E3 => ?_⟩⟩
    have I3 := I1.ext E3 R3.fh
    cases t with
    | true =>
      rw [if_pos rfl] at hr2
      obtain ⟨l1, q3, hr3⟩ := bind_some hr2
      obtain ⟨ys, q4, hr4⟩ := bind_some hr3
      obtain ⟨zs, q5, hr5⟩ := bind_some hr4
      cases hr5
      refine L2.iteT ⟨B, F0, F3, ρ1, l1, R3, q3, fun J1 H4 F4 R4 E4 Y1 => ?_⟩
      have I4 := I3.ext E4 R4.fh
      have no4 : ∀ (i : Nat) v, ρ1[i]? = some (.own v) → σ2[i]? ≠ some (some (.ref D)) := fun i v hv z => by
        obtain ⟨u1, u2⟩ := o2 i v hv
        rw [u2] at z
        exact wipeE_own (I1.no (σ, ρ) (by simp)) _ i v u1 z
      refine lc_loop (got0 := got) (ys := ys) (rs := (σ2, ρ1) :: [(σ, ρ)]) Y1 hts1 q4 ?_ I4.fd (I4.addRe R4 no4) (by simp) (Same.refl _) I4.fh fun F5 H5 acc5 I5 => ?_
      · rw [← ht, ← List.append_assoc, List.length_append] at lz
        omega
      · refine ⟨by omega, F5, acc5, got ++ ys, zs, I5.lessRe (fun p hp => List.mem_cons_of_mem _ hp), q5, ?_⟩
        rw [← ht, List.append_assoc]
    | false =>
      rw [if_neg Bool.false_ne_true] at hr2
      exact L2.iteF ⟨by omega, F3, acc, got, rest, I3, hr2, ht⟩
  · have ei : i = l.length := by omega
    subst ei
    refine .inl ⟨Y.stop _ H I.g rfl, ?_⟩
    rw [List.drop_length] at hr
    cases hr
    rw [List.append_nil] at ht
    rw [ht] at I
    exact q D H Fc (I.re (σ, ρ) (by simp)) (E1.trans ⟨I.f, I.h, I.n⟩) I.fd (E1.h.free hD) ⟨acc, I.hd, I.dr⟩
theorem sf_lc2 {elt iter tg1 iter1 : Expr} {ifs ifs1 : List Expr} {scope : Scope} {own : List (Str × Nat)} {vs vs1 : List Nat} {L L1 : LF} {h h1 : GF} {ts ts1 : List Nat} {k k1 : PEnv → Option Bool} {el : PF} (hc : X.calm = true) (hN : X.N.Nodup) (hi : SIB X tg iter L) (ok : BlkOk X.N X.env.scope scope own) (hv : ∀ i ∈ vs1, i ∈ vs)
    (hg : ∀ (s : Shared) (H : Hp) (C : Addr) (cl : List (Str × Addr)) (fp : List Addr), SG (X.blk s H scope (compEnvC scope cl C X.env) fp) tg h ts)
    (ht : ∀ (s : Shared) (H : Hp) (C : Addr) (cl : List (Str × Addr)) (fp : List Addr), PTs (X.blk s H scope (compEnvC scope cl C X.env) fp) ifs (tT X.K k))
    (hi1 : ∀ (s : Shared) (H : Hp) (C : Addr) (cl : List (Str × Addr)) (fp : List Addr), SI (X.blk s H scope (compEnvC scope cl C X.env) fp) tg1 iter1 L1)
    (hg1 : ∀ (s : Shared) (H : Hp) (C : Addr) (cl : List (Str × Addr)) (fp : List Addr), SG (X.blk s H scope (compEnvC scope cl C X.env) fp) tg1 h1 ts1)
    (ht1 : ∀ (s : Shared) (H : Hp) (C : Addr) (cl : List (Str × Addr)) (fp : List Addr), PTs (X.blk s H scope (compEnvC scope cl C X.env) fp) ifs1 (tT X.K k1))
    (he : ∀ (s : Shared) (H : Hp) (C : Addr) (cl : List (Str × Addr)) (fp : List Addr), SE (X.blk s H scope (compEnvC scope cl C X.env) fp) elt el)
    (hts : ∀ i ∈ ts, i ∈ vs) (hts1 : ∀ i ∈ ts1, i ∈ vs1) (hvs : own.map (·.2) = vs := by rfl) (hs : ∀ x, foldedSetIterable iter X.env x = pure x := by intro _; rfl) (hs1 : ∀ env x, foldedSetIterable iter1 env x = pure x := by intro _ _; rfl) :
    SF X (.ListComp elt [⟨tg, iter, ifs, 0⟩, ⟨tg1, iter1, ifs1, 0⟩] scope pos) (eComp2 L vs h k L1 vs1 h1 k1 el) := by
  subst hvs
  exact PE.imp (pe_lc2 hc hN hi ok hv hg ht hi1 hg1 ht1 he hs hs1) fun _ _ _ w => lc2_imp hts hts1 w
end
end Pl

set_option Elab.async false
set_option linter.all false
set_option maxRecDepth 100000
set_option maxHeartbeats 4000000
set_option autoImplicit false
namespace Pl
open PySem PySem.Spec PyProof.Rows L2
open PySem.W (alike dataLt lt_data le_data gt_data ge_data)
variable {K : PySem.W.Frag}

/-! ### statements -/
inductive Fl where
  | nx (ρ : PEnv) | ret (v : PV) | brk (ρ : PEnv) | cnt (ρ : PEnv)
abbrev PSt := PEnv → Option Fl
/-- what is to be shown behind -/
def FlP (K : PySem.W.Frag) (B F0 F : Hp) (D : Ends) : Fl → Prop
  | .nx ρ => ∀ σ' H' F', RE K B F0 F' H' σ' ρ → Same F F' → D.nx σ' H'
  | .brk ρ => ∀ σ' H' F', RE K B F0 F' H' σ' ρ → Same F F' → D.bk σ' H'
  | .cnt ρ => ∀ σ' H' F', RE K B F0 F' H' σ' ρ → Same F F' → D.ct σ' H'
  | .ret v => ∀ x H' F', Same B H' → Same F0 F' → Same F' H' → (∀ a o, F' a = some o → F0 a = some o ∨ B a = none) → Dr K F' x v → D.rt x H'
def tS (K : PySem.W.Frag) (s : PSt) : TS := fun D σ H => ∃ B F0 F ρ r, RE K B F0 F H σ ρ ∧ s ρ = some r ∧ FlP K B F0 F D r
abbrev SS (X : Cx) (st : Stmt) (s : PSt) : Prop := PS X st (tS X.K s)
abbrev SSs (X : Cx) (st : List Stmt) (s : PSt) : Prop := PSs X st (tS X.K s)
def sNil : PSt := fun ρ => some (.nx ρ)
def thenF (s : PSt) : Fl → Option Fl
  | .nx ρ => s ρ
  | r => some r
def sSeq (a b : PSt) : PSt := fun ρ => (a ρ).bind (thenF b)
theorem FlP.mono {B F0 F F' : Hp} {D : Ends} {r : Fl} (h : FlP K B F0 F D r) (s : Same F F') : FlP K B F0 F' D r := by
  cases r with
  | nx ρ => exact fun σ' H' F2 R s2 => h σ' H' F2 R (s.trans s2)
  | brk ρ => exact fun σ' H' F2 R s2 => h σ' H' F2 R (s.trans s2)
  | cnt ρ => exact fun σ' H' F2 R s2 => h σ' H' F2 R (s.trans s2)
  | ret v => exact h
section
variable {X : Cx} {st : Stmt} {rest : List Stmt} {s t : PSt} {tg a b c e : Expr} {f g : PF} {pos p : Pos} {x : Str}
theorem ss_nil : SSs X [] sNil := PSs.imp pss_nil fun D σ H ⟨B, F0, F, ρ, r, R, e, q⟩ => by
  cases e
  exact q σ H F R (Same.refl _)
theorem ss_cons (h1 : SS X st s) (h2 : SSs X rest t) : SSs X (st :: rest) (sSeq s t) := PSs.imp (pss_cons h1 h2) fun D σ H ⟨B, F0, F, ρ, r, R, e, q⟩ => by
  obtain ⟨u, e1, e2⟩ := bind_some e
  refine ⟨B, F0, F, ρ, u, R, e1, ?_⟩
  cases u with
  | nx ρ' => exact fun σ' H' F' R' s' => ⟨B, F0, F', ρ', r, R', e2, q.mono s'⟩
  | brk ρ' =>
    cases e2
    exact q
  | cnt ρ' =>
    cases e2
    exact q
  | ret v =>
    cases e2
    exact q
theorem ss_one (h1 : SS X st s) : SSs X [st] s := pss_one h1
/-- an own list is given up (nothing of the text stands for this) -/
def sFz (i : Nat) : PSt := fun ρ => match ρ[i]? with
  | some (.own v) => some (.nx (ρ.set i (.val v)))
  | _ => some (.nx ρ)
theorem RE.fz {B F0 F H : Hp} {σ : L2.St} {ρ : PEnv} {i : Nat} {v : PV} (R : RE K B F0 F H σ ρ) (h : ρ[i]? = some (.own v)) : ∃ F', RE K B F0 F' H σ (ρ.set i (.val v)) ∧ Same F F' := by
  obtain ⟨a, h1, h2, h3, h4⟩ := R.own i v h
  obtain ⟨o, ho, hd⟩ := own_dp h4 h2
  have hi : i < ρ.length := (List.getElem?_eq_some_iff.mp h).1
  have ef : Same F (upd F a o) := fun b u e => by
    rw [upd_ne (ne_of_none e h2)]
    exact e
  have f : ∀ m s, (ρ.set i (.val v))[m]? = some s → i ≠ m → ρ[m]? = some s := fun m s h n => by
    rw [List.getElem?_set_ne n] at h
    exact h
  have fo : ∀ m w, (ρ.set i (.val v))[m]? = some (.own w) → i ≠ m := fun m w h z => by
    subst z
    rw [List.getElem?_set_self hi] at h
    cases h
  refine ⟨upd F a o, ⟨fun b u e => ?_, R.bh, R.f0.trans ef, fun b u e => ?_, by rw [List.length_set]; exact R.len, fun j w hj => ?_, fun j w hj => ?_, fun j k w w' ad j1 j2 j3 j4 => ?_⟩, ef⟩
  · by_cases z : b = a
    · subst z
      rw [upd_same] at e
      rw [ho]
      exact e
    · rw [upd_ne z] at e
      exact R.fh _ _ e
  · by_cases z : b = a
    · subst z
      exact .inr h3
    · rw [upd_ne z] at e
      exact R.ff _ _ e
  · by_cases z : i = j
    · subst z
      rw [List.getElem?_set_self hi] at hj
      cases hj
      exact ⟨_, h1, hd⟩
    · obtain ⟨y, y1, y2⟩ := R.val j w (f j _ hj z)
      exact ⟨y, y1, dr_same ef _ _ y2⟩
  · have z := fo j w hj
    have hj' := f j _ hj z
    obtain ⟨ad, y1, y2, y3, y4⟩ := R.own j w hj'
    have na : ad ≠ a := fun q => z (R.sep i j v w a h hj' h1 (q ▸ y1))
    exact ⟨ad, y1, by rw [upd_ne na]; exact y2, y3, y4.same ef rfl⟩
  · exact R.sep j k w w' ad (f j _ j1 (fo j w j1)) (f k _ j2 (fo k w' j2)) j3 j4
theorem ss_fz (i : Nat) (h : SSs X rest t) : SSs X rest (sSeq (sFz i) t) := PSs.imp h fun D σ H ⟨B, F0, F, ρ, r, R, e, q⟩ => by
  obtain ⟨u, e1, e2⟩ := bind_some e
  unfold sFz at e1
  split at e1
  · rename_i v hv
    cases e1
    obtain ⟨F', R', s'⟩ := R.fz hv
    exact ⟨B, F0, F', _, r, R', e2, q.mono s'⟩
  · cases e1
    exact ⟨B, F0, F, _, r, R, e2, q⟩

/-! return, break, continue, pass, if -/
def sRet (f : PF) : PSt := fun ρ => (f ρ).bind fun v => some (.ret v)
theorem ss_ret (h : SE X e f) : SS X (.Return (some e) pos) (sRet f) := PS.imp (ps_ret h) fun D σ H ⟨B, F0, F, ρ, r, R, e, q⟩ => by
  obtain ⟨v, e1, e2⟩ := bind_some e
  cases e2
  exact ⟨B, F0, F, ρ, v, R, e1, fun x H' F' R' E' d => q x H' F' R'.bh R'.f0 R'.fh R'.ff d⟩
def sBrk : PSt := fun ρ => some (.brk ρ)
def sCnt : PSt := fun ρ => some (.cnt ρ)
theorem ss_brk : SS X (.Break pos) sBrk := PS.imp ps_break fun D σ H ⟨B, F0, F, ρ, r, R, e, q⟩ => by
  cases e
  exact q σ H F R (Same.refl _)
theorem ss_cnt : SS X (.Continue pos) sCnt := PS.imp ps_continue fun D σ H ⟨B, F0, F, ρ, r, R, e, q⟩ => by
  cases e
  exact q σ H F R (Same.refl _)
theorem ss_pass : SS X (.Pass pos) sNil := PS.imp ps_pass fun D σ H ⟨B, F0, F, ρ, r, R, e, q⟩ => by
  cases e
  exact q σ H F R (Same.refl _)
def sIf (c : PEnv → Option Bool) (s t : PSt) : PSt := fun ρ => (c ρ).bind fun b => if b = true then s ρ else t ρ
theorem ss_if {k : PEnv → Option Bool} {l1 l2 : List Stmt} (hc : ST X c k) (h1 : SSs X l1 s) (h2 : SSs X l2 t) : SS X (.If c l1 l2 pos) (sIf k s t) := PS.imp (ps_if hc h1 h2) fun D σ H ⟨B, F0, F, ρ, r, R, e, q⟩ => by
  obtain ⟨v, e1, e2⟩ := bind_some e
  refine ⟨B, F0, F, ρ, v, R, e1, fun H1 F1 R1 E1 => ?_⟩
  cases v with
  | true => exact ⟨B, F0, F1, ρ, r, R1, e2, q.mono E1.f⟩
  | false => exact ⟨B, F0, F1, ρ, r, R1, e2, q.mono E1.f⟩

/-! names stored -/
def sAsg (f : PF) (h : GF) : PSt := fun ρ => (f ρ).bind fun v => (h v ρ).bind fun ρ' => some (.nx ρ')
theorem ss_asg {h : GF} {ts : List Nat} (he : SE X e f) (hg : SG X tg h ts) (hs : swapsWithSole [tg] e pos.line X.env = pure false := by rfl) (hw : swappedStores [tg] e X.env = pure none := by rfl) (h1 : (assignEach [tg] X.env).map (·.2) = [assign tg X.env] := by rfl) :
    SS X (.Assign [tg] e pos) (sAsg f h) := PS.imp (ps_asg he hg hs hw h1) fun D σ H ⟨B, F0, F, ρ, r, R, e, q⟩ => by
  obtain ⟨v, e1, e2⟩ := bind_some e
  obtain ⟨ρ', e3, e4⟩ := bind_some e2
  cases e4
  refine ⟨B, F0, F, ρ, v, R, e1, fun x H1 F1 R1 E1 d1 => ⟨B, F0, F1, ρ, v, ρ', R1, d1, e3, fun σ' R2 _ _ => q σ' H1 F1 R2 E1.f⟩⟩
theorem ss_set {i : Nat} {pos' : Pos} (hN : X.N.Nodup) (hi : X.N[i]? = some x) (hx : Loc X.env.scope x) (he : SE X e f) (hs : swapsWith e (some (.Name x pos')) pos.line X.env = pure false := by rfl) (hf : X.fn x = true ∨ X.env.scope.names.lookup x = some .local := by first | exact .inl rfl | exact .inr rfl | assumption) :
    SS X (.Assign [.Name x pos'] e pos) (sAsg f (gN i)) := PS.imp (ps_set hN hi hx he hs hf) fun D σ H ⟨B, F0, F, ρ, r, R, e, q⟩ => by
  obtain ⟨v, e1, e2⟩ := bind_some e
  obtain ⟨ρ', e3, e4⟩ := bind_some e2
  cases e4
  unfold gN at e3
  split at e3
  · cases e3
    exact ⟨B, F0, F, ρ, v, R, e1, fun x H1 F1 R1 E1 d1 => q _ H1 F1 (R1.setVal d1) E1.f⟩
  · cases e3
theorem RE.setOwn {B F0 F H : Hp} {σ : L2.St} {ρ : PEnv} {i : Nat} {a : Addr} {d : PV} (R : RE K B F0 F H σ ρ) (fa : F a = none) (ba : B a = none) (ho : OwnR K F H a d) (no : ∀ (j : Nat) v, ρ[j]? = some (.own v) → σ[j]? ≠ some (some (.ref a))) : RE K B F0 F H (σ.set i (some (.ref a))) (ρ.set i (.own d)) := by
  have g : ∀ m s, (ρ.set i (.own d))[m]? = some s → (i = m ∧ s = .own d ∧ i < ρ.length) ∨ (i ≠ m ∧ ρ[m]? = some s) := fun m s h => by
    by_cases z : i = m
    · subst z
      by_cases hi : i < ρ.length
      · rw [List.getElem?_set_self hi] at h
        exact .inl ⟨rfl, (Option.some.inj h).symm, hi⟩
      · rw [List.getElem?_eq_none (by rw [List.length_set]; omega)] at h
        cases h
    · rw [List.getElem?_set_ne z] at h
      exact .inr ⟨z, h⟩
  refine ⟨R.fh, R.bh, R.f0, R.ff, by rw [List.length_set, List.length_set]; exact R.len, fun j w h => ?_, fun j w h => ?_, fun j k w w' ad h1 h2 h3 h4 => ?_⟩
  · rcases g j _ h with ⟨z, q, hi⟩ | ⟨z, q⟩
    · cases q
    · rw [List.getElem?_set_ne z]
      exact R.val j w q
  · rcases g j _ h with ⟨z, q, hi⟩ | ⟨z, q⟩
    · subst z
      cases q
      exact ⟨a, List.getElem?_set_self (by rw [R.len]; exact hi), fa, ba, ho⟩
    · rw [List.getElem?_set_ne z]
      exact R.own j w q
  · rcases g j _ h1 with ⟨z, q, hi⟩ | ⟨z, q⟩
    · subst z
      rcases g k _ h2 with ⟨z2, q2, hi2⟩ | ⟨z2, q2⟩
      · exact z2
      · rw [List.getElem?_set_self (by rw [R.len]; exact hi)] at h3
        cases h3
        rw [List.getElem?_set_ne z2] at h4
        exact absurd h4 (no k w' q2)
    · rcases g k _ h2 with ⟨z2, q2, hi2⟩ | ⟨z2, q2⟩
      · subst z2
        rw [List.getElem?_set_self (by rw [R.len]; exact hi2)] at h4
        cases h4
        rw [List.getElem?_set_ne z] at h3
        exact absurd h3 (no j w q)
      · rw [List.getElem?_set_ne z] at h3
        rw [List.getElem?_set_ne z2] at h4
        exact R.sep j k w w' ad q q2 h3 h4
def sOwn (i : Nat) (f : PF) : PSt := fun ρ => (f ρ).bind fun v => some (.nx (ρ.set i (.own v)))
theorem ss_own {i : Nat} {pos' : Pos} (hN : X.N.Nodup) (hi : X.N[i]? = some x) (hx : Loc X.env.scope x) (he : SF X e f) (hs : swapsWith e (some (.Name x pos')) pos.line X.env = pure false := by rfl) (hf : X.fn x = true ∨ X.env.scope.names.lookup x = some .local := by first | exact .inl rfl | exact .inr rfl | assumption) :
    SS X (.Assign [.Name x pos'] e pos) (sOwn i f) := PS.imp (ps_set hN hi hx he hs hf) fun D σ H ⟨B, F0, F, ρ, r, R, e, q⟩ => by
  obtain ⟨v, e1, e2⟩ := bind_some e
  cases e2
  exact ⟨B, F0, F, ρ, v, R, e1, fun a H1 F1 R1 E1 fa ha d1 => q _ H1 F1 (R1.setOwn fa (R.bh.free ha) d1 (fun j w hj => R.notOwn ha j w hj)) E1.f⟩
end
end Pl

set_option Elab.async false
set_option linter.all false
set_option maxRecDepth 100000
set_option maxHeartbeats 4000000
set_option autoImplicit false
namespace Pl
open PySem PySem.Spec PyProof.Rows L2
open PySem.W (alike dataLt lt_data le_data gt_data ge_data)
variable {K : PySem.W.Frag}

section
variable {X : Cx} {st : Stmt} {rest : List Stmt} {s t : PSt} {tg a b c e : Expr} {f g : PF} {pos p : Pos} {x : Str}

/-! ### name = [..] on one line -/
theorem own_of {i : Nat} {te : TE} {D : Ends} {σ : L2.St} {H : Hp} (w : tS K (sOwn i f) D σ H) (h : ∀ Q, tF K f σ H Q → te σ H Q) : tAsg te (gName i) D σ H := by
  obtain ⟨B, F0, F, ρ, r, R, e, q⟩ := w
  obtain ⟨v, e1, e2⟩ := bind_some e
  cases e2
  exact h _ ⟨B, F0, F, ρ, v, R, e1, fun a H1 F1 R1 E1 fa ha d1 => q _ H1 F1 (R1.setOwn fa (R.bh.free ha) d1 (fun j w hj => R.notOwn ha j w hj)) E1.f⟩
theorem set_of {i : Nat} {te : TE} {D : Ends} {σ : L2.St} {H : Hp} (w : tS K (sAsg f (gN i)) D σ H) (h : ∀ Q, tF K f σ H Q → te σ H Q) : tAsg te (gName i) D σ H := by
  obtain ⟨B, F0, F, ρ, r, R, e, q⟩ := w
  obtain ⟨v, e1, e2⟩ := bind_some e
  obtain ⟨ρ', e3, e4⟩ := bind_some e2
  cases e4
  unfold gN at e3
  split at e3
  · cases e3
    exact h _ (tF_of_tP ⟨B, F0, F, ρ, v, R, e1, fun x H1 F1 R1 E1 d1 => q _ H1 F1 (R1.setVal d1) E1.f⟩)
  · cases e3
theorem ss_lc {te : TE} {s : PSt} {i : Nat} (h : PS X st (tAsg te (gName i))) (k : ∀ D σ H, tS X.K s D σ H → tAsg te (gName i) D σ H) : SS X st s := PS.imp h k

/-! ### name op= e -/
def sAug (i : Nat) (h : PV → PV → Option PV) (f : PF) : PSt := fun ρ => (eV i ρ).bind fun v => (f ρ).bind fun w => (h v w).bind fun z => some (.nx (ρ.set i (.val z)))
theorem ss_aug {i : Nat} {op : Operator} {pos' : Pos} {r : R2} {h : PV → PV → Option PV} (hN : X.N.Nodup) (hi : X.N[i]? = some x) (hx : Loc X.env.scope x) (o : OpR X (inplaceOp op) r) (k : Op2 X.K r h) (he : SE X e f) (hf : X.fn x = true ∨ X.env.scope.names.lookup x = some .local := by first | exact .inl rfl | exact .inr rfl | assumption) :
    SS X (.AugAssign (.Name x pos') op e pos) (sAug i h f) := PS.imp (ps_aug hN hi hx he (fun pins s σ H x y v u Q I r1 r2 w => o pins s σ H x y v u Q I r1 r2 w) hf) fun D σ H ⟨B, F0, F, ρ, r, R, e, q⟩ => by
  obtain ⟨v, e1, e2⟩ := bind_some e
  obtain ⟨w, e3, e4⟩ := bind_some e2
  obtain ⟨z, e5, e6⟩ := bind_some e4
  cases e6
  unfold eV at e1
  split at e1
  · rename_i v' hv
    cases e1
    obtain ⟨x, h1, h2⟩ := R.val i _ hv
    refine ⟨x, h1, B, F0, F, ρ, w, R, e3, fun y H1 F1 R1 E1 d1 => ?_⟩
    exact k F1 H1 x y v w z _ R1.fh (.inl (dr_same E1.f _ _ h2)) (.inl d1) e5 fun u H2 F2 E2 s2 d2 => q _ _ _ ((R1.ext E2 s2).setVal d2) (E1.f.trans E2.f)
  · cases e1
def pAddI : PV → PV → Option PV
  | .int i, .int j => some (.int (i + j))
  | _, _ => none
theorem op2_addI : Op2 K (rI0 fun i j => .int (i + j)) pAddI := .ii (fun F H v w z Q e i j hv hw q => by subst hv hw; cases e; exact ⟨i, j, rfl, rfl, q _ (.int _)⟩) fun v w z e => by unfold pAddI at e; split at e; exact ⟨_, _, rfl, rfl⟩; cases e
theorem op2_subI : Op2 K (rI0 fun i j => .int (i - j)) pSub := .ii (fun F H v w z Q e i j hv hw q => by subst hv hw; cases e; exact ⟨i, j, rfl, rfl, q _ (.int _)⟩) fun v w z e => by unfold pSub at e; split at e; exact ⟨_, _, rfl, rfl⟩; cases e
theorem op2_mulI : Op2 K (rI CMul fun i j => .int (i * j)) pMul := .ii (fun F H v w z Q e i j hv hw q => by
      subst hv hw
      unfold pMul at e
      dsimp only at e
      split at e
      · rename_i hc
        cases e
        exact ⟨i, j, rfl, rfl, mulOk_c hc, q _ (.int _)⟩
      · cases e) fun v w z e => by unfold pMul at e; split at e; exact ⟨_, _, rfl, rfl⟩; cases e

/-! ### own lists changed -/
theorem RE.updOwn {B F0 F H : Hp} {σ : L2.St} {ρ : PEnv} {i : Nat} {v w : PV} {ad : Addr} {o : HO} (R : RE K B F0 F H σ ρ) (h : ρ[i]? = some (.own v)) (h1 : σ[i]? = some (some (.ref ad))) (fa : F ad = none) (ba : B ad = none) (ho : OwnR K F (upd H ad o) ad w) : RE K B F0 F (upd H ad o) σ (ρ.set i (.own w)) := by
  have hi : i < ρ.length := (List.getElem?_eq_some_iff.mp h).1
  have g : ∀ m s, (ρ.set i (.own w))[m]? = some s → (i = m ∧ s = .own w) ∨ (i ≠ m ∧ ρ[m]? = some s) := fun m s h => by
    by_cases z : i = m
    · subst z
      rw [List.getElem?_set_self hi] at h
      exact .inl ⟨rfl, (Option.some.inj h).symm⟩
    · rw [List.getElem?_set_ne z] at h
      exact .inr ⟨z, h⟩
  refine ⟨fun b u q => ?_, fun b u q => ?_, R.f0, R.ff, by rw [List.length_set]; exact R.len, fun j u q => ?_, fun j u q => ?_, fun j k u u' a' j1 j2 j3 j4 => ?_⟩
  · rw [upd_ne (ne_of_none q fa)]
    exact R.fh _ _ q
  · rw [upd_ne (ne_of_none q ba)]
    exact R.bh _ _ q
  · rcases g j _ q with ⟨z, z2⟩ | ⟨z, z2⟩
    · cases z2
    · exact R.val j u z2
  · rcases g j _ q with ⟨z, z2⟩ | ⟨z, z2⟩
    · cases z2
      subst z
      exact ⟨ad, h1, fa, ba, ho⟩
    · obtain ⟨a', y1, y2, y3, y4⟩ := R.own j u z2
      have na : a' ≠ ad := fun q => z (R.sep i j v u ad h z2 h1 (q ▸ y1))
      exact ⟨a', y1, y2, y3, y4.same (Same.refl _) (upd_ne na)⟩
  · rcases g j _ j1 with ⟨z, z2⟩ | ⟨z, z2⟩
    · rcases g k _ j2 with ⟨y, y2⟩ | ⟨y, y2⟩
      · exact z.symm.trans y
      · subst z
        exact R.sep i k v u' a' h y2 j3 j4
    · rcases g k _ j2 with ⟨y, y2⟩ | ⟨y, y2⟩
      · subst y
        exact R.sep j i u v a' z2 h j3 j4
      · exact R.sep j k u u' a' z2 y2 j3 j4
def ownL (ρ : PEnv) (i : Nat) : Option (List PV) := match ρ[i]? with
  | some (.own (.list l)) => some l
  | _ => none
theorem ownL_some {ρ : PEnv} {i : Nat} {l : List PV} (h : ownL ρ i = some l) : ρ[i]? = some (.own (.list l)) := by
  unfold ownL at h
  split at h
  · cases h
    assumption
  · cases h
/-- xs.append(e) -/
def sApp (i : Nat) (f : PF) : PSt := fun ρ => (f ρ).bind fun v => (ownL ρ i).bind fun l => if l.length < sizeLine then some (.nx (ρ.set i (.own (.list (l ++ [v]))))) else none
theorem ss_app {i : Nat} {o : Expr} {apos cpos : Pos} (ho : PE X o (tVar i)) (he : SE X e f) (na : NS e := by intro _ _; rfl)
    (hbase : attributeBase o "append" X.env (eval o X.env) = eval o X.env := by rfl) (hline : (apos.endLine == cpos.line) = true := by rfl)
    (hs : swapsWith (.Call (.Attribute o "append" apos) [e] [] cpos) none pos.line X.env = pure false := by rfl) (hfew : ((backTo cpos (starEach [e] X.env)).all (fun x => !x.1) && (backToKw cpos (keywordEach [] X.env)).all (fun x => x.1.isSome)
      && decide ([e].length + ([] : List Keyword).length + (if ([] : List Keyword).isEmpty then 0 else 1) < 30)) = true := by rfl) :
    SS X (.Expr (.Call (.Attribute o "append" apos) [e] [] cpos) pos) (sApp i f) :=
  PS.imp (ps_expr (pe_bm PySem.F.plainAttrs_list PySem.F.slot_list_append PySem.F.type_list_append mt_append ho (pa_cons he pa_nil (na _ _)) hbase hfew hline (na _ _)) hs) fun D σ H ⟨B, F0, F, ρ, r, R, e, q⟩ => by
    obtain ⟨v, e1, e2⟩ := bind_some e
    obtain ⟨l, e3, e4⟩ := bind_some e2
    split at e4
    · rename_i hz
      cases e4
      have hl := ownL_some e3
      obtain ⟨ad, h1, h2, h3, xs, h4, h5⟩ := R.own i _ hl
      refine ⟨_, h1, .inl ⟨rfl, xs, .inl (.inl h4)⟩, B, F0, F, ρ, v, R, e1, fun y H1 F1 R1 E1 d1 => ?_⟩
      have h6 := E1.h _ _ h4
      have f1 : F1 ad = none := E1.keepNone h4 h2
      refine ⟨ad, xs, y, rfl, rfl, h6, by rw [drAll_length h5]; exact hz, q _ _ F1 (R1.updOwn hl h1 f1 h3 ?_) E1.f⟩
      exact ⟨_, upd_same, drAll_append (drAll_same E1.f _ _ h5) (.cons d1 .nil)⟩
    · cases e4
/-- xs[k] = v -/
def sSetI (i : Nat) (g f : PF) : PSt := fun ρ => (f ρ).bind fun v => (g ρ).bind fun k => (toI k).bind fun j => (ownL ρ i).bind fun l => (ixN l.length j).bind fun m => some (.nx (ρ.set i (.own (.list (l.set m v)))))
theorem ss_setI {i : Nat} {o : Expr} {spos : Pos} (ho : PE X o (tVar i)) (hk : SB X a g) (he : SE X e f)
    (ha : ∀ v, assign (.Subscript o a spos) X.env v = (do
      let ov ← holding [v] (eval o X.env)
      let iv ← holding [v, ov] (eval a X.env)
      standAt spos
      holding [v, ov, iv] (setItem ov iv v)
      release [v, ov, iv] []) := by intro _; rfl)
    (hs : swapsWithSole [.Subscript o a spos] e pos.line X.env = pure false := by rfl) (hw : swappedStores [.Subscript o a spos] e X.env = pure none := by rfl)
    (h1 : (assignEach [.Subscript o a spos] X.env).map (·.2) = [assign (.Subscript o a spos) X.env] := by rfl) : SS X (.Assign [.Subscript o a spos] e pos) (sSetI i g f) :=
  PS.imp (ps_asg he (pg_sub ho hk set_list ha) hs hw h1) fun D σ H ⟨B, F0, F, ρ, r, R, e, q⟩ => by
    obtain ⟨v, e1, e2⟩ := bind_some e
    obtain ⟨k, e3, e4⟩ := bind_some e2
    obtain ⟨j, e5, e6⟩ := bind_some e4
    obtain ⟨l, e7, e8⟩ := bind_some e6
    obtain ⟨m, e9, e10⟩ := bind_some e8
    cases e10
    obtain rfl := toI_some e5
    have hl := ownL_some e7
    refine ⟨B, F0, F, ρ, v, R, e1, fun y H1 F1 R1 E1 d1 => ?_⟩
    obtain ⟨ad, h1, h2, h3, xs, h4, h5⟩ := R1.own i _ hl
    refine ⟨_, h1, B, F0, F1, ρ, _, R1, e3, fun z H2 F2 R2 E2 d2 => ?_⟩
    obtain rfl := bor_int d2
    have h6 := E2.h _ _ h4
    have f2 : F2 ad = none := E2.keepNone h4 h2
    refine ⟨ad, xs, j, m, rfl, rfl, h6, by rw [drAll_length h5]; exact e9, q _ _ F2 (R2.updOwn hl h1 f2 h3 ?_) (E1.f.trans E2.f)⟩
    exact ⟨_, upd_same, drAll_set (dr_same E2.f _ _ d1) m (drAll_same E2.f _ _ h5)⟩

/-! ### several names at once -/
abbrev MF := PEnv → Option (List (Bool × PV))
/-- values of two kinds: given (false), new own objects (true), these all apart -/
def MixR (K : PySem.W.Frag) (F H H' : Hp) : List V → List (Bool × PV) → Prop
  | [], [] => True
  | x :: xs, (false, d) :: r => Dr K F x d ∧ MixR K F H H' xs r
  | x :: xs, (true, d) :: r => (∃ a, x = .ref a ∧ F a = none ∧ H a = none ∧ OwnR K F H' a d ∧ V.ref a ∉ ownsOf xs r) ∧ MixR K F H H' xs r
  | _, _ => False
where ownsOf : List V → List (Bool × PV) → List V
  | x :: xs, (true, _) :: r => x :: ownsOf xs r
  | _ :: xs, (false, _) :: r => ownsOf xs r
  | _, _ => []
def tM (K : PySem.W.Frag) (f : MF) : TA := fun σ H Q => ∃ B F0 F ρ v, RE K B F0 F H σ ρ ∧ f ρ = some v ∧ ∀ xs H' F', RE K B F0 F' H' σ ρ → Ext F H F' H' → MixR K F' H H' xs v → Q xs H'
abbrev SM (X : Cx) (es : List Expr) (f : MF) : Prop := PA X es (tM X.K f)
def mNil : MF := fun _ => some []
def mVal (f : PF) (r : MF) : MF := fun ρ => (f ρ).bind fun v => (r ρ).bind fun l => some ((false, v) :: l)
def mOwn (f : PF) (r : MF) : MF := fun ρ => (f ρ).bind fun v => (r ρ).bind fun l => some ((true, v) :: l)
theorem MixR.pre {F H0 H H' : Hp} (s : Same H0 H) : ∀ {xs : List V} {l : List (Bool × PV)}, MixR K F H H' xs l → MixR K F H0 H' xs l
  | [], [], _ => trivial
  | x :: xs, (false, d) :: r, ⟨h1, h2⟩ => ⟨h1, MixR.pre s h2⟩
  | x :: xs, (true, d) :: r, ⟨⟨a, h1, h2, h3, h4, h5⟩, h6⟩ => ⟨⟨a, h1, h2, s.free h3, h4, h5⟩, MixR.pre s h6⟩
theorem MixR.owns {F H H' : Hp} : ∀ {xs : List V} {l : List (Bool × PV)} {a : Addr}, MixR K F H H' xs l → V.ref a ∈ MixR.ownsOf xs l → H a = none
  | x :: xs, (false, d) :: r, a, ⟨h1, h2⟩, h => MixR.owns h2 h
  | x :: xs, (true, d) :: r, a, ⟨⟨a', h1, h2, h3, h4, h5⟩, h6⟩, h => by
    unfold MixR.ownsOf at h
    rcases List.mem_cons.mp h with h | h
    · subst h1
      cases h
      exact h3
    · exact MixR.owns h6 h
theorem sm_nil : SM X [] mNil := PA.imp pa_nil fun σ H Q ⟨B, F0, F, ρ, z, R, e, q⟩ => by
  cases e
  exact q _ _ _ R (Ext.refl _ _) trivial
theorem sm_val {es : List Expr} {r : MF} (ha : SE X a f) (hr : SM X es r) (hs : starEach (a :: es) X.env = (false, eval a X.env) :: starEach es X.env := by rfl) : SM X (a :: es) (mVal f r) := PA.imp (pa_cons ha hr hs) fun σ H Q ⟨B, F0, F, ρ, z, R, e, q⟩ => by
  obtain ⟨v, e1, e2⟩ := bind_some e
  obtain ⟨l, e3, e4⟩ := bind_some e2
  cases e4
  refine ⟨B, F0, F, ρ, v, R, e1, fun x H1 F1 R1 E1 d1 => ⟨B, F0, F1, ρ, l, R1, e3, fun xs H2 F2 R2 E2 d2 => ?_⟩⟩
  exact q _ _ _ R2 (E1.trans E2) ⟨dr_same E2.f _ _ d1, d2.pre E1.h⟩
theorem sm_own {es : List Expr} {r : MF} (ha : SF X a f) (hr : SM X es r) (hs : starEach (a :: es) X.env = (false, eval a X.env) :: starEach es X.env := by rfl) : SM X (a :: es) (mOwn f r) := PA.imp (pa_cons ha hr hs) fun σ H Q ⟨B, F0, F, ρ, z, R, e, q⟩ => by
  obtain ⟨v, e1, e2⟩ := bind_some e
  obtain ⟨l, e3, e4⟩ := bind_some e2
  cases e4
  refine ⟨B, F0, F, ρ, v, R, e1, fun a H1 F1 R1 E1 fa ha d1 => ⟨B, F0, F1, ρ, l, R1, e3, fun xs H2 F2 R2 E2 d2 => ?_⟩⟩
  obtain ⟨o, ho⟩ := d1.some
  refine q _ _ _ R2 (E1.trans E2) ⟨⟨a, rfl, E2.keepNone ho fa, ha, d1.same E2.f (by rw [E2.h _ _ ho, ho]), fun m => ?_⟩, d2.pre E1.h⟩
  have := d2.owns m
  rw [ho] at this
  cases this
def setAll (σ : L2.St) : List Nat → List V → L2.St
  | i :: is, x :: xs => setAll (σ.set i (some x)) is xs
  | _, _ => σ
def setAllE (ρ : PEnv) : List Nat → List (Bool × PV) → PEnv
  | i :: is, (k, d) :: r => setAllE (ρ.set i (if k = true then .own d else .val d)) is r
  | _, _ => ρ
theorem RE.setMix {B F0 F H0 H : Hp} : ∀ {is : List Nat} {xs : List V} {l : List (Bool × PV)} {σ : L2.St} {ρ : PEnv}, RE K B F0 F H σ ρ → MixR K F H0 H xs l → Same B H0 → (∀ (j : Nat) v a, ρ[j]? = some (.own v) → σ[j]? = some (some (.ref a)) → V.ref a ∉ MixR.ownsOf xs l) → RE K B F0 F H (setAll σ is xs) (setAllE ρ is l)
  | [], _, _, _, _, R, _, _, _ => R
  | i :: is, [], [], _, _, R, _, _, _ => R
  | i :: is, [], _ :: _, _, _, R, h, _, _ => h.elim
  | i :: is, _ :: _, [], _, _, R, h, _, _ => h.elim
  | i :: is, x :: xs, (false, d) :: r, σ, ρ, R, ⟨h1, h2⟩, hb, no => by
    show RE K B F0 F H (setAll (σ.set i (some x)) is xs) (setAllE (ρ.set i (.val d)) is r)
    refine RE.setMix (R.setVal h1) h2 hb fun j v a e1 e2 m => ?_
    by_cases z : i = j
    · subst z
      by_cases hi : i < ρ.length
      · rw [List.getElem?_set_self hi] at e1
        cases e1
      · rw [List.getElem?_eq_none (by rw [List.length_set]; omega)] at e1
        cases e1
    · rw [List.getElem?_set_ne z] at e1 e2
      exact no j v a e1 e2 m
  | i :: is, x :: xs, (true, d) :: r, σ, ρ, R, ⟨⟨a, h1, h2, h3, h4, h5⟩, h6⟩, hb, no => by
    subst h1
    show RE K B F0 F H (setAll (σ.set i (some (.ref a))) is xs) (setAllE (ρ.set i (.own d)) is r)
    refine RE.setMix (R.setOwn h2 (hb.free h3) h4 fun j v e1 e2 => no j v a e1 e2 (by unfold MixR.ownsOf; exact List.mem_cons_self)) h6 hb fun j v a' e1 e2 m => ?_
    by_cases z : i = j
    · subst z
      by_cases hi : i < ρ.length
      · rw [List.getElem?_set_self (by rw [R.len]; exact hi)] at e2
        cases e2
        exact h5 m
      · rw [List.getElem?_eq_none (by rw [List.length_set]; omega)] at e1
        cases e1
    · rw [List.getElem?_set_ne z] at e1 e2
      exact no j v a' e1 e2 (by unfold MixR.ownsOf; exact List.mem_cons_of_mem _ m)
def sPar (is : List Nat) (f : MF) : PSt := fun ρ => (f ρ).bind fun l => if l.length = is.length then some (.nx (setAllE ρ is l)) else none
theorem MixR.length {F H H' : Hp} : ∀ {xs : List V} {l : List (Bool × PV)}, MixR K F H H' xs l → xs.length = l.length
  | [], [], _ => rfl
  | [], _ :: _, h => h.elim
  | _ :: _, [], h => h.elim
  | x :: xs, (false, d) :: r, ⟨h1, h2⟩ => by rw [List.length_cons, List.length_cons, MixR.length h2]
  | x :: xs, (true, d) :: r, ⟨h1, h2⟩ => by rw [List.length_cons, List.length_cons, MixR.length h2]
theorem par_end {B F0 F H F1 H1 : Hp} {is : List Nat} {xs : List V} {l : List (Bool × PV)} {σ : L2.St} {ρ : PEnv} (R : RE K B F0 F H σ ρ) (R1 : RE K B F0 F1 H1 σ ρ) (m : MixR K F1 H H1 xs l) : RE K B F0 F1 H1 (setAll σ is xs) (setAllE ρ is l) :=
  RE.setMix R1 m R.bh fun j v a e1 e2 q => R.notOwn (m.owns q) j v e1 e2
theorem ss_par2 {i j : Nat} {x y : Str} {px py pt : Pos} {kt k2 pt2} {f : MF} (hc : X.calm = true) (hN : X.N.Nodup) (hi : X.N[i]? = some x) (hj : X.N[j]? = some y) (hij : i ≠ j)
    (hx : X.env.scope.names.lookup x = some .local) (hy : X.env.scope.names.lookup y = some .local) (ha : SM X [a, b] f)
    (hw : swappedStores [.Tuple [.Name x px, .Name y py] kt pt] (.Tuple [a, b] k2 pt2) X.env = pure (some [x, y]))
    (hs : swapsWithSole [.Tuple [.Name x px, .Name y py] kt pt] (.Tuple [a, b] k2 pt2) pos.line X.env = pure false := by rfl) :
    SS X (.Assign [.Tuple [.Name x px, .Name y py] kt pt] (.Tuple [a, b] k2 pt2) pos) (sPar [i, j] f) := PS.imp (ps_par hc hN hi hj hij hx hy ha hw hs) fun D σ H ⟨B, F0, F, ρ, r, R, e, q⟩ => by
  obtain ⟨l, e1, e2⟩ := bind_some e
  split at e2
  · rename_i hl
    cases e2
    refine ⟨B, F0, F, ρ, l, R, e1, fun xs H1 F1 R1 E1 m => ?_⟩
    have hx := m.length
    rw [hl] at hx
    match xs, hx with
    | [u, w], _ => exact ⟨u, w, rfl, q _ _ _ (par_end (is := [i, j]) R R1 m) E1.f⟩
  · cases e2
theorem ss_par3 {i j k : Nat} {x y z : Str} {px py pz pt : Pos} {kt k2 pt2} {f : MF} (hc : X.calm = true) (hN : X.N.Nodup) (hi : X.N[i]? = some x) (hj : X.N[j]? = some y) (hk : X.N[k]? = some z) (hij : i ≠ j) (hik : i ≠ k) (hjk : j ≠ k)
    (hx : X.env.scope.names.lookup x = some .local) (hy : X.env.scope.names.lookup y = some .local) (hz : X.env.scope.names.lookup z = some .local) (ha : SM X [a, b, c] f)
    (hw : swappedStores [.Tuple [.Name x px, .Name y py, .Name z pz] kt pt] (.Tuple [a, b, c] k2 pt2) X.env = pure (some [x, y, z]))
    (hs : swapsWithSole [.Tuple [.Name x px, .Name y py, .Name z pz] kt pt] (.Tuple [a, b, c] k2 pt2) pos.line X.env = pure false := by rfl) :
    SS X (.Assign [.Tuple [.Name x px, .Name y py, .Name z pz] kt pt] (.Tuple [a, b, c] k2 pt2) pos) (sPar [i, j, k] f) := PS.imp (L2.ps_par3 hc hN hi hj hk hij hik hjk hx hy hz ha hw hs) fun D σ H ⟨B, F0, F, ρ, r, R, e, q⟩ => by
  obtain ⟨l, e1, e2⟩ := bind_some e
  split at e2
  · rename_i hl
    cases e2
    refine ⟨B, F0, F, ρ, l, R, e1, fun xs H1 F1 R1 E1 m => ?_⟩
    have hx := m.length
    rw [hl] at hx
    match xs, hx with
    | [u, w, v], _ => exact ⟨u, w, v, rfl, q _ _ _ (par_end (is := [i, j, k]) R R1 m) E1.f⟩
  · cases e2
/-- names stored one behind the other -/
def tNs (is : List Nat) : TGs := fun xs σ H Q => xs.length = is.length ∧ Q (setAll σ is xs) H
theorem pns_nil : PGs X [] (tNs []) := PGs.imp pgs_nil fun xs σ H Q ⟨h, q⟩ => by
  cases xs with
  | nil => exact ⟨rfl, q⟩
  | cons u us => cases h
theorem pns_cons {es : List Expr} {i : Nat} {is : List Nat} (h1 : PG X e (gName i)) (h2 : PGs X es (tNs is)) (hs : (assignEach (e :: es) X.env).map (·.2) = assign e X.env :: (assignEach es X.env).map (·.2) := by rfl) : PGs X (e :: es) (tNs (i :: is)) :=
  PGs.imp (pgs_cons h1 h2 hs) fun xs σ H Q ⟨h, q⟩ => by
    cases xs with
    | nil => cases h
    | cons u us => exact ⟨u, us, rfl, Nat.succ.inj h, q⟩
/-- a, b, .. = x, y, .. where the tuple is made (names of cells, four and more, constants) -/
theorem ss_parT {is : List Nat} {es ts : List Expr} {k k2 n : Nat} {p2 : Pos} {f : MF} (hc : X.calm = true) (ha : SM X es f) (hg : PGs X ts (tNs is)) (hn : (assignEach ts X.env).length = n := by rfl) (hst : (assignEach ts X.env).findIdx? (·.1) = none := by rfl) (hnl : is.length = n := by rfl) (hl : is.length ≤ 1000 := by decide)
    (hs : swapsWithSole [.Tuple ts k p] (.Tuple es k2 p2) pos.line X.env = pure false := by rfl) (hw : swappedStores [.Tuple ts k p] (.Tuple es k2 p2) X.env = pure none := by rfl) (h1 : (assignEach [.Tuple ts k p] X.env).map (·.2) = [assign (.Tuple ts k p) X.env] := by rfl) :
    SS X (.Assign [.Tuple ts k p] (.Tuple es k2 p2) pos) (sPar is f) := PS.imp (ps_asg (pe_tup ha) (pg_tup hc hg hn hst) hs hw h1) fun D σ H ⟨B, F0, F, ρ, r, R, e, q⟩ => by
  obtain ⟨l, e1, e2⟩ := bind_some e
  split at e2
  · rename_i hll
    cases e2
    refine ⟨B, F0, F, ρ, l, R, e1, fun xs H1 F1 R1 E1 m => ?_⟩
    have hx := m.length
    have hz : xs.length = n := by rw [hx, hll, hnl]
    refine ⟨by rw [hz]; exact Nat.le_of_lt (L2.small1000 (hnl ▸ hl)), fun p hp => ⟨p, xs, rfl, .inl (.inl upd_same), hz, by rw [hz, hnl], ?_⟩⟩
    have R2 := par_end (is := is) R R1 m
    have E2 : Ext F1 H1 F1 (upd H1 p (.tup xs)) := ext_new hp
    exact q _ _ _ (R2.ext E2 (same_upd2 R1.fh hp)) E1.f
  · cases e2

/-! ### loops -/
def loopF (h : GF) (body : PSt) : List PV → PEnv → Option Fl
  | [], ρ => some (.nx ρ)
  | x :: r, ρ => (h x ρ).bind fun ρ1 => (body ρ1).bind fun fl => match fl with
    | .nx ρ' => loopF h body r ρ'
    | .cnt ρ' => loopF h body r ρ'
    | .brk ρ' => some (.nx ρ')
    | .ret v => some (.ret v)
def sFor (L : LF) (h : GF) (body : PSt) : PSt := fun ρ => (L ρ).bind fun l => loopF h body l ρ
theorem ss_for {iter : Expr} {body : List Stmt} {L : LF} {h : GF} {ts : List Nat} (hp : PassesOwn (model X.prog X.w) X.A X.env X.xe) (hc : X.calm = true) (hi : SI X tg iter L) (hg : SG X tg h ts) (hb : SSs X body s) (hs : ∀ x, foldedSetIterable iter X.env x = pure x := by intro _; rfl) :
    SS X (.For tg iter body [] pos) (sFor L h s) := PS.imp (ps_for hp hc hi hg hb hs) fun D σ H ⟨B, F0, F, ρ, r, R, e, q⟩ => by
  obtain ⟨l, e1, e2⟩ := bind_some e
  refine ⟨B, F0, F, ρ, l, R, e1, fun J H1 F1 R1 E1 Y => ?_⟩
  refine ⟨fun i m σ' H' => m = l.length - i ∧ i ≤ l.length ∧ ∃ Fc ρc, RE X.K B F0 Fc H' σ' ρc ∧ Same F1 Fc ∧ loopF h s (l.drop i) ρc = some r, ⟨l.length, by simp, Nat.zero_le _, F1, ρ, R1, Same.refl _, e2⟩, ?_⟩
  rintro i m σ' H' ⟨rfl, hi, Fc, ρc, Rc, sc, hr⟩
  by_cases hlt : i < l.length
  · refine .inr ⟨Y.go i H' (sc.trans Rc.fh) hlt, fun σ2 H2 => i + 1 ≤ l.length ∧ ∃ Fc ρc, RE X.K B F0 Fc H2 σ2 ρc ∧ Same F1 Fc ∧ loopF h s (l.drop (i + 1)) ρc = some r, fun σ2 H2 z => ⟨l.length - (i + 1), by omega, rfl, z⟩, fun x H2 y => ?_⟩
    obtain ⟨d, F2, g1, E2, s2, dx⟩ := Y.item sc Rc.fh (sc.trans Rc.fh) hlt y
    have ed : l.drop i = d :: l.drop (i + 1) := by
      rw [List.drop_eq_getElem_cons hlt]
      rw [List.getElem?_eq_getElem hlt] at g1
      cases g1
      rfl
    rw [ed] at hr
    unfold loopF at hr
    obtain ⟨ρ1, q1, hr1⟩ := bind_some hr
    obtain ⟨fl, q2, hr2⟩ := bind_some hr1
    refine ⟨B, F0, F2, ρc, d, ρ1, Rc.ext E2 s2, dx, q1, fun σ3 R3 _ _ => ⟨B, F0, F2, ρ1, fl, R3, q2, ?_⟩⟩
    have s3 : Same F1 F2 := sc.trans E2.f
    cases fl with
    | nx ρ' => exact fun σ4 H4 F4 R4 s4 => ⟨by omega, F4, ρ', R4, s3.trans s4, hr2⟩
    | cnt ρ' => exact fun σ4 H4 F4 R4 s4 => ⟨by omega, F4, ρ', R4, s3.trans s4, hr2⟩
    | brk ρ' =>
      cases hr2
      exact fun σ4 H4 F4 R4 s4 => q σ4 H4 F4 R4 (E1.f.trans (s3.trans s4))
    | ret v =>
      cases hr2
      exact q
  · have ei : i = l.length := by omega
    subst ei
    rw [List.drop_length] at hr
    cases hr
    exact .inl ⟨Y.stop _ H' (sc.trans Rc.fh) rfl, q σ' H' Fc Rc (E1.f.trans sc)⟩
def loopW (c : PEnv → Option Bool) (body : PSt) : Nat → PEnv → Option Fl
  | 0, _ => none
  | n + 1, ρ => (c ρ).bind fun b => if b = true then (body ρ).bind fun fl => match fl with
      | .nx ρ' => loopW c body n ρ'
      | .cnt ρ' => loopW c body n ρ'
      | .brk ρ' => some (.nx ρ')
      | .ret v => some (.ret v)
    else some (.nx ρ)
/-- n: a bound of the turns -/
def sWhile (n : Nat) (c : PEnv → Option Bool) (body : PSt) : PSt := loopW c body n
theorem ss_while {c : Expr} {body : List Stmt} {k : PEnv → Option Bool} (n : Nat) (hp : PassesOwn (model X.prog X.w) X.A X.env X.xe) (hc : ST X c k) (hb : SSs X body s) : SS X (.While c body [] pos) (sWhile n k s) := PS.imp (ps_while hp hc hb) fun D σ H ⟨B, F0, F, ρ, r, R, e, q⟩ => by
  refine ⟨fun m σ' H' => ∃ Fc ρc, RE X.K B F0 Fc H' σ' ρc ∧ Same F Fc ∧ loopW k s m ρc = some r, ⟨n, F, ρ, R, Same.refl _, e⟩, ?_⟩
  rintro m σ' H' ⟨Fc, ρc, Rc, sc, hr⟩
  cases m with
  | zero => cases hr
  | succ m =>
    unfold loopW at hr
    obtain ⟨b, q1, hr1⟩ := bind_some hr
    refine ⟨B, F0, Fc, ρc, b, Rc, q1, fun H1 F1 R1 E1 => ?_⟩
    have s1 := sc.trans E1.f
    cases b with
    | true =>
      rw [if_pos rfl] at hr1
      obtain ⟨fl, q2, hr2⟩ := bind_some hr1
      refine L2.iteT ⟨fun σ2 H2 => ∃ Fc ρc, RE X.K B F0 Fc H2 σ2 ρc ∧ Same F Fc ∧ loopW k s m ρc = some r, fun σ2 H2 z => ⟨m, by omega, z⟩, B, F0, F1, ρc, fl, R1, q2, ?_⟩
      cases fl with
      | nx ρ' => exact fun σ4 H4 F4 R4 s4 => ⟨F4, ρ', R4, s1.trans s4, hr2⟩
      | cnt ρ' => exact fun σ4 H4 F4 R4 s4 => ⟨F4, ρ', R4, s1.trans s4, hr2⟩
      | brk ρ' =>
        cases hr2
        exact fun σ4 H4 F4 R4 s4 => q σ4 H4 F4 R4 (s1.trans s4)
      | ret v =>
        cases hr2
        exact q
    | false =>
      rw [if_neg Bool.false_ne_true] at hr1
      cases hr1
      exact L2.iteF (q σ' H1 F1 R1 s1)
end
end Pl

set_option Elab.async false
set_option linter.all false
set_option maxRecDepth 100000
set_option maxHeartbeats 4000000
set_option autoImplicit false
namespace Pl
open PySem PySem.Spec PyProof.Rows L2
variable {K : PySem.W.Frag}

/-! ### defs -/
/-- what a def promises: n values in, the value of fn out -/
def spP (K : PySem.W.Frag) (n : Nat) (fn : List PV → Option PV) : Sp := fun vs H Q _ => ∃ F l r, Same F H ∧ DrAll K F vs l ∧ l.length = n ∧ fn l = some r ∧
  ∀ x H' F', Same H H' → Same F F' → Same F' H' → (∀ a o, F' a = some o → F a = some o ∨ H a = none) → Dr K F' x r → Q x H'
def startE (n : Nat) (l : List PV) : PEnv := l.map Slot.val ++ List.replicate (n - l.length) Slot.un
def outF : Fl → Option PV
  | .ret v => some v
  | .nx _ => some .none
  | _ => none
/-- a def with n slots -/
def fnDef (n : Nat) (body : PSt) : List PV → Option PV := fun l => (body (startE n l)).bind outF
theorem re_start {F H : Hp} {N : List Str} {vs : List V} {l : List PV} (fh : Same F H) (d : DrAll K F vs l) (hl : l.length ≤ N.length) : RE K H F F H (L2.start N vs) (startE N.length l) := by
  have lv := drAll_length d
  refine ⟨fh, Same.refl _, Same.refl _, fun a o h => .inl h, ?_, fun i v h => ?_, fun i v h => ?_, fun i j v w a h1 => ?_⟩
  · unfold L2.start startE
    simp only [List.length_append, List.length_map, List.length_replicate]
    omega
  · unfold startE at h
    unfold L2.start
    by_cases hi : i < l.length
    · rw [List.getElem?_append_left (by simpa using hi), List.getElem?_map, List.getElem?_eq_getElem hi] at h
      cases h
      obtain ⟨x, h1, h2⟩ := drAll_get d (List.getElem?_eq_getElem hi)
      refine ⟨x, ?_, h2⟩
      rw [List.getElem?_append_left (by rw [List.length_map, lv]; exact hi), List.getElem?_map, h1]
      rfl
    · rw [List.getElem?_append_right (by simpa using hi), List.getElem?_replicate] at h
      split at h <;> cases h
  · unfold startE at h
    by_cases hi : i < l.length
    · rw [List.getElem?_append_left (by simpa using hi), List.getElem?_map, List.getElem?_eq_getElem hi] at h
      cases h
    · rw [List.getElem?_append_right (by simpa using hi), List.getElem?_replicate] at h
      split at h <;> cases h
  · unfold startE at h1
    by_cases hi : i < l.length
    · rw [List.getElem?_append_left (by simpa using hi), List.getElem?_map, List.getElem?_eq_getElem hi] at h1
      cases h1
    · rw [List.getElem?_append_right (by simpa using hi), List.getElem?_replicate] at h1
      split at h1 <;> cases h1
/-- a def of the module that keeps the promise -/
structure DefOk (P : Program) (w : World) (K : PySem.W.Frag) (mg : Str → Option Value) (base : Heap) (k : Nat) (x : Str) (n : Nat) (fn : List PV → Option PV) : Prop where
  ex : ∃ (f : Addr) (fd : FuncData) (ps : List Str), mg x = some (.ref f) ∧ PySem.W.keepIn K (.ref f) = true ∧ Binds K fd ps [] ∧ FnOk P w K mg base CX0 k f fd ps (spP K n fn)
theorem DefOk.mono {P : Program} {w : World} {mg : Str → Option Value} {base : Heap} {j k : Nat} {x : Str} {n : Nat} {fn : List PV → Option PV} (D : DefOk P w K mg base j x n fn) (h : j ≤ k) : DefOk P w K mg base k x n fn := by
  obtain ⟨f, fd, ps, h1, h2, h3, h4⟩ := D.ex
  exact ⟨f, fd, ps, h1, h2, h3, h4.mono h⟩
/-- the promise follows from another function's -/
theorem DefOk.imp {P : Program} {w : World} {mg : Str → Option Value} {base : Heap} {k : Nat} {x : Str} {n : Nat} {fn fn' : List PV → Option PV} (D : DefOk P w K mg base k x n fn) (h : ∀ l r, fn' l = some r → fn l = some r) : DefOk P w K mg base k x n fn' := by
  obtain ⟨f, fd, ps, h1, h2, h3, h4⟩ := D.ex
  refine ⟨f, fd, ps, h1, h2, h3, h4.imp fun vs H Q E ⟨F, l, r, q1, q2, q3, q4, q5⟩ => ⟨F, l, r, q1, q2, q3, h _ _ q4, q5⟩⟩
theorem fnOk_body {P : Program} {w : World} {mg : Str → Option Value} {base : Heap} {k : Nat} {x : Str} {st : Stmt} {f : Addr} {fd : FuncData} {N ps : List Str} {b : PSt} (F : FunD K x x (defArgs st) (defBody st) (defScope st) [] [] f fd) (S : FnScope N ps (defScope st))
    (body : ∀ (cdv : Value) (A : Around) (outer : List Env) (s : Shared) (H : Hp) (E : XK), Room k (A.deeper (envOfC x (defScope st) s.heap.objs.size f cdv)) → SSs (cxOf CX0 P w K mg base N x (defScope st) f cdv A outer s H E).nox (defBody st) b) :
    FnOk P w K mg base CX0 (k + 1) f fd ps (spP K ps.length (fnDef N.length b)) := by
  have hpl : ps.length ≤ N.length := by
    have := congrArg List.length S.pre
    rw [List.length_take] at this
    omega
  refine F.ok S (fun vs H Q E ⟨F, l, r, q1, q2, q3, q4, q5⟩ => (drAll_length q2).trans q3) fun cdv A outer s H vs Q E hr ⟨F, l, r, q1, q2, q3, q4, q5⟩ => ⟨_, (body cdv A outer s H E hr).nox, ?_⟩
  obtain ⟨fl, e1, e2⟩ := bind_some q4
  refine ⟨H, F, F, startE N.length l, fl, re_start q1 q2 (by omega), e1, ?_⟩
  cases fl with
  | ret v =>
    cases e2
    exact fun y H' F' h1 h2 h3 h4 h5 => q5 y H' F' h1 h2 h3 h4 h5
  | nx ρ =>
    cases e2
    exact fun σ' H' F' R _ => q5 .non H' F' R.bh R.f0 R.fh R.ff .non
  | brk ρ => cases e2
  | cnt ρ => cases e2
theorem DefOk.mk' {P : Program} {w : World} {mg : Str → Option Value} {base : Heap} {k : Nat} {x : Str} {st : Stmt} {f : Addr} {fd : FuncData} {N ps : List Str} {b : PSt} {n m : Nat} (F : FunD K x x (defArgs st) (defBody st) (defScope st) [] [] f fd) (hm : mg x = some (.ref f)) (S : FnScope N ps (defScope st))
    (hb : ∀ (kV doc pm : Value) (an : Option Addr) (cdv ct : Value) (us : List Value), us.length = ps.length → bindArgs (PySem.W.fnOf x x (defArgs st) (defBody st) (defScope st) .none kV doc pm an cdv ct) ⟨us, []⟩ = pure (ps.zip us))
    (hn : ps.length = n) (hN : N.length = m)
    (body : ∀ (cdv : Value) (A : Around) (outer : List Env) (s : Shared) (H : Hp) (E : XK), Room k (A.deeper (envOfC x (defScope st) s.heap.objs.size f cdv)) → SSs (cxOf CX0 P w K mg base N x (defScope st) f cdv A outer s H E).nox (defBody st) b) :
    DefOk P w K mg base (k + 1) x n (fnDef m b) := by
  subst hn hN
  exact ⟨f, fd, ps, hm, F.kp, F.bindsN hb, fnOk_body F S body⟩
section
variable {X : Cx} {a b c e : Expr} {f g : PF} {pos p : Pos} {x : Str} {es : List Expr} {r : PEnv → Option (List PV)}
theorem se_call {k n : Nat} {fn : List PV → Option PV} (D : DefOk X.prog X.w X.K X.mg X.base k x n fn) (hr : Room k X.A) (hg : Gl X x) (ha : SA X (e :: es) r) (hn : (e :: es).length = n := by rfl)
    (hdb : (x == ("__debug__" : Str)) = false := by decide) (he : starEach (e :: es) X.env = (false, eval e X.env) :: starEach es X.env := by rfl) (hpl : (backTo pos (starEach es X.env)).any (·.1) = false := by rfl) (hlen : ∀ ρ l, r ρ = some l → l.length = n) :
    SE X (.Call (.Name x p) (e :: es) [] pos) (eCall fn r) := by
  obtain ⟨f, fd, ps, h1, h2, h3, h4⟩ := D.ex
  refine PE.imp (pe_call h4 hr hg h1 h2 h3 .nil pass0 ha hdb he hpl) fun σ H Q ⟨B, F0, F, ρ, z, R, e, q⟩ => ?_
  obtain ⟨l, e1, e2⟩ := bind_some e
  refine ⟨B, F0, F, ρ, l, R, e1, fun xs H1 F1 R1 E1 d1 => ?_⟩
  show spP X.K n fn (xs ++ []) H1 Q E0
  rw [List.append_nil]
  refine ⟨F1, l, z, R1.fh, d1, hlen _ _ e1, e2, fun y H2 F2 s1 s2 s3 s4 d2 => ?_⟩
  have E2 : Ext F1 H1 F2 H2 := ⟨s2, s1, s4⟩
  exact q _ _ _ (R1.ext E2 s3) (E1.trans E2) d2
theorem aNil_len : ∀ ρ l, aNil ρ = some l → l.length = 0 := fun ρ l h => by cases h; rfl
theorem aCons_len {f : PF} {r : PEnv → Option (List PV)} {n : Nat} (h : ∀ ρ l, r ρ = some l → l.length = n) : ∀ ρ l, aCons f r ρ = some l → l.length = n + 1 := fun ρ l e => by
  obtain ⟨v, e1, e2⟩ := bind_some e
  obtain ⟨m, e3, e4⟩ := bind_some e2
  cases e4
  rw [List.length_cons, h _ _ e3]
end

/-! ### the end: a law -/
theorem law_end {l : PySem.W.OpenLaw} {k : Nat} {q : Program} {loose : List Str} {XP : (Str → Option Value) → Heap → Prop} {d : DefRec} {fa : List He.Fa} {fn : List He.DefD} {YP : World → Heap → Prop}
    (hn : l.most = some 63) (hdf : d.params.defaults = []) (hr : Room k callerA) (hd : d.name = "law") (hY : ∀ w h, YP w h → ∃ K : PySem.W.Frag, K.In h ∧ He.SaysD fa fn K) {law : List PV → Option PV} (hlaw : ∀ ns : List Int, ns.length ≤ 63 → law [.list (ns.map PyData.int)] = some (.bool true))
    (F : ∀ (w : World) (K : PySem.W.Frag) (mg : Str → Option Value) (h : Heap), K.In h → h.Ns mainGlobals mg → He.SaysD fa fn K →
      (∀ (f : Addr), mg "law" = some (.ref f) → ∃ fd : FuncData, (∀ (s : Shared) (u : Value), BindsTo s fd ⟨[u], []⟩ [("script", u)]) ∧ ∀ base : Heap, K.In base → base.Ns mainGlobals mg → FnOk l.prog w K mg base CX0 k f fd ["script"] (spP K 1 law))) :
    PySem.W.WalkO q loose XP YP l.row.toRowW d [] (fun f vs => PySem.call f vs) := by
  refine L2.walk_ofE (l := l) (n := 63) (k := k) (x := "script") (CX := CX0) hn (by decide) hdf hr (fun w mg f h Y G hmg => ?_) fun _ _ _ _ z => z
  obtain ⟨K, KX, c⟩ := hY w h Y
  rw [hd] at hmg
  obtain ⟨fd, hb, hF⟩ := F w K mg h KX G c f hmg
  refine ⟨K, fd, spP K 1 law, KX, hb, fun H a ns hl _ hS => ?_, hF⟩
  refine ⟨H, [.list (ns.map PyData.int)], .bool true, Same.refl _, .cons (.lst hS (drAll_of_ints ns)) .nil, rfl, hlaw ns hl, fun x H' F' _ _ _ _ d => ?_⟩
  cases d
  rfl
end Pl

set_option Elab.async false
set_option linter.all false
set_option maxRecDepth 100000
set_option maxHeartbeats 4000000
set_option autoImplicit false
namespace Pl
open PySem PySem.Spec PyProof.Rows L2
variable {K : PySem.W.Frag}

/-! ### enumerate and zip of lists and tuples, in any mix -/
structure SrcK where
  It : Heap → Addr → Addr → Nat → Prop
  Ob : Heap → Addr → Array Value → Prop
  sq : PySem.W.Frag → Hp → Addr → List V → Prop
  o0 : Addr → Obj
  draws : ∀ (prog : Program) (w : World) (A : Around), A.handled = none → ∀ (it l : Addr), l ≠ it → ∀ items : Array Value, Draws prog w A it [it, l] items.size (fun i v => items[i]? = some v) (fun i h => It h it l i ∧ Ob h l items)
  itAt : ∀ {h h' : Heap} {it a : Addr} {i : Nat}, It h it a i → (∀ o, h.get? it = some o → h'.get? it = some o) → It h' it a i
  obj : ∀ {h : Heap} {it a : Addr} {i : Nat}, It h it a i → ∃ o, h.get? it = some o ∧ ∀ v, o.data ≠ .cell v
  apart : ∀ {h : Heap} {it a : Addr} {i : Nat} {items : Array Value}, It h it a i → Ob h a items → a ≠ it
  ob : ∀ {h : Heap} {a : Addr} {items : Array Value}, Ob h a items → ∃ o, h.get? a = some o ∧ o.cls ≠ .type "enumerate" ∧ o.cls ≠ .type "zip"
  read : ∀ {X : Cx} {pins : List (Addr × Obj)} {σ : L2.St} {H : Hp} {s : Shared} {a : Addr} {xs : List V}, Inv X pins σ H s → sq X.K H a xs → ∃ its : List Value, Vals xs its ∧ Ob s.heap a its.toArray
  inj : ∀ {X : Cx} {pins : List (Addr × Obj)} {σ : L2.St} {H : Hp} {s : Shared} {a : Addr} {xs ys : List V}, Inv X pins σ H s → sq X.K H a xs → sq X.K H a ys → xs = ys
  same : ∀ {K : PySem.W.Frag} {H H' : Hp} {a : Addr} {xs : List V}, Same H H' → sq K H a xs → sq K H' a xs
  begins : ∀ (a : Addr) (items : Array Value), Begins (.ref a) (o0 a) fun h => Ob h a items
  start : ∀ {h : Heap} {it a : Addr}, h.get? it = some (o0 a) → It h it a 0
theorem cls_ne {o : Obj} {a b : String} (h : o.cls = .type a) (n : a ≠ b) : o.cls ≠ .type b := fun z => by
  rw [h] at z
  injection z with z
  exact n z
def kL : SrcK where
  It := fun h it a i => h.IsListIter it a i
  Ob := fun h a items => h.IsList a items
  sq := SqL
  o0 := fun a => { cls := .type "list_iterator", data := .fields #[.ref a, .int 0 0] }
  draws := fun _ _ _ hh it l hne items => Draws.list hh it l hne items
  itAt := fun h k => h.at k
  obj := fun ⟨o, e, c, d⟩ => ⟨o, e, fun v z => by rw [d] at z; cases z⟩
  apart := fun ⟨o, e, c, d⟩ ⟨o', e', c', d'⟩ z => by
    subst z
    rw [e] at e'
    cases e'
    rw [c] at c'
    exact absurd c' (by decide)
  ob := fun ⟨o, e, c, d⟩ => ⟨o, e, cls_ne c (by decide), cls_ne c (by decide)⟩
  read := fun I h => by
    obtain ⟨its, r, p, _⟩ := I.list h
    exact ⟨its, r, p.isList⟩
  inj := fun I h h' => I.list_inj h h'
  same := fun e h => e.seq h
  begins := fun a items => begins_list a items
  start := fun h => ⟨_, h, rfl, rfl⟩
def kT : SrcK where
  It := fun h it a i => h.IsTupleIter it a i
  Ob := fun h a items => h.IsTuple a items
  sq := SqT
  o0 := fun a => { cls := .type "tuple_iterator", data := .fields #[.ref a, .int 0 0] }
  draws := fun _ _ _ hh it l hne items => Draws.tuple hh it l hne items
  itAt := fun h k => h.at k
  obj := fun ⟨o, e, c, d⟩ => ⟨o, e, fun v z => by rw [d] at z; cases z⟩
  apart := fun ⟨o, e, c, d⟩ ⟨o', e', c', d'⟩ z => by
    subst z
    rw [e] at e'
    cases e'
    rw [c] at c'
    exact absurd c' (by decide)
  ob := fun ⟨o, e, c, d⟩ => ⟨o, e, cls_ne c (by decide), cls_ne c (by decide)⟩
  read := fun I h => by
    obtain ⟨its, r, p, _⟩ := I.tuple h
    exact ⟨its, r, p⟩
  inj := fun I h h' => I.tuple_inj h h'
  same := fun e h => sqT_same e h
  begins := fun a items => begins_tuple a items
  start := fun h => ⟨_, h, rfl, rfl⟩
def IteG (K : PySem.W.Frag) (κ : SrcK) (a : Addr) : It :=
  ⟨fun i H => ∃ xs x, κ.sq K H a xs ∧ xs[i]? = some x, fun i H v H' => ∃ T x, v = .ref T ∧ H T = none ∧ H' = upd H T (.tup [.int (i : Nat), x]) ∧ ∀ xs, κ.sq K H a xs → xs[i]? = some x, fun i H => ∃ xs, κ.sq K H a xs ∧ xs.length = i⟩
theorem enum_ne {κ : SrcK} {h : Heap} {e it a : Addr} {c : Int} {old : Value} {items : Array Value} (he : IsEnum h e it c old) (ob : κ.Ob h a items) : e ≠ a := fun z => by
  obtain ⟨o, e1, n, _⟩ := κ.ob ob
  subst z
  have he' : h.get? e = some _ := he
  rw [e1] at he'
  have := congrArg Obj.cls (Option.some.inj he')
  exact n this
theorem turn_enumG {P : Program} {w : World} {elts : List Expr} {kk : Nat} {tpos : Pos} (κ : SrcK) (a e it : Addr) :
    Turn P w K (.Tuple elts kk tpos) (IteG K κ a) [e, it] e (fun i h => (∃ old, IsEnum h e it ((i : Nat) : Int) old) ∧ κ.It h it a i ∧ e ≠ it) where
  mem := by simp
  obj := fun i h ⟨⟨old, he⟩, hit, _⟩ b hb => by
    rcases List.mem_cons.mp hb with z | z
    · rw [z]
      exact ⟨_, he, fun v q => nomatch q⟩
    · rw [List.mem_singleton.mp z]
      exact κ.obj hit
  keep := fun i h h' ⟨⟨old, he⟩, hit, hne⟩ k => ⟨⟨old, k e (by simp) _ he⟩, κ.itAt hit (fun o q => k it (by simp) o q), hne⟩
  item := fun X hP hw hK hc i pins s σ H E I hf ⟨⟨old, he⟩, hit, hne⟩ ⟨xs, x, hq, hx⟩ => by
    subst hP hw hK
    obtain ⟨its, rv, ob⟩ := κ.read I hq
    obtain ⟨u, hu, ru⟩ := rv.get hx
    have hae := enum_ne he ob
    have hai := κ.apart hit ob
    have el : e < s.heap.objs.size := Heap.lt_size he
    obtain ⟨oi, gi, _⟩ := κ.obj hit
    have il : it < s.heap.objs.size := Heap.lt_size gi
    have hlt : i < its.toArray.size := by
      have := (List.getElem?_eq_some_iff.mp hx).1
      rw [List.size_toArray, ← rv.length]
      exact this
    have D := κ.draws X.prog X.w X.A.in1 (I.ok.hd hc) it a hai its.toArray
    refine wpAny_pyNext_enum_itemC D he ⟨hit, ob⟩ hlt hne (by simp [hne, hae]) fun y h1 tk hy ho st1 hT hsz hk => ?_
    have ey : y = u := by
      have hy' : its.toArray[i]? = some y := hy
      rw [List.getElem?_toArray, hu] at hy'
      exact (Option.some.inj hy').symm
    subst ey
    refine ⟨_, rfl, wpAny_letOwnedTupleGo_enum (s := { s with heap := h1, toks := tk + 1 }) ho fun h2 he2 sb => ?_⟩
    have g2 : h2.get? s.heap.objs.size = some { cls := .type "tuple", data := .seq #[.int i tk, y] } := (sb.2 _ (Nat.ne_of_gt el)).trans hT
    have fr : H s.heap.objs.size = none := I.fresh
    have J : Inv X pins σ (upd H s.heap.objs.size (.tup [.int (i : Nat), x])) { s with heap := h2, toks := tk + 1 } := by
      refine I.turnedNew (ch := [e, it]) (fun b o hb q => ?_) hf (Nat.le_refl _) ⟨by show 2 ≤ sizeLine; decide, [.int i tk, y], .cons ⟨_, rfl⟩ (.cons ru .nil), ⟨_, g2, rfl, _, rfl⟩⟩
      simp only [List.mem_cons, List.mem_nil_iff, or_false, not_or] at hb
      exact (sb.2 b hb.1).trans (hk b o hb.1 hb.2 q)
    refine ⟨.ref s.heap.objs.size, _, J, rfl, ⟨_, x, rfl, fr, rfl, fun ys hy2 => by rw [κ.inj I hy2 hq]; exact hx⟩, ⟨⟨y, ?_⟩, κ.itAt st1.1 (fun o q => (sb.2 it (Ne.symm hne)).trans q), hne⟩, fun b hb => ?_⟩
    · rw [show ((i + 1 : Nat) : Int) = (i : Int) + 1 by omega]
      exact he2
    · have bl : b < s.heap.objs.size := by
        rcases List.mem_cons.mp hb with z | z
        · rw [z]
          exact el
        · rw [List.mem_singleton.mp z]
          exact il
      rw [upd_ne (Nat.ne_of_lt bl)]
      exact (hf b hb).1
  done := fun X hP hw hK hc i pins s σ H E I hf ⟨⟨old, he⟩, hit, hne⟩ ⟨xs, hq, hx⟩ => by
    subst hP hw hK
    obtain ⟨its, rv, ob⟩ := κ.read I hq
    have hai := κ.apart hit ob
    have D := κ.draws X.prog X.w X.A.in1 (I.ok.hd hc) it a hai its.toArray
    have en : its.toArray.size = i := by rw [List.size_toArray, ← rv.length, hx]
    refine wpAny_pyNext_enum_endD D he (by rw [en]; exact ⟨hit, ob⟩) fun h1 hk => ⟨rfl, I.turnedL (t' := s.toks) (ch := [e, it]) (fun b o hb q => ?_) hf⟩
    simp only [List.mem_cons, List.mem_nil_iff, or_false, not_or] at hb
    exact hk b o hb.2 q
  self := fun A i s Q E ⟨⟨old, he⟩, _⟩ h => wpAny_pyIter_enum he h
end Pl

set_option Elab.async false
set_option linter.all false
set_option maxRecDepth 100000
set_option maxHeartbeats 4000000
set_option autoImplicit false
namespace Pl
open PySem PySem.Spec PyProof.Rows L2
variable {K : PySem.W.Frag}

theorem meets_enum1B {v : Value} {o : Obj} {Hv : Heap → Prop} (B : Begins v o Hv) :
    Meets (Builtin.«enumerate.__new__» ⟨[.type "enumerate", v], []⟩) (fun _ R s => Hv s.heap ∧
      R (.ok (.ret (.ref (s.heap.push o).objs.size))) { s with heap := (s.heap.push o).push { cls := .type "enumerate", data := .fields #[.none, .bool false, .ref s.heap.objs.size, rawInt 0, .none, .none] } }) :=
  .of_wp fun prog w A R s h => by
    obtain ⟨hp, gs, dr, tks, oss⟩ := s
    obtain ⟨hv, h⟩ := h
    have f1 := sub_enumerate
    have it1 : ∀ {A' : Around} {E : Value → Shared → Prop} {Q : Value → Shared → Prop}, Q (.ref hp.objs.size) ⟨hp.push o, gs, dr, tks, oss⟩ → wpAny (model prog w) A' (pyIter v) Q E ⟨hp, gs, dr, tks, oss⟩ :=
      fun q => B.iter prog w _ _ ⟨hp, gs, dr, tks, oss⟩ _ hv q
    wp_walk using it1
    refine wpAny_stack_any fun stk => wpAny_pure ?_
    split
    · rename_i c _ _ _ _ _
      cases (c == Value.type "enumerate")
      · wp_walk using it1
        exact ⟨_, rfl, h⟩
      · wp_walk using it1
        exact ⟨_, rfl, h⟩
    · wp_walk using it1
      exact ⟨_, rfl, h⟩
theorem enum1_begins {prog : Program} {w : World} {A : Around} {E : Value → Shared → Prop} {s : Shared} {v : Value} {o : Obj} {Hv : Heap → Prop} {Q : Value → Shared → Prop} (B : Begins v o Hv) (h1 : Hv s.heap)
    (h : ∀ h', IsEnum h' (s.heap.objs.size + 1) s.heap.objs.size 0 .none → h'.get? s.heap.objs.size = some o → (∀ b u, s.heap.get? b = some u → h'.get? b = some u) → Q (.ref (s.heap.objs.size + 1)) { s with heap := h' }) :
    wpAny (model prog w) A (call (.type "enumerate") [v]) Q E s := by
  have hz : (s.heap.push o).objs.size = s.heap.objs.size + 1 := Heap.size_push ..
  have he := Heap.get?_push_size (s.heap.push o) (o := { cls := .type "enumerate", data := .fields #[.none, .bool false, .ref s.heap.objs.size, rawInt 0, .none, .none] }) rfl
  rw [hz] at he
  refine callType_new F.called_enumerate (by decide) (F.typeCall_enumerate_1 v) (F.newCall_enumerate_1 v) (fun obj => F.args_object_init_2 obj v) F.entry_enumerate_new (meets_enum1B B) ⟨h1, ?_⟩
  show _ ∧ _
  rw [hz]
  exact ⟨⟨_, he, rfl⟩, h _ he (Heap.get?_push_of_some _ (Heap.get?_push_size _ B.free)) fun b u q => Heap.get?_push_of_some _ (Heap.get?_push_of_some _ q)⟩

section
variable {X : Cx} {tg a b c e : Expr} {f g : PF} {pos p : Pos} {x : Str}
def enumL (l : List PV) : List PV := l.mapIdx fun i d => .tuple [.int (i : Nat), d]
def lEnum (f : PF) : LF := fun ρ => (f ρ).bind fun v => (toL v).bind fun l => some (enumL l)
theorem enumL_length (l : List PV) : (enumL l).length = l.length := by
  unfold enumL
  rw [List.length_mapIdx]
theorem enumL_get (l : List PV) (i : Nat) (d : PV) (h : l[i]? = some d) : (enumL l)[i]? = some (.tuple [.int (i : Nat), d]) := by
  unfold enumL
  rw [List.getElem?_mapIdx, h]
  rfl
theorem yl_enum {κ : SrcK} {ad : Addr} {xs : List V} {l : List PV} {F G : Hp} (h : κ.sq K G ad xs) (d : DrAll K F xs l) : Yl K (IteG K κ ad) (enumL l) F G where
  go := fun i H s hi => by
    rw [enumL_length] at hi
    obtain ⟨v, h1, h2⟩ := drAll_get d (List.getElem?_eq_getElem hi)
    exact ⟨xs, v, κ.same s h, h1⟩
  stop := fun i H s hi => ⟨xs, κ.same s h, by rw [drAll_length d, ← enumL_length]; exact hi⟩
  yld := fun i H x H' s hi y => by
    obtain ⟨T, u, e1, e2, e3, e4⟩ := y
    obtain ⟨dd, h1, h2⟩ := drAll_get' d (e4 xs (κ.same s h))
    exact ⟨_, enumL_get l i dd h1, .inr ⟨T, _, _, e1, e2, e3, .cons (.int _) (.cons h2 .nil), rfl⟩⟩
/-- the address of a list or a tuple that is looked at -/
theorem bor_src {F H : Hp} {v : V} {d : PV} {l : List PV} (fh : Same F H) (h : BoR K F H v d) (e : toL d = some l) : ∃ (κ : SrcK) (ad : Addr) (xs : List V) (G : Hp), v = .ref ad ∧ κ.sq K H ad xs ∧ DrAll K F xs l ∧ κ.sq K G ad xs ∧ Same F G ∧ Same G H := by
  unfold toL at e
  split at e
  · cases e
    rcases h with h | ⟨p, rfl, xs, h1, h2⟩
    · cases h with
      | lst hs ha => exact ⟨kL, _, _, F, rfl, sqL_same fh hs, ha, hs, Same.refl _, fh⟩
    · obtain ⟨s1, s2⟩ := same_add fh h1
      exact ⟨kL, p, xs, _, rfl, .inl (.inl h1), h2, .inl (.inl upd_same), s1, s2⟩
  · cases e
    obtain ⟨p, xs, rfl, f1, h1, d1⟩ := bor_tup fh h
    exact ⟨kT, p, xs, F, rfl, h1, d1, f1, Same.refl _, fh⟩
  · cases e
theorem se_src {F H : Hp} {v : V} {d : PV} {l : List PV} (fh : Same F H) (h : Dr K F v d) (e : toL d = some l) : ∃ (κ : SrcK) (ad : Addr) (xs : List V), v = .ref ad ∧ κ.sq K H ad xs ∧ DrAll K F xs l ∧ κ.sq K F ad xs := by
  unfold toL at e
  split at e
  · cases e
    cases h with
    | lst hs ha => exact ⟨kL, _, _, rfl, sqL_same fh hs, ha, hs⟩
  · cases e
    cases h with
    | tup hs ha => exact ⟨kT, _, _, rfl, sqT_same fh hs, ha, hs⟩
  · cases e
def iEnumG (K : PySem.W.Frag) (ta : TA) : TI := fun σ H R => ta σ H fun vs H1 => ∃ (κ : SrcK) (ad : Addr) (xs : List V), vs = [.ref ad] ∧ κ.sq K H1 ad xs ∧ R (IteG K κ ad) H1
theorem pi_enumG {ta : TA} {tpos : Pos} {elts : List Expr} {kk : Nat} (hg : Gl X "enumerate") (hm : X.mg "enumerate" = none) (ha : PA X [e] ta) (hs : starEach [e] X.env = [(false, eval e X.env)]) :
    PI X (.Tuple elts kk tpos) (.Call (.Name "enumerate" p) [e] [] pos) (iEnumG X.K ta) := by
  refine ⟨fun pins s σ H R I h => ?_⟩
  refine Call_ (ld_blt I hg hm boot_enumerate (PyProof.Rows.callWith_type1 (thn (ha.run pos pins s σ H _ I h) fun us s1 ⟨vs, H1, I1, r1, κ, ad, xs, ev, hq, q⟩ => ?_) hs rfl))
  subst ev
  obtain ⟨u, rfl, ru⟩ := vals1 r1
  cases ru
  obtain ⟨its, rv, ob⟩ := κ.read I1 hq
  refine enum1_begins (κ.begins ad its.toArray) ob fun h' he hit hk => wpAny_pyIter_enum he ?_
  refine ⟨s1.heap.objs.size + 1, [s1.heap.objs.size + 1, s1.heap.objs.size], _, _, H1, rfl, I1.kept (t' := s1.toks) hk, turn_enumG κ ad (s1.heap.objs.size + 1) s1.heap.objs.size, ⟨⟨_, he⟩, κ.start hit, Nat.succ_ne_self _⟩, fun b hb => ?_, q⟩
  have hl : s1.heap.objs.size ≤ b := by
    rcases List.mem_cons.mp hb with z | z
    · rw [z]
      exact Nat.le_add_right _ _
    · rw [List.mem_singleton.mp z]
      exact Nat.le_refl _
  exact I1.fpOk hl (I1.hok.fresh hl)
theorem si_enum {tpos : Pos} {elts : List Expr} {kk : Nat} (hg : Gl X "enumerate") (hm : X.mg "enumerate" = none) (ha : SE X a f) (na : NS a := by intro _ _; rfl) : SI X (.Tuple elts kk tpos) (.Call (.Name "enumerate" p) [a] [] pos) (lEnum f) :=
  PI.imp (pi_enumG hg hm (pa_cons ha pa_nil (na _ _)) (na _ _)) fun σ H R ⟨B, F0, F, ρ, l, R1, e, q⟩ => by
    obtain ⟨v, e1, e2⟩ := bind_some e
    obtain ⟨m, e3, e4⟩ := bind_some e2
    cases e4
    refine ⟨B, F0, F, ρ, v, R1, e1, fun x H1 F1 R2 E1 d1 => ?_⟩
    obtain ⟨κ, ad, xs, rfl, h1, h2, h3⟩ := se_src R2.fh d1 e3
    exact ⟨κ, ad, xs, rfl, h1, q _ _ _ R2 E1 (yl_enum h3 h2)⟩
theorem sib_enum {tpos : Pos} {elts : List Expr} {kk : Nat} (hg : Gl X "enumerate") (hm : X.mg "enumerate" = none) (ha : SB X a f) (na : NS a := by intro _ _; rfl) : SIB X (.Tuple elts kk tpos) (.Call (.Name "enumerate" p) [a] [] pos) (lEnum f) :=
  PI.imp (pi_enumG hg hm (pa_cons ha pa_nil (na _ _)) (na _ _)) fun σ H R ⟨B, F0, F, ρ, l, R1, e, q⟩ => by
    obtain ⟨v, e1, e2⟩ := bind_some e
    obtain ⟨m, e3, e4⟩ := bind_some e2
    cases e4
    refine ⟨B, F0, F, ρ, v, R1, e1, fun x H1 F1 R2 E1 d1 => ?_⟩
    obtain ⟨κ, ad, xs, G, rfl, h1, h2, h3, h4, h5⟩ := bor_src R2.fh d1 e3
    exact ⟨κ, ad, xs, rfl, h1, q _ _ _ G R2 E1 h4 h5 (yl_enum h3 h2)⟩
end
end Pl

set_option Elab.async false
set_option linter.all false
set_option maxRecDepth 100000
set_option maxHeartbeats 4000000
set_option autoImplicit false
namespace Pl
open PySem PySem.Spec PyProof.Rows L2
open PySem.W (alike dataLt lt_data le_data gt_data ge_data)
variable {K : PySem.W.Frag}

/-- the built-in names that the module does not bind -/
structure BF (mg : Str → Option Value) : Prop where
  len : mg "len" = none
  range : mg "range" = none
  tuple : mg "tuple" = none
  int : mg "int" = none
  abs : mg "abs" = none
  list : mg "list" = none
  sum : mg "sum" = none
  all : mg "all" = none
  any : mg "any" = none
  min : mg "min" = none
  max : mg "max" = none
  sorted : mg "sorted" = none
  isinstance : mg "isinstance" = none
  enumerate : mg "enumerate" = none
  zip : mg "zip" = none
  set : mg "set" = none
  reversed : mg "reversed" = none
  bool : mg "bool" = none
  str : mg "str" = none
def bfNames : List He.Fa := [.free "len", .free "range", .free "tuple", .free "int", .free "abs", .free "list", .free "sum", .free "all", .free "any", .free "min", .free "max", .free "sorted", .free "isinstance", .free "enumerate", .free "zip", .free "set", .free "reversed", .free "bool", .free "str"]
theorem BF.of {K : PySem.W.Frag} {h : Heap} {mg : Str → Option Value} {fa : List He.Fa} {fn : List He.DefD} (X : K.In h) (G : h.Ns mainGlobals mg) (c : He.SaysD (bfNames ++ fa) fn K) : BF mg :=
  ⟨He.free_ok X G (c.fact 0 rfl), He.free_ok X G (c.fact 1 rfl), He.free_ok X G (c.fact 2 rfl), He.free_ok X G (c.fact 3 rfl), He.free_ok X G (c.fact 4 rfl), He.free_ok X G (c.fact 5 rfl), He.free_ok X G (c.fact 6 rfl), He.free_ok X G (c.fact 7 rfl), He.free_ok X G (c.fact 8 rfl), He.free_ok X G (c.fact 9 rfl), He.free_ok X G (c.fact 10 rfl), He.free_ok X G (c.fact 11 rfl), He.free_ok X G (c.fact 12 rfl), He.free_ok X G (c.fact 13 rfl), He.free_ok X G (c.fact 14 rfl), He.free_ok X G (c.fact 15 rfl), He.free_ok X G (c.fact 16 rfl), He.free_ok X G (c.fact 17 rfl), He.free_ok X G (c.fact 18 rfl)⟩
theorem u65 {k : Nat} {A : Around} (hr : Room k A) : A.units + 65 < cLine := by
  have := hr.un
  omega
theorem rm {k : Nat} {A : Around} (hr : Room k A) : Room k A := hr
/-- a bound of the turns of any while loop -/
def wfuel : Nat := 1000000
section
variable {X : Cx} {tg a b c e : Expr} {f g : PF} {pos p : Pos} {x : Str}
theorem ss_ownLc {i : Nat} {y : Str} {py spos : Pos} {elt iter : Expr} {ifs : List Expr} {scope : Scope} {own : List (Str × Nat)} {vs : List Nat} {L : LF} {h : GF} {ts : List Nat} {k : PEnv → Option Bool} {el : PF} (hc : X.calm = true) (hyl : X.env.scope.names.lookup y = some .local)
    (hsw : swapsWith (.ListComp elt [⟨tg, iter, ifs, 0⟩] scope pos) (some (.Name y py)) spos.line X.env = pure true) (hN : X.N.Nodup) (hi : SIB X tg iter L) (ok : BlkOk X.N X.env.scope scope own)
    (hg : ∀ (s : Shared) (H : Hp) (C : Addr) (cl : List (Str × Addr)) (fp : List Addr), SG (X.blk s H scope (compEnvC scope cl C X.env) fp) tg h ts)
    (ht : ∀ (s : Shared) (H : Hp) (C : Addr) (cl : List (Str × Addr)) (fp : List Addr), PTs (X.blk s H scope (compEnvC scope cl C X.env) fp) ifs (tT X.K k))
    (he : ∀ (s : Shared) (H : Hp) (C : Addr) (cl : List (Str × Addr)) (fp : List Addr), SE (X.blk s H scope (compEnvC scope cl C X.env) fp) elt el)
    (hts : ∀ i ∈ ts, i ∈ vs) (hvs : own.map (·.2) = vs := by rfl) (hy : X.N[i]? = some y := by rfl) (hs : ∀ x, foldedSetIterable iter X.env x = pure x := by intro _; rfl) :
    SS X (.Assign [.Name y py] (.ListComp elt [⟨tg, iter, ifs, 0⟩] scope pos) spos) (sOwn i (eComp L vs h k el)) := by
  subst hvs
  exact ss_lc (ps_setLc hc hN hy hyl hsw hi ok hg ht he hs) fun _ _ _ w => own_of w fun _ w => lc_imp hts w
theorem ss_setLc {i : Nat} {y : Str} {py spos : Pos} {elt iter : Expr} {ifs : List Expr} {scope : Scope} {own : List (Str × Nat)} {vs : List Nat} {L : LF} {h : GF} {ts : List Nat} {k : PEnv → Option Bool} {el : PF} (hc : X.calm = true) (hyl : X.env.scope.names.lookup y = some .local)
    (hsw : swapsWith (.ListComp elt [⟨tg, iter, ifs, 0⟩] scope pos) (some (.Name y py)) spos.line X.env = pure true) (hN : X.N.Nodup) (hi : SIB X tg iter L) (ok : BlkOk X.N X.env.scope scope own)
    (hg : ∀ (s : Shared) (H : Hp) (C : Addr) (cl : List (Str × Addr)) (fp : List Addr), SG (X.blk s H scope (compEnvC scope cl C X.env) fp) tg h ts)
    (ht : ∀ (s : Shared) (H : Hp) (C : Addr) (cl : List (Str × Addr)) (fp : List Addr), PTs (X.blk s H scope (compEnvC scope cl C X.env) fp) ifs (tT X.K k))
    (he : ∀ (s : Shared) (H : Hp) (C : Addr) (cl : List (Str × Addr)) (fp : List Addr), SE (X.blk s H scope (compEnvC scope cl C X.env) fp) elt el)
    (hts : ∀ i ∈ ts, i ∈ vs) (hvs : own.map (·.2) = vs := by rfl) (hy : X.N[i]? = some y := by rfl) (hs : ∀ x, foldedSetIterable iter X.env x = pure x := by intro _; rfl) :
    SS X (.Assign [.Name y py] (.ListComp elt [⟨tg, iter, ifs, 0⟩] scope pos) spos) (sAsg (eComp L vs h k el) (gN i)) := by
  subst hvs
  exact ss_lc (ps_setLc hc hN hy hyl hsw hi ok hg ht he hs) fun _ _ _ w => set_of w fun _ w => lc_imp hts w
theorem ss_ownLc2 {i : Nat} {y : Str} {py spos : Pos} {elt iter tg1 iter1 : Expr} {ifs ifs1 : List Expr} {scope : Scope} {own : List (Str × Nat)} {vs vs1 : List Nat} {L L1 : LF} {h h1 : GF} {ts ts1 : List Nat} {k k1 : PEnv → Option Bool} {el : PF} (hc : X.calm = true) (hyl : X.env.scope.names.lookup y = some .local)
    (hsw : swapsWith (.ListComp elt [⟨tg, iter, ifs, 0⟩, ⟨tg1, iter1, ifs1, 0⟩] scope pos) (some (.Name y py)) spos.line X.env = pure true) (hN : X.N.Nodup) (hi : SIB X tg iter L) (ok : BlkOk X.N X.env.scope scope own) (hv : ∀ i ∈ vs1, i ∈ vs)
    (hg : ∀ (s : Shared) (H : Hp) (C : Addr) (cl : List (Str × Addr)) (fp : List Addr), SG (X.blk s H scope (compEnvC scope cl C X.env) fp) tg h ts)
    (ht : ∀ (s : Shared) (H : Hp) (C : Addr) (cl : List (Str × Addr)) (fp : List Addr), PTs (X.blk s H scope (compEnvC scope cl C X.env) fp) ifs (tT X.K k))
    (hi1 : ∀ (s : Shared) (H : Hp) (C : Addr) (cl : List (Str × Addr)) (fp : List Addr), SI (X.blk s H scope (compEnvC scope cl C X.env) fp) tg1 iter1 L1)
    (hg1 : ∀ (s : Shared) (H : Hp) (C : Addr) (cl : List (Str × Addr)) (fp : List Addr), SG (X.blk s H scope (compEnvC scope cl C X.env) fp) tg1 h1 ts1)
    (ht1 : ∀ (s : Shared) (H : Hp) (C : Addr) (cl : List (Str × Addr)) (fp : List Addr), PTs (X.blk s H scope (compEnvC scope cl C X.env) fp) ifs1 (tT X.K k1))
    (he : ∀ (s : Shared) (H : Hp) (C : Addr) (cl : List (Str × Addr)) (fp : List Addr), SE (X.blk s H scope (compEnvC scope cl C X.env) fp) elt el)
    (hts : ∀ i ∈ ts, i ∈ vs) (hts1 : ∀ i ∈ ts1, i ∈ vs1) (hvs : own.map (·.2) = vs := by rfl) (hy : X.N[i]? = some y := by rfl) (hs : ∀ x, foldedSetIterable iter X.env x = pure x := by intro _; rfl) (hs1 : ∀ env x, foldedSetIterable iter1 env x = pure x := by intro _ _; rfl) :
    SS X (.Assign [.Name y py] (.ListComp elt [⟨tg, iter, ifs, 0⟩, ⟨tg1, iter1, ifs1, 0⟩] scope pos) spos) (sOwn i (eComp2 L vs h k L1 vs1 h1 k1 el)) := by
  subst hvs
  exact ss_lc (ps_setLc2 hc hN hy hyl hsw hi ok hv hg ht hi1 hg1 ht1 he hs hs1) fun _ _ _ w => own_of w fun _ w => lc2_imp hts hts1 w
theorem ss_setLc2 {i : Nat} {y : Str} {py spos : Pos} {elt iter tg1 iter1 : Expr} {ifs ifs1 : List Expr} {scope : Scope} {own : List (Str × Nat)} {vs vs1 : List Nat} {L L1 : LF} {h h1 : GF} {ts ts1 : List Nat} {k k1 : PEnv → Option Bool} {el : PF} (hc : X.calm = true) (hyl : X.env.scope.names.lookup y = some .local)
    (hsw : swapsWith (.ListComp elt [⟨tg, iter, ifs, 0⟩, ⟨tg1, iter1, ifs1, 0⟩] scope pos) (some (.Name y py)) spos.line X.env = pure true) (hN : X.N.Nodup) (hi : SIB X tg iter L) (ok : BlkOk X.N X.env.scope scope own) (hv : ∀ i ∈ vs1, i ∈ vs)
    (hg : ∀ (s : Shared) (H : Hp) (C : Addr) (cl : List (Str × Addr)) (fp : List Addr), SG (X.blk s H scope (compEnvC scope cl C X.env) fp) tg h ts)
    (ht : ∀ (s : Shared) (H : Hp) (C : Addr) (cl : List (Str × Addr)) (fp : List Addr), PTs (X.blk s H scope (compEnvC scope cl C X.env) fp) ifs (tT X.K k))
    (hi1 : ∀ (s : Shared) (H : Hp) (C : Addr) (cl : List (Str × Addr)) (fp : List Addr), SI (X.blk s H scope (compEnvC scope cl C X.env) fp) tg1 iter1 L1)
    (hg1 : ∀ (s : Shared) (H : Hp) (C : Addr) (cl : List (Str × Addr)) (fp : List Addr), SG (X.blk s H scope (compEnvC scope cl C X.env) fp) tg1 h1 ts1)
    (ht1 : ∀ (s : Shared) (H : Hp) (C : Addr) (cl : List (Str × Addr)) (fp : List Addr), PTs (X.blk s H scope (compEnvC scope cl C X.env) fp) ifs1 (tT X.K k1))
    (he : ∀ (s : Shared) (H : Hp) (C : Addr) (cl : List (Str × Addr)) (fp : List Addr), SE (X.blk s H scope (compEnvC scope cl C X.env) fp) elt el)
    (hts : ∀ i ∈ ts, i ∈ vs) (hts1 : ∀ i ∈ ts1, i ∈ vs1) (hvs : own.map (·.2) = vs := by rfl) (hy : X.N[i]? = some y := by rfl) (hs : ∀ x, foldedSetIterable iter X.env x = pure x := by intro _; rfl) (hs1 : ∀ env x, foldedSetIterable iter1 env x = pure x := by intro _ _; rfl) :
    SS X (.Assign [.Name y py] (.ListComp elt [⟨tg, iter, ifs, 0⟩, ⟨tg1, iter1, ifs1, 0⟩] scope pos) spos) (sAsg (eComp2 L vs h k L1 vs1 h1 k1 el) (gN i)) := by
  subst hvs
  exact ss_lc (ps_setLc2 hc hN hy hyl hsw hi ok hv hg ht hi1 hg1 ht1 he hs hs1) fun _ _ _ w => set_of w fun _ w => lc2_imp hts hts1 w
end
/-- a def that calls itself: nothing is promised at depth 0 -/
theorem DefOk.zero {P : Program} {w : World} {mg : Str → Option Value} {base : Heap} {k : Nat} {x : Str} {n : Nat} {fn : List PV → Option PV} (D : DefOk P w K mg base k x n fn) (j : Nat) : DefOk P w K mg base j x n (fun _ => none) := by
  obtain ⟨f, fd, ps, h1, h2, h3, h4⟩ := D.ex
  exact ⟨f, fd, ps, h1, h2, h3, ⟨fun vs H Q E ⟨F, l, r, q1, q2, q3, q4, q5⟩ => (by cases q4), fun A outer s H args us vs Q E _ _ _ _ ⟨F, l, r, q1, q2, q3, q4, q5⟩ => (by cases q4)⟩⟩
theorem DefOk.none' {P : Program} {w : World} {mg : Str → Option Value} {base : Heap} {x : Str} {n : Nat} {f : Addr} {fd : FuncData} {ps : List Str} (hm : mg x = some (.ref f)) (kp : PySem.W.keepIn K (.ref f) = true) (hb : Binds K fd ps []) (j : Nat) : DefOk P w K mg base j x n (fun _ => none) :=
  ⟨f, fd, ps, hm, kp, hb, ⟨fun vs H Q E ⟨F, l, r, q1, q2, q3, q4, q5⟩ => (by cases q4), fun A outer s H args us vs Q E _ _ _ _ ⟨F, l, r, q1, q2, q3, q4, q5⟩ => (by cases q4)⟩⟩
end Pl

set_option Elab.async false
set_option linter.all false
set_option maxRecDepth 100000
set_option maxHeartbeats 4000000
set_option autoImplicit false
namespace Pl
open PySem PySem.Spec PyProof.Rows L2
variable {K : PySem.W.Frag}

/-! ### sorted(xs) of a list of alike data -/
open PySem.W in
def srtOk (l : List PV) : Prop := AllAlike l ∧ Sortable l ∧ ∀ d ∈ l, d.depth ≤ 61
def srtL (l : List PV) : List PV := l.mergeSort (PySem.W.dataLe false id)
def rSortedD (K : PySem.W.Frag) : List V → Hp → VK → Prop := fun vs H Q => ∃ (a : Addr) (xs : List V) (l : List PV), vs = [V.ref a] ∧ SqL K H a xs ∧ DpAll K H xs l ∧ srtOk l ∧
  ∀ (ys : List V) (p : Addr), PySem.W.EachIs (fun y d => (y, d) ∈ xs.zip l) ys (srtL l) → H p = none → Q (.ref p) (upd H p (.lst ys))
theorem vals_of_each {R : V → PV → Prop} : ∀ {out : List Value} {l : List PV}, PySem.W.EachIs (fun v d => ∃ x : V, RelV x v ∧ R x d) out l → ∃ ys, Vals ys out ∧ PySem.W.EachIs R ys l
  | _, _, .nil => ⟨[], .nil, .nil⟩
  | _, _, .cons ⟨x, h1, h2⟩ t => by
    obtain ⟨ys, h3, h4⟩ := vals_of_each t
    exact ⟨x :: ys, .cons h1 h3, .cons h2 h4⟩
section
variable {X : Cx}
theorem each_of_dp {pins : List (Addr × Obj)} {σ : L2.St} {H : Hp} {s : Shared} (I : Inv X pins σ H s) : ∀ {xs : List V} {l : List PV} {its : List Value}, DpAll X.K H xs l → Vals xs its → (∀ (Z : List (V × PV)), (∀ z ∈ xs.zip l, z ∈ Z) → PySem.W.EachIs (fun v d => ∃ x : V, RelV x v ∧ (x, d) ∈ Z) its l) ∧ PySem.W.EachIs (fun v d => ∃ as, Reads s.heap v d as) its l
  | [], _, _, h, r => by
    cases h
    cases r
    exact ⟨fun _ _ => .nil, .nil⟩
  | x :: xs, _, _, h, r => by
    cases h with
    | cons h1 h2 =>
      cases r with
      | cons r1 r2 =>
        obtain ⟨a, b⟩ := each_of_dp I h2 r2
        exact ⟨fun Z hZ => .cons ⟨x, r1, hZ _ (by simp)⟩ (a Z fun z hz => hZ z (by simp [hz])), .cons (Dp.reads I _ _ _ h1 r1) b⟩
theorem cr_sortedD (hu : X.A.units + 64 < cLine) : CallR X (.builtin "sorted") (rSortedD X.K) := by
  intro pins s σ H vs us Q I r h
  obtain ⟨a, xs, l, rfl, hs, hd, ⟨h1, h2, h3⟩, q⟩ := h
  obtain ⟨its, rv, hl, hz⟩ := I.list hs
  rw [Vals.ref1 r]
  obtain ⟨e1, e2⟩ := each_of_dp I hd rv
  have ln : its.length = l.length := e2.length
  refine PySem.W.sorted_data (bs := l) (enc := id) hl.isList (e1 (xs.zip l) fun z hz => hz) e2 (by rw [List.map_id]; exact h1) (by rw [List.map_id]; exact h2) (by rw [← ln, ← rv.length]; exact hz) (fun b hb => by have := h3 b hb; show X.A.units + 2 + b.depth < cLine; omega) fun out ho eo => ?_
  obtain ⟨ys, k1, k2⟩ := vals_of_each eo
  obtain ⟨ep, he'⟩ := PyProof.Rows.sortedAll_at s.heap its out.toArray
  have hlen : ys.length ≤ sizeLine := by rw [k1.length, ho, ← ln, ← rv.length]; exact hz
  exact ⟨.ref _, upd H (s.heap.objs.size + 1) (.lst ys), I.laid (t' := s.toks) (fun _ _ => PyProof.Rows.sortedAll_old) (Nat.le_succ _) ⟨hlen, out, ep, k1, he'⟩, rfl, q _ _ k2 (I.hok.fresh (Nat.le_succ _))⟩
open Classical in
noncomputable def pSorted : PV → Option PV
  | .list l => if srtOk l then some (.list (srtL l)) else none
  | _ => none
theorem dr_zip {F : Hp} : ∀ {xs : List V} {l : List PV}, DrAll K F xs l → ∀ {y : V} {z : PV}, (y, z) ∈ xs.zip l → Dr K F y z
  | _, _, .nil, _, _, h => by cases h
  | _, _, .cons a b, y, z, h => by
    rw [List.zip_cons_cons, List.mem_cons] at h
    rcases h with h | h
    · cases h
      exact a
    · exact dr_zip b h
theorem dr_each {F : Hp} {xs : List V} {l : List PV} (d : DrAll K F xs l) : ∀ {ys : List V} {m : List PV}, PySem.W.EachIs (fun y z => (y, z) ∈ xs.zip l) ys m → DrAll K F ys m
  | _, _, .nil => .nil
  | _, _, .cons h t => .cons (dr_zip d h) (dr_each d t)
theorem un_sorted : Un1F K (rSortedD K) pSorted := fun F H x v z Q fh d e q => by
  unfold pSorted at e
  split at e
  · split at e
    · rename_i l ok
      cases e
      obtain ⟨p, xs, rfl, h1, d1⟩ := bor_lst fh d
      exact ⟨p, xs, l, rfl, h1, drAll_dp _ _ (drAll_same fh _ _ d1), ok, fun ys p' he hp => finOwn fh (dr_each d1 he) q p' hp⟩
    · cases e
  · cases e
theorem sf_sorted {a : Expr} {f : PF} {pos p : Pos} (hu : X.A.units + 64 < cLine) (hg : Gl X "sorted") (hm : X.mg "sorted" = none) (ha : SB X a f) (na : NS a := by intro _ _; rfl) : SF X (.Call (.Name "sorted" p) [a] [] pos) (e1 pSorted f) := sf_un1 un_sorted ha (fun h => pe_callB (cr_sortedD hu) hg hm boot_sorted' h (he := na _ _)) na

end
/-! ### sum of a list or a tuple of ints -/
def rSumT (K : PySem.W.Frag) : List V → Hp → VK → Prop := fun vs H Q => ∃ (a : Addr) (ns : List Int), vs = [V.ref a] ∧ SqT K H a (ns.map V.int) ∧ Q (.int ns.sum) H
theorem vals_at : ∀ {us : List Value} {ns : List Int}, Vals (ns.map V.int) us → ∀ (i : Nat) (v : Value), us[i]? = some v → ∃ t, v = .int (ns.getD i 0) t
  | [], _, _, i, v, h => by cases h
  | u :: us, [], r, _, _, _ => by cases r
  | u :: us, n :: ns, r, i, v, h => by
    cases r with
    | cons r1 r2 =>
      cases i with
      | zero =>
        cases h
        obtain ⟨t, rfl⟩ := r1
        exact ⟨t, rfl⟩
      | succ i => exact vals_at r2 i v h
section
variable {X : Cx}
theorem cr_sumT (hc : X.calm = true) : CallR X (.builtin "sum") (rSumT X.K) := by
  intro pins s σ H vs us Q I r h
  obtain ⟨a, ns, rfl, hs, q⟩ := h
  obtain ⟨its, rv, hl, _⟩ := I.tuple hs
  rw [Vals.ref1 r]
  have la : a < s.heap.objs.size := by
    obtain ⟨o, e, _⟩ := hl
    exact Heap.lt_size e
  have ln : its.length = ns.length := by rw [← rv.length, List.length_map]
  refine PySem.call_sum_walkG (wpAny_pyIter_tuple hl ?_)
  refine ⟨_, _, _, _, _, _, fun i => ns.getD i 0, rfl, Walks.tuple (A := X.A.in1) (I.ok.hd hc) s.heap.objs.size a (Nat.ne_of_lt la) its.toArray, ⟨⟨_, Heap.get?_push_size _ rfl, rfl, rfl⟩, Heap.IsTuple.at hl fun o e => Heap.get?_push_of_some _ e⟩, fun b hb => ?_, fun i v hv => vals_at rv i v (by rw [List.getElem?_toArray] at hv; exact hv), fun h' tk t' hk => ?_⟩
  · show b < (s.heap.push _).objs.size
    rw [Heap.size_push]
    rcases List.mem_cons.mp hb with rfl | hb
    · exact Nat.lt_succ_self _
    · rw [List.mem_singleton.mp hb]
      exact Nat.lt_succ_of_lt la
  · have e : preSum (fun i => ns.getD i 0) its.toArray.size = ns.sum := by rw [PyProof.Rows.preSum_getD, List.size_toArray, ln, List.take_length]
    rw [e]
    exact ⟨.int _, H, I.kept (fun b o g => hk b o (fun z => by rw [List.mem_singleton.mp z] at g; exact Nat.lt_irrefl _ (Heap.lt_size g)) (Heap.get?_push_of_some _ g)), ⟨_, rfl⟩, q⟩
def pSum : PV → Option PV
  | .list l => (toIs l).bind fun is => some (.int is.sum)
  | .tuple l => (toIs l).bind fun is => some (.int is.sum)
  | _ => none
theorem cr_sumA (hc : X.calm = true) : CallR X (.builtin "sum") (fun xs H Q => rSum X.K xs H Q ∨ rSumT X.K xs H Q) := by
  intro pins s σ H vs us Q I r h
  rcases h with h | h
  · exact cr_sum hc pins s σ H vs us Q I r h
  · exact cr_sumT hc pins s σ H vs us Q I r h
theorem un_sumA : Un1 K (fun xs H Q => rSum K xs H Q ∨ rSumT K xs H Q) pSum := fun F H x v z Q fh d e q => by
  unfold pSum at e
  split at e
  · obtain ⟨is, e1, e2⟩ := bind_some e
    cases e2
    obtain rfl := toIs_some e1
    obtain ⟨p, xs, rfl, h1, d1⟩ := bor_lst fh d
    obtain rfl := drAll_ints d1
    exact .inl ⟨p, is, rfl, h1, fin0 fh (.int _) q⟩
  · obtain ⟨is, e1, e2⟩ := bind_some e
    cases e2
    obtain rfl := toIs_some e1
    obtain ⟨p, xs, rfl, f1, h1, d1⟩ := bor_tup fh d
    obtain rfl := drAll_ints d1
    exact .inr ⟨p, is, rfl, h1, fin0 fh (.int _) q⟩
  · cases e
theorem se_sumG {a : Expr} {f : PF} {pos p : Pos} (hc : X.calm = true) (hg : Gl X "sum") (hm : X.mg "sum" = none) (ha : SB X a f) (na : NS a := by intro _ _; rfl) : SE X (.Call (.Name "sum" p) [a] [] pos) (e1 pSum f) := se_un1 un_sumA ha (fun h => pe_callB (cr_sumA hc) hg hm boot_sum' h (he := na _ _)) na
end
/-! ### list(range(..)), tuple(range(..)) -/
theorem ints_rgV (F : Hp) (a b : Int) : DrAll K F (rgV a b) ((rng a b).map PyData.int) := by
  unfold rgV rng
  rw [List.map_map]
  generalize (b - a).toNat = n
  induction List.range n with
  | nil => exact .nil
  | cons x l ih => exact .cons (.int _) ih
def pLstRg (v w : PV) : Option PV := (toI v).bind fun i => (toI w).bind fun j => if rOk i j && decide ((j - i).toNat ≤ 16777216) then some (.list ((rng i j).map PyData.int)) else none
def pTupRg (v w : PV) : Option PV := (toI v).bind fun i => (toI w).bind fun j => if rOk i j && decide ((j - i).toNat ≤ 16777216) then some (.tuple ((rng i j).map PyData.int)) else none
/-- the two ends of a range -/
abbrev RF := PEnv → Option (PV × PV)
def rg1 (f : PF) : RF := fun ρ => (f ρ).bind fun v => some (.int 0, v)
def rg2 (f g : PF) : RF := fun ρ => (f ρ).bind fun v => (g ρ).bind fun w => some (v, w)
def eLstRg (r : RF) : PF := fun ρ => (r ρ).bind fun p => pLstRg p.1 p.2
def eTupRg (r : RF) : PF := fun ρ => (r ρ).bind fun p => pTupRg p.1 p.2
def tRgE (K : PySem.W.Frag) (r : RF) : L2.St → Hp → (Int → Int → Hp → Prop) → Prop := fun σ H Q => ∃ B F0 F ρ i j, RE K B F0 F H σ ρ ∧ r ρ = some (.int i, .int j) ∧ ∀ H' F', RE K B F0 F' H' σ ρ → Ext F H F' H' → Q i j H'
def SRg (X : Cx) (e : Expr) (r : RF) : Prop := PRg X e (tRgE X.K r)
section
variable {X : Cx} {a b e : Expr} {f g : PF} {r : RF} {pos p : Pos}
theorem PRg.imp {t t' : L2.St → Hp → (Int → Int → Hp → Prop) → Prop} (h : PRg X e t) (w : ∀ σ H Q, t' σ H Q → t σ H Q) : PRg X e t' := fun pins s σ H Q I q => h pins s σ H Q I (w σ H Q q)
theorem srg_1 (hg : Gl X "range") (hm : X.mg "range" = none) (ha : SB X a f) (na : NS a := by intro _ _; rfl) : SRg X (.Call (.Name "range" p) [a] [] pos) (rg1 f) :=
  PRg.imp (prg_1 hg hm ha (na _ _)) fun σ H Q ⟨B, F0, F, ρ, i, j, R, e, q⟩ => by
    obtain ⟨v, e1, e2⟩ := bind_some e
    cases e2
    exact ⟨B, F0, F, ρ, _, R, e1, fun x H1 F1 R1 E1 d1 => ⟨j, bor_int d1, q H1 F1 R1 E1⟩⟩
theorem srg_2 (hg : Gl X "range") (hm : X.mg "range" = none) (ha : SB X a f) (hb : SB X b g) (na : NS a := by intro _ _; rfl) (nb : NS b := by intro _ _; rfl) : SRg X (.Call (.Name "range" p) [a, b] [] pos) (rg2 f g) :=
  PRg.imp (prg_2 hg hm ha hb (na _ _) (nb _ _) (nb.one _ _)) fun σ H Q ⟨B, F0, F, ρ, i, j, R, e, q⟩ => by
    obtain ⟨v, e1, e2⟩ := bind_some e
    obtain ⟨w, e3, e4⟩ := bind_some e2
    cases e4
    exact ⟨B, F0, F, ρ, _, R, e1, fun x H1 F1 R1 E1 d1 => ⟨B, F0, F1, ρ, _, R1, e3, fun y H2 F2 R2 E2 d2 => ⟨i, j, bor_int d1, bor_int d2, q H2 F2 R2 (E1.trans E2)⟩⟩⟩
theorem pLstRg_some {v w z : PV} (h : pLstRg v w = some z) : ∃ i j, v = .int i ∧ w = .int j ∧ RgOk i j ∧ z = .list ((rng i j).map PyData.int) := by
  obtain ⟨i, h1, h2⟩ := bind_some h
  obtain ⟨j, h3, h4⟩ := bind_some h2
  split at h4
  · rename_i c
    rw [Bool.and_eq_true] at c
    have c1 : -(2 ^ 62) ≤ i ∧ i < 2 ^ 62 ∧ -(2 ^ 62) ≤ j ∧ j < 2 ^ 62 := by
      have := c.1
      unfold rOk at this
      simp only [Bool.and_eq_true, decide_eq_true_eq] at this
      exact this
    have c2 := of_decide_eq_true c.2
    cases h4
    refine ⟨i, j, ?_, ?_, ⟨c1.1, c1.2.1, c1.2.2.1, c1.2.2.2, by omega⟩, rfl⟩
    · unfold toI at h1; split at h1 <;> cases h1; rfl
    · unfold toI at h3; split at h3 <;> cases h3; rfl
  · cases h4
theorem sf_listRg (hc : X.calm = true) (hg : Gl X "list") (hm : X.mg "list" = none) (he : SRg X e r) (na : NS e := by intro _ _; rfl) : SF X (.Call (.Name "list" p) [e] [] pos) (eLstRg r) :=
  PE.imp (pe_listRg hc hg hm he (na _ _)) fun σ H Q ⟨B, F0, F, ρ, z, R, e, q⟩ => by
    obtain ⟨v, e1, e2⟩ := bind_some e
    obtain ⟨i, j, h1, h2, ok, rfl⟩ := pLstRg_some e2
    refine ⟨B, F0, F, ρ, i, j, R, by rw [e1, ← h1, ← h2], fun H1 F1 R1 E1 => ⟨ok, finOwn R1.fh (ints_rgV F1 i j) fun a H2 F2 E2 s2 fp hp d2 => q a H2 F2 (R1.ext E2 s2) (E1.trans E2) fp (E1.h.free hp) d2⟩⟩
theorem pTupRg_some {v w z : PV} (h : pTupRg v w = some z) : ∃ i j, v = .int i ∧ w = .int j ∧ RgOk i j ∧ z = .tuple ((rng i j).map PyData.int) := by
  obtain ⟨i, h1, h2⟩ := bind_some h
  obtain ⟨j, h3, h4⟩ := bind_some h2
  split at h4
  · rename_i c
    have q : pLstRg v w = some (.list ((rng i j).map PyData.int)) := by
      unfold pLstRg
      rw [h1, Option.bind_some, h3, Option.bind_some, if_pos c]
    obtain ⟨i', j', k1, k2, k3, k4⟩ := pLstRg_some q
    subst k1 k2
    cases h1
    cases h3
    cases h4
    exact ⟨_, _, rfl, rfl, k3, rfl⟩
  · cases h4
theorem se_tupRg (hc : X.calm = true) (hg : Gl X "tuple") (hm : X.mg "tuple" = none) (he : SRg X e r) (na : NS e := by intro _ _; rfl) : SE X (.Call (.Name "tuple" p) [e] [] pos) (eTupRg r) :=
  PE.imp (pe_tupRg hc hg hm he (na _ _)) fun σ H Q ⟨B, F0, F, ρ, z, R, e, q⟩ => by
    obtain ⟨v, e1, e2⟩ := bind_some e
    obtain ⟨i, j, h1, h2, ok, rfl⟩ := pTupRg_some e2
    refine ⟨B, F0, F, ρ, i, j, R, by rw [e1, ← h1, ← h2], fun H1 F1 R1 E1 => ⟨ok, finNew (z := .none) R1.fh (ints_rgV F1 i j) fun u H2 F2 E2 s2 d2 => q u H2 F2 (R1.ext E2 s2) (E1.trans E2) d2⟩⟩
end
/-! ### (x, ..) * k -/
theorem tup_once (l : Addr) (items : Array Value) (n : Nat) (dd : Option Addr) (sl : Array (Option Value)) (u : Tok) :
    Meets (Builtin.«tuple.__mul__» ⟨[.ref l, .int 1 u], []⟩) (fun _ R s => s.heap.get? l = some { cls := .type "tuple", dict := dd, data := .seq items n, slots := sl } ∧ R (.ok (.ret (.ref l))) s) :=
  .of_wp fun prog w A R s h => by
    obtain ⟨hp, g, d, tk, os⟩ := s
    obtain ⟨hl, h⟩ := h
    have f1 := AutoSeq1.idx_int
    wp_walk using wpAny_loadPart' hl
    exact ⟨_, rfl, h⟩
section
variable {X : Cx} {a b e : Expr} {f g : PF} {pos p : Pos}
def rRepO (K : PySem.W.Frag) : R2 := fun x y H Q => ∃ l xs, x = .ref l ∧ y = .int 1 ∧ SqT K H l xs ∧ Q (.ref l) H
theorem op_repO : OpR X (binaryOp .Mult) (rRepO X.K) := by
  intro pins s σ H x y v u Q I rx ry h
  obtain ⟨l, xs, rfl, rfl, hT, q⟩ := h
  cases rx
  obtain ⟨t, rfl⟩ := ry
  obtain ⟨its, r, ⟨⟨cls, dd, data, sl⟩, ho, hc, n, hd⟩, hs⟩ := I.tuple hT
  simp only at hc hd
  subst hc hd
  have M := tup_once l its.toArray n dd sl t
  exact wpAny_binaryOp_repeat_ref (T := "tuple") (U := "int") (by decide) ⟨_, ho, rfl⟩ (fun s' => typeIs_int s' 1 t) noFill_tuple_mul F.fills_int_mul F.slot_int_rmul
    repeat_tuple F.slot_int_index.lookup (call_meets F.slot_int_rmul (typeIs_int s 1 t) F.entry_int_rmul (F.args_int_rmul_2 _ _)
      (int_rmul_tuple 1 t l its.toArray n dd sl) ⟨ho, rfl, ⟨_, ho, rfl⟩, call_meets F.slot_tuple_mul ⟨_, ho, rfl⟩ F.entry_tuple_mul
        (F.args_tuple_mul_2 _ _) M ⟨ho, ⟨.ref l, H, I, rfl, q⟩⟩⟩)
def pRepT : PV → PV → Option PV
  | .tuple l, .int k => if l ≠ [] ∧ 1 ≤ k ∧ k ≤ 1000 ∧ l.length ≤ 1000 then some (.tuple (List.replicate k.toNat l).flatten) else none
  | _, _ => none
theorem drAll_rep {F : Hp} {xs : List V} {l : List PV} (d : DrAll K F xs l) : ∀ n : Nat, DrAll K F (List.replicate n xs).flatten (List.replicate n l).flatten
  | 0 => .nil
  | n + 1 => by
    rw [List.replicate_succ, List.replicate_succ, List.flatten_cons, List.flatten_cons]
    exact drAll_append d (drAll_rep d n)
theorem op2_repT : Op2 K (fun x y H Q => rRepT K x y H Q ∨ rRepO K x y H Q) pRepT := fun F H x y v w z Q fh dx dy e q => by
  unfold pRepT at e
  split at e
  · rename_i l k
    split at e
    · rename_i c
      obtain ⟨c1, c2, c3, c4⟩ := c
      cases e
      obtain ⟨p, xs, rfl, f1, h1, d1⟩ := bor_tup fh dx
      obtain rfl := bor_int dy
      have ln := drAll_length d1
      by_cases k1 : k = 1
      · subst k1
        refine .inr ⟨p, xs, rfl, rfl, h1, fin0 fh (.tup f1 ?_) q⟩
        show DrAll K F xs (l ++ [])
        rw [List.append_nil]
        exact d1
      · refine .inl ⟨p, k, xs, rfl, rfl, h1, fun z => c1 ?_, by omega, c3, by omega, finNew (z := .none) fh (drAll_rep d1 _) q⟩
        rw [z] at ln
        exact List.eq_nil_of_length_eq_zero ln.symm
    · cases e
  · cases e
theorem se_repT (ha : SB X a f) (hb : SB X b g) : SE X (.BinOp a .Mult b pos) (e2 pRepT f g) := se_op2 op2_repT ha hb fun h1 h2 => pe_op (OpR.or op_repT op_repO) h1 h2
end
end Pl

set_option Elab.async false
set_option linter.all false
set_option maxRecDepth 100000
set_option maxHeartbeats 4000000
namespace Wk
noncomputable section
open PySem PySem.Spec PyProof.Rows L2 Pl
def top (i : Nat) : Stmt := PySem.Challenge.pw_dockheld_k10_whole_watches_in_turn.main.body.getD i (.Pass ⟨0, 0, 0, 0⟩)
/-! bill_row -/
abbrev s_bill_row : Stmt := top 1
abbrev N_bill_row : List Str := ["men", "watches", "day", "man"]
theorem sc_bill_row : FnScope N_bill_row ["men", "watches", "day"] (defScope s_bill_row) := ⟨rfl, rfl, rfl, by decide +kernel, rfl, by decide +kernel, by decide +kernel⟩
abbrev b_bill_row : PSt := (sRet (e1 pTuple (eComp (lRng1 (eB 0)) [3] (gN 3) cYes (e2 pMod (e2 pPlus (eB 3) (eB 2)) (eB 1)))))
theorem ok_bill_row {P : Program} {w : World} {K : PySem.W.Frag} {mg : Str → Option Value} {base : Heap} {k : Nat} {f : Addr} {fd : FuncData} (F : FunD K "bill_row" "bill_row" (defArgs s_bill_row) (defBody s_bill_row) (defScope s_bill_row) [] [] f fd) (hm : mg "bill_row" = some (.ref f)) (m : BF mg) :
    DefOk P w K mg base (k + 1) "bill_row" 3 (fnDef 4 (b_bill_row)) :=
  have sc := sc_bill_row
  DefOk.mk' F hm sc (fun _ _ _ _ _ _ us hl => match us, hl with | [_, _, _], _ => rfl) rfl rfl fun cdv A outer s H E hr =>
    (ss_one (ss_ret (se_tuple (by rfl) m.tuple (sb_ofF (sf_lc rfl sc.nd (sib_of (si_rng1 (by rfl) m.range (sb_var 0 (pv 0)))) (blkOk_by (N := N_bill_row) (sc := defScope s_bill_row) (own := [("man", 3)]) (by decide +kernel)) (fun _ _ _ _ _ => (sg_name (i := 3) sc.nd rfl (by first | exact .inl rfl | exact .inr rfl))) (fun _ _ _ _ _ => sts_nil) (fun _ _ _ _ _ => (se_mod (sb_of (se_plus (sb_var 3 (pv 3)) (sb_var 2 (pv 2)))) (sb_var 1 (pv 1)))) (by decide))))))
/-! men_on -/
abbrev s_men_on : Stmt := top 2
abbrev N_men_on : List Str := ["men", "watches", "day", "watch", "man", "own"]
theorem sc_men_on : FnScope N_men_on ["men", "watches", "day", "watch"] (defScope s_men_on) := ⟨rfl, rfl, rfl, by decide +kernel, rfl, by decide +kernel, by decide +kernel⟩
abbrev b_men_on (fn_bill_row : List PV → Option PV) : PSt := (sRet (e1 pTuple (eComp (lEnum (eCall fn_bill_row (aCons (eV 0) (aCons (eV 1) (aCons (eV 2) aNil))))) [4, 5] (gT (gCons' (gN 4) (gCons' (gN 5) gNil'))) (cB (e2 pEq (eB 5) (eB 3))) (eV 4))))
theorem ok_men_on {P : Program} {w : World} {K : PySem.W.Frag} {mg : Str → Option Value} {base : Heap} {k : Nat} {f : Addr} {fd : FuncData} {fn_bill_row : List PV → Option PV} (F : FunD K "men_on" "men_on" (defArgs s_men_on) (defBody s_men_on) (defScope s_men_on) [] [] f fd) (hm : mg "men_on" = some (.ref f)) (m : BF mg) (d_bill_row : DefOk P w K mg base k "bill_row" 3 fn_bill_row) :
    DefOk P w K mg base (k + 1) "men_on" 4 (fnDef 6 (b_men_on fn_bill_row)) :=
  have sc := sc_men_on
  DefOk.mk' F hm sc (fun _ _ _ _ _ _ us hl => match us, hl with | [_, _, _, _], _ => rfl) rfl rfl fun cdv A outer s H E hr =>
    (ss_one (ss_ret (se_tuple (by rfl) m.tuple (sb_ofF (sf_lc rfl sc.nd (sib_enum (by rfl) m.enumerate (sb_of (se_call d_bill_row (rm hr) (by rfl) (sa_cons (se_var 0 (pv 0)) (sa_cons (se_var 1 (pv 1)) (sa_cons (se_var 2 (pv 2)) sa_nil))) (hlen := (aCons_len (aCons_len (aCons_len aNil_len))))))) (blkOk_by (N := N_men_on) (sc := defScope s_men_on) (own := [("man", 4), ("own", 5)]) (by decide +kernel)) (fun _ _ _ _ _ => (sg_tup rfl (sgs_cons (sg_name (i := 4) sc.nd rfl (by first | exact .inl rfl | exact .inr rfl)) (sgs_cons (sg_name (i := 5) sc.nd rfl (by first | exact .inl rfl | exact .inr rfl)) sgs_nil)) (hl := (gCons_len (gCons_len gNil_len))))) (fun _ _ _ _ _ => (sts_one (st_cmp (ck_eq hr.units) (sb_var 5 (pv 5)) (sb_var 3 (pv 3)) (nomark _)))) (fun _ _ _ _ _ => (se_var 4 (pv 4))) (by decide))))))
/-! bill_again -/
abbrev s_bill_again : Stmt := top 3
abbrev N_bill_again : List Str := ["men", "watches"]
theorem sc_bill_again : FnScope N_bill_again ["men", "watches"] (defScope s_bill_again) := ⟨rfl, rfl, rfl, by decide +kernel, rfl, by decide +kernel, by decide +kernel⟩
abbrev b_bill_again : PSt := (sRet (eV 1))
theorem ok_bill_again {P : Program} {w : World} {K : PySem.W.Frag} {mg : Str → Option Value} {base : Heap} {k : Nat} {f : Addr} {fd : FuncData} (F : FunD K "bill_again" "bill_again" (defArgs s_bill_again) (defBody s_bill_again) (defScope s_bill_again) [] [] f fd) (hm : mg "bill_again" = some (.ref f)) (m : BF mg) :
    DefOk P w K mg base (k + 1) "bill_again" 2 (fnDef 2 (b_bill_again)) :=
  have sc := sc_bill_again
  DefOk.mk' F hm sc (fun _ _ _ _ _ _ us hl => match us, hl with | [_, _], _ => rfl) rfl rfl fun cdv A outer s H E hr =>
    (ss_one (ss_ret (se_var 1 (pv 1))))
/-! watch_days -/
abbrev s_watch_days : Stmt := top 4
abbrev N_watch_days : List Str := ["watches", "man", "watch", "span", "day"]
theorem sc_watch_days : FnScope N_watch_days ["watches", "man", "watch", "span"] (defScope s_watch_days) := ⟨rfl, rfl, rfl, by decide +kernel, rfl, by decide +kernel, by decide +kernel⟩
abbrev b_watch_days : PSt := (sRet (e1 pTuple (eComp (lRng2 (e2 pIx (eB 3) (eK (.int 0))) (e2 pIx (eB 3) (eK (.int 1)))) [4] (gN 4) (cB (e2 pEq (e2 pMod (e2 pPlus (eB 1) (eB 4)) (eB 0)) (eB 2))) (eV 4))))
theorem ok_watch_days {P : Program} {w : World} {K : PySem.W.Frag} {mg : Str → Option Value} {base : Heap} {k : Nat} {f : Addr} {fd : FuncData} (F : FunD K "watch_days" "watch_days" (defArgs s_watch_days) (defBody s_watch_days) (defScope s_watch_days) [] [] f fd) (hm : mg "watch_days" = some (.ref f)) (m : BF mg) :
    DefOk P w K mg base (k + 1) "watch_days" 4 (fnDef 5 (b_watch_days)) :=
  have sc := sc_watch_days
  DefOk.mk' F hm sc (fun _ _ _ _ _ _ us hl => match us, hl with | [_, _, _, _], _ => rfl) rfl rfl fun cdv A outer s H E hr =>
    (ss_one (ss_ret (se_tuple (by rfl) m.tuple (sb_ofF (sf_lc rfl sc.nd (sib_of (si_rng2 (by rfl) m.range (sb_of (se_ix (sb_var 3 (pv 3)) (sb_of se_int) (fun _ _ => rfl))) (sb_of (se_ix (sb_var 3 (pv 3)) (sb_of se_int) (fun _ _ => rfl))))) (blkOk_by (N := N_watch_days) (sc := defScope s_watch_days) (own := [("day", 4)]) (by decide +kernel)) (fun _ _ _ _ _ => (sg_name (i := 4) sc.nd rfl (by first | exact .inl rfl | exact .inr rfl))) (fun _ _ _ _ _ => (sts_one (st_cmp (ck_eq hr.units) (sb_of (se_mod (sb_of (se_plus (sb_var 1 (pv 1)) (sb_var 4 (pv 4)))) (sb_var 0 (pv 0)))) (sb_var 2 (pv 2)) (nomark _)))) (fun _ _ _ _ _ => (se_var 4 (pv 4))) (by decide))))))
/-! met_days -/
abbrev s_met_days : Stmt := top 5
abbrev N_met_days : List Str := ["watches", "one", "other", "span", "day"]
theorem sc_met_days : FnScope N_met_days ["watches", "one", "other", "span"] (defScope s_met_days) := ⟨rfl, rfl, rfl, by decide +kernel, rfl, by decide +kernel, by decide +kernel⟩
abbrev b_met_days : PSt := (sRet (e1 pLen (eComp (lRng2 (e2 pIx (eB 3) (eK (.int 0))) (e2 pIx (eB 3) (eK (.int 1)))) [4] (gN 4) (cB (e2 pEq (e2 pMod (e2 pPlus (eB 1) (eB 4)) (eB 0)) (e2 pMod (e2 pPlus (eB 2) (eB 4)) (eB 0)))) (eV 4))))
theorem ok_met_days {P : Program} {w : World} {K : PySem.W.Frag} {mg : Str → Option Value} {base : Heap} {k : Nat} {f : Addr} {fd : FuncData} (F : FunD K "met_days" "met_days" (defArgs s_met_days) (defBody s_met_days) (defScope s_met_days) [] [] f fd) (hm : mg "met_days" = some (.ref f)) (m : BF mg) :
    DefOk P w K mg base (k + 1) "met_days" 4 (fnDef 5 (b_met_days)) :=
  have sc := sc_met_days
  DefOk.mk' F hm sc (fun _ _ _ _ _ _ us hl => match us, hl with | [_, _, _, _], _ => rfl) rfl rfl fun cdv A outer s H E hr =>
    (ss_one (ss_ret (se_len (by rfl) m.len (sb_ofF (sf_lc rfl sc.nd (sib_of (si_rng2 (by rfl) m.range (sb_of (se_ix (sb_var 3 (pv 3)) (sb_of se_int) (fun _ _ => rfl))) (sb_of (se_ix (sb_var 3 (pv 3)) (sb_of se_int) (fun _ _ => rfl))))) (blkOk_by (N := N_met_days) (sc := defScope s_met_days) (own := [("day", 4)]) (by decide +kernel)) (fun _ _ _ _ _ => (sg_name (i := 4) sc.nd rfl (by first | exact .inl rfl | exact .inr rfl))) (fun _ _ _ _ _ => (sts_one (st_cmp (ck_eq hr.units) (sb_of (se_mod (sb_of (se_plus (sb_var 1 (pv 1)) (sb_var 4 (pv 4)))) (sb_var 0 (pv 0)))) (sb_of (se_mod (sb_of (se_plus (sb_var 2 (pv 2)) (sb_var 4 (pv 4)))) (sb_var 0 (pv 0)))) (nomark _)))) (fun _ _ _ _ _ => (se_var 4 (pv 4))) (by decide))))))
/-! hours_worked -/
abbrev s_hours_worked : Stmt := top 6
abbrev N_hours_worked : List Str := ["men", "hours", "span", "watches", "man", "day"]
theorem sc_hours_worked : FnScope N_hours_worked ["men", "hours", "span"] (defScope s_hours_worked) := ⟨rfl, rfl, rfl, by decide +kernel, rfl, by decide +kernel, by decide +kernel⟩
abbrev b_hours_worked : PSt := (sSeq (sAsg (e1 pLen (eB 1)) (gN 3)) (sRet (e1 pTuple (eComp (lRng1 (eB 0)) [4] (gN 4) cYes (e1 pSum (eComp (lRng2 (e2 pIx (eB 2) (eK (.int 0))) (e2 pIx (eB 2) (eK (.int 1)))) [5] (gN 5) cYes (e2 pIx (eB 1) (e2 pMod (e2 pPlus (eB 4) (eB 5)) (eB 3)))))))))
theorem ok_hours_worked {P : Program} {w : World} {K : PySem.W.Frag} {mg : Str → Option Value} {base : Heap} {k : Nat} {f : Addr} {fd : FuncData} (F : FunD K "hours_worked" "hours_worked" (defArgs s_hours_worked) (defBody s_hours_worked) (defScope s_hours_worked) [] [] f fd) (hm : mg "hours_worked" = some (.ref f)) (m : BF mg) :
    DefOk P w K mg base (k + 1) "hours_worked" 3 (fnDef 6 (b_hours_worked)) :=
  have sc := sc_hours_worked
  DefOk.mk' F hm sc (fun _ _ _ _ _ _ us hl => match us, hl with | [_, _, _], _ => rfl) rfl rfl fun cdv A outer s H E hr =>
    (ss_cons (ss_set (i := 3) sc.nd rfl (.inr rfl) (se_len (by rfl) m.len (sb_var 1 (pv 1)))) (ss_one (ss_ret (se_tuple (by rfl) m.tuple (sb_ofF (sf_lc rfl sc.nd (sib_of (si_rng1 (by rfl) m.range (sb_var 0 (pv 0)))) (blkOk_by (N := N_hours_worked) (sc := defScope s_hours_worked) (own := [("man", 4)]) (by decide +kernel)) (fun _ _ _ _ _ => (sg_name (i := 4) sc.nd rfl (by first | exact .inl rfl | exact .inr rfl))) (fun _ _ _ _ _ => sts_nil) (fun _ _ _ _ _ => (se_sumG rfl (by rfl) m.sum (sb_ofF (sf_lc rfl sc.nd (sib_of (si_rng2 (by rfl) m.range (sb_of (se_ix (sb_var 2 (pv 2)) (sb_of se_int) (fun _ _ => rfl))) (sb_of (se_ix (sb_var 2 (pv 2)) (sb_of se_int) (fun _ _ => rfl))))) (blkOk_by (own := [("day", 5)]) (by rfl)) (fun _ _ _ _ _ => (sg_name (i := 5) sc.nd rfl (by first | exact .inl rfl | exact .inr rfl))) (fun _ _ _ _ _ => sts_nil) (fun _ _ _ _ _ => (se_ix (sb_var 1 (pv 1)) (sb_of (se_mod (sb_of (se_plus (sb_var 4 (pv 4)) (sb_var 5 (pv 5)))) (sb_var 3 (pv 3)))) (fun _ _ => rfl))) (by decide))))) (by decide)))))))
/-! _law_mixed -/
abbrev s__law_mixed : Stmt := top 8
abbrev N__law_mixed : List Str := ["script", "k", "cell", "first", "second", "third"]
theorem sc__law_mixed : FnScope N__law_mixed ["script", "k"] (defScope s__law_mixed) := ⟨rfl, rfl, rfl, by decide +kernel, rfl, by decide +kernel, by decide +kernel⟩
abbrev b__law_mixed : PSt := (sSeq (sAsg (eK (.int 0)) (gN 2)) (sSeq (sIf (cB (e2 pGt (e1 pLen (eB 0)) (eK (.int 0)))) (sAsg (e2 pIx (eB 0) (e2 pMod (eB 1) (e1 pLen (eB 0)))) (gN 2)) sNil) (sSeq (sAsg (e2 pMod (e1 pInt (e2 pPlus (e2 pPlus (e2 pMul (eB 2) (eK (.int 48271))) (e2 pMul (eB 1) (eK (.int 69621)))) (eK (.int 8191)))) (eK (.int 2147483647))) (gN 3)) (sSeq (sAsg (e2 pMod (e1 pInt (e2 pPlus (e2 pPlus (e2 pMul (eB 3) (eB 3)) (e2 pDiv (eB 3) (eK (.int 7)))) (e2 pMul (eB 1) (eK (.int 16807))))) (eK (.int 2147483629))) (gN 4)) (sSeq (sAsg (e2 pMod (e1 pInt (e2 pPlus (e2 pPlus (e2 pMul (eB 4) (eB 4)) (e2 pDiv (eB 4) (eK (.int 11)))) (eK (.int 40692)))) (eK (.int 2147483563))) (gN 5)) (sRet (e2 pMod (e2 pDiv (eB 5) (eK (.int 5))) (eK (.int 1000003)))))))))
theorem ok__law_mixed {P : Program} {w : World} {K : PySem.W.Frag} {mg : Str → Option Value} {base : Heap} {k : Nat} {f : Addr} {fd : FuncData} (F : FunD K "_law_mixed" "_law_mixed" (defArgs s__law_mixed) (defBody s__law_mixed) (defScope s__law_mixed) [] [] f fd) (hm : mg "_law_mixed" = some (.ref f)) (m : BF mg) :
    DefOk P w K mg base (k + 1) "_law_mixed" 2 (fnDef 6 (b__law_mixed)) :=
  have sc := sc__law_mixed
  DefOk.mk' F hm sc (fun _ _ _ _ _ _ us hl => match us, hl with | [_, _], _ => rfl) rfl rfl fun cdv A outer s H E hr =>
    (ss_cons (ss_set (i := 2) sc.nd rfl (.inl rfl) se_int) (ss_cons (ss_if (st_cmp (ck_gt hr.units) (sb_of (se_len (by rfl) m.len (sb_var 0 (pv 0)))) (sb_of se_int) (nomark _)) (ss_one (ss_set (i := 2) sc.nd rfl (.inl rfl) (se_ix (sb_var 0 (pv 0)) (sb_of (se_mod (sb_var 1 (pv 1)) (sb_of (se_len (by rfl) m.len (sb_var 0 (pv 0)))))) (fun _ _ => rfl)))) ss_nil) (ss_cons (ss_set (i := 3) sc.nd rfl (.inl rfl) (se_mod (sb_of (se_intc (by rfl) m.int (sb_of (se_plus (sb_of (se_plus (sb_of (se_mul (sb_var 2 (pv 2)) (sb_of se_int))) (sb_of (se_mul (sb_var 1 (pv 1)) (sb_of se_int))))) (sb_of se_int))))) (sb_of se_int))) (ss_cons (ss_set (i := 4) sc.nd rfl (.inl rfl) (se_mod (sb_of (se_intc (by rfl) m.int (sb_of (se_plus (sb_of (se_plus (sb_of (se_mul (sb_var 3 (pv 3)) (sb_var 3 (pv 3)))) (sb_of (se_div (sb_var 3 (pv 3)) (sb_of se_int))))) (sb_of (se_mul (sb_var 1 (pv 1)) (sb_of se_int))))))) (sb_of se_int))) (ss_cons (ss_set (i := 5) sc.nd rfl (.inl rfl) (se_mod (sb_of (se_intc (by rfl) m.int (sb_of (se_plus (sb_of (se_plus (sb_of (se_mul (sb_var 4 (pv 4)) (sb_var 4 (pv 4)))) (sb_of (se_div (sb_var 4 (pv 4)) (sb_of se_int))))) (sb_of se_int))))) (sb_of se_int))) (ss_one (ss_ret (se_mod (sb_of (se_div (sb_var 5 (pv 5)) (sb_of se_int))) (sb_of se_int)))))))))
/-! _law_row -/
abbrev s__law_row : Stmt := top 9
abbrev N__law_row : List Str := ["script", "many", "big", "row", "k"]
theorem sc__law_row : FnScope N__law_row ["script", "many"] (defScope s__law_row) := ⟨rfl, rfl, rfl, by decide +kernel, rfl, by decide +kernel, by decide +kernel⟩
abbrev b__law_row (fn__law_mixed : List PV → Option PV) : PSt := (sSeq (sAsg (eK (.int 0)) (gN 2)) (sSeq (sIf (cAnd (cB (e2 pGt (e1 pLen (eB 0)) (eK (.int 0)))) (cB (e2 pGe (e2 pIx (eB 0) (eK (.int 0))) (e2 pPow (eK (.int 10)) (eK (.int 18)))))) (sAsg (e2 pIx (eB 0) (eK (.int 0))) (gN 2)) sNil) (sSeq (sOwn 3 (eCall pLst aNil)) (sSeq (sFor (lRng1 (eB 1)) (gN 4) (sIf (cB (e2 pGt (eB 2) (eK (.int 0)))) (sSeq (sApp 3 (e2 pMod (e1 pInt (eB 2)) (eK (.int 1000)))) (sAsg (e2 pDiv (eB 2) (eK (.int 1000))) (gN 2))) (sApp 3 (eCall fn__law_mixed (aCons (eV 0) (aCons (eV 4) aNil)))))) (sSeq (sFz 3) (sSeq (sRet (eV 3)) sNil))))))
theorem ok__law_row {P : Program} {w : World} {K : PySem.W.Frag} {mg : Str → Option Value} {base : Heap} {k : Nat} {f : Addr} {fd : FuncData} {fn__law_mixed : List PV → Option PV} (F : FunD K "_law_row" "_law_row" (defArgs s__law_row) (defBody s__law_row) (defScope s__law_row) [] [] f fd) (hm : mg "_law_row" = some (.ref f)) (m : BF mg) (d__law_mixed : DefOk P w K mg base k "_law_mixed" 2 fn__law_mixed) :
    DefOk P w K mg base (k + 1) "_law_row" 2 (fnDef 5 (b__law_row fn__law_mixed)) :=
  have sc := sc__law_row
  DefOk.mk' F hm sc (fun _ _ _ _ _ _ us hl => match us, hl with | [_, _], _ => rfl) rfl rfl fun cdv A outer s H E hr =>
    (ss_cons (ss_set (i := 2) sc.nd rfl (.inl rfl) se_int) (ss_cons (ss_if (st_w (sw_and (st_cmp (ck_gt hr.units) (sb_of (se_len (by rfl) m.len (sb_var 0 (pv 0)))) (sb_of se_int) (nomark _)) (sw_and1 (st_cmp (ck_ge hr.units) (sb_of (se_ix (sb_var 0 (pv 0)) (sb_of se_int) (fun _ _ => rfl))) (sb_of (se_pow (sb_of se_int) (sb_of se_int))) (nomark _))))) (ss_one (ss_set (i := 2) sc.nd rfl (.inl rfl) (se_ix (sb_var 0 (pv 0)) (sb_of se_int) (fun _ _ => rfl)))) ss_nil) (ss_cons (ss_own (i := 3) sc.nd rfl (.inl rfl) (sf_lst sa_nil)) (ss_cons (ss_for PassesOwn.never rfl (si_rng1 (by rfl) m.range (sb_var 1 (pv 1))) (sg_name (i := 4) sc.nd rfl (by first | exact .inl rfl | exact .inr rfl)) (ss_one (ss_if (st_cmp (ck_gt hr.units) (sb_var 2 (pv 2)) (sb_of se_int) (nomark _)) (ss_cons (ss_app (pv 3) (se_mod (sb_of (se_intc (by rfl) m.int (sb_var 2 (pv 2)))) (sb_of se_int))) (ss_one (ss_set (i := 2) sc.nd rfl (.inl rfl) (se_div (sb_var 2 (pv 2)) (sb_of se_int))))) (ss_one (ss_app (pv 3) (se_call d__law_mixed (rm hr) (by rfl) (sa_cons (se_var 0 (pv 0)) (sa_cons (se_var 4 (pv 4)) sa_nil)) (hlen := (aCons_len (aCons_len aNil_len))))))))) (ss_fz 3 (ss_cons (ss_ret (se_var 3 (pv 3))) ss_nil))))))
/-! _law_is_int -/
abbrev s__law_is_int : Stmt := top 10
abbrev N__law_is_int : List Str := ["value"]
theorem sc__law_is_int : FnScope N__law_is_int ["value"] (defScope s__law_is_int) := ⟨rfl, rfl, rfl, by decide +kernel, rfl, by decide +kernel, by decide +kernel⟩
abbrev b__law_is_int : PSt := (sRet (eAnd (e1 (pIsi "int") (eB 0)) (eNot (e1 (pIsi "bool") (eB 0)))))
theorem ok__law_is_int {P : Program} {w : World} {K : PySem.W.Frag} {mg : Str → Option Value} {base : Heap} {k : Nat} {f : Addr} {fd : FuncData} (F : FunD K "_law_is_int" "_law_is_int" (defArgs s__law_is_int) (defBody s__law_is_int) (defScope s__law_is_int) [] [] f fd) (hm : mg "_law_is_int" = some (.ref f)) (m : BF mg) :
    DefOk P w K mg base (k + 1) "_law_is_int" 1 (fnDef 1 (b__law_is_int)) :=
  have sc := sc__law_is_int
  DefOk.mk' F hm sc (fun _ _ _ _ _ _ us hl => match us, hl with | [_], _ => rfl) rfl rfl fun cdv A outer s H E hr =>
    (ss_one (ss_ret (se_and (se_isi (by rfl) m.isinstance (sb_var 0 (pv 0)) (pe_bltn (by rfl) m.int boot_int' rfl)) (se_one (se_not (se_isi (by rfl) m.isinstance (sb_var 0 (pv 0)) (pe_bltn (by rfl) m.bool boot_bool' rfl)))))))
/-! _law_like -/
abbrev s__law_like : Stmt := top 11
abbrev N__law_like : List Str := ["value", "due", "k"]
theorem sc__law_like : FnScope N__law_like ["value", "due"] (defScope s__law_like) := ⟨rfl, rfl, rfl, by decide +kernel, rfl, by decide +kernel, by decide +kernel⟩
abbrev b__law_like (fn__law_like : List PV → Option PV) (fn__law_is_int : List PV → Option PV) : PSt := (sSeq (sIf (cB (e1 pIsN (eB 1))) (sRet (e1 pIsN (eB 0))) sNil) (sSeq (sIf (cTru (e1 (pIsi "bool") (eB 1))) (sRet (eAnd (e1 (pIsi "bool") (eB 0)) (e2 pEq (eB 0) (eB 1)))) sNil) (sSeq (sIf (cTru (e1 (pIsi "tuple") (eB 1))) (sSeq (sIf (cOr (cNot (cTru (e1 (pIsi "tuple") (eB 0)))) (cB (e2 pNe (e1 pLen (eB 0)) (e1 pLen (eB 1))))) (sRet (eK (.bool false))) sNil) (sRet (e1 pAll (eComp (lRng1 (e1 pLen (eB 1))) [2] (gN 2) cYes (eCall fn__law_like (aCons (e2 pIx (eB 0) (eB 2)) (aCons (e2 pIx (eB 1) (eB 2)) aNil))))))) sNil) (sSeq (sIf (cTru (e1 (pIsi "str") (eB 1))) (sRet (eAnd (e1 (pIsi "str") (eB 0)) (e2 pEq (eB 0) (eB 1)))) sNil) (sRet (eAnd (eCall fn__law_is_int (aCons (eV 0) aNil)) (e2 pEq (eB 0) (eB 1))))))))
theorem ok__law_like {P : Program} {w : World} {K : PySem.W.Frag} {mg : Str → Option Value} {base : Heap} {k : Nat} {f : Addr} {fd : FuncData} {fn__law_like : List PV → Option PV} {fn__law_is_int : List PV → Option PV} (F : FunD K "_law_like" "_law_like" (defArgs s__law_like) (defBody s__law_like) (defScope s__law_like) [] [] f fd) (hm : mg "_law_like" = some (.ref f)) (m : BF mg) (d__law_like : DefOk P w K mg base k "_law_like" 2 fn__law_like) (d__law_is_int : DefOk P w K mg base k "_law_is_int" 1 fn__law_is_int) :
    DefOk P w K mg base (k + 1) "_law_like" 2 (fnDef 3 (b__law_like fn__law_like fn__law_is_int)) :=
  have sc := sc__law_like
  DefOk.mk' F hm sc (fun _ _ _ _ _ _ us hl => match us, hl with | [_, _], _ => rfl) rfl rfl fun cdv A outer s H E hr =>
    (ss_cons (ss_if (st_isN (sb_var 1 (pv 1))) (ss_one (ss_ret (se_isN (sb_var 0 (pv 0))))) ss_nil) (ss_cons (ss_if (st_tru (sb_of (se_isi (by rfl) m.isinstance (sb_var 1 (pv 1)) (pe_bltn (by rfl) m.bool boot_bool' rfl)))) (ss_one (ss_ret (se_and (se_isi (by rfl) m.isinstance (sb_var 0 (pv 0)) (pe_bltn (by rfl) m.bool boot_bool' rfl)) (se_one (se_cmp (ck_eq hr.units) (sb_var 0 (pv 0)) (sb_var 1 (pv 1)) (nomark _)))))) ss_nil) (ss_cons (ss_if (st_tru (sb_of (se_isi (by rfl) m.isinstance (sb_var 1 (pv 1)) (pe_bltn (by rfl) m.tuple boot_tuple' rfl)))) (ss_cons (ss_if (st_w (sw_or (st_not (st_tru (sb_of (se_isi (by rfl) m.isinstance (sb_var 0 (pv 0)) (pe_bltn (by rfl) m.tuple boot_tuple' rfl))))) (sw_or1 (st_cmp (ck_ne hr.units) (sb_of (se_len (by rfl) m.len (sb_var 0 (pv 0)))) (sb_of (se_len (by rfl) m.len (sb_var 1 (pv 1)))) (nomark _))))) (ss_one (ss_ret se_bl)) ss_nil) (ss_one (ss_ret (se_all rfl (by rfl) m.all (sb_ofF (sf_lc rfl sc.nd (sib_of (si_rng1 (by rfl) m.range (sb_of (se_len (by rfl) m.len (sb_var 1 (pv 1)))))) (blkOk_by (N := N__law_like) (sc := defScope s__law_like) (own := [("k", 2)]) (by decide +kernel)) (fun _ _ _ _ _ => (sg_name (i := 2) sc.nd rfl (by first | exact .inl rfl | exact .inr rfl))) (fun _ _ _ _ _ => sts_nil) (fun _ _ _ _ _ => (se_call d__law_like (rm hr) (by rfl) (sa_cons (se_ix (sb_var 0 (pv 0)) (sb_var 2 (pv 2)) (fun _ _ => rfl)) (sa_cons (se_ix (sb_var 1 (pv 1)) (sb_var 2 (pv 2)) (fun _ _ => rfl)) sa_nil)) (hlen := (aCons_len (aCons_len aNil_len))))) (by decide))))))) ss_nil) (ss_cons (ss_if (st_tru (sb_of (se_isi (by rfl) m.isinstance (sb_var 1 (pv 1)) (pe_bltn (by rfl) m.str boot_str' rfl)))) (ss_one (ss_ret (se_and (se_isi (by rfl) m.isinstance (sb_var 0 (pv 0)) (pe_bltn (by rfl) m.str boot_str' rfl)) (se_one (se_cmp (ck_eq hr.units) (sb_var 0 (pv 0)) (sb_var 1 (pv 1)) (nomark _)))))) ss_nil) (ss_one (ss_ret (se_and (se_call d__law_is_int (rm hr) (by rfl) (sa_cons (se_var 0 (pv 0)) sa_nil) (hlen := (aCons_len aNil_len))) (se_one (se_cmp (ck_eq hr.units) (sb_var 0 (pv 0)) (sb_var 1 (pv 1)) (nomark _))))))))))
/-! law -/
abbrev s_law : Stmt := top 12
abbrev N_law : List Str := ["script", "row", "men", "watches", "hours", "day", "begin", "span", "man", "bill", "watch", "later", "on", "again", "other", "days", "worked", "due", "met", "told", "own", "rounds", "k", "now"]
theorem sc_law : FnScope N_law ["script"] (defScope s_law) := ⟨rfl, rfl, rfl, by decide +kernel, rfl, by decide +kernel, by decide +kernel⟩
abbrev b_law (fn__law_row : List PV → Option PV) (fn__law_like : List PV → Option PV) (fn_bill_row : List PV → Option PV) (fn_men_on : List PV → Option PV) (fn_bill_again : List PV → Option PV) (fn_watch_days : List PV → Option PV) (fn_met_days : List PV → Option PV) (fn_hours_worked : List PV → Option PV) : PSt := (sSeq (sAsg (eCall fn__law_row (aCons (eV 0) (aCons (eK (.int 24)) aNil))) (gN 1)) (sSeq (sPar [2, 3] (mVal (e2 pPlus (eK (.int 1)) (e2 pMod (e1 pInt (e2 pIx (eB 1) (eK (.int 13)))) (eK (.int 9)))) (mVal (e2 pPlus (eK (.int 1)) (e2 pMod (e1 pInt (e2 pIx (eB 1) (eK (.int 18)))) (eK (.int 7)))) mNil))) (sSeq (sAsg (e1 pTuple (eComp (lRng1 (eB 3)) [22] (gN 22) cYes (e2 pPlus (eK (.int 1)) (e2 pMod (e1 pInt (e2 pIx (eB 1) (e2 pPlus (eK (.int 4)) (eB 22)))) (eK (.int 9)))))) (gN 4)) (sSeq (sPar [5, 6] (mVal (e2 pMod (e1 pInt (e2 pIx (eB 1) (eK (.int 11)))) (eK (.int 41))) (mVal (e2 pMod (e1 pInt (e2 pIx (eB 1) (eK (.int 12)))) (eK (.int 41))) mNil))) (sSeq (sAsg (eCall pTup (aCons (eV 6) (aCons (e2 pPlus (eB 6) (e2 pMod (e1 pInt (e2 pIx (eB 1) (eK (.int 2)))) (eK (.int 71)))) aNil))) (gN 7)) (sSeq (sAsg (e1 pTuple (eComp (lRng1 (eB 2)) [8] (gN 8) cYes (e2 pMod (e1 pInt (e2 pPlus (eB 8) (eB 5))) (eB 3)))) (gN 9)) (sSeq (sAsg (e1 pTuple (eComp (lSeq (eB 9)) [10] (gN 10) cYes (e2 pMod (e1 pInt (e2 pPlus (eB 10) (eK (.int 1)))) (eB 3)))) (gN 11)) (sSeq (sIf (cNot (cTru (eCall fn__law_like (aCons (eCall pTup (aCons (eCall fn_bill_row (aCons (eV 2) (aCons (eV 3) (aCons (eV 5) aNil)))) (aCons (eCall fn_bill_row (aCons (eV 2) (aCons (eV 3) (aCons (e2 pPlus (eB 5) (eK (.int 1))) aNil)))) aNil))) (aCons (eCall pTup (aCons (eV 9) (aCons (eV 11) aNil))) aNil))))) (sRet (eK (.bool false))) sNil) (sSeq (sAsg (e1 pTuple (eComp (lRng1 (eB 3)) [10] (gN 10) cYes (e1 pTuple (eComp (lRng1 (eB 2)) [8] (gN 8) (cB (e2 pEq (e2 pIx (eB 9) (eB 8)) (eB 10))) (eV 8))))) (gN 12)) (sSeq (sIf (cNot (cTru (eCall fn__law_like (aCons (e1 pTuple (eComp (lRng1 (eB 3)) [10] (gN 10) cYes (eCall fn_men_on (aCons (eV 2) (aCons (eV 3) (aCons (eV 5) (aCons (eV 10) aNil))))))) (aCons (eV 12) aNil))))) (sRet (eK (.bool false))) sNil) (sSeq (sAsg (eCall fn_bill_again (aCons (eV 2) (aCons (eV 3) aNil))) (gN 13)) (sSeq (sIf (cOr (cNot (cTru (eCall fn__law_like (aCons (eV 13) (aCons (eV 3) aNil))))) (cNot (cTru (eCall fn__law_like (aCons (eCall fn_bill_row (aCons (eV 2) (aCons (eV 3) (aCons (e2 pPlus (eB 5) (eB 13)) aNil)))) (aCons (eV 9) aNil)))))) (sRet (eK (.bool false))) sNil) (sSeq (sPar [8, 14] (mVal (e2 pMod (e1 pInt (e2 pIx (eB 1) (eK (.int 14)))) (eB 2)) (mVal (e2 pMod (e1 pInt (e2 pIx (eB 1) (eK (.int 15)))) (eK (.int 20))) mNil))) (sSeq (sPar [15, 16] (mVal (eCall pLst aNil) (mVal (eK (.int 0)) mNil))) (sSeq (sFor (lRng1 (eB 3)) (gN 10) (sSeq (sAsg (e1 pTuple (eComp (lRng2 (e2 pIx (eB 7) (eK (.int 0))) (e2 pIx (eB 7) (eK (.int 1)))) [23] (gN 23) (cB (e2 pEq (e2 pMod (e1 pInt (e2 pPlus (eB 8) (eB 23))) (eB 3)) (eB 10))) (eV 23))) (gN 17)) (sSeq (sIf (cNot (cTru (eCall fn__law_like (aCons (eCall fn_watch_days (aCons (eV 3) (aCons (eV 8) (aCons (eV 10) (aCons (eV 7) aNil))))) (aCons (eV 17) aNil))))) (sRet (eK (.bool false))) sNil) (sSeq (sPar [15, 16] (mVal (e2 pPlus (eB 15) (e1 pList (eB 17))) (mVal (e2 pPlus (eB 16) (e2 pMul (e1 pLen (eB 17)) (e2 pIx (eB 4) (eB 10)))) mNil))) (sIf (cAnd (cB (e2 pGt (e1 pLen (eB 17)) (eK (.int 0)))) (cB (e2 pNotIn (eB 8) (eCall fn_men_on (aCons (eV 2) (aCons (eV 3) (aCons (e2 pIx (eB 17) (e2 pSub (e1 pLen (eB 17)) (eK (.int 1)))) (aCons (eV 10) aNil)))))))) (sRet (eK (.bool false))) sNil))))) (sSeq (sIf (cB (e2 pNe (e1 pSorted (eB 15)) (eLstRg (rg2 (e2 pIx (eB 7) (eK (.int 0))) (e2 pIx (eB 7) (eK (.int 1))))))) (sRet (eK (.bool false))) sNil) (sSeq (sAsg (e2 pMul (e2 pSub (e2 pIx (eB 7) (eK (.int 1))) (e2 pIx (eB 7) (eK (.int 0)))) (e1 pInt (e2 pEq (e2 pMod (e1 pInt (e2 pSub (eB 8) (eB 14))) (eB 3)) (eK (.int 0))))) (gN 18)) (sSeq (sIf (cNot (cTru (eCall fn__law_like (aCons (eCall pTup (aCons (eCall fn_met_days (aCons (eV 3) (aCons (eV 8) (aCons (eV 14) (aCons (eV 7) aNil))))) (aCons (eCall fn_met_days (aCons (eV 3) (aCons (eV 14) (aCons (eV 8) (aCons (eV 7) aNil))))) aNil))) (aCons (eCall pTup (aCons (eV 18) (aCons (eV 18) aNil))) aNil))))) (sRet (eK (.bool false))) sNil) (sSeq (sAsg (eCall fn_hours_worked (aCons (eV 2) (aCons (eV 4) (aCons (eV 7) aNil)))) (gN 19)) (sSeq (sAsg (e1 pTuple (eComp (lRng1 (eB 2)) [22] (gN 22) cYes (e1 pSum (eComp (lRng2 (e2 pIx (eB 7) (eK (.int 0))) (e2 pIx (eB 7) (eK (.int 1)))) [23] (gN 23) cYes (e2 pIx (eB 4) (e2 pMod (e1 pInt (e2 pPlus (eB 22) (eB 23))) (eB 3))))))) (gN 20)) (sSeq (sIf (cOr (cNot (cTru (eCall fn__law_like (aCons (eV 19) (aCons (eV 20) aNil))))) (cB (e2 pNe (e2 pIx (eB 19) (eB 8)) (eB 16)))) (sRet (eK (.bool false))) sNil) (sSeq (sAsg (e2 pPlus (eK (.int 1)) (e2 pMod (e1 pInt (e2 pIx (eB 1) (eK (.int 16)))) (eK (.int 3)))) (gN 21)) (sRet (eCall fn__law_like (aCons (eCall fn_hours_worked (aCons (eV 2) (aCons (eV 4) (aCons (eCall pTup (aCons (eV 6) (aCons (e2 pPlus (eB 6) (e2 pMul (eB 21) (eB 3))) aNil))) aNil)))) (aCons (e2 pRepT (eCall pTup (aCons (e2 pMul (eB 21) (e1 pSum (eB 4))) aNil)) (eB 2)) aNil))))))))))))))))))))))))))
theorem bd_law {P : Program} {w : World} {K : PySem.W.Frag} {mg : Str → Option Value} {base : Heap} {k : Nat} {f : Addr} {fn__law_row : List PV → Option PV} {fn__law_like : List PV → Option PV} {fn_bill_row : List PV → Option PV} {fn_men_on : List PV → Option PV} {fn_bill_again : List PV → Option PV} {fn_watch_days : List PV → Option PV} {fn_met_days : List PV → Option PV} {fn_hours_worked : List PV → Option PV} (m : BF mg) (d__law_row : DefOk P w K mg base k "_law_row" 2 fn__law_row) (d__law_like : DefOk P w K mg base k "_law_like" 2 fn__law_like) (d_bill_row : DefOk P w K mg base k "bill_row" 3 fn_bill_row) (d_men_on : DefOk P w K mg base k "men_on" 4 fn_men_on) (d_bill_again : DefOk P w K mg base k "bill_again" 2 fn_bill_again) (d_watch_days : DefOk P w K mg base k "watch_days" 4 fn_watch_days) (d_met_days : DefOk P w K mg base k "met_days" 4 fn_met_days) (d_hours_worked : DefOk P w K mg base k "hours_worked" 3 fn_hours_worked) {cdv : Value} {A : Around} {outer : List Env} {s : Shared} {H : Hp} {E : XK} (hr : Room k (A.deeper (envOfC "law" (defScope s_law) s.heap.objs.size f cdv))) :
    SSs (cxOf CX0 P w K mg base N_law "law" (defScope s_law) f cdv A outer s H E).nox (defBody s_law) (b_law fn__law_row fn__law_like fn_bill_row fn_men_on fn_bill_again fn_watch_days fn_met_days fn_hours_worked) :=
  have sc := sc_law
  (ss_cons (ss_set (i := 1) sc.nd rfl (.inr rfl) (se_call d__law_row (rm hr) (by rfl) (sa_cons (se_var 0 (pv 0)) (sa_cons se_int sa_nil)) (hlen := (aCons_len (aCons_len aNil_len))))) (ss_cons (ss_parT rfl (sm_val (se_plus (sb_of se_int) (sb_of (se_mod (sb_of (se_intc (by rfl) m.int (sb_of (se_ix (sb_var 1 (pv 1)) (sb_of se_int) (fun _ _ => rfl))))) (sb_of se_int)))) (sm_val (se_plus (sb_of se_int) (sb_of (se_mod (sb_of (se_intc (by rfl) m.int (sb_of (se_ix (sb_var 1 (pv 1)) (sb_of se_int) (fun _ _ => rfl))))) (sb_of se_int)))) sm_nil)) (pns_cons (pg_name (i := 2) sc.nd rfl (.inr rfl)) (pns_cons (pg_name (i := 3) sc.nd rfl (.inr rfl)) pns_nil))) (ss_cons (ss_set (i := 4) sc.nd rfl (.inr rfl) (se_tuple (by rfl) m.tuple (sb_ofF (sf_lc rfl sc.nd (sib_of (si_rng1 (by rfl) m.range (sb_var 3 (pv 3)))) (blkOk_by (N := N_law) (sc := defScope s_law) (own := [("k", 22)]) (by decide +kernel)) (fun _ _ _ _ _ => (sg_name (i := 22) sc.nd rfl (by first | exact .inl rfl | exact .inr rfl))) (fun _ _ _ _ _ => sts_nil) (fun _ _ _ _ _ => (se_plus (sb_of se_int) (sb_of (se_mod (sb_of (se_intc (by rfl) m.int (sb_of (se_ix (sb_var 1 (pv 1)) (sb_of (se_plus (sb_of se_int) (sb_var 22 (pv 22)))) (fun _ _ => rfl))))) (sb_of se_int))))) (by decide))))) (ss_cons (ss_parT rfl (sm_val (se_mod (sb_of (se_intc (by rfl) m.int (sb_of (se_ix (sb_var 1 (pv 1)) (sb_of se_int) (fun _ _ => rfl))))) (sb_of se_int)) (sm_val (se_mod (sb_of (se_intc (by rfl) m.int (sb_of (se_ix (sb_var 1 (pv 1)) (sb_of se_int) (fun _ _ => rfl))))) (sb_of se_int)) sm_nil)) (pns_cons (pg_name (i := 5) sc.nd rfl (.inr rfl)) (pns_cons (pg_name (i := 6) sc.nd rfl (.inl rfl)) pns_nil))) (ss_cons (ss_set (i := 7) sc.nd rfl (.inr rfl) (se_tup (sa_cons (se_var 6 (pv 6)) (sa_cons (se_plus (sb_var 6 (pv 6)) (sb_of (se_mod (sb_of (se_intc (by rfl) m.int (sb_of (se_ix (sb_var 1 (pv 1)) (sb_of se_int) (fun _ _ => rfl))))) (sb_of se_int)))) sa_nil)))) (ss_cons (ss_set (i := 9) sc.nd rfl (.inr rfl) (se_tuple (by rfl) m.tuple (sb_ofF (sf_lc rfl sc.nd (sib_of (si_rng1 (by rfl) m.range (sb_var 2 (pv 2)))) (blkOk_by (N := N_law) (sc := defScope s_law) (own := [("man", 8)]) (by decide +kernel)) (fun _ _ _ _ _ => (sg_name (i := 8) sc.nd rfl (by first | exact .inl rfl | exact .inr rfl))) (fun _ _ _ _ _ => sts_nil) (fun _ _ _ _ _ => (se_mod (sb_of (se_intc (by rfl) m.int (sb_of (se_plus (sb_var 8 (pv 8)) (sb_var 5 (pv 5)))))) (sb_var 3 (pv 3)))) (by decide))))) (ss_cons (ss_set (i := 11) sc.nd rfl (.inl rfl) (se_tuple (by rfl) m.tuple (sb_ofF (sf_lc rfl sc.nd (sib_seq (sb_var 9 (pv 9))) (blkOk_by (N := N_law) (sc := defScope s_law) (own := [("watch", 10)]) (by decide +kernel)) (fun _ _ _ _ _ => (sg_name (i := 10) sc.nd rfl (by first | exact .inl rfl | exact .inr rfl))) (fun _ _ _ _ _ => sts_nil) (fun _ _ _ _ _ => (se_mod (sb_of (se_intc (by rfl) m.int (sb_of (se_plus (sb_var 10 (pv 10)) (sb_of se_int))))) (sb_var 3 (pv 3)))) (by decide))))) (ss_cons (ss_if (st_not (st_tru (sb_of (se_call d__law_like (rm hr) (by rfl) (sa_cons (se_tup (sa_cons (se_call d_bill_row (rm hr) (by rfl) (sa_cons (se_var 2 (pv 2)) (sa_cons (se_var 3 (pv 3)) (sa_cons (se_var 5 (pv 5)) sa_nil))) (hlen := (aCons_len (aCons_len (aCons_len aNil_len))))) (sa_cons (se_call d_bill_row (rm hr) (by rfl) (sa_cons (se_var 2 (pv 2)) (sa_cons (se_var 3 (pv 3)) (sa_cons (se_plus (sb_var 5 (pv 5)) (sb_of se_int)) sa_nil))) (hlen := (aCons_len (aCons_len (aCons_len aNil_len))))) sa_nil))) (sa_cons (se_tup (sa_cons (se_var 9 (pv 9)) (sa_cons (se_var 11 (pv 11)) sa_nil))) sa_nil)) (hlen := (aCons_len (aCons_len aNil_len))))))) (ss_one (ss_ret se_bl)) ss_nil) (ss_cons (ss_set (i := 12) sc.nd rfl (.inl rfl) (se_tuple (by rfl) m.tuple (sb_ofF (sf_lc rfl sc.nd (sib_of (si_rng1 (by rfl) m.range (sb_var 3 (pv 3)))) (blkOk_by (N := N_law) (sc := defScope s_law) (own := [("watch", 10)]) (by decide +kernel)) (fun _ _ _ _ _ => (sg_name (i := 10) sc.nd rfl (by first | exact .inl rfl | exact .inr rfl))) (fun _ _ _ _ _ => sts_nil) (fun _ _ _ _ _ => (se_tuple (by rfl) m.tuple (sb_ofF (sf_lc rfl sc.nd (sib_of (si_rng1 (by rfl) m.range (sb_var 2 (pv 2)))) (blkOk_by (own := [("man", 8)]) (by rfl)) (fun _ _ _ _ _ => (sg_name (i := 8) sc.nd rfl (by first | exact .inl rfl | exact .inr rfl))) (fun _ _ _ _ _ => (sts_one (st_cmp (ck_eq hr.units) (sb_of (se_ix (sb_var 9 (pv 9)) (sb_var 8 (pv 8)) (fun _ _ => rfl))) (sb_var 10 (pv 10)) (nomark _)))) (fun _ _ _ _ _ => (se_var 8 (pv 8))) (by decide))))) (by decide))))) (ss_cons (ss_if (st_not (st_tru (sb_of (se_call d__law_like (rm hr) (by rfl) (sa_cons (se_tuple (by rfl) m.tuple (sb_ofF (sf_lc rfl sc.nd (sib_of (si_rng1 (by rfl) m.range (sb_var 3 (pv 3)))) (blkOk_by (N := N_law) (sc := defScope s_law) (own := [("watch", 10)]) (by decide +kernel)) (fun _ _ _ _ _ => (sg_name (i := 10) sc.nd rfl (by first | exact .inl rfl | exact .inr rfl))) (fun _ _ _ _ _ => sts_nil) (fun _ _ _ _ _ => (se_call d_men_on (rm hr) (by rfl) (sa_cons (se_var 2 (pv 2)) (sa_cons (se_var 3 (pv 3)) (sa_cons (se_var 5 (pv 5)) (sa_cons (se_var 10 (pv 10)) sa_nil)))) (hlen := (aCons_len (aCons_len (aCons_len (aCons_len aNil_len))))))) (by decide)))) (sa_cons (se_var 12 (pv 12)) sa_nil)) (hlen := (aCons_len (aCons_len aNil_len))))))) (ss_one (ss_ret se_bl)) ss_nil) (ss_cons (ss_set (i := 13) sc.nd rfl (.inl rfl) (se_call d_bill_again (rm hr) (by rfl) (sa_cons (se_var 2 (pv 2)) (sa_cons (se_var 3 (pv 3)) sa_nil)) (hlen := (aCons_len (aCons_len aNil_len))))) (ss_cons (ss_if (st_w (sw_or (st_not (st_tru (sb_of (se_call d__law_like (rm hr) (by rfl) (sa_cons (se_var 13 (pv 13)) (sa_cons (se_var 3 (pv 3)) sa_nil)) (hlen := (aCons_len (aCons_len aNil_len))))))) (sw_or1 (st_not (st_tru (sb_of (se_call d__law_like (rm hr) (by rfl) (sa_cons (se_call d_bill_row (rm hr) (by rfl) (sa_cons (se_var 2 (pv 2)) (sa_cons (se_var 3 (pv 3)) (sa_cons (se_plus (sb_var 5 (pv 5)) (sb_var 13 (pv 13))) sa_nil))) (hlen := (aCons_len (aCons_len (aCons_len aNil_len))))) (sa_cons (se_var 9 (pv 9)) sa_nil)) (hlen := (aCons_len (aCons_len aNil_len)))))))))) (ss_one (ss_ret se_bl)) ss_nil) (ss_cons (ss_parT rfl (sm_val (se_mod (sb_of (se_intc (by rfl) m.int (sb_of (se_ix (sb_var 1 (pv 1)) (sb_of se_int) (fun _ _ => rfl))))) (sb_var 2 (pv 2))) (sm_val (se_mod (sb_of (se_intc (by rfl) m.int (sb_of (se_ix (sb_var 1 (pv 1)) (sb_of se_int) (fun _ _ => rfl))))) (sb_of se_int)) sm_nil)) (pns_cons (pg_name (i := 8) sc.nd rfl (.inr rfl)) (pns_cons (pg_name (i := 14) sc.nd rfl (.inl rfl)) pns_nil))) (ss_cons (ss_par2 (i := 15) (j := 16) rfl sc.nd rfl rfl (by decide) rfl rfl (sm_val (se_ofF (sf_lst sa_nil)) (sm_val se_int sm_nil)) (by rfl)) (ss_cons (ss_for PassesOwn.never rfl (si_rng1 (by rfl) m.range (sb_var 3 (pv 3))) (sg_name (i := 10) sc.nd rfl (by first | exact .inl rfl | exact .inr rfl)) (ss_cons (ss_set (i := 17) sc.nd rfl (.inl rfl) (se_tuple (by rfl) m.tuple (sb_ofF (sf_lc rfl sc.nd (sib_of (si_rng2 (by rfl) m.range (sb_of (se_ix (sb_var 7 (pv 7)) (sb_of se_int) (fun _ _ => rfl))) (sb_of (se_ix (sb_var 7 (pv 7)) (sb_of se_int) (fun _ _ => rfl))))) (blkOk_by (N := N_law) (sc := defScope s_law) (own := [("now", 23)]) (by decide +kernel)) (fun _ _ _ _ _ => (sg_name (i := 23) sc.nd rfl (by first | exact .inl rfl | exact .inr rfl))) (fun _ _ _ _ _ => (sts_one (st_cmp (ck_eq hr.units) (sb_of (se_mod (sb_of (se_intc (by rfl) m.int (sb_of (se_plus (sb_var 8 (pv 8)) (sb_var 23 (pv 23)))))) (sb_var 3 (pv 3)))) (sb_var 10 (pv 10)) (nomark _)))) (fun _ _ _ _ _ => (se_var 23 (pv 23))) (by decide))))) (ss_cons (ss_if (st_not (st_tru (sb_of (se_call d__law_like (rm hr) (by rfl) (sa_cons (se_call d_watch_days (rm hr) (by rfl) (sa_cons (se_var 3 (pv 3)) (sa_cons (se_var 8 (pv 8)) (sa_cons (se_var 10 (pv 10)) (sa_cons (se_var 7 (pv 7)) sa_nil)))) (hlen := (aCons_len (aCons_len (aCons_len (aCons_len aNil_len)))))) (sa_cons (se_var 17 (pv 17)) sa_nil)) (hlen := (aCons_len (aCons_len aNil_len))))))) (ss_one (ss_ret se_bl)) ss_nil) (ss_cons (ss_par2 (i := 15) (j := 16) rfl sc.nd rfl rfl (by decide) rfl rfl (sm_val (se_plus (sb_var 15 (pv 15)) (sb_ofF (sf_list (by rfl) m.list (sb_var 17 (pv 17))))) (sm_val (se_plus (sb_var 16 (pv 16)) (sb_of (se_mul (sb_of (se_len (by rfl) m.len (sb_var 17 (pv 17)))) (sb_of (se_ix (sb_var 4 (pv 4)) (sb_var 10 (pv 10)) (fun _ _ => rfl)))))) sm_nil)) (by rfl)) (ss_one (ss_if (st_w (sw_and (st_cmp (ck_gt hr.units) (sb_of (se_len (by rfl) m.len (sb_var 17 (pv 17)))) (sb_of se_int) (nomark _)) (sw_and1 (st_cmp (ck_notIn (u65 hr)) (sb_var 8 (pv 8)) (sb_of (se_call d_men_on (rm hr) (by rfl) (sa_cons (se_var 2 (pv 2)) (sa_cons (se_var 3 (pv 3)) (sa_cons (se_ix (sb_var 17 (pv 17)) (sb_of (se_sub (sb_of (se_len (by rfl) m.len (sb_var 17 (pv 17)))) (sb_of se_int))) (fun _ _ => rfl)) (sa_cons (se_var 10 (pv 10)) sa_nil)))) (hlen := (aCons_len (aCons_len (aCons_len (aCons_len aNil_len))))))) (by with_unfolding_all rfl))))) (ss_one (ss_ret se_bl)) ss_nil)))))) (ss_cons (ss_if (st_cmp (ck_ne hr.units) (sb_ofF (sf_sorted hr.units (by rfl) m.sorted (sb_var 15 (pv 15)))) (sb_ofF (sf_listRg rfl (by rfl) m.list (srg_2 (by rfl) m.range (sb_of (se_ix (sb_var 7 (pv 7)) (sb_of se_int) (fun _ _ => rfl))) (sb_of (se_ix (sb_var 7 (pv 7)) (sb_of se_int) (fun _ _ => rfl)))))) (nomark _)) (ss_one (ss_ret se_bl)) ss_nil) (ss_cons (ss_set (i := 18) sc.nd rfl (.inl rfl) (se_mul (sb_of (se_sub (sb_of (se_ix (sb_var 7 (pv 7)) (sb_of se_int) (fun _ _ => rfl))) (sb_of (se_ix (sb_var 7 (pv 7)) (sb_of se_int) (fun _ _ => rfl))))) (sb_of (se_intc (by rfl) m.int (sb_of (se_cmp (ck_eq hr.units) (sb_of (se_mod (sb_of (se_intc (by rfl) m.int (sb_of (se_sub (sb_var 8 (pv 8)) (sb_var 14 (pv 14)))))) (sb_var 3 (pv 3)))) (sb_of se_int) (nomark _))))))) (ss_cons (ss_if (st_not (st_tru (sb_of (se_call d__law_like (rm hr) (by rfl) (sa_cons (se_tup (sa_cons (se_call d_met_days (rm hr) (by rfl) (sa_cons (se_var 3 (pv 3)) (sa_cons (se_var 8 (pv 8)) (sa_cons (se_var 14 (pv 14)) (sa_cons (se_var 7 (pv 7)) sa_nil)))) (hlen := (aCons_len (aCons_len (aCons_len (aCons_len aNil_len)))))) (sa_cons (se_call d_met_days (rm hr) (by rfl) (sa_cons (se_var 3 (pv 3)) (sa_cons (se_var 14 (pv 14)) (sa_cons (se_var 8 (pv 8)) (sa_cons (se_var 7 (pv 7)) sa_nil)))) (hlen := (aCons_len (aCons_len (aCons_len (aCons_len aNil_len)))))) sa_nil))) (sa_cons (se_tup (sa_cons (se_var 18 (pv 18)) (sa_cons (se_var 18 (pv 18)) sa_nil))) sa_nil)) (hlen := (aCons_len (aCons_len aNil_len))))))) (ss_one (ss_ret se_bl)) ss_nil) (ss_cons (ss_set (i := 19) sc.nd rfl (.inl rfl) (se_call d_hours_worked (rm hr) (by rfl) (sa_cons (se_var 2 (pv 2)) (sa_cons (se_var 4 (pv 4)) (sa_cons (se_var 7 (pv 7)) sa_nil))) (hlen := (aCons_len (aCons_len (aCons_len aNil_len)))))) (ss_cons (ss_set (i := 20) sc.nd rfl (.inl rfl) (se_tuple (by rfl) m.tuple (sb_ofF (sf_lc rfl sc.nd (sib_of (si_rng1 (by rfl) m.range (sb_var 2 (pv 2)))) (blkOk_by (N := N_law) (sc := defScope s_law) (own := [("k", 22)]) (by decide +kernel)) (fun _ _ _ _ _ => (sg_name (i := 22) sc.nd rfl (by first | exact .inl rfl | exact .inr rfl))) (fun _ _ _ _ _ => sts_nil) (fun _ _ _ _ _ => (se_sumG rfl (by rfl) m.sum (sb_ofF (sf_lc rfl sc.nd (sib_of (si_rng2 (by rfl) m.range (sb_of (se_ix (sb_var 7 (pv 7)) (sb_of se_int) (fun _ _ => rfl))) (sb_of (se_ix (sb_var 7 (pv 7)) (sb_of se_int) (fun _ _ => rfl))))) (blkOk_by (own := [("now", 23)]) (by rfl)) (fun _ _ _ _ _ => (sg_name (i := 23) sc.nd rfl (by first | exact .inl rfl | exact .inr rfl))) (fun _ _ _ _ _ => sts_nil) (fun _ _ _ _ _ => (se_ix (sb_var 4 (pv 4)) (sb_of (se_mod (sb_of (se_intc (by rfl) m.int (sb_of (se_plus (sb_var 22 (pv 22)) (sb_var 23 (pv 23)))))) (sb_var 3 (pv 3)))) (fun _ _ => rfl))) (by decide))))) (by decide))))) (ss_cons (ss_if (st_w (sw_or (st_not (st_tru (sb_of (se_call d__law_like (rm hr) (by rfl) (sa_cons (se_var 19 (pv 19)) (sa_cons (se_var 20 (pv 20)) sa_nil)) (hlen := (aCons_len (aCons_len aNil_len))))))) (sw_or1 (st_cmp (ck_ne hr.units) (sb_of (se_ix (sb_var 19 (pv 19)) (sb_var 8 (pv 8)) (fun _ _ => rfl))) (sb_var 16 (pv 16)) (nomark _))))) (ss_one (ss_ret se_bl)) ss_nil) (ss_cons (ss_set (i := 21) sc.nd rfl (.inl rfl) (se_plus (sb_of se_int) (sb_of (se_mod (sb_of (se_intc (by rfl) m.int (sb_of (se_ix (sb_var 1 (pv 1)) (sb_of se_int) (fun _ _ => rfl))))) (sb_of se_int))))) (ss_one (ss_ret (se_call d__law_like (rm hr) (by rfl) (sa_cons (se_call d_hours_worked (rm hr) (by rfl) (sa_cons (se_var 2 (pv 2)) (sa_cons (se_var 4 (pv 4)) (sa_cons (se_tup (sa_cons (se_var 6 (pv 6)) (sa_cons (se_plus (sb_var 6 (pv 6)) (sb_of (se_mul (sb_var 21 (pv 21)) (sb_var 3 (pv 3))))) sa_nil))) sa_nil))) (hlen := (aCons_len (aCons_len (aCons_len aNil_len))))) (sa_cons (se_repT (sb_of (se_tup (sa_cons (se_mul (sb_var 21 (pv 21)) (sb_of (se_sumG rfl (by rfl) m.sum (sb_var 4 (pv 4))))) sa_nil))) (sb_var 2 (pv 2))) sa_nil)) (hlen := (aCons_len (aCons_len aNil_len))))))))))))))))))))))))))))
end
end Wk

set_option Elab.async false
set_option linter.all false
set_option maxRecDepth 100000
namespace Wk
noncomputable section
open PySem PySem.Spec PyProof.Rows L2 Pl
def f_bill_row : List PV → Option PV := fnDef 4 (b_bill_row)
def f_men_on : List PV → Option PV := fnDef 6 (b_men_on f_bill_row)
def f_bill_again : List PV → Option PV := fnDef 2 (b_bill_again)
def f_watch_days : List PV → Option PV := fnDef 5 (b_watch_days)
def f_met_days : List PV → Option PV := fnDef 5 (b_met_days)
def f_hours_worked : List PV → Option PV := fnDef 6 (b_hours_worked)
def f__law_mixed : List PV → Option PV := fnDef 6 (b__law_mixed)
def f__law_row : List PV → Option PV := fnDef 5 (b__law_row f__law_mixed)
def f__law_is_int : List PV → Option PV := fnDef 1 (b__law_is_int)
def g__law_like : Nat → List PV → Option PV
  | 0 => fun _ => none
  | d + 1 => fnDef 3 (b__law_like (g__law_like d) f__law_is_int)
abbrev f__law_like : List PV → Option PV := g__law_like 8
def f_law : List PV → Option PV := fnDef 24 (b_law f__law_row f__law_like f_bill_row f_men_on f_bill_again f_watch_days f_met_days f_hours_worked)
end
end Wk

set_option Elab.async false
set_option linter.all false
set_option maxRecDepth 100000
set_option autoImplicit false
namespace Cm
open PySem PySem.Spec PyProof.Rows L2 Pl
/-! ### operations at ints -/
theorem mulOk_l {i j : Int} (h : i.natAbs < 2 ^ 63) : mulOk i j = true := by
  unfold mulOk
  rw [decide_eq_true h]
  rfl
theorem mulOk_r {i j : Int} (h : j.natAbs < 2 ^ 63) : mulOk i j = true := by
  unfold mulOk
  rw [decide_eq_true h, Bool.or_true]
theorem divOk_of {j : Int} (h : j.natAbs < 2 ^ 63) : divOk j = true := by
  unfold divOk
  apply decide_eq_true
  rcases Nat.eq_zero_or_pos j.natAbs with h0 | h0
  · rw [h0]; decide
  · have := (Nat.log2_lt (by omega)).2 h
    omega
theorem pPlus_i (i j : Int) : pPlus (.int i) (.int j) = some (.int (i + j)) := rfl
theorem pMul_i {i j : Int} (h : mulOk i j = true) : pMul (.int i) (.int j) = some (.int (i * j)) := if_pos h
theorem pDiv_i {i j : Int} (h : 0 < j) (h2 : j.natAbs < 2 ^ 63) : pDiv (.int i) (.int j) = some (.int (i / j)) := by
  unfold pDiv
  simp only [if_pos h, if_pos (divOk_of h2)]
theorem pDiv_j {i j : Int} (h : 0 < j) (h2 : j < 9223372036854775808) : pDiv (.int i) (.int j) = some (.int (i / j)) := pDiv_i h (by omega)
theorem mulOk_x {i j : Int} (h : -9223372036854775808 < i) (h2 : i < 9223372036854775808) : mulOk i j = true := mulOk_l (by omega)
theorem mulOk_y {i j : Int} (h : -9223372036854775808 < j) (h2 : j < 9223372036854775808) : mulOk i j = true := mulOk_r (by omega)
theorem pMod_i {i j : Int} (h : 0 < j) : pMod (.int i) (.int j) = some (.int (i % j)) := if_pos h
theorem pEq_i (i j : Int) : pEq (.int i) (.int j) = some (.bool (decide (i = j))) := rfl
theorem pNe_i (i j : Int) : pNe (.int i) (.int j) = some (.bool (!decide (i = j))) := rfl
theorem pLt_i (i j : Int) : pLt (.int i) (.int j) = some (.bool (decide (i < j))) := rfl
theorem pLe_i (i j : Int) : pLe (.int i) (.int j) = some (.bool (decide (i ≤ j))) := rfl
theorem pGt_i (i j : Int) : pGt (.int i) (.int j) = some (.bool (decide (j < i))) := rfl
theorem pGe_i (i j : Int) : pGe (.int i) (.int j) = some (.bool (decide (j ≤ i))) := rfl
theorem szl : sizeLine = 16777216 := by decide
theorem pTup_s {l : List PV} (h : l.length ≤ 16777216) : pTup l = some (.tuple l) := if_pos (decide_eq_true (by rw [szl]; exact h))
theorem pLst_s {l : List PV} (h : l.length ≤ 16777216) : pLst l = some (.list l) := if_pos (decide_eq_true (by rw [szl]; exact h))
/-! equality of typed data -/
theorem pEq_sh {v w : PV} (hv : SeqAt.shaped v = true) (hw : SeqAt.shaped w = true) : pEq v w = some (.bool (PyData.eqv v w)) := by
  unfold pEq
  split
  · simp only [PyData.eqv]
    rw [PySem.W.beq_decide]
  · rw [if_pos ⟨hv, hw⟩]
theorem pNe_sh {v w : PV} (hv : SeqAt.shaped v = true) (hw : SeqAt.shaped w = true) : pNe v w = some (.bool (!PyData.eqv v w)) := by
  unfold pNe
  split
  · simp only [PyData.eqv]
    rw [PySem.W.beq_decide]
  · rw [if_pos ⟨hv, hw⟩]
class Dc (α : Type) [DecidableEq α] [PySem.W.Datum α] where
  can : ∀ a : α, (PySem.W.Datum.toD a).canLay0 = true
instance : Dc Int := ⟨fun _ => rfl⟩
instance : Dc Bool := ⟨fun _ => rfl⟩
instance : Dc Unit := ⟨fun _ => rfl⟩
section
variable {α β : Type} [DecidableEq α] [PySem.W.Datum α] [Dc α] [DecidableEq β] [PySem.W.Datum β] [Dc β]
theorem can_all : ∀ l : List α, PyData.canLayAll0 (l.map PySem.W.Datum.toD) = true
  | [] => rfl
  | x :: l => by rw [List.map_cons, PyData.canLayAll0, Dc.can, can_all l]; rfl
instance : Dc (List α) := ⟨fun l => by show PyData.canLay0 (.list _) = true; rw [PyData.canLay0]; exact can_all l⟩
instance : Dc (PySem.W.Tup α) := ⟨fun l => by show PyData.canLay0 (.tuple _) = true; rw [PyData.canLay0]; exact can_all l.items⟩
instance : Dc (α × β) := ⟨fun l => by show PyData.canLay0 (.tuple [_, _]) = true; simp only [PyData.canLay0, PyData.canLayAll0, Dc.can]; rfl⟩
theorem sh_D (a : α) (h : PySem.W.Datum.depth α ≤ 64) : SeqAt.shaped (PySem.W.Datum.toD a) = true := by
  unfold SeqAt.shaped
  rw [Dc.can, Bool.true_and]
  exact decide_eq_true (Nat.le_trans (PySem.W.Datum.depth_le a) h)
theorem pEq_D (a b : α) (h : PySem.W.Datum.depth α ≤ 64) : pEq (PySem.W.Datum.toD a) (PySem.W.Datum.toD b) = some (.bool (decide (a = b))) := by
  rw [pEq_sh (sh_D a h) (sh_D b h), PySem.W.Datum.eqv]
theorem pNe_D (a b : α) (h : PySem.W.Datum.depth α ≤ 64) : pNe (PySem.W.Datum.toD a) (PySem.W.Datum.toD b) = some (.bool (!decide (a = b))) := by
  rw [pNe_sh (sh_D a h) (sh_D b h), PySem.W.Datum.eqv]
end
theorem sh_str {s : Str} (h : PyData.strOk s = true) : SeqAt.shaped (.str s) = true := by
  unfold SeqAt.shaped
  rw [PyData.canLay0, h, Bool.true_and]
  exact decide_eq_true (Nat.le_trans (PySem.W.Datum.depth_le s) (Nat.zero_le _))
theorem pEq_str {s t : Str} (h : PyData.strOk s = true) (h' : PyData.strOk t = true) : pEq (.str s) (.str t) = some (.bool (decide (s = t))) := (pEq_sh (sh_str h) (sh_str h')).trans (congrArg (fun b => some (PyData.bool b)) (PySem.W.Datum.eqv s t))
theorem pEq_bool (a b : Bool) : pEq (.bool a) (.bool b) = some (.bool (decide (a = b))) := pEq_D a b (Nat.zero_le _)
theorem pNe_bool (a b : Bool) : pNe (.bool a) (.bool b) = some (.bool (!decide (a = b))) := pNe_D a b (Nat.zero_le _)
/-! lists of ints -/
abbrev iL (l : List Int) : PV := .list (l.map PyData.int)
abbrev iT (l : List Int) : PV := .tuple (l.map PyData.int)
theorem atI_nat {α : Type} {l : List α} {i : Int} {x : α} (h0 : 0 ≤ i) (h : l[i.toNat]? = some x) : atI l i = some x := by
  obtain ⟨n, rfl⟩ := Int.eq_ofNat_of_zero_le h0
  have hn : n < l.length := by
    rcases Nat.lt_or_ge n l.length with h' | h'
    · exact h'
    · rw [Int.toNat_natCast, List.getElem?_eq_none h'] at h; cases h
  rw [Int.toNat_natCast] at h
  unfold atI ixN
  simp only [hn, Int.natCast_nonneg]
  first
  | (simp only [if_pos (show ((n : Int) < (l.length : Int)) by omega)]; simpa using h)
  | (simp; exact h)
theorem atI_neg1 {α : Type} {l : List α} {x : α} (h : l.getLast? = some x) : atI l (-1) = some x := by
  have hl : l ≠ [] := fun e => by rw [e] at h; cases h
  have hp : 0 < l.length := List.length_pos_iff.2 hl
  unfold atI ixN
  rw [if_neg (by decide), if_pos (by omega)]
  rw [List.getLast?_eq_getElem?] at h
  show l[((-1 : Int) + l.length).toNat]? = some x
  rw [show ((-1 : Int) + l.length).toNat = l.length - 1 by omega]
  exact h
theorem ix_t {l : List Int} {i : Int} (h0 : 0 ≤ i) (h1 : i < l.length) : pIx (iT l) (.int i) = some (.int (l.getD i.toNat 0)) := by
  have e : i.toNat < l.length := by omega
  refine atI_nat h0 ?_
  rw [List.getElem?_map, List.getElem?_eq_getElem e, List.getD_eq_getElem?_getD, List.getElem?_eq_getElem e]
  rfl
theorem ix_l {l : List Int} {i : Int} (h0 : 0 ≤ i) (h1 : i < l.length) : pIx (iL l) (.int i) = some (.int (l.getD i.toNat 0)) := ix_t (l := l) h0 h1
theorem ix_t1 {l : List Int} (h : l ≠ []) : pIx (iT l) (.int (-1)) = some (.int (l.getLastD 0)) := by
  refine atI_neg1 ?_
  rw [List.getLast?_map]
  cases l with
  | nil => exact absurd rfl h
  | cons a r => rw [List.getLast?_cons, List.getLastD_cons, List.getLastD_eq_getLast?]; rfl
theorem ix_l1 {l : List Int} (h : l ≠ []) : pIx (iL l) (.int (-1)) = some (.int (l.getLastD 0)) := ix_t1 h
/-! ### statements -/
theorem sq_nx {a b : PSt} {ρ ρ' : PEnv} {r : Option Fl} (h : a ρ = some (.nx ρ')) (h2 : b ρ' = r) : sSeq a b ρ = r := by
  unfold sSeq
  rw [h]
  exact h2
theorem sq_rt {a b : PSt} {ρ : PEnv} {v : PV} (h : a ρ = some (.ret v)) : sSeq a b ρ = some (.ret v) := by
  unfold sSeq
  rw [h]
  rfl
theorem if_t {c : PEnv → Option Bool} {a b : PSt} {ρ : PEnv} {r : Option Fl} (h : c ρ = some true) (h2 : a ρ = r) : sIf c a b ρ = r := by
  unfold sIf
  rw [h]
  exact h2
theorem if_f {c : PEnv → Option Bool} {a b : PSt} {ρ : PEnv} {r : Option Fl} (h : c ρ = some false) (h2 : b ρ = r) : sIf c a b ρ = r := by
  unfold sIf
  rw [h]
  exact h2
theorem fn_rt {n : Nat} {b : PSt} {l : List PV} {v : PV} (h : b (startE n l) = some (.ret v)) : fnDef n b l = some v := by
  unfold fnDef
  rw [h]
  rfl
/-! loops -/
theorem lp_inv {α β : Type} {h : GF} {b : PSt} (enc : α → PV) (f : β → α → β) (Inv : β → PEnv → Prop) : ∀ (l : List α), (∀ a ∈ l, ∀ s ρ, Inv s ρ → ∃ ρ1 ρ2, h (enc a) ρ = some ρ1 ∧ b ρ1 = some (.nx ρ2) ∧ Inv (f s a) ρ2) → ∀ (s : β) (ρ : PEnv), Inv s ρ → ∃ ρ', loopF h b (l.map enc) ρ = some (.nx ρ') ∧ Inv (l.foldl f s) ρ'
  | [], _, s, ρ, i => ⟨ρ, rfl, i⟩
  | a :: l, st, s, ρ, i => by
    obtain ⟨ρ1, ρ2, e1, e2, i2⟩ := st a (List.mem_cons_self ..) s ρ i
    obtain ⟨ρ', e, i'⟩ := lp_inv enc f Inv l (fun a ha => st a (List.mem_cons_of_mem _ ha)) _ _ i2
    refine ⟨ρ', ?_, i'⟩
    rw [List.map_cons, loopF, e1, Option.bind_some, e2, Option.bind_some]
    exact e
/-- a loop that gives an answer at the first place of P -/
theorem lp_find {α : Type} {h : GF} {b : PSt} (enc : α → PV) (P : α → Bool) (g : α → PV) (Inv : PEnv → Prop) : ∀ (l : List α), (∀ a ∈ l, ∀ ρ, Inv ρ → ∃ ρ1, h (enc a) ρ = some ρ1 ∧ if P a = true then b ρ1 = some (.ret (g a)) else ∃ ρ2, b ρ1 = some (.nx ρ2) ∧ Inv ρ2) → ∀ (ρ : PEnv), Inv ρ → (∃ a, l.find? P = some a ∧ loopF h b (l.map enc) ρ = some (.ret (g a))) ∨ (l.find? P = none ∧ ∃ ρ', loopF h b (l.map enc) ρ = some (.nx ρ') ∧ Inv ρ')
  | [], _, ρ, i => .inr ⟨rfl, ρ, rfl, i⟩
  | a :: l, st, ρ, i => by
    obtain ⟨ρ1, e1, e2⟩ := st a (List.mem_cons_self ..) ρ i
    by_cases hp : P a = true
    · rw [if_pos hp] at e2
      refine .inl ⟨a, List.find?_cons_of_pos hp, ?_⟩
      rw [List.map_cons, loopF, e1, Option.bind_some, e2]
      rfl
    · rw [if_neg hp] at e2
      obtain ⟨ρ2, e2, i2⟩ := e2
      have q : loopF h b ((a :: l).map enc) ρ = loopF h b (l.map enc) ρ2 := by
        rw [List.map_cons, loopF, e1, Option.bind_some, e2]
        rfl
      rw [q, List.find?_cons_of_neg hp]
      exact lp_find enc P g Inv l (fun a ha => st a (List.mem_cons_of_mem _ ha)) _ i2
theorem lw_inv {c : PEnv → Option Bool} {b : PSt} {β : Type} (Inv : β → PEnv → Prop) (f : β → β) (P : β → Bool) (st : ∀ s ρ, Inv s ρ → c ρ = some (P s) ∧ (P s = true → ∃ ρ', b ρ = some (.nx ρ') ∧ Inv (f s) ρ')) : ∀ (k n : Nat) (s : β) (ρ : PEnv), (∀ j, j < k → P (Nat.repeat f j s) = true) → P (Nat.repeat f k s) = false → k < n → Inv s ρ → ∃ ρ', loopW c b n ρ = some (.nx ρ') ∧ Inv (Nat.repeat f k s) ρ' := by
  intro k
  induction k with
  | zero =>
    intro n s ρ _ hf hn i
    obtain ⟨n, rfl⟩ : ∃ m, n = m + 1 := ⟨n - 1, by omega⟩
    refine ⟨ρ, ?_, i⟩
    rw [loopW, (st s ρ i).1]
    change P s = false at hf
    rw [hf]
    rfl
  | succ k ih =>
    intro n s ρ ht hf hn i
    obtain ⟨n, rfl⟩ : ∃ m, n = m + 1 := ⟨n - 1, by omega⟩
    have sh : ∀ j, Nat.repeat f (j + 1) s = Nat.repeat f j (f s) := fun j => by
      induction j with
      | zero => rfl
      | succ j ih2 => rw [Nat.repeat, ih2, Nat.repeat]
    have h0 : P s = true := ht 0 (by omega)
    obtain ⟨ρ2, e2, i2⟩ := (st s ρ i).2 h0
    obtain ⟨ρ', e, i'⟩ := ih n (f s) ρ2 (fun j hj => by rw [← sh]; exact ht (j + 1) (by omega)) (by rw [← sh]; exact hf) (by omega) i2
    refine ⟨ρ', ?_, by rw [sh]; exact i'⟩
    rw [loopW, (st s ρ i).1, h0, Option.bind_some, if_pos rfl, e2]
    exact e
/-! comprehensions -/
theorem cp_map {α : Type} {h : GF} {c : PEnv → Option Bool} {e : PF} {ρ : PEnv} (enc : α → PV) (f : α → PV) : ∀ (l : List α), (∀ a ∈ l, ∃ ρ1, h (enc a) ρ = some ρ1 ∧ c ρ1 = some true ∧ e ρ1 = some (f a)) → compL h c e ρ (l.map enc) = some (l.map f)
  | [], _ => rfl
  | a :: l, st => by
    obtain ⟨ρ1, e1, e2, e3⟩ := st a (List.mem_cons_self ..)
    rw [List.map_cons, compL, e1, Option.bind_some, e2, Option.bind_some, if_pos rfl, e3, Option.bind_some, cp_map enc f l (fun a ha => st a (List.mem_cons_of_mem _ ha))]
    rfl
theorem cp_flt {α : Type} {h : GF} {c : PEnv → Option Bool} {e : PF} {ρ : PEnv} (enc : α → PV) (P : α → Bool) (f : α → PV) : ∀ (l : List α), (∀ a ∈ l, ∃ ρ1, h (enc a) ρ = some ρ1 ∧ c ρ1 = some (P a) ∧ (P a = true → e ρ1 = some (f a))) → compL h c e ρ (l.map enc) = some ((l.filter P).map f)
  | [], _ => rfl
  | a :: l, st => by
    obtain ⟨ρ1, e1, e2, e3⟩ := st a (List.mem_cons_self ..)
    have ih := cp_flt enc P f l (fun a ha => st a (List.mem_cons_of_mem _ ha))
    rw [List.map_cons, compL, e1, Option.bind_some, e2, Option.bind_some]
    by_cases hp : P a = true
    · rw [hp, if_pos rfl, e3 hp, Option.bind_some, ih, List.filter_cons_of_pos hp]
      rfl
    · rw [if_neg hp, ih, List.filter_cons_of_neg hp]
/-- [f(a) for a in L] -/
theorem ec_map {α : Type} {L : LF} {vs : List Nat} {h : GF} {c : PEnv → Option Bool} {e : PF} {ρ : PEnv} (enc : α → PV) (f : α → PV) {l : List α} (hL : L ρ = some (l.map enc)) (hn : l.length ≤ 16777216) (st : ∀ a ∈ l, ∃ ρ1, h (enc a) (wipeE ρ vs) = some ρ1 ∧ c ρ1 = some true ∧ e ρ1 = some (f a)) : eComp L vs h c e ρ = some (.list (l.map f)) := by
  unfold eComp
  rw [hL, Option.bind_some, cp_map enc f l st]
  exact pLst_s (by rw [List.length_map]; exact hn)
theorem ec_flt {α : Type} {L : LF} {vs : List Nat} {h : GF} {c : PEnv → Option Bool} {e : PF} {ρ : PEnv} (enc : α → PV) (P : α → Bool) (f : α → PV) {l : List α} (hL : L ρ = some (l.map enc)) (hn : l.length ≤ 16777216) (st : ∀ a ∈ l, ∃ ρ1, h (enc a) (wipeE ρ vs) = some ρ1 ∧ c ρ1 = some (P a) ∧ (P a = true → e ρ1 = some (f a))) : eComp L vs h c e ρ = some (.list ((l.filter P).map f)) := by
  unfold eComp
  rw [hL, Option.bind_some, cp_flt enc P f l st]
  exact pLst_s (by rw [List.length_map]; exact Nat.le_trans (List.length_filter_le ..) hn)
/-! ranges: over natural numbers -/
abbrev nI (n : Nat) : PV := .int n
theorem rg_1 {f : PF} {ρ : PEnv} {n : Int} (h : f ρ = some (.int n)) (h1 : n < 2 ^ 62) (h0 : -(2 ^ 62) ≤ n) : lRng1 f ρ = some ((List.range n.toNat).map nI) := by
  unfold lRng1
  rw [h, Option.bind_some]
  unfold pRng
  have ok : rOk 0 n = true := by
    unfold rOk
    simp only [Bool.and_eq_true, decide_eq_true_eq]
    omega
  simp only [toI, Option.bind_some, if_pos ok]
  unfold rng
  rw [List.map_map, Int.sub_zero]
  congr 1
  apply List.map_congr_left
  intro k _
  show PyData.int (0 + (k : Int)) = PyData.int k
  rw [Int.zero_add]
theorem rg_2 {f g : PF} {ρ : PEnv} {a b : Int} (h : f ρ = some (.int a)) (h' : g ρ = some (.int b)) (h0 : -(2 ^ 62) ≤ a) (h1 : a < 2 ^ 62) (h2 : -(2 ^ 62) ≤ b) (h3 : b < 2 ^ 62) : lRng2 f g ρ = some ((rng a b).map PyData.int) := by
  unfold lRng2
  rw [h, Option.bind_some, h', Option.bind_some]
  unfold pRng
  have ok : rOk a b = true := by
    unfold rOk
    simp only [Bool.and_eq_true, decide_eq_true_eq]
    omega
  simp only [toI, Option.bind_some, if_pos ok]
theorem mem_rng {a b x : Int} : x ∈ rng a b ↔ a ≤ x ∧ x < b := by
  unfold rng
  rw [List.mem_map]
  constructor
  · rintro ⟨k, hk, rfl⟩
    have := List.mem_range.1 hk
    omega
  · intro h
    exact ⟨(x - a).toNat, List.mem_range.2 (by omega), by omega⟩
/-! ### the row -/
abbrev b_mixed : PSt := (sSeq (sAsg (eK (.int 0)) (gN 2)) (sSeq (sIf (cB (e2 pGt (e1 pLen (eB 0)) (eK (.int 0)))) (sAsg (e2 pIx (eB 0) (e2 pMod (eB 1) (e1 pLen (eB 0)))) (gN 2)) sNil) (sSeq (sAsg (e2 pMod (e1 pInt (e2 pPlus (e2 pPlus (e2 pMul (eB 2) (eK (.int 48271))) (e2 pMul (eB 1) (eK (.int 69621)))) (eK (.int 8191)))) (eK (.int 2147483647))) (gN 3)) (sSeq (sAsg (e2 pMod (e1 pInt (e2 pPlus (e2 pPlus (e2 pMul (eB 3) (eB 3)) (e2 pDiv (eB 3) (eK (.int 7)))) (e2 pMul (eB 1) (eK (.int 16807))))) (eK (.int 2147483629))) (gN 4)) (sSeq (sAsg (e2 pMod (e1 pInt (e2 pPlus (e2 pPlus (e2 pMul (eB 4) (eB 4)) (e2 pDiv (eB 4) (eK (.int 11)))) (eK (.int 40692)))) (eK (.int 2147483563))) (gN 5)) (sRet (e2 pMod (e2 pDiv (eB 5) (eK (.int 5))) (eK (.int 1000003)))))))))
def f_mixed : List PV → Option PV := fnDef 6 b_mixed
theorem mixed_is (ns : List Int) (k : Nat) : ∃ r : Int, f_mixed [iL ns, nI k] = some (.int r) ∧ 0 ≤ r ∧ r < 1000003 := by
  suffices h : ∃ r : Int, b_mixed (startE 6 [iL ns, nI k]) = some (.ret (.int r)) ∧ 0 ≤ r ∧ r < 1000003 by
    obtain ⟨r, h1, h2⟩ := h
    exact ⟨r, fn_rt h1, h2⟩
  have rest : ∀ cell : Int, ∃ r : Int, (sSeq (sAsg (e2 pMod (e1 pInt (e2 pPlus (e2 pPlus (e2 pMul (eB 2) (eK (.int 48271))) (e2 pMul (eB 1) (eK (.int 69621)))) (eK (.int 8191)))) (eK (.int 2147483647))) (gN 3)) (sSeq (sAsg (e2 pMod (e1 pInt (e2 pPlus (e2 pPlus (e2 pMul (eB 3) (eB 3)) (e2 pDiv (eB 3) (eK (.int 7)))) (e2 pMul (eB 1) (eK (.int 16807))))) (eK (.int 2147483629))) (gN 4)) (sSeq (sAsg (e2 pMod (e1 pInt (e2 pPlus (e2 pPlus (e2 pMul (eB 4) (eB 4)) (e2 pDiv (eB 4) (eK (.int 11)))) (eK (.int 40692)))) (eK (.int 2147483563))) (gN 5)) (sRet (e2 pMod (e2 pDiv (eB 5) (eK (.int 5))) (eK (.int 1000003))))))) [.val (iL ns), .val (nI k), .val (.int cell), .un, .un, .un] = some (.ret (.int r)) ∧ 0 ≤ r ∧ r < 1000003 := by
    intro cell
    have m1 : ∀ j : Int, mulOk j 48271 = true := fun j => mulOk_r (by decide)
    have m2 : ∀ j : Int, mulOk j 69621 = true := fun j => mulOk_r (by decide)
    have m3 : ∀ j : Int, mulOk j 16807 = true := fun j => mulOk_r (by decide)
    have b1 : ∀ x : Int, (x % 2147483647).natAbs < 2 ^ 63 := fun x => by omega
    have b2 : ∀ x : Int, (x % 2147483629).natAbs < 2 ^ 63 := fun x => by omega
    refine ⟨_, by
      refine sq_nx (by simp only [eK, eV, eB, e1, e2, aNil, aCons, eCall, eIf, cB, cAnd, cOr, cNot, cYes, cTru, eAnd, eOr, eNot, eNotT, e3c, eSl, eSlL, oNone, oSome, toB, toI, toL, pTru, pIsN, pNotN, isNone, gN, gT, gCons', gNil', sNil, thenF, sRet, sBrk, sCnt, sAsg, sOwn, sAug, sApp, sFz, sPar, mVal, mOwn, mNil, setAllE, ownL, sIf, sSetI, lSeq, lRng1, lRng2, lEnum, wipeE, pLen, pInt, pAbs, pTuple, pList, pNeg, pSub, pAddI, pPlus_i, pMul_i, pDiv_i, pDiv_j, mulOk_x, mulOk_y, Int.reduceLT, Int.reduceNeg, Nat.reduceLeDiff, pMod_i, pEq_i, pNe_i, pLt_i, pLe_i, pGt_i, pGe_i, pMin2, pMax2, pTup_s, pLst_s, outF, Option.bind_some, Option.bind_none, List.getElem?_cons_succ, List.getElem?_cons_zero, List.length_cons, List.length_nil, List.set_cons_succ, List.set_cons_zero, Nat.reduceAdd, Nat.reduceLT, Nat.reduceSub, Nat.lt_irrefl, if_true, if_false, ite_true, ite_false, reduceIte, ↓reduceIte, Bool.not_true, Bool.not_false, Bool.false_eq_true, decide_true, not_true_eq_false, not_false_eq_true, decide_false, decide_eq_true_eq, Bool.not_eq_true', decide_eq_false_iff_not, Bool.not_eq_eq_eq_not, m1, m2, (by decide : (0:Int) < 2147483647)]; rfl) ?_
      refine sq_nx (by simp only [eK, eV, eB, e1, e2, aNil, aCons, eCall, eIf, cB, cAnd, cOr, cNot, cYes, cTru, eAnd, eOr, eNot, eNotT, e3c, eSl, eSlL, oNone, oSome, toB, toI, toL, pTru, pIsN, pNotN, isNone, gN, gT, gCons', gNil', sNil, thenF, sRet, sBrk, sCnt, sAsg, sOwn, sAug, sApp, sFz, sPar, mVal, mOwn, mNil, setAllE, ownL, sIf, sSetI, lSeq, lRng1, lRng2, lEnum, wipeE, pLen, pInt, pAbs, pTuple, pList, pNeg, pSub, pAddI, pPlus_i, pMul_i, pDiv_i, pDiv_j, mulOk_x, mulOk_y, Int.reduceLT, Int.reduceNeg, Nat.reduceLeDiff, pMod_i, pEq_i, pNe_i, pLt_i, pLe_i, pGt_i, pGe_i, pMin2, pMax2, pTup_s, pLst_s, outF, Option.bind_some, Option.bind_none, List.getElem?_cons_succ, List.getElem?_cons_zero, List.length_cons, List.length_nil, List.set_cons_succ, List.set_cons_zero, Nat.reduceAdd, Nat.reduceLT, Nat.reduceSub, Nat.lt_irrefl, if_true, if_false, ite_true, ite_false, reduceIte, ↓reduceIte, Bool.not_true, Bool.not_false, Bool.false_eq_true, decide_true, not_true_eq_false, not_false_eq_true, decide_false, decide_eq_true_eq, Bool.not_eq_true', decide_eq_false_iff_not, Bool.not_eq_eq_eq_not, m3, mulOk_l (b1 _), (by decide : (0:Int) < 2147483629), (by decide : (0:Int) < 7), (by decide : (7:Int).natAbs < 2^63)]; rfl) ?_
      refine sq_nx (by simp only [eK, eV, eB, e1, e2, aNil, aCons, eCall, eIf, cB, cAnd, cOr, cNot, cYes, cTru, eAnd, eOr, eNot, eNotT, e3c, eSl, eSlL, oNone, oSome, toB, toI, toL, pTru, pIsN, pNotN, isNone, gN, gT, gCons', gNil', sNil, thenF, sRet, sBrk, sCnt, sAsg, sOwn, sAug, sApp, sFz, sPar, mVal, mOwn, mNil, setAllE, ownL, sIf, sSetI, lSeq, lRng1, lRng2, lEnum, wipeE, pLen, pInt, pAbs, pTuple, pList, pNeg, pSub, pAddI, pPlus_i, pMul_i, pDiv_i, pDiv_j, mulOk_x, mulOk_y, Int.reduceLT, Int.reduceNeg, Nat.reduceLeDiff, pMod_i, pEq_i, pNe_i, pLt_i, pLe_i, pGt_i, pGe_i, pMin2, pMax2, pTup_s, pLst_s, outF, Option.bind_some, Option.bind_none, List.getElem?_cons_succ, List.getElem?_cons_zero, List.length_cons, List.length_nil, List.set_cons_succ, List.set_cons_zero, Nat.reduceAdd, Nat.reduceLT, Nat.reduceSub, Nat.lt_irrefl, if_true, if_false, ite_true, ite_false, reduceIte, ↓reduceIte, Bool.not_true, Bool.not_false, Bool.false_eq_true, decide_true, not_true_eq_false, not_false_eq_true, decide_false, decide_eq_true_eq, Bool.not_eq_true', decide_eq_false_iff_not, Bool.not_eq_eq_eq_not, mulOk_l (b2 _), (by decide : (0:Int) < 2147483563), (by decide : (0:Int) < 11), (by decide : (11:Int).natAbs < 2^63)]; rfl) ?_
      simp only [eK, eV, eB, e1, e2, aNil, aCons, eCall, eIf, cB, cAnd, cOr, cNot, cYes, cTru, eAnd, eOr, eNot, eNotT, e3c, eSl, eSlL, oNone, oSome, toB, toI, toL, pTru, pIsN, pNotN, isNone, gN, gT, gCons', gNil', sNil, thenF, sRet, sBrk, sCnt, sAsg, sOwn, sAug, sApp, sFz, sPar, mVal, mOwn, mNil, setAllE, ownL, sIf, sSetI, lSeq, lRng1, lRng2, lEnum, wipeE, pLen, pInt, pAbs, pTuple, pList, pNeg, pSub, pAddI, pPlus_i, pMul_i, pDiv_i, pDiv_j, mulOk_x, mulOk_y, Int.reduceLT, Int.reduceNeg, Nat.reduceLeDiff, pMod_i, pEq_i, pNe_i, pLt_i, pLe_i, pGt_i, pGe_i, pMin2, pMax2, pTup_s, pLst_s, outF, Option.bind_some, Option.bind_none, List.getElem?_cons_succ, List.getElem?_cons_zero, List.length_cons, List.length_nil, List.set_cons_succ, List.set_cons_zero, Nat.reduceAdd, Nat.reduceLT, Nat.reduceSub, Nat.lt_irrefl, if_true, if_false, ite_true, ite_false, reduceIte, ↓reduceIte, Bool.not_true, Bool.not_false, Bool.false_eq_true, decide_true, not_true_eq_false, not_false_eq_true, decide_false, decide_eq_true_eq, Bool.not_eq_true', decide_eq_false_iff_not, Bool.not_eq_eq_eq_not, (by decide : (0:Int) < 5), (by decide : (5:Int).natAbs < 2^63), (by decide : (0:Int) < 1000003)]; rfl, ?_⟩
    omega
  rcases Nat.eq_zero_or_pos ns.length with h0 | h0
  · obtain ⟨r, hr⟩ := rest 0
    refine ⟨r, ?_, hr.2⟩
    refine sq_nx (ρ' := [.val (iL ns), .val (nI k), .val (.int 0), .un, .un, .un]) rfl (sq_nx (if_f ?_ rfl) hr.1)
    simp [eK, eV, eB, e1, e2, aNil, aCons, eCall, eIf, cB, cAnd, cOr, cNot, cYes, cTru, eAnd, eOr, eNot, eNotT, e3c, eSl, eSlL, oNone, oSome, toB, toI, toL, pTru, pIsN, pNotN, isNone, gN, gT, gCons', gNil', sNil, thenF, sRet, sBrk, sCnt, sAsg, sOwn, sAug, sApp, sFz, sPar, mVal, mOwn, mNil, setAllE, ownL, sIf, sSetI, lSeq, lRng1, lRng2, lEnum, wipeE, pLen, pInt, pAbs, pTuple, pList, pNeg, pSub, pAddI, pPlus_i, pMul_i, pDiv_i, pDiv_j, mulOk_x, mulOk_y, Int.reduceLT, Int.reduceNeg, Nat.reduceLeDiff, pMod_i, pEq_i, pNe_i, pLt_i, pLe_i, pGt_i, pGe_i, pMin2, pMax2, pTup_s, pLst_s, outF, Option.bind_some, Option.bind_none, List.getElem?_cons_succ, List.getElem?_cons_zero, List.length_cons, List.length_nil, List.set_cons_succ, List.set_cons_zero, Nat.reduceAdd, Nat.reduceLT, Nat.reduceSub, Nat.lt_irrefl, if_true, if_false, ite_true, ite_false, reduceIte, ↓reduceIte, Bool.not_true, Bool.not_false, Bool.false_eq_true, decide_true, not_true_eq_false, not_false_eq_true, decide_false, decide_eq_true_eq, Bool.not_eq_true', decide_eq_false_iff_not, Bool.not_eq_eq_eq_not, h0]
  · obtain ⟨r, hr⟩ := rest (ns.getD (k % ns.length) 0)
    refine ⟨r, ?_, hr.2⟩
    refine sq_nx (ρ' := [.val (iL ns), .val (nI k), .val (.int 0), .un, .un, .un]) rfl (sq_nx (if_t ?_ (r := some (.nx [.val (iL ns), .val (nI k), .val (.int (ns.getD (k % ns.length) 0)), .un, .un, .un])) ?_) hr.1)
    · simp [eK, eV, eB, e1, e2, aNil, aCons, eCall, eIf, cB, cAnd, cOr, cNot, cYes, cTru, eAnd, eOr, eNot, eNotT, e3c, eSl, eSlL, oNone, oSome, toB, toI, toL, pTru, pIsN, pNotN, isNone, gN, gT, gCons', gNil', sNil, thenF, sRet, sBrk, sCnt, sAsg, sOwn, sAug, sApp, sFz, sPar, mVal, mOwn, mNil, setAllE, ownL, sIf, sSetI, lSeq, lRng1, lRng2, lEnum, wipeE, pLen, pInt, pAbs, pTuple, pList, pNeg, pSub, pAddI, pPlus_i, pMul_i, pDiv_i, pDiv_j, mulOk_x, mulOk_y, Int.reduceLT, Int.reduceNeg, Nat.reduceLeDiff, pMod_i, pEq_i, pNe_i, pLt_i, pLe_i, pGt_i, pGe_i, pMin2, pMax2, pTup_s, pLst_s, outF, Option.bind_some, Option.bind_none, List.getElem?_cons_succ, List.getElem?_cons_zero, List.length_cons, List.length_nil, List.set_cons_succ, List.set_cons_zero, Nat.reduceAdd, Nat.reduceLT, Nat.reduceSub, Nat.lt_irrefl, if_true, if_false, ite_true, ite_false, reduceIte, ↓reduceIte, Bool.not_true, Bool.not_false, Bool.false_eq_true, decide_true, not_true_eq_false, not_false_eq_true, decide_false, decide_eq_true_eq, Bool.not_eq_true', decide_eq_false_iff_not, Bool.not_eq_eq_eq_not, h0]
    · have hm : 0 < (ns.length : Int) := by omega
      have e : ((k : Int) % (ns.length : Int)) = ((k % ns.length : Nat) : Int) := (Int.natCast_emod k ns.length).symm
      have := ix_l (l := ns) (i := ((k % ns.length : Nat) : Int)) (by omega) (by have := Nat.mod_lt k h0; omega)
      rw [Int.toNat_natCast] at this
      simp only [eK, eV, eB, e1, e2, aNil, aCons, eCall, eIf, cB, cAnd, cOr, cNot, cYes, cTru, eAnd, eOr, eNot, eNotT, e3c, eSl, eSlL, oNone, oSome, toB, toI, toL, pTru, pIsN, pNotN, isNone, gN, gT, gCons', gNil', sNil, thenF, sRet, sBrk, sCnt, sAsg, sOwn, sAug, sApp, sFz, sPar, mVal, mOwn, mNil, setAllE, ownL, sIf, sSetI, lSeq, lRng1, lRng2, lEnum, wipeE, pLen, pInt, pAbs, pTuple, pList, pNeg, pSub, pAddI, pPlus_i, pMul_i, pDiv_i, pDiv_j, mulOk_x, mulOk_y, Int.reduceLT, Int.reduceNeg, Nat.reduceLeDiff, pMod_i, pEq_i, pNe_i, pLt_i, pLe_i, pGt_i, pGe_i, pMin2, pMax2, pTup_s, pLst_s, outF, Option.bind_some, Option.bind_none, List.getElem?_cons_succ, List.getElem?_cons_zero, List.length_cons, List.length_nil, List.set_cons_succ, List.set_cons_zero, Nat.reduceAdd, Nat.reduceLT, Nat.reduceSub, Nat.lt_irrefl, if_true, if_false, ite_true, ite_false, reduceIte, ↓reduceIte, Bool.not_true, Bool.not_false, Bool.false_eq_true, decide_true, not_true_eq_false, not_false_eq_true, decide_false, decide_eq_true_eq, Bool.not_eq_true', decide_eq_false_iff_not, Bool.not_eq_eq_eq_not, List.length_map, hm, e, this]
abbrev b_row (fn__law_mixed : List PV → Option PV) : PSt := (sSeq (sAsg (eK (.int 0)) (gN 2)) (sSeq (sIf (cAnd (cB (e2 pGt (e1 pLen (eB 0)) (eK (.int 0)))) (cB (e2 pGe (e2 pIx (eB 0) (eK (.int 0))) (e2 pPow (eK (.int 10)) (eK (.int 18)))))) (sAsg (e2 pIx (eB 0) (eK (.int 0))) (gN 2)) sNil) (sSeq (sOwn 3 (eCall pLst aNil)) (sSeq (sFor (lRng1 (eB 1)) (gN 4) (sIf (cB (e2 pGt (eB 2) (eK (.int 0)))) (sSeq (sApp 3 (e2 pMod (e1 pInt (eB 2)) (eK (.int 1000)))) (sAsg (e2 pDiv (eB 2) (eK (.int 1000))) (gN 2))) (sApp 3 (eCall fn__law_mixed (aCons (eV 0) (aCons (eV 4) aNil)))))) (sSeq (sFz 3) (sSeq (sRet (eV 3)) sNil))))))
def f_row : List PV → Option PV := fnDef 5 (b_row f_mixed)
/-- all below the row's bound -/
def Rw (r : List Int) : Prop := ∀ x ∈ r, 0 ≤ x ∧ x < 1000003
def RwI (ns : List Int) (m : Nat) (k : Nat) (ρ : PEnv) : Prop := ∃ (big : Int) (r : List Int) (s : Slot), ρ = [.val (iL ns), .val (nI m), .val (.int big), .own (iL r), s] ∧ r.length = k ∧ Rw r
theorem row_rest (ns : List Int) (m : Nat) (hm : m ≤ 1000) (big : Int) : ∃ r : List Int, (sSeq (sOwn 3 (eCall pLst aNil)) (sSeq (sFor (lRng1 (eB 1)) (gN 4) (sIf (cB (e2 pGt (eB 2) (eK (.int 0)))) (sSeq (sApp 3 (e2 pMod (e1 pInt (eB 2)) (eK (.int 1000)))) (sAsg (e2 pDiv (eB 2) (eK (.int 1000))) (gN 2))) (sApp 3 (eCall f_mixed (aCons (eV 0) (aCons (eV 4) aNil)))))) (sSeq (sFz 3) (sSeq (sRet (eV 3)) sNil)))) [.val (iL ns), .val (nI m), .val (.int big), .un, .un] = some (.ret (iL r)) ∧ r.length = m ∧ Rw r := by
  have lp2 : ∀ (l : List Nat) (k : Nat) (ρ : PEnv), RwI ns m k ρ → k + l.length ≤ m → ∃ ρ', loopF (gN 4) (sIf (cB (e2 pGt (eB 2) (eK (.int 0)))) (sSeq (sApp 3 (e2 pMod (e1 pInt (eB 2)) (eK (.int 1000)))) (sAsg (e2 pDiv (eB 2) (eK (.int 1000))) (gN 2))) (sApp 3 (eCall f_mixed (aCons (eV 0) (aCons (eV 4) aNil))))) (l.map nI) ρ = some (.nx ρ') ∧ RwI ns m (k + l.length) ρ' := by
    intro l
    induction l with
    | nil => exact fun k ρ h _ => ⟨ρ, rfl, h⟩
    | cons a l ih =>
      rintro k ρ ⟨big, r, s, rfl, hr, hw⟩ hk
      rw [List.length_cons] at hk
      have hl : (r.length < sizeLine) = True := eq_true (by rw [szl]; omega)
      have st : ∃ ρ2, (sIf (cB (e2 pGt (eB 2) (eK (.int 0)))) (sSeq (sApp 3 (e2 pMod (e1 pInt (eB 2)) (eK (.int 1000)))) (sAsg (e2 pDiv (eB 2) (eK (.int 1000))) (gN 2))) (sApp 3 (eCall f_mixed (aCons (eV 0) (aCons (eV 4) aNil))))) [.val (iL ns), .val (nI m), .val (.int big), .own (iL r), .val (nI a)] = some (.nx ρ2) ∧ RwI ns m (k + 1) ρ2 := by
        by_cases hb : 0 < big
        · refine ⟨[.val (iL ns), .val (nI m), .val (.int (big / 1000)), .own (iL (r ++ [big % 1000])), .val (nI a)], ?_, _, _, _, rfl, ?_, ?_⟩
          · refine if_t (by simp only [eK, eV, eB, e1, e2, aNil, aCons, eCall, eIf, cB, cAnd, cOr, cNot, cYes, cTru, eAnd, eOr, eNot, eNotT, e3c, eSl, eSlL, oNone, oSome, toB, toI, toL, pTru, pIsN, pNotN, isNone, gN, gT, gCons', gNil', sNil, thenF, sRet, sBrk, sCnt, sAsg, sOwn, sAug, sApp, sFz, sPar, mVal, mOwn, mNil, setAllE, ownL, sIf, sSetI, lSeq, lRng1, lRng2, lEnum, wipeE, pLen, pInt, pAbs, pTuple, pList, pNeg, pSub, pAddI, pPlus_i, pMul_i, pDiv_i, pDiv_j, mulOk_x, mulOk_y, Int.reduceLT, Int.reduceNeg, Nat.reduceLeDiff, pMod_i, pEq_i, pNe_i, pLt_i, pLe_i, pGt_i, pGe_i, pMin2, pMax2, pTup_s, pLst_s, outF, Option.bind_some, Option.bind_none, List.getElem?_cons_succ, List.getElem?_cons_zero, List.length_cons, List.length_nil, List.set_cons_succ, List.set_cons_zero, Nat.reduceAdd, Nat.reduceLT, Nat.reduceSub, Nat.lt_irrefl, if_true, if_false, ite_true, ite_false, reduceIte, ↓reduceIte, Bool.not_true, Bool.not_false, Bool.false_eq_true, decide_true, not_true_eq_false, not_false_eq_true, decide_false, decide_eq_true_eq, Bool.not_eq_true', decide_eq_false_iff_not, Bool.not_eq_eq_eq_not, hb]) (sq_nx (ρ' := [.val (iL ns), .val (nI m), .val (.int big), .own (iL (r ++ [big % 1000])), .val (nI a)]) ?_ ?_)
            · simp only [eK, eV, eB, e1, e2, aNil, aCons, eCall, eIf, cB, cAnd, cOr, cNot, cYes, cTru, eAnd, eOr, eNot, eNotT, e3c, eSl, eSlL, oNone, oSome, toB, toI, toL, pTru, pIsN, pNotN, isNone, gN, gT, gCons', gNil', sNil, thenF, sRet, sBrk, sCnt, sAsg, sOwn, sAug, sApp, sFz, sPar, mVal, mOwn, mNil, setAllE, ownL, sIf, sSetI, lSeq, lRng1, lRng2, lEnum, wipeE, pLen, pInt, pAbs, pTuple, pList, pNeg, pSub, pAddI, pPlus_i, pMul_i, pDiv_i, pDiv_j, mulOk_x, mulOk_y, Int.reduceLT, Int.reduceNeg, Nat.reduceLeDiff, pMod_i, pEq_i, pNe_i, pLt_i, pLe_i, pGt_i, pGe_i, pMin2, pMax2, pTup_s, pLst_s, outF, Option.bind_some, Option.bind_none, List.getElem?_cons_succ, List.getElem?_cons_zero, List.length_cons, List.length_nil, List.set_cons_succ, List.set_cons_zero, Nat.reduceAdd, Nat.reduceLT, Nat.reduceSub, Nat.lt_irrefl, if_true, if_false, ite_true, ite_false, reduceIte, ↓reduceIte, Bool.not_true, Bool.not_false, Bool.false_eq_true, decide_true, not_true_eq_false, not_false_eq_true, decide_false, decide_eq_true_eq, Bool.not_eq_true', decide_eq_false_iff_not, Bool.not_eq_eq_eq_not, (by decide : (0:Int) < 1000), iL, List.length_map, hl, List.map_append, List.map_cons, List.map_nil]
            · simp only [eK, eV, eB, e1, e2, aNil, aCons, eCall, eIf, cB, cAnd, cOr, cNot, cYes, cTru, eAnd, eOr, eNot, eNotT, e3c, eSl, eSlL, oNone, oSome, toB, toI, toL, pTru, pIsN, pNotN, isNone, gN, gT, gCons', gNil', sNil, thenF, sRet, sBrk, sCnt, sAsg, sOwn, sAug, sApp, sFz, sPar, mVal, mOwn, mNil, setAllE, ownL, sIf, sSetI, lSeq, lRng1, lRng2, lEnum, wipeE, pLen, pInt, pAbs, pTuple, pList, pNeg, pSub, pAddI, pPlus_i, pMul_i, pDiv_i, pDiv_j, mulOk_x, mulOk_y, Int.reduceLT, Int.reduceNeg, Nat.reduceLeDiff, pMod_i, pEq_i, pNe_i, pLt_i, pLe_i, pGt_i, pGe_i, pMin2, pMax2, pTup_s, pLst_s, outF, Option.bind_some, Option.bind_none, List.getElem?_cons_succ, List.getElem?_cons_zero, List.length_cons, List.length_nil, List.set_cons_succ, List.set_cons_zero, Nat.reduceAdd, Nat.reduceLT, Nat.reduceSub, Nat.lt_irrefl, if_true, if_false, ite_true, ite_false, reduceIte, ↓reduceIte, Bool.not_true, Bool.not_false, Bool.false_eq_true, decide_true, not_true_eq_false, not_false_eq_true, decide_false, decide_eq_true_eq, Bool.not_eq_true', decide_eq_false_iff_not, Bool.not_eq_eq_eq_not, (by decide : (0:Int) < 1000), (by decide : (1000:Int).natAbs < 2^63)]
          · rw [List.length_append, hr]; rfl
          · intro x hx
            rcases List.mem_append.1 hx with hx | hx
            · exact hw x hx
            · rw [List.mem_singleton] at hx
              omega
        · obtain ⟨v, hv, hv1, hv2⟩ := mixed_is ns a
          refine ⟨[.val (iL ns), .val (nI m), .val (.int big), .own (iL (r ++ [v])), .val (nI a)], ?_, _, _, _, rfl, ?_, ?_⟩
          · refine if_f (by simp only [eK, eV, eB, e1, e2, aNil, aCons, eCall, eIf, cB, cAnd, cOr, cNot, cYes, cTru, eAnd, eOr, eNot, eNotT, e3c, eSl, eSlL, oNone, oSome, toB, toI, toL, pTru, pIsN, pNotN, isNone, gN, gT, gCons', gNil', sNil, thenF, sRet, sBrk, sCnt, sAsg, sOwn, sAug, sApp, sFz, sPar, mVal, mOwn, mNil, setAllE, ownL, sIf, sSetI, lSeq, lRng1, lRng2, lEnum, wipeE, pLen, pInt, pAbs, pTuple, pList, pNeg, pSub, pAddI, pPlus_i, pMul_i, pDiv_i, pDiv_j, mulOk_x, mulOk_y, Int.reduceLT, Int.reduceNeg, Nat.reduceLeDiff, pMod_i, pEq_i, pNe_i, pLt_i, pLe_i, pGt_i, pGe_i, pMin2, pMax2, pTup_s, pLst_s, outF, Option.bind_some, Option.bind_none, List.getElem?_cons_succ, List.getElem?_cons_zero, List.length_cons, List.length_nil, List.set_cons_succ, List.set_cons_zero, Nat.reduceAdd, Nat.reduceLT, Nat.reduceSub, Nat.lt_irrefl, if_true, if_false, ite_true, ite_false, reduceIte, ↓reduceIte, Bool.not_true, Bool.not_false, Bool.false_eq_true, decide_true, not_true_eq_false, not_false_eq_true, decide_false, decide_eq_true_eq, Bool.not_eq_true', decide_eq_false_iff_not, Bool.not_eq_eq_eq_not, hb]) ?_
            simp only [eK, eV, eB, e1, e2, aNil, aCons, eCall, eIf, cB, cAnd, cOr, cNot, cYes, cTru, eAnd, eOr, eNot, eNotT, e3c, eSl, eSlL, oNone, oSome, toB, toI, toL, pTru, pIsN, pNotN, isNone, gN, gT, gCons', gNil', sNil, thenF, sRet, sBrk, sCnt, sAsg, sOwn, sAug, sApp, sFz, sPar, mVal, mOwn, mNil, setAllE, ownL, sIf, sSetI, lSeq, lRng1, lRng2, lEnum, wipeE, pLen, pInt, pAbs, pTuple, pList, pNeg, pSub, pAddI, pPlus_i, pMul_i, pDiv_i, pDiv_j, mulOk_x, mulOk_y, Int.reduceLT, Int.reduceNeg, Nat.reduceLeDiff, pMod_i, pEq_i, pNe_i, pLt_i, pLe_i, pGt_i, pGe_i, pMin2, pMax2, pTup_s, pLst_s, outF, Option.bind_some, Option.bind_none, List.getElem?_cons_succ, List.getElem?_cons_zero, List.length_cons, List.length_nil, List.set_cons_succ, List.set_cons_zero, Nat.reduceAdd, Nat.reduceLT, Nat.reduceSub, Nat.lt_irrefl, if_true, if_false, ite_true, ite_false, reduceIte, ↓reduceIte, Bool.not_true, Bool.not_false, Bool.false_eq_true, decide_true, not_true_eq_false, not_false_eq_true, decide_false, decide_eq_true_eq, Bool.not_eq_true', decide_eq_false_iff_not, Bool.not_eq_eq_eq_not, hv, iL, List.length_map, hl, List.map_append, List.map_cons, List.map_nil]
          · rw [List.length_append, hr]; rfl
          · intro x hx
            rcases List.mem_append.1 hx with hx | hx
            · exact hw x hx
            · rw [List.mem_singleton] at hx
              omega
      obtain ⟨ρ2, e2, i2⟩ := st
      obtain ⟨ρ', e', i'⟩ := ih (k + 1) ρ2 i2 (by omega)
      refine ⟨ρ', ?_, by rw [List.length_cons, show k + (l.length + 1) = k + 1 + l.length by omega]; exact i'⟩
      rw [List.map_cons, loopF]
      show (Option.bind (some [Slot.val (iL ns), .val (nI m), .val (.int big), .own (iL r), .val (nI a)]) _) = _
      rw [Option.bind_some, e2, Option.bind_some]
      exact e'
  obtain ⟨ρ', e', ⟨big', r, s, rfl, hr, hw⟩⟩ := lp2 (List.range m) 0 [.val (iL ns), .val (nI m), .val (.int big), .own (iL []), .un] ⟨big, [], .un, rfl, rfl, fun x hx => by cases hx⟩ (by rw [List.length_range]; omega)
  rw [List.length_range, Nat.zero_add] at hr
  refine ⟨r, ?_, hr, hw⟩
  refine sq_nx (ρ' := [.val (iL ns), .val (nI m), .val (.int big), .own (iL []), .un]) (by simp only [eK, eV, eB, e1, e2, aNil, aCons, eCall, eIf, cB, cAnd, cOr, cNot, cYes, cTru, eAnd, eOr, eNot, eNotT, e3c, eSl, eSlL, oNone, oSome, toB, toI, toL, pTru, pIsN, pNotN, isNone, gN, gT, gCons', gNil', sNil, thenF, sRet, sBrk, sCnt, sAsg, sOwn, sAug, sApp, sFz, sPar, mVal, mOwn, mNil, setAllE, ownL, sIf, sSetI, lSeq, lRng1, lRng2, lEnum, wipeE, pLen, pInt, pAbs, pTuple, pList, pNeg, pSub, pAddI, pPlus_i, pMul_i, pDiv_i, pDiv_j, mulOk_x, mulOk_y, Int.reduceLT, Int.reduceNeg, Nat.reduceLeDiff, pMod_i, pEq_i, pNe_i, pLt_i, pLe_i, pGt_i, pGe_i, pMin2, pMax2, pTup_s, pLst_s, outF, Option.bind_some, Option.bind_none, List.getElem?_cons_succ, List.getElem?_cons_zero, List.length_cons, List.length_nil, List.set_cons_succ, List.set_cons_zero, Nat.reduceAdd, Nat.reduceLT, Nat.reduceSub, Nat.lt_irrefl, if_true, if_false, ite_true, ite_false, reduceIte, ↓reduceIte, Bool.not_true, Bool.not_false, Bool.false_eq_true, decide_true, not_true_eq_false, not_false_eq_true, decide_false, decide_eq_true_eq, Bool.not_eq_true', decide_eq_false_iff_not, Bool.not_eq_eq_eq_not, (by decide : (0 ≤ 16777216) = True), List.map_nil] <;> rfl) (sq_nx ?_ rfl (ρ' := [.val (iL ns), .val (nI m), .val (.int big'), .own (iL r), s]))
  unfold sFor
  rw [rg_1 (n := m) rfl (by omega) (by omega), Option.bind_some, Int.toNat_natCast]
  exact e'
theorem row_is (ns : List Int) (m : Nat) (hm : m ≤ 1000) : ∃ r : List Int, f_row [iL ns, nI m] = some (iL r) ∧ r.length = m ∧ Rw r := by
  suffices h : ∃ r : List Int, b_row f_mixed (startE 5 [iL ns, nI m]) = some (.ret (iL r)) ∧ r.length = m ∧ Rw r by
    obtain ⟨r, h1, h2⟩ := h
    exact ⟨r, fn_rt h1, h2⟩
  have st : ∃ big : Int, ∀ t, (sSeq (sIf (cAnd (cB (e2 pGt (e1 pLen (eB 0)) (eK (.int 0)))) (cB (e2 pGe (e2 pIx (eB 0) (eK (.int 0))) (e2 pPow (eK (.int 10)) (eK (.int 18)))))) (sAsg (e2 pIx (eB 0) (eK (.int 0))) (gN 2)) sNil) t) [.val (iL ns), .val (nI m), .val (.int 0), .un, .un] = t [.val (iL ns), .val (nI m), .val (.int big), .un, .un] := by
    cases ns with
    | nil => exact ⟨0, fun t => sq_nx (if_f rfl rfl) rfl⟩
    | cons n ns =>
      have p : pPow (.int 10) (.int 18) = some (.int 1000000000000000000)  := by simp [pPow]
      have hx : pIx (iL (n :: ns)) (.int 0) = some (.int n) := ix_l (l := n :: ns) (i := 0) (by decide) (by rw [List.length_cons]; omega)
      by_cases hn : (1000000000000000000 : Int) ≤ n
      · refine ⟨n, fun t => sq_nx (if_t ?_ (r := some (.nx [.val (iL (n :: ns)), .val (nI m), .val (.int n), .un, .un])) ?_) rfl⟩
        · simp only [eK, eV, eB, e1, e2, aNil, aCons, eCall, eIf, cB, cAnd, cOr, cNot, cYes, cTru, eAnd, eOr, eNot, eNotT, e3c, eSl, eSlL, oNone, oSome, toB, toI, toL, pTru, pIsN, pNotN, isNone, gN, gT, gCons', gNil', sNil, thenF, sRet, sBrk, sCnt, sAsg, sOwn, sAug, sApp, sFz, sPar, mVal, mOwn, mNil, setAllE, ownL, sIf, sSetI, lSeq, lRng1, lRng2, lEnum, wipeE, pLen, pInt, pAbs, pTuple, pList, pNeg, pSub, pAddI, pPlus_i, pMul_i, pDiv_i, pDiv_j, mulOk_x, mulOk_y, Int.reduceLT, Int.reduceNeg, Nat.reduceLeDiff, pMod_i, pEq_i, pNe_i, pLt_i, pLe_i, pGt_i, pGe_i, pMin2, pMax2, pTup_s, pLst_s, outF, Option.bind_some, Option.bind_none, List.getElem?_cons_succ, List.getElem?_cons_zero, List.length_cons, List.length_nil, List.set_cons_succ, List.set_cons_zero, Nat.reduceAdd, Nat.reduceLT, Nat.reduceSub, Nat.lt_irrefl, if_true, if_false, ite_true, ite_false, reduceIte, ↓reduceIte, Bool.not_true, Bool.not_false, Bool.false_eq_true, decide_true, not_true_eq_false, not_false_eq_true, decide_false, decide_eq_true_eq, Bool.not_eq_true', decide_eq_false_iff_not, Bool.not_eq_eq_eq_not, hx, p, hn, List.length_map]
          simp <;> omega
        · simp only [eK, eV, eB, e1, e2, aNil, aCons, eCall, eIf, cB, cAnd, cOr, cNot, cYes, cTru, eAnd, eOr, eNot, eNotT, e3c, eSl, eSlL, oNone, oSome, toB, toI, toL, pTru, pIsN, pNotN, isNone, gN, gT, gCons', gNil', sNil, thenF, sRet, sBrk, sCnt, sAsg, sOwn, sAug, sApp, sFz, sPar, mVal, mOwn, mNil, setAllE, ownL, sIf, sSetI, lSeq, lRng1, lRng2, lEnum, wipeE, pLen, pInt, pAbs, pTuple, pList, pNeg, pSub, pAddI, pPlus_i, pMul_i, pDiv_i, pDiv_j, mulOk_x, mulOk_y, Int.reduceLT, Int.reduceNeg, Nat.reduceLeDiff, pMod_i, pEq_i, pNe_i, pLt_i, pLe_i, pGt_i, pGe_i, pMin2, pMax2, pTup_s, pLst_s, outF, Option.bind_some, Option.bind_none, List.getElem?_cons_succ, List.getElem?_cons_zero, List.length_cons, List.length_nil, List.set_cons_succ, List.set_cons_zero, Nat.reduceAdd, Nat.reduceLT, Nat.reduceSub, Nat.lt_irrefl, if_true, if_false, ite_true, ite_false, reduceIte, ↓reduceIte, Bool.not_true, Bool.not_false, Bool.false_eq_true, decide_true, not_true_eq_false, not_false_eq_true, decide_false, decide_eq_true_eq, Bool.not_eq_true', decide_eq_false_iff_not, Bool.not_eq_eq_eq_not, hx]
      · refine ⟨0, fun t => sq_nx (if_f ?_ rfl) rfl⟩
        simp only [eK, eV, eB, e1, e2, aNil, aCons, eCall, eIf, cB, cAnd, cOr, cNot, cYes, cTru, eAnd, eOr, eNot, eNotT, e3c, eSl, eSlL, oNone, oSome, toB, toI, toL, pTru, pIsN, pNotN, isNone, gN, gT, gCons', gNil', sNil, thenF, sRet, sBrk, sCnt, sAsg, sOwn, sAug, sApp, sFz, sPar, mVal, mOwn, mNil, setAllE, ownL, sIf, sSetI, lSeq, lRng1, lRng2, lEnum, wipeE, pLen, pInt, pAbs, pTuple, pList, pNeg, pSub, pAddI, pPlus_i, pMul_i, pDiv_i, pDiv_j, mulOk_x, mulOk_y, Int.reduceLT, Int.reduceNeg, Nat.reduceLeDiff, pMod_i, pEq_i, pNe_i, pLt_i, pLe_i, pGt_i, pGe_i, pMin2, pMax2, pTup_s, pLst_s, outF, Option.bind_some, Option.bind_none, List.getElem?_cons_succ, List.getElem?_cons_zero, List.length_cons, List.length_nil, List.set_cons_succ, List.set_cons_zero, Nat.reduceAdd, Nat.reduceLT, Nat.reduceSub, Nat.lt_irrefl, if_true, if_false, ite_true, ite_false, reduceIte, ↓reduceIte, Bool.not_true, Bool.not_false, Bool.false_eq_true, decide_true, not_true_eq_false, not_false_eq_true, decide_false, decide_eq_true_eq, Bool.not_eq_true', decide_eq_false_iff_not, Bool.not_eq_eq_eq_not, hx, p, hn, List.length_map]
        simp <;> omega
  obtain ⟨big, hb⟩ := st
  obtain ⟨r, h1, h2⟩ := row_rest ns m hm big
  exact ⟨r, sq_nx (ρ' := [.val (iL ns), .val (nI m), .val (.int 0), .un, .un]) rfl ((hb _).trans h1), h2⟩
/-! ### _law_like -/
abbrev b_isint : PSt := (sRet (eAnd (e1 (pIsi "int") (eB 0)) (eNot (e1 (pIsi "bool") (eB 0)))))
def f_isint : List PV → Option PV := fnDef 1 b_isint
abbrev b_like (fn__law_like : List PV → Option PV) (fn__law_is_int : List PV → Option PV) : PSt := (sSeq (sIf (cB (e1 pIsN (eB 1))) (sRet (e1 pIsN (eB 0))) sNil) (sSeq (sIf (cTru (e1 (pIsi "bool") (eB 1))) (sRet (eAnd (e1 (pIsi "bool") (eB 0)) (e2 pEq (eB 0) (eB 1)))) sNil) (sSeq (sIf (cTru (e1 (pIsi "tuple") (eB 1))) (sSeq (sIf (cOr (cNot (cTru (e1 (pIsi "tuple") (eB 0)))) (cB (e2 pNe (e1 pLen (eB 0)) (e1 pLen (eB 1))))) (sRet (eK (.bool false))) sNil) (sRet (e1 pAll (eComp (lRng1 (e1 pLen (eB 1))) [2] (gN 2) cYes (eCall fn__law_like (aCons (e2 pIx (eB 0) (eB 2)) (aCons (e2 pIx (eB 1) (eB 2)) aNil))))))) sNil) (sSeq (sIf (cTru (e1 (pIsi "str") (eB 1))) (sRet (eAnd (e1 (pIsi "str") (eB 0)) (e2 pEq (eB 0) (eB 1)))) sNil) (sRet (eAnd (eCall fn__law_is_int (aCons (eV 0) aNil)) (e2 pEq (eB 0) (eB 1))))))))
def g_like : Nat → List PV → Option PV
  | 0 => fun _ => none
  | d + 1 => fnDef 3 (b_like (g_like d) f_isint)
/-- a due value at depth d -/
inductive Lk : Nat → PV → Prop
  | non {d} : Lk (d + 1) .none
  | bl {d} (b : Bool) : Lk (d + 1) (.bool b)
  | int {d} (i : Int) : Lk (d + 1) (.int i)
  | str {d} (s : Str) (h : PyData.strOk s = true) : Lk (d + 1) (.str s)
  | tup {d} (l : List PV) (h : ∀ v ∈ l, Lk d v) (hl : l.length ≤ 16777216) : Lk (d + 1) (.tuple l)
theorem is_none_ (T : String) : pIsi T .none = (kitB "NoneType" T).bind fun b => some (.bool b) := rfl
theorem is_bool_ (T : String) (b : Bool) : pIsi T (.bool b) = (kitB "bool" T).bind fun b => some (.bool b) := rfl
theorem is_int_ (T : String) (b : Int) : pIsi T (.int b) = (kitB "int" T).bind fun b => some (.bool b) := rfl
theorem is_str_ (T : String) (b : Str) : pIsi T (.str b) = (kitB "str" T).bind fun b => some (.bool b) := rfl
theorem is_tup_ (T : String) (b : List PV) : pIsi T (.tuple b) = (kitB "tuple" T).bind fun b => some (.bool b) := rfl
theorem is_lst_ (T : String) (b : List PV) : pIsi T (.list b) = (kitB "list" T).bind fun b => some (.bool b) := rfl
theorem k_bb : kitB "bool" "bool" = some true := by decide +kernel
theorem k_bi : kitB "bool" "int" = some true := by decide +kernel
theorem k_bt : kitB "bool" "tuple" = some false := by decide +kernel
theorem k_bs : kitB "bool" "str" = some false := by decide +kernel
theorem k_ib : kitB "int" "bool" = some false := by decide +kernel
theorem k_ii : kitB "int" "int" = some true := by decide +kernel
theorem k_it : kitB "int" "tuple" = some false := by decide +kernel
theorem k_is : kitB "int" "str" = some false := by decide +kernel
theorem k_tb : kitB "tuple" "bool" = some false := by decide +kernel
theorem k_ti : kitB "tuple" "int" = some false := by decide +kernel
theorem k_tt : kitB "tuple" "tuple" = some true := by decide +kernel
theorem k_ts : kitB "tuple" "str" = some false := by decide +kernel
theorem k_sb : kitB "str" "bool" = some false := by decide +kernel
theorem k_si : kitB "str" "int" = some false := by decide +kernel
theorem k_st : kitB "str" "tuple" = some false := by decide +kernel
theorem k_ss : kitB "str" "str" = some true := by decide +kernel
theorem like_refl : ∀ (d : Nat) (v : PV), Lk d v → g_like d [v, v] = some (.bool true) := by
  intro d
  induction d with
  | zero => intro v h; cases h
  | succ d ih =>
    intro v h
    refine fn_rt ?_
    cases h with
    | non => exact sq_rt (if_t rfl rfl)
    | bl b =>
      refine sq_nx (if_f rfl rfl) (sq_rt (if_t ?_ ?_))
      · show (Option.bind (Option.bind (kitB "bool" "bool") fun b => some (.bool b)) pTru) = some true
        rw [k_bb]; rfl
      · simp only [eK, eV, eB, e1, e2, aNil, aCons, eCall, eIf, cB, cAnd, cOr, cNot, cYes, cTru, eAnd, eOr, eNot, eNotT, e3c, eSl, eSlL, oNone, oSome, toB, toI, toL, pTru, pIsN, pNotN, isNone, gN, gT, gCons', gNil', sNil, thenF, sRet, sBrk, sCnt, sAsg, sOwn, sAug, sApp, sFz, sPar, mVal, mOwn, mNil, setAllE, ownL, sIf, sSetI, lSeq, lRng1, lRng2, lEnum, wipeE, pLen, pInt, pAbs, pTuple, pList, pNeg, pSub, pAddI, pPlus_i, pMul_i, pDiv_i, pDiv_j, mulOk_x, mulOk_y, Int.reduceLT, Int.reduceNeg, Nat.reduceLeDiff, pMod_i, pEq_i, pNe_i, pLt_i, pLe_i, pGt_i, pGe_i, pMin2, pMax2, pTup_s, pLst_s, outF, Option.bind_some, Option.bind_none, List.getElem?_cons_succ, List.getElem?_cons_zero, List.length_cons, List.length_nil, List.set_cons_succ, List.set_cons_zero, Nat.reduceAdd, Nat.reduceLT, Nat.reduceSub, Nat.lt_irrefl, if_true, if_false, ite_true, ite_false, reduceIte, ↓reduceIte, Bool.not_true, Bool.not_false, Bool.false_eq_true, decide_true, not_true_eq_false, not_false_eq_true, decide_false, decide_eq_true_eq, Bool.not_eq_true', decide_eq_false_iff_not, Bool.not_eq_eq_eq_not, startE, List.map_cons, List.map_nil, List.cons_append, is_bool_, k_bb]
        rw [pEq_bool, Option.bind_some, decide_eq_true rfl]
    | int i =>
      refine sq_nx (if_f rfl rfl) (sq_nx (if_f ?_ rfl) (sq_nx (if_f ?_ rfl) (sq_nx (if_f ?_ rfl) ?_)))
      · simp only [eK, eV, eB, e1, e2, aNil, aCons, eCall, eIf, cB, cAnd, cOr, cNot, cYes, cTru, eAnd, eOr, eNot, eNotT, e3c, eSl, eSlL, oNone, oSome, toB, toI, toL, pTru, pIsN, pNotN, isNone, gN, gT, gCons', gNil', sNil, thenF, sRet, sBrk, sCnt, sAsg, sOwn, sAug, sApp, sFz, sPar, mVal, mOwn, mNil, setAllE, ownL, sIf, sSetI, lSeq, lRng1, lRng2, lEnum, wipeE, pLen, pInt, pAbs, pTuple, pList, pNeg, pSub, pAddI, pPlus_i, pMul_i, pDiv_i, pDiv_j, mulOk_x, mulOk_y, Int.reduceLT, Int.reduceNeg, Nat.reduceLeDiff, pMod_i, pEq_i, pNe_i, pLt_i, pLe_i, pGt_i, pGe_i, pMin2, pMax2, pTup_s, pLst_s, outF, Option.bind_some, Option.bind_none, List.getElem?_cons_succ, List.getElem?_cons_zero, List.length_cons, List.length_nil, List.set_cons_succ, List.set_cons_zero, Nat.reduceAdd, Nat.reduceLT, Nat.reduceSub, Nat.lt_irrefl, if_true, if_false, ite_true, ite_false, reduceIte, ↓reduceIte, Bool.not_true, Bool.not_false, Bool.false_eq_true, decide_true, not_true_eq_false, not_false_eq_true, decide_false, decide_eq_true_eq, Bool.not_eq_true', decide_eq_false_iff_not, Bool.not_eq_eq_eq_not, startE, List.map_cons, List.map_nil, List.cons_append, is_int_, k_ib]
      · simp only [eK, eV, eB, e1, e2, aNil, aCons, eCall, eIf, cB, cAnd, cOr, cNot, cYes, cTru, eAnd, eOr, eNot, eNotT, e3c, eSl, eSlL, oNone, oSome, toB, toI, toL, pTru, pIsN, pNotN, isNone, gN, gT, gCons', gNil', sNil, thenF, sRet, sBrk, sCnt, sAsg, sOwn, sAug, sApp, sFz, sPar, mVal, mOwn, mNil, setAllE, ownL, sIf, sSetI, lSeq, lRng1, lRng2, lEnum, wipeE, pLen, pInt, pAbs, pTuple, pList, pNeg, pSub, pAddI, pPlus_i, pMul_i, pDiv_i, pDiv_j, mulOk_x, mulOk_y, Int.reduceLT, Int.reduceNeg, Nat.reduceLeDiff, pMod_i, pEq_i, pNe_i, pLt_i, pLe_i, pGt_i, pGe_i, pMin2, pMax2, pTup_s, pLst_s, outF, Option.bind_some, Option.bind_none, List.getElem?_cons_succ, List.getElem?_cons_zero, List.length_cons, List.length_nil, List.set_cons_succ, List.set_cons_zero, Nat.reduceAdd, Nat.reduceLT, Nat.reduceSub, Nat.lt_irrefl, if_true, if_false, ite_true, ite_false, reduceIte, ↓reduceIte, Bool.not_true, Bool.not_false, Bool.false_eq_true, decide_true, not_true_eq_false, not_false_eq_true, decide_false, decide_eq_true_eq, Bool.not_eq_true', decide_eq_false_iff_not, Bool.not_eq_eq_eq_not, startE, List.map_cons, List.map_nil, List.cons_append, is_int_, k_it]
      · simp only [eK, eV, eB, e1, e2, aNil, aCons, eCall, eIf, cB, cAnd, cOr, cNot, cYes, cTru, eAnd, eOr, eNot, eNotT, e3c, eSl, eSlL, oNone, oSome, toB, toI, toL, pTru, pIsN, pNotN, isNone, gN, gT, gCons', gNil', sNil, thenF, sRet, sBrk, sCnt, sAsg, sOwn, sAug, sApp, sFz, sPar, mVal, mOwn, mNil, setAllE, ownL, sIf, sSetI, lSeq, lRng1, lRng2, lEnum, wipeE, pLen, pInt, pAbs, pTuple, pList, pNeg, pSub, pAddI, pPlus_i, pMul_i, pDiv_i, pDiv_j, mulOk_x, mulOk_y, Int.reduceLT, Int.reduceNeg, Nat.reduceLeDiff, pMod_i, pEq_i, pNe_i, pLt_i, pLe_i, pGt_i, pGe_i, pMin2, pMax2, pTup_s, pLst_s, outF, Option.bind_some, Option.bind_none, List.getElem?_cons_succ, List.getElem?_cons_zero, List.length_cons, List.length_nil, List.set_cons_succ, List.set_cons_zero, Nat.reduceAdd, Nat.reduceLT, Nat.reduceSub, Nat.lt_irrefl, if_true, if_false, ite_true, ite_false, reduceIte, ↓reduceIte, Bool.not_true, Bool.not_false, Bool.false_eq_true, decide_true, not_true_eq_false, not_false_eq_true, decide_false, decide_eq_true_eq, Bool.not_eq_true', decide_eq_false_iff_not, Bool.not_eq_eq_eq_not, startE, List.map_cons, List.map_nil, List.cons_append, is_int_, k_is]
      · have q : f_isint [.int i] = some (.bool true) := fn_rt (by simp only [eK, eV, eB, e1, e2, aNil, aCons, eCall, eIf, cB, cAnd, cOr, cNot, cYes, cTru, eAnd, eOr, eNot, eNotT, e3c, eSl, eSlL, oNone, oSome, toB, toI, toL, pTru, pIsN, pNotN, isNone, gN, gT, gCons', gNil', sNil, thenF, sRet, sBrk, sCnt, sAsg, sOwn, sAug, sApp, sFz, sPar, mVal, mOwn, mNil, setAllE, ownL, sIf, sSetI, lSeq, lRng1, lRng2, lEnum, wipeE, pLen, pInt, pAbs, pTuple, pList, pNeg, pSub, pAddI, pPlus_i, pMul_i, pDiv_i, pDiv_j, mulOk_x, mulOk_y, Int.reduceLT, Int.reduceNeg, Nat.reduceLeDiff, pMod_i, pEq_i, pNe_i, pLt_i, pLe_i, pGt_i, pGe_i, pMin2, pMax2, pTup_s, pLst_s, outF, Option.bind_some, Option.bind_none, List.getElem?_cons_succ, List.getElem?_cons_zero, List.length_cons, List.length_nil, List.set_cons_succ, List.set_cons_zero, Nat.reduceAdd, Nat.reduceLT, Nat.reduceSub, Nat.lt_irrefl, if_true, if_false, ite_true, ite_false, reduceIte, ↓reduceIte, Bool.not_true, Bool.not_false, Bool.false_eq_true, decide_true, not_true_eq_false, not_false_eq_true, decide_false, decide_eq_true_eq, Bool.not_eq_true', decide_eq_false_iff_not, Bool.not_eq_eq_eq_not, startE, List.map_cons, List.map_nil, List.cons_append, is_int_, k_ii, k_ib])
        simp only [eK, eV, eB, e1, e2, aNil, aCons, eCall, eIf, cB, cAnd, cOr, cNot, cYes, cTru, eAnd, eOr, eNot, eNotT, e3c, eSl, eSlL, oNone, oSome, toB, toI, toL, pTru, pIsN, pNotN, isNone, gN, gT, gCons', gNil', sNil, thenF, sRet, sBrk, sCnt, sAsg, sOwn, sAug, sApp, sFz, sPar, mVal, mOwn, mNil, setAllE, ownL, sIf, sSetI, lSeq, lRng1, lRng2, lEnum, wipeE, pLen, pInt, pAbs, pTuple, pList, pNeg, pSub, pAddI, pPlus_i, pMul_i, pDiv_i, pDiv_j, mulOk_x, mulOk_y, Int.reduceLT, Int.reduceNeg, Nat.reduceLeDiff, pMod_i, pEq_i, pNe_i, pLt_i, pLe_i, pGt_i, pGe_i, pMin2, pMax2, pTup_s, pLst_s, outF, Option.bind_some, Option.bind_none, List.getElem?_cons_succ, List.getElem?_cons_zero, List.length_cons, List.length_nil, List.set_cons_succ, List.set_cons_zero, Nat.reduceAdd, Nat.reduceLT, Nat.reduceSub, Nat.lt_irrefl, if_true, if_false, ite_true, ite_false, reduceIte, ↓reduceIte, Bool.not_true, Bool.not_false, Bool.false_eq_true, decide_true, not_true_eq_false, not_false_eq_true, decide_false, decide_eq_true_eq, Bool.not_eq_true', decide_eq_false_iff_not, Bool.not_eq_eq_eq_not, startE, List.map_cons, List.map_nil, List.cons_append, q]
    | str s hs =>
      refine sq_nx (if_f rfl rfl) (sq_nx (if_f ?_ rfl) (sq_nx (if_f ?_ rfl) (sq_rt (if_t ?_ ?_))))
      · simp only [eK, eV, eB, e1, e2, aNil, aCons, eCall, eIf, cB, cAnd, cOr, cNot, cYes, cTru, eAnd, eOr, eNot, eNotT, e3c, eSl, eSlL, oNone, oSome, toB, toI, toL, pTru, pIsN, pNotN, isNone, gN, gT, gCons', gNil', sNil, thenF, sRet, sBrk, sCnt, sAsg, sOwn, sAug, sApp, sFz, sPar, mVal, mOwn, mNil, setAllE, ownL, sIf, sSetI, lSeq, lRng1, lRng2, lEnum, wipeE, pLen, pInt, pAbs, pTuple, pList, pNeg, pSub, pAddI, pPlus_i, pMul_i, pDiv_i, pDiv_j, mulOk_x, mulOk_y, Int.reduceLT, Int.reduceNeg, Nat.reduceLeDiff, pMod_i, pEq_i, pNe_i, pLt_i, pLe_i, pGt_i, pGe_i, pMin2, pMax2, pTup_s, pLst_s, outF, Option.bind_some, Option.bind_none, List.getElem?_cons_succ, List.getElem?_cons_zero, List.length_cons, List.length_nil, List.set_cons_succ, List.set_cons_zero, Nat.reduceAdd, Nat.reduceLT, Nat.reduceSub, Nat.lt_irrefl, if_true, if_false, ite_true, ite_false, reduceIte, ↓reduceIte, Bool.not_true, Bool.not_false, Bool.false_eq_true, decide_true, not_true_eq_false, not_false_eq_true, decide_false, decide_eq_true_eq, Bool.not_eq_true', decide_eq_false_iff_not, Bool.not_eq_eq_eq_not, startE, List.map_cons, List.map_nil, List.cons_append, is_str_, k_sb]
      · simp only [eK, eV, eB, e1, e2, aNil, aCons, eCall, eIf, cB, cAnd, cOr, cNot, cYes, cTru, eAnd, eOr, eNot, eNotT, e3c, eSl, eSlL, oNone, oSome, toB, toI, toL, pTru, pIsN, pNotN, isNone, gN, gT, gCons', gNil', sNil, thenF, sRet, sBrk, sCnt, sAsg, sOwn, sAug, sApp, sFz, sPar, mVal, mOwn, mNil, setAllE, ownL, sIf, sSetI, lSeq, lRng1, lRng2, lEnum, wipeE, pLen, pInt, pAbs, pTuple, pList, pNeg, pSub, pAddI, pPlus_i, pMul_i, pDiv_i, pDiv_j, mulOk_x, mulOk_y, Int.reduceLT, Int.reduceNeg, Nat.reduceLeDiff, pMod_i, pEq_i, pNe_i, pLt_i, pLe_i, pGt_i, pGe_i, pMin2, pMax2, pTup_s, pLst_s, outF, Option.bind_some, Option.bind_none, List.getElem?_cons_succ, List.getElem?_cons_zero, List.length_cons, List.length_nil, List.set_cons_succ, List.set_cons_zero, Nat.reduceAdd, Nat.reduceLT, Nat.reduceSub, Nat.lt_irrefl, if_true, if_false, ite_true, ite_false, reduceIte, ↓reduceIte, Bool.not_true, Bool.not_false, Bool.false_eq_true, decide_true, not_true_eq_false, not_false_eq_true, decide_false, decide_eq_true_eq, Bool.not_eq_true', decide_eq_false_iff_not, Bool.not_eq_eq_eq_not, startE, List.map_cons, List.map_nil, List.cons_append, is_str_, k_st]
      · simp only [eK, eV, eB, e1, e2, aNil, aCons, eCall, eIf, cB, cAnd, cOr, cNot, cYes, cTru, eAnd, eOr, eNot, eNotT, e3c, eSl, eSlL, oNone, oSome, toB, toI, toL, pTru, pIsN, pNotN, isNone, gN, gT, gCons', gNil', sNil, thenF, sRet, sBrk, sCnt, sAsg, sOwn, sAug, sApp, sFz, sPar, mVal, mOwn, mNil, setAllE, ownL, sIf, sSetI, lSeq, lRng1, lRng2, lEnum, wipeE, pLen, pInt, pAbs, pTuple, pList, pNeg, pSub, pAddI, pPlus_i, pMul_i, pDiv_i, pDiv_j, mulOk_x, mulOk_y, Int.reduceLT, Int.reduceNeg, Nat.reduceLeDiff, pMod_i, pEq_i, pNe_i, pLt_i, pLe_i, pGt_i, pGe_i, pMin2, pMax2, pTup_s, pLst_s, outF, Option.bind_some, Option.bind_none, List.getElem?_cons_succ, List.getElem?_cons_zero, List.length_cons, List.length_nil, List.set_cons_succ, List.set_cons_zero, Nat.reduceAdd, Nat.reduceLT, Nat.reduceSub, Nat.lt_irrefl, if_true, if_false, ite_true, ite_false, reduceIte, ↓reduceIte, Bool.not_true, Bool.not_false, Bool.false_eq_true, decide_true, not_true_eq_false, not_false_eq_true, decide_false, decide_eq_true_eq, Bool.not_eq_true', decide_eq_false_iff_not, Bool.not_eq_eq_eq_not, startE, List.map_cons, List.map_nil, List.cons_append, is_str_, k_ss]
      · simp only [eK, eV, eB, e1, e2, aNil, aCons, eCall, eIf, cB, cAnd, cOr, cNot, cYes, cTru, eAnd, eOr, eNot, eNotT, e3c, eSl, eSlL, oNone, oSome, toB, toI, toL, pTru, pIsN, pNotN, isNone, gN, gT, gCons', gNil', sNil, thenF, sRet, sBrk, sCnt, sAsg, sOwn, sAug, sApp, sFz, sPar, mVal, mOwn, mNil, setAllE, ownL, sIf, sSetI, lSeq, lRng1, lRng2, lEnum, wipeE, pLen, pInt, pAbs, pTuple, pList, pNeg, pSub, pAddI, pPlus_i, pMul_i, pDiv_i, pDiv_j, mulOk_x, mulOk_y, Int.reduceLT, Int.reduceNeg, Nat.reduceLeDiff, pMod_i, pEq_i, pNe_i, pLt_i, pLe_i, pGt_i, pGe_i, pMin2, pMax2, pTup_s, pLst_s, outF, Option.bind_some, Option.bind_none, List.getElem?_cons_succ, List.getElem?_cons_zero, List.length_cons, List.length_nil, List.set_cons_succ, List.set_cons_zero, Nat.reduceAdd, Nat.reduceLT, Nat.reduceSub, Nat.lt_irrefl, if_true, if_false, ite_true, ite_false, reduceIte, ↓reduceIte, Bool.not_true, Bool.not_false, Bool.false_eq_true, decide_true, not_true_eq_false, not_false_eq_true, decide_false, decide_eq_true_eq, Bool.not_eq_true', decide_eq_false_iff_not, Bool.not_eq_eq_eq_not, startE, List.map_cons, List.map_nil, List.cons_append, is_str_, k_ss]
        rw [pEq_str hs hs, Option.bind_some, decide_eq_true rfl]
    | tup l h hl =>
      refine sq_nx (if_f rfl rfl) (sq_nx (if_f ?_ rfl) (sq_rt (if_t ?_ (sq_nx (if_f ?_ rfl) ?_))))
      · simp only [eK, eV, eB, e1, e2, aNil, aCons, eCall, eIf, cB, cAnd, cOr, cNot, cYes, cTru, eAnd, eOr, eNot, eNotT, e3c, eSl, eSlL, oNone, oSome, toB, toI, toL, pTru, pIsN, pNotN, isNone, gN, gT, gCons', gNil', sNil, thenF, sRet, sBrk, sCnt, sAsg, sOwn, sAug, sApp, sFz, sPar, mVal, mOwn, mNil, setAllE, ownL, sIf, sSetI, lSeq, lRng1, lRng2, lEnum, wipeE, pLen, pInt, pAbs, pTuple, pList, pNeg, pSub, pAddI, pPlus_i, pMul_i, pDiv_i, pDiv_j, mulOk_x, mulOk_y, Int.reduceLT, Int.reduceNeg, Nat.reduceLeDiff, pMod_i, pEq_i, pNe_i, pLt_i, pLe_i, pGt_i, pGe_i, pMin2, pMax2, pTup_s, pLst_s, outF, Option.bind_some, Option.bind_none, List.getElem?_cons_succ, List.getElem?_cons_zero, List.length_cons, List.length_nil, List.set_cons_succ, List.set_cons_zero, Nat.reduceAdd, Nat.reduceLT, Nat.reduceSub, Nat.lt_irrefl, if_true, if_false, ite_true, ite_false, reduceIte, ↓reduceIte, Bool.not_true, Bool.not_false, Bool.false_eq_true, decide_true, not_true_eq_false, not_false_eq_true, decide_false, decide_eq_true_eq, Bool.not_eq_true', decide_eq_false_iff_not, Bool.not_eq_eq_eq_not, startE, List.map_cons, List.map_nil, List.cons_append, is_tup_, k_tb]
      · simp only [eK, eV, eB, e1, e2, aNil, aCons, eCall, eIf, cB, cAnd, cOr, cNot, cYes, cTru, eAnd, eOr, eNot, eNotT, e3c, eSl, eSlL, oNone, oSome, toB, toI, toL, pTru, pIsN, pNotN, isNone, gN, gT, gCons', gNil', sNil, thenF, sRet, sBrk, sCnt, sAsg, sOwn, sAug, sApp, sFz, sPar, mVal, mOwn, mNil, setAllE, ownL, sIf, sSetI, lSeq, lRng1, lRng2, lEnum, wipeE, pLen, pInt, pAbs, pTuple, pList, pNeg, pSub, pAddI, pPlus_i, pMul_i, pDiv_i, pDiv_j, mulOk_x, mulOk_y, Int.reduceLT, Int.reduceNeg, Nat.reduceLeDiff, pMod_i, pEq_i, pNe_i, pLt_i, pLe_i, pGt_i, pGe_i, pMin2, pMax2, pTup_s, pLst_s, outF, Option.bind_some, Option.bind_none, List.getElem?_cons_succ, List.getElem?_cons_zero, List.length_cons, List.length_nil, List.set_cons_succ, List.set_cons_zero, Nat.reduceAdd, Nat.reduceLT, Nat.reduceSub, Nat.lt_irrefl, if_true, if_false, ite_true, ite_false, reduceIte, ↓reduceIte, Bool.not_true, Bool.not_false, Bool.false_eq_true, decide_true, not_true_eq_false, not_false_eq_true, decide_false, decide_eq_true_eq, Bool.not_eq_true', decide_eq_false_iff_not, Bool.not_eq_eq_eq_not, startE, List.map_cons, List.map_nil, List.cons_append, is_tup_, k_tt]
      · simp only [eK, eV, eB, e1, e2, aNil, aCons, eCall, eIf, cB, cAnd, cOr, cNot, cYes, cTru, eAnd, eOr, eNot, eNotT, e3c, eSl, eSlL, oNone, oSome, toB, toI, toL, pTru, pIsN, pNotN, isNone, gN, gT, gCons', gNil', sNil, thenF, sRet, sBrk, sCnt, sAsg, sOwn, sAug, sApp, sFz, sPar, mVal, mOwn, mNil, setAllE, ownL, sIf, sSetI, lSeq, lRng1, lRng2, lEnum, wipeE, pLen, pInt, pAbs, pTuple, pList, pNeg, pSub, pAddI, pPlus_i, pMul_i, pDiv_i, pDiv_j, mulOk_x, mulOk_y, Int.reduceLT, Int.reduceNeg, Nat.reduceLeDiff, pMod_i, pEq_i, pNe_i, pLt_i, pLe_i, pGt_i, pGe_i, pMin2, pMax2, pTup_s, pLst_s, outF, Option.bind_some, Option.bind_none, List.getElem?_cons_succ, List.getElem?_cons_zero, List.length_cons, List.length_nil, List.set_cons_succ, List.set_cons_zero, Nat.reduceAdd, Nat.reduceLT, Nat.reduceSub, Nat.lt_irrefl, if_true, if_false, ite_true, ite_false, reduceIte, ↓reduceIte, Bool.not_true, Bool.not_false, Bool.false_eq_true, decide_true, not_true_eq_false, not_false_eq_true, decide_false, decide_eq_true_eq, Bool.not_eq_true', decide_eq_false_iff_not, Bool.not_eq_eq_eq_not, startE, List.map_cons, List.map_nil, List.cons_append, is_tup_, k_tt]
      · have ec := ec_map (L := lRng1 (e1 pLen (eB 1))) (vs := [2]) (h := gN 2) (c := cYes) (e := eCall (g_like d) (aCons (e2 pIx (eB 0) (eB 2)) (aCons (e2 pIx (eB 1) (eB 2)) aNil))) (ρ := [.val (.tuple l), .val (.tuple l), .un]) nI (fun _ => .bool true) (l := List.range l.length) (rg_1 (n := l.length) rfl (by omega) (by omega)) (by rw [List.length_range]; exact hl) fun k hk => ⟨_, rfl, rfl, by
          have hk := List.mem_range.1 hk
          have x : pIx (.tuple l) (nI k) = some l[k] := atI_nat (by omega) (by rw [Int.toNat_natCast]; exact List.getElem?_eq_getElem hk)
          simp only [eK, eV, eB, e1, e2, aNil, aCons, eCall, eIf, cB, cAnd, cOr, cNot, cYes, cTru, eAnd, eOr, eNot, eNotT, e3c, eSl, eSlL, oNone, oSome, toB, toI, toL, pTru, pIsN, pNotN, isNone, gN, gT, gCons', gNil', sNil, thenF, sRet, sBrk, sCnt, sAsg, sOwn, sAug, sApp, sFz, sPar, mVal, mOwn, mNil, setAllE, ownL, sIf, sSetI, lSeq, lRng1, lRng2, lEnum, wipeE, pLen, pInt, pAbs, pTuple, pList, pNeg, pSub, pAddI, pPlus_i, pMul_i, pDiv_i, pDiv_j, mulOk_x, mulOk_y, Int.reduceLT, Int.reduceNeg, Nat.reduceLeDiff, pMod_i, pEq_i, pNe_i, pLt_i, pLe_i, pGt_i, pGe_i, pMin2, pMax2, pTup_s, pLst_s, outF, Option.bind_some, Option.bind_none, List.getElem?_cons_succ, List.getElem?_cons_zero, List.length_cons, List.length_nil, List.set_cons_succ, List.set_cons_zero, Nat.reduceAdd, Nat.reduceLT, Nat.reduceSub, Nat.lt_irrefl, if_true, if_false, ite_true, ite_false, reduceIte, ↓reduceIte, Bool.not_true, Bool.not_false, Bool.false_eq_true, decide_true, not_true_eq_false, not_false_eq_true, decide_false, decide_eq_true_eq, Bool.not_eq_true', decide_eq_false_iff_not, Bool.not_eq_eq_eq_not, x, ih _ (h _ (List.getElem_mem hk))]⟩
        show Option.bind (Option.bind (eComp _ _ _ _ _ [.val (.tuple l), .val (.tuple l), .un]) pAll) _ = _
        rw [ec]
        have : ∀ n : List Nat, toBs (n.map fun _ => PyData.bool true) = some (n.map fun _ => true) := fun n => by
          induction n with
          | nil => rfl
          | cons a n ih => rw [List.map_cons, toBs, ih]; rfl
        simp only [pAll, Option.bind_some, this]
        have : ((List.range l.length).map fun _ => true).all id = true := by
          rw [List.all_eq_true]
          intro x hx
          obtain ⟨_, _, rfl⟩ := List.mem_map.1 hx
          rfl
        rw [this]
theorem if_like {like : List PV → Option PV} {a b : PF} {s : PSt} {ρ : PEnv} {d : Nat} {v : PV} (H : ∀ v, Lk d v → like [v, v] = some (.bool true)) (h1 : a ρ = some v) (h2 : b ρ = some v) (hl : Lk d v) : sIf (cNot (cTru (eCall like (aCons a (aCons b aNil))))) s sNil ρ = some (.nx ρ) := by
  refine if_f ?_ rfl
  simp only [eK, eV, eB, e1, e2, aNil, aCons, eCall, eIf, cB, cAnd, cOr, cNot, cYes, cTru, eAnd, eOr, eNot, eNotT, e3c, eSl, eSlL, oNone, oSome, toB, toI, toL, pTru, pIsN, pNotN, isNone, gN, gT, gCons', gNil', sNil, thenF, sRet, sBrk, sCnt, sAsg, sOwn, sAug, sApp, sFz, sPar, mVal, mOwn, mNil, setAllE, ownL, sIf, sSetI, lSeq, lRng1, lRng2, lEnum, wipeE, pLen, pInt, pAbs, pTuple, pList, pNeg, pSub, pAddI, pPlus_i, pMul_i, pDiv_i, pDiv_j, mulOk_x, mulOk_y, Int.reduceLT, Int.reduceNeg, Nat.reduceLeDiff, pMod_i, pEq_i, pNe_i, pLt_i, pLe_i, pGt_i, pGe_i, pMin2, pMax2, pTup_s, pLst_s, outF, Option.bind_some, Option.bind_none, List.getElem?_cons_succ, List.getElem?_cons_zero, List.length_cons, List.length_nil, List.set_cons_succ, List.set_cons_zero, Nat.reduceAdd, Nat.reduceLT, Nat.reduceSub, Nat.lt_irrefl, if_true, if_false, ite_true, ite_false, reduceIte, ↓reduceIte, Bool.not_true, Bool.not_false, Bool.false_eq_true, decide_true, not_true_eq_false, not_false_eq_true, decide_false, decide_eq_true_eq, Bool.not_eq_true', decide_eq_false_iff_not, Bool.not_eq_eq_eq_not, h1, h2, H v hl]
theorem fz_val {ρ : PEnv} {i : Nat} {v : PV} (h : ρ[i]? = some (.val v)) : sFz i ρ = some (.nx ρ) := by
  unfold sFz
  rw [h]
/-! ### enumerate -/
theorem enumL_int (t : List Int) : enumL (t.map PyData.int) = (List.range t.length).map fun (k : Nat) => PyData.tuple [.int k, .int (t.getD k 0)] := by
  apply List.ext_getElem?
  intro i
  unfold enumL
  rw [List.getElem?_mapIdx, List.getElem?_map, List.getElem?_map]
  rcases Nat.lt_or_ge i t.length with h | h
  · rw [List.getElem?_eq_getElem h, List.getElem?_eq_getElem (by rw [List.length_range]; exact h), List.getElem_range, Option.map_some, Option.map_some, Option.map_some, List.getD_eq_getElem?_getD, List.getElem?_eq_getElem h]
    rfl
  · rw [List.getElem?_eq_none h, List.getElem?_eq_none (by rw [List.length_range]; exact h)]
    rfl
/-- the first n where P is false -/
theorem first_not {P : Nat → Bool} : ∀ n : Nat, P n = false → ∃ k, k ≤ n ∧ (∀ j, j < k → P j = true) ∧ P k = false := by
  intro n h
  induction n using Nat.strongRecOn with
  | _ n ih =>
    by_cases c : ∃ m, m < n ∧ P m = false
    · obtain ⟨m, hm, e⟩ := c
      obtain ⟨k, hk, r⟩ := ih m hm e
      exact ⟨k, by omega, r⟩
    · refine ⟨n, Nat.le_refl _, fun j hj => ?_, h⟩
      cases e : P j with
      | true => rfl
      | false => exact absurd ⟨j, hj, e⟩ c
theorem rep_succ (k : Nat) (n : Nat) : Nat.repeat (fun x => x + 1) k n = n + k := by
  induction k with
  | zero => rfl
  | succ k ih => rw [Nat.repeat, ih]; rfl
theorem lastD_mem {t : List Int} (h : t ≠ []) : t.getLastD 0 ∈ t := by
  rw [List.getLastD_eq_getLast?, List.getLast?_eq_some_getLast h]
  exact List.getLast_mem h
theorem gd_mem {t : List Int} {k : Nat} (h : k < t.length) : t.getD k 0 ∈ t := by
  rw [List.getD_eq_getElem?_getD, List.getElem?_eq_getElem h]
  exact List.getElem_mem h
/-! loops over ranges, by place -/
theorem lp_ix {α : Type} {h : GF} {b : PSt} (enc : α → PV) (Inv : Nat → PEnv → Prop) : ∀ (l : List α) (m : Nat), (∀ (i : Nat) (hi : i < l.length) (ρ : PEnv), Inv (m + i) ρ → ∃ ρ1 ρ2, h (enc l[i]) ρ = some ρ1 ∧ b ρ1 = some (.nx ρ2) ∧ Inv (m + i + 1) ρ2) → ∀ ρ, Inv m ρ → ∃ ρ', loopF h b (l.map enc) ρ = some (.nx ρ') ∧ Inv (m + l.length) ρ'
  | [], m, _, ρ, i => ⟨ρ, rfl, i⟩
  | a :: l, m, st, ρ, i => by
    obtain ⟨ρ1, ρ2, e1, e2, i2⟩ := st 0 (by rw [List.length_cons]; omega) ρ i
    obtain ⟨ρ', e, i'⟩ := lp_ix enc Inv l (m + 1) (fun j hj ρ i => by
      have := st (j + 1) (by rw [List.length_cons]; omega) ρ (by rw [show m + (j + 1) = m + 1 + j by omega]; exact i)
      rw [show m + (j + 1) = m + 1 + j by omega] at this
      exact this) ρ2 i2
    refine ⟨ρ', ?_, by rw [List.length_cons, show m + (l.length + 1) = m + 1 + l.length by omega]; exact i'⟩
    rw [List.map_cons, loopF, show h (enc a) ρ = some ρ1 from e1, Option.bind_some, e2, Option.bind_some]
    exact e
theorem lp_range {h : GF} {b : PSt} (Inv : Nat → PEnv → Prop) (n : Nat) (st : ∀ i, i < n → ∀ ρ, Inv i ρ → ∃ ρ1 ρ2, h (nI i) ρ = some ρ1 ∧ b ρ1 = some (.nx ρ2) ∧ Inv (i + 1) ρ2) (ρ : PEnv) (h0 : Inv 0 ρ) : ∃ ρ', loopF h b ((List.range n).map nI) ρ = some (.nx ρ') ∧ Inv n ρ' := by
  have := lp_ix (h := h) (b := b) nI Inv (List.range n) 0 (fun i hi ρ j => by
    rw [Nat.zero_add] at j ⊢
    rw [List.getElem_range]
    exact st i (by rw [List.length_range] at hi; exact hi) ρ j) ρ h0
  rw [List.length_range, Nat.zero_add] at this
  exact this
theorem lp_rng {h : GF} {b : PSt} (Inv : Int → PEnv → Prop) (x y : Int) (hxy : x ≤ y) (st : ∀ i, x ≤ i → i < y → ∀ ρ, Inv i ρ → ∃ ρ1 ρ2, h (.int i) ρ = some ρ1 ∧ b ρ1 = some (.nx ρ2) ∧ Inv (i + 1) ρ2) (ρ : PEnv) (h0 : Inv x ρ) : ∃ ρ', loopF h b ((rng x y).map PyData.int) ρ = some (.nx ρ') ∧ Inv y ρ' := by
  have := lp_ix (h := h) (b := b) PyData.int (fun i => Inv (x + i)) (rng x y) 0 (fun i hi ρ j => by
    rw [Nat.zero_add] at j ⊢
    rw [rng_length] at hi
    have e : (rng x y)[i]'(by rw [rng_length]; exact hi) = x + i := by
      have := rng_get x y i hi
      rw [List.getElem?_eq_getElem (by rw [rng_length]; exact hi)] at this
      exact Option.some.inj this
    rw [e, show x + ((i + 1 : Nat) : Int) = x + i + 1 by omega]
    exact st (x + i) (by omega) (by omega) ρ j) ρ (by rw [show x + ((0 : Nat) : Int) = x by omega]; exact h0)
  rw [rng_length, Nat.zero_add, show x + ((y - x).toNat : Int) = y by omega] at this
  exact this
/-- a cell of the row -/
def gR (r : List Int) (k : Int) : Int := r.getD k.toNat 0
theorem gR_b {r : List Int} (h : Rw r) (k : Int) : 0 ≤ gR r k ∧ gR r k < 1000003 := by
  unfold gR
  rcases Nat.lt_or_ge k.toNat r.length with h' | h'
  · exact h _ (gd_mem h')
  · rw [List.getD_eq_getElem?_getD, List.getElem?_eq_none h']
    exact ⟨by decide, by decide⟩
theorem rx {r : List Int} {n : Nat} (hr : r.length = n) (k : Int) (h0 : 0 ≤ k := by decide) (h1 : k < (n : Int) := by decide) : pIx (iL r) (.int k) = some (.int (gR r k)) := ix_l h0 (by omega)
/-! steps -/
theorem sq_asg {f : PF} {i : Nat} {t : PSt} {ρ ρ' : PEnv} {v : PV} {r : Option Fl} (h : f ρ = some v) (hs : gN i v ρ = some ρ') (k : t ρ' = r) : sSeq (sAsg f (gN i)) t ρ = r := by
  refine sq_nx (ρ' := ρ') ?_ k
  unfold sAsg
  rw [h, Option.bind_some, hs]
  rfl
theorem e_tup {f : PF} {ρ : PEnv} {l : List PV} (h : f ρ = some (.list l)) : e1 pTuple f ρ = some (.tuple l) := by
  unfold e1
  rw [h]
  rfl
theorem e_lst {f : PF} {ρ : PEnv} {l : List PV} (h : f ρ = some (.tuple l)) : e1 pList f ρ = some (.list l) := by
  unfold e1
  rw [h]
  rfl
theorem sq_range {L : LF} {h : GF} {b t : PSt} {ρ : PEnv} {n : Nat} {r : Option Fl} (Inv : Nat → PEnv → Prop) (hL : L ρ = some ((List.range n).map nI)) (h0 : Inv 0 ρ) (st : ∀ i, i < n → ∀ ρ, Inv i ρ → ∃ ρ1 ρ2, h (nI i) ρ = some ρ1 ∧ b ρ1 = some (.nx ρ2) ∧ Inv (i + 1) ρ2) (k : ∀ ρ', Inv n ρ' → t ρ' = r) : sSeq (sFor L h b) t ρ = r := by
  obtain ⟨ρ', e, i⟩ := lp_range Inv n st ρ h0
  refine sq_nx (ρ' := ρ') ?_ (k ρ' i)
  unfold sFor
  rw [hL]
  exact e
theorem sq_rng {L : LF} {h : GF} {b t : PSt} {ρ : PEnv} {x y : Int} {r : Option Fl} (Inv : Int → PEnv → Prop) (hxy : x ≤ y) (hL : L ρ = some ((rng x y).map PyData.int)) (h0 : Inv x ρ) (st : ∀ i, x ≤ i → i < y → ∀ ρ, Inv i ρ → ∃ ρ1 ρ2, h (.int i) ρ = some ρ1 ∧ b ρ1 = some (.nx ρ2) ∧ Inv (i + 1) ρ2) (k : ∀ ρ', Inv y ρ' → t ρ' = r) : sSeq (sFor L h b) t ρ = r := by
  obtain ⟨ρ', e, i⟩ := lp_rng Inv x y hxy st ρ h0
  refine sq_nx (ρ' := ρ') ?_ (k ρ' i)
  unfold sFor
  rw [hL]
  exact e
theorem sq_list {α : Type} {L : LF} {h : GF} {b t : PSt} {ρ : PEnv} {l : List α} {r : Option Fl} (enc : α → PV) (Inv : Nat → PEnv → Prop) (hL : L ρ = some (l.map enc)) (h0 : Inv 0 ρ) (st : ∀ (i : Nat) (hi : i < l.length) (ρ : PEnv), Inv i ρ → ∃ ρ1 ρ2, h (enc l[i]) ρ = some ρ1 ∧ b ρ1 = some (.nx ρ2) ∧ Inv (i + 1) ρ2) (k : ∀ ρ', Inv l.length ρ' → t ρ' = r) : sSeq (sFor L h b) t ρ = r := by
  obtain ⟨ρ', e, i⟩ := lp_ix (h := h) (b := b) enc Inv l 0 (fun i hi ρ j => by rw [Nat.zero_add] at j ⊢; exact st i hi ρ j) ρ h0
  rw [Nat.zero_add] at i
  refine sq_nx (ρ' := ρ') ?_ (k ρ' i)
  unfold sFor
  rw [hL]
  exact e
/-! sums, sorting, membership of typed data -/
theorem toIs_map : ∀ l : List Int, toIs (l.map PyData.int) = some l
  | [] => rfl
  | x :: l => by rw [List.map_cons, toIs, toIs_map l]; rfl
theorem pSum_t (l : List Int) : pSum (iT l) = some (.int l.sum) := by
  show (toIs _).bind _ = _
  rw [toIs_map]
  rfl
theorem pSum_l (l : List Int) : pSum (iL l) = some (.int l.sum) := pSum_t l
section
variable {α : Type} [DecidableEq α] [PySem.W.DatumOrd α]
def leD (a b : α) : Bool := !PySem.W.DatumOrd.lt b a
theorem srt_D (l : List α) : srtL (l.map PySem.W.Datum.toD) = (l.mergeSort leD).map PySem.W.Datum.toD := by
  unfold srtL
  rw [List.map_mergeSort]
  intro a _ b _
  rw [PySem.W.dataLe_eq]
  show leD a b = !PySem.W.dataLt (PySem.W.Datum.toD b) (PySem.W.Datum.toD a)
  rw [PySem.W.DatumOrd.lt_eq]
  rfl
end
theorem srtI_ok (l : List Int) : srtOk (l.map PyData.int) := by
  refine ⟨fun d hd d' hd' => ?_, .inr fun d hd => ?_, fun d hd => ?_⟩
  · obtain ⟨a, _, rfl⟩ := List.mem_map.1 hd
    obtain ⟨b, _, rfl⟩ := List.mem_map.1 hd'
    rfl
  · obtain ⟨a, _, rfl⟩ := List.mem_map.1 hd
    exact ⟨fun h => (by cases h), fun xs h => (by cases h)⟩
  · obtain ⟨a, _, rfl⟩ := List.mem_map.1 hd
    exact Nat.zero_le _
theorem srt_int (l : List Int) : pSorted (iL l) = some (iL (l.mergeSort fun a b => decide (a ≤ b))) := by
  unfold pSorted
  simp only [if_pos (srtI_ok l)]
  congr 2
  have := srt_D l
  rw [show (leD : Int → Int → Bool) = fun a b => decide (a ≤ b) from funext fun a => funext fun b => by
    show (!decide (b < a)) = decide (a ≤ b)
    rw [← decide_not]
    exact decide_eq_decide.2 Int.not_lt] at this
  exact this
theorem msort_eq {l m : List Int} (h : l.Perm m) (hs : m.Pairwise (· ≤ ·)) : (l.mergeSort fun a b => decide (a ≤ b)) = m := by
  refine List.Perm.eq_of_pairwise (le := (· ≤ ·)) (fun a b _ _ h1 h2 => Int.le_antisymm h1 h2) ?_ hs ((List.mergeSort_perm ..).trans h)
  refine (List.pairwise_mergeSort ?_ ?_ l).imp fun h => of_decide_eq_true h
  · intro a b c h1 h2
    have h1 := of_decide_eq_true h1
    have h2 := of_decide_eq_true h2
    exact decide_eq_true (Int.le_trans h1 h2)
  · intro a b
    rw [Bool.or_eq_true, decide_eq_true_eq, decide_eq_true_eq]
    omega
theorem rng_sorted (a b : Int) : (rng a b).Pairwise (· ≤ ·) := by
  unfold rng
  rw [List.pairwise_map]
  exact List.pairwise_lt_range.imp fun h => by omega
section
variable {α : Type} [DecidableEq α] [PySem.W.Datum α] [Dc α]
theorem inL_D (x : α) (xs : List α) : inL (PySem.W.Datum.toD x) (xs.map PySem.W.Datum.toD) = decide (x ∈ xs) := PySem.W.any_datum xs x
theorem pIn_t (x : α) (xs : List α) (h : PySem.W.Datum.depth α + 1 ≤ 64) : pIn (PySem.W.Datum.toD x) (.tuple (xs.map PySem.W.Datum.toD)) = some (.bool (decide (x ∈ xs))) := by
  have s1 := sh_D x (by omega)
  have s2 := sh_D (PySem.W.Tup.mk xs) h
  rw [← inL_D]
  exact if_pos ⟨s1, s2⟩
theorem pIn_l (x : α) (xs : List α) (h : PySem.W.Datum.depth α + 1 ≤ 64) : pIn (PySem.W.Datum.toD x) (.list (xs.map PySem.W.Datum.toD)) = some (.bool (decide (x ∈ xs))) := by
  have s1 := sh_D x (by omega)
  have s2 := sh_D xs h
  rw [← inL_D]
  exact if_pos ⟨s1, s2⟩
theorem pNotIn_t (x : α) (xs : List α) (h : PySem.W.Datum.depth α + 1 ≤ 64) : pNotIn (PySem.W.Datum.toD x) (.tuple (xs.map PySem.W.Datum.toD)) = some (.bool (!decide (x ∈ xs))) := by
  have s1 := sh_D x (by omega)
  have s2 := sh_D (PySem.W.Tup.mk xs) h
  rw [← inL_D]
  exact if_pos ⟨s1, s2⟩
theorem pNotIn_l (x : α) (xs : List α) (h : PySem.W.Datum.depth α + 1 ≤ 64) : pNotIn (PySem.W.Datum.toD x) (.list (xs.map PySem.W.Datum.toD)) = some (.bool (!decide (x ∈ xs))) := by
  have s1 := sh_D x (by omega)
  have s2 := sh_D xs h
  rw [← inL_D]
  exact if_pos ⟨s1, s2⟩
end
theorem perm_sum {l m : List Int} (h : l.Perm m) : l.sum = m.sum := by
  induction h with
  | nil => rfl
  | cons x _ ih => rw [List.sum_cons, List.sum_cons, ih]
  | swap x y l => rw [List.sum_cons, List.sum_cons, List.sum_cons, List.sum_cons]; omega
  | trans _ _ h1 h2 => rw [h1, h2]
theorem lk_ints {d : Nat} {l : List Int} (h : l.length ≤ 16777216) : Lk (d + 2) (iT l) := .tup _ (fun v hv => by
  obtain ⟨a, _, rfl⟩ := List.mem_map.1 hv
  exact .int a) (by rw [List.length_map]; exact h)
theorem lk_map {α : Type} {d : Nat} {l : List α} {f : α → PV} (h : l.length ≤ 16777216) (hf : ∀ a ∈ l, Lk d (f a)) : Lk (d + 1) (.tuple (l.map f)) := .tup _ (fun v hv => by
  obtain ⟨a, ha, rfl⟩ := List.mem_map.1 hv
  exact hf a ha) (by rw [List.length_map]; exact h)
theorem lk_pair {d : Nat} {a b : PV} (ha : Lk d a) (hb : Lk d b) : Lk (d + 1) (.tuple [a, b]) := .tup _ (fun v hv => by
  rcases List.mem_cons.1 hv with rfl | hv
  · exact ha
  · rw [List.mem_singleton] at hv
    subst hv
    exact hb) (Nat.le_of_ble_eq_true rfl)
theorem ec_mapI {α : Type} {L : LF} {vs : List Nat} {h : GF} {c : PEnv → Option Bool} {e : PF} {ρ : PEnv} (enc : α → PV) (f : α → Int) {l : List α} (hL : L ρ = some (l.map enc)) (hn : l.length ≤ 16777216) (st : ∀ a ∈ l, ∃ ρ1, h (enc a) (wipeE ρ vs) = some ρ1 ∧ c ρ1 = some true ∧ e ρ1 = some (.int (f a))) : eComp L vs h c e ρ = some (iL (l.map f)) := by
  rw [ec_map enc (fun a => .int (f a)) hL hn st]
  unfold iL
  rw [List.map_map]
  rfl
theorem ec_fltI {α : Type} {L : LF} {vs : List Nat} {h : GF} {c : PEnv → Option Bool} {e : PF} {ρ : PEnv} (enc : α → PV) (P : α → Bool) (f : α → Int) {l : List α} (hL : L ρ = some (l.map enc)) (hn : l.length ≤ 16777216) (st : ∀ a ∈ l, ∃ ρ1, h (enc a) (wipeE ρ vs) = some ρ1 ∧ c ρ1 = some (P a) ∧ (P a = true → e ρ1 = some (.int (f a)))) : eComp L vs h c e ρ = some (iL ((l.filter P).map f)) := by
  rw [ec_flt enc P (fun a => .int (f a)) hL hn st]
  unfold iL
  rw [List.map_map]
  rfl
theorem pPlus_l {a b : List PV} (h : a.length + b.length ≤ 16777216) : pPlus (.list a) (.list b) = some (.list (a ++ b)) := by
  have c : lineOk (a.length + b.length) = true := decide_eq_true (by rw [szl]; exact h)
  simp only [pPlus, pAdd, pCat, c, if_true]
theorem pPlus_t {a b : List PV} (h : a.length + b.length ≤ 16777216) : pPlus (.tuple a) (.tuple b) = some (.tuple (a ++ b)) := by
  have c : lineOk (a.length + b.length) = true := decide_eq_true (by rw [szl]; exact h)
  simp only [pPlus, pAdd, pCat, c, if_true]
theorem no_like {like : List PV → Option PV} {a b : PF} {ρ : PEnv} {d : Nat} {v : PV} (H : ∀ v, Lk d v → like [v, v] = some (.bool true)) (h1 : a ρ = some v) (h2 : b ρ = some v) (hl : Lk d v) : cNot (cTru (eCall like (aCons a (aCons b aNil)))) ρ = some false := by
  simp only [eK, eV, eB, e1, e2, aNil, aCons, eCall, eIf, cB, cAnd, cOr, cNot, cYes, cTru, eAnd, eOr, eNot, eNotT, e3c, eSl, eSlL, oNone, oSome, toB, toI, toL, pTru, pIsN, pNotN, isNone, gN, gT, gCons', gNil', sNil, thenF, sRet, sBrk, sCnt, sAsg, sOwn, sAug, sApp, sFz, sPar, mVal, mOwn, mNil, setAllE, ownL, sIf, sSetI, lSeq, lRng1, lRng2, lEnum, wipeE, pLen, pInt, pAbs, pTuple, pList, pNeg, pSub, pAddI, pPlus_i, pMul_i, pDiv_i, pDiv_j, mulOk_x, mulOk_y, Int.reduceLT, Int.reduceNeg, Nat.reduceLeDiff, pMod_i, pEq_i, pNe_i, pLt_i, pLe_i, pGt_i, pGe_i, pMin2, pMax2, pTup_s, pLst_s, outF, Option.bind_some, Option.bind_none, List.getElem?_cons_succ, List.getElem?_cons_zero, List.length_cons, List.length_nil, List.set_cons_succ, List.set_cons_zero, Nat.reduceAdd, Nat.reduceLT, Nat.reduceSub, Nat.lt_irrefl, if_true, if_false, ite_true, ite_false, reduceIte, ↓reduceIte, Bool.not_true, Bool.not_false, Bool.false_eq_true, decide_true, not_true_eq_false, not_false_eq_true, decide_false, decide_eq_true_eq, Bool.not_eq_true', decide_eq_false_iff_not, Bool.not_eq_eq_eq_not, h1, h2, H v hl]
theorem or_f {a b : PEnv → Option Bool} {ρ : PEnv} (h1 : a ρ = some false) (h2 : b ρ = some false) : cOr a b ρ = some false := by
  unfold cOr
  rw [h1]
  exact h2
theorem and_f {a b : PEnv → Option Bool} {ρ : PEnv} (h1 : a ρ = some false) : cAnd a b ρ = some false := by
  unfold cAnd
  rw [h1]
  rfl
theorem and_t {a b : PEnv → Option Bool} {ρ : PEnv} {k : Bool} (h1 : a ρ = some true) (h2 : b ρ = some k) : cAnd a b ρ = some k := by
  unfold cAnd
  rw [h1]
  exact h2
theorem lstRg_e {f g : PF} {ρ : PEnv} {a b : Int} (h : f ρ = some (.int a)) (h' : g ρ = some (.int b)) (h0 : -(2 ^ 62) ≤ a) (h1 : a < 2 ^ 62) (h2 : -(2 ^ 62) ≤ b) (h3 : b < 2 ^ 62) (h4 : b - a ≤ 16777216) : eLstRg (rg2 f g) ρ = some (iL (rng a b)) := by
  unfold eLstRg rg2
  rw [h, Option.bind_some, h', Option.bind_some]
  have ok : rOk a b = true := by
    unfold rOk
    simp only [Bool.and_eq_true, decide_eq_true_eq]
    omega
  have ok2 : (rOk a b && decide ((b - a).toNat ≤ 16777216)) = true := by
    rw [ok]
    exact decide_eq_true (by omega)
  show pLstRg (.int a) (.int b) = _
  unfold pLstRg
  simp only [toI, Option.bind_some, if_pos ok2]
theorem pNe_iL (a b : List Int) : pNe (iL a) (iL b) = some (.bool (!decide (a = b))) := pNe_D a b (by decide)
theorem pEq_iL (a b : List Int) : pEq (iL a) (iL b) = some (.bool (decide (a = b))) := pEq_D a b (by decide)
theorem pNe_iT (a b : List Int) : pNe (iT a) (iT b) = some (.bool (!decide (a = b))) := by
  have := pNe_D (PySem.W.Tup.mk a) (PySem.W.Tup.mk b) (by decide)
  rw [show decide (PySem.W.Tup.mk a = PySem.W.Tup.mk b) = decide (a = b) from decide_eq_decide.2 (by rw [PySem.W.Tup.mk.injEq])] at this
  exact this
theorem pEq_iT (a b : List Int) : pEq (iT a) (iT b) = some (.bool (decide (a = b))) := by
  have := pEq_D (PySem.W.Tup.mk a) (PySem.W.Tup.mk b) (by decide)
  rw [show decide (PySem.W.Tup.mk a = PySem.W.Tup.mk b) = decide (a = b) from decide_eq_decide.2 (by rw [PySem.W.Tup.mk.injEq])] at this
  exact this
theorem filter_all {α : Type} {l : List α} {p : α → Bool} (h : ∀ a ∈ l, p a = true) : l.filter p = l := List.filter_eq_self.2 h
theorem filter_none {α : Type} {l : List α} {p : α → Bool} (h : ∀ a ∈ l, p a = false) : l.filter p = [] := List.filter_eq_nil_iff.2 fun a ha => by rw [h a ha]; decide
end Cm

set_option Elab.async false
set_option linter.all false
set_option maxRecDepth 100000
set_option maxHeartbeats 4000000
set_option autoImplicit false
namespace Wk
open PySem PySem.Spec PyProof.Rows L2 Pl Cm
theorem row_eq : f__law_row = f_row := rfl
theorem like_eq : ∀ d, g__law_like d = g_like d
  | 0 => rfl
  | d + 1 => by
    show fnDef 3 (b__law_like (g__law_like d) f__law_is_int) = fnDef 3 (b_like (g_like d) f_isint)
    rw [like_eq d]
    rfl
def bil (n w : Nat) (d : Int) : List Int := (List.range n).map fun (m : Nat) => ((m : Int) + d) % (w : Int)
def onL (n w : Nat) (d x : Int) : List Nat := (List.range n).filter fun m => decide (((m : Int) + d) % (w : Int) = x)
def dayL (w : Nat) (p x b e : Int) : List Int := (rng b e).filter fun t => decide ((p + t) % (w : Int) = x)
abbrev sp2 (b e : Int) : PV := .tuple [.int b, .int e]
def wkd (H : List Int) (k b e : Int) : Int := ((rng b e).map fun t => H.getD ((k + t) % (H.length : Int)).toNat 0).sum
/-- a bound of all numbers here -/
def Bd (i : Int) : Prop := -1000000 ≤ i ∧ i ≤ 1000000
theorem st_bill {n w : Nat} {d : Int} (hn : n ≤ 1000) (hw : 0 < w) : f_bill_row [nI n, nI w, .int d] = some (iT (bil n w d)) := by
  refine fn_rt ?_
  have hw' : (0 : Int) < w := by omega
  have ec := ec_map (L := lRng1 (eB 0)) (vs := [3]) (h := gN 3) (c := cYes) (e := e2 pMod (e2 pPlus (eB 3) (eB 2)) (eB 1)) (ρ := [.val (nI n), .val (nI w), .val (.int d), .un]) nI (fun m => .int (((m : Int) + d) % (w : Int))) (l := List.range n) (rg_1 (n := n) rfl (by omega) (by omega)) (by rw [List.length_range]; omega) fun m hm => ⟨_, rfl, rfl, by simp only [eK, eV, eB, e1, e2, aNil, aCons, eCall, eIf, cB, cAnd, cOr, cNot, cYes, cTru, eAnd, eOr, eNot, eNotT, e3c, eSl, eSlL, oNone, oSome, toB, toI, toL, pTru, pIsN, pNotN, isNone, gN, gT, gCons', gNil', sNil, thenF, sRet, sBrk, sCnt, sAsg, sOwn, sAug, sApp, sFz, sPar, mVal, mOwn, mNil, setAllE, ownL, sIf, sSetI, lSeq, lRng1, lRng2, lEnum, wipeE, pLen, pInt, pAbs, pTuple, pList, pNeg, pSub, pAddI, pPlus_i, pMul_i, pDiv_i, pDiv_j, mulOk_x, mulOk_y, Int.reduceLT, Int.reduceNeg, Nat.reduceLeDiff, pMod_i, pEq_i, pNe_i, pLt_i, pLe_i, pGt_i, pGe_i, pMin2, pMax2, pTup_s, pLst_s, outF, Option.bind_some, Option.bind_none, List.getElem?_cons_succ, List.getElem?_cons_zero, List.length_cons, List.length_nil, List.set_cons_succ, List.set_cons_zero, Nat.reduceAdd, Nat.reduceLT, Nat.reduceSub, Nat.lt_irrefl, if_true, if_false, ite_true, ite_false, reduceIte, ↓reduceIte, Bool.not_true, Bool.not_false, Bool.false_eq_true, decide_true, not_true_eq_false, not_false_eq_true, decide_false, decide_eq_true_eq, Bool.not_eq_true', decide_eq_false_iff_not, Bool.not_eq_eq_eq_not, hw']⟩
  have e2 := e_tup ec
  show Option.bind (e1 pTuple _ [.val (nI n), .val (nI w), .val (.int d), .un]) _ = _
  rw [e2]
  unfold bil iT
  rw [List.map_map]
  rfl
theorem st_men {g : List PV → Option PV} (hg : ∀ {n w : Nat} {d : Int}, n ≤ 1000 → 0 < w → g [nI n, nI w, .int d] = some (iT (bil n w d))) {n w : Nat} {d x : Int} (hn : n ≤ 1000) (hw : 0 < w) : fnDef 6 (b_men_on g) [nI n, nI w, .int d, .int x] = some (.tuple ((onL n w d x).map nI)) := by
  refine fn_rt ?_
  have bl : (bil n w d).length = n := by unfold bil; rw [List.length_map, List.length_range]
  have ec := ec_flt (L := lEnum (eCall g (aCons (eV 0) (aCons (eV 1) (aCons (eV 2) aNil))))) (vs := [4, 5]) (h := gT (gCons' (gN 4) (gCons' (gN 5) gNil'))) (c := cB (e2 pEq (eB 5) (eB 3))) (e := eV 4) (ρ := [.val (nI n), .val (nI w), .val (.int d), .val (.int x), .un, .un]) (fun (k : Nat) => PyData.tuple [.int k, .int ((bil n w d).getD k 0)]) (fun k => decide (((k : Int) + d) % (w : Int) = x)) nI (l := List.range n) (by
      have q := enumL_int (bil n w d)
      rw [bl] at q
      rw [← q]
      simp only [eK, eV, eB, e1, e2, aNil, aCons, eCall, eIf, cB, cAnd, cOr, cNot, cYes, cTru, eAnd, eOr, eNot, eNotT, e3c, eSl, eSlL, oNone, oSome, toB, toI, toL, pTru, pIsN, pNotN, isNone, gN, gT, gCons', gNil', sNil, thenF, sRet, sBrk, sCnt, sAsg, sOwn, sAug, sApp, sFz, sPar, mVal, mOwn, mNil, setAllE, ownL, sIf, sSetI, lSeq, lRng1, lRng2, lEnum, wipeE, pLen, pInt, pAbs, pTuple, pList, pNeg, pSub, pAddI, pPlus_i, pMul_i, pDiv_i, pDiv_j, mulOk_x, mulOk_y, Int.reduceLT, Int.reduceNeg, Nat.reduceLeDiff, pMod_i, pEq_i, pNe_i, pLt_i, pLe_i, pGt_i, pGe_i, pMin2, pMax2, pTup_s, pLst_s, outF, Option.bind_some, Option.bind_none, List.getElem?_cons_succ, List.getElem?_cons_zero, List.length_cons, List.length_nil, List.set_cons_succ, List.set_cons_zero, Nat.reduceAdd, Nat.reduceLT, Nat.reduceSub, Nat.lt_irrefl, if_true, if_false, ite_true, ite_false, reduceIte, ↓reduceIte, Bool.not_true, Bool.not_false, Bool.false_eq_true, decide_true, not_true_eq_false, not_false_eq_true, decide_false, decide_eq_true_eq, Bool.not_eq_true', decide_eq_false_iff_not, Bool.not_eq_eq_eq_not, hg hn hw]) (by rw [List.length_range]; omega) fun m hm => by
        have hm := List.mem_range.1 hm
        have e : (bil n w d).getD m 0 = ((m : Int) + d) % (w : Int) := by
          unfold bil
          rw [List.getD_eq_getElem?_getD, List.getElem?_map, List.getElem?_eq_getElem (by rw [List.length_range]; exact hm), List.getElem_range]
          rfl
        rw [e]
        exact ⟨_, rfl, by simp only [eK, eV, eB, e1, e2, aNil, aCons, eCall, eIf, cB, cAnd, cOr, cNot, cYes, cTru, eAnd, eOr, eNot, eNotT, e3c, eSl, eSlL, oNone, oSome, toB, toI, toL, pTru, pIsN, pNotN, isNone, gN, gT, gCons', gNil', sNil, thenF, sRet, sBrk, sCnt, sAsg, sOwn, sAug, sApp, sFz, sPar, mVal, mOwn, mNil, setAllE, ownL, sIf, sSetI, lSeq, lRng1, lRng2, lEnum, wipeE, pLen, pInt, pAbs, pTuple, pList, pNeg, pSub, pAddI, pPlus_i, pMul_i, pDiv_i, pDiv_j, mulOk_x, mulOk_y, Int.reduceLT, Int.reduceNeg, Nat.reduceLeDiff, pMod_i, pEq_i, pNe_i, pLt_i, pLe_i, pGt_i, pGe_i, pMin2, pMax2, pTup_s, pLst_s, outF, Option.bind_some, Option.bind_none, List.getElem?_cons_succ, List.getElem?_cons_zero, List.length_cons, List.length_nil, List.set_cons_succ, List.set_cons_zero, Nat.reduceAdd, Nat.reduceLT, Nat.reduceSub, Nat.lt_irrefl, if_true, if_false, ite_true, ite_false, reduceIte, ↓reduceIte, Bool.not_true, Bool.not_false, Bool.false_eq_true, decide_true, not_true_eq_false, not_false_eq_true, decide_false, decide_eq_true_eq, Bool.not_eq_true', decide_eq_false_iff_not, Bool.not_eq_eq_eq_not], fun _ => rfl⟩
  have e2 := e_tup ec
  show Option.bind (e1 pTuple _ [.val (nI n), .val (nI w), .val (.int d), .val (.int x), .un, .un]) _ = _
  rw [e2]
  rfl
theorem st_days {w : Nat} {p x b e : Int} (hw : 0 < w) (hb : Bd b) (he : Bd e) : f_watch_days [nI w, .int p, .int x, sp2 b e] = some (iT (dayL w p x b e)) := by
  refine fn_rt ?_
  have hw' : (0 : Int) < w := by omega
  unfold Bd at hb he
  have ec := ec_flt (L := lRng2 (e2 pIx (eB 3) (eK (.int 0))) (e2 pIx (eB 3) (eK (.int 1)))) (vs := [4]) (h := gN 4) (c := cB (e2 pEq (e2 pMod (e2 pPlus (eB 1) (eB 4)) (eB 0)) (eB 2))) (e := eV 4) (ρ := [.val (nI w), .val (.int p), .val (.int x), .val (sp2 b e), .un]) PyData.int (fun t => decide ((p + t) % (w : Int) = x)) PyData.int (l := rng b e) (rg_2 rfl rfl (by omega) (by omega) (by omega) (by omega)) (by rw [rng_length]; omega) fun m hm => ⟨_, rfl, by simp only [eK, eV, eB, e1, e2, aNil, aCons, eCall, eIf, cB, cAnd, cOr, cNot, cYes, cTru, eAnd, eOr, eNot, eNotT, e3c, eSl, eSlL, oNone, oSome, toB, toI, toL, pTru, pIsN, pNotN, isNone, gN, gT, gCons', gNil', sNil, thenF, sRet, sBrk, sCnt, sAsg, sOwn, sAug, sApp, sFz, sPar, mVal, mOwn, mNil, setAllE, ownL, sIf, sSetI, lSeq, lRng1, lRng2, lEnum, wipeE, pLen, pInt, pAbs, pTuple, pList, pNeg, pSub, pAddI, pPlus_i, pMul_i, pDiv_i, pDiv_j, mulOk_x, mulOk_y, Int.reduceLT, Int.reduceNeg, Nat.reduceLeDiff, pMod_i, pEq_i, pNe_i, pLt_i, pLe_i, pGt_i, pGe_i, pMin2, pMax2, pTup_s, pLst_s, outF, Option.bind_some, Option.bind_none, List.getElem?_cons_succ, List.getElem?_cons_zero, List.length_cons, List.length_nil, List.set_cons_succ, List.set_cons_zero, Nat.reduceAdd, Nat.reduceLT, Nat.reduceSub, Nat.lt_irrefl, if_true, if_false, ite_true, ite_false, reduceIte, ↓reduceIte, Bool.not_true, Bool.not_false, Bool.false_eq_true, decide_true, not_true_eq_false, not_false_eq_true, decide_false, decide_eq_true_eq, Bool.not_eq_true', decide_eq_false_iff_not, Bool.not_eq_eq_eq_not, hw'], fun _ => rfl⟩
  have e2 := e_tup ec
  show Option.bind (e1 pTuple _ [.val (nI w), .val (.int p), .val (.int x), .val (sp2 b e), .un]) _ = _
  rw [e2]
  rfl
theorem st_met {w : Nat} {p q b e : Int} (hw : 0 < w) (hb : Bd b) (he : Bd e) : f_met_days [nI w, .int p, .int q, sp2 b e] = some (.int ((rng b e).filter fun t => decide ((p + t) % (w : Int) = (q + t) % (w : Int))).length) := by
  refine fn_rt ?_
  have hw' : (0 : Int) < w := by omega
  unfold Bd at hb he
  have ec := ec_flt (L := lRng2 (e2 pIx (eB 3) (eK (.int 0))) (e2 pIx (eB 3) (eK (.int 1)))) (vs := [4]) (h := gN 4) (c := cB (e2 pEq (e2 pMod (e2 pPlus (eB 1) (eB 4)) (eB 0)) (e2 pMod (e2 pPlus (eB 2) (eB 4)) (eB 0)))) (e := eV 4) (ρ := [.val (nI w), .val (.int p), .val (.int q), .val (sp2 b e), .un]) PyData.int (fun t => decide ((p + t) % (w : Int) = (q + t) % (w : Int))) PyData.int (l := rng b e) (rg_2 rfl rfl (by omega) (by omega) (by omega) (by omega)) (by rw [rng_length]; omega) fun m hm => ⟨_, rfl, by simp only [eK, eV, eB, e1, e2, aNil, aCons, eCall, eIf, cB, cAnd, cOr, cNot, cYes, cTru, eAnd, eOr, eNot, eNotT, e3c, eSl, eSlL, oNone, oSome, toB, toI, toL, pTru, pIsN, pNotN, isNone, gN, gT, gCons', gNil', sNil, thenF, sRet, sBrk, sCnt, sAsg, sOwn, sAug, sApp, sFz, sPar, mVal, mOwn, mNil, setAllE, ownL, sIf, sSetI, lSeq, lRng1, lRng2, lEnum, wipeE, pLen, pInt, pAbs, pTuple, pList, pNeg, pSub, pAddI, pPlus_i, pMul_i, pDiv_i, pDiv_j, mulOk_x, mulOk_y, Int.reduceLT, Int.reduceNeg, Nat.reduceLeDiff, pMod_i, pEq_i, pNe_i, pLt_i, pLe_i, pGt_i, pGe_i, pMin2, pMax2, pTup_s, pLst_s, outF, Option.bind_some, Option.bind_none, List.getElem?_cons_succ, List.getElem?_cons_zero, List.length_cons, List.length_nil, List.set_cons_succ, List.set_cons_zero, Nat.reduceAdd, Nat.reduceLT, Nat.reduceSub, Nat.lt_irrefl, if_true, if_false, ite_true, ite_false, reduceIte, ↓reduceIte, Bool.not_true, Bool.not_false, Bool.false_eq_true, decide_true, not_true_eq_false, not_false_eq_true, decide_false, decide_eq_true_eq, Bool.not_eq_true', decide_eq_false_iff_not, Bool.not_eq_eq_eq_not, hw'], fun _ => rfl⟩
  show Option.bind (e1 pLen (eComp _ _ _ _ _) [.val (nI w), .val (.int p), .val (.int q), .val (sp2 b e), .un]) _ = _
  unfold e1
  rw [ec, Option.bind_some]
  simp only [pLen, Option.bind_some, List.length_map]
theorem st_work {n : Nat} {H : List Int} {b e : Int} (hn : n ≤ 1000) (hH : 0 < H.length) (hb : Bd b) (he : Bd e) : f_hours_worked [nI n, iT H, sp2 b e] = some (iT ((List.range n).map fun (k : Nat) => wkd H k b e)) := by
  refine fn_rt ?_
  unfold Bd at hb he
  have hw' : (0 : Int) < H.length := by omega
  refine sq_nx (ρ' := [.val (nI n), .val (iT H), .val (sp2 b e), .val (.int H.length), .un, .un]) (by simp only [eK, eV, eB, e1, e2, aNil, aCons, eCall, eIf, cB, cAnd, cOr, cNot, cYes, cTru, eAnd, eOr, eNot, eNotT, e3c, eSl, eSlL, oNone, oSome, toB, toI, toL, pTru, pIsN, pNotN, isNone, gN, gT, gCons', gNil', sNil, thenF, sRet, sBrk, sCnt, sAsg, sOwn, sAug, sApp, sFz, sPar, mVal, mOwn, mNil, setAllE, ownL, sIf, sSetI, lSeq, lRng1, lRng2, lEnum, wipeE, pLen, pInt, pAbs, pTuple, pList, pNeg, pSub, pAddI, pPlus_i, pMul_i, pDiv_i, pDiv_j, mulOk_x, mulOk_y, Int.reduceLT, Int.reduceNeg, Nat.reduceLeDiff, pMod_i, pEq_i, pNe_i, pLt_i, pLe_i, pGt_i, pGe_i, pMin2, pMax2, pTup_s, pLst_s, outF, Option.bind_some, Option.bind_none, List.getElem?_cons_succ, List.getElem?_cons_zero, List.length_cons, List.length_nil, List.set_cons_succ, List.set_cons_zero, Nat.reduceAdd, Nat.reduceLT, Nat.reduceSub, Nat.lt_irrefl, if_true, if_false, ite_true, ite_false, reduceIte, ↓reduceIte, Bool.not_true, Bool.not_false, Bool.false_eq_true, decide_true, not_true_eq_false, not_false_eq_true, decide_false, decide_eq_true_eq, Bool.not_eq_true', decide_eq_false_iff_not, Bool.not_eq_eq_eq_not, startE, List.map_cons, List.map_nil, List.cons_append, List.length_map] <;> rfl) ?_
  have ec := ec_map (L := lRng1 (eB 0)) (vs := [4]) (h := gN 4) (c := cYes) (e := e1 pSum (eComp (lRng2 (e2 pIx (eB 2) (eK (.int 0))) (e2 pIx (eB 2) (eK (.int 1)))) [5] (gN 5) cYes (e2 pIx (eB 1) (e2 pMod (e2 pPlus (eB 4) (eB 5)) (eB 3))))) (ρ := [.val (nI n), .val (iT H), .val (sp2 b e), .val (.int H.length), .un, .un]) nI (fun (k : Nat) => .int (wkd H k b e)) (l := List.range n) (rg_1 (n := n) rfl (by omega) (by omega)) (by rw [List.length_range]; omega) fun k hk => ⟨_, rfl, rfl, by
    have e2 := ec_map (L := lRng2 (e2 pIx (eB 2) (eK (.int 0))) (e2 pIx (eB 2) (eK (.int 1)))) (vs := [5]) (h := gN 5) (c := cYes) (e := (e2 pIx (eB 1) (e2 pMod (e2 pPlus (eB 4) (eB 5)) (eB 3)))) (ρ := [.val (nI n), .val (iT H), .val (sp2 b e), .val (.int H.length), .val (nI k), .un]) PyData.int (fun t => .int (H.getD (((k : Int) + t) % (H.length : Int)).toNat 0)) (l := rng b e) (rg_2 rfl rfl (by omega) (by omega) (by omega) (by omega)) (by rw [rng_length]; omega) fun t ht => ⟨_, rfl, rfl, by
      simp only [eK, eV, eB, e1, e2, aNil, aCons, eCall, eIf, cB, cAnd, cOr, cNot, cYes, cTru, eAnd, eOr, eNot, eNotT, e3c, eSl, eSlL, oNone, oSome, toB, toI, toL, pTru, pIsN, pNotN, isNone, gN, gT, gCons', gNil', sNil, thenF, sRet, sBrk, sCnt, sAsg, sOwn, sAug, sApp, sFz, sPar, mVal, mOwn, mNil, setAllE, ownL, sIf, sSetI, lSeq, lRng1, lRng2, lEnum, wipeE, pLen, pInt, pAbs, pTuple, pList, pNeg, pSub, pAddI, pPlus_i, pMul_i, pDiv_i, pDiv_j, mulOk_x, mulOk_y, Int.reduceLT, Int.reduceNeg, Nat.reduceLeDiff, pMod_i, pEq_i, pNe_i, pLt_i, pLe_i, pGt_i, pGe_i, pMin2, pMax2, pTup_s, pLst_s, outF, Option.bind_some, Option.bind_none, List.getElem?_cons_succ, List.getElem?_cons_zero, List.length_cons, List.length_nil, List.set_cons_succ, List.set_cons_zero, Nat.reduceAdd, Nat.reduceLT, Nat.reduceSub, Nat.lt_irrefl, if_true, if_false, ite_true, ite_false, reduceIte, ↓reduceIte, Bool.not_true, Bool.not_false, Bool.false_eq_true, decide_true, not_true_eq_false, not_false_eq_true, decide_false, decide_eq_true_eq, Bool.not_eq_true', decide_eq_false_iff_not, Bool.not_eq_eq_eq_not, hw', ix_t (l := H) (Int.emod_nonneg _ (by omega)) (Int.emod_lt_of_pos _ hw')]⟩
    show Option.bind (eComp _ _ _ _ _ [.val (nI n), .val (iT H), .val (sp2 b e), .val (.int H.length), .val (nI k), .un]) pSum = _
    rw [e2, Option.bind_some, show ((rng b e).map fun t => PyData.int (H.getD (((k : Int) + t) % (H.length : Int)).toNat 0)) = ((rng b e).map fun t => H.getD (((k : Int) + t) % (H.length : Int)).toNat 0).map PyData.int by rw [List.map_map]; rfl]
    exact pSum_l _⟩
  have e3 := e_tup ec
  show Option.bind (e1 pTuple _ [.val (nI n), .val (iT H), .val (sp2 b e), .val (.int H.length), .un, .un]) _ = _
  rw [e3]
  unfold iT
  rw [List.map_map]
  rfl
/-! pure parts -/
theorem flt_step (l : List Int) (g : Int → Int) (i : Int) : (l.filter (fun t => decide (g t < i)) ++ l.filter (fun t => decide (g t = i))).Perm (l.filter fun t => decide (g t < i + 1)) := by
  induction l with
  | nil => exact .nil
  | cons a l ih =>
    by_cases h1 : g a < i
    · rw [List.filter_cons_of_pos (by exact decide_eq_true h1), List.filter_cons_of_neg (by rw [decide_eq_true_eq]; omega), List.filter_cons_of_pos (by exact decide_eq_true (by omega)), List.cons_append]
      exact ih.cons a
    · by_cases h2 : g a = i
      · rw [List.filter_cons_of_neg (by rw [decide_eq_true_eq]; exact h1), List.filter_cons_of_pos (by exact decide_eq_true h2), List.filter_cons_of_pos (by exact decide_eq_true (by omega))]
        exact List.perm_middle.trans (ih.cons a)
      · rw [List.filter_cons_of_neg (by rw [decide_eq_true_eq]; exact h1), List.filter_cons_of_neg (by rw [decide_eq_true_eq]; exact h2), List.filter_cons_of_neg (by rw [decide_eq_true_eq]; omega)]
        exact ih
theorem sum_const {h : Int → Int} {c : Int} : ∀ {l : List Int}, (∀ t ∈ l, h t = c) → (l.map h).sum = l.length * c
  | [], _ => by rw [List.map_nil, List.length_nil, Int.natCast_zero, Int.zero_mul]; rfl
  | a :: l, hh => by
    rw [List.map_cons, List.sum_cons, hh a (List.mem_cons_self ..), sum_const fun t ht => hh t (List.mem_cons_of_mem _ ht), List.length_cons, Int.natCast_add, Int.add_mul, Int.natCast_one, Int.one_mul, Int.add_comm]
/-- m hours from place c on -/
def SS' (H : List Int) (c m : Nat) : Int := ((List.range m).map fun j => H.getD ((c + j) % H.length) 0).sum
theorem S_succ (H : List Int) (c m : Nat) : SS' H c (m + 1) = SS' H c m + H.getD ((c + m) % H.length) 0 := by
  unfold SS'
  rw [List.range_succ, List.map_append, List.sum_append, List.map_cons, List.map_nil, List.sum_singleton]
theorem S_add (H : List Int) (c m : Nat) : ∀ k, SS' H c (m + k) = SS' H c m + SS' H (c + m) k
  | 0 => by
    rw [Nat.add_zero]
    show _ = _ + (0 : Int)
    rw [Int.add_zero]
  | k + 1 => by
    rw [← Nat.add_assoc, S_succ, S_add H c m k, S_succ, Int.add_assoc, show c + (m + k) = c + m + k by omega]
theorem S_w (H : List Int) : ∀ c, SS' H c H.length = H.sum
  | 0 => by
    unfold SS'
    congr 1
    apply List.ext_getElem?
    intro i
    rw [List.getElem?_map]
    rcases Nat.lt_or_ge i H.length with h | h
    · rw [List.getElem?_eq_getElem (by rw [List.length_range]; exact h), List.getElem_range, Option.map_some, Nat.zero_add, Nat.mod_eq_of_lt h, List.getD_eq_getElem?_getD, List.getElem?_eq_getElem h]
      rfl
    · rw [List.getElem?_eq_none (by rw [List.length_range]; exact h), List.getElem?_eq_none h]
      rfl
  | c + 1 => by
    have h1 := S_succ H c H.length
    have h2 := S_add H c 1 H.length
    have h3 : SS' H c 1 = 0 + H.getD (c % H.length) 0 := S_succ H c 0
    rw [Nat.add_mod_right, S_w H c] at h1
    rw [show 1 + H.length = H.length + 1 by omega, h1] at h2
    omega
theorem S_rw (H : List Int) (c : Nat) : ∀ r : Nat, SS' H c (r * H.length) = r * H.sum
  | 0 => by rw [Nat.zero_mul, Int.natCast_zero, Int.zero_mul]; rfl
  | r + 1 => by
    rw [Nat.add_mul, Nat.one_mul, S_add, S_rw H c r, S_w, Int.natCast_add, Int.add_mul, Int.natCast_one, Int.one_mul]
theorem wkd_S {H : List Int} {k b m : Nat} {e : Int} (he : e = (b : Int) + m) : wkd H k b e = SS' H (k + b) m := by
  unfold wkd SS' rng
  rw [he, show ((b : Int) + m - b).toNat = m by omega, List.map_map]
  congr 1
  apply List.map_congr_left
  intro j _
  show H.getD (((k : Int) + ((b : Int) + j)) % (H.length : Int)).toNat 0 = _
  rw [show ((k : Int) + ((b : Int) + j)) % (H.length : Int) = (((k + b + j) % H.length : Nat) : Int) by rw [Int.natCast_emod]; congr 1; omega, Int.toNat_natCast]
def SpRow (g : List PV → Option PV) : Prop := ∀ ns : List Int, ∃ r : List Int, g [iL ns, .int 24] = some (iL r) ∧ r.length = 24 ∧ Rw r
def SpLike (g : List PV → Option PV) : Prop := ∀ v, Lk 8 v → g [v, v] = some (.bool true)
def SpBill (g : List PV → Option PV) : Prop := ∀ {n w : Nat} {d : Int}, n ≤ 1000 → 0 < w → g [nI n, nI w, .int d] = some (iT (bil n w d))
def SpMen (g : List PV → Option PV) : Prop := ∀ {n w : Nat} {d x : Int}, n ≤ 1000 → 0 < w → g [nI n, nI w, .int d, .int x] = some (.tuple ((onL n w d x).map nI))
def SpDays (g : List PV → Option PV) : Prop := ∀ {w : Nat} {p x b e : Int}, 0 < w → Bd b → Bd e → g [nI w, .int p, .int x, sp2 b e] = some (iT (dayL w p x b e))
def SpMet (g : List PV → Option PV) : Prop := ∀ {w : Nat} {p q b e : Int}, 0 < w → Bd b → Bd e → g [nI w, .int p, .int q, sp2 b e] = some (.int ((rng b e).filter fun t => decide ((p + t) % (w : Int) = (q + t) % (w : Int))).length)
def SpWork (g : List PV → Option PV) : Prop := ∀ {n : Nat} {H : List Int} {b e : Int}, n ≤ 1000 → 0 < H.length → Bd b → Bd e → g [nI n, iT H, sp2 b e] = some (iT ((List.range n).map fun (k : Nat) => wkd H k b e))
def SpAgain (g : List PV → Option PV) : Prop := ∀ a b : PV, g [a, b] = some b
theorem law_core {g1 g2 g3 g4 g5 g6 g7 g8 : List PV → Option PV} (hrow : SpRow g1) (hlike : SpLike g2) (hbill : SpBill g3) (hmen : SpMen g4) (hagain : SpAgain g5) (hdays : SpDays g6) (hmet : SpMet g7) (hwork : SpWork g8) (ns : List Int) : b_law g1 g2 g3 g4 g5 g6 g7 g8 (startE 24 [iL ns]) = some (.ret (.bool true)) := by
  obtain ⟨r, hr, hl, hw⟩ := hrow ns
  have B := gR_b hw
  refine sq_nx (ρ' := [.val (iL ns), .val (iL r), .un, .un, .un, .un, .un, .un, .un, .un, .un, .un, .un, .un, .un, .un, .un, .un, .un, .un, .un, .un, .un, .un]) (by simp only [eK, eV, eB, e1, e2, aNil, aCons, eCall, eIf, cB, cAnd, cOr, cNot, cYes, cTru, eAnd, eOr, eNot, eNotT, e3c, eSl, eSlL, oNone, oSome, toB, toI, toL, pTru, pIsN, pNotN, isNone, gN, gT, gCons', gNil', sNil, thenF, sRet, sBrk, sCnt, sAsg, sOwn, sAug, sApp, sFz, sPar, mVal, mOwn, mNil, setAllE, ownL, sIf, sSetI, lSeq, lRng1, lRng2, lEnum, wipeE, pLen, pInt, pAbs, pTuple, pList, pNeg, pSub, pAddI, pPlus_i, pMul_i, pDiv_i, pDiv_j, mulOk_x, mulOk_y, Int.reduceLT, Int.reduceNeg, Nat.reduceLeDiff, pMod_i, pEq_i, pNe_i, pLt_i, pLe_i, pGt_i, pGe_i, pMin2, pMax2, pTup_s, pLst_s, outF, Option.bind_some, Option.bind_none, List.getElem?_cons_succ, List.getElem?_cons_zero, List.length_cons, List.length_nil, List.set_cons_succ, List.set_cons_zero, Nat.reduceAdd, Nat.reduceLT, Nat.reduceSub, Nat.lt_irrefl, if_true, if_false, ite_true, ite_false, reduceIte, ↓reduceIte, Bool.not_true, Bool.not_false, Bool.false_eq_true, decide_true, not_true_eq_false, not_false_eq_true, decide_false, decide_eq_true_eq, Bool.not_eq_true', decide_eq_false_iff_not, Bool.not_eq_eq_eq_not, startE, List.map_cons, List.map_nil, List.cons_append, hr] <;> rfl) ?_
  obtain ⟨n, hn⟩ : ∃ n : Nat, 1 + gR r 13 % 9 = n := ⟨(1 + gR r 13 % 9).toNat, by have := B 13; omega⟩
  have n0 : 1 ≤ n ∧ n ≤ 9 := by have := B 13; omega
  obtain ⟨w, hw⟩ : ∃ n : Nat, 1 + gR r 18 % 7 = n := ⟨(1 + gR r 18 % 7).toNat, by have := B 18; omega⟩
  have w0 : 1 ≤ w ∧ w ≤ 7 := by have := B 18; omega
  refine sq_nx (ρ' := [.val (iL ns), .val (iL r), .val (nI n), .val (nI w), .un, .un, .un, .un, .un, .un, .un, .un, .un, .un, .un, .un, .un, .un, .un, .un, .un, .un, .un, .un]) (by simp only [eK, eV, eB, e1, e2, aNil, aCons, eCall, eIf, cB, cAnd, cOr, cNot, cYes, cTru, eAnd, eOr, eNot, eNotT, e3c, eSl, eSlL, oNone, oSome, toB, toI, toL, pTru, pIsN, pNotN, isNone, gN, gT, gCons', gNil', sNil, thenF, sRet, sBrk, sCnt, sAsg, sOwn, sAug, sApp, sFz, sPar, mVal, mOwn, mNil, setAllE, ownL, sIf, sSetI, lSeq, lRng1, lRng2, lEnum, wipeE, pLen, pInt, pAbs, pTuple, pList, pNeg, pSub, pAddI, pPlus_i, pMul_i, pDiv_i, pDiv_j, mulOk_x, mulOk_y, Int.reduceLT, Int.reduceNeg, Nat.reduceLeDiff, pMod_i, pEq_i, pNe_i, pLt_i, pLe_i, pGt_i, pGe_i, pMin2, pMax2, pTup_s, pLst_s, outF, Option.bind_some, Option.bind_none, List.getElem?_cons_succ, List.getElem?_cons_zero, List.length_cons, List.length_nil, List.set_cons_succ, List.set_cons_zero, Nat.reduceAdd, Nat.reduceLT, Nat.reduceSub, Nat.lt_irrefl, if_true, if_false, ite_true, ite_false, reduceIte, ↓reduceIte, Bool.not_true, Bool.not_false, Bool.false_eq_true, decide_true, not_true_eq_false, not_false_eq_true, decide_false, decide_eq_true_eq, Bool.not_eq_true', decide_eq_false_iff_not, Bool.not_eq_eq_eq_not, rx hl 13, rx hl 18, hn, hw]) ?_
  obtain ⟨H, hH⟩ : ∃ H : List Int, ((List.range w).map fun (k : Nat) => 1 + gR r (4 + (k : Int)) % 9) = H := ⟨_, rfl⟩
  have Hl : H.length = w := by rw [← hH, List.length_map, List.length_range]
  have Hb : ∀ x ∈ H, 1 ≤ x ∧ x ≤ 9 := fun x hx => by
    rw [← hH] at hx
    obtain ⟨k, _, rfl⟩ := List.mem_map.1 hx
    have := B (4 + (k : Int))
    omega
  have rgw : ∀ f ρ, f ρ = some (nI w) → lRng1 f ρ = some ((List.range w).map nI) := fun f ρ h => rg_1 (n := w) h (by omega) (by omega)
  have rgn : ∀ f ρ, f ρ = some (nI n) → lRng1 f ρ = some ((List.range n).map nI) := fun f ρ h => rg_1 (n := n) h (by omega) (by omega)
  have lw : (List.range w).length ≤ 16777216 := by rw [List.length_range]; omega
  have ln : (List.range n).length ≤ 16777216 := by rw [List.length_range]; omega
  have wp : (0 : Int) < w := by omega
  have np : (0 : Int) < n := by omega
  have n1 : n ≤ 1000 := by omega
  have w1 : 0 < w := by omega
  refine sq_asg (v := iT H) (ρ' := [.val (iL ns), .val (iL r), .val (nI n), .val (nI w), .val (iT H), .un, .un, .un, .un, .un, .un, .un, .un, .un, .un, .un, .un, .un, .un, .un, .un, .un, .un, .un]) (by
    rw [← hH]
    exact e_tup (ec_mapI nI _ (rgw _ _ rfl) lw fun k hk => ⟨_, rfl, rfl, by
      have hk := List.mem_range.1 hk
      simp only [eK, eV, eB, e1, e2, aNil, aCons, eCall, eIf, cB, cAnd, cOr, cNot, cYes, cTru, eAnd, eOr, eNot, eNotT, e3c, eSl, eSlL, oNone, oSome, toB, toI, toL, pTru, pIsN, pNotN, isNone, gN, gT, gCons', gNil', sNil, thenF, sRet, sBrk, sCnt, sAsg, sOwn, sAug, sApp, sFz, sPar, mVal, mOwn, mNil, setAllE, ownL, sIf, sSetI, lSeq, lRng1, lRng2, lEnum, wipeE, pLen, pInt, pAbs, pTuple, pList, pNeg, pSub, pAddI, pPlus_i, pMul_i, pDiv_i, pDiv_j, mulOk_x, mulOk_y, Int.reduceLT, Int.reduceNeg, Nat.reduceLeDiff, pMod_i, pEq_i, pNe_i, pLt_i, pLe_i, pGt_i, pGe_i, pMin2, pMax2, pTup_s, pLst_s, outF, Option.bind_some, Option.bind_none, List.getElem?_cons_succ, List.getElem?_cons_zero, List.length_cons, List.length_nil, List.set_cons_succ, List.set_cons_zero, Nat.reduceAdd, Nat.reduceLT, Nat.reduceSub, Nat.lt_irrefl, if_true, if_false, ite_true, ite_false, reduceIte, ↓reduceIte, Bool.not_true, Bool.not_false, Bool.false_eq_true, decide_true, not_true_eq_false, not_false_eq_true, decide_false, decide_eq_true_eq, Bool.not_eq_true', decide_eq_false_iff_not, Bool.not_eq_eq_eq_not, rx hl (4 + (k : Int)) (by omega) (by omega)]⟩)) rfl ?_
  obtain ⟨d, hd⟩ : ∃ d, gR r 11 % 41 = d := ⟨_, rfl⟩
  have d0 : 0 ≤ d ∧ d ≤ 40 := by have := B 11; omega
  obtain ⟨b, hb⟩ : ∃ b : Nat, gR r 12 % 41 = b := ⟨(gR r 12 % 41).toNat, by have := B 12; omega⟩
  have b0 : b ≤ 40 := by have := B 12; omega
  refine sq_nx (ρ' := [.val (iL ns), .val (iL r), .val (nI n), .val (nI w), .val (iT H), .val (.int d), .val (nI b), .un, .un, .un, .un, .un, .un, .un, .un, .un, .un, .un, .un, .un, .un, .un, .un, .un]) (by simp only [eK, eV, eB, e1, e2, aNil, aCons, eCall, eIf, cB, cAnd, cOr, cNot, cYes, cTru, eAnd, eOr, eNot, eNotT, e3c, eSl, eSlL, oNone, oSome, toB, toI, toL, pTru, pIsN, pNotN, isNone, gN, gT, gCons', gNil', sNil, thenF, sRet, sBrk, sCnt, sAsg, sOwn, sAug, sApp, sFz, sPar, mVal, mOwn, mNil, setAllE, ownL, sIf, sSetI, lSeq, lRng1, lRng2, lEnum, wipeE, pLen, pInt, pAbs, pTuple, pList, pNeg, pSub, pAddI, pPlus_i, pMul_i, pDiv_i, pDiv_j, mulOk_x, mulOk_y, Int.reduceLT, Int.reduceNeg, Nat.reduceLeDiff, pMod_i, pEq_i, pNe_i, pLt_i, pLe_i, pGt_i, pGe_i, pMin2, pMax2, pTup_s, pLst_s, outF, Option.bind_some, Option.bind_none, List.getElem?_cons_succ, List.getElem?_cons_zero, List.length_cons, List.length_nil, List.set_cons_succ, List.set_cons_zero, Nat.reduceAdd, Nat.reduceLT, Nat.reduceSub, Nat.lt_irrefl, if_true, if_false, ite_true, ite_false, reduceIte, ↓reduceIte, Bool.not_true, Bool.not_false, Bool.false_eq_true, decide_true, not_true_eq_false, not_false_eq_true, decide_false, decide_eq_true_eq, Bool.not_eq_true', decide_eq_false_iff_not, Bool.not_eq_eq_eq_not, rx hl 11, rx hl 12, hd, hb] <;> rfl) ?_
  obtain ⟨e, he⟩ : ∃ e, (b : Int) + gR r 2 % 71 = e := ⟨_, rfl⟩
  have e0 : b ≤ e ∧ e ≤ b + 70 := by have := B 2; omega
  have Bb : Bd b := by unfold Bd; omega
  have Be : Bd e := by unfold Bd; omega
  refine sq_nx (ρ' := [.val (iL ns), .val (iL r), .val (nI n), .val (nI w), .val (iT H), .val (.int d), .val (nI b), .val (sp2 b e), .un, .un, .un, .un, .un, .un, .un, .un, .un, .un, .un, .un, .un, .un, .un, .un]) (by simp only [eK, eV, eB, e1, e2, aNil, aCons, eCall, eIf, cB, cAnd, cOr, cNot, cYes, cTru, eAnd, eOr, eNot, eNotT, e3c, eSl, eSlL, oNone, oSome, toB, toI, toL, pTru, pIsN, pNotN, isNone, gN, gT, gCons', gNil', sNil, thenF, sRet, sBrk, sCnt, sAsg, sOwn, sAug, sApp, sFz, sPar, mVal, mOwn, mNil, setAllE, ownL, sIf, sSetI, lSeq, lRng1, lRng2, lEnum, wipeE, pLen, pInt, pAbs, pTuple, pList, pNeg, pSub, pAddI, pPlus_i, pMul_i, pDiv_i, pDiv_j, mulOk_x, mulOk_y, Int.reduceLT, Int.reduceNeg, Nat.reduceLeDiff, pMod_i, pEq_i, pNe_i, pLt_i, pLe_i, pGt_i, pGe_i, pMin2, pMax2, pTup_s, pLst_s, outF, Option.bind_some, Option.bind_none, List.getElem?_cons_succ, List.getElem?_cons_zero, List.length_cons, List.length_nil, List.set_cons_succ, List.set_cons_zero, Nat.reduceAdd, Nat.reduceLT, Nat.reduceSub, Nat.lt_irrefl, if_true, if_false, ite_true, ite_false, reduceIte, ↓reduceIte, Bool.not_true, Bool.not_false, Bool.false_eq_true, decide_true, not_true_eq_false, not_false_eq_true, decide_false, decide_eq_true_eq, Bool.not_eq_true', decide_eq_false_iff_not, Bool.not_eq_eq_eq_not, rx hl 2, he] <;> rfl) ?_
  refine sq_asg (v := iT (bil n w d)) (ρ' := [.val (iL ns), .val (iL r), .val (nI n), .val (nI w), .val (iT H), .val (.int d), .val (nI b), .val (sp2 b e), .un, .val (iT (bil n w d)), .un, .un, .un, .un, .un, .un, .un, .un, .un, .un, .un, .un, .un, .un]) (e_tup (ec_mapI nI _ (rgn _ _ rfl) ln fun k hk => ⟨_, rfl, rfl, by simp only [eK, eV, eB, e1, e2, aNil, aCons, eCall, eIf, cB, cAnd, cOr, cNot, cYes, cTru, eAnd, eOr, eNot, eNotT, e3c, eSl, eSlL, oNone, oSome, toB, toI, toL, pTru, pIsN, pNotN, isNone, gN, gT, gCons', gNil', sNil, thenF, sRet, sBrk, sCnt, sAsg, sOwn, sAug, sApp, sFz, sPar, mVal, mOwn, mNil, setAllE, ownL, sIf, sSetI, lSeq, lRng1, lRng2, lEnum, wipeE, pLen, pInt, pAbs, pTuple, pList, pNeg, pSub, pAddI, pPlus_i, pMul_i, pDiv_i, pDiv_j, mulOk_x, mulOk_y, Int.reduceLT, Int.reduceNeg, Nat.reduceLeDiff, pMod_i, pEq_i, pNe_i, pLt_i, pLe_i, pGt_i, pGe_i, pMin2, pMax2, pTup_s, pLst_s, outF, Option.bind_some, Option.bind_none, List.getElem?_cons_succ, List.getElem?_cons_zero, List.length_cons, List.length_nil, List.set_cons_succ, List.set_cons_zero, Nat.reduceAdd, Nat.reduceLT, Nat.reduceSub, Nat.lt_irrefl, if_true, if_false, ite_true, ite_false, reduceIte, ↓reduceIte, Bool.not_true, Bool.not_false, Bool.false_eq_true, decide_true, not_true_eq_false, not_false_eq_true, decide_false, decide_eq_true_eq, Bool.not_eq_true', decide_eq_false_iff_not, Bool.not_eq_eq_eq_not, wp]⟩)) rfl ?_
  have bl : (bil n w d).length = n := by unfold bil; rw [List.length_map, List.length_range]
  have lat : (bil n w d).map (fun x => (x + 1) % (w : Int)) = bil n w (d + 1) := by
    unfold bil
    rw [List.map_map]
    apply List.map_congr_left
    intro k _
    show (((k : Int) + d) % (w : Int) + 1) % (w : Int) = _
    rw [Int.emod_add_emod, Int.add_assoc]
  refine sq_asg (v := iT (bil n w (d + 1))) (ρ' := [.val (iL ns), .val (iL r), .val (nI n), .val (nI w), .val (iT H), .val (.int d), .val (nI b), .val (sp2 b e), .un, .val (iT (bil n w d)), .un, .val (iT (bil n w (d + 1))), .un, .un, .un, .un, .un, .un, .un, .un, .un, .un, .un, .un]) (by
    rw [← lat]
    exact e_tup (ec_mapI PyData.int _ (l := bil n w d) rfl (by rw [bl]; omega) fun k hk => ⟨_, rfl, rfl, by simp only [eK, eV, eB, e1, e2, aNil, aCons, eCall, eIf, cB, cAnd, cOr, cNot, cYes, cTru, eAnd, eOr, eNot, eNotT, e3c, eSl, eSlL, oNone, oSome, toB, toI, toL, pTru, pIsN, pNotN, isNone, gN, gT, gCons', gNil', sNil, thenF, sRet, sBrk, sCnt, sAsg, sOwn, sAug, sApp, sFz, sPar, mVal, mOwn, mNil, setAllE, ownL, sIf, sSetI, lSeq, lRng1, lRng2, lEnum, wipeE, pLen, pInt, pAbs, pTuple, pList, pNeg, pSub, pAddI, pPlus_i, pMul_i, pDiv_i, pDiv_j, mulOk_x, mulOk_y, Int.reduceLT, Int.reduceNeg, Nat.reduceLeDiff, pMod_i, pEq_i, pNe_i, pLt_i, pLe_i, pGt_i, pGe_i, pMin2, pMax2, pTup_s, pLst_s, outF, Option.bind_some, Option.bind_none, List.getElem?_cons_succ, List.getElem?_cons_zero, List.length_cons, List.length_nil, List.set_cons_succ, List.set_cons_zero, Nat.reduceAdd, Nat.reduceLT, Nat.reduceSub, Nat.lt_irrefl, if_true, if_false, ite_true, ite_false, reduceIte, ↓reduceIte, Bool.not_true, Bool.not_false, Bool.false_eq_true, decide_true, not_true_eq_false, not_false_eq_true, decide_false, decide_eq_true_eq, Bool.not_eq_true', decide_eq_false_iff_not, Bool.not_eq_eq_eq_not, wp]⟩)) rfl ?_
  have lkB : ∀ k d, Lk (k + 2) (iT (bil n w d)) := fun k d => lk_ints (by unfold bil; rw [List.length_map]; omega)
  refine sq_nx (if_like hlike (v := .tuple [iT (bil n w d), iT (bil n w (d + 1))]) (by simp only [eK, eV, eB, e1, e2, aNil, aCons, eCall, eIf, cB, cAnd, cOr, cNot, cYes, cTru, eAnd, eOr, eNot, eNotT, e3c, eSl, eSlL, oNone, oSome, toB, toI, toL, pTru, pIsN, pNotN, isNone, gN, gT, gCons', gNil', sNil, thenF, sRet, sBrk, sCnt, sAsg, sOwn, sAug, sApp, sFz, sPar, mVal, mOwn, mNil, setAllE, ownL, sIf, sSetI, lSeq, lRng1, lRng2, lEnum, wipeE, pLen, pInt, pAbs, pTuple, pList, pNeg, pSub, pAddI, pPlus_i, pMul_i, pDiv_i, pDiv_j, mulOk_x, mulOk_y, Int.reduceLT, Int.reduceNeg, Nat.reduceLeDiff, pMod_i, pEq_i, pNe_i, pLt_i, pLe_i, pGt_i, pGe_i, pMin2, pMax2, pTup_s, pLst_s, outF, Option.bind_some, Option.bind_none, List.getElem?_cons_succ, List.getElem?_cons_zero, List.length_cons, List.length_nil, List.set_cons_succ, List.set_cons_zero, Nat.reduceAdd, Nat.reduceLT, Nat.reduceSub, Nat.lt_irrefl, if_true, if_false, ite_true, ite_false, reduceIte, ↓reduceIte, Bool.not_true, Bool.not_false, Bool.false_eq_true, decide_true, not_true_eq_false, not_false_eq_true, decide_false, decide_eq_true_eq, Bool.not_eq_true', decide_eq_false_iff_not, Bool.not_eq_eq_eq_not, hbill n1 w1]) (by simp only [eK, eV, eB, e1, e2, aNil, aCons, eCall, eIf, cB, cAnd, cOr, cNot, cYes, cTru, eAnd, eOr, eNot, eNotT, e3c, eSl, eSlL, oNone, oSome, toB, toI, toL, pTru, pIsN, pNotN, isNone, gN, gT, gCons', gNil', sNil, thenF, sRet, sBrk, sCnt, sAsg, sOwn, sAug, sApp, sFz, sPar, mVal, mOwn, mNil, setAllE, ownL, sIf, sSetI, lSeq, lRng1, lRng2, lEnum, wipeE, pLen, pInt, pAbs, pTuple, pList, pNeg, pSub, pAddI, pPlus_i, pMul_i, pDiv_i, pDiv_j, mulOk_x, mulOk_y, Int.reduceLT, Int.reduceNeg, Nat.reduceLeDiff, pMod_i, pEq_i, pNe_i, pLt_i, pLe_i, pGt_i, pGe_i, pMin2, pMax2, pTup_s, pLst_s, outF, Option.bind_some, Option.bind_none, List.getElem?_cons_succ, List.getElem?_cons_zero, List.length_cons, List.length_nil, List.set_cons_succ, List.set_cons_zero, Nat.reduceAdd, Nat.reduceLT, Nat.reduceSub, Nat.lt_irrefl, if_true, if_false, ite_true, ite_false, reduceIte, ↓reduceIte, Bool.not_true, Bool.not_false, Bool.false_eq_true, decide_true, not_true_eq_false, not_false_eq_true, decide_false, decide_eq_true_eq, Bool.not_eq_true', decide_eq_false_iff_not, Bool.not_eq_eq_eq_not]) (lk_pair (lkB _ _) (lkB _ _))) ?_
  have bget : ∀ k : Nat, k < n → pIx (iT (bil n w d)) (nI k) = some (.int (((k : Int) + d) % (w : Int))) := fun k hk => by
    rw [ix_t (l := bil n w d) (i := k) (by omega) (by omega), Int.toNat_natCast]
    unfold bil
    rw [List.getD_eq_getElem?_getD, List.getElem?_map, List.getElem?_eq_getElem (by rw [List.length_range]; exact hk), List.getElem_range]
    rfl
  obtain ⟨ons, hons⟩ : ∃ ons : List PV, ((List.range w).map fun (x : Nat) => PyData.tuple ((onL n w d x).map nI)) = ons := ⟨_, rfl⟩
  have lkO : Lk 8 (.tuple ons) := by
    rw [← hons]
    exact lk_map lw fun x _ => lk_map (by unfold onL; exact Nat.le_trans (List.length_filter_le ..) ln) fun k _ => .int _
  refine sq_asg (v := .tuple ons) (ρ' := [.val (iL ns), .val (iL r), .val (nI n), .val (nI w), .val (iT H), .val (.int d), .val (nI b), .val (sp2 b e), .un, .val (iT (bil n w d)), .un, .val (iT (bil n w (d + 1))), .val (.tuple ons), .un, .un, .un, .un, .un, .un, .un, .un, .un, .un, .un]) (by
    rw [← hons]
    exact e_tup (ec_map nI _ (rgw _ _ rfl) lw fun x hx => ⟨_, rfl, rfl, e_tup (ec_flt nI (fun (k : Nat) => decide (((k : Int) + d) % (w : Int) = (x : Int))) nI (rgn _ _ rfl) ln fun k hk => by
      have hk := List.mem_range.1 hk
      exact ⟨_, rfl, by simp only [eK, eV, eB, e1, e2, aNil, aCons, eCall, eIf, cB, cAnd, cOr, cNot, cYes, cTru, eAnd, eOr, eNot, eNotT, e3c, eSl, eSlL, oNone, oSome, toB, toI, toL, pTru, pIsN, pNotN, isNone, gN, gT, gCons', gNil', sNil, thenF, sRet, sBrk, sCnt, sAsg, sOwn, sAug, sApp, sFz, sPar, mVal, mOwn, mNil, setAllE, ownL, sIf, sSetI, lSeq, lRng1, lRng2, lEnum, wipeE, pLen, pInt, pAbs, pTuple, pList, pNeg, pSub, pAddI, pPlus_i, pMul_i, pDiv_i, pDiv_j, mulOk_x, mulOk_y, Int.reduceLT, Int.reduceNeg, Nat.reduceLeDiff, pMod_i, pEq_i, pNe_i, pLt_i, pLe_i, pGt_i, pGe_i, pMin2, pMax2, pTup_s, pLst_s, outF, Option.bind_some, Option.bind_none, List.getElem?_cons_succ, List.getElem?_cons_zero, List.length_cons, List.length_nil, List.set_cons_succ, List.set_cons_zero, Nat.reduceAdd, Nat.reduceLT, Nat.reduceSub, Nat.lt_irrefl, if_true, if_false, ite_true, ite_false, reduceIte, ↓reduceIte, Bool.not_true, Bool.not_false, Bool.false_eq_true, decide_true, not_true_eq_false, not_false_eq_true, decide_false, decide_eq_true_eq, Bool.not_eq_true', decide_eq_false_iff_not, Bool.not_eq_eq_eq_not, bget k hk], fun _ => rfl⟩)⟩)) rfl ?_
  refine sq_nx (if_like hlike (v := .tuple ons) (by
    rw [← hons]
    exact e_tup (ec_map nI _ (rgw _ _ rfl) lw fun x hx => ⟨_, rfl, rfl, by simp only [eK, eV, eB, e1, e2, aNil, aCons, eCall, eIf, cB, cAnd, cOr, cNot, cYes, cTru, eAnd, eOr, eNot, eNotT, e3c, eSl, eSlL, oNone, oSome, toB, toI, toL, pTru, pIsN, pNotN, isNone, gN, gT, gCons', gNil', sNil, thenF, sRet, sBrk, sCnt, sAsg, sOwn, sAug, sApp, sFz, sPar, mVal, mOwn, mNil, setAllE, ownL, sIf, sSetI, lSeq, lRng1, lRng2, lEnum, wipeE, pLen, pInt, pAbs, pTuple, pList, pNeg, pSub, pAddI, pPlus_i, pMul_i, pDiv_i, pDiv_j, mulOk_x, mulOk_y, Int.reduceLT, Int.reduceNeg, Nat.reduceLeDiff, pMod_i, pEq_i, pNe_i, pLt_i, pLe_i, pGt_i, pGe_i, pMin2, pMax2, pTup_s, pLst_s, outF, Option.bind_some, Option.bind_none, List.getElem?_cons_succ, List.getElem?_cons_zero, List.length_cons, List.length_nil, List.set_cons_succ, List.set_cons_zero, Nat.reduceAdd, Nat.reduceLT, Nat.reduceSub, Nat.lt_irrefl, if_true, if_false, ite_true, ite_false, reduceIte, ↓reduceIte, Bool.not_true, Bool.not_false, Bool.false_eq_true, decide_true, not_true_eq_false, not_false_eq_true, decide_false, decide_eq_true_eq, Bool.not_eq_true', decide_eq_false_iff_not, Bool.not_eq_eq_eq_not, hmen n1 w1]⟩)) (by simp only [eK, eV, eB, e1, e2, aNil, aCons, eCall, eIf, cB, cAnd, cOr, cNot, cYes, cTru, eAnd, eOr, eNot, eNotT, e3c, eSl, eSlL, oNone, oSome, toB, toI, toL, pTru, pIsN, pNotN, isNone, gN, gT, gCons', gNil', sNil, thenF, sRet, sBrk, sCnt, sAsg, sOwn, sAug, sApp, sFz, sPar, mVal, mOwn, mNil, setAllE, ownL, sIf, sSetI, lSeq, lRng1, lRng2, lEnum, wipeE, pLen, pInt, pAbs, pTuple, pList, pNeg, pSub, pAddI, pPlus_i, pMul_i, pDiv_i, pDiv_j, mulOk_x, mulOk_y, Int.reduceLT, Int.reduceNeg, Nat.reduceLeDiff, pMod_i, pEq_i, pNe_i, pLt_i, pLe_i, pGt_i, pGe_i, pMin2, pMax2, pTup_s, pLst_s, outF, Option.bind_some, Option.bind_none, List.getElem?_cons_succ, List.getElem?_cons_zero, List.length_cons, List.length_nil, List.set_cons_succ, List.set_cons_zero, Nat.reduceAdd, Nat.reduceLT, Nat.reduceSub, Nat.lt_irrefl, if_true, if_false, ite_true, ite_false, reduceIte, ↓reduceIte, Bool.not_true, Bool.not_false, Bool.false_eq_true, decide_true, not_true_eq_false, not_false_eq_true, decide_false, decide_eq_true_eq, Bool.not_eq_true', decide_eq_false_iff_not, Bool.not_eq_eq_eq_not]) lkO) ?_
  refine sq_nx (ρ' := [.val (iL ns), .val (iL r), .val (nI n), .val (nI w), .val (iT H), .val (.int d), .val (nI b), .val (sp2 b e), .un, .val (iT (bil n w d)), .un, .val (iT (bil n w (d + 1))), .val (.tuple ons), .val (nI w), .un, .un, .un, .un, .un, .un, .un, .un, .un, .un]) (by simp only [eK, eV, eB, e1, e2, aNil, aCons, eCall, eIf, cB, cAnd, cOr, cNot, cYes, cTru, eAnd, eOr, eNot, eNotT, e3c, eSl, eSlL, oNone, oSome, toB, toI, toL, pTru, pIsN, pNotN, isNone, gN, gT, gCons', gNil', sNil, thenF, sRet, sBrk, sCnt, sAsg, sOwn, sAug, sApp, sFz, sPar, mVal, mOwn, mNil, setAllE, ownL, sIf, sSetI, lSeq, lRng1, lRng2, lEnum, wipeE, pLen, pInt, pAbs, pTuple, pList, pNeg, pSub, pAddI, pPlus_i, pMul_i, pDiv_i, pDiv_j, mulOk_x, mulOk_y, Int.reduceLT, Int.reduceNeg, Nat.reduceLeDiff, pMod_i, pEq_i, pNe_i, pLt_i, pLe_i, pGt_i, pGe_i, pMin2, pMax2, pTup_s, pLst_s, outF, Option.bind_some, Option.bind_none, List.getElem?_cons_succ, List.getElem?_cons_zero, List.length_cons, List.length_nil, List.set_cons_succ, List.set_cons_zero, Nat.reduceAdd, Nat.reduceLT, Nat.reduceSub, Nat.lt_irrefl, if_true, if_false, ite_true, ite_false, reduceIte, ↓reduceIte, Bool.not_true, Bool.not_false, Bool.false_eq_true, decide_true, not_true_eq_false, not_false_eq_true, decide_false, decide_eq_true_eq, Bool.not_eq_true', decide_eq_false_iff_not, Bool.not_eq_eq_eq_not, hagain _ _]) ?_
  have bw : bil n w (d + w) = bil n w d := by
    unfold bil
    apply List.map_congr_left
    intro k _
    rw [← Int.add_assoc, Int.add_emod_right]
  refine sq_nx (if_f (or_f (no_like hlike (v := nI w) (by simp only [eK, eV, eB, e1, e2, aNil, aCons, eCall, eIf, cB, cAnd, cOr, cNot, cYes, cTru, eAnd, eOr, eNot, eNotT, e3c, eSl, eSlL, oNone, oSome, toB, toI, toL, pTru, pIsN, pNotN, isNone, gN, gT, gCons', gNil', sNil, thenF, sRet, sBrk, sCnt, sAsg, sOwn, sAug, sApp, sFz, sPar, mVal, mOwn, mNil, setAllE, ownL, sIf, sSetI, lSeq, lRng1, lRng2, lEnum, wipeE, pLen, pInt, pAbs, pTuple, pList, pNeg, pSub, pAddI, pPlus_i, pMul_i, pDiv_i, pDiv_j, mulOk_x, mulOk_y, Int.reduceLT, Int.reduceNeg, Nat.reduceLeDiff, pMod_i, pEq_i, pNe_i, pLt_i, pLe_i, pGt_i, pGe_i, pMin2, pMax2, pTup_s, pLst_s, outF, Option.bind_some, Option.bind_none, List.getElem?_cons_succ, List.getElem?_cons_zero, List.length_cons, List.length_nil, List.set_cons_succ, List.set_cons_zero, Nat.reduceAdd, Nat.reduceLT, Nat.reduceSub, Nat.lt_irrefl, if_true, if_false, ite_true, ite_false, reduceIte, ↓reduceIte, Bool.not_true, Bool.not_false, Bool.false_eq_true, decide_true, not_true_eq_false, not_false_eq_true, decide_false, decide_eq_true_eq, Bool.not_eq_true', decide_eq_false_iff_not, Bool.not_eq_eq_eq_not]) (by simp only [eK, eV, eB, e1, e2, aNil, aCons, eCall, eIf, cB, cAnd, cOr, cNot, cYes, cTru, eAnd, eOr, eNot, eNotT, e3c, eSl, eSlL, oNone, oSome, toB, toI, toL, pTru, pIsN, pNotN, isNone, gN, gT, gCons', gNil', sNil, thenF, sRet, sBrk, sCnt, sAsg, sOwn, sAug, sApp, sFz, sPar, mVal, mOwn, mNil, setAllE, ownL, sIf, sSetI, lSeq, lRng1, lRng2, lEnum, wipeE, pLen, pInt, pAbs, pTuple, pList, pNeg, pSub, pAddI, pPlus_i, pMul_i, pDiv_i, pDiv_j, mulOk_x, mulOk_y, Int.reduceLT, Int.reduceNeg, Nat.reduceLeDiff, pMod_i, pEq_i, pNe_i, pLt_i, pLe_i, pGt_i, pGe_i, pMin2, pMax2, pTup_s, pLst_s, outF, Option.bind_some, Option.bind_none, List.getElem?_cons_succ, List.getElem?_cons_zero, List.length_cons, List.length_nil, List.set_cons_succ, List.set_cons_zero, Nat.reduceAdd, Nat.reduceLT, Nat.reduceSub, Nat.lt_irrefl, if_true, if_false, ite_true, ite_false, reduceIte, ↓reduceIte, Bool.not_true, Bool.not_false, Bool.false_eq_true, decide_true, not_true_eq_false, not_false_eq_true, decide_false, decide_eq_true_eq, Bool.not_eq_true', decide_eq_false_iff_not, Bool.not_eq_eq_eq_not]) (.int _)) (no_like hlike (v := iT (bil n w d)) (by simp only [eK, eV, eB, e1, e2, aNil, aCons, eCall, eIf, cB, cAnd, cOr, cNot, cYes, cTru, eAnd, eOr, eNot, eNotT, e3c, eSl, eSlL, oNone, oSome, toB, toI, toL, pTru, pIsN, pNotN, isNone, gN, gT, gCons', gNil', sNil, thenF, sRet, sBrk, sCnt, sAsg, sOwn, sAug, sApp, sFz, sPar, mVal, mOwn, mNil, setAllE, ownL, sIf, sSetI, lSeq, lRng1, lRng2, lEnum, wipeE, pLen, pInt, pAbs, pTuple, pList, pNeg, pSub, pAddI, pPlus_i, pMul_i, pDiv_i, pDiv_j, mulOk_x, mulOk_y, Int.reduceLT, Int.reduceNeg, Nat.reduceLeDiff, pMod_i, pEq_i, pNe_i, pLt_i, pLe_i, pGt_i, pGe_i, pMin2, pMax2, pTup_s, pLst_s, outF, Option.bind_some, Option.bind_none, List.getElem?_cons_succ, List.getElem?_cons_zero, List.length_cons, List.length_nil, List.set_cons_succ, List.set_cons_zero, Nat.reduceAdd, Nat.reduceLT, Nat.reduceSub, Nat.lt_irrefl, if_true, if_false, ite_true, ite_false, reduceIte, ↓reduceIte, Bool.not_true, Bool.not_false, Bool.false_eq_true, decide_true, not_true_eq_false, not_false_eq_true, decide_false, decide_eq_true_eq, Bool.not_eq_true', decide_eq_false_iff_not, Bool.not_eq_eq_eq_not, hbill n1 w1, bw]) (by simp only [eK, eV, eB, e1, e2, aNil, aCons, eCall, eIf, cB, cAnd, cOr, cNot, cYes, cTru, eAnd, eOr, eNot, eNotT, e3c, eSl, eSlL, oNone, oSome, toB, toI, toL, pTru, pIsN, pNotN, isNone, gN, gT, gCons', gNil', sNil, thenF, sRet, sBrk, sCnt, sAsg, sOwn, sAug, sApp, sFz, sPar, mVal, mOwn, mNil, setAllE, ownL, sIf, sSetI, lSeq, lRng1, lRng2, lEnum, wipeE, pLen, pInt, pAbs, pTuple, pList, pNeg, pSub, pAddI, pPlus_i, pMul_i, pDiv_i, pDiv_j, mulOk_x, mulOk_y, Int.reduceLT, Int.reduceNeg, Nat.reduceLeDiff, pMod_i, pEq_i, pNe_i, pLt_i, pLe_i, pGt_i, pGe_i, pMin2, pMax2, pTup_s, pLst_s, outF, Option.bind_some, Option.bind_none, List.getElem?_cons_succ, List.getElem?_cons_zero, List.length_cons, List.length_nil, List.set_cons_succ, List.set_cons_zero, Nat.reduceAdd, Nat.reduceLT, Nat.reduceSub, Nat.lt_irrefl, if_true, if_false, ite_true, ite_false, reduceIte, ↓reduceIte, Bool.not_true, Bool.not_false, Bool.false_eq_true, decide_true, not_true_eq_false, not_false_eq_true, decide_false, decide_eq_true_eq, Bool.not_eq_true', decide_eq_false_iff_not, Bool.not_eq_eq_eq_not]) (lkB _ _))) rfl) ?_
  obtain ⟨P, hP⟩ : ∃ P : Nat, gR r 14 % (n : Int) = P := ⟨(gR r 14 % (n : Int)).toNat, by have := Int.emod_nonneg (gR r 14) (show (n : Int) ≠ 0 by omega); omega⟩
  have P0 : P < n := by have := Int.emod_lt_of_pos (gR r 14) np; omega
  obtain ⟨O, hO⟩ : ∃ O, gR r 15 % 20 = O := ⟨_, rfl⟩
  refine sq_nx (ρ' := [.val (iL ns), .val (iL r), .val (nI n), .val (nI w), .val (iT H), .val (.int d), .val (nI b), .val (sp2 b e), .val (nI P), .val (iT (bil n w d)), .un, .val (iT (bil n w (d + 1))), .val (.tuple ons), .val (nI w), .val (.int O), .un, .un, .un, .un, .un, .un, .un, .un, .un]) (by simp only [eK, eV, eB, e1, e2, aNil, aCons, eCall, eIf, cB, cAnd, cOr, cNot, cYes, cTru, eAnd, eOr, eNot, eNotT, e3c, eSl, eSlL, oNone, oSome, toB, toI, toL, pTru, pIsN, pNotN, isNone, gN, gT, gCons', gNil', sNil, thenF, sRet, sBrk, sCnt, sAsg, sOwn, sAug, sApp, sFz, sPar, mVal, mOwn, mNil, setAllE, ownL, sIf, sSetI, lSeq, lRng1, lRng2, lEnum, wipeE, pLen, pInt, pAbs, pTuple, pList, pNeg, pSub, pAddI, pPlus_i, pMul_i, pDiv_i, pDiv_j, mulOk_x, mulOk_y, Int.reduceLT, Int.reduceNeg, Nat.reduceLeDiff, pMod_i, pEq_i, pNe_i, pLt_i, pLe_i, pGt_i, pGe_i, pMin2, pMax2, pTup_s, pLst_s, outF, Option.bind_some, Option.bind_none, List.getElem?_cons_succ, List.getElem?_cons_zero, List.length_cons, List.length_nil, List.set_cons_succ, List.set_cons_zero, Nat.reduceAdd, Nat.reduceLT, Nat.reduceSub, Nat.lt_irrefl, if_true, if_false, ite_true, ite_false, reduceIte, ↓reduceIte, Bool.not_true, Bool.not_false, Bool.false_eq_true, decide_true, not_true_eq_false, not_false_eq_true, decide_false, decide_eq_true_eq, Bool.not_eq_true', decide_eq_false_iff_not, Bool.not_eq_eq_eq_not, rx hl 14, rx hl 15, np, hP, hO] <;> rfl) ?_
  refine sq_nx (ρ' := [.val (iL ns), .val (iL r), .val (nI n), .val (nI w), .val (iT H), .val (.int d), .val (nI b), .val (sp2 b e), .val (nI P), .val (iT (bil n w d)), .un, .val (iT (bil n w (d + 1))), .val (.tuple ons), .val (nI w), .val (.int O), .val (iL []), .val (.int 0), .un, .un, .un, .un, .un, .un, .un]) (by simp only [eK, eV, eB, e1, e2, aNil, aCons, eCall, eIf, cB, cAnd, cOr, cNot, cYes, cTru, eAnd, eOr, eNot, eNotT, e3c, eSl, eSlL, oNone, oSome, toB, toI, toL, pTru, pIsN, pNotN, isNone, gN, gT, gCons', gNil', sNil, thenF, sRet, sBrk, sCnt, sAsg, sOwn, sAug, sApp, sFz, sPar, mVal, mOwn, mNil, setAllE, ownL, sIf, sSetI, lSeq, lRng1, lRng2, lEnum, wipeE, pLen, pInt, pAbs, pTuple, pList, pNeg, pSub, pAddI, pPlus_i, pMul_i, pDiv_i, pDiv_j, mulOk_x, mulOk_y, Int.reduceLT, Int.reduceNeg, Nat.reduceLeDiff, pMod_i, pEq_i, pNe_i, pLt_i, pLe_i, pGt_i, pGe_i, pMin2, pMax2, pTup_s, pLst_s, outF, Option.bind_some, Option.bind_none, List.getElem?_cons_succ, List.getElem?_cons_zero, List.length_cons, List.length_nil, List.set_cons_succ, List.set_cons_zero, Nat.reduceAdd, Nat.reduceLT, Nat.reduceSub, Nat.lt_irrefl, if_true, if_false, ite_true, ite_false, reduceIte, ↓reduceIte, Bool.not_true, Bool.not_false, Bool.false_eq_true, decide_true, not_true_eq_false, not_false_eq_true, decide_false, decide_eq_true_eq, Bool.not_eq_true', decide_eq_false_iff_not, Bool.not_eq_eq_eq_not, List.map_nil] <;> rfl) ?_
  have rl : (rng b e).length ≤ 70 := by rw [rng_length]; omega
  refine sq_range (n := w) (fun i ρ => ∃ (xs ds : Slot) (dys : List Int) (wk : Int), ρ = [.val (iL ns), .val (iL r), .val (nI n), .val (nI w), .val (iT H), .val (.int d), .val (nI b), .val (sp2 b e), .val (nI P), .val (iT (bil n w d)), xs, .val (iT (bil n w (d + 1))), .val (.tuple ons), .val (nI w), .val (.int O), .val (iL dys), .val (.int wk), ds, .un, .un, .un, .un, .un, .un] ∧ dys.Perm ((rng b e).filter fun t => decide (((P : Int) + t) % (w : Int) < i)) ∧ wk = (dys.map fun t => H.getD (((P : Int) + t) % (w : Int)).toNat 0).sum) (rgw _ _ rfl) ⟨_, _, [], 0, rfl, by
    rw [List.filter_eq_nil_iff.2]
    intro t _
    have := Int.emod_nonneg ((P : Int) + t) (show (w : Int) ≠ 0 by omega)
    rw [decide_eq_true_eq]
    omega, rfl⟩ ?_ ?_
  · rintro i hi _ ⟨xs, ds, dys, wk, rfl, pe, hwk⟩
    have ix : pIx (iT H) (nI i) = some (.int (H.getD i 0)) := by
      rw [ix_t (l := H) (i := i) (by omega) (by omega), Int.toNat_natCast]
    have hx := Hb _ (gd_mem (t := H) (k := i) (by omega))
    obtain ⟨x, hgx⟩ : ∃ x, H.getD i 0 = x := ⟨_, rfl⟩
    rw [hgx] at ix hx
    have dl : (dayL w P i b e).length ≤ 70 := by unfold dayL; exact Nat.le_trans (List.length_filter_le ..) rl
    have dyl : dys.length ≤ 70 := by
      rw [pe.length_eq]
      exact Nat.le_trans (List.length_filter_le ..) rl
    obtain ⟨du, hdu⟩ : ∃ du, dayL w P i b e = du := ⟨_, rfl⟩
    have dmem : ∀ t ∈ du, ((P : Int) + t) % (w : Int) = i := fun t ht => by
      rw [← hdu] at ht
      exact of_decide_eq_true (List.mem_filter.1 ht).2
    rw [hdu] at dl
    refine ⟨[.val (iL ns), .val (iL r), .val (nI n), .val (nI w), .val (iT H), .val (.int d), .val (nI b), .val (sp2 b e), .val (nI P), .val (iT (bil n w d)), .val (nI i), .val (iT (bil n w (d + 1))), .val (.tuple ons), .val (nI w), .val (.int O), .val (iL dys), .val (.int wk), ds, .un, .un, .un, .un, .un, .un], [.val (iL ns), .val (iL r), .val (nI n), .val (nI w), .val (iT H), .val (.int d), .val (nI b), .val (sp2 b e), .val (nI P), .val (iT (bil n w d)), .val (nI i), .val (iT (bil n w (d + 1))), .val (.tuple ons), .val (nI w), .val (.int O), .val (iL (dys ++ du)), .val (.int (wk + (du.length : Int) * x)), .val (iT du), .un, .un, .un, .un, .un, .un], rfl, ?_, _, _, dys ++ du, _, rfl, ?_, ?_⟩
    · refine sq_asg (v := iT du) (ρ' := [.val (iL ns), .val (iL r), .val (nI n), .val (nI w), .val (iT H), .val (.int d), .val (nI b), .val (sp2 b e), .val (nI P), .val (iT (bil n w d)), .val (nI i), .val (iT (bil n w (d + 1))), .val (.tuple ons), .val (nI w), .val (.int O), .val (iL dys), .val (.int wk), .val (iT du), .un, .un, .un, .un, .un, .un]) (by
        rw [← hdu]
        exact e_tup (ec_flt PyData.int (fun t => decide (((P : Int) + t) % (w : Int) = (i : Int))) PyData.int (rg_2 (a := b) (b := e) rfl rfl (by omega) (by omega) (by omega) (by omega)) (by omega) fun t ht => ⟨_, rfl, by simp only [eK, eV, eB, e1, e2, aNil, aCons, eCall, eIf, cB, cAnd, cOr, cNot, cYes, cTru, eAnd, eOr, eNot, eNotT, e3c, eSl, eSlL, oNone, oSome, toB, toI, toL, pTru, pIsN, pNotN, isNone, gN, gT, gCons', gNil', sNil, thenF, sRet, sBrk, sCnt, sAsg, sOwn, sAug, sApp, sFz, sPar, mVal, mOwn, mNil, setAllE, ownL, sIf, sSetI, lSeq, lRng1, lRng2, lEnum, wipeE, pLen, pInt, pAbs, pTuple, pList, pNeg, pSub, pAddI, pPlus_i, pMul_i, pDiv_i, pDiv_j, mulOk_x, mulOk_y, Int.reduceLT, Int.reduceNeg, Nat.reduceLeDiff, pMod_i, pEq_i, pNe_i, pLt_i, pLe_i, pGt_i, pGe_i, pMin2, pMax2, pTup_s, pLst_s, outF, Option.bind_some, Option.bind_none, List.getElem?_cons_succ, List.getElem?_cons_zero, List.length_cons, List.length_nil, List.set_cons_succ, List.set_cons_zero, Nat.reduceAdd, Nat.reduceLT, Nat.reduceSub, Nat.lt_irrefl, if_true, if_false, ite_true, ite_false, reduceIte, ↓reduceIte, Bool.not_true, Bool.not_false, Bool.false_eq_true, decide_true, not_true_eq_false, not_false_eq_true, decide_false, decide_eq_true_eq, Bool.not_eq_true', decide_eq_false_iff_not, Bool.not_eq_eq_eq_not, wp], fun _ => rfl⟩)) rfl ?_
      refine sq_nx (if_like hlike (v := iT du) (by simp only [eK, eV, eB, e1, e2, aNil, aCons, eCall, eIf, cB, cAnd, cOr, cNot, cYes, cTru, eAnd, eOr, eNot, eNotT, e3c, eSl, eSlL, oNone, oSome, toB, toI, toL, pTru, pIsN, pNotN, isNone, gN, gT, gCons', gNil', sNil, thenF, sRet, sBrk, sCnt, sAsg, sOwn, sAug, sApp, sFz, sPar, mVal, mOwn, mNil, setAllE, ownL, sIf, sSetI, lSeq, lRng1, lRng2, lEnum, wipeE, pLen, pInt, pAbs, pTuple, pList, pNeg, pSub, pAddI, pPlus_i, pMul_i, pDiv_i, pDiv_j, mulOk_x, mulOk_y, Int.reduceLT, Int.reduceNeg, Nat.reduceLeDiff, pMod_i, pEq_i, pNe_i, pLt_i, pLe_i, pGt_i, pGe_i, pMin2, pMax2, pTup_s, pLst_s, outF, Option.bind_some, Option.bind_none, List.getElem?_cons_succ, List.getElem?_cons_zero, List.length_cons, List.length_nil, List.set_cons_succ, List.set_cons_zero, Nat.reduceAdd, Nat.reduceLT, Nat.reduceSub, Nat.lt_irrefl, if_true, if_false, ite_true, ite_false, reduceIte, ↓reduceIte, Bool.not_true, Bool.not_false, Bool.false_eq_true, decide_true, not_true_eq_false, not_false_eq_true, decide_false, decide_eq_true_eq, Bool.not_eq_true', decide_eq_false_iff_not, Bool.not_eq_eq_eq_not, hdays w1 Bb Be, hdu]) (by simp only [eK, eV, eB, e1, e2, aNil, aCons, eCall, eIf, cB, cAnd, cOr, cNot, cYes, cTru, eAnd, eOr, eNot, eNotT, e3c, eSl, eSlL, oNone, oSome, toB, toI, toL, pTru, pIsN, pNotN, isNone, gN, gT, gCons', gNil', sNil, thenF, sRet, sBrk, sCnt, sAsg, sOwn, sAug, sApp, sFz, sPar, mVal, mOwn, mNil, setAllE, ownL, sIf, sSetI, lSeq, lRng1, lRng2, lEnum, wipeE, pLen, pInt, pAbs, pTuple, pList, pNeg, pSub, pAddI, pPlus_i, pMul_i, pDiv_i, pDiv_j, mulOk_x, mulOk_y, Int.reduceLT, Int.reduceNeg, Nat.reduceLeDiff, pMod_i, pEq_i, pNe_i, pLt_i, pLe_i, pGt_i, pGe_i, pMin2, pMax2, pTup_s, pLst_s, outF, Option.bind_some, Option.bind_none, List.getElem?_cons_succ, List.getElem?_cons_zero, List.length_cons, List.length_nil, List.set_cons_succ, List.set_cons_zero, Nat.reduceAdd, Nat.reduceLT, Nat.reduceSub, Nat.lt_irrefl, if_true, if_false, ite_true, ite_false, reduceIte, ↓reduceIte, Bool.not_true, Bool.not_false, Bool.false_eq_true, decide_true, not_true_eq_false, not_false_eq_true, decide_false, decide_eq_true_eq, Bool.not_eq_true', decide_eq_false_iff_not, Bool.not_eq_eq_eq_not]) (lk_ints (by omega))) ?_
      refine sq_nx (ρ' := [.val (iL ns), .val (iL r), .val (nI n), .val (nI w), .val (iT H), .val (.int d), .val (nI b), .val (sp2 b e), .val (nI P), .val (iT (bil n w d)), .val (nI i), .val (iT (bil n w (d + 1))), .val (.tuple ons), .val (nI w), .val (.int O), .val (iL (dys ++ du)), .val (.int (wk + (du.length : Int) * x)), .val (iT du), .un, .un, .un, .un, .un, .un]) (by
        have pl : pPlus (iL dys) (.list (du.map PyData.int)) = some (iL (dys ++ du)) := by
          rw [show iL (dys ++ du) = .list (dys.map PyData.int ++ du.map PyData.int) by unfold iL; rw [List.map_append]]
          exact pPlus_l (by rw [List.length_map, List.length_map]; omega)
        simp only [eK, eV, eB, e1, e2, aNil, aCons, eCall, eIf, cB, cAnd, cOr, cNot, cYes, cTru, eAnd, eOr, eNot, eNotT, e3c, eSl, eSlL, oNone, oSome, toB, toI, toL, pTru, pIsN, pNotN, isNone, gN, gT, gCons', gNil', sNil, thenF, sRet, sBrk, sCnt, sAsg, sOwn, sAug, sApp, sFz, sPar, mVal, mOwn, mNil, setAllE, ownL, sIf, sSetI, lSeq, lRng1, lRng2, lEnum, wipeE, pLen, pInt, pAbs, pTuple, pList, pNeg, pSub, pAddI, pPlus_i, pMul_i, pDiv_i, pDiv_j, mulOk_x, mulOk_y, Int.reduceLT, Int.reduceNeg, Nat.reduceLeDiff, pMod_i, pEq_i, pNe_i, pLt_i, pLe_i, pGt_i, pGe_i, pMin2, pMax2, pTup_s, pLst_s, outF, Option.bind_some, Option.bind_none, List.getElem?_cons_succ, List.getElem?_cons_zero, List.length_cons, List.length_nil, List.set_cons_succ, List.set_cons_zero, Nat.reduceAdd, Nat.reduceLT, Nat.reduceSub, Nat.lt_irrefl, if_true, if_false, ite_true, ite_false, reduceIte, ↓reduceIte, Bool.not_true, Bool.not_false, Bool.false_eq_true, decide_true, not_true_eq_false, not_false_eq_true, decide_false, decide_eq_true_eq, Bool.not_eq_true', decide_eq_false_iff_not, Bool.not_eq_eq_eq_not, pl, ix, List.length_map, mulOk_r (show x.natAbs < 2 ^ 63 by omega)]) ?_
      by_cases h0 : 0 < du.length
      · have ixd := ix_t (l := du) (i := (du.length : Int) - 1) (by omega) (by omega)
        have tm := gd_mem (t := du) (k := ((du.length : Int) - 1).toNat) (by omega)
        generalize du.getD ((du.length : Int) - 1).toNat 0 = t0 at *
        have hin : pNotIn (nI P) (.tuple ((onL n w t0 i).map nI)) = some (.bool false) := by
          have q := pNotIn_t (P : Int) ((onL n w t0 i).map fun (k : Nat) => (k : Int)) (by decide)
          rw [List.map_map, decide_eq_true (List.mem_map.2 ⟨P, (show P ∈ onL n w t0 i from List.mem_filter.2 ⟨List.mem_range.2 P0, decide_eq_true (dmem t0 tm)⟩), rfl⟩)] at q
          exact q
        refine if_f (and_t (by simp only [eK, eV, eB, e1, e2, aNil, aCons, eCall, eIf, cB, cAnd, cOr, cNot, cYes, cTru, eAnd, eOr, eNot, eNotT, e3c, eSl, eSlL, oNone, oSome, toB, toI, toL, pTru, pIsN, pNotN, isNone, gN, gT, gCons', gNil', sNil, thenF, sRet, sBrk, sCnt, sAsg, sOwn, sAug, sApp, sFz, sPar, mVal, mOwn, mNil, setAllE, ownL, sIf, sSetI, lSeq, lRng1, lRng2, lEnum, wipeE, pLen, pInt, pAbs, pTuple, pList, pNeg, pSub, pAddI, pPlus_i, pMul_i, pDiv_i, pDiv_j, mulOk_x, mulOk_y, Int.reduceLT, Int.reduceNeg, Nat.reduceLeDiff, pMod_i, pEq_i, pNe_i, pLt_i, pLe_i, pGt_i, pGe_i, pMin2, pMax2, pTup_s, pLst_s, outF, Option.bind_some, Option.bind_none, List.getElem?_cons_succ, List.getElem?_cons_zero, List.length_cons, List.length_nil, List.set_cons_succ, List.set_cons_zero, Nat.reduceAdd, Nat.reduceLT, Nat.reduceSub, Nat.lt_irrefl, if_true, if_false, ite_true, ite_false, reduceIte, ↓reduceIte, Bool.not_true, Bool.not_false, Bool.false_eq_true, decide_true, not_true_eq_false, not_false_eq_true, decide_false, decide_eq_true_eq, Bool.not_eq_true', decide_eq_false_iff_not, Bool.not_eq_eq_eq_not, List.length_map, (by omega : (0 : Int) < (du.length : Int))]) (by simp only [eK, eV, eB, e1, e2, aNil, aCons, eCall, eIf, cB, cAnd, cOr, cNot, cYes, cTru, eAnd, eOr, eNot, eNotT, e3c, eSl, eSlL, oNone, oSome, toB, toI, toL, pTru, pIsN, pNotN, isNone, gN, gT, gCons', gNil', sNil, thenF, sRet, sBrk, sCnt, sAsg, sOwn, sAug, sApp, sFz, sPar, mVal, mOwn, mNil, setAllE, ownL, sIf, sSetI, lSeq, lRng1, lRng2, lEnum, wipeE, pLen, pInt, pAbs, pTuple, pList, pNeg, pSub, pAddI, pPlus_i, pMul_i, pDiv_i, pDiv_j, mulOk_x, mulOk_y, Int.reduceLT, Int.reduceNeg, Nat.reduceLeDiff, pMod_i, pEq_i, pNe_i, pLt_i, pLe_i, pGt_i, pGe_i, pMin2, pMax2, pTup_s, pLst_s, outF, Option.bind_some, Option.bind_none, List.getElem?_cons_succ, List.getElem?_cons_zero, List.length_cons, List.length_nil, List.set_cons_succ, List.set_cons_zero, Nat.reduceAdd, Nat.reduceLT, Nat.reduceSub, Nat.lt_irrefl, if_true, if_false, ite_true, ite_false, reduceIte, ↓reduceIte, Bool.not_true, Bool.not_false, Bool.false_eq_true, decide_true, not_true_eq_false, not_false_eq_true, decide_false, decide_eq_true_eq, Bool.not_eq_true', decide_eq_false_iff_not, Bool.not_eq_eq_eq_not, List.length_map, ixd, hmen n1 w1, hin])) rfl
      · exact if_f (and_f (by simp only [eK, eV, eB, e1, e2, aNil, aCons, eCall, eIf, cB, cAnd, cOr, cNot, cYes, cTru, eAnd, eOr, eNot, eNotT, e3c, eSl, eSlL, oNone, oSome, toB, toI, toL, pTru, pIsN, pNotN, isNone, gN, gT, gCons', gNil', sNil, thenF, sRet, sBrk, sCnt, sAsg, sOwn, sAug, sApp, sFz, sPar, mVal, mOwn, mNil, setAllE, ownL, sIf, sSetI, lSeq, lRng1, lRng2, lEnum, wipeE, pLen, pInt, pAbs, pTuple, pList, pNeg, pSub, pAddI, pPlus_i, pMul_i, pDiv_i, pDiv_j, mulOk_x, mulOk_y, Int.reduceLT, Int.reduceNeg, Nat.reduceLeDiff, pMod_i, pEq_i, pNe_i, pLt_i, pLe_i, pGt_i, pGe_i, pMin2, pMax2, pTup_s, pLst_s, outF, Option.bind_some, Option.bind_none, List.getElem?_cons_succ, List.getElem?_cons_zero, List.length_cons, List.length_nil, List.set_cons_succ, List.set_cons_zero, Nat.reduceAdd, Nat.reduceLT, Nat.reduceSub, Nat.lt_irrefl, if_true, if_false, ite_true, ite_false, reduceIte, ↓reduceIte, Bool.not_true, Bool.not_false, Bool.false_eq_true, decide_true, not_true_eq_false, not_false_eq_true, decide_false, decide_eq_true_eq, Bool.not_eq_true', decide_eq_false_iff_not, Bool.not_eq_eq_eq_not, List.length_map]; exact congrArg some (decide_eq_false (by omega)))) rfl
    · have := flt_step (rng b e) (fun t => ((P : Int) + t) % (w : Int)) i
      refine (List.Perm.append_right du pe).trans ?_
      rw [← hdu]
      exact this
    · rw [List.map_append, List.sum_append, ← hwk, sum_const (l := du) (c := x) fun t ht => ?_]
      rw [dmem t ht, Int.toNat_natCast]
      exact hgx
  rintro _ ⟨xs, ds, dys, wk, rfl, pe, hwk⟩
  rw [filter_all (fun t _ => decide_eq_true (Int.emod_lt_of_pos _ wp))] at pe
  refine sq_nx (if_f (by
    have q := lstRg_e (f := e2 pIx (eB 7) (eK (.int 0))) (g := e2 pIx (eB 7) (eK (.int 1))) (ρ := [.val (iL ns), .val (iL r), .val (nI n), .val (nI w), .val (iT H), .val (.int d), .val (nI b), .val (sp2 b e), .val (nI P), .val (iT (bil n w d)), xs, .val (iT (bil n w (d + 1))), .val (.tuple ons), .val (nI w), .val (.int O), .val (iL dys), .val (.int wk), ds, .un, .un, .un, .un, .un, .un]) (a := b) (b := e) rfl rfl (by omega) (by omega) (by omega) (by omega) (by omega)
    simp only [eK, eV, eB, e1, e2, aNil, aCons, eCall, eIf, cB, cAnd, cOr, cNot, cYes, cTru, eAnd, eOr, eNot, eNotT, e3c, eSl, eSlL, oNone, oSome, toB, toI, toL, pTru, pIsN, pNotN, isNone, gN, gT, gCons', gNil', sNil, thenF, sRet, sBrk, sCnt, sAsg, sOwn, sAug, sApp, sFz, sPar, mVal, mOwn, mNil, setAllE, ownL, sIf, sSetI, lSeq, lRng1, lRng2, lEnum, wipeE, pLen, pInt, pAbs, pTuple, pList, pNeg, pSub, pAddI, pPlus_i, pMul_i, pDiv_i, pDiv_j, mulOk_x, mulOk_y, Int.reduceLT, Int.reduceNeg, Nat.reduceLeDiff, pMod_i, pEq_i, pNe_i, pLt_i, pLe_i, pGt_i, pGe_i, pMin2, pMax2, pTup_s, pLst_s, outF, Option.bind_some, Option.bind_none, List.getElem?_cons_succ, List.getElem?_cons_zero, List.length_cons, List.length_nil, List.set_cons_succ, List.set_cons_zero, Nat.reduceAdd, Nat.reduceLT, Nat.reduceSub, Nat.lt_irrefl, if_true, if_false, ite_true, ite_false, reduceIte, ↓reduceIte, Bool.not_true, Bool.not_false, Bool.false_eq_true, decide_true, not_true_eq_false, not_false_eq_true, decide_false, decide_eq_true_eq, Bool.not_eq_true', decide_eq_false_iff_not, Bool.not_eq_eq_eq_not, srt_int, msort_eq pe (rng_sorted _ _), q, pNe_iL]) rfl) ?_
  obtain ⟨M, hM⟩ : ∃ M, (e - (b : Int)) * (if ((P : Int) - O) % (w : Int) = 0 then 1 else 0) = M := ⟨_, rfl⟩
  have mt : ∀ (f : Int → Bool), (∀ t, f t = decide (((P : Int) - O) % (w : Int) = 0)) → (((rng b e).filter f).length : Int) = M := fun f hf => by
    rw [← hM]
    by_cases c : ((P : Int) - O) % (w : Int) = 0
    · rw [if_pos c, filter_all (fun t _ => by rw [hf t]; exact decide_eq_true c), rng_length]
      omega
    · rw [if_neg c, filter_none (fun t _ => by rw [hf t]; exact decide_eq_false c), Int.mul_zero]
      rfl
  refine sq_nx (ρ' := [.val (iL ns), .val (iL r), .val (nI n), .val (nI w), .val (iT H), .val (.int d), .val (nI b), .val (sp2 b e), .val (nI P), .val (iT (bil n w d)), xs, .val (iT (bil n w (d + 1))), .val (.tuple ons), .val (nI w), .val (.int O), .val (iL dys), .val (.int wk), ds, .val (.int M), .un, .un, .un, .un, .un]) (by
    have q1 : pIx (.tuple [.int b, .int e]) (.int 0) = some (.int b) := rfl
    have q2 : pIx (.tuple [.int b, .int e]) (.int 1) = some (.int e) := rfl
    have q3 : ∀ i, mulOk (e - b) i = true := fun i => mulOk_l (by omega)
    simp only [eK, eV, eB, e1, e2, aNil, aCons, eCall, eIf, cB, cAnd, cOr, cNot, cYes, cTru, eAnd, eOr, eNot, eNotT, e3c, eSl, eSlL, oNone, oSome, toB, toI, toL, pTru, pIsN, pNotN, isNone, gN, gT, gCons', gNil', sNil, thenF, sRet, sBrk, sCnt, sAsg, sOwn, sAug, sApp, sFz, sPar, mVal, mOwn, mNil, setAllE, ownL, sIf, sSetI, lSeq, lRng1, lRng2, lEnum, wipeE, pLen, pInt, pAbs, pTuple, pList, pNeg, pSub, pAddI, pPlus_i, pMul_i, pDiv_i, pDiv_j, mulOk_x, mulOk_y, Int.reduceLT, Int.reduceNeg, Nat.reduceLeDiff, pMod_i, pEq_i, pNe_i, pLt_i, pLe_i, pGt_i, pGe_i, pMin2, pMax2, pTup_s, pLst_s, outF, Option.bind_some, Option.bind_none, List.getElem?_cons_succ, List.getElem?_cons_zero, List.length_cons, List.length_nil, List.set_cons_succ, List.set_cons_zero, Nat.reduceAdd, Nat.reduceLT, Nat.reduceSub, Nat.lt_irrefl, if_true, if_false, ite_true, ite_false, reduceIte, ↓reduceIte, Bool.not_true, Bool.not_false, Bool.false_eq_true, decide_true, not_true_eq_false, not_false_eq_true, decide_false, decide_eq_true_eq, Bool.not_eq_true', decide_eq_false_iff_not, Bool.not_eq_eq_eq_not, q1, q2, q3, wp, hM]) ?_
  refine sq_nx (if_like hlike (v := .tuple [.int M, .int M]) (by
    have h1 := mt (fun t => decide (((P : Int) + t) % (w : Int) = (O + t) % (w : Int))) fun t => decide_eq_decide.2 (by rw [Int.emod_eq_emod_iff_emod_sub_eq_zero, show (P : Int) + t - (O + t) = P - O by omega])
    have h2 := mt (fun t => decide ((O + t) % (w : Int) = ((P : Int) + t) % (w : Int))) fun t => decide_eq_decide.2 (by rw [eq_comm, Int.emod_eq_emod_iff_emod_sub_eq_zero, show (P : Int) + t - (O + t) = P - O by omega])
    simp only [eK, eV, eB, e1, e2, aNil, aCons, eCall, eIf, cB, cAnd, cOr, cNot, cYes, cTru, eAnd, eOr, eNot, eNotT, e3c, eSl, eSlL, oNone, oSome, toB, toI, toL, pTru, pIsN, pNotN, isNone, gN, gT, gCons', gNil', sNil, thenF, sRet, sBrk, sCnt, sAsg, sOwn, sAug, sApp, sFz, sPar, mVal, mOwn, mNil, setAllE, ownL, sIf, sSetI, lSeq, lRng1, lRng2, lEnum, wipeE, pLen, pInt, pAbs, pTuple, pList, pNeg, pSub, pAddI, pPlus_i, pMul_i, pDiv_i, pDiv_j, mulOk_x, mulOk_y, Int.reduceLT, Int.reduceNeg, Nat.reduceLeDiff, pMod_i, pEq_i, pNe_i, pLt_i, pLe_i, pGt_i, pGe_i, pMin2, pMax2, pTup_s, pLst_s, outF, Option.bind_some, Option.bind_none, List.getElem?_cons_succ, List.getElem?_cons_zero, List.length_cons, List.length_nil, List.set_cons_succ, List.set_cons_zero, Nat.reduceAdd, Nat.reduceLT, Nat.reduceSub, Nat.lt_irrefl, if_true, if_false, ite_true, ite_false, reduceIte, ↓reduceIte, Bool.not_true, Bool.not_false, Bool.false_eq_true, decide_true, not_true_eq_false, not_false_eq_true, decide_false, decide_eq_true_eq, Bool.not_eq_true', decide_eq_false_iff_not, Bool.not_eq_eq_eq_not, hmet w1 Bb Be, h1, h2]) (by simp only [eK, eV, eB, e1, e2, aNil, aCons, eCall, eIf, cB, cAnd, cOr, cNot, cYes, cTru, eAnd, eOr, eNot, eNotT, e3c, eSl, eSlL, oNone, oSome, toB, toI, toL, pTru, pIsN, pNotN, isNone, gN, gT, gCons', gNil', sNil, thenF, sRet, sBrk, sCnt, sAsg, sOwn, sAug, sApp, sFz, sPar, mVal, mOwn, mNil, setAllE, ownL, sIf, sSetI, lSeq, lRng1, lRng2, lEnum, wipeE, pLen, pInt, pAbs, pTuple, pList, pNeg, pSub, pAddI, pPlus_i, pMul_i, pDiv_i, pDiv_j, mulOk_x, mulOk_y, Int.reduceLT, Int.reduceNeg, Nat.reduceLeDiff, pMod_i, pEq_i, pNe_i, pLt_i, pLe_i, pGt_i, pGe_i, pMin2, pMax2, pTup_s, pLst_s, outF, Option.bind_some, Option.bind_none, List.getElem?_cons_succ, List.getElem?_cons_zero, List.length_cons, List.length_nil, List.set_cons_succ, List.set_cons_zero, Nat.reduceAdd, Nat.reduceLT, Nat.reduceSub, Nat.lt_irrefl, if_true, if_false, ite_true, ite_false, reduceIte, ↓reduceIte, Bool.not_true, Bool.not_false, Bool.false_eq_true, decide_true, not_true_eq_false, not_false_eq_true, decide_false, decide_eq_true_eq, Bool.not_eq_true', decide_eq_false_iff_not, Bool.not_eq_eq_eq_not]) (lk_pair (.int _) (.int _))) ?_
  have H0 : 0 < H.length := by omega
  obtain ⟨tl, htl⟩ : ∃ tl : List Int, ((List.range n).map fun (k : Nat) => wkd H k b e) = tl := ⟨_, rfl⟩
  have tll : tl.length = n := by rw [← htl, List.length_map, List.length_range]
  refine sq_nx (ρ' := [.val (iL ns), .val (iL r), .val (nI n), .val (nI w), .val (iT H), .val (.int d), .val (nI b), .val (sp2 b e), .val (nI P), .val (iT (bil n w d)), xs, .val (iT (bil n w (d + 1))), .val (.tuple ons), .val (nI w), .val (.int O), .val (iL dys), .val (.int wk), ds, .val (.int M), .val (iT tl), .un, .un, .un, .un]) (by simp only [eK, eV, eB, e1, e2, aNil, aCons, eCall, eIf, cB, cAnd, cOr, cNot, cYes, cTru, eAnd, eOr, eNot, eNotT, e3c, eSl, eSlL, oNone, oSome, toB, toI, toL, pTru, pIsN, pNotN, isNone, gN, gT, gCons', gNil', sNil, thenF, sRet, sBrk, sCnt, sAsg, sOwn, sAug, sApp, sFz, sPar, mVal, mOwn, mNil, setAllE, ownL, sIf, sSetI, lSeq, lRng1, lRng2, lEnum, wipeE, pLen, pInt, pAbs, pTuple, pList, pNeg, pSub, pAddI, pPlus_i, pMul_i, pDiv_i, pDiv_j, mulOk_x, mulOk_y, Int.reduceLT, Int.reduceNeg, Nat.reduceLeDiff, pMod_i, pEq_i, pNe_i, pLt_i, pLe_i, pGt_i, pGe_i, pMin2, pMax2, pTup_s, pLst_s, outF, Option.bind_some, Option.bind_none, List.getElem?_cons_succ, List.getElem?_cons_zero, List.length_cons, List.length_nil, List.set_cons_succ, List.set_cons_zero, Nat.reduceAdd, Nat.reduceLT, Nat.reduceSub, Nat.lt_irrefl, if_true, if_false, ite_true, ite_false, reduceIte, ↓reduceIte, Bool.not_true, Bool.not_false, Bool.false_eq_true, decide_true, not_true_eq_false, not_false_eq_true, decide_false, decide_eq_true_eq, Bool.not_eq_true', decide_eq_false_iff_not, Bool.not_eq_eq_eq_not, hwork n1 H0 Bb Be, htl]) ?_
  refine sq_asg (v := iT tl) (ρ' := [.val (iL ns), .val (iL r), .val (nI n), .val (nI w), .val (iT H), .val (.int d), .val (nI b), .val (sp2 b e), .val (nI P), .val (iT (bil n w d)), xs, .val (iT (bil n w (d + 1))), .val (.tuple ons), .val (nI w), .val (.int O), .val (iL dys), .val (.int wk), ds, .val (.int M), .val (iT tl), .val (iT tl), .un, .un, .un]) (by
    refine (e_tup (ec_mapI nI (fun (k : Nat) => wkd H k b e) (rgn _ _ rfl) ln fun k hk => ⟨[.val (iL ns), .val (iL r), .val (nI n), .val (nI w), .val (iT H), .val (.int d), .val (nI b), .val (sp2 b e), .val (nI P), .val (iT (bil n w d)), xs, .val (iT (bil n w (d + 1))), .val (.tuple ons), .val (nI w), .val (.int O), .val (iL dys), .val (.int wk), ds, .val (.int M), .val (iT tl), .un, .un, .val (nI k), .un], rfl, rfl, by
      have e2 := ec_mapI (L := lRng2 (e2 pIx (eB 7) (eK (.int 0))) (e2 pIx (eB 7) (eK (.int 1)))) (vs := [23]) (h := gN 23) (c := cYes) (e := (e2 pIx (eB 4) (e2 pMod (e1 pInt (e2 pPlus (eB 22) (eB 23))) (eB 3)))) (ρ := [.val (iL ns), .val (iL r), .val (nI n), .val (nI w), .val (iT H), .val (.int d), .val (nI b), .val (sp2 b e), .val (nI P), .val (iT (bil n w d)), xs, .val (iT (bil n w (d + 1))), .val (.tuple ons), .val (nI w), .val (.int O), .val (iL dys), .val (.int wk), ds, .val (.int M), .val (iT tl), .un, .un, .val (nI k), .un]) PyData.int (fun t => H.getD (((k : Int) + t) % (H.length : Int)).toNat 0) (l := rng b e) (rg_2 rfl rfl (by omega) (by omega) (by omega) (by omega)) (by rw [rng_length]; omega) fun t ht => ⟨_, rfl, rfl, by
        have q := ix_t (l := H) (i := ((k : Int) + t) % (w : Int)) (Int.emod_nonneg _ (by omega)) (by rw [Hl]; exact Int.emod_lt_of_pos _ wp)
        simp only [eK, eV, eB, e1, e2, aNil, aCons, eCall, eIf, cB, cAnd, cOr, cNot, cYes, cTru, eAnd, eOr, eNot, eNotT, e3c, eSl, eSlL, oNone, oSome, toB, toI, toL, pTru, pIsN, pNotN, isNone, gN, gT, gCons', gNil', sNil, thenF, sRet, sBrk, sCnt, sAsg, sOwn, sAug, sApp, sFz, sPar, mVal, mOwn, mNil, setAllE, ownL, sIf, sSetI, lSeq, lRng1, lRng2, lEnum, wipeE, pLen, pInt, pAbs, pTuple, pList, pNeg, pSub, pAddI, pPlus_i, pMul_i, pDiv_i, pDiv_j, mulOk_x, mulOk_y, Int.reduceLT, Int.reduceNeg, Nat.reduceLeDiff, pMod_i, pEq_i, pNe_i, pLt_i, pLe_i, pGt_i, pGe_i, pMin2, pMax2, pTup_s, pLst_s, outF, Option.bind_some, Option.bind_none, List.getElem?_cons_succ, List.getElem?_cons_zero, List.length_cons, List.length_nil, List.set_cons_succ, List.set_cons_zero, Nat.reduceAdd, Nat.reduceLT, Nat.reduceSub, Nat.lt_irrefl, if_true, if_false, ite_true, ite_false, reduceIte, ↓reduceIte, Bool.not_true, Bool.not_false, Bool.false_eq_true, decide_true, not_true_eq_false, not_false_eq_true, decide_false, decide_eq_true_eq, Bool.not_eq_true', decide_eq_false_iff_not, Bool.not_eq_eq_eq_not, wp, q, Hl]⟩
      show Option.bind (eComp _ _ _ _ _ [.val (iL ns), .val (iL r), .val (nI n), .val (nI w), .val (iT H), .val (.int d), .val (nI b), .val (sp2 b e), .val (nI P), .val (iT (bil n w d)), xs, .val (iT (bil n w (d + 1))), .val (.tuple ons), .val (nI w), .val (.int O), .val (iL dys), .val (.int wk), ds, .val (.int M), .val (iT tl), .un, .un, .val (nI k), .un]) pSum = _
      rw [e2, Option.bind_some]
      exact pSum_l _⟩)).trans (congrArg (fun l => some (iT l)) htl)) rfl ?_
  have tw : pIx (iT tl) (nI P) = some (.int wk) := by
    rw [ix_t (l := tl) (i := P) (by omega) (by omega), Int.toNat_natCast, ← htl, List.getD_eq_getElem?_getD, List.getElem?_map, List.getElem?_eq_getElem (by rw [List.length_range]; exact P0), List.getElem_range, hwk, perm_sum (pe.map _)]
    unfold wkd
    rw [Hl]
    rfl
  refine sq_nx (if_f (or_f (no_like hlike (v := iT tl) (by simp only [eK, eV, eB, e1, e2, aNil, aCons, eCall, eIf, cB, cAnd, cOr, cNot, cYes, cTru, eAnd, eOr, eNot, eNotT, e3c, eSl, eSlL, oNone, oSome, toB, toI, toL, pTru, pIsN, pNotN, isNone, gN, gT, gCons', gNil', sNil, thenF, sRet, sBrk, sCnt, sAsg, sOwn, sAug, sApp, sFz, sPar, mVal, mOwn, mNil, setAllE, ownL, sIf, sSetI, lSeq, lRng1, lRng2, lEnum, wipeE, pLen, pInt, pAbs, pTuple, pList, pNeg, pSub, pAddI, pPlus_i, pMul_i, pDiv_i, pDiv_j, mulOk_x, mulOk_y, Int.reduceLT, Int.reduceNeg, Nat.reduceLeDiff, pMod_i, pEq_i, pNe_i, pLt_i, pLe_i, pGt_i, pGe_i, pMin2, pMax2, pTup_s, pLst_s, outF, Option.bind_some, Option.bind_none, List.getElem?_cons_succ, List.getElem?_cons_zero, List.length_cons, List.length_nil, List.set_cons_succ, List.set_cons_zero, Nat.reduceAdd, Nat.reduceLT, Nat.reduceSub, Nat.lt_irrefl, if_true, if_false, ite_true, ite_false, reduceIte, ↓reduceIte, Bool.not_true, Bool.not_false, Bool.false_eq_true, decide_true, not_true_eq_false, not_false_eq_true, decide_false, decide_eq_true_eq, Bool.not_eq_true', decide_eq_false_iff_not, Bool.not_eq_eq_eq_not]) (by simp only [eK, eV, eB, e1, e2, aNil, aCons, eCall, eIf, cB, cAnd, cOr, cNot, cYes, cTru, eAnd, eOr, eNot, eNotT, e3c, eSl, eSlL, oNone, oSome, toB, toI, toL, pTru, pIsN, pNotN, isNone, gN, gT, gCons', gNil', sNil, thenF, sRet, sBrk, sCnt, sAsg, sOwn, sAug, sApp, sFz, sPar, mVal, mOwn, mNil, setAllE, ownL, sIf, sSetI, lSeq, lRng1, lRng2, lEnum, wipeE, pLen, pInt, pAbs, pTuple, pList, pNeg, pSub, pAddI, pPlus_i, pMul_i, pDiv_i, pDiv_j, mulOk_x, mulOk_y, Int.reduceLT, Int.reduceNeg, Nat.reduceLeDiff, pMod_i, pEq_i, pNe_i, pLt_i, pLe_i, pGt_i, pGe_i, pMin2, pMax2, pTup_s, pLst_s, outF, Option.bind_some, Option.bind_none, List.getElem?_cons_succ, List.getElem?_cons_zero, List.length_cons, List.length_nil, List.set_cons_succ, List.set_cons_zero, Nat.reduceAdd, Nat.reduceLT, Nat.reduceSub, Nat.lt_irrefl, if_true, if_false, ite_true, ite_false, reduceIte, ↓reduceIte, Bool.not_true, Bool.not_false, Bool.false_eq_true, decide_true, not_true_eq_false, not_false_eq_true, decide_false, decide_eq_true_eq, Bool.not_eq_true', decide_eq_false_iff_not, Bool.not_eq_eq_eq_not]) (lk_ints (by omega))) (by simp only [eK, eV, eB, e1, e2, aNil, aCons, eCall, eIf, cB, cAnd, cOr, cNot, cYes, cTru, eAnd, eOr, eNot, eNotT, e3c, eSl, eSlL, oNone, oSome, toB, toI, toL, pTru, pIsN, pNotN, isNone, gN, gT, gCons', gNil', sNil, thenF, sRet, sBrk, sCnt, sAsg, sOwn, sAug, sApp, sFz, sPar, mVal, mOwn, mNil, setAllE, ownL, sIf, sSetI, lSeq, lRng1, lRng2, lEnum, wipeE, pLen, pInt, pAbs, pTuple, pList, pNeg, pSub, pAddI, pPlus_i, pMul_i, pDiv_i, pDiv_j, mulOk_x, mulOk_y, Int.reduceLT, Int.reduceNeg, Nat.reduceLeDiff, pMod_i, pEq_i, pNe_i, pLt_i, pLe_i, pGt_i, pGe_i, pMin2, pMax2, pTup_s, pLst_s, outF, Option.bind_some, Option.bind_none, List.getElem?_cons_succ, List.getElem?_cons_zero, List.length_cons, List.length_nil, List.set_cons_succ, List.set_cons_zero, Nat.reduceAdd, Nat.reduceLT, Nat.reduceSub, Nat.lt_irrefl, if_true, if_false, ite_true, ite_false, reduceIte, ↓reduceIte, Bool.not_true, Bool.not_false, Bool.false_eq_true, decide_true, not_true_eq_false, not_false_eq_true, decide_false, decide_eq_true_eq, Bool.not_eq_true', decide_eq_false_iff_not, Bool.not_eq_eq_eq_not, tw])) rfl) ?_
  obtain ⟨R, hR⟩ : ∃ R : Nat, 1 + gR r 16 % 3 = R := ⟨(1 + gR r 16 % 3).toNat, by have := B 16; omega⟩
  have R0 : 1 ≤ R ∧ R ≤ 3 := by have := B 16; omega
  refine sq_nx (ρ' := [.val (iL ns), .val (iL r), .val (nI n), .val (nI w), .val (iT H), .val (.int d), .val (nI b), .val (sp2 b e), .val (nI P), .val (iT (bil n w d)), xs, .val (iT (bil n w (d + 1))), .val (.tuple ons), .val (nI w), .val (.int O), .val (iL dys), .val (.int wk), ds, .val (.int M), .val (iT tl), .val (iT tl), .val (nI R), .un, .un]) (by simp only [eK, eV, eB, e1, e2, aNil, aCons, eCall, eIf, cB, cAnd, cOr, cNot, cYes, cTru, eAnd, eOr, eNot, eNotT, e3c, eSl, eSlL, oNone, oSome, toB, toI, toL, pTru, pIsN, pNotN, isNone, gN, gT, gCons', gNil', sNil, thenF, sRet, sBrk, sCnt, sAsg, sOwn, sAug, sApp, sFz, sPar, mVal, mOwn, mNil, setAllE, ownL, sIf, sSetI, lSeq, lRng1, lRng2, lEnum, wipeE, pLen, pInt, pAbs, pTuple, pList, pNeg, pSub, pAddI, pPlus_i, pMul_i, pDiv_i, pDiv_j, mulOk_x, mulOk_y, Int.reduceLT, Int.reduceNeg, Nat.reduceLeDiff, pMod_i, pEq_i, pNe_i, pLt_i, pLe_i, pGt_i, pGe_i, pMin2, pMax2, pTup_s, pLst_s, outF, Option.bind_some, Option.bind_none, List.getElem?_cons_succ, List.getElem?_cons_zero, List.length_cons, List.length_nil, List.set_cons_succ, List.set_cons_zero, Nat.reduceAdd, Nat.reduceLT, Nat.reduceSub, Nat.lt_irrefl, if_true, if_false, ite_true, ite_false, reduceIte, ↓reduceIte, Bool.not_true, Bool.not_false, Bool.false_eq_true, decide_true, not_true_eq_false, not_false_eq_true, decide_false, decide_eq_true_eq, Bool.not_eq_true', decide_eq_false_iff_not, Bool.not_eq_eq_eq_not, rx hl 16, hR]) ?_
  have Rw' : (R : Int) * w ≤ 3 * 7 ∧ 0 ≤ (R : Int) * w := ⟨Int.mul_le_mul (by omega) (by omega) (by omega) (by omega), Int.mul_nonneg (by omega) (by omega)⟩
  have mR : ∀ i, mulOk (R : Int) i = true := fun i => mulOk_l (by omega)
  have fin : ((List.range n).map fun (k : Nat) => wkd H k b (b + (R : Int) * w)) = List.replicate n ((R : Int) * H.sum) := by
    rw [List.eq_replicate_iff]
    refine ⟨by rw [List.length_map, List.length_range], fun x hx => ?_⟩
    obtain ⟨k, _, rfl⟩ := List.mem_map.1 hx
    rw [wkd_S (m := R * H.length) (by rw [Int.natCast_mul, Hl]), S_rw]
  have rep : (List.replicate n [PyData.int ((R : Int) * H.sum)]).flatten = (List.replicate n ((R : Int) * H.sum)).map PyData.int := by
    rw [List.map_replicate, List.flatten_replicate_singleton]
  have pr : pRepT (.tuple [.int ((R : Int) * H.sum)]) (nI n) = some (iT (List.replicate n ((R : Int) * H.sum))) := by
    unfold pRepT
    simp only []
    rw [if_pos ⟨by simp, by omega, by omega, by rw [List.length_cons]; exact Nat.le_of_ble_eq_true rfl⟩, Int.toNat_natCast, rep]
  have sm := pSum_t H
  simp only [eK, eV, eB, e1, e2, aNil, aCons, eCall, eIf, cB, cAnd, cOr, cNot, cYes, cTru, eAnd, eOr, eNot, eNotT, e3c, eSl, eSlL, oNone, oSome, toB, toI, toL, pTru, pIsN, pNotN, isNone, gN, gT, gCons', gNil', sNil, thenF, sRet, sBrk, sCnt, sAsg, sOwn, sAug, sApp, sFz, sPar, mVal, mOwn, mNil, setAllE, ownL, sIf, sSetI, lSeq, lRng1, lRng2, lEnum, wipeE, pLen, pInt, pAbs, pTuple, pList, pNeg, pSub, pAddI, pPlus_i, pMul_i, pDiv_i, pDiv_j, mulOk_x, mulOk_y, Int.reduceLT, Int.reduceNeg, Nat.reduceLeDiff, pMod_i, pEq_i, pNe_i, pLt_i, pLe_i, pGt_i, pGe_i, pMin2, pMax2, pTup_s, pLst_s, outF, Option.bind_some, Option.bind_none, List.getElem?_cons_succ, List.getElem?_cons_zero, List.length_cons, List.length_nil, List.set_cons_succ, List.set_cons_zero, Nat.reduceAdd, Nat.reduceLT, Nat.reduceSub, Nat.lt_irrefl, if_true, if_false, ite_true, ite_false, reduceIte, ↓reduceIte, Bool.not_true, Bool.not_false, Bool.false_eq_true, decide_true, not_true_eq_false, not_false_eq_true, decide_false, decide_eq_true_eq, Bool.not_eq_true', decide_eq_false_iff_not, Bool.not_eq_eq_eq_not, mR, hwork n1 H0 Bb (show Bd (b + (R : Int) * w) by unfold Bd; omega), fin, sm, pr, hlike _ (lk_ints (d := 6) (l := List.replicate n ((R : Int) * H.sum)) (by rw [List.length_replicate]; omega))]
theorem law_true : ∀ ns : List Int, ns.length ≤ 63 → f_law [.list (ns.map PyData.int)] = some (.bool true) := fun ns _ =>
  fn_rt (law_core (fun ns => by rw [row_eq]; exact row_is ns 24 (by decide)) (fun v h => by rw [show f__law_like = g_like 8 from like_eq 8]; exact like_refl 8 v h) @st_bill (st_men @st_bill) (fun a b => rfl) @st_days @st_met @st_work ns)
end Wk

set_option maxHeartbeats 0
namespace Wk
open PySem PySem.Spec PyProof.Rows L2 Pl
def defs : List He.DefD := [⟨("bill_row", none), "bill_row", "bill_row", defArgs s_bill_row, defBody s_bill_row, defScope s_bill_row, [], []⟩, ⟨("men_on", none), "men_on", "men_on", defArgs s_men_on, defBody s_men_on, defScope s_men_on, [], []⟩, ⟨("bill_again", none), "bill_again", "bill_again", defArgs s_bill_again, defBody s_bill_again, defScope s_bill_again, [], []⟩, ⟨("watch_days", none), "watch_days", "watch_days", defArgs s_watch_days, defBody s_watch_days, defScope s_watch_days, [], []⟩, ⟨("met_days", none), "met_days", "met_days", defArgs s_met_days, defBody s_met_days, defScope s_met_days, [], []⟩, ⟨("hours_worked", none), "hours_worked", "hours_worked", defArgs s_hours_worked, defBody s_hours_worked, defScope s_hours_worked, [], []⟩, ⟨("_law_mixed", none), "_law_mixed", "_law_mixed", defArgs s__law_mixed, defBody s__law_mixed, defScope s__law_mixed, [], []⟩, ⟨("_law_row", none), "_law_row", "_law_row", defArgs s__law_row, defBody s__law_row, defScope s__law_row, [], []⟩, ⟨("_law_is_int", none), "_law_is_int", "_law_is_int", defArgs s__law_is_int, defBody s__law_is_int, defScope s__law_is_int, [], []⟩, ⟨("_law_like", none), "_law_like", "_law_like", defArgs s__law_like, defBody s__law_like, defScope s__law_like, [], []⟩, ⟨("law", none), "law", "law", defArgs s_law, defBody s_law, defScope s_law, [], []⟩]
def facts : List He.Fa := bfNames ++ [.glo "bill_row", .glo "men_on", .glo "bill_again", .glo "watch_days", .glo "met_days", .glo "hours_worked", .glo "_law_mixed", .glo "_law_row", .glo "_law_is_int", .glo "_law_like", .glo "law"]
abbrev R : PySem.W.OpenRow := PySem.W.OpenLaw.row PySem.Challenge.rw_dockheld_k10_whole_watches_in_turn
abbrev hk : PySem.W.Hook := He.hookD 4 facts defs
def ob (s : PySem.W.SharedT) : He.AlD := He.obsDG 4 facts defs (HandSHeadRun.getT s)
theorem ob_eq (s : PySem.W.SharedT) : ob s = hk.obs s.abs := He.obsDG_eq (HandSHeadRun.getT_eq s)
def loose : List PySem.Str := ["bill_row", "men_on", "bill_again", "watch_days", "met_days", "hours_worked", "_law_mixed", "_law_row", "_law_is_int", "_law_like"]
theorem run (w : World) : HandSHeadRun.RunEq R (PySem.W.view R.prog [12]) hk ob 4000 loose w := by
  intro os
  kernel_rfl
theorem all_ok {P : Program} {w : World} {K : PySem.W.Frag} {h : Heap} {mg : Str → Option Value} {f : Addr} (X : K.In h) (G : h.Ns mainGlobals mg) (c : He.SaysD facts defs K) (hfa : mg "law" = some (.ref f)) :
    ∃ fd : FuncData, (∀ (s : Shared) (v : Value), BindsTo s fd ⟨[v], []⟩ [("script", v)]) ∧ ∀ base : Heap, K.In base → base.Ns mainGlobals mg → FnOk P w K mg base CX0 11 f fd ["script"] (spP K 1 f_law) := by
  have m : BF mg := BF.of X G c
  obtain ⟨fd0, F0⟩ := c.def_ 0 rfl
  have m0 : mg "bill_row" = some (.ref (He.ga K "bill_row")) := He.glo_ok X G (c.fact 19 rfl)
  obtain ⟨fd1, F1⟩ := c.def_ 1 rfl
  have m1 : mg "men_on" = some (.ref (He.ga K "men_on")) := He.glo_ok X G (c.fact 20 rfl)
  obtain ⟨fd2, F2⟩ := c.def_ 2 rfl
  have m2 : mg "bill_again" = some (.ref (He.ga K "bill_again")) := He.glo_ok X G (c.fact 21 rfl)
  obtain ⟨fd3, F3⟩ := c.def_ 3 rfl
  have m3 : mg "watch_days" = some (.ref (He.ga K "watch_days")) := He.glo_ok X G (c.fact 22 rfl)
  obtain ⟨fd4, F4⟩ := c.def_ 4 rfl
  have m4 : mg "met_days" = some (.ref (He.ga K "met_days")) := He.glo_ok X G (c.fact 23 rfl)
  obtain ⟨fd5, F5⟩ := c.def_ 5 rfl
  have m5 : mg "hours_worked" = some (.ref (He.ga K "hours_worked")) := He.glo_ok X G (c.fact 24 rfl)
  obtain ⟨fd6, F6⟩ := c.def_ 6 rfl
  have m6 : mg "_law_mixed" = some (.ref (He.ga K "_law_mixed")) := He.glo_ok X G (c.fact 25 rfl)
  obtain ⟨fd7, F7⟩ := c.def_ 7 rfl
  have m7 : mg "_law_row" = some (.ref (He.ga K "_law_row")) := He.glo_ok X G (c.fact 26 rfl)
  obtain ⟨fd8, F8⟩ := c.def_ 8 rfl
  have m8 : mg "_law_is_int" = some (.ref (He.ga K "_law_is_int")) := He.glo_ok X G (c.fact 27 rfl)
  obtain ⟨fd9, F9⟩ := c.def_ 9 rfl
  have m9 : mg "_law_like" = some (.ref (He.ga K "_law_like")) := He.glo_ok X G (c.fact 28 rfl)
  obtain ⟨fd10, F10⟩ := c.def_ 10 rfl
  have m10 : mg "law" = some (.ref (He.ga K "law")) := He.glo_ok X G (c.fact 29 rfl)
  have e := hfa.symm.trans m10
  cases e
  have b := FunD.bindsA (ps := ["script"]) F10 fun _ _ _ _ _ _ us hl => match us, hl with | [_], _ => rfl
  refine ⟨fd10, fun s v => b s [v] rfl, fun base _ _ => ?_⟩
  have D0 : DefOk P w K mg base 1 "bill_row" 3 f_bill_row := ok_bill_row F0 m0 m
  have D1 : DefOk P w K mg base 2 "men_on" 4 f_men_on := ok_men_on F1 m1 m (D0.mono (by decide))
  have D2 : DefOk P w K mg base 1 "bill_again" 2 f_bill_again := ok_bill_again F2 m2 m
  have D3 : DefOk P w K mg base 1 "watch_days" 4 f_watch_days := ok_watch_days F3 m3 m
  have D4 : DefOk P w K mg base 1 "met_days" 4 f_met_days := ok_met_days F4 m4 m
  have D5 : DefOk P w K mg base 1 "hours_worked" 3 f_hours_worked := ok_hours_worked F5 m5 m
  have D6 : DefOk P w K mg base 1 "_law_mixed" 2 f__law_mixed := ok__law_mixed F6 m6 m
  have D7 : DefOk P w K mg base 2 "_law_row" 2 f__law_row := ok__law_row F7 m7 m (D6.mono (by decide))
  have D8 : DefOk P w K mg base 1 "_law_is_int" 1 f__law_is_int := ok__law_is_int F8 m8 m
  have Z9 : ∀ j, DefOk P w K mg base (2 + j) "_law_like" 2 (g__law_like j) := fun j => by
    induction j with
    | zero => exact DefOk.none' m9 F9.kp (F9.bindsN (ps := ["value", "due"]) fun _ _ _ _ _ _ us hl => match us, hl with | [_, _], _ => rfl) _
    | succ j ih => exact ok__law_like (k := 2 + j) F9 m9 m ih (D8.mono (by omega))
  have D9 : DefOk P w K mg base 10 "_law_like" 2 f__law_like := Z9 8
  exact fnOk_body (k := 10) F10 sc_law fun cdv A outer s H E hr => bd_law m (D7.mono (by decide)) (D9.mono (by decide)) (D0.mono (by decide)) (D1.mono (by decide)) (D2.mono (by decide)) (D3.mono (by decide)) (D4.mono (by decide)) (D5.mono (by decide)) hr
end Wk
open PySem PySem.W PySem.Calls PyProof.Rows
set_option maxHeartbeats 0 in
theorem PySem.Challenge.cw_dockheld_k10_whole_watches_in_turn_holds : PySem.Challenge.rw_dockheld_k10_whole_watches_in_turn.Holds := by
  w_on; o_law
  refine HandSHeadRun.head_any (r := OpenLaw.row PySem.Challenge.rw_dockheld_k10_whole_watches_in_turn) (q := view (OpenLaw.row PySem.Challenge.rw_dockheld_k10_whole_watches_in_turn).prog [12]) (H := Wk.hk) (ob := Wk.ob) (M := 4000) (loose := Wk.loose) (d := HandSHeadRun.topDef (OpenLaw.row PySem.Challenge.rw_dockheld_k10_whole_watches_in_turn).prog 12) (kwd := []) Wk.ob_eq
    (by kernel_rfl) (fun s => by kernel_rfl) Wk.run (by kernel_rfl) (by kernel_rfl) (by kernel_rfl) (by rfl) (by first | assumption | decide +kernel) (by decide +kernel) ⟨rfl, rfl, rfl, rfl, rfl, by decide +kernel⟩ ?hw ?hc
  case hw => w_witness2
  case hc =>
    refine Pl.law_end (l := PySem.Challenge.rw_dockheld_k10_whole_watches_in_turn) (k := 11) (fa := Wk.facts) (fn := Wk.defs) rfl (by kernel_rfl) ⟨rfl, by decide, by decide⟩ (by kernel_rfl) (fun _ _ y => y) Wk.law_true ?F
    intro w K mg h KX G c f hf
    exact Wk.all_ok KX G c hf
