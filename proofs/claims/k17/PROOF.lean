import PyProof.Rows.All
import HandS.ForMost
import HandS.TupAny
import HandS.TupMul
import HandS.Conv
import HandS.Flow
import HandS.Zip
import HandS.Rev
import HandS.Wide
import HandS.Style
import HandS.SortKw
import HandS.IsInst
import HandS.Deep
import KE.SortData
import KE.DataCmp
import HandS.Defaults
import HandS.HeadEnd
import HandS.HeadHook1
import HandS.HeadHook2
import KE.GoesEnum
import KE.GoesNew
import HandS.SortInts
import PySem.Challenge.RW_dockheld_k17_whole_basins_joined_by_turn
import KE.Datum
import KE.DatumOrd
import Wide.All
import OpenK.AllK
import Wide.FinOn
import KE.KStateDown
import HandS.Head0
import HandS.Head1
import HandS.Head2
set_option Elab.async false
set_option linter.all false
set_option maxRecDepth 100000
set_option maxHeartbeats 4000000
set_option autoImplicit false
/-! Pl: a pure layer over HandS. Values are PyData; an expression is read as a function of the slots. -/
namespace Pl
open PySem PySem.Spec PyProof.Rows L2
variable {K : PySem.W.Frag}

abbrev PV := PyData
/-- a slot: not known, a value that never changes, a list (dict) of the def's own -/
inductive Slot where
  | un | val (v : PV) | own (v : PV)
abbrev PEnv := List Slot
abbrev PF := PEnv → Option PV

/-! ### representation -/
mutual
/-- the value v stands for the data d, all of it in F -/
inductive Dr (K : PySem.W.Frag) (F : Hp) : V → PyData → Prop
  | non : Dr K F .non .none
  | bl (b : Bool) : Dr K F (.bl b) (.bool b)
  | int (i : Int) : Dr K F (.int i) (.int i)
  | str (x : Str) : Dr K F (.str x) (.str x)
  | lst {a : Addr} {xs : List V} {ds : List PyData} (h : SqL K F a xs) (g : DrAll K F xs ds) : Dr K F (.ref a) (.list ds)
  | tup {a : Addr} {xs : List V} {ds : List PyData} (h : SqT K F a xs) (g : DrAll K F xs ds) : Dr K F (.ref a) (.tuple ds)
inductive DrAll (K : PySem.W.Frag) (F : Hp) : List V → List PyData → Prop
  | nil : DrAll K F [] []
  | cons {v : V} {vs : List V} {d : PyData} {ds : List PyData} (h : Dr K F v d) (g : DrAll K F vs ds) : DrAll K F (v :: vs) (d :: ds)
end
theorem sqL_same {H H' : Hp} {a : Addr} {xs : List V} (e : Same H H') (h : SqL K H a xs) : SqL K H' a xs := e.seq h
theorem sqT_same {H H' : Hp} {a : Addr} {xs : List V} (e : Same H H') (h : SqT K H a xs) : SqT K H' a xs := by
  rcases h with (h | ⟨o, h⟩) | h
  · exact .inl (.inl (e _ _ h))
  · exact .inl (.inr ⟨o, e _ _ h⟩)
  · exact .inr h
theorem rd_same {H H' : Hp} {a : Addr} {o : HO} (e : Same H H') (h : Rd H a o) : Rd H' a o := by
  rcases h with h | ⟨u, h⟩
  · exact .inl (e _ _ h)
  · exact .inr ⟨u, e _ _ h⟩
mutual
theorem dr_same {F F' : Hp} (e : Same F F') : ∀ (d : PyData) (v : V), Dr K F v d → Dr K F' v d
  | .none, _, h => by cases h; exact .non
  | .bool b, _, h => by cases h; exact .bl b
  | .int i, _, h => by cases h; exact .int i
  | .str x, _, h => by cases h; exact .str x
  | .list ds, _, h => by
    cases h with
    | lst hs ha => exact .lst (sqL_same e hs) (drAll_same e ds _ ha)
  | .tuple ds, _, h => by
    cases h with
    | tup hs ha => exact .tup (sqT_same e hs) (drAll_same e ds _ ha)
  | .dict _, _, h => by cases h
theorem drAll_same {F F' : Hp} (e : Same F F') : ∀ (ds : List PyData) (vs : List V), DrAll K F vs ds → DrAll K F' vs ds
  | [], _, h => by cases h; exact .nil
  | d :: ds, _, h => by
    cases h with
    | cons h1 h2 => exact .cons (dr_same e d _ h1) (drAll_same e ds _ h2)
end
mutual
theorem dr_dp {F : Hp} : ∀ (d : PyData) (v : V), Dr K F v d → Dp K F v d
  | .none, _, h => by cases h; exact .non
  | .bool b, _, h => by cases h; exact .bl b
  | .int i, _, h => by cases h; exact .int i
  | .str x, _, h => by cases h; exact .str x
  | .list ds, _, h => by
    cases h with
    | lst hs ha => exact .lst hs (drAll_dp ds _ ha)
  | .tuple ds, _, h => by
    cases h with
    | tup hs ha => exact .tup hs (drAll_dp ds _ ha)
  | .dict _, _, h => by cases h
theorem drAll_dp {F : Hp} : ∀ (ds : List PyData) (vs : List V), DrAll K F vs ds → DpAll K F vs ds
  | [], _, h => by cases h; exact .nil
  | d :: ds, _, h => by
    cases h with
    | cons h1 h2 => exact .cons (dr_dp d _ h1) (drAll_dp ds _ h2)
end
theorem drAll_length {F : Hp} : ∀ {ds : List PyData} {vs : List V}, DrAll K F vs ds → vs.length = ds.length
  | [], _, h => by cases h; rfl
  | d :: ds, _, h => by
    cases h with
    | cons h1 h2 => rw [List.length_cons, List.length_cons, drAll_length h2]
theorem drAll_append {F : Hp} : ∀ {ds es : List PyData} {vs ws : List V}, DrAll K F vs ds → DrAll K F ws es → DrAll K F (vs ++ ws) (ds ++ es)
  | [], _, _, _, h, g => by cases h; exact g
  | d :: ds, _, _, _, h, g => by
    cases h with
    | cons h1 h2 => exact .cons h1 (drAll_append h2 g)
theorem drAll_get {F : Hp} : ∀ {ds : List PyData} {vs : List V} {i : Nat} {d : PyData}, DrAll K F vs ds → ds[i]? = some d → ∃ v, vs[i]? = some v ∧ Dr K F v d
  | [], _, _, _, h, e => by simp at e
  | d :: ds, _, 0, _, h, e => by
    cases h with
    | cons h1 h2 =>
      simp at e
      subst e
      exact ⟨_, rfl, h1⟩
  | d :: ds, _, i + 1, _, h, e => by
    cases h with
    | cons h1 h2 => simpa using drAll_get h2 (by simpa using e)
theorem drAll_get' {F : Hp} : ∀ {ds : List PyData} {vs : List V} {i : Nat} {v : V}, DrAll K F vs ds → vs[i]? = some v → ∃ d, ds[i]? = some d ∧ Dr K F v d
  | [], _, _, _, h, e => by cases h; simp at e
  | d :: ds, _, 0, _, h, e => by
    cases h with
    | cons h1 h2 =>
      simp at e
      subst e
      exact ⟨_, rfl, h1⟩
  | d :: ds, _, i + 1, _, h, e => by
    cases h with
    | cons h1 h2 => simpa using drAll_get' h2 (by simpa using e)
theorem drAll_drop {F : Hp} : ∀ {ds : List PyData} {vs : List V} (n : Nat), DrAll K F vs ds → DrAll K F (vs.drop n) (ds.drop n)
  | _, _, 0, h => h
  | [], _, n + 1, h => by cases h; exact .nil
  | d :: ds, _, n + 1, h => by
    cases h with
    | cons h1 h2 => exact drAll_drop n h2
theorem drAll_take {F : Hp} : ∀ {ds : List PyData} {vs : List V} (n : Nat), DrAll K F vs ds → DrAll K F (vs.take n) (ds.take n)
  | _, _, 0, h => .nil
  | [], _, n + 1, h => by cases h; exact .nil
  | d :: ds, _, n + 1, h => by
    cases h with
    | cons h1 h2 => exact .cons h1 (drAll_take n h2)
theorem drAll_set {F : Hp} {v : V} {d : PyData} (q : Dr K F v d) : ∀ {ds : List PyData} {vs : List V} (n : Nat), DrAll K F vs ds → DrAll K F (vs.set n v) (ds.set n d)
  | [], _, _, h => by cases h; exact .nil
  | _ :: ds, _, 0, h => by
    cases h with
    | cons h1 h2 => exact .cons q h2
  | _ :: ds, _, n + 1, h => by
    cases h with
    | cons h1 h2 => exact .cons h1 (drAll_set q n h2)
theorem drAll_ints {F : Hp} : ∀ {ns : List Int} {vs : List V}, DrAll K F vs (ns.map PyData.int) → vs = ns.map V.int
  | [], _, h => by cases h; rfl
  | n :: ns, _, h => by
    cases h with
    | cons h1 h2 =>
      cases h1
      rw [List.map_cons, drAll_ints h2]
theorem drAll_of_ints {F : Hp} : ∀ (ns : List Int), DrAll K F (ns.map V.int) (ns.map PyData.int)
  | [] => .nil
  | n :: ns => .cons (.int n) (drAll_of_ints ns)

/-- an object of the def's own at a, its contents in F -/
def OwnR (K : PySem.W.Frag) (F H : Hp) (a : Addr) : PV → Prop
  | .list l => ∃ xs, H a = some (.lst xs) ∧ DrAll K F xs l
  | _ => False
theorem OwnR.same {F F' H H' : Hp} {a : Addr} {v : PV} (h : OwnR K F H a v) (e : Same F F') (q : H' a = H a) : OwnR K F' H' a v := by
  cases v with
  | list l =>
    obtain ⟨xs, h1, h2⟩ := h
    exact ⟨xs, q.trans h1, drAll_same e _ _ h2⟩
  | _ => exact h.elim
theorem OwnR.some {F H : Hp} {a : Addr} {v : PV} (h : OwnR K F H a v) : ∃ o, H a = some o := by
  cases v with
  | list l =>
    obtain ⟨xs, h1, h2⟩ := h
    exact ⟨_, h1⟩
  | _ => exact h.elim
/-- what may be looked at -/
def BoR (K : PySem.W.Frag) (F H : Hp) (x : V) (v : PV) : Prop := Dr K F x v ∨ ∃ a, x = .ref a ∧ OwnR K F H a v

/-- slots and what stands for them. B: the heap at the def's entry, F0: what was known then, F: what is known now and never changes -/
structure RE (K : PySem.W.Frag) (B F0 F H : Hp) (σ : L2.St) (ρ : PEnv) : Prop where
  fh : Same F H
  bh : Same B H
  f0 : Same F0 F
  ff : ∀ a o, F a = some o → F0 a = some o ∨ B a = none
  len : σ.length = ρ.length
  val : ∀ (i : Nat) v, ρ[i]? = some (.val v) → ∃ x, σ[i]? = some (some x) ∧ Dr K F x v
  own : ∀ (i : Nat) v, ρ[i]? = some (.own v) → ∃ a, σ[i]? = some (some (.ref a)) ∧ F a = none ∧ B a = none ∧ OwnR K F H a v
  sep : ∀ (i j : Nat) v w a, ρ[i]? = some (.own v) → ρ[j]? = some (.own w) → σ[i]? = some (some (.ref a)) → σ[j]? = some (some (.ref a)) → i = j
/-- what an expression may do -/
structure Ext (F H F' H' : Hp) : Prop where
  f : Same F F'
  h : Same H H'
  n : ∀ a o, F' a = some o → F a = some o ∨ H a = none
theorem Ext.refl (F H : Hp) : Ext F H F H := ⟨Same.refl F, Same.refl H, fun _ _ h => .inl h⟩
theorem Ext.trans {F H F1 H1 F2 H2 : Hp} (a : Ext F H F1 H1) (b : Ext F1 H1 F2 H2) : Ext F H F2 H2 :=
  ⟨a.f.trans b.f, a.h.trans b.h, fun c o h => by
    rcases b.n c o h with q | q
    · exact a.n c o q
    · exact .inr (a.h.free q)⟩
theorem Ext.keepNone {F H F' H' : Hp} (e : Ext F H F' H') {a : Addr} {o : HO} (h : H a = some o) (f : F a = none) : F' a = none := by
  cases q : F' a with
  | none => rfl
  | some u =>
    rcases e.n a u q with r | r
    · rw [f] at r; cases r
    · rw [h] at r; cases r
theorem RE.ext {B F0 F H F' H' : Hp} {σ : L2.St} {ρ : PEnv} (R : RE K B F0 F H σ ρ) (e : Ext F H F' H') (fh : Same F' H') : RE K B F0 F' H' σ ρ where
  fh := fh
  bh := R.bh.trans e.h
  f0 := R.f0.trans e.f
  ff := fun a o h => by
    rcases e.n a o h with q | q
    · exact R.ff a o q
    · exact .inr (R.bh.free q)
  len := R.len
  val := fun i v h => by
    obtain ⟨x, h1, h2⟩ := R.val i v h
    exact ⟨x, h1, dr_same e.f _ _ h2⟩
  own := fun i v h => by
    obtain ⟨a, h1, h2, h3, h4⟩ := R.own i v h
    obtain ⟨o, ho⟩ := h4.some
    exact ⟨a, h1, e.keepNone ho h2, h3, h4.same e.f (by rw [e.h _ _ ho, ho])⟩
  sep := R.sep
/-- a new object is made and kept apart -/
theorem ext_new {F H : Hp} {p : Addr} {o : HO} (h : H p = none) : Ext F H F (upd H p o) := ⟨Same.refl F, fun b u e => by
  rw [upd_ne (ne_of_none e h)]
  exact e, fun _ _ h => .inl h⟩
theorem same_upd2 {F H : Hp} {p : Addr} {o : HO} (e : Same F H) (h : H p = none) : Same F (upd H p o) := fun b u q => by
  rw [upd_ne (ne_of_none (e _ _ q) h)]
  exact e _ _ q
/-- a new object that never changes -/
theorem ext_frz {F H : Hp} {p : Addr} {o : HO} (fh : Same F H) (h : H p = none) : Ext F H (upd F p o) (upd H p o) := ⟨fun b u e => by
  rw [upd_ne (ne_of_none (fh _ _ e) h)]
  exact e, fun b u e => by
  rw [upd_ne (ne_of_none e h)]
  exact e, fun a u q => by
  by_cases z : a = p
  · subst z
    exact .inr h
  · rw [upd_ne z] at q
    exact .inl q⟩
theorem same_frz {F H : Hp} {p : Addr} {o : HO} (fh : Same F H) (h : H p = none) : Same (upd F p o) (upd H p o) := fun b u e => by
  by_cases z : b = p
  · subst z
    rw [upd_same] at e ⊢
    exact e
  · rw [upd_ne z] at e ⊢
    exact fh _ _ e

/-! ### readings -/
def tP (K : PySem.W.Frag) (f : PF) : TE := fun σ H Q => ∃ B F0 F ρ v, RE K B F0 F H σ ρ ∧ f ρ = some v ∧ ∀ x H' F', RE K B F0 F' H' σ ρ → Ext F H F' H' → Dr K F' x v → Q x H'
def tF (K : PySem.W.Frag) (f : PF) : TE := fun σ H Q => ∃ B F0 F ρ v, RE K B F0 F H σ ρ ∧ f ρ = some v ∧ ∀ a H' F', RE K B F0 F' H' σ ρ → Ext F H F' H' → F' a = none → H a = none → OwnR K F' H' a v → Q (.ref a) H'
def tB (K : PySem.W.Frag) (f : PF) : TE := fun σ H Q => ∃ B F0 F ρ v, RE K B F0 F H σ ρ ∧ f ρ = some v ∧ ∀ x H' F', RE K B F0 F' H' σ ρ → Ext F H F' H' → BoR K F' H' x v → Q x H'
def tA (K : PySem.W.Frag) (f : PEnv → Option (List PV)) : TA := fun σ H Q => ∃ B F0 F ρ v, RE K B F0 F H σ ρ ∧ f ρ = some v ∧ ∀ x H' F', RE K B F0 F' H' σ ρ → Ext F H F' H' → DrAll K F' x v → Q x H'
def tT (K : PySem.W.Frag) (f : PEnv → Option Bool) : TT := fun σ H Q => ∃ B F0 F ρ v, RE K B F0 F H σ ρ ∧ f ρ = some v ∧ ∀ H' F', RE K B F0 F' H' σ ρ → Ext F H F' H' → Q v H'
/-- an expression that gives a value that never changes; one that makes an own object; one that is only looked at -/
abbrev SE (X : Cx) (e : Expr) (f : PF) : Prop := PE X e (tP X.K f)
abbrev SF (X : Cx) (e : Expr) (f : PF) : Prop := PE X e (tF X.K f)
abbrev SB (X : Cx) (e : Expr) (f : PF) : Prop := PE X e (tB X.K f)
abbrev SA (X : Cx) (es : List Expr) (f : PEnv → Option (List PV)) : Prop := PA X es (tA X.K f)
abbrev ST (X : Cx) (e : Expr) (f : PEnv → Option Bool) : Prop := PT X e (tT X.K f)
abbrev SW (X : Cx) (e : Expr) (f : PEnv → Option Bool) : Prop := PW X e (tT X.K f)

theorem PE.imp {X : Cx} {e : Expr} {t t' : TE} (h : PE X e t) (i : ∀ σ H Q, t' σ H Q → t σ H Q) : PE X e t' := ⟨fun pins s σ H Q I q => h.run pins s σ H Q I (i σ H Q q)⟩
theorem PT.imp {X : Cx} {e : Expr} {t t' : TT} (h : PT X e t) (i : ∀ σ H Q, t' σ H Q → t σ H Q) : PT X e t' := ⟨fun pins s σ H Q I q => h.run pins s σ H Q I (i σ H Q q)⟩
theorem PW.imp {X : Cx} {e : Expr} {t t' : TT} (h : PW X e t) (i : ∀ σ H Q, t' σ H Q → t σ H Q) : PW X e t' := ⟨fun wh pins s σ H Q I q => h.run wh pins s σ H Q I (i σ H Q q)⟩
theorem PA.imp {X : Cx} {e : List Expr} {t t' : TA} (h : PA X e t) (i : ∀ σ H Q, t' σ H Q → t σ H Q) : PA X e t' := ⟨fun pos pins s σ H Q I q => h.run pos pins s σ H Q I (i σ H Q q)⟩
theorem PS.imp {X : Cx} {e : Stmt} {t t' : TS} (h : PS X e t) (i : ∀ D σ H, t' D σ H → t D σ H) : PS X e t' := ⟨fun pins s σ H D I q => h.run pins s σ H D I (i D σ H q)⟩
theorem PSs.imp {X : Cx} {e : List Stmt} {t t' : TS} (h : PSs X e t) (i : ∀ D σ H, t' D σ H → t D σ H) : PSs X e t' := ⟨fun pins s σ H D I q => h.run pins s σ H D I (i D σ H q)⟩

/-! ### combinators -/
def eK (v : PV) : PF := fun _ => some v
def eV (i : Nat) : PF := fun ρ => match ρ[i]? with | some (.val v) => some v | _ => none
def eB (i : Nat) : PF := fun ρ => match ρ[i]? with | some (.val v) => some v | some (.own v) => some v | _ => none
def e1 (g : PV → Option PV) (a : PF) : PF := fun ρ => (a ρ).bind g
def e2 (g : PV → PV → Option PV) (a b : PF) : PF := fun ρ => (a ρ).bind fun x => (b ρ).bind fun y => g x y
def aNil : PEnv → Option (List PV) := fun _ => some []
def aCons (a : PF) (r : PEnv → Option (List PV)) : PEnv → Option (List PV) := fun ρ => (a ρ).bind fun x => (r ρ).bind fun l => some (x :: l)
def eCall (g : List PV → Option PV) (a : PEnv → Option (List PV)) : PF := fun ρ => (a ρ).bind g
def eIf (c : PEnv → Option Bool) (a b : PF) : PF := fun ρ => (c ρ).bind fun k => if k = true then a ρ else b ρ
def toB : PV → Option Bool | .bool b => some b | _ => none
def ofB (b : Bool) : PV := .bool b
def cB (a : PF) : PEnv → Option Bool := fun ρ => (a ρ).bind toB
def cAnd (a b : PEnv → Option Bool) : PEnv → Option Bool := fun ρ => (a ρ).bind fun k => if k = true then b ρ else some false
def cOr (a b : PEnv → Option Bool) : PEnv → Option Bool := fun ρ => (a ρ).bind fun k => if k = true then some true else b ρ
def cNot (a : PEnv → Option Bool) : PEnv → Option Bool := fun ρ => (a ρ).bind fun k => some (!k)
/-- and, or as values, where the first is a bool -/
def eAnd (a b : PF) : PF := fun ρ => (a ρ).bind fun x => (toB x).bind fun k => if k = true then b ρ else some (.bool false)
def eOr (a b : PF) : PF := fun ρ => (a ρ).bind fun x => (toB x).bind fun k => if k = true then some (.bool true) else b ρ
def eNot (a : PF) : PF := fun ρ => (a ρ).bind fun x => (toB x).bind fun k => some (.bool (!k))

section
variable {X : Cx} {a b c : Expr} {f g : PF} {pos : Pos}
theorem bind_some {α β : Type} {o : Option α} {k : α → Option β} {y : β} (h : o.bind k = some y) : ∃ x, o = some x ∧ k x = some y := by
  cases o with
  | none => cases h
  | some x => exact ⟨x, rfl, h⟩

/-! ### from one kind to another -/
theorem sb_of (h : SE X a f) : SB X a f := PE.imp h fun σ H Q ⟨B, F0, F, ρ, v, R, e, q⟩ => ⟨B, F0, F, ρ, v, R, e, fun x H' F' R' E' d => q x H' F' R' E' (.inl d)⟩
theorem sb_ofF (h : SF X a f) : SB X a f := PE.imp h fun σ H Q ⟨B, F0, F, ρ, v, R, e, q⟩ => ⟨B, F0, F, ρ, v, R, e, fun x H' F' R' E' _ _ d => q _ H' F' R' E' (.inr ⟨x, rfl, d⟩)⟩
theorem RE.freeze {B F0 F H : Hp} {σ : L2.St} {ρ : PEnv} {p : Addr} {o : HO} (R : RE K B F0 F H σ ρ) (hp : H p = some o) (fp : F p = none) (bp : B p = none)
    (no : ∀ (i : Nat) v, ρ[i]? = some (.own v) → σ[i]? ≠ some (some (.ref p))) : RE K B F0 (upd F p o) H σ ρ := by
  have ef : Same F (upd F p o) := fun b u e => by
    rw [upd_ne (ne_of_none e fp)]
    exact e
  refine ⟨fun b u e => ?_, R.bh, R.f0.trans ef, fun b u e => ?_, R.len, fun i v h => ?_, fun i v h => ?_, R.sep⟩
  · by_cases z : b = p
    · subst z
      rw [upd_same] at e
      rw [hp]
      exact e
    · rw [upd_ne z] at e
      exact R.fh _ _ e
  · by_cases z : b = p
    · subst z
      exact .inr bp
    · rw [upd_ne z] at e
      exact R.ff _ _ e
  · obtain ⟨x, h1, h2⟩ := R.val i v h
    exact ⟨x, h1, dr_same ef _ _ h2⟩
  · obtain ⟨a, h1, h2, h3, h4⟩ := R.own i v h
    have z : a ≠ p := fun z => no i v h (z ▸ h1)
    exact ⟨a, h1, by rw [upd_ne z]; exact h2, h3, h4.same ef rfl⟩
/-- an own object given up: from now on it never changes -/
theorem own_dp {F H : Hp} {a : Addr} {v : PV} (h : OwnR K F H a v) (fa : F a = none) : ∃ o, H a = some o ∧ Dr K (upd F a o) (.ref a) v := by
  cases v with
  | list l =>
    obtain ⟨xs, h1, h2⟩ := h
    refine ⟨_, h1, .lst (.inl (.inl upd_same)) (drAll_same (fun b u e => ?_) _ _ h2)⟩
    rw [upd_ne (ne_of_none e fa)]
    exact e
  | _ => exact h.elim
theorem tF_of_tP {σ : L2.St} {H : Hp} {Q : VK} (w : tP K f σ H Q) : tF K f σ H Q := by
  obtain ⟨B, F0, F, ρ, v, R, e, q⟩ := w
  exact ⟨B, F0, F, ρ, v, R, e, fun p H' F' R' E' fp hp d => by
  obtain ⟨o, ho, hd⟩ := own_dp d fp
  have bp : B p = none := R.bh.free hp
  have no : ∀ (i : Nat) v, ρ[i]? = some (.own v) → σ[i]? ≠ some (some (.ref p)) := fun i v hi z => by
    obtain ⟨a, h1, h2, h3, h4⟩ := R.own i v hi
    obtain ⟨u, hu⟩ := h4.some
    rw [z] at h1
    cases h1
    rw [hp] at hu
    cases hu
  refine q _ H' (upd F' p o) (R'.freeze ho fp bp no) ⟨fun b u z => ?_, E'.h, fun b u z => ?_⟩ hd
  · have z' := E'.f _ _ z
    rw [upd_ne (ne_of_none z' fp)]
    exact z'
  · by_cases y : b = p
    · subst y
      exact .inr hp
    · rw [upd_ne y] at z
      exact E'.n _ _ z⟩
theorem se_ofF (h : SF X a f) : SE X a f := PE.imp h fun _ _ _ w => tF_of_tP w

/-! ### names, constants -/
theorem se_const {v : PV} {x : V} (h : PE X a (tC x)) (d : ∀ F, Dr X.K F x v) : SE X a (eK v) := PE.imp h fun σ H Q ⟨B, F0, F, ρ, w, R, e, q⟩ => by
  cases e
  exact q x H F R (Ext.refl _ _) (d _)
theorem se_int {i j} : SE X (.Constant (.int i) j pos) (eK (.int i)) := se_const pe_int fun _ => .int i
theorem se_bl {i j} : SE X (.Constant (.bool i) j pos) (eK (.bool i)) := se_const pe_bl fun _ => .bl i
theorem se_non {j} : SE X (.Constant .none j pos) (eK .none) := se_const pe_non fun _ => .non
theorem se_str {i j} : SE X (.Constant (.str i) j pos) (eK (.str i)) := se_const pe_str fun _ => .str i
theorem se_var (i : Nat) (h : PE X a (tVar i)) : SE X a (eV i) := PE.imp h fun σ H Q ⟨B, F0, F, ρ, w, R, e, q⟩ => by
  unfold eV at e
  split at e
  · rename_i v hv
    cases e
    obtain ⟨x, h1, h2⟩ := R.val i _ hv
    exact ⟨x, h1, q x H F R (Ext.refl _ _) h2⟩
  · cases e
theorem sb_var (i : Nat) (h : PE X a (tVar i)) : SB X a (eB i) := PE.imp h fun σ H Q ⟨B, F0, F, ρ, w, R, e, q⟩ => by
  unfold eB at e
  split at e
  · rename_i v hv
    cases e
    obtain ⟨x, h1, h2⟩ := R.val i _ hv
    exact ⟨x, h1, q x H F R (Ext.refl _ _) (.inl h2)⟩
  · rename_i v hv
    cases e
    obtain ⟨p, h1, h2, h3, h4⟩ := R.own i _ hv
    exact ⟨_, h1, q _ H F R (Ext.refl _ _) (.inr ⟨p, rfl, h4⟩)⟩
  · cases e

/-! ### two places -/
/-- an operation on two looked-at values that gives a value without a heap -/
theorem BoR.ext {F H F' H' : Hp} {x : V} {v : PV} (h : BoR K F H x v) (e : Ext F H F' H') : BoR K F' H' x v := by
  rcases h with h | ⟨a, rfl, h⟩
  · exact .inl (dr_same e.f _ _ h)
  · obtain ⟨o, ho⟩ := h.some
    exact .inr ⟨a, rfl, h.same e.f (by rw [e.h _ _ ho, ho])⟩
/-- an operation by values: what its rule wants is had from what the values stand for -/
def Op2 (K : PySem.W.Frag) (r : R2) (g : PV → PV → Option PV) : Prop := ∀ (F H : Hp) (x y : V) (v w z : PV) (Q : VK), Same F H → BoR K F H x v → BoR K F H y w → g v w = some z →
  (∀ u H' F', Ext F H F' H' → Same F' H' → Dr K F' u z → Q u H') → r x y H Q
def Op2F (K : PySem.W.Frag) (r : R2) (g : PV → PV → Option PV) : Prop := ∀ (F H : Hp) (x y : V) (v w z : PV) (Q : VK), Same F H → BoR K F H x v → BoR K F H y w → g v w = some z →
  (∀ p H' F', Ext F H F' H' → Same F' H' → F' p = none → H p = none → OwnR K F' H' p z → Q (.ref p) H') → r x y H Q
theorem se_op2 {r : R2} {h : PV → PV → Option PV} (o : Op2 X.K r h) (ha : SB X a f) (hb : SB X b g) {e : Expr} (he : ∀ {ta tb}, PE X a ta → PE X b tb → PE X e (tOp r ta tb)) : SE X e (e2 h f g) :=
  PE.imp (he ha hb) fun σ H Q ⟨B, F0, F, ρ, z, R, e, q⟩ => by
    obtain ⟨v, e1, e⟩ := bind_some e
    obtain ⟨w, e2, e⟩ := bind_some e
    refine ⟨B, F0, F, ρ, v, R, e1, fun x H1 F1 R1 E1 d1 => ⟨B, F0, F1, ρ, w, R1, e2, fun y H2 F2 R2 E2 d2 => ?_⟩⟩
    exact o F2 H2 x y v w z Q R2.fh (d1.ext E2) d2 e fun u H3 F3 E3 s3 d3 => q u H3 F3 (R2.ext E3 s3) ((E1.trans E2).trans E3) d3
theorem sf_op2 {r : R2} {h : PV → PV → Option PV} (o : Op2F X.K r h) (ha : SB X a f) (hb : SB X b g) {e : Expr} (he : ∀ {ta tb}, PE X a ta → PE X b tb → PE X e (tOp r ta tb)) : SF X e (e2 h f g) :=
  PE.imp (he ha hb) fun σ H Q ⟨B, F0, F, ρ, z, R, e, q⟩ => by
    obtain ⟨v, e1, e⟩ := bind_some e
    obtain ⟨w, e2, e⟩ := bind_some e
    refine ⟨B, F0, F, ρ, v, R, e1, fun x H1 F1 R1 E1 d1 => ⟨B, F0, F1, ρ, w, R1, e2, fun y H2 F2 R2 E2 d2 => ?_⟩⟩
    exact o F2 H2 x y v w z Q R2.fh (d1.ext E2) d2 e fun p H3 F3 E3 s3 fp hp d3 => q p H3 F3 (R2.ext E3 s3) ((E1.trans E2).trans E3) fp ((E1.trans E2).h.free hp) d3
theorem bor_int {F H : Hp} {x : V} {i : Int} (h : BoR K F H x (.int i)) : x = .int i := by
  rcases h with h | ⟨a, rfl, h⟩
  · cases h; rfl
  · exact h.elim
theorem bor_bool {F H : Hp} {x : V} {i : Bool} (h : BoR K F H x (.bool i)) : x = .bl i := by
  rcases h with h | ⟨a, rfl, h⟩
  · cases h; rfl
  · exact h.elim
theorem bor_str {F H : Hp} {x : V} {i : Str} (h : BoR K F H x (.str i)) : x = .str i := by
  rcases h with h | ⟨a, rfl, h⟩
  · cases h; rfl
  · exact h.elim
theorem bor_none {F H : Hp} {x : V} (h : BoR K F H x .none) : x = .non := by
  rcases h with h | ⟨a, rfl, h⟩
  · cases h; rfl
  · exact h.elim
theorem bor_tup {F H : Hp} {x : V} {l : List PV} (fh : Same F H) (h : BoR K F H x (.tuple l)) : ∃ a xs, x = .ref a ∧ SqT K F a xs ∧ SqT K H a xs ∧ DrAll K F xs l := by
  rcases h with h | ⟨a, rfl, h⟩
  · cases h with
    | tup hs ha => exact ⟨_, _, rfl, hs, sqT_same fh hs, ha⟩
  · exact h.elim
theorem bor_lst {F H : Hp} {x : V} {l : List PV} (fh : Same F H) (h : BoR K F H x (.list l)) : ∃ a xs, x = .ref a ∧ SqL K H a xs ∧ DrAll K F xs l := by
  rcases h with h | ⟨a, rfl, h⟩
  · cases h with
    | lst hs ha => exact ⟨_, _, rfl, sqL_same fh hs, ha⟩
  · obtain ⟨xs, h1, h2⟩ := h
    exact ⟨a, xs, rfl, .inl (.inl h1), h2⟩
/-- what is looked at, as data of the whole heap -/
theorem bor_dp {F H : Hp} {x : V} {v : PV} (fh : Same F H) (h : BoR K F H x v) : Dp K H x v := by
  rcases h with h | ⟨a, rfl, h⟩
  · exact dr_dp _ _ (dr_same fh _ _ h)
  · cases v with
    | list l =>
      obtain ⟨xs, h1, h2⟩ := h
      exact .lst (.inl (.inl h1)) (drAll_dp _ _ (drAll_same fh _ _ h2))
    | _ => exact h.elim
end
end Pl

set_option Elab.async false
set_option linter.all false
set_option maxRecDepth 100000
set_option maxHeartbeats 4000000
set_option autoImplicit false
namespace Pl
open PySem PySem.Spec PyProof.Rows L2
open PySem.W (alike dataLt lt_data le_data gt_data ge_data)
variable {K : PySem.W.Frag}

/-! ### operations on data -/
def mulOk (i j : Int) : Bool := decide (i.natAbs < 2 ^ 63) || decide (j.natAbs < 2 ^ 63)
def divOk (j : Int) : Bool := decide (j.natAbs.log2 < 9000)
def lineOk (n : Nat) : Bool := decide (n ≤ sizeLine)
def pAdd : PV → PV → Option PV
  | .int i, .int j => some (.int (i + j))
  | .tuple a, .tuple b => if lineOk (a.length + b.length) = true then some (.tuple (a ++ b)) else none
  | _, _ => none
def pCat : PV → PV → Option PV
  | .list a, .list b => if lineOk (a.length + b.length) = true then some (.list (a ++ b)) else none
  | _, _ => none
def pSub : PV → PV → Option PV
  | .int i, .int j => some (.int (i - j))
  | _, _ => none
def pMul : PV → PV → Option PV
  | .int i, .int j => if mulOk i j = true then some (.int (i * j)) else none
  | _, _ => none
def pDiv : PV → PV → Option PV
  | .int i, .int j => if 0 < j then (if divOk j = true then some (.int (i / j)) else none) else if j < 0 ∧ -1073741824 < j then some (.int (i.fdiv j)) else none
  | _, _ => none
def pMod : PV → PV → Option PV
  | .int i, .int j => if 0 < j then some (.int (i % j)) else if j < 0 then some (.int (i.fmod j)) else none
  | _, _ => none
def pPow : PV → PV → Option PV
  | .int i, .int j => if 0 ≤ j ∧ j ≤ 1000000 ∧ i.natAbs < 2 ^ 64 then some (.int (i ^ j.toNat)) else none
  | _, _ => none
def pNeg : PV → Option PV
  | .int i => some (.int (-i))
  | _ => none
def pEq (v w : PV) : Option PV := match v, w with
  | .int i, .int j => some (.bool (decide (i = j)))
  | v, w => if SeqAt.shaped v = true ∧ SeqAt.shaped w = true then some (.bool (PyData.eqv v w)) else none
def pNe (v w : PV) : Option PV := match v, w with
  | .int i, .int j => some (.bool (!decide (i = j)))
  | v, w => if SeqAt.shaped v = true ∧ SeqAt.shaped w = true then some (.bool (!PyData.eqv v w)) else none
def notNone : PV → Bool
  | .none => false
  | _ => true
def ordOk (v w : PV) : Bool := alike v w && (notNone v && (notNone w && (decide (v.depth ≤ 64))))
def pLt (v w : PV) : Option PV := match v, w with
  | .int i, .int j => some (.bool (decide (i < j)))
  | v, w => if ordOk v w = true then some (.bool (dataLt v w)) else none
def pLe (v w : PV) : Option PV := match v, w with
  | .int i, .int j => some (.bool (decide (i ≤ j)))
  | v, w => if ordOk v w = true then some (.bool (!dataLt w v)) else none
def pGt (v w : PV) : Option PV := match v, w with
  | .int i, .int j => some (.bool (decide (j < i)))
  | v, w => if ordOk v w = true then some (.bool (dataLt w v)) else none
def pGe (v w : PV) : Option PV := match v, w with
  | .int i, .int j => some (.bool (decide (j ≤ i)))
  | v, w => if ordOk v w = true then some (.bool (!dataLt v w)) else none
def isNone : PV → Bool
  | .none => true
  | _ => false
def pIsN (v : PV) : Option PV := some (.bool (isNone v))
def pNotN (v : PV) : Option PV := some (.bool (!isNone v))
def inL (v : PV) (l : List PV) : Bool := l.any fun z => PyData.eqv z v
def pIn (v w : PV) : Option PV := match w with
  | .list l => if SeqAt.shaped v = true ∧ SeqAt.shaped (.list l) = true then some (.bool (inL v l)) else none
  | .tuple l => if SeqAt.shaped v = true ∧ SeqAt.shaped (.tuple l) = true then some (.bool (inL v l)) else none
  | _ => none
def pNotIn (v w : PV) : Option PV := match w with
  | .list l => if SeqAt.shaped v = true ∧ SeqAt.shaped (.list l) = true then some (.bool (!inL v l)) else none
  | .tuple l => if SeqAt.shaped v = true ∧ SeqAt.shaped (.tuple l) = true then some (.bool (!inL v l)) else none
  | _ => none
def pTru : PV → Option Bool
  | .none => some false
  | .bool b => some b
  | .int i => some (i != 0)
  | .list l => some (!l.isEmpty)
  | .tuple l => some (!l.isEmpty)
  | _ => none
def cTru (a : PF) : PEnv → Option Bool := fun ρ => (a ρ).bind pTru
def pIx : PV → PV → Option PV
  | .list l, .int i => atI l i
  | .tuple l, .int i => atI l i
  | _, _ => none
def pLen : PV → Option PV
  | .list l => some (.int l.length)
  | .tuple l => some (.int l.length)
  | _ => none
def cutD (l : List PV) (lo hi : Option Int) : List PV := (l.drop (HT.sIx l.length 0 lo)).take (HT.sIx l.length l.length hi - HT.sIx l.length 0 lo)
def pSlT (v : PV) (lo hi : Option Int) : Option PV := match v with
  | .tuple l => some (.tuple (cutD l lo hi))
  | _ => none
def pSlL (v : PV) (lo hi : Option Int) : Option PV := match v with
  | .list l => some (.list (cutD l lo hi))
  | _ => none
def toI : PV → Option Int
  | .int i => some i
  | _ => none

section
variable {X : Cx} {a b c : Expr} {f g : PF} {pos : Pos}
theorem fin0 {F H : Hp} {z : PV} {x : V} {Q : VK} (fh : Same F H) (d : Dr K F x z) (q : ∀ u H' F', Ext F H F' H' → Same F' H' → Dr K F' u z → Q u H') : Q x H := q x H F (Ext.refl _ _) fh d
theorem finNew {F H : Hp} {z : PV} {Q : VK} {xs : List V} {l : List PV} (fh : Same F H) (d : DrAll K F xs l) (q : ∀ u H' F', Ext F H F' H' → Same F' H' → Dr K F' u (.tuple l) → Q u H') : ∀ p, H p = none → Q (.ref p) (upd H p (.tup xs)) := fun p hp => by
  have E := ext_frz (o := HO.tup xs) fh hp
  exact q _ _ _ E (same_frz fh hp) (.tup (.inl (.inl upd_same)) (drAll_same E.f _ _ d))
theorem finOwn {F H : Hp} {Q : VK} {xs : List V} {l : List PV} (fh : Same F H) (d : DrAll K F xs l) (q : ∀ p H' F', Ext F H F' H' → Same F' H' → F' p = none → H p = none → OwnR K F' H' p (.list l) → Q (.ref p) H') : ∀ p, H p = none → Q (.ref p) (upd H p (.lst xs)) := fun p hp => by
  have fp : F p = none := fh.free hp
  exact q _ _ F (ext_new hp) (same_upd2 fh hp) fp hp ⟨xs, upd_same, d⟩

theorem Op2.ii {g : PV → PV → Option PV} {r : R2} (h : ∀ (F H : Hp) (v w z : PV) (Q : VK), g v w = some z → (∀ i j, v = .int i → w = .int j → (∀ x, Dr K F x z → Q x H) → r (.int i) (.int j) H Q)) (hg : ∀ v w z, g v w = some z → ∃ i j, v = .int i ∧ w = .int j) : Op2 K r g := fun F H x y v w z Q fh dx dy e q => by
  obtain ⟨i, j, rfl, rfl⟩ := hg v w z e
  obtain rfl := bor_int dx
  obtain rfl := bor_int dy
  exact h F H _ _ z Q e i j rfl rfl fun x d => fin0 fh d q

def rAddX : R2 := fun x y H Q => rI0 (fun i j => .int (i + j)) x y H Q
theorem op2_add : Op2 K (fun x y H Q => rI0 (fun i j => .int (i + j)) x y H Q ∨ rCatA K x y H Q) pAdd := fun F H x y v w z Q fh dx dy e q => by
  unfold pAdd at e
  split at e
  · cases e
    obtain rfl := bor_int dx
    obtain rfl := bor_int dy
    exact .inl ⟨_, _, rfl, rfl, fin0 fh (.int _) q⟩
  · rename_i l m
    split at e
    · rename_i hz
      cases e
      obtain ⟨p, xs, rfl, f1, h1, d1⟩ := bor_tup fh dx
      obtain ⟨p2, ys, rfl, f2, h2, d2⟩ := bor_tup fh dy
      have l1 := drAll_length d1
      have l2 := drAll_length d2
      have hz' : l.length + m.length ≤ sizeLine := of_decide_eq_true hz
      refine .inr ⟨p, p2, xs, ys, rfl, rfl, h1, h2, by omega, fun e0 => ?_, fun _ e0 => ?_, fun _ _ => ?_⟩
      · subst e0
        cases d1
        exact fin0 fh (.tup f2 d2) q
      · subst e0
        cases d2
        rw [List.append_nil] at q
        exact fin0 fh (.tup f1 d1) q
      · exact finNew (z := .none) fh (drAll_append d1 d2) q
    · cases e
  · cases e
theorem se_add (ha : SB X a f) (hb : SB X b g) : SE X (.BinOp a .Add b pos) (e2 pAdd f g) := se_op2 op2_add ha hb fun h1 h2 => pe_op (OpR.or op_add op_catA) h1 h2
theorem se_sub (ha : SB X a f) (hb : SB X b g) : SE X (.BinOp a .Sub b pos) (e2 pSub f g) :=
  se_op2 (.ii (fun F H v w z Q e i j hv hw q => by subst hv hw; cases e; exact ⟨i, j, rfl, rfl, q _ (.int _)⟩) fun v w z e => by unfold pSub at e; split at e; exact ⟨_, _, rfl, rfl⟩; cases e) ha hb fun h1 h2 => pe_op op_sub h1 h2
theorem mulOk_c {i j : Int} (h : mulOk i j = true) : CMul i j := by
  unfold mulOk at h
  rcases Bool.or_eq_true_iff.mp h with h | h
  · have := of_decide_eq_true h
    exact .inl ⟨by omega, by omega⟩
  · have := of_decide_eq_true h
    exact .inr ⟨by omega, by omega⟩
theorem se_mul (ha : SB X a f) (hb : SB X b g) : SE X (.BinOp a .Mult b pos) (e2 pMul f g) :=
  se_op2 (.ii (fun F H v w z Q e i j hv hw q => by
      subst hv hw
      unfold pMul at e
      dsimp only at e
      split at e
      · rename_i hc
        cases e
        exact ⟨i, j, rfl, rfl, mulOk_c hc, q _ (.int _)⟩
      · cases e) fun v w z e => by unfold pMul at e; split at e; exact ⟨_, _, rfl, rfl⟩; cases e) ha hb fun h1 h2 => pe_op op_mul h1 h2
theorem se_div (ha : SB X a f) (hb : SB X b g) : SE X (.BinOp a .FloorDiv b pos) (e2 pDiv f g) :=
  se_op2 (r := fun x y H Q => rI CDivW (fun i j => .int (i / j)) x y H Q ∨ rI CDivN (fun i j => .int (i.fdiv j)) x y H Q) (.ii (fun F H v w z Q e i j hv hw q => by
      subst hv hw
      unfold pDiv at e
      dsimp only at e
      split at e
      · rename_i h0
        split at e
        · rename_i hc
          cases e
          exact .inl ⟨i, j, rfl, rfl, ⟨h0, of_decide_eq_true hc⟩, q _ (.int _)⟩
        · cases e
      · split at e
        · rename_i hc
          cases e
          exact .inr ⟨i, j, rfl, rfl, ⟨by omega, by omega⟩, q _ (.int _)⟩
        · cases e) fun v w z e => by unfold pDiv at e; split at e; exact ⟨_, _, rfl, rfl⟩; cases e) ha hb fun h1 h2 => pe_op (OpR.or op_fdivW op_fdivN) h1 h2
theorem se_mod (ha : SB X a f) (hb : SB X b g) : SE X (.BinOp a .Mod b pos) (e2 pMod f g) :=
  se_op2 (r := fun x y H Q => rI (fun _ j => 0 < j) (fun i j => .int (i % j)) x y H Q ∨ rI (fun _ j => j ≠ 0) (fun i j => .int (i.fmod j)) x y H Q) (.ii (fun F H v w z Q e i j hv hw q => by
      subst hv hw
      unfold pMod at e
      dsimp only at e
      split at e
      · rename_i h0
        cases e
        exact .inl ⟨i, j, rfl, rfl, h0, q _ (.int _)⟩
      · split at e
        · rename_i hc
          cases e
          exact .inr ⟨i, j, rfl, rfl, (by omega : j ≠ 0), q _ (.int _)⟩
        · cases e) fun v w z e => by unfold pMod at e; split at e; exact ⟨_, _, rfl, rfl⟩; cases e) ha hb fun h1 h2 => pe_op (OpR.or op_mod op_modN) h1 h2
theorem se_pow (ha : SB X a f) (hb : SB X b g) : SE X (.BinOp a .Pow b pos) (e2 pPow f g) :=
  se_op2 (.ii (fun F H v w z Q e i j hv hw q => by
      subst hv hw
      unfold pPow at e
      dsimp only at e
      split at e
      · rename_i hc
        cases e
        exact ⟨i, j, rfl, rfl, hc, q _ (.int _)⟩
      · cases e) fun v w z e => by unfold pPow at e; split at e; exact ⟨_, _, rfl, rfl⟩; cases e) ha hb fun h1 h2 => pe_op op_pow h1 h2
theorem se_neg (ha : SB X a f) : SE X (.UnaryOp .USub a pos) (e1 pNeg f) := PE.imp (pe_un un_neg ha) fun σ H Q ⟨B, F0, F, ρ, z, R, e, q⟩ => by
  obtain ⟨v, e1, e⟩ := bind_some e
  refine ⟨B, F0, F, ρ, v, R, e1, fun x H1 F1 R1 E1 d1 => ?_⟩
  unfold pNeg at e
  split at e
  · cases e
    obtain rfl := bor_int d1
    exact ⟨_, rfl, q _ _ _ R1 E1 (.int _)⟩
  · cases e

/-! list + list -/
def rCatR (K : PySem.W.Frag) : R2 := fun x y H Q => ∃ a1 a2 us ws, x = .ref a1 ∧ y = .ref a2 ∧ SqL K H a1 us ∧ SqL K H a2 ws ∧ us.length + ws.length ≤ sizeLine ∧ ∀ p, H p = none → Q (.ref p) (upd H p (.lst (us ++ ws)))
theorem op_catR : OpR X (binaryOp .Add) (rCatR X.K) := by
  intro pins s σ H x y v u Q I rx ry ⟨a1, a2, us, ws, e1, e2, r1, r2, hz, q⟩
  subst e1 e2
  cases rx
  cases ry
  obtain ⟨i1, v1, ⟨⟨c1, d1, t1, l1⟩, n1, g1, hc1, hd1, ht1⟩, z1⟩ := I.list r1
  obtain ⟨i2, v2, ⟨⟨c2, d2, t2, l2⟩, n2, g2, hc2, hd2, ht2⟩, z2⟩ := I.list r2
  have k1 := v1.length
  have k2 := v2.length
  dsimp only at hc1 hd1 ht1 hc2 hd2 ht2
  subst hc1 hd1 ht1 hc2 hd2 ht2
  have J := I.lnew (ys := us ++ ws) (its := i1 ++ i2) (t' := s.toks) (v1.append v2) (by rw [List.length_append]; exact hz)
  have w := list_addW a1 a2 i1.toArray i2.toArray n1 n2 none none l1 l2 (by simp only [List.size_toArray]; omega)
  refine concat_meets ⟨_, g1, rfl⟩ ⟨_, g2, rfl⟩ noFill_list_add seq_list_add PySem.F.slot_list_add PySem.F.entry_list_add (PySem.F.args_list_add_2 _ _) w ⟨g1, g2, ?_⟩
  rw [show i1.toArray ++ i2.toArray = (i1 ++ i2).toArray by simp]
  exact ⟨.ref _, _, J, rfl, q _ I.fresh⟩
theorem op2_cat : Op2F K (rCatR K) pCat := fun F H x y v w z Q fh dx dy e q => by
  unfold pCat at e
  split at e
  · rename_i l m
    split at e
    · rename_i hz
      cases e
      obtain ⟨p, xs, rfl, h1, d1⟩ := bor_lst fh dx
      obtain ⟨p2, ys, rfl, h2, d2⟩ := bor_lst fh dy
      have l1 := drAll_length d1
      have l2 := drAll_length d2
      have hz' : l.length + m.length ≤ sizeLine := of_decide_eq_true hz
      exact ⟨p, p2, xs, ys, rfl, rfl, h1, h2, by omega, finOwn fh (drAll_append d1 d2) q⟩
    · cases e
  · cases e
theorem sf_cat (ha : SB X a f) (hb : SB X b g) : SF X (.BinOp a .Add b pos) (e2 pCat f g) := sf_op2 op2_cat ha hb fun h1 h2 => pe_op op_catR h1 h2

/-! ### comparisons -/
def rEqX (K : PySem.W.Frag) : R2 := fun x y H Q => rI0 (fun i j => .bl (decide (i = j))) x y H Q ∨ rEqD K x y H Q
def rNeX (K : PySem.W.Frag) : R2 := fun x y H Q => rI0 (fun i j => .bl (!decide (i = j))) x y H Q ∨ rNeD K x y H Q
theorem op_eqI : OpR X (compareOp .Eq) (rI0 fun i j => .bl (decide (i = j))) := opB0 fun i j _ _ _ _ _ q => eq_int (by rw [Bool.beq_eq_decide_eq]; exact q)
theorem op_neI : OpR X (compareOp .NotEq) (rI0 fun i j => .bl (!decide (i = j))) := opB0 fun i j _ _ _ _ _ q => ne_int (by rw [bne, Bool.beq_eq_decide_eq]; exact q)
theorem op2_eq : Op2 K (rEqX K) pEq := fun F H x y v w z Q fh dx dy e q => by
  unfold pEq at e
  split at e
  · cases e
    obtain rfl := bor_int dx
    obtain rfl := bor_int dy
    exact .inl ⟨_, _, rfl, rfl, fin0 fh (.bl _) q⟩
  · split at e
    · rename_i hs
      cases e
      exact .inr ⟨v, w, bor_dp fh dx, bor_dp fh dy, hs.1, hs.2, fin0 fh (.bl _) q⟩
    · cases e
theorem op2_ne : Op2 K (rNeX K) pNe := fun F H x y v w z Q fh dx dy e q => by
  unfold pNe at e
  split at e
  · cases e
    obtain rfl := bor_int dx
    obtain rfl := bor_int dy
    exact .inl ⟨_, _, rfl, rfl, fin0 fh (.bl _) q⟩
  · split at e
    · rename_i hs
      cases e
      exact .inr ⟨v, w, bor_dp fh dx, bor_dp fh dy, hs.1, hs.2, fin0 fh (.bl _) q⟩
    · cases e
/-- order of data -/
def rOrd (K : PySem.W.Frag) (k : PV → PV → Bool) : R2 := fun x y H Q => ∃ d e, Dp K H x d ∧ Dp K H y e ∧ ordOk d e = true ∧ Q (.bl (k d e)) H
theorem ordOk_iff {v w : PV} (h : ordOk v w = true) : alike v w = true ∧ v ≠ .none ∧ w ≠ .none ∧ v.depth ≤ 64 := by
  unfold ordOk at h
  simp only [Bool.and_eq_true, decide_eq_true_eq] at h
  refine ⟨h.1, ?_, ?_, h.2.2.2⟩
  · rintro rfl
    exact Bool.noConfusion h.2.1
  · rintro rfl
    exact Bool.noConfusion h.2.2.1
theorem op_ord {op : CmpOp} {k : PV → PV → Bool} (hu : X.A.units + 64 < cLine)
    (rule : ∀ {s : Shared} {va vb : Value} {da db : PyData} {as bs : List Addr} {Q : Value → Shared → Prop}, Reads s.heap va da as → Reads s.heap vb db bs → alike da db = true → da ≠ .none → X.A.units + min da.depth db.depth < cLine → Q (.bool (k da db)) s →
      wpAny (model X.prog X.w) X.A (compareOp op va vb) Q X.xe s) : OpR X (compareOp op) (rOrd X.K k) := by
  intro pins s σ H x y v u Q I rx ry ⟨d, e, hd, he, ok, q⟩
  obtain ⟨o1, o2, o3, o4⟩ := ordOk_iff ok
  obtain ⟨as, r1⟩ := Dp.reads I d x v hd rx
  obtain ⟨bs, r2⟩ := Dp.reads I e y u he ry
  refine rule r1 r2 o1 o2 ?_ ⟨.bl _, H, I, rfl, q⟩
  have := Nat.min_le_left d.depth e.depth
  omega
theorem op2_ord {p : Int → Int → Bool} {k : PV → PV → Bool} {g : PV → PV → Option PV} (hg : ∀ v w z, g v w = some z → (∃ i j, v = .int i ∧ w = .int j ∧ z = .bool (p i j)) ∨ (ordOk v w = true ∧ z = .bool (k v w))) :
    Op2 K (fun x y H Q => rI0 (fun i j => .bl (p i j)) x y H Q ∨ rOrd K k x y H Q) g := fun F H x y v w z Q fh dx dy e q => by
  rcases hg v w z e with ⟨i, j, rfl, rfl, rfl⟩ | ⟨ok, rfl⟩
  · obtain rfl := bor_int dx
    obtain rfl := bor_int dy
    exact .inl ⟨_, _, rfl, rfl, fin0 fh (.bl _) q⟩
  · exact .inr ⟨v, w, bor_dp fh dx, bor_dp fh dy, ok, fin0 fh (.bl _) q⟩
theorem lt_cases : ∀ v w z, pLt v w = some z → (∃ i j, v = .int i ∧ w = .int j ∧ z = .bool (decide (i < j))) ∨ (ordOk v w = true ∧ z = .bool (dataLt v w)) := fun v w z e => by
  unfold pLt at e
  split at e
  · cases e; exact .inl ⟨_, _, rfl, rfl, rfl⟩
  · split at e
    · cases e; exact .inr ⟨by assumption, rfl⟩
    · cases e
theorem le_cases : ∀ v w z, pLe v w = some z → (∃ i j, v = .int i ∧ w = .int j ∧ z = .bool (decide (i ≤ j))) ∨ (ordOk v w = true ∧ z = .bool (!dataLt w v)) := fun v w z e => by
  unfold pLe at e
  split at e
  · cases e; exact .inl ⟨_, _, rfl, rfl, rfl⟩
  · split at e
    · cases e; exact .inr ⟨by assumption, rfl⟩
    · cases e
theorem gt_cases : ∀ v w z, pGt v w = some z → (∃ i j, v = .int i ∧ w = .int j ∧ z = .bool (decide (j < i))) ∨ (ordOk v w = true ∧ z = .bool (dataLt w v)) := fun v w z e => by
  unfold pGt at e
  split at e
  · cases e; exact .inl ⟨_, _, rfl, rfl, rfl⟩
  · split at e
    · cases e; exact .inr ⟨by assumption, rfl⟩
    · cases e
theorem ge_cases : ∀ v w z, pGe v w = some z → (∃ i j, v = .int i ∧ w = .int j ∧ z = .bool (decide (j ≤ i))) ∨ (ordOk v w = true ∧ z = .bool (!dataLt v w)) := fun v w z e => by
  unfold pGe at e
  split at e
  · cases e; exact .inl ⟨_, _, rfl, rfl, rfl⟩
  · split at e
    · cases e; exact .inr ⟨by assumption, rfl⟩
    · cases e
/-- a comparison known: its operation with its reading -/
structure CmpK (X : Cx) (op : CmpOp) (g : PV → PV → Option PV) (r : R2) : Prop where
  o : OpR X (compareOp op) r
  d : Op2 X.K r g
theorem ck_eq (hu : X.A.units + 64 < cLine) : CmpK X .Eq pEq (rEqX X.K) := ⟨OpR.or op_eqI (op_eqD hu), op2_eq⟩
theorem ck_ne (hu : X.A.units + 64 < cLine) : CmpK X .NotEq pNe (rNeX X.K) := ⟨OpR.or op_neI (op_neD hu), op2_ne⟩
theorem ck_lt (hu : X.A.units + 64 < cLine) : CmpK X .Lt pLt (fun x y H Q => rI0 (fun i j => .bl (decide (i < j))) x y H Q ∨ rOrd X.K dataLt x y H Q) := ⟨OpR.or op_lt (op_ord hu lt_data), op2_ord lt_cases⟩
theorem ck_le (hu : X.A.units + 64 < cLine) : CmpK X .LtE pLe (fun x y H Q => rI0 (fun i j => .bl (decide (i ≤ j))) x y H Q ∨ rOrd X.K (fun v w => !dataLt w v) x y H Q) := ⟨OpR.or op_le (op_ord hu le_data), op2_ord le_cases⟩
theorem ck_gt (hu : X.A.units + 64 < cLine) : CmpK X .Gt pGt (fun x y H Q => rI0 (fun i j => .bl (decide (j < i))) x y H Q ∨ rOrd X.K (fun v w => dataLt w v) x y H Q) := ⟨OpR.or op_gt (op_ord hu gt_data), op2_ord gt_cases⟩
theorem ck_ge (hu : X.A.units + 64 < cLine) : CmpK X .GtE pGe (fun x y H Q => rI0 (fun i j => .bl (decide (j ≤ i))) x y H Q ∨ rOrd X.K (fun v w => !dataLt v w) x y H Q) := ⟨OpR.or op_ge (op_ord hu ge_data), op2_ord ge_cases⟩
def rInT (K : PySem.W.Frag) (c : Bool) : R2 := fun x y H Q => ∃ d ds, Dp K H x d ∧ Dp K H y (.tuple ds) ∧ SeqAt.shaped d = true ∧ SeqAt.shaped (.tuple ds) = true ∧ Q (.bl (c ^^ inL d ds)) H
theorem op_inT (hu : X.A.units + 65 < cLine) : OpR X (compareOp .In) (rInT X.K false) := by
  intro pins s σ H x y v u Q I rx ry h
  obtain ⟨d, ds, hd, he, sd, se, q⟩ := h
  obtain ⟨as, r1⟩ := Dp.reads I d x v hd rx
  obtain ⟨bs, r2⟩ := Dp.reads I (.tuple ds) y u he ry
  rw [Bool.false_xor] at q
  exact SeqAt.in_tuple_reads r2 r1 (SeqAt.canLay_of_shaped se) (SeqAt.canLay_of_shaped sd) (room_in_shaped sd hu) ⟨.bl _, H, I, rfl, q⟩
theorem op_notInT (hu : X.A.units + 65 < cLine) : OpR X (compareOp .NotIn) (rInT X.K true) := by
  intro pins s σ H x y v u Q I rx ry h
  obtain ⟨d, ds, hd, he, sd, se, q⟩ := h
  obtain ⟨as, r1⟩ := Dp.reads I d x v hd rx
  obtain ⟨bs, r2⟩ := Dp.reads I (.tuple ds) y u he ry
  rw [Bool.true_xor] at q
  exact SeqAt.notIn_tuple_reads r2 r1 (SeqAt.canLay_of_shaped se) (SeqAt.canLay_of_shaped sd) (room_in_shaped sd hu) ⟨.bl _, H, I, rfl, q⟩
theorem ck_in (hu : X.A.units + 65 < cLine) : CmpK X .In pIn (fun x y H Q => rInD X.K x y H Q ∨ rInT X.K false x y H Q) := ⟨OpR.or (op_inD hu) (op_inT hu), fun F H x y v w z Q fh dx dy e q => by
  unfold pIn at e
  split at e
  · split at e
    · rename_i hs
      cases e
      exact .inl ⟨v, _, bor_dp fh dx, bor_dp fh dy, hs.1, hs.2, fin0 fh (.bl _) q⟩
    · cases e
  · split at e
    · rename_i hs
      cases e
      exact .inr ⟨v, _, bor_dp fh dx, bor_dp fh dy, hs.1, hs.2, by rw [Bool.false_xor]; exact fin0 fh (.bl _) q⟩
    · cases e
  · cases e⟩
theorem ck_notIn (hu : X.A.units + 65 < cLine) : CmpK X .NotIn pNotIn (fun x y H Q => rNotInD X.K x y H Q ∨ rInT X.K true x y H Q) := ⟨OpR.or (op_notInD hu) (op_notInT hu), fun F H x y v w z Q fh dx dy e q => by
  unfold pNotIn at e
  split at e
  · split at e
    · rename_i hs
      cases e
      exact .inl ⟨v, _, bor_dp fh dx, bor_dp fh dy, hs.1, hs.2, fin0 fh (.bl _) q⟩
    · cases e
  · split at e
    · rename_i hs
      cases e
      exact .inr ⟨v, _, bor_dp fh dx, bor_dp fh dy, hs.1, hs.2, by rw [Bool.true_xor]; exact fin0 fh (.bl _) q⟩
    · cases e
  · cases e⟩
theorem se_cmp {op : CmpOp} {h : PV → PV → Option PV} {r : R2} (k : CmpK X op h r) (ha : SB X a f) (hb : SB X b g) (hm : behindInMarks op b = false) : SE X (.Compare a [op] [b] pos) (e2 h f g) := se_op2 k.d ha hb fun h1 h2 => pe_cmpR k.o h1 h2 hm
theorem dr_bool {F : Hp} {x : V} {b : Bool} (h : Dr K F x (.bool b)) : x = .bl b := by cases h; rfl
theorem toB_some {v : PV} {k : Bool} (h : toB v = some k) : v = .bool k := by
  cases v <;> first | (cases h; rfl) | cases h
theorem st_cmp {op : CmpOp} {h : PV → PV → Option PV} {r : R2} (k : CmpK X op h r) (ha : SB X a f) (hb : SB X b g) (hm : behindInMarks op b = false) : ST X (.Compare a [op] [b] pos) (cB (e2 h f g)) :=
  PT.imp (pt_cmpR k.o ha hb hm) fun σ H Q ⟨B, F0, F, ρ, z, R, e, q⟩ => by
    obtain ⟨v0, e0, e⟩ := bind_some e
    obtain ⟨v, e1, e0⟩ := bind_some e0
    obtain ⟨w, e2, e0⟩ := bind_some e0
    refine ⟨B, F0, F, ρ, v, R, e1, fun x H1 F1 R1 E1 d1 => ⟨B, F0, F1, ρ, w, R1, e2, fun y H2 F2 R2 E2 d2 => ?_⟩⟩
    refine k.d F2 H2 x y v w v0 _ R2.fh (d1.ext E2) d2 e0 fun u H3 F3 E3 s3 d3 => ?_
    obtain rfl := toB_some e
    obtain rfl := dr_bool d3
    exact ⟨_, rfl, q _ _ (R2.ext E3 s3) ((E1.trans E2).trans E3)⟩
theorem se_isN {j pos'} (ha : SB X a f) : SE X (.Compare a [.Is] [.Constant .none j pos'] pos) (e1 pIsN f) := PE.imp (pe_cmp (pc_isN ha)) fun σ H Q ⟨B, F0, F, ρ, z, R, e, q⟩ => by
  obtain ⟨v, e1, e⟩ := bind_some e
  refine ⟨B, F0, F, ρ, v, R, e1, fun x H1 F1 R1 E1 d1 => ?_⟩
  cases e
  have : decide (x = .non) = isNone v := by
    rcases d1 with d1 | ⟨p, rfl, d1⟩
    · cases d1 <;> rfl
    · cases v <;> first | exact d1.elim | rfl
  rw [this]
  exact q _ _ _ R1 E1 (.bl _)
theorem se_notN {j pos'} (ha : SB X a f) : SE X (.Compare a [.IsNot] [.Constant .none j pos'] pos) (e1 pNotN f) := PE.imp (pe_cmp (pc_notN ha)) fun σ H Q ⟨B, F0, F, ρ, z, R, e, q⟩ => by
  obtain ⟨v, e1, e⟩ := bind_some e
  refine ⟨B, F0, F, ρ, v, R, e1, fun x H1 F1 R1 E1 d1 => ?_⟩
  cases e
  have : decide (x = .non) = isNone v := by
    rcases d1 with d1 | ⟨p, rfl, d1⟩
    · cases d1 <;> rfl
    · cases v <;> first | exact d1.elim | rfl
  rw [this]
  exact q _ _ _ R1 E1 (.bl _)
theorem st_isN {j pos'} (ha : SB X a f) : ST X (.Compare a [.Is] [.Constant .none j pos'] pos) (cB (e1 pIsN f)) := PT.imp (pt_cmp (pc_isN ha)) fun σ H Q ⟨B, F0, F, ρ, z, R, e, q⟩ => by
  obtain ⟨v0, e0, e⟩ := bind_some e
  obtain ⟨v, e1, e0⟩ := bind_some e0
  refine ⟨B, F0, F, ρ, v, R, e1, fun x H1 F1 R1 E1 d1 => ?_⟩
  cases e0
  cases e
  have : decide (x = .non) = isNone v := by
    rcases d1 with d1 | ⟨p, rfl, d1⟩
    · cases d1 <;> rfl
    · cases v <;> first | exact d1.elim | rfl
  rw [this]
  exact ⟨_, rfl, q _ _ R1 E1⟩
theorem st_notN {j pos'} (ha : SB X a f) : ST X (.Compare a [.IsNot] [.Constant .none j pos'] pos) (cB (e1 pNotN f)) := PT.imp (pt_cmp (pc_notN ha)) fun σ H Q ⟨B, F0, F, ρ, z, R, e, q⟩ => by
  obtain ⟨v0, e0, e⟩ := bind_some e
  obtain ⟨v, e1, e0⟩ := bind_some e0
  refine ⟨B, F0, F, ρ, v, R, e1, fun x H1 F1 R1 E1 d1 => ?_⟩
  cases e0
  cases e
  have : decide (x = .non) = isNone v := by
    rcases d1 with d1 | ⟨p, rfl, d1⟩
    · cases d1 <;> rfl
    · cases v <;> first | exact d1.elim | rfl
  rw [this]
  exact ⟨_, rfl, q _ _ R1 E1⟩

/-! chains a op b op' c -/
def e3c (h h' : PV → PV → Option PV) (f g k : PF) : PF := fun ρ => (f ρ).bind fun x => (g ρ).bind fun y => (h x y).bind fun z => (toB z).bind fun t => if t = true then (k ρ).bind fun w => h' y w else some (.bool false)
theorem se_chain {op op' : CmpOp} {h h' : PV → PV → Option PV} {r r' : R2} {k : PF} (k1 : CmpK X op h r) (k2 : CmpK X op' h' r') (ha : SB X a f) (hb : SB X b g) (hc : SB X c k) (hm : lastMarks [op, op'] [b, c] = false := by with_unfolding_all rfl) :
    SE X (.Compare a [op, op'] [b, c] pos) (e3c h h' f g k) := PE.imp (pe_chain k1.o k2.o ha hb hc hm) fun σ H Q ⟨B, F0, F, ρ, z, R, e, q⟩ => by
  obtain ⟨v, q1, ea⟩ := bind_some e
  obtain ⟨w, q2, eb⟩ := bind_some ea
  obtain ⟨t0, q3, ec⟩ := bind_some eb
  obtain ⟨t, q4, ed⟩ := bind_some ec
  obtain rfl := toB_some q4
  refine ⟨B, F0, F, ρ, v, R, q1, fun x H1 F1 R1 E1 d1 => ⟨B, F0, F1, ρ, w, R1, q2, fun y H2 F2 R2 E2 d2 => ?_⟩⟩
  refine k1.d F2 H2 x y v w _ _ R2.fh (d1.ext E2) d2 q3 fun u H3 F3 E3 s3 d3 => ?_
  obtain rfl := dr_bool d3
  refine ⟨t, rfl, ?_⟩
  have R3 := R2.ext E3 s3
  cases t with
  | false =>
    rw [if_neg Bool.false_ne_true]
    rw [if_neg Bool.false_ne_true] at ed
    cases ed
    exact q _ _ _ R3 ((E1.trans E2).trans E3) (.bl _)
  | true =>
    rw [if_pos rfl]
    rw [if_pos rfl] at ed
    obtain ⟨m, q5, ee⟩ := bind_some ed
    refine ⟨B, F0, F3, ρ, m, R3, q5, fun y2 H4 F4 R4 E4 d4 => ?_⟩
    refine k2.d F4 H4 y y2 w m z _ R4.fh ((d2.ext E3).ext E4) d4 ee fun u H5 F5 E5 s5 d5 => ?_
    exact q _ _ _ (R4.ext E5 s5) ((((E1.trans E2).trans E3).trans E4).trans E5) d5
theorem st_chain {op op' : CmpOp} {h h' : PV → PV → Option PV} {r r' : R2} {k : PF} (k1 : CmpK X op h r) (k2 : CmpK X op' h' r') (ha : SB X a f) (hb : SB X b g) (hc : SB X c k) (hm : lastMarks [op, op'] [b, c] = false := by with_unfolding_all rfl) :
    ST X (.Compare a [op, op'] [b, c] pos) (cB (e3c h h' f g k)) := PT.imp (pt_chain k1.o k2.o ha hb hc hm) fun σ H Q ⟨B, F0, F, ρ, z, R, e, q⟩ => by
  obtain ⟨v00, e, q6⟩ := bind_some e
  obtain ⟨v, q1, ea⟩ := bind_some e
  obtain ⟨w, q2, eb⟩ := bind_some ea
  obtain ⟨t0, q3, ec⟩ := bind_some eb
  obtain ⟨t, q4, ed⟩ := bind_some ec
  obtain rfl := toB_some q4
  obtain rfl := toB_some q6
  refine ⟨B, F0, F, ρ, v, R, q1, fun x H1 F1 R1 E1 d1 => ⟨B, F0, F1, ρ, w, R1, q2, fun y H2 F2 R2 E2 d2 => ?_⟩⟩
  refine k1.d F2 H2 x y v w _ _ R2.fh (d1.ext E2) d2 q3 fun u H3 F3 E3 s3 d3 => ?_
  obtain rfl := dr_bool d3
  refine ⟨t, rfl, ?_⟩
  have R3 := R2.ext E3 s3
  cases t with
  | false =>
    rw [if_neg Bool.false_ne_true]
    rw [if_neg Bool.false_ne_true] at ed
    cases ed
    exact ⟨_, rfl, q _ _ R3 ((E1.trans E2).trans E3)⟩
  | true =>
    rw [if_pos rfl]
    rw [if_pos rfl] at ed
    obtain ⟨m, q5, ee⟩ := bind_some ed
    refine ⟨B, F0, F3, ρ, m, R3, q5, fun y2 H4 F4 R4 E4 d4 => ?_⟩
    refine k2.d F4 H4 y y2 w m _ _ R4.fh ((d2.ext E3).ext E4) d4 ee fun u H5 F5 E5 s5 d5 => ?_
    obtain rfl := dr_bool d5
    exact ⟨_, rfl, q _ _ (R4.ext E5 s5) ((((E1.trans E2).trans E3).trans E4).trans E5)⟩
end
end Pl

set_option Elab.async false
set_option linter.all false
set_option maxRecDepth 100000
set_option maxHeartbeats 4000000
set_option autoImplicit false
namespace Pl
open PySem PySem.Spec PyProof.Rows L2
open PySem.W (alike dataLt lt_data le_data gt_data ge_data)
variable {K : PySem.W.Frag}

/-! ### tests, and, or, if -/
section
variable {X : Cx} {a b c : Expr} {f g : PF} {pos : Pos} {k l : PEnv → Option Bool} {rest : List Expr}
theorem tru_of {F H : Hp} {x : V} {v : PV} {b : Bool} (fh : Same F H) (d : BoR K F H x v) (h : pTru v = some b) : TruV K x H b := by
  unfold pTru at h
  split at h
  · cases h
    obtain rfl := bor_none d
    exact rfl
  · cases h
    obtain rfl := bor_bool d
    exact rfl
  · cases h
    obtain rfl := bor_int d
    exact rfl
  · rename_i l
    cases h
    obtain ⟨p, xs, rfl, h1, d1⟩ := bor_lst fh d
    refine .inl ⟨xs, h1, ?_⟩
    cases d1 <;> rfl
  · rename_i l
    cases h
    obtain ⟨p, xs, rfl, f1, h1, d1⟩ := bor_tup fh d
    refine .inr (.inl ⟨xs, h1, ?_⟩)
    cases d1 <;> rfl
  · cases h
theorem st_tru (ha : SB X a f) (he : ∀ whole, isTrue a X.env whole = (do let v ← whole; standAt a.pos; holding [v] (truthy v)) := by intro _; rfl) : ST X a (cTru f) := PT.imp (pt_truth ha he) fun σ H Q ⟨B, F0, F, ρ, z, R, e, q⟩ => by
  obtain ⟨v, e1, e⟩ := bind_some e
  exact ⟨B, F0, F, ρ, v, R, e1, fun x H1 F1 R1 E1 d1 => ⟨z, tru_of R1.fh d1 e, q _ _ R1 E1⟩⟩
theorem st_not (ha : ST X a k) : ST X (.UnaryOp .Not a pos) (cNot k) := PT.imp (pt_not ha) fun σ H Q ⟨B, F0, F, ρ, z, R, e, q⟩ => by
  obtain ⟨v, e1, e⟩ := bind_some e
  cases e
  exact ⟨B, F0, F, ρ, v, R, e1, fun H1 F1 R1 E1 => q _ _ R1 E1⟩
theorem sw_and1 (ha : ST X a k) : SW X (.BoolOp .And [a] pos) k := pw_and1 ha
theorem sw_or1 (ha : ST X a k) : SW X (.BoolOp .Or [a] pos) k := pw_or1 ha
theorem sw_and (ha : ST X a k) (hb : SW X (.BoolOp .And (b :: rest) pos) l) : SW X (.BoolOp .And (a :: b :: rest) pos) (cAnd k l) := PW.imp (pw_and ha hb) fun σ H Q ⟨B, F0, F, ρ, z, R, e, q⟩ => by
  obtain ⟨v, e1, e⟩ := bind_some e
  refine ⟨B, F0, F, ρ, v, R, e1, fun H1 F1 R1 E1 => ?_⟩
  cases v with
  | true => exact ⟨B, F0, F1, ρ, z, R1, e, fun H2 F2 R2 E2 => q _ _ R2 (E1.trans E2)⟩
  | false =>
    cases e
    exact q _ _ R1 E1
theorem sw_or (ha : ST X a k) (hb : SW X (.BoolOp .Or (b :: rest) pos) l) : SW X (.BoolOp .Or (a :: b :: rest) pos) (cOr k l) := PW.imp (pw_or ha hb) fun σ H Q ⟨B, F0, F, ρ, z, R, e, q⟩ => by
  obtain ⟨v, e1, e⟩ := bind_some e
  refine ⟨B, F0, F, ρ, v, R, e1, fun H1 F1 R1 E1 => ?_⟩
  cases v with
  | false => exact ⟨B, F0, F1, ρ, z, R1, e, fun H2 F2 R2 E2 => q _ _ R2 (E1.trans E2)⟩
  | true =>
    cases e
    exact q _ _ R1 E1
theorem st_w (h : SW X a k) : ST X a k := h.pt
theorem se_one {op} (h : SE X a f) : SE X (.BoolOp op [a] pos) f := pe_one h
theorem se_and (ha : SE X a f) (hb : SE X (.BoolOp .And (b :: rest) pos) g) : SE X (.BoolOp .And (a :: b :: rest) pos) (eAnd f g) := PE.imp (pe_and ha hb) fun σ H Q ⟨B, F0, F, ρ, z, R, e, q⟩ => by
  obtain ⟨v, e1, e2⟩ := bind_some e
  obtain ⟨t, e3, e4⟩ := bind_some e2
  obtain rfl := toB_some e3
  refine ⟨B, F0, F, ρ, _, R, e1, fun x H1 F1 R1 E1 d1 => ?_⟩
  obtain rfl := dr_bool d1
  refine ⟨t, rfl, ?_⟩
  cases t with
  | true => exact ⟨B, F0, F1, ρ, z, R1, e4, fun x2 H2 F2 R2 E2 d2 => q _ _ _ R2 (E1.trans E2) d2⟩
  | false =>
    rw [if_neg Bool.false_ne_true]
    rw [if_neg Bool.false_ne_true] at e4
    cases e4
    exact q _ _ _ R1 E1 (.bl _)
theorem se_or (ha : SE X a f) (hb : SE X (.BoolOp .Or (b :: rest) pos) g) : SE X (.BoolOp .Or (a :: b :: rest) pos) (eOr f g) := PE.imp (pe_or ha hb) fun σ H Q ⟨B, F0, F, ρ, z, R, e, q⟩ => by
  obtain ⟨v, e1, e2⟩ := bind_some e
  obtain ⟨t, e3, e4⟩ := bind_some e2
  obtain rfl := toB_some e3
  refine ⟨B, F0, F, ρ, _, R, e1, fun x H1 F1 R1 E1 d1 => ?_⟩
  obtain rfl := dr_bool d1
  refine ⟨t, rfl, ?_⟩
  cases t with
  | false => exact ⟨B, F0, F1, ρ, z, R1, e4, fun x2 H2 F2 R2 E2 d2 => q _ _ _ R2 (E1.trans E2) d2⟩
  | true =>
    rw [if_pos rfl]
    rw [if_pos rfl] at e4
    cases e4
    exact q _ _ _ R1 E1 (.bl _)
theorem se_not (ha : SE X a f) : SE X (.UnaryOp .Not a pos) (eNot f) := PE.imp (pe_not ha) fun σ H Q ⟨B, F0, F, ρ, z, R, e, q⟩ => by
  obtain ⟨v, e1, e2⟩ := bind_some e
  obtain ⟨t, e3, e4⟩ := bind_some e2
  obtain rfl := toB_some e3
  cases e4
  refine ⟨B, F0, F, ρ, _, R, e1, fun x H1 F1 R1 E1 d1 => ?_⟩
  obtain rfl := dr_bool d1
  exact ⟨t, rfl, q _ _ _ R1 E1 (.bl _)⟩
/-- not of any value, by its truth -/
def eNotT (k : PEnv → Option Bool) : PF := fun ρ => (k ρ).bind fun t => some (.bool (!t))
theorem se_if (hc : ST X c k) (ha : SE X a f) (hb : SE X b g) : SE X (.IfExp c a b pos) (eIf k f g) := PE.imp (pe_ifExp hc ha hb) fun σ H Q ⟨B, F0, F, ρ, z, R, e, q⟩ => by
  obtain ⟨v, e1, e⟩ := bind_some e
  refine ⟨B, F0, F, ρ, v, R, e1, fun H1 F1 R1 E1 => ?_⟩
  cases v with
  | true => exact ⟨B, F0, F1, ρ, z, R1, e, fun x2 H2 F2 R2 E2 d2 => q _ _ _ R2 (E1.trans E2) d2⟩
  | false => exact ⟨B, F0, F1, ρ, z, R1, e, fun x2 H2 F2 R2 E2 d2 => q _ _ _ R2 (E1.trans E2) d2⟩

/-! ### arguments, displays -/
variable {es : List Expr} {r : PEnv → Option (List PV)}
theorem sa_nil : SA X [] aNil := PA.imp pa_nil fun σ H Q ⟨B, F0, F, ρ, z, R, e, q⟩ => by
  cases e
  exact q _ _ _ R (Ext.refl _ _) .nil
theorem sa_cons (ha : SE X a f) (hr : SA X es r) (hs : starEach (a :: es) X.env = (false, eval a X.env) :: starEach es X.env := by rfl) : SA X (a :: es) (aCons f r) := PA.imp (pa_cons ha hr hs) fun σ H Q ⟨B, F0, F, ρ, z, R, e, q⟩ => by
  obtain ⟨v, e1, e2⟩ := bind_some e
  obtain ⟨l, e3, e4⟩ := bind_some e2
  cases e4
  refine ⟨B, F0, F, ρ, v, R, e1, fun x H1 F1 R1 E1 d1 => ⟨B, F0, F1, ρ, l, R1, e3, fun xs H2 F2 R2 E2 d2 => ?_⟩⟩
  exact q _ _ _ R2 (E1.trans E2) (.cons (dr_same E2.f _ _ d1) d2)
def pTup (l : List PV) : Option PV := if lineOk l.length = true then some (.tuple l) else none
def pLst (l : List PV) : Option PV := if lineOk l.length = true then some (.list l) else none
theorem se_tup {x1} (h : SA X es r) : SE X (.Tuple es x1 pos) (eCall pTup r) := PE.imp (pe_tup h) fun σ H Q ⟨B, F0, F, ρ, z, R, e, q⟩ => by
  obtain ⟨l, e1, e2⟩ := bind_some e
  unfold pTup at e2
  split at e2
  · rename_i hz
    cases e2
    refine ⟨B, F0, F, ρ, l, R, e1, fun xs H1 F1 R1 E1 d1 => ⟨?_, ?_⟩⟩
    · rw [drAll_length d1]
      exact of_decide_eq_true hz
    · exact finNew (z := .none) R1.fh d1 fun u H2 F2 E2 s2 d2 => q _ _ _ (R1.ext E2 s2) (E1.trans E2) d2
  · cases e2
theorem sf_lst (h : SA X es r) : SF X (.List es pos) (eCall pLst r) := PE.imp (pe_lst h) fun σ H Q ⟨B, F0, F, ρ, z, R, e, q⟩ => by
  obtain ⟨l, e1, e2⟩ := bind_some e
  unfold pLst at e2
  split at e2
  · rename_i hz
    cases e2
    refine ⟨B, F0, F, ρ, l, R, e1, fun xs H1 F1 R1 E1 d1 => ⟨?_, ?_⟩⟩
    · rw [drAll_length d1]
      exact of_decide_eq_true hz
    · exact finOwn R1.fh d1 fun p H2 F2 E2 s2 fp hp d2 => q _ _ _ (R1.ext E2 s2) (E1.trans E2) fp (E1.h.free hp) d2
  · cases e2

/-! ### items, slices -/
theorem atI_map {F : Hp} {xs : List V} {l : List PV} {i : Int} {z : PV} (d : DrAll K F xs l) (h : atI l i = some z) : ∃ x, atI xs i = some x ∧ Dr K F x z := by
  unfold atI at h ⊢
  rw [drAll_length d]
  cases q : ixN l.length i with
  | none => rw [q] at h; cases h
  | some j =>
    rw [q] at h
    exact drAll_get d h
theorem op2_ix : Op2 K (fun x y H Q => rIxL K x y H Q ∨ rIxT K x y H Q) pIx := fun F H x y v w z Q fh dx dy e q => by
  unfold pIx at e
  split at e
  · obtain rfl := bor_int dy
    rcases dx with dx | ⟨p, rfl, dx⟩
    · cases dx with
      | lst hs ha =>
        obtain ⟨u, h1, h2⟩ := atI_map ha e
        exact .inl ⟨_, _, _, u, rfl, rfl, sqL_same fh hs, h1, fin0 fh h2 q⟩
    · obtain ⟨xs, h1, h2⟩ := dx
      obtain ⟨u, h3, h4⟩ := atI_map h2 e
      exact .inl ⟨_, _, _, u, rfl, rfl, .inl (.inl h1), h3, fin0 fh h4 q⟩
  · obtain rfl := bor_int dy
    obtain ⟨p, xs, rfl, f1, h1, d1⟩ := bor_tup fh dx
    obtain ⟨u, h3, h4⟩ := atI_map d1 e
    exact .inr ⟨_, _, _, u, rfl, rfl, h1, h3, fin0 fh h4 q⟩
  · cases e
theorem se_ix (ha : SB X a f) (hb : SB X b g) (hs : PlainIx b) : SE X (.Subscript a b pos) (e2 pIx f g) := se_op2 op2_ix ha hb fun h1 h2 => pe_ix (IxR.or ix_list ix_tup) h1 h2 hs
/-- a part of a slice -/
def tO (K : PySem.W.Frag) (p : PEnv → Option (Option Int)) : TO := fun σ H Q => ∃ B F0 F ρ v, RE K B F0 F H σ ρ ∧ p ρ = some v ∧ ∀ H' F', RE K B F0 F' H' σ ρ → Ext F H F' H' → Q v H'
abbrev SO (X : Cx) (e : Option Expr) (p : PEnv → Option (Option Int)) : Prop := PO X e (tO X.K p)
theorem PO.imp {e : Option Expr} {t t' : TO} (h : PO X e t) (i : ∀ σ H Q, t' σ H Q → t σ H Q) : PO X e t' := ⟨fun pins s σ H Q I q => h.run pins s σ H Q I (i σ H Q q)⟩
def oNone : PEnv → Option (Option Int) := fun _ => some none
def oSome (f : PF) : PEnv → Option (Option Int) := fun ρ => (f ρ).bind fun v => (toI v).bind fun i => some (some i)
theorem so_none : SO X none oNone := PO.imp po_none fun σ H Q ⟨B, F0, F, ρ, z, R, e, q⟩ => by
  cases e
  exact q _ _ R (Ext.refl _ _)
theorem toI_some {v : PV} {i : Int} (h : toI v = some i) : v = .int i := by
  cases v <;> first | (cases h; rfl) | cases h
theorem so_some (h : SB X a f) : SO X (some a) (oSome f) := PO.imp (po_some h) fun σ H Q ⟨B, F0, F, ρ, z, R, e, q⟩ => by
  obtain ⟨v, e1, e2⟩ := bind_some e
  obtain ⟨i, e3, e4⟩ := bind_some e2
  obtain rfl := toI_some e3
  cases e4
  refine ⟨B, F0, F, ρ, _, R, e1, fun x H1 F1 R1 E1 d1 => ?_⟩
  exact ⟨i, bor_int d1, q _ _ R1 E1⟩
theorem drAll_cut {F : Hp} {xs : List V} {l : List PV} (d : DrAll K F xs l) (lo hi : Option Int) : DrAll K F (cutV xs lo hi) (cutD l lo hi) := by
  unfold cutV cutD
  rw [drAll_length d]
  exact drAll_take _ (drAll_drop _ d)
def pSl (v : PV) (lo hi : Option Int) : Option PV := match v with
  | .tuple l => some (.tuple (cutD l lo hi))
  | .list l => some (.list (cutD l lo hi))
  | _ => none
def eSl (f : PF) (p q : PEnv → Option (Option Int)) : PF := fun ρ => (f ρ).bind fun v => (p ρ).bind fun lo => (q ρ).bind fun hi => pSl v lo hi
def eSlL (f : PF) (p q : PEnv → Option (Option Int)) : PF := fun ρ => (f ρ).bind fun v => (p ρ).bind fun lo => (q ρ).bind fun hi => pSlL v lo hi
theorem finFrz {F H : Hp} {Q : VK} {xs : List V} {l : List PV} (fh : Same F H) (d : DrAll K F xs l) (q : ∀ u H' F', Ext F H F' H' → Same F' H' → Dr K F' u (.list l) → Q u H') : ∀ p, H p = none → Q (.ref p) (upd H p (.lst xs)) := fun p hp => by
  have E := ext_frz (o := HO.lst xs) fh hp
  exact q _ _ _ E (same_frz fh hp) (.lst (.inl (.inl upd_same)) (drAll_same E.f _ _ d))
theorem se_sl {lo hi : Option Expr} {p2 : Pos} {p q : PEnv → Option (Option Int)} (ha : SB X a f) (hl : SO X lo p) (hh : SO X hi q) : SE X (.Subscript a (.Slice lo hi none p2) pos) (eSl f p q) :=
  PE.imp (pe_slice (SlR.or sl_list sl_tupA) ha hl hh) fun σ H Q ⟨B, F0, F, ρ, z, R, e, k⟩ => by
    obtain ⟨v, e1, e2⟩ := bind_some e
    obtain ⟨i, e3, e4⟩ := bind_some e2
    obtain ⟨j, e5, e6⟩ := bind_some e4
    refine ⟨B, F0, F, ρ, v, R, e1, fun x H1 F1 R1 E1 d1 => ⟨B, F0, F1, ρ, i, R1, e3, fun H2 F2 R2 E2 => ⟨B, F0, F2, ρ, j, R2, e5, fun H3 F3 R3 E3 => ?_⟩⟩⟩
    have d3 := (d1.ext E2).ext E3
    have k3 : ∀ u H' F', Ext F3 H3 F' H' → Same F' H' → Dr X.K F' u z → Q u H' := fun u H4 F4 E4 s4 d4 => k _ _ _ (R3.ext E4 s4) (((E1.trans E2).trans E3).trans E4) d4
    unfold pSl at e6
    split at e6
    · rename_i l
      cases e6
      obtain ⟨a1, xs, rfl, f1, h1, d1⟩ := bor_tup R3.fh d3
      refine .inr ⟨a1, xs, rfl, h1, fun hw => ?_, fun hw => finNew (z := .none) R3.fh (drAll_cut d1 _ _) k3⟩
      have : cutD l i j = l := by
        unfold cutD
        rw [← drAll_length d1, hw.1, hw.2]
        simp [drAll_length d1]
      rw [this] at k3
      exact fin0 R3.fh (.tup f1 d1) k3
    · rename_i l
      cases e6
      obtain ⟨a1, xs, rfl, h1, d1⟩ := bor_lst R3.fh d3
      exact .inl ⟨a1, xs, rfl, h1, finFrz R3.fh (drAll_cut d1 _ _) k3⟩
    · cases e6
theorem sf_sl {lo hi : Option Expr} {p2 : Pos} {p q : PEnv → Option (Option Int)} (ha : SB X a f) (hl : SO X lo p) (hh : SO X hi q) : SF X (.Subscript a (.Slice lo hi none p2) pos) (eSlL f p q) :=
  PE.imp (pe_slice sl_list ha hl hh) fun σ H Q ⟨B, F0, F, ρ, z, R, e, k⟩ => by
    obtain ⟨v, e1, e2⟩ := bind_some e
    obtain ⟨i, e3, e4⟩ := bind_some e2
    obtain ⟨j, e5, e6⟩ := bind_some e4
    refine ⟨B, F0, F, ρ, v, R, e1, fun x H1 F1 R1 E1 d1 => ⟨B, F0, F1, ρ, i, R1, e3, fun H2 F2 R2 E2 => ⟨B, F0, F2, ρ, j, R2, e5, fun H3 F3 R3 E3 => ?_⟩⟩⟩
    have d3 := (d1.ext E2).ext E3
    unfold pSlL at e6
    split at e6
    · rename_i l
      cases e6
      obtain ⟨a1, xs, rfl, h1, d1⟩ := bor_lst R3.fh d3
      exact ⟨a1, xs, rfl, h1, finOwn R3.fh (drAll_cut d1 _ _) fun u H4 F4 E4 s4 fp hp d4 => k _ _ _ (R3.ext E4 s4) (((E1.trans E2).trans E3).trans E4) fp (((E1.trans E2).trans E3).h.free hp) d4⟩
    · cases e6

/-! ### + of any two: ints, tuples, lists (a new list that is not changed) -/
def pPlus (v w : PV) : Option PV := match v, w with
  | .int i, .int j => some (.int (i + j))
  | .tuple a, .tuple b => if lineOk (a.length + b.length) = true then some (.tuple (a ++ b)) else none
  | .list a, .list b => if lineOk (a.length + b.length) = true then some (.list (a ++ b)) else none
  | _, _ => none
theorem op2_plus : Op2 K (fun x y H Q => (rI0 (fun i j => .int (i + j)) x y H Q ∨ rCatA K x y H Q) ∨ rCatR K x y H Q) pPlus := fun F H x y v w z Q fh dx dy e q => by
  unfold pPlus at e
  split at e
  · exact .inl (op2_add F H x y _ _ z Q fh dx dy e q)
  · exact .inl (op2_add F H x y _ _ z Q fh dx dy e q)
  · rename_i l m
    split at e
    · rename_i hz
      cases e
      obtain ⟨p, xs, rfl, h1, d1⟩ := bor_lst fh dx
      obtain ⟨p2, ys, rfl, h2, d2⟩ := bor_lst fh dy
      have l1 := drAll_length d1
      have l2 := drAll_length d2
      have hz' : l.length + m.length ≤ sizeLine := of_decide_eq_true hz
      exact .inr ⟨p, p2, xs, ys, rfl, rfl, h1, h2, by omega, finFrz fh (drAll_append d1 d2) q⟩
    · cases e
  · cases e
theorem se_plus (ha : SB X a f) (hb : SB X b g) : SE X (.BinOp a .Add b pos) (e2 pPlus f g) := se_op2 op2_plus ha hb fun h1 h2 => pe_op (OpR.or (OpR.or op_add op_catA) op_catR) h1 h2
end
end Pl

set_option Elab.async false
set_option linter.all false
set_option maxRecDepth 100000
set_option maxHeartbeats 4000000
set_option autoImplicit false
namespace Pl
open PySem PySem.Spec PyProof.Rows L2
open PySem.W (alike dataLt lt_data le_data gt_data ge_data)
variable {K : PySem.W.Frag}

/-! ### built-in functions of one and two values -/
def Un1 (K : PySem.W.Frag) (r : List V → Hp → VK → Prop) (g : PV → Option PV) : Prop := ∀ (F H : Hp) (x : V) (v z : PV) (Q : VK), Same F H → BoR K F H x v → g v = some z → (∀ u H' F', Ext F H F' H' → Same F' H' → Dr K F' u z → Q u H') → r [x] H Q
def Un1F (K : PySem.W.Frag) (r : List V → Hp → VK → Prop) (g : PV → Option PV) : Prop := ∀ (F H : Hp) (x : V) (v z : PV) (Q : VK), Same F H → BoR K F H x v → g v = some z → (∀ p H' F', Ext F H F' H' → Same F' H' → F' p = none → H p = none → OwnR K F' H' p z → Q (.ref p) H') → r [x] H Q
def Un2 (K : PySem.W.Frag) (r : List V → Hp → VK → Prop) (g : PV → PV → Option PV) : Prop := ∀ (F H : Hp) (x y : V) (v w z : PV) (Q : VK), Same F H → BoR K F H x v → BoR K F H y w → g v w = some z → (∀ u H' F', Ext F H F' H' → Same F' H' → Dr K F' u z → Q u H') → r [x, y] H Q
/-- no star -/
def NS (a : Expr) : Prop := ∀ env es, starEach (a :: es) env = (false, eval a env) :: starEach es env
theorem NS.one {b : Expr} (h : NS b) (pos : Pos) (env : Env) : (backTo pos (starEach [b] env)).any (·.1) = false := by
  rw [h]
  rfl
section
variable {X : Cx} {a b c e : Expr} {f g : PF} {pos p : Pos} {x : Str}
theorem se_un1 {r : List V → Hp → VK → Prop} {h : PV → Option PV} (o : Un1 X.K r h) (ha : SB X a f) (he : ∀ {t}, PA X [a] t → PE X e (tCB r t)) (na : NS a) : SE X e (e1 h f) :=
  PE.imp (he (pa_cons ha pa_nil (na _ _))) fun σ H Q ⟨B, F0, F, ρ, z, R, e, q⟩ => by
    obtain ⟨v, e1, e2⟩ := bind_some e
    refine ⟨B, F0, F, ρ, v, R, e1, fun x H1 F1 R1 E1 d1 => ?_⟩
    exact o F1 H1 x v z Q R1.fh d1 e2 fun u H2 F2 E2 s2 d2 => q _ _ _ (R1.ext E2 s2) (E1.trans E2) d2
theorem sf_un1 {r : List V → Hp → VK → Prop} {h : PV → Option PV} (o : Un1F X.K r h) (ha : SB X a f) (he : ∀ {t}, PA X [a] t → PE X e (tCB r t)) (na : NS a) : SF X e (e1 h f) :=
  PE.imp (he (pa_cons ha pa_nil (na _ _))) fun σ H Q ⟨B, F0, F, ρ, z, R, e, q⟩ => by
    obtain ⟨v, e1, e2⟩ := bind_some e
    refine ⟨B, F0, F, ρ, v, R, e1, fun x H1 F1 R1 E1 d1 => ?_⟩
    exact o F1 H1 x v z Q R1.fh d1 e2 fun u H2 F2 E2 s2 fp hp d2 => q _ _ _ (R1.ext E2 s2) (E1.trans E2) fp (E1.h.free hp) d2
theorem se_un2 {r : List V → Hp → VK → Prop} {h : PV → PV → Option PV} (o : Un2 X.K r h) (ha : SB X a f) (hb : SB X b g) (he : ∀ {t}, PA X [a, b] t → PE X e (tCB r t)) (na : NS a) (nb : NS b) : SE X e (e2 h f g) :=
  PE.imp (he (pa_cons ha (pa_cons hb pa_nil (nb _ _)) (na _ _))) fun σ H Q ⟨B, F0, F, ρ, z, R, e, q⟩ => by
    obtain ⟨v, e1, e2⟩ := bind_some e
    obtain ⟨w, e3, e4⟩ := bind_some e2
    refine ⟨B, F0, F, ρ, v, R, e1, fun x H1 F1 R1 E1 d1 => ⟨B, F0, F1, ρ, w, R1, e3, fun y H2 F2 R2 E2 d2 => ?_⟩⟩
    exact o F2 H2 x y v w z Q R2.fh (d1.ext E2) d2 e4 fun u H3 F3 E3 s3 d3 => q _ _ _ (R2.ext E3 s3) ((E1.trans E2).trans E3) d3

theorem un_len : Un1 K (fun xs H Q => ∃ p ys, xs = [.ref p] ∧ (SqL K H p ys ∨ SqT K H p ys) ∧ Q (.int ys.length) H) pLen := fun F H x v z Q fh d e q => by
  unfold pLen at e
  split at e
  · cases e
    obtain ⟨p, xs, rfl, h1, d1⟩ := bor_lst fh d
    refine ⟨p, xs, rfl, .inl h1, ?_⟩
    rw [drAll_length d1]
    exact fin0 fh (.int _) q
  · cases e
    obtain ⟨p, xs, rfl, f1, h1, d1⟩ := bor_tup fh d
    refine ⟨p, xs, rfl, .inr h1, ?_⟩
    rw [drAll_length d1]
    exact fin0 fh (.int _) q
  · cases e
theorem se_len (hg : Gl X "len") (hm : X.mg "len" = none) (ha : SB X a f) (na : NS a := by intro _ _; rfl) : SE X (.Call (.Name "len" p) [a] [] pos) (e1 pLen f) := se_un1 un_len ha (fun h => pe_callB call_len_seq hg hm PySem.boot_len h (he := na _ _)) na
def pInt : PV → Option PV
  | .int i => some (.int i)
  | .bool b => some (.int (if b = true then 1 else 0))
  | _ => none
theorem un_int : Un1 K (fun xs H Q => (∃ i, xs = [.int i] ∧ Q (.int i) H) ∨ ∃ k, xs = [.bl k] ∧ Q (.int (if k then 1 else 0)) H) pInt := fun F H x v z Q fh d e q => by
  unfold pInt at e
  split at e
  · cases e
    obtain rfl := bor_int d
    exact .inl ⟨_, rfl, fin0 fh (.int _) q⟩
  · cases e
    obtain rfl := bor_bool d
    exact .inr ⟨_, rfl, fin0 fh (.int _) q⟩
  · cases e
theorem boot_int' : bootBuiltins "int" = some (.type "int") := by decide +kernel
theorem boot_abs' : bootBuiltins "abs" = some (.builtin "abs") := by decide +kernel
theorem boot_tuple' : bootBuiltins "tuple" = some (.type "tuple") := by decide +kernel
theorem boot_list' : bootBuiltins "list" = some (.type "list") := by decide +kernel
theorem boot_sum' : bootBuiltins "sum" = some (.builtin "sum") := by decide +kernel
theorem boot_all' : bootBuiltins "all" = some (.builtin "all") := by decide +kernel
theorem boot_any' : bootBuiltins "any" = some (.builtin "any") := by decide +kernel
theorem boot_min' : bootBuiltins "min" = some (.builtin "min") := by decide +kernel
theorem boot_max' : bootBuiltins "max" = some (.builtin "max") := by decide +kernel
theorem boot_sorted' : bootBuiltins "sorted" = some (.builtin "sorted") := by decide +kernel
theorem boot_isi' : bootBuiltins "isinstance" = some (.builtin "isinstance") := by decide +kernel
theorem boot_bool' : bootBuiltins "bool" = some (.type "bool") := by decide +kernel
theorem boot_str' : bootBuiltins "str" = some (.type "str") := by decide +kernel
theorem se_intc (hg : Gl X "int") (hm : X.mg "int" = none) (ha : SB X a f) (na : NS a := by intro _ _; rfl) : SE X (.Call (.Name "int" p) [a] [] pos) (e1 pInt f) := se_un1 un_int ha (fun h => pe_callTy call_int1 hg hm boot_int' h (he := na _ _)) na
def pAbs : PV → Option PV
  | .int i => some (.int (if i < 0 then -i else i))
  | _ => none
theorem un_abs : Un1 K (fun xs H Q => ∃ i, xs = [.int i] ∧ Q (.int (if i < 0 then -i else i)) H) pAbs := fun F H x v z Q fh d e q => by
  unfold pAbs at e
  split at e
  · cases e
    obtain rfl := bor_int d
    exact ⟨_, rfl, fin0 fh (.int _) q⟩
  · cases e
theorem se_abs (hg : Gl X "abs") (hm : X.mg "abs" = none) (ha : SB X a f) (na : NS a := by intro _ _; rfl) : SE X (.Call (.Name "abs" p) [a] [] pos) (e1 pAbs f) := se_un1 un_abs ha (fun h => pe_callB call_abs hg hm boot_abs' h (he := na _ _)) na
def pTuple : PV → Option PV
  | .list l => some (.tuple l)
  | .tuple l => some (.tuple l)
  | _ => none
theorem un_tuple : Un1 K (fun xs H Q => ∃ p ys, xs = [.ref p] ∧ ((SqL K H p ys ∧ ∀ l, H l = none → Q (.ref l) (upd H l (.tup ys))) ∨ (SqT K H p ys ∧ Q (.ref p) H))) pTuple := fun F H x v z Q fh d e q => by
  unfold pTuple at e
  split at e
  · cases e
    obtain ⟨p, xs, rfl, h1, d1⟩ := bor_lst fh d
    exact ⟨p, xs, rfl, .inl ⟨h1, finNew (z := .none) fh d1 q⟩⟩
  · cases e
    obtain ⟨p, xs, rfl, f1, h1, d1⟩ := bor_tup fh d
    exact ⟨p, xs, rfl, .inr ⟨h1, fin0 fh (.tup f1 d1) q⟩⟩
  · cases e
theorem se_tuple (hg : Gl X "tuple") (hm : X.mg "tuple" = none) (ha : SB X a f) (na : NS a := by intro _ _; rfl) : SE X (.Call (.Name "tuple" p) [a] [] pos) (e1 pTuple f) := se_un1 un_tuple ha (fun h => pe_callTy call_tuple_of hg hm boot_tuple' h (he := na _ _)) na
def pList : PV → Option PV
  | .list l => some (.list l)
  | .tuple l => some (.list l)
  | _ => none
theorem un_list : Un1F K (fun xs H Q => ∃ p ys, xs = [.ref p] ∧ (SqL K H p ys ∨ SqT K H p ys) ∧ ∀ l, H l = none → Q (.ref l) (upd H l (.lst ys))) pList := fun F H x v z Q fh d e q => by
  unfold pList at e
  split at e
  · cases e
    obtain ⟨p, xs, rfl, h1, d1⟩ := bor_lst fh d
    exact ⟨p, xs, rfl, .inl h1, finOwn fh d1 q⟩
  · cases e
    obtain ⟨p, xs, rfl, f1, h1, d1⟩ := bor_tup fh d
    exact ⟨p, xs, rfl, .inr h1, finOwn fh d1 q⟩
  · cases e
theorem sf_list (hg : Gl X "list") (hm : X.mg "list" = none) (ha : SB X a f) (na : NS a := by intro _ _; rfl) : SF X (.Call (.Name "list" p) [a] [] pos) (e1 pList f) := sf_un1 un_list ha (fun h => pe_callTy call_list_of hg hm boot_list' h (he := na _ _)) na
/-! lists of ints, of bools -/
def toIs : List PV → Option (List Int)
  | [] => some []
  | d :: r => (toI d).bind fun i => (toIs r).bind fun l => some (i :: l)
def toBs : List PV → Option (List Bool)
  | [] => some []
  | d :: r => (toB d).bind fun i => (toBs r).bind fun l => some (i :: l)
theorem toIs_some : ∀ {l : List PV} {is : List Int}, toIs l = some is → l = is.map PyData.int
  | [], _, h => by cases h; rfl
  | d :: r, _, h => by
    obtain ⟨i, h1, h2⟩ := bind_some h
    obtain ⟨m, h3, h4⟩ := bind_some h2
    cases h4
    rw [toI_some h1, toIs_some h3]
    rfl
theorem toBs_some : ∀ {l : List PV} {is : List Bool}, toBs l = some is → l = is.map PyData.bool
  | [], _, h => by cases h; rfl
  | d :: r, _, h => by
    obtain ⟨i, h1, h2⟩ := bind_some h
    obtain ⟨m, h3, h4⟩ := bind_some h2
    cases h4
    rw [toB_some h1, toBs_some h3]
    rfl
theorem toIs_map (is : List Int) : toIs (is.map PyData.int) = some is := by
  induction is with
  | nil => rfl
  | cons i r ih => simp [toIs, toI, ih]
theorem toBs_map (is : List Bool) : toBs (is.map PyData.bool) = some is := by
  induction is with
  | nil => rfl
  | cons i r ih => simp [toBs, toB, ih]
theorem drAll_bools {F : Hp} : ∀ {bs : List Bool} {vs : List V}, DrAll K F vs (bs.map PyData.bool) → vs = bs.map V.bl
  | [], _, h => by cases h; rfl
  | n :: ns, _, h => by
    cases h with
    | cons h1 h2 =>
      cases h1
      rw [List.map_cons, drAll_bools h2]
def pSumL : PV → Option PV
  | .list l => (toIs l).bind fun is => some (.int is.sum)
  | _ => none
theorem un_sum : Un1 K (rSum K) pSumL := fun F H x v z Q fh d e q => by
  unfold pSumL at e
  split at e
  · obtain ⟨is, e1, e2⟩ := bind_some e
    cases e2
    obtain rfl := toIs_some e1
    obtain ⟨p, xs, rfl, h1, d1⟩ := bor_lst fh d
    obtain rfl := drAll_ints d1
    exact ⟨p, is, rfl, h1, fin0 fh (.int _) q⟩
  · cases e
theorem se_sum (hc : X.calm = true) (hg : Gl X "sum") (hm : X.mg "sum" = none) (ha : SB X a f) (na : NS a := by intro _ _; rfl) : SE X (.Call (.Name "sum" p) [a] [] pos) (e1 pSumL f) := se_un1 un_sum ha (fun h => pe_callB (cr_sum hc) hg hm boot_sum' h (he := na _ _)) na
def pAll : PV → Option PV
  | .list l => (toBs l).bind fun is => some (.bool (is.all id))
  | _ => none
def pAny : PV → Option PV
  | .list l => (toBs l).bind fun is => some (.bool (is.any id))
  | _ => none
theorem un_all : Un1 K (rAll K) pAll := fun F H x v z Q fh d e q => by
  unfold pAll at e
  split at e
  · obtain ⟨is, e1, e2⟩ := bind_some e
    cases e2
    obtain rfl := toBs_some e1
    obtain ⟨p, xs, rfl, h1, d1⟩ := bor_lst fh d
    obtain rfl := drAll_bools d1
    exact ⟨p, is, rfl, h1, fin0 fh (.bl _) q⟩
  · cases e
theorem un_any : Un1 K (rAny K) pAny := fun F H x v z Q fh d e q => by
  unfold pAny at e
  split at e
  · obtain ⟨is, e1, e2⟩ := bind_some e
    cases e2
    obtain rfl := toBs_some e1
    obtain ⟨p, xs, rfl, h1, d1⟩ := bor_lst fh d
    obtain rfl := drAll_bools d1
    exact ⟨p, is, rfl, h1, fin0 fh (.bl _) q⟩
  · cases e
theorem se_all (hc : X.calm = true) (hg : Gl X "all") (hm : X.mg "all" = none) (ha : SB X a f) (na : NS a := by intro _ _; rfl) : SE X (.Call (.Name "all" p) [a] [] pos) (e1 pAll f) := se_un1 un_all ha (fun h => pe_callB (cr_all hc) hg hm boot_all' h (he := na _ _)) na
theorem se_any (hc : X.calm = true) (hg : Gl X "any") (hm : X.mg "any" = none) (ha : SB X a f) (na : NS a := by intro _ _; rfl) : SE X (.Call (.Name "any" p) [a] [] pos) (e1 pAny f) := se_un1 un_any ha (fun h => pe_callB (cr_any hc) hg hm boot_any' h (he := na _ _)) na
def pMin2 : PV → PV → Option PV
  | .int i, .int j => some (.int (if j < i then j else i))
  | _, _ => none
def pMax2 : PV → PV → Option PV
  | .int i, .int j => some (.int (if i < j then j else i))
  | _, _ => none
theorem se_min2 (hc : X.calm = true) (hg : Gl X "min") (hm : X.mg "min" = none) (ha : SB X a f) (hb : SB X b g) (na : NS a := by intro _ _; rfl) (nb : NS b := by intro _ _; rfl) : SE X (.Call (.Name "min" p) [a, b] [] pos) (e2 pMin2 f g) :=
  se_un2 (fun F H x y v w z Q fh d1 d2 e q => by
    unfold pMin2 at e
    split at e
    · cases e
      obtain rfl := bor_int d1
      obtain rfl := bor_int d2
      exact ⟨_, _, rfl, fin0 fh (.int _) q⟩
    · cases e) ha hb (fun h => pe_callB (call_min2 hc) hg hm boot_min' h (he := na _ _) (hpl := nb.one _ _)) na nb
theorem se_max2 (hc : X.calm = true) (hg : Gl X "max") (hm : X.mg "max" = none) (ha : SB X a f) (hb : SB X b g) (na : NS a := by intro _ _; rfl) (nb : NS b := by intro _ _; rfl) : SE X (.Call (.Name "max" p) [a, b] [] pos) (e2 pMax2 f g) :=
  se_un2 (fun F H x y v w z Q fh d1 d2 e q => by
    unfold pMax2 at e
    split at e
    · cases e
      obtain rfl := bor_int d1
      obtain rfl := bor_int d2
      exact ⟨_, _, rfl, fin0 fh (.int _) q⟩
    · cases e) ha hb (fun h => pe_callB (call_max2 hc) hg hm boot_max' h (he := na _ _) (hpl := nb.one _ _)) na nb

/-! isinstance -/
def tyName : PV → Option String
  | .none => some "NoneType"
  | .bool _ => some "bool"
  | .int _ => some "int"
  | .str _ => some "str"
  | .list _ => some "list"
  | .tuple _ => some "tuple"
  | .dict _ => none
theorem ty_of {F H : Hp} {x : V} {v : PV} {t : String} (fh : Same F H) (d : BoR K F H x v) (h : tyName v = some t) : TyX K H x (.type t) := by
  cases v with
  | none => cases h; obtain rfl := bor_none d; exact .base .non
  | bool b => cases h; obtain rfl := bor_bool d; exact .base (.bl b)
  | int i => cases h; obtain rfl := bor_int d; exact .base (.int i)
  | str i => cases h; obtain rfl := bor_str d; exact .base (.str i)
  | list l =>
    cases h
    obtain ⟨p, xs, rfl, h1, d1⟩ := bor_lst fh d
    rcases h1 with (h1 | ⟨o, h1⟩) | ⟨o, is, m, h1, hc, _⟩
    · exact .base (.lst h1)
    · exact .base (.frz h1)
    · exact .kList h1 hc
  | tuple l =>
    cases h
    obtain ⟨p, xs, rfl, f1, h1, d1⟩ := bor_tup fh d
    rcases h1 with (h1 | ⟨o, h1⟩) | ⟨o, is, m, h1, hc, _⟩
    · exact .base (.tup h1)
    · exact .fTuple h1
    · exact .kTuple h1 hc
  | dict l => cases h
def pIsi (T : String) (v : PV) : Option PV := (tyName v).bind fun t => (kitB t T).bind fun b => some (.bool b)
/-- isinstance(a, T), T a built-in class by its name -/
theorem se_isi {T : Str} {n : String} {pT : Pos} (hg : Gl X "isinstance") (hm : X.mg "isinstance" = none) (ha : SB X a f) (hT : PE X (.Name T pT) (tC (.ty n))) (na : NS a := by intro _ _; rfl) : SE X (.Call (.Name "isinstance" p) [a, .Name T pT] [] pos) (e1 (pIsi n) f) :=
  PE.imp (pe_callB call_isi hg hm boot_isi' (pa_cons ha (pa_cons hT pa_nil) (na _ _)) (he := na _ _)) fun σ H Q ⟨B, F0, F, ρ, z, R, e, q⟩ => by
    obtain ⟨v, e1, e2⟩ := bind_some e
    refine ⟨B, F0, F, ρ, v, R, e1, fun x H1 F1 R1 E1 d1 => ?_⟩
    obtain ⟨t, e3, e4⟩ := bind_some e2
    obtain ⟨k, e5, e6⟩ := bind_some e4
    cases e6
    exact ⟨x, .ty n, .type t, .type n, k, rfl, .ty n, ty_of R1.fh d1 e3, kit_ty e5, q _ _ _ R1 E1 (.bl _)⟩
theorem kit_vals : kitB "NoneType" "int" = some false ∧ kitB "bool" "int" = some true ∧ kitB "int" "int" = some true ∧ kitB "str" "int" = some false ∧ kitB "list" "int" = some false ∧ kitB "tuple" "int" = some false ∧
    kitB "NoneType" "bool" = some false ∧ kitB "bool" "bool" = some true ∧ kitB "int" "bool" = some false ∧ kitB "str" "bool" = some false ∧ kitB "list" "bool" = some false ∧ kitB "tuple" "bool" = some false ∧
    kitB "NoneType" "tuple" = some false ∧ kitB "bool" "tuple" = some false ∧ kitB "int" "tuple" = some false ∧ kitB "str" "tuple" = some false ∧ kitB "list" "tuple" = some false ∧ kitB "tuple" "tuple" = some true ∧
    kitB "NoneType" "str" = some false ∧ kitB "bool" "str" = some false ∧ kitB "int" "str" = some false ∧ kitB "str" "str" = some true ∧ kitB "list" "str" = some false ∧ kitB "tuple" "str" = some false := by decide +kernel
end
end Pl

set_option Elab.async false
set_option linter.all false
set_option maxRecDepth 100000
set_option maxHeartbeats 4000000
set_option autoImplicit false
namespace Pl
open PySem PySem.Spec PyProof.Rows L2
open PySem.W (alike dataLt lt_data le_data gt_data ge_data)
variable {K : PySem.W.Frag}

/-! ### what is walked -/
/-- the iterator J yields the items l while all of G stands; each item stands in F, or is a new tuple of such -/
structure Yl (K : PySem.W.Frag) (J : It) (l : List PV) (F G : Hp) : Prop where
  go : ∀ (i : Nat) (H : Hp), Same G H → i < l.length → J.go i H
  stop : ∀ (i : Nat) (H : Hp), Same G H → l.length = i → J.stop i H
  yld : ∀ (i : Nat) (H : Hp) (x : V) (H' : Hp), Same G H → i < l.length → J.yld i H x H' → ∃ d, l[i]? = some d ∧ ((H' = H ∧ Dr K F x d) ∨ ∃ T xs ds, x = .ref T ∧ H T = none ∧ H' = upd H T (.tup xs) ∧ DrAll K F xs ds ∧ d = .tuple ds)
abbrev LF := PEnv → Option (List PV)
/-- for a loop: what is walked never changes -/
def tI (K : PySem.W.Frag) (L : LF) : TI := fun σ H R => ∃ B F0 F ρ l, RE K B F0 F H σ ρ ∧ L ρ = some l ∧ ∀ J H' F', RE K B F0 F' H' σ ρ → Ext F H F' H' → Yl K J l F' F' → R J H'
/-- for a comprehension: an own list may be walked too -/
def tIB (K : PySem.W.Frag) (L : LF) : TI := fun σ H R => ∃ B F0 F ρ l, RE K B F0 F H σ ρ ∧ L ρ = some l ∧ ∀ J H' F' G, RE K B F0 F' H' σ ρ → Ext F H F' H' → Same F' G → Same G H' → Yl K J l F' G → R J H'
abbrev SI (X : Cx) (tg e : Expr) (L : LF) : Prop := PI X tg e (tI X.K L)
abbrev SIB (X : Cx) (tg e : Expr) (L : LF) : Prop := PI X tg e (tIB X.K L)
section
variable {X : Cx} {tg a b c e : Expr} {f g : PF} {pos p : Pos} {x : Str}
theorem PI.imp {t t' : TI} (h : PI X tg e t) (i : ∀ σ H Q, t' σ H Q → t σ H Q) : PI X tg e t' := ⟨fun pins s σ H Q I q => h.run pins s σ H Q I (i σ H Q q)⟩
theorem sib_of {L : LF} (h : SI X tg e L) : SIB X tg e L := PI.imp h fun σ H R ⟨B, F0, F, ρ, l, R1, e, q⟩ => ⟨B, F0, F, ρ, l, R1, e, fun J H' F' R' E' y => q J H' F' F' R' E' (Same.refl _) R'.fh y⟩
/-- a list or a tuple, whichever it is -/
def iSeq (K : PySem.W.Frag) (tl : TE) : TI := fun σ H R => tl σ H fun x H1 => ∃ a, x = .ref a ∧ (((∃ xs, SqL K H1 a xs) ∧ R (Itl K a) H1) ∨ ((∃ xs, SqT K H1 a xs) ∧ R (Itt K a) H1))
theorem pi_seq {tl : TE} (hl : PE X e tl) : PI X tg e (iSeq X.K tl) := by
  refine ⟨fun pins s σ H R I h => thn (hl.run pins s σ H _ I h) fun v s1 ⟨y, H1, I1, ry, q1⟩ => ?_⟩
  obtain ⟨ad, ey, q2⟩ := q1
  subst ey
  cases ry
  have fp : ∀ b ∈ [s1.heap.objs.size], FpOk X pins H1 b := fun b hb => by
    rw [List.mem_singleton.mp hb]
    exact I1.fpOk (Nat.le_refl _) I1.fresh
  have kp : ∀ o : Obj, Inv X pins σ H1 { s1 with heap := s1.heap.push o } := fun o => I1.kept (t' := s1.toks) fun _ _ z => Heap.get?_push_of_some _ z
  rcases q2 with ⟨⟨xs, hq⟩, r⟩ | ⟨⟨xs, hq⟩, r⟩
  · obtain ⟨its, rv, pl, hz⟩ := I1.list hq
    exact wpAny_pyIter_list pl.isList ⟨_, _, _, _, H1, rfl, kp _, turn_list ad _, ⟨_, Heap.get?_push_size _ rfl, rfl, rfl⟩, fp, r⟩
  · obtain ⟨its, rv, pl, hz⟩ := I1.tuple hq
    exact wpAny_pyIter_tuple (show s1.heap.IsTuple ad its.toArray from pl) ⟨_, _, _, _, H1, rfl, kp _, turn_tuple ad _, ⟨_, Heap.get?_push_size _ rfl, rfl, rfl⟩, fp, r⟩
def toL : PV → Option (List PV)
  | .list l => some l
  | .tuple l => some l
  | _ => none
def lSeq (f : PF) : LF := fun ρ => (f ρ).bind toL
theorem yl_list {a : Addr} {xs : List V} {l : List PV} {F G : Hp} (h : SqL K G a xs) (d : DrAll K F xs l) : Yl K (Itl K a) l F G where
  go := fun i H s hi => by
    obtain ⟨v, h1, h2⟩ := drAll_get d (List.getElem?_eq_getElem hi)
    exact ⟨xs, v, sqL_same s h, h1⟩
  stop := fun i H s hi => ⟨xs, sqL_same s h, by rw [drAll_length d]; exact Nat.le_of_eq hi⟩
  yld := fun i H x H' s hi y => by
    obtain ⟨e1, e2⟩ := y
    obtain ⟨dd, h1, h2⟩ := drAll_get' d (e2 xs (sqL_same s h))
    exact ⟨dd, h1, .inl ⟨e1, h2⟩⟩
theorem yl_tup {a : Addr} {xs : List V} {l : List PV} {F G : Hp} (h : SqT K G a xs) (d : DrAll K F xs l) : Yl K (Itt K a) l F G where
  go := fun i H s hi => by
    obtain ⟨v, h1, h2⟩ := drAll_get d (List.getElem?_eq_getElem hi)
    exact ⟨xs, v, sqT_same s h, h1⟩
  stop := fun i H s hi => ⟨xs, sqT_same s h, by rw [drAll_length d]; exact Nat.le_of_eq hi⟩
  yld := fun i H x H' s hi y => by
    obtain ⟨e1, e2⟩ := y
    obtain ⟨dd, h1, h2⟩ := drAll_get' d (e2 xs (sqT_same s h))
    exact ⟨dd, h1, .inl ⟨e1, h2⟩⟩
theorem si_seq (ha : SE X a f) : SI X tg a (lSeq f) := PI.imp (pi_seq ha) fun σ H R ⟨B, F0, F, ρ, l, R1, e, q⟩ => by
  obtain ⟨v, e1, e2⟩ := bind_some e
  refine ⟨B, F0, F, ρ, v, R1, e1, fun x H1 F1 R2 E1 d1 => ?_⟩
  unfold toL at e2
  split at e2
  · cases e2
    cases d1 with
    | lst hs ha => exact ⟨_, rfl, .inl ⟨⟨_, sqL_same R2.fh hs⟩, q _ _ _ R2 E1 (yl_list hs ha)⟩⟩
  · cases e2
    cases d1 with
    | tup hs ha => exact ⟨_, rfl, .inr ⟨⟨_, sqT_same R2.fh hs⟩, q _ _ _ R2 E1 (yl_tup hs ha)⟩⟩
  · cases e2
theorem same_add {F H : Hp} {a : Addr} {o : HO} (fh : Same F H) (h : H a = some o) : Same F (upd F a o) ∧ Same (upd F a o) H := ⟨fun b u e => by
  by_cases z : b = a
  · subst z
    rw [upd_same, ← h, fh _ _ e]
  · rw [upd_ne z]
    exact e, fun b u e => by
  by_cases z : b = a
  · subst z
    rw [upd_same] at e
    rw [h]
    exact e
  · rw [upd_ne z] at e
    exact fh _ _ e⟩
theorem sib_seq (ha : SB X a f) : SIB X tg a (lSeq f) := PI.imp (pi_seq ha) fun σ H R ⟨B, F0, F, ρ, l, R1, e, q⟩ => by
  obtain ⟨v, e1, e2⟩ := bind_some e
  refine ⟨B, F0, F, ρ, v, R1, e1, fun x H1 F1 R2 E1 d1 => ?_⟩
  unfold toL at e2
  split at e2
  · cases e2
    rcases d1 with d1 | ⟨p, rfl, xs, h1, h2⟩
    · cases d1 with
      | lst hs ha => exact ⟨_, rfl, .inl ⟨⟨_, sqL_same R2.fh hs⟩, q _ _ _ _ R2 E1 (Same.refl _) R2.fh (yl_list hs ha)⟩⟩
    · obtain ⟨s1, s2⟩ := same_add R2.fh h1
      exact ⟨p, rfl, .inl ⟨⟨_, .inl (.inl h1)⟩, q _ _ _ _ R2 E1 s1 s2 (yl_list (.inl (.inl upd_same)) h2)⟩⟩
  · cases e2
    obtain ⟨p, xs, rfl, f1, h1, d1⟩ := bor_tup R2.fh d1
    exact ⟨p, rfl, .inr ⟨⟨_, h1⟩, q _ _ _ _ R2 E1 (Same.refl _) R2.fh (yl_tup f1 d1)⟩⟩
  · cases e2
/-- a, a + 1, .. b - 1 -/
def rng (a b : Int) : List Int := (List.range (b - a).toNat).map fun i => a + ((i : Nat) : Int)
theorem rng_length (a b : Int) : (rng a b).length = (b - a).toNat := by unfold rng; rw [List.length_map, List.length_range]
theorem rng_get (a b : Int) (i : Nat) (h : i < (b - a).toNat) : (rng a b)[i]? = some (a + (i : Int)) := by
  unfold rng
  rw [List.getElem?_map, List.getElem?_range h]
  rfl
theorem yl_rng (a b : Int) (F G : Hp) : Yl K (Itr a (b - a).toNat) ((rng a b).map PyData.int) F G where
  go := fun i H s hi => by
    rw [List.length_map, rng_length] at hi
    exact hi
  stop := fun i H s hi => by
    rw [List.length_map, rng_length] at hi
    exact Nat.le_of_eq hi
  yld := fun i H x H' s hi y => by
    obtain ⟨e1, e2⟩ := y
    subst e1 e2
    rw [List.length_map, rng_length] at hi
    refine ⟨.int (a + (i : Int)), ?_, .inl ⟨rfl, .int _⟩⟩
    rw [List.getElem?_map, rng_get a b i hi]
    rfl
def rOk (a b : Int) : Bool := decide (-(2 ^ 62) ≤ a) && (decide (a < 2 ^ 62) && (decide (-(2 ^ 62) ≤ b) && decide (b < 2 ^ 62)))
theorem rOk_iff {a b : Int} (h : rOk a b = true) : -(2 ^ 62) ≤ a ∧ a < 2 ^ 62 ∧ -(2 ^ 62) ≤ b ∧ b < 2 ^ 62 := by
  unfold rOk at h
  simp only [Bool.and_eq_true, decide_eq_true_eq] at h
  exact h
def pRng (v w : PV) : Option (List PV) := (toI v).bind fun i => (toI w).bind fun j => if rOk i j = true then some ((rng i j).map PyData.int) else none
def lRng1 (f : PF) : LF := fun ρ => (f ρ).bind fun v => pRng (.int 0) v
def lRng2 (f g : PF) : LF := fun ρ => (f ρ).bind fun v => (g ρ).bind fun w => pRng v w
theorem pRng_some {v w : PV} {l : List PV} (h : pRng v w = some l) : ∃ i j, v = .int i ∧ w = .int j ∧ (-(2 ^ 62) ≤ i ∧ i < 2 ^ 62 ∧ -(2 ^ 62) ≤ j ∧ j < 2 ^ 62) ∧ l = (rng i j).map PyData.int := by
  obtain ⟨i, h1, h2⟩ := bind_some h
  obtain ⟨j, h3, h4⟩ := bind_some h2
  split at h4
  · rename_i ok
    cases h4
    exact ⟨i, j, toI_some h1, toI_some h3, rOk_iff ok, rfl⟩
  · cases h4
theorem si_rng1 (hg : Gl X "range") (hm : X.mg "range" = none) (ha : SB X a f) (na : NS a := by intro _ _; rfl) : SI X tg (.Call (.Name "range" p) [a] [] pos) (lRng1 f) := PI.imp (pi_range1 hg hm (pa_cons ha pa_nil (na _ _)) (na _ _)) fun σ H R ⟨B, F0, F, ρ, l, R1, e, q⟩ => by
  obtain ⟨v, e1, e2⟩ := bind_some e
  obtain ⟨i, j, hi, rfl, ok, rfl⟩ := pRng_some e2
  cases hi
  refine ⟨B, F0, F, ρ, _, R1, e1, fun x H1 F1 R2 E1 d1 => ?_⟩
  obtain rfl := bor_int d1
  refine ⟨j, rfl, ok.2.2.1, ok.2.2.2, q _ _ _ R2 E1 ?_⟩
  have := yl_rng (K := X.K) 0 j F1 F1
  rw [Int.sub_zero] at this
  exact this
theorem si_rng2 (hg : Gl X "range") (hm : X.mg "range" = none) (ha : SB X a f) (hb : SB X b g) (na : NS a := by intro _ _; rfl) (nb : NS b := by intro _ _; rfl) : SI X tg (.Call (.Name "range" p) [a, b] [] pos) (lRng2 f g) :=
  PI.imp (pi_range2 hg hm (pa_cons ha (pa_cons hb pa_nil (nb _ _)) (na _ _)) (by rw [na, nb]; rfl) (nb _ _)) fun σ H R ⟨B, F0, F, ρ, l, R1, e, q⟩ => by
  obtain ⟨v, e1, e2⟩ := bind_some e
  obtain ⟨w, e3, e4⟩ := bind_some e2
  obtain ⟨i, j, rfl, rfl, ok, rfl⟩ := pRng_some e4
  refine ⟨B, F0, F, ρ, _, R1, e1, fun x H1 F1 R2 E1 d1 => ⟨B, F0, F1, ρ, _, R2, e3, fun y H2 F2 R3 E2 d2 => ?_⟩⟩
  obtain rfl := bor_int d1
  obtain rfl := bor_int d2
  exact ⟨i, j, rfl, ok, q _ _ _ R3 (E1.trans E2) (yl_rng i j F2 F2)⟩

/-! ### targets -/
abbrev GF := PV → PEnv → Option PEnv
def tG (K : PySem.W.Frag) (h : GF) (ts : List Nat) : TG := fun x σ H Q => ∃ B F0 F ρ d ρ', RE K B F0 F H σ ρ ∧ Dr K F x d ∧ h d ρ = some ρ' ∧ ∀ σ', RE K B F0 F H σ' ρ' → (∀ vs : List Nat, (∀ i ∈ ts, i ∈ vs) → wipe σ' vs = wipe σ vs) → (∀ (i : Nat) v, ρ'[i]? = some (.own v) → ρ[i]? = some (.own v) ∧ σ'[i]? = σ[i]?) → Q σ' H
abbrev SG (X : Cx) (tg : Expr) (h : GF) (ts : List Nat) : Prop := PG X tg (tG X.K h ts)
theorem PG.imp {t t' : TG} (h : PG X tg t) (i : ∀ x σ H Q, t' x σ H Q → t x σ H Q) : PG X tg t' := ⟨fun pins s σ H v u Q I r q => h.run pins s σ H v u Q I r (i v σ H Q q)⟩
def gN (i : Nat) : GF := fun d ρ => if i < ρ.length then some (ρ.set i (.val d)) else none
theorem RE.setVal {B F0 F H : Hp} {σ : L2.St} {ρ : PEnv} {i : Nat} {v : V} {d : PV} (R : RE K B F0 F H σ ρ) (hd : Dr K F v d) : RE K B F0 F H (σ.set i (some v)) (ρ.set i (.val d)) := by
  refine ⟨R.fh, R.bh, R.f0, R.ff, by rw [List.length_set, List.length_set]; exact R.len, fun j w h => ?_, fun j w h => ?_, fun j k w w' ad h1 h2 h3 h4 => ?_⟩
  · by_cases z : i = j
    · subst z
      by_cases hi : i < ρ.length
      · rw [List.getElem?_set_self hi] at h
        cases h
        exact ⟨v, List.getElem?_set_self (by rw [R.len]; exact hi), hd⟩
      · rw [List.getElem?_eq_none (by rw [List.length_set]; omega)] at h
        cases h
    · rw [List.getElem?_set_ne z] at h ⊢
      exact R.val j w h
  · by_cases z : i = j
    · subst z
      by_cases hi : i < ρ.length
      · rw [List.getElem?_set_self hi] at h
        cases h
      · rw [List.getElem?_eq_none (by rw [List.length_set]; omega)] at h
        cases h
    · rw [List.getElem?_set_ne z] at h ⊢
      exact R.own j w h
  · have f : ∀ m u, (ρ.set i (.val d))[m]? = some (.own u) → i ≠ m ∧ ρ[m]? = some (.own u) := fun m u h => by
      by_cases z : i = m
      · subst z
        by_cases hi : i < ρ.length
        · rw [List.getElem?_set_self hi] at h
          cases h
        · rw [List.getElem?_eq_none (by rw [List.length_set]; omega)] at h
          cases h
      · rw [List.getElem?_set_ne z] at h
        exact ⟨z, h⟩
    obtain ⟨z1, g1⟩ := f j w h1
    obtain ⟨z2, g2⟩ := f k w' h2
    rw [List.getElem?_set_ne z1] at h3
    rw [List.getElem?_set_ne z2] at h4
    exact R.sep j k w w' ad g1 g2 h3 h4
theorem wipe_set {σ : L2.St} {i : Nat} {o : Option V} : ∀ {vs : List Nat}, i ∈ vs → wipe (σ.set i o) vs = wipe σ vs
  | [], h => by cases h
  | v :: vs, h => by
    unfold wipe
    by_cases z : i = v
    · subst z
      by_cases hv : i ∈ vs
      · rw [wipe_set hv]
      · have : ∀ vs : List Nat, i ∉ vs → wipe (σ.set i o) vs = (wipe σ vs).set i o := fun vs => by
          induction vs with
          | nil => intro _; rfl
          | cons w ws ih =>
            intro h
            simp only [List.mem_cons, not_or] at h
            unfold wipe
            rw [ih h.2, List.set_comm _ _ h.1]
        rw [this vs hv, List.set_set]
    · have : i ∈ vs := by
        rcases List.mem_cons.mp h with h | h
        · exact absurd h z
        · exact h
      rw [wipe_set this]
theorem sg_name {i : Nat} {pos' : Pos} (hN : X.N.Nodup) (hi : X.N[i]? = some x) (hx : Loc X.env.scope x) (hf : X.fn x = true ∨ X.env.scope.names.lookup x = some .local := by first | exact .inl rfl | exact .inr rfl | assumption) : SG X (.Name x pos') (gN i) [i] :=
  PG.imp (pg_name hN hi hx hf) fun y σ H Q ⟨B, F0, F, ρ, d, ρ', R, dr, e, q⟩ => by
    unfold gN at e
    split at e
    · cases e
      refine q _ (R.setVal dr) (fun vs h => wipe_set (h i (by simp))) fun j w h => ?_
      by_cases z : i = j
      · subst z
        rw [List.getElem?_set_self (by assumption)] at h
        cases h
      · rw [List.getElem?_set_ne z] at h ⊢
        exact ⟨h, rfl⟩
    · cases e
/-! several -/
abbrev GFs := List PV → PEnv → Option PEnv
def tGs (K : PySem.W.Frag) (h : GFs) (ts : List Nat) : TGs := fun xs σ H Q => ∃ B F0 F ρ d ρ', RE K B F0 F H σ ρ ∧ DrAll K F xs d ∧ h d ρ = some ρ' ∧ ∀ σ', RE K B F0 F H σ' ρ' → (∀ vs : List Nat, (∀ i ∈ ts, i ∈ vs) → wipe σ' vs = wipe σ vs) → (∀ (i : Nat) v, ρ'[i]? = some (.own v) → ρ[i]? = some (.own v) ∧ σ'[i]? = σ[i]?) → Q σ' H
abbrev SGs (X : Cx) (tgs : List Expr) (h : GFs) (ts : List Nat) : Prop := PGs X tgs (tGs X.K h ts)
theorem PGs.imp {es : List Expr} {t t' : TGs} (h : PGs X es t) (i : ∀ x σ H Q, t' x σ H Q → t x σ H Q) : PGs X es t' := ⟨fun pins s σ H v u Q I r q => h.run pins s σ H v u Q I r (i v σ H Q q)⟩
def gNil' : GFs := fun ds ρ => match ds with
  | [] => some ρ
  | _ => none
def gCons' (h : GF) (r : GFs) : GFs := fun ds ρ => match ds with
  | [] => none
  | d :: t => (h d ρ).bind fun ρ1 => r t ρ1
def gT (h : GFs) : GF := fun d ρ => match d with
  | .tuple l => h l ρ
  | _ => none
theorem sgs_nil : SGs X [] gNil' [] := PGs.imp pgs_nil fun xs σ H Q ⟨B, F0, F, ρ, d, ρ', R, dr, e, q⟩ => by
  unfold gNil' at e
  split at e
  · cases e
    cases dr
    exact ⟨rfl, q _ R (fun vs _ => rfl) fun _ _ h => ⟨h, rfl⟩⟩
  · cases e
theorem sgs_cons {es : List Expr} {h : GF} {r : GFs} {t1 t2 : List Nat} (h1 : SG X e h t1) (h2 : SGs X es r t2) (hs : (assignEach (e :: es) X.env).map (·.2) = assign e X.env :: (assignEach es X.env).map (·.2) := by rfl) : SGs X (e :: es) (gCons' h r) (t1 ++ t2) :=
  PGs.imp (pgs_cons h1 h2 hs) fun xs σ H Q ⟨B, F0, F, ρ, d, ρ', R, dr, e, q⟩ => by
    unfold gCons' at e
    split at e
    · cases e
    · rename_i d0 t
      cases dr with
      | cons g1 g2 =>
        obtain ⟨ρ1, e1, e2⟩ := bind_some e
        refine ⟨_, _, rfl, B, F0, F, ρ, d0, ρ1, R, g1, e1, fun σ1 R1 w1 o1 => ⟨B, F0, F, ρ1, t, ρ', R1, g2, e2, fun σ2 R2 w2 o2 => q _ R2 (fun vs hv => ?_) fun i v h => ?_⟩⟩
        · rw [w2 vs fun i hi => hv i (List.mem_append_right _ hi), w1 vs fun i hi => hv i (List.mem_append_left _ hi)]
        · obtain ⟨h1, h2⟩ := o2 i v h
          obtain ⟨h3, h4⟩ := o1 i v h1
          exact ⟨h3, h2.trans h4⟩
theorem sg_tup {es : List Expr} {k n : Nat} {h : GFs} {ts : List Nat} (hc : X.calm = true) (hs : SGs X es h ts) (hn : (assignEach es X.env).length = n := by rfl) (hst : (assignEach es X.env).findIdx? (·.1) = none := by rfl) (hl : ∀ ds ρ ρ', h ds ρ = some ρ' → ds.length = n) : SG X (.Tuple es k pos) (gT h) ts :=
  PG.imp (pg_tup hc hs hn hst) fun y σ H Q ⟨B, F0, F, ρ, d, ρ', R, dr, e, q⟩ => by
    unfold gT at e
    split at e
    · rename_i l
      cases dr with
      | tup hs ha =>
        exact ⟨_, _, rfl, sqT_same R.fh hs, by rw [drAll_length ha]; exact hl _ _ _ e, B, F0, F, ρ, l, ρ', R, ha, e, q⟩
    · cases e
theorem gNil_len : ∀ ds ρ ρ', gNil' ds ρ = some ρ' → ds.length = 0 := fun ds ρ ρ' h => by
  unfold gNil' at h
  split at h
  · rfl
  · cases h
theorem gCons_len {h : GF} {r : GFs} {n : Nat} (hr : ∀ ds ρ ρ', r ds ρ = some ρ' → ds.length = n) : ∀ ds ρ ρ', gCons' h r ds ρ = some ρ' → ds.length = n + 1 := fun ds ρ ρ' e => by
  unfold gCons' at e
  split at e
  · cases e
  · obtain ⟨ρ1, e1, e2⟩ := bind_some e
    rw [List.length_cons, hr _ _ _ e2]

/-! ### comprehensions -/
def wipeE (ρ : PEnv) : List Nat → PEnv
  | [] => ρ
  | v :: vs => (wipeE ρ vs).set v .un
theorem RE.setUn {B F0 F H : Hp} {σ : L2.St} {ρ : PEnv} {i : Nat} {o : Option V} (R : RE K B F0 F H σ ρ) : RE K B F0 F H (σ.set i o) (ρ.set i .un) := by
  have f : ∀ m s, (ρ.set i .un)[m]? = some s → s ≠ .un → i ≠ m ∧ ρ[m]? = some s := fun m s h n => by
    by_cases z : i = m
    · subst z
      by_cases hi : i < ρ.length
      · rw [List.getElem?_set_self hi] at h
        cases h
        exact absurd rfl n
      · rw [List.getElem?_eq_none (by rw [List.length_set]; omega)] at h
        cases h
    · rw [List.getElem?_set_ne z] at h
      exact ⟨z, h⟩
  refine ⟨R.fh, R.bh, R.f0, R.ff, by rw [List.length_set, List.length_set]; exact R.len, fun j w h => ?_, fun j w h => ?_, fun j k w w' ad h1 h2 h3 h4 => ?_⟩
  · obtain ⟨z, g⟩ := f j _ h (fun q => by cases q)
    rw [List.getElem?_set_ne z]
    exact R.val j w g
  · obtain ⟨z, g⟩ := f j _ h (fun q => by cases q)
    rw [List.getElem?_set_ne z]
    exact R.own j w g
  · obtain ⟨z1, g1⟩ := f j _ h1 (fun q => by cases q)
    obtain ⟨z2, g2⟩ := f k _ h2 (fun q => by cases q)
    rw [List.getElem?_set_ne z1] at h3
    rw [List.getElem?_set_ne z2] at h4
    exact R.sep j k w w' ad g1 g2 h3 h4
theorem RE.wiped {B F0 F H : Hp} {σ : L2.St} {ρ : PEnv} (R : RE K B F0 F H σ ρ) : ∀ vs : List Nat, RE K B F0 F H (wipe σ vs) (wipeE ρ vs)
  | [] => R
  | v :: vs => (R.wiped vs).setUn
def compL (h : GF) (c : PEnv → Option Bool) (e : PF) (ρ : PEnv) : List PV → Option (List PV)
  | [] => some []
  | x :: r => (h x ρ).bind fun ρ1 => (c ρ1).bind fun b => if b = true then (e ρ1).bind fun y => (compL h c e ρ r).bind fun ys => some (y :: ys) else compL h c e ρ r
def eComp (L : LF) (vs : List Nat) (h : GF) (c : PEnv → Option Bool) (e : PF) : PF := fun ρ => (L ρ).bind fun l => (compL h c e (wipeE ρ vs) l).bind pLst
def cYes : PEnv → Option Bool := fun _ => some true
/-- the tests of a clause -/
structure STs (X : Cx) (ifs : List Expr) (c : PEnv → Option Bool) : Prop where
  h : PTs X ifs (tT X.K c)
theorem PTs.imp {ifs : List Expr} {t t' : TT} (h : PTs X ifs t) (i : ∀ σ H Q, t' σ H Q → t σ H Q) : PTs X ifs t' := ⟨fun pins s σ H Q I q => h.run pins s σ H Q I (i σ H Q q)⟩
theorem sts_nil : PTs X [] (tT X.K cYes) := PTs.imp pts_nil fun σ H Q ⟨B, F0, F, ρ, z, R, e, q⟩ => by
  cases e
  exact q _ _ R (Ext.refl _ _)
theorem sts_one {k : PEnv → Option Bool} (h : ST X c k) : PTs X [c] (tT X.K k) := pts_one h
end
end Pl

set_option Elab.async false
set_option linter.all false
set_option maxRecDepth 100000
set_option maxHeartbeats 4000000
set_option autoImplicit false
namespace Pl
open PySem PySem.Spec PyProof.Rows L2
open PySem.W (alike dataLt lt_data le_data gt_data ge_data)
variable {K : PySem.W.Frag}

theorem RE.updOther {B F0 F H : Hp} {σ : L2.St} {ρ : PEnv} {D : Addr} {o : HO} (R : RE K B F0 F H σ ρ) (fd : F D = none) (bd : B D = none) (no : ∀ (i : Nat) v, ρ[i]? = some (.own v) → σ[i]? ≠ some (some (.ref D))) : RE K B F0 F (upd H D o) σ ρ := by
  refine ⟨fun b u e => ?_, fun b u e => ?_, R.f0, R.ff, R.len, R.val, fun i v h => ?_, R.sep⟩
  · rw [upd_ne (ne_of_none e fd)]
    exact R.fh _ _ e
  · rw [upd_ne (ne_of_none e bd)]
    exact R.bh _ _ e
  · obtain ⟨a, h1, h2, h3, h4⟩ := R.own i v h
    have z : a ≠ D := fun z => no i v h (z ▸ h1)
    exact ⟨a, h1, h2, h3, h4.same (Same.refl _) (upd_ne z)⟩
theorem RE.notOwn {B F0 F H : Hp} {σ : L2.St} {ρ : PEnv} {D : Addr} (R : RE K B F0 F H σ ρ) (h : H D = none) : ∀ (i : Nat) v, ρ[i]? = some (.own v) → σ[i]? ≠ some (some (.ref D)) := fun i v hi z => by
  obtain ⟨a, h1, h2, h3, h4⟩ := R.own i v hi
  obtain ⟨u, hu⟩ := h4.some
  rw [z] at h1
  cases h1
  rw [h] at hu
  cases hu
/-- a comprehension under way: D is the new list, got what it holds; rs: the slots that are kept -/
structure LcI (K : PySem.W.Frag) (B F0 F1 H1 G : Hp) (rs : List (L2.St × PEnv)) (D : Addr) (got : List PV) (Fc Hc : Hp) (acc : List V) : Prop where
  re : ∀ p ∈ rs, RE K B F0 Fc Hc p.1 p.2
  no : ∀ p ∈ rs, ∀ (i : Nat) v, p.2[i]? = some (.own v) → p.1[i]? ≠ some (some (.ref D))
  f : Same F1 Fc
  fh : Same Fc Hc
  g : Same G Hc
  h : Same H1 Hc
  n : ∀ a o, Fc a = some o → F1 a = some o ∨ H1 a = none
  fd : Fc D = none
  bd : B D = none
  gd : G D = none
  d1 : H1 D = none
  hd : Hc D = some (.lst acc)
  dr : DrAll K Fc acc got
theorem LcI.ext {B F0 F1 H1 G : Hp} {rs : List (L2.St × PEnv)} {D : Addr} {got : List PV} {Fc Hc F2 H2 : Hp} {acc : List V} (I : LcI K B F0 F1 H1 G rs D got Fc Hc acc) (E : Ext Fc Hc F2 H2) (s : Same F2 H2) : LcI K B F0 F1 H1 G rs D got F2 H2 acc where
  re := fun p hp => (I.re p hp).ext E s
  no := I.no
  f := I.f.trans E.f
  fh := s
  g := I.g.trans E.h
  h := I.h.trans E.h
  n := fun a o q => by
    rcases E.n a o q with z | z
    · exact I.n a o z
    · exact .inr (I.h.free z)
  fd := E.keepNone I.hd I.fd
  bd := I.bd
  gd := I.gd
  d1 := I.d1
  hd := E.h _ _ I.hd
  dr := drAll_same E.f _ _ I.dr
theorem LcI.push {B F0 F1 H1 G : Hp} {rs : List (L2.St × PEnv)} {D : Addr} {got : List PV} {Fc Hc : Hp} {acc : List V} {y : V} {d : PV} (I : LcI K B F0 F1 H1 G rs D got Fc Hc acc) (q : Dr K Fc y d) : LcI K B F0 F1 H1 G rs D (got ++ [d]) Fc (upd Hc D (.lst (acc ++ [y]))) (acc ++ [y]) where
  re := fun p hp => (I.re p hp).updOther I.fd I.bd (I.no p hp)
  no := I.no
  f := I.f
  fh := fun b u e => by
    rw [upd_ne (ne_of_none e I.fd)]
    exact I.fh _ _ e
  g := fun b u e => by
    rw [upd_ne (ne_of_none e I.gd)]
    exact I.g _ _ e
  h := fun b u e => by
    rw [upd_ne (ne_of_none e I.d1)]
    exact I.h _ _ e
  n := I.n
  fd := I.fd
  bd := I.bd
  gd := I.gd
  d1 := I.d1
  hd := upd_same
  dr := drAll_append I.dr (.cons q .nil)
theorem LcI.addRe {B F0 F1 H1 G : Hp} {rs : List (L2.St × PEnv)} {D : Addr} {got : List PV} {Fc Hc : Hp} {acc : List V} {σ : L2.St} {ρ : PEnv} (I : LcI K B F0 F1 H1 G rs D got Fc Hc acc) (R : RE K B F0 Fc Hc σ ρ) (no : ∀ (i : Nat) v, ρ[i]? = some (.own v) → σ[i]? ≠ some (some (.ref D))) : LcI K B F0 F1 H1 G ((σ, ρ) :: rs) D got Fc Hc acc where
  re := fun p hp => by
    rcases List.mem_cons.mp hp with rfl | hp
    · exact R
    · exact I.re p hp
  no := fun p hp => by
    rcases List.mem_cons.mp hp with rfl | hp
    · exact no
    · exact I.no p hp
  f := I.f
  fh := I.fh
  g := I.g
  h := I.h
  n := I.n
  fd := I.fd
  bd := I.bd
  gd := I.gd
  d1 := I.d1
  hd := I.hd
  dr := I.dr
theorem LcI.lessRe {B F0 F1 H1 G : Hp} {rs rs' : List (L2.St × PEnv)} {D : Addr} {got : List PV} {Fc Hc : Hp} {acc : List V} (I : LcI K B F0 F1 H1 G rs D got Fc Hc acc) (s : ∀ p ∈ rs', p ∈ rs) : LcI K B F0 F1 H1 G rs' D got Fc Hc acc :=
  ⟨fun p hp => I.re p (s p hp), fun p hp => I.no p (s p hp), I.f, I.fh, I.g, I.h, I.n, I.fd, I.bd, I.gd, I.d1, I.hd, I.dr⟩
/-- what an iterator yields, with what is known then -/
theorem Yl.item {J : It} {l : List PV} {F1 G Fc Hc H' : Hp} {i : Nat} {x : V} (Y : Yl K J l F1 G) (f : Same F1 Fc) (fh : Same Fc Hc) (g : Same G Hc) (hi : i < l.length) (y : J.yld i Hc x H') : ∃ d F', l[i]? = some d ∧ Ext Fc Hc F' H' ∧ Same F' H' ∧ Dr K F' x d := by
  obtain ⟨d, h1, h2⟩ := Y.yld i Hc x H' g hi y
  rcases h2 with ⟨rfl, h2⟩ | ⟨T, xs, ds, rfl, hT, rfl, h2, rfl⟩
  · exact ⟨d, Fc, h1, Ext.refl _ _, fh, dr_same f _ _ h2⟩
  · have E := ext_frz (o := HO.tup xs) fh hT
    exact ⟨_, _, h1, E, same_frz fh hT, .tup (.inl (.inl upd_same)) (drAll_same (f.trans E.f) _ _ h2)⟩
theorem wipeE_own {σ : L2.St} {ρ : PEnv} {D : Addr} (h : ∀ (i : Nat) v, ρ[i]? = some (.own v) → σ[i]? ≠ some (some (.ref D))) : ∀ (vs : List Nat) (i : Nat) v, (wipeE ρ vs)[i]? = some (.own v) → (wipe σ vs)[i]? ≠ some (some (.ref D))
  | [], i, v, q => h i v q
  | w :: vs, i, v, q => by
    unfold wipeE at q
    unfold wipe
    by_cases z : w = i
    · subst z
      by_cases hw : w < (wipeE ρ vs).length
      · rw [List.getElem?_set_self hw] at q
        cases q
      · rw [List.getElem?_eq_none (by rw [List.length_set]; omega)] at q
        cases q
    · rw [List.getElem?_set_ne z] at q ⊢
      exact wipeE_own h vs i v q

theorem wipe_out' {σ : L2.St} {w : Nat} : ∀ {vs : List Nat}, w ∉ vs → wipe (σ.set w none) vs = (wipe σ vs).set w none
  | [], _ => rfl
  | v :: vs, h => by
    simp only [List.mem_cons, not_or] at h
    unfold wipe
    rw [wipe_out' h.2, List.set_comm _ _ h.1]
theorem wipe_wipe (σ : L2.St) : ∀ vs : List Nat, wipe (wipe σ vs) vs = wipe σ vs
  | [] => rfl
  | v :: vs => by
    show (wipe ((wipe σ vs).set v none) vs).set v none = (wipe σ vs).set v none
    by_cases h : v ∈ vs
    · rw [wipe_set h, wipe_wipe σ vs]
    · rw [wipe_out' h, wipe_wipe σ vs, List.set_set]

section
variable {X : Cx} {tg a b c e : Expr} {f g : PF} {pos p : Pos} {x : Str}
/-- the loop of one clause, from any point of a comprehension -/
theorem lc_loop {B F0 F1 H1 G : Hp} {rs : List (L2.St × PEnv)} {D : Addr} {σ : L2.St} {ρ : PEnv} {vs ts : List Nat} {J : It} {l : List PV} {FJ GJ : Hp} {h : GF} {k : PEnv → Option Bool} {el : PF} {ys got0 : List PV} {Hs Fs : Hp} {accs : List V} {Qd : Hp → Prop}
    (Y : Yl K J l FJ GJ) (hts : ∀ i ∈ ts, i ∈ vs) (hc : compL h k el (wipeE ρ vs) l = some ys) (hz : (got0 ++ ys).length ≤ sizeLine) (gD : GJ D = none)
    (I0 : LcI K B F0 F1 H1 G rs D got0 Fs Hs accs) (hm : (σ, ρ) ∈ rs) (fj : Same FJ Fs) (gj : Same GJ Hs)
    (hd : ∀ Fc Hc acc, LcI K B F0 F1 H1 G rs D (got0 ++ ys) Fc Hc acc → Qd Hc) :
    ∃ W : Nat → Nat → Hp → Prop, (∃ m, W 0 m Hs) ∧ ∀ i m H, W i m H →
      (J.stop i H ∧ Qd H) ∨ (J.go i H ∧ ∃ Nx : Hp → Prop, (∀ H', Nx H' → ∃ m', m' < m ∧ W (i + 1) m' H') ∧ ∀ x H', J.yld i H x H' → tG K h ts x (wipe σ vs) H' fun σ2 H2 => wipe σ2 vs = wipe σ vs ∧ tT K k σ2 H2 fun b H3 =>
        if b = true then tP K el σ2 H3 fun y H4 => ∃ acc, H4 D = some (.lst acc) ∧ acc.length < sizeLine ∧ Nx (upd H4 D (.lst (acc ++ [y]))) else Nx H3) := by
  let Z : Nat → Hp → Prop := fun i H => i ≤ l.length ∧ ∃ Fc acc got rest, LcI K B F0 F1 H1 G rs D got Fc H acc ∧ Same FJ Fc ∧ Same GJ H ∧ compL h k el (wipeE ρ vs) (l.drop i) = some rest ∧ got ++ rest = got0 ++ ys
  refine ⟨fun i m H => m = l.length - i ∧ Z i H, ⟨l.length, by simp, Nat.zero_le _, Fs, accs, got0, ys, I0, fj, gj, hc, rfl⟩, ?_⟩
  rintro i m H ⟨rfl, hi, Fc, acc, got, rest, I, fc, gc, hr, ht⟩
  by_cases hlt : i < l.length
  · refine .inr ⟨Y.go i H gc hlt, fun H' => Z (i + 1) H', fun H' z => ⟨l.length - (i + 1), by omega, rfl, z⟩, fun x H' y => ?_⟩
    obtain ⟨d, F', h1, E1, s1, dx⟩ := Y.item fc I.fh gc hlt y
    have ed : l.drop i = d :: l.drop (i + 1) := by
      rw [List.drop_eq_getElem_cons hlt]
      rw [List.getElem?_eq_getElem hlt] at h1
      cases h1
      rfl
    rw [ed] at hr
    unfold compL at hr
    obtain ⟨ρ1, q1, hr1⟩ := bind_some hr
    obtain ⟨t, q2, hr2⟩ := bind_some hr1
    have I1 := I.ext E1 s1
    refine ⟨B, F0, F', wipeE ρ vs, d, ρ1, ((I1.re _ hm)).wiped vs, dx, q1, fun σ2 R2 w2 o2 => ⟨(w2 vs hts).trans (wipe_wipe σ vs), B, F0, F', ρ1, t, R2, q2, fun H3 F3 R3 E3 => ?_⟩⟩
    have I3 := I1.ext E3 R3.fh
    have fj3 : Same FJ F3 := (fc.trans E1.f).trans E3.f
    have gj3 : Same GJ H3 := (gc.trans E1.h).trans E3.h
    cases t with
    | true =>
      rw [if_pos rfl] at hr2
      obtain ⟨yd, q3, hr3⟩ := bind_some hr2
      obtain ⟨zs, q4, hr4⟩ := bind_some hr3
      cases hr4
      refine L2.iteT ⟨B, F0, F3, ρ1, yd, R3, q3, fun y4 H4 F4 R4 E4 dy => ?_⟩
      have I4 := I3.ext E4 R4.fh
      have lz : got.length + (yd :: zs).length ≤ sizeLine := by
        rw [← ht, List.length_append] at hz
        exact hz
      refine ⟨acc, I4.hd, ?_, by omega, F4, acc ++ [y4], got ++ [yd], zs, I4.push dy, fj3.trans E4.f, fun b u q => ?_, q4, ?_⟩
      · have := drAll_length I4.dr
        rw [List.length_cons] at lz
        omega
      · rw [upd_ne (ne_of_none q gD)]
        exact (gj3.trans E4.h) _ _ q
      · rw [← ht, List.append_assoc]
        rfl
    | false =>
      rw [if_neg Bool.false_ne_true] at hr2
      exact L2.iteF ⟨by omega, F3, acc, got, rest, I3, fj3, gj3, hr2, ht⟩
  · have e : i = l.length := by omega
    subst e
    refine .inl ⟨Y.stop _ H gc rfl, ?_⟩
    rw [List.drop_length] at hr
    cases hr
    rw [List.append_nil] at ht
    rw [ht] at I
    exact hd Fc H acc I
theorem pLst_some {l : List PV} {z : PV} (h : pLst l = some z) : l.length ≤ sizeLine ∧ z = .list l := by
  unfold pLst at h
  split at h
  · cases h
    exact ⟨of_decide_eq_true (by assumption), rfl⟩
  · cases h
theorem LcI.start {B F0 F1 H1 G : Hp} {σ : L2.St} {ρ : PEnv} {D : Addr} (R : RE K B F0 F1 H1 σ ρ) (sG : Same F1 G) (gH : Same G H1) (hD : H1 D = none) : LcI K B F0 F1 H1 G [(σ, ρ)] D [] F1 (upd H1 D (.lst [])) [] := by
  have E : Ext F1 H1 F1 (upd H1 D (.lst [])) := ext_new hD
  refine ⟨fun p hp => ?_, fun p hp => ?_, Same.refl _, same_upd2 R.fh hD, same_upd2 gH hD, E.h, fun _ _ q => .inl q, R.fh.free hD, R.bh.free hD, gH.free hD, hD, upd_same, .nil⟩
  · rw [List.mem_singleton.mp hp]
    exact R.ext E (same_upd2 R.fh hD)
  · rw [List.mem_singleton.mp hp]
    exact R.notOwn hD
theorem lc_imp {L : LF} {h : GF} {ts vs : List Nat} {k : PEnv → Option Bool} {el : PF} (hts : ∀ i ∈ ts, i ∈ vs) {σ : L2.St} {H : Hp} {Q : VK} (w : tF K (eComp L vs h k el) σ H Q) : tLc (tIB K L) (tG K h ts) (tT K k) (tP K el) vs σ H Q := by
  obtain ⟨B, F0, F, ρ, z, R, e, q⟩ := w
  obtain ⟨l, e1, e2⟩ := bind_some e
  obtain ⟨ys, e3, e4⟩ := bind_some e2
  obtain ⟨lz, rfl⟩ := pLst_some e4
  refine ⟨B, F0, F, ρ, l, R, e1, fun J H1 F1 G R1 E1 sG gH Y D hD => ?_⟩
  refine lc_loop (got0 := []) (ys := ys) (rs := [(σ, ρ)]) Y hts e3 (by simpa using lz) (gH.free hD) (LcI.start R1 sG gH hD) (by simp) (Same.refl _) (same_upd2 gH hD) fun Fc Hc acc I => ?_
  exact q D Hc Fc (I.re (σ, ρ) (by simp)) (E1.trans ⟨I.f, I.h, I.n⟩) I.fd (E1.h.free hD) ⟨acc, I.hd, I.dr⟩

theorem sf_lc {elt iter : Expr} {ifs : List Expr} {scope : Scope} {own : List (Str × Nat)} {vs : List Nat} {L : LF} {h : GF} {ts : List Nat} {k : PEnv → Option Bool} {el : PF} (hc : X.calm = true) (hN : X.N.Nodup) (hi : SIB X tg iter L) (ok : BlkOk X.N X.env.scope scope own)
    (hg : ∀ (s : Shared) (H : Hp) (C : Addr) (cl : List (Str × Addr)) (fp : List Addr), SG (X.blk s H scope (compEnvC scope cl C X.env) fp) tg h ts)
    (ht : ∀ (s : Shared) (H : Hp) (C : Addr) (cl : List (Str × Addr)) (fp : List Addr), PTs (X.blk s H scope (compEnvC scope cl C X.env) fp) ifs (tT X.K k))
    (he : ∀ (s : Shared) (H : Hp) (C : Addr) (cl : List (Str × Addr)) (fp : List Addr), SE (X.blk s H scope (compEnvC scope cl C X.env) fp) elt el)
    (hts : ∀ i ∈ ts, i ∈ vs) (hvs : own.map (·.2) = vs := by rfl) (hs : ∀ x, foldedSetIterable iter X.env x = pure x := by intro _; rfl) :
    SF X (.ListComp elt [⟨tg, iter, ifs, 0⟩] scope pos) (eComp L vs h k el) := by
  subst hvs
  exact PE.imp (pe_lc hc hN hi ok hg ht he hs) fun _ _ _ w => lc_imp hts w

/-! two clauses -/
def compL2 (h : GF) (k : PEnv → Option Bool) (L1 : LF) (vs1 : List Nat) (h1 : GF) (k1 : PEnv → Option Bool) (el : PF) (ρ : PEnv) : List PV → Option (List PV)
  | [] => some []
  | x :: r => (h x ρ).bind fun ρ1 => (k ρ1).bind fun b => if b = true then (L1 ρ1).bind fun l1 => (compL h1 k1 el (wipeE ρ1 vs1) l1).bind fun ys => (compL2 h k L1 vs1 h1 k1 el ρ r).bind fun zs => some (ys ++ zs) else compL2 h k L1 vs1 h1 k1 el ρ r
def eComp2 (L : LF) (vs : List Nat) (h : GF) (k : PEnv → Option Bool) (L1 : LF) (vs1 : List Nat) (h1 : GF) (k1 : PEnv → Option Bool) (el : PF) : PF := fun ρ => (L ρ).bind fun l => (compL2 h k L1 vs1 h1 k1 el (wipeE ρ vs) l).bind pLst
theorem lc2_imp {L L1 : LF} {h h1 : GF} {ts ts1 vs vs1 : List Nat} {k k1 : PEnv → Option Bool} {el : PF} (hts : ∀ i ∈ ts, i ∈ vs) (hts1 : ∀ i ∈ ts1, i ∈ vs1) {σ : L2.St} {H : Hp} {Q : VK} (w : tF K (eComp2 L vs h k L1 vs1 h1 k1 el) σ H Q) : tLc2 (tIB K L) (tG K h ts) (tT K k) (tI K L1) (tG K h1 ts1) (tT K k1) (tP K el) vs vs1 σ H Q := by
  obtain ⟨B, F0, F, ρ, z, R, e, q⟩ := w
  obtain ⟨l, e1, e2⟩ := bind_some e
  obtain ⟨tot, e3, e4⟩ := bind_some e2
  obtain ⟨lz, rfl⟩ := pLst_some e4
  refine ⟨B, F0, F, ρ, l, R, e1, fun J H1 F1 G R1 E1 sG gH Y D hD => ?_⟩
  let Z : Nat → Hp → Prop := fun i H => i ≤ l.length ∧ ∃ Fc acc got rest, LcI K B F0 F1 H1 G [(σ, ρ)] D got Fc H acc ∧ compL2 h k L1 vs1 h1 k1 el (wipeE ρ vs) (l.drop i) = some rest ∧ got ++ rest = tot
  refine ⟨fun i m H => m = l.length - i ∧ Z i H, ⟨l.length, by simp, Nat.zero_le _, F1, [], [], tot, LcI.start R1 sG gH hD, e3, rfl⟩, ?_⟩
  rintro i m H ⟨rfl, hi, Fc, acc, got, rest, I, hr, ht⟩
  by_cases hlt : i < l.length
  · refine .inr ⟨Y.go i H I.g hlt, fun H' => Z (i + 1) H', fun H' z => ⟨l.length - (i + 1), by omega, rfl, z⟩, fun x H' y => ?_⟩
    obtain ⟨d, F', g1, E2, s2, dx⟩ := Y.item I.f I.fh I.g hlt y
    have ed : l.drop i = d :: l.drop (i + 1) := by
      rw [List.drop_eq_getElem_cons hlt]
      rw [List.getElem?_eq_getElem hlt] at g1
      cases g1
      rfl
    rw [ed] at hr
    unfold compL2 at hr
    obtain ⟨ρ1, q1, hr1⟩ := bind_some hr
    obtain ⟨t, q2, hr2⟩ := bind_some hr1
    have I1 := I.ext E2 s2
    refine ⟨B, F0, F', _, d, ρ1, (I1.re (σ, ρ) (by simp)).wiped _, dx, q1, fun σ2 R2 w2 o2 => ⟨(w2 _ hts).trans (wipe_wipe σ _), B, F0, F', ρ1, t, R2, q2, fun H3 F3 R3 E3 => ?_⟩⟩
    have I3 := I1.ext E3 R3.fh
    cases t with
    | true =>
      rw [if_pos rfl] at hr2
      obtain ⟨l1, q3, hr3⟩ := bind_some hr2
      obtain ⟨ys, q4, hr4⟩ := bind_some hr3
      obtain ⟨zs, q5, hr5⟩ := bind_some hr4
      cases hr5
      refine L2.iteT ⟨B, F0, F3, ρ1, l1, R3, q3, fun J1 H4 F4 R4 E4 Y1 => ?_⟩
      have I4 := I3.ext E4 R4.fh
      have no4 : ∀ (i : Nat) v, ρ1[i]? = some (.own v) → σ2[i]? ≠ some (some (.ref D)) := fun i v hv z => by
        obtain ⟨u1, u2⟩ := o2 i v hv
        rw [u2] at z
        exact wipeE_own (I1.no (σ, ρ) (by simp)) _ i v u1 z
      refine lc_loop (got0 := got) (ys := ys) (rs := (σ2, ρ1) :: [(σ, ρ)]) Y1 hts1 q4 ?_ I4.fd (I4.addRe R4 no4) (by simp) (Same.refl _) I4.fh fun F5 H5 acc5 I5 => ?_
      · rw [← ht, ← List.append_assoc, List.length_append] at lz
        omega
      · refine ⟨by omega, F5, acc5, got ++ ys, zs, I5.lessRe (fun p hp => List.mem_cons_of_mem _ hp), q5, ?_⟩
        rw [← ht, List.append_assoc]
    | false =>
      rw [if_neg Bool.false_ne_true] at hr2
      exact L2.iteF ⟨by omega, F3, acc, got, rest, I3, hr2, ht⟩
  · have ei : i = l.length := by omega
    subst ei
    refine .inl ⟨Y.stop _ H I.g rfl, ?_⟩
    rw [List.drop_length] at hr
    cases hr
    rw [List.append_nil] at ht
    rw [ht] at I
    exact q D H Fc (I.re (σ, ρ) (by simp)) (E1.trans ⟨I.f, I.h, I.n⟩) I.fd (E1.h.free hD) ⟨acc, I.hd, I.dr⟩
theorem sf_lc2 {elt iter tg1 iter1 : Expr} {ifs ifs1 : List Expr} {scope : Scope} {own : List (Str × Nat)} {vs vs1 : List Nat} {L L1 : LF} {h h1 : GF} {ts ts1 : List Nat} {k k1 : PEnv → Option Bool} {el : PF} (hc : X.calm = true) (hN : X.N.Nodup) (hi : SIB X tg iter L) (ok : BlkOk X.N X.env.scope scope own) (hv : ∀ i ∈ vs1, i ∈ vs)
    (hg : ∀ (s : Shared) (H : Hp) (C : Addr) (cl : List (Str × Addr)) (fp : List Addr), SG (X.blk s H scope (compEnvC scope cl C X.env) fp) tg h ts)
    (ht : ∀ (s : Shared) (H : Hp) (C : Addr) (cl : List (Str × Addr)) (fp : List Addr), PTs (X.blk s H scope (compEnvC scope cl C X.env) fp) ifs (tT X.K k))
    (hi1 : ∀ (s : Shared) (H : Hp) (C : Addr) (cl : List (Str × Addr)) (fp : List Addr), SI (X.blk s H scope (compEnvC scope cl C X.env) fp) tg1 iter1 L1)
    (hg1 : ∀ (s : Shared) (H : Hp) (C : Addr) (cl : List (Str × Addr)) (fp : List Addr), SG (X.blk s H scope (compEnvC scope cl C X.env) fp) tg1 h1 ts1)
    (ht1 : ∀ (s : Shared) (H : Hp) (C : Addr) (cl : List (Str × Addr)) (fp : List Addr), PTs (X.blk s H scope (compEnvC scope cl C X.env) fp) ifs1 (tT X.K k1))
    (he : ∀ (s : Shared) (H : Hp) (C : Addr) (cl : List (Str × Addr)) (fp : List Addr), SE (X.blk s H scope (compEnvC scope cl C X.env) fp) elt el)
    (hts : ∀ i ∈ ts, i ∈ vs) (hts1 : ∀ i ∈ ts1, i ∈ vs1) (hvs : own.map (·.2) = vs := by rfl) (hs : ∀ x, foldedSetIterable iter X.env x = pure x := by intro _; rfl) (hs1 : ∀ env x, foldedSetIterable iter1 env x = pure x := by intro _ _; rfl) :
    SF X (.ListComp elt [⟨tg, iter, ifs, 0⟩, ⟨tg1, iter1, ifs1, 0⟩] scope pos) (eComp2 L vs h k L1 vs1 h1 k1 el) := by
  subst hvs
  exact PE.imp (pe_lc2 hc hN hi ok hv hg ht hi1 hg1 ht1 he hs hs1) fun _ _ _ w => lc2_imp hts hts1 w
end
end Pl

set_option Elab.async false
set_option linter.all false
set_option maxRecDepth 100000
set_option maxHeartbeats 4000000
set_option autoImplicit false
namespace Pl
open PySem PySem.Spec PyProof.Rows L2
open PySem.W (alike dataLt lt_data le_data gt_data ge_data)
variable {K : PySem.W.Frag}

/-! ### statements -/
inductive Fl where
  | nx (ρ : PEnv) | ret (v : PV) | brk (ρ : PEnv) | cnt (ρ : PEnv)
abbrev PSt := PEnv → Option Fl
/-- what is to be shown behind -/
def FlP (K : PySem.W.Frag) (B F0 F : Hp) (D : Ends) : Fl → Prop
  | .nx ρ => ∀ σ' H' F', RE K B F0 F' H' σ' ρ → Same F F' → D.nx σ' H'
  | .brk ρ => ∀ σ' H' F', RE K B F0 F' H' σ' ρ → Same F F' → D.bk σ' H'
  | .cnt ρ => ∀ σ' H' F', RE K B F0 F' H' σ' ρ → Same F F' → D.ct σ' H'
  | .ret v => ∀ x H' F', Same B H' → Same F0 F' → Same F' H' → (∀ a o, F' a = some o → F0 a = some o ∨ B a = none) → Dr K F' x v → D.rt x H'
def tS (K : PySem.W.Frag) (s : PSt) : TS := fun D σ H => ∃ B F0 F ρ r, RE K B F0 F H σ ρ ∧ s ρ = some r ∧ FlP K B F0 F D r
abbrev SS (X : Cx) (st : Stmt) (s : PSt) : Prop := PS X st (tS X.K s)
abbrev SSs (X : Cx) (st : List Stmt) (s : PSt) : Prop := PSs X st (tS X.K s)
def sNil : PSt := fun ρ => some (.nx ρ)
def thenF (s : PSt) : Fl → Option Fl
  | .nx ρ => s ρ
  | r => some r
def sSeq (a b : PSt) : PSt := fun ρ => (a ρ).bind (thenF b)
theorem FlP.mono {B F0 F F' : Hp} {D : Ends} {r : Fl} (h : FlP K B F0 F D r) (s : Same F F') : FlP K B F0 F' D r := by
  cases r with
  | nx ρ => exact fun σ' H' F2 R s2 => h σ' H' F2 R (s.trans s2)
  | brk ρ => exact fun σ' H' F2 R s2 => h σ' H' F2 R (s.trans s2)
  | cnt ρ => exact fun σ' H' F2 R s2 => h σ' H' F2 R (s.trans s2)
  | ret v => exact h
section
variable {X : Cx} {st : Stmt} {rest : List Stmt} {s t : PSt} {tg a b c e : Expr} {f g : PF} {pos p : Pos} {x : Str}
theorem ss_nil : SSs X [] sNil := PSs.imp pss_nil fun D σ H ⟨B, F0, F, ρ, r, R, e, q⟩ => by
  cases e
  exact q σ H F R (Same.refl _)
theorem ss_cons (h1 : SS X st s) (h2 : SSs X rest t) : SSs X (st :: rest) (sSeq s t) := PSs.imp (pss_cons h1 h2) fun D σ H ⟨B, F0, F, ρ, r, R, e, q⟩ => by
  obtain ⟨u, e1, e2⟩ := bind_some e
  refine ⟨B, F0, F, ρ, u, R, e1, ?_⟩
  cases u with
  | nx ρ' => exact fun σ' H' F' R' s' => ⟨B, F0, F', ρ', r, R', e2, q.mono s'⟩
  | brk ρ' =>
    cases e2
    exact q
  | cnt ρ' =>
    cases e2
    exact q
  | ret v =>
    cases e2
    exact q
theorem ss_one (h1 : SS X st s) : SSs X [st] s := pss_one h1
/-- an own list is given up (nothing of the text stands for this) -/
def sFz (i : Nat) : PSt := fun ρ => match ρ[i]? with
  | some (.own v) => some (.nx (ρ.set i (.val v)))
  | _ => some (.nx ρ)
theorem RE.fz {B F0 F H : Hp} {σ : L2.St} {ρ : PEnv} {i : Nat} {v : PV} (R : RE K B F0 F H σ ρ) (h : ρ[i]? = some (.own v)) : ∃ F', RE K B F0 F' H σ (ρ.set i (.val v)) ∧ Same F F' := by
  obtain ⟨a, h1, h2, h3, h4⟩ := R.own i v h
  obtain ⟨o, ho, hd⟩ := own_dp h4 h2
  have hi : i < ρ.length := (List.getElem?_eq_some_iff.mp h).1
  have ef : Same F (upd F a o) := fun b u e => by
    rw [upd_ne (ne_of_none e h2)]
    exact e
  have f : ∀ m s, (ρ.set i (.val v))[m]? = some s → i ≠ m → ρ[m]? = some s := fun m s h n => by
    rw [List.getElem?_set_ne n] at h
    exact h
  have fo : ∀ m w, (ρ.set i (.val v))[m]? = some (.own w) → i ≠ m := fun m w h z => by
    subst z
    rw [List.getElem?_set_self hi] at h
    cases h
  refine ⟨upd F a o, ⟨fun b u e => ?_, R.bh, R.f0.trans ef, fun b u e => ?_, by rw [List.length_set]; exact R.len, fun j w hj => ?_, fun j w hj => ?_, fun j k w w' ad j1 j2 j3 j4 => ?_⟩, ef⟩
  · by_cases z : b = a
    · subst z
      rw [upd_same] at e
      rw [ho]
      exact e
    · rw [upd_ne z] at e
      exact R.fh _ _ e
  · by_cases z : b = a
    · subst z
      exact .inr h3
    · rw [upd_ne z] at e
      exact R.ff _ _ e
  · by_cases z : i = j
    · subst z
      rw [List.getElem?_set_self hi] at hj
      cases hj
      exact ⟨_, h1, hd⟩
    · obtain ⟨y, y1, y2⟩ := R.val j w (f j _ hj z)
      exact ⟨y, y1, dr_same ef _ _ y2⟩
  · have z := fo j w hj
    have hj' := f j _ hj z
    obtain ⟨ad, y1, y2, y3, y4⟩ := R.own j w hj'
    have na : ad ≠ a := fun q => z (R.sep i j v w a h hj' h1 (q ▸ y1))
    exact ⟨ad, y1, by rw [upd_ne na]; exact y2, y3, y4.same ef rfl⟩
  · exact R.sep j k w w' ad (f j _ j1 (fo j w j1)) (f k _ j2 (fo k w' j2)) j3 j4
theorem ss_fz (i : Nat) (h : SSs X rest t) : SSs X rest (sSeq (sFz i) t) := PSs.imp h fun D σ H ⟨B, F0, F, ρ, r, R, e, q⟩ => by
  obtain ⟨u, e1, e2⟩ := bind_some e
  unfold sFz at e1
  split at e1
  · rename_i v hv
    cases e1
    obtain ⟨F', R', s'⟩ := R.fz hv
    exact ⟨B, F0, F', _, r, R', e2, q.mono s'⟩
  · cases e1
    exact ⟨B, F0, F, _, r, R, e2, q⟩

/-! return, break, continue, pass, if -/
def sRet (f : PF) : PSt := fun ρ => (f ρ).bind fun v => some (.ret v)
theorem ss_ret (h : SE X e f) : SS X (.Return (some e) pos) (sRet f) := PS.imp (ps_ret h) fun D σ H ⟨B, F0, F, ρ, r, R, e, q⟩ => by
  obtain ⟨v, e1, e2⟩ := bind_some e
  cases e2
  exact ⟨B, F0, F, ρ, v, R, e1, fun x H' F' R' E' d => q x H' F' R'.bh R'.f0 R'.fh R'.ff d⟩
def sBrk : PSt := fun ρ => some (.brk ρ)
def sCnt : PSt := fun ρ => some (.cnt ρ)
theorem ss_brk : SS X (.Break pos) sBrk := PS.imp ps_break fun D σ H ⟨B, F0, F, ρ, r, R, e, q⟩ => by
  cases e
  exact q σ H F R (Same.refl _)
theorem ss_cnt : SS X (.Continue pos) sCnt := PS.imp ps_continue fun D σ H ⟨B, F0, F, ρ, r, R, e, q⟩ => by
  cases e
  exact q σ H F R (Same.refl _)
theorem ss_pass : SS X (.Pass pos) sNil := PS.imp ps_pass fun D σ H ⟨B, F0, F, ρ, r, R, e, q⟩ => by
  cases e
  exact q σ H F R (Same.refl _)
def sIf (c : PEnv → Option Bool) (s t : PSt) : PSt := fun ρ => (c ρ).bind fun b => if b = true then s ρ else t ρ
theorem ss_if {k : PEnv → Option Bool} {l1 l2 : List Stmt} (hc : ST X c k) (h1 : SSs X l1 s) (h2 : SSs X l2 t) : SS X (.If c l1 l2 pos) (sIf k s t) := PS.imp (ps_if hc h1 h2) fun D σ H ⟨B, F0, F, ρ, r, R, e, q⟩ => by
  obtain ⟨v, e1, e2⟩ := bind_some e
  refine ⟨B, F0, F, ρ, v, R, e1, fun H1 F1 R1 E1 => ?_⟩
  cases v with
  | true => exact ⟨B, F0, F1, ρ, r, R1, e2, q.mono E1.f⟩
  | false => exact ⟨B, F0, F1, ρ, r, R1, e2, q.mono E1.f⟩

/-! names stored -/
def sAsg (f : PF) (h : GF) : PSt := fun ρ => (f ρ).bind fun v => (h v ρ).bind fun ρ' => some (.nx ρ')
theorem ss_asg {h : GF} {ts : List Nat} (he : SE X e f) (hg : SG X tg h ts) (hs : swapsWithSole [tg] e pos.line X.env = pure false := by rfl) (hw : swappedStores [tg] e X.env = pure none := by rfl) (h1 : (assignEach [tg] X.env).map (·.2) = [assign tg X.env] := by rfl) :
    SS X (.Assign [tg] e pos) (sAsg f h) := PS.imp (ps_asg he hg hs hw h1) fun D σ H ⟨B, F0, F, ρ, r, R, e, q⟩ => by
  obtain ⟨v, e1, e2⟩ := bind_some e
  obtain ⟨ρ', e3, e4⟩ := bind_some e2
  cases e4
  refine ⟨B, F0, F, ρ, v, R, e1, fun x H1 F1 R1 E1 d1 => ⟨B, F0, F1, ρ, v, ρ', R1, d1, e3, fun σ' R2 _ _ => q σ' H1 F1 R2 E1.f⟩⟩
theorem ss_set {i : Nat} {pos' : Pos} (hN : X.N.Nodup) (hi : X.N[i]? = some x) (hx : Loc X.env.scope x) (he : SE X e f) (hs : swapsWith e (some (.Name x pos')) pos.line X.env = pure false := by rfl) (hf : X.fn x = true ∨ X.env.scope.names.lookup x = some .local := by first | exact .inl rfl | exact .inr rfl | assumption) :
    SS X (.Assign [.Name x pos'] e pos) (sAsg f (gN i)) := PS.imp (ps_set hN hi hx he hs hf) fun D σ H ⟨B, F0, F, ρ, r, R, e, q⟩ => by
  obtain ⟨v, e1, e2⟩ := bind_some e
  obtain ⟨ρ', e3, e4⟩ := bind_some e2
  cases e4
  unfold gN at e3
  split at e3
  · cases e3
    exact ⟨B, F0, F, ρ, v, R, e1, fun x H1 F1 R1 E1 d1 => q _ H1 F1 (R1.setVal d1) E1.f⟩
  · cases e3
theorem RE.setOwn {B F0 F H : Hp} {σ : L2.St} {ρ : PEnv} {i : Nat} {a : Addr} {d : PV} (R : RE K B F0 F H σ ρ) (fa : F a = none) (ba : B a = none) (ho : OwnR K F H a d) (no : ∀ (j : Nat) v, ρ[j]? = some (.own v) → σ[j]? ≠ some (some (.ref a))) : RE K B F0 F H (σ.set i (some (.ref a))) (ρ.set i (.own d)) := by
  have g : ∀ m s, (ρ.set i (.own d))[m]? = some s → (i = m ∧ s = .own d ∧ i < ρ.length) ∨ (i ≠ m ∧ ρ[m]? = some s) := fun m s h => by
    by_cases z : i = m
    · subst z
      by_cases hi : i < ρ.length
      · rw [List.getElem?_set_self hi] at h
        exact .inl ⟨rfl, (Option.some.inj h).symm, hi⟩
      · rw [List.getElem?_eq_none (by rw [List.length_set]; omega)] at h
        cases h
    · rw [List.getElem?_set_ne z] at h
      exact .inr ⟨z, h⟩
  refine ⟨R.fh, R.bh, R.f0, R.ff, by rw [List.length_set, List.length_set]; exact R.len, fun j w h => ?_, fun j w h => ?_, fun j k w w' ad h1 h2 h3 h4 => ?_⟩
  · rcases g j _ h with ⟨z, q, hi⟩ | ⟨z, q⟩
    · cases q
    · rw [List.getElem?_set_ne z]
      exact R.val j w q
  · rcases g j _ h with ⟨z, q, hi⟩ | ⟨z, q⟩
    · subst z
      cases q
      exact ⟨a, List.getElem?_set_self (by rw [R.len]; exact hi), fa, ba, ho⟩
    · rw [List.getElem?_set_ne z]
      exact R.own j w q
  · rcases g j _ h1 with ⟨z, q, hi⟩ | ⟨z, q⟩
    · subst z
      rcases g k _ h2 with ⟨z2, q2, hi2⟩ | ⟨z2, q2⟩
      · exact z2
      · rw [List.getElem?_set_self (by rw [R.len]; exact hi)] at h3
        cases h3
        rw [List.getElem?_set_ne z2] at h4
        exact absurd h4 (no k w' q2)
    · rcases g k _ h2 with ⟨z2, q2, hi2⟩ | ⟨z2, q2⟩
      · subst z2
        rw [List.getElem?_set_self (by rw [R.len]; exact hi2)] at h4
        cases h4
        rw [List.getElem?_set_ne z] at h3
        exact absurd h3 (no j w q)
      · rw [List.getElem?_set_ne z] at h3
        rw [List.getElem?_set_ne z2] at h4
        exact R.sep j k w w' ad q q2 h3 h4
def sOwn (i : Nat) (f : PF) : PSt := fun ρ => (f ρ).bind fun v => some (.nx (ρ.set i (.own v)))
theorem ss_own {i : Nat} {pos' : Pos} (hN : X.N.Nodup) (hi : X.N[i]? = some x) (hx : Loc X.env.scope x) (he : SF X e f) (hs : swapsWith e (some (.Name x pos')) pos.line X.env = pure false := by rfl) (hf : X.fn x = true ∨ X.env.scope.names.lookup x = some .local := by first | exact .inl rfl | exact .inr rfl | assumption) :
    SS X (.Assign [.Name x pos'] e pos) (sOwn i f) := PS.imp (ps_set hN hi hx he hs hf) fun D σ H ⟨B, F0, F, ρ, r, R, e, q⟩ => by
  obtain ⟨v, e1, e2⟩ := bind_some e
  cases e2
  exact ⟨B, F0, F, ρ, v, R, e1, fun a H1 F1 R1 E1 fa ha d1 => q _ H1 F1 (R1.setOwn fa (R.bh.free ha) d1 (fun j w hj => R.notOwn ha j w hj)) E1.f⟩
end
end Pl

set_option Elab.async false
set_option linter.all false
set_option maxRecDepth 100000
set_option maxHeartbeats 4000000
set_option autoImplicit false
namespace Pl
open PySem PySem.Spec PyProof.Rows L2
open PySem.W (alike dataLt lt_data le_data gt_data ge_data)
variable {K : PySem.W.Frag}

section
variable {X : Cx} {st : Stmt} {rest : List Stmt} {s t : PSt} {tg a b c e : Expr} {f g : PF} {pos p : Pos} {x : Str}

/-! ### name = [..] on one line -/
theorem own_of {i : Nat} {te : TE} {D : Ends} {σ : L2.St} {H : Hp} (w : tS K (sOwn i f) D σ H) (h : ∀ Q, tF K f σ H Q → te σ H Q) : tAsg te (gName i) D σ H := by
  obtain ⟨B, F0, F, ρ, r, R, e, q⟩ := w
  obtain ⟨v, e1, e2⟩ := bind_some e
  cases e2
  exact h _ ⟨B, F0, F, ρ, v, R, e1, fun a H1 F1 R1 E1 fa ha d1 => q _ H1 F1 (R1.setOwn fa (R.bh.free ha) d1 (fun j w hj => R.notOwn ha j w hj)) E1.f⟩
theorem set_of {i : Nat} {te : TE} {D : Ends} {σ : L2.St} {H : Hp} (w : tS K (sAsg f (gN i)) D σ H) (h : ∀ Q, tF K f σ H Q → te σ H Q) : tAsg te (gName i) D σ H := by
  obtain ⟨B, F0, F, ρ, r, R, e, q⟩ := w
  obtain ⟨v, e1, e2⟩ := bind_some e
  obtain ⟨ρ', e3, e4⟩ := bind_some e2
  cases e4
  unfold gN at e3
  split at e3
  · cases e3
    exact h _ (tF_of_tP ⟨B, F0, F, ρ, v, R, e1, fun x H1 F1 R1 E1 d1 => q _ H1 F1 (R1.setVal d1) E1.f⟩)
  · cases e3
theorem ss_lc {te : TE} {s : PSt} {i : Nat} (h : PS X st (tAsg te (gName i))) (k : ∀ D σ H, tS X.K s D σ H → tAsg te (gName i) D σ H) : SS X st s := PS.imp h k

/-! ### name op= e -/
def sAug (i : Nat) (h : PV → PV → Option PV) (f : PF) : PSt := fun ρ => (eV i ρ).bind fun v => (f ρ).bind fun w => (h v w).bind fun z => some (.nx (ρ.set i (.val z)))
theorem ss_aug {i : Nat} {op : Operator} {pos' : Pos} {r : R2} {h : PV → PV → Option PV} (hN : X.N.Nodup) (hi : X.N[i]? = some x) (hx : Loc X.env.scope x) (o : OpR X (inplaceOp op) r) (k : Op2 X.K r h) (he : SE X e f) (hf : X.fn x = true ∨ X.env.scope.names.lookup x = some .local := by first | exact .inl rfl | exact .inr rfl | assumption) :
    SS X (.AugAssign (.Name x pos') op e pos) (sAug i h f) := PS.imp (ps_aug hN hi hx he (fun pins s σ H x y v u Q I r1 r2 w => o pins s σ H x y v u Q I r1 r2 w) hf) fun D σ H ⟨B, F0, F, ρ, r, R, e, q⟩ => by
  obtain ⟨v, e1, e2⟩ := bind_some e
  obtain ⟨w, e3, e4⟩ := bind_some e2
  obtain ⟨z, e5, e6⟩ := bind_some e4
  cases e6
  unfold eV at e1
  split at e1
  · rename_i v' hv
    cases e1
    obtain ⟨x, h1, h2⟩ := R.val i _ hv
    refine ⟨x, h1, B, F0, F, ρ, w, R, e3, fun y H1 F1 R1 E1 d1 => ?_⟩
    exact k F1 H1 x y v w z _ R1.fh (.inl (dr_same E1.f _ _ h2)) (.inl d1) e5 fun u H2 F2 E2 s2 d2 => q _ _ _ ((R1.ext E2 s2).setVal d2) (E1.f.trans E2.f)
  · cases e1
def pAddI : PV → PV → Option PV
  | .int i, .int j => some (.int (i + j))
  | _, _ => none
theorem op2_addI : Op2 K (rI0 fun i j => .int (i + j)) pAddI := .ii (fun F H v w z Q e i j hv hw q => by subst hv hw; cases e; exact ⟨i, j, rfl, rfl, q _ (.int _)⟩) fun v w z e => by unfold pAddI at e; split at e; exact ⟨_, _, rfl, rfl⟩; cases e
theorem op2_subI : Op2 K (rI0 fun i j => .int (i - j)) pSub := .ii (fun F H v w z Q e i j hv hw q => by subst hv hw; cases e; exact ⟨i, j, rfl, rfl, q _ (.int _)⟩) fun v w z e => by unfold pSub at e; split at e; exact ⟨_, _, rfl, rfl⟩; cases e
theorem op2_mulI : Op2 K (rI CMul fun i j => .int (i * j)) pMul := .ii (fun F H v w z Q e i j hv hw q => by
      subst hv hw
      unfold pMul at e
      dsimp only at e
      split at e
      · rename_i hc
        cases e
        exact ⟨i, j, rfl, rfl, mulOk_c hc, q _ (.int _)⟩
      · cases e) fun v w z e => by unfold pMul at e; split at e; exact ⟨_, _, rfl, rfl⟩; cases e

/-! ### own lists changed -/
theorem RE.updOwn {B F0 F H : Hp} {σ : L2.St} {ρ : PEnv} {i : Nat} {v w : PV} {ad : Addr} {o : HO} (R : RE K B F0 F H σ ρ) (h : ρ[i]? = some (.own v)) (h1 : σ[i]? = some (some (.ref ad))) (fa : F ad = none) (ba : B ad = none) (ho : OwnR K F (upd H ad o) ad w) : RE K B F0 F (upd H ad o) σ (ρ.set i (.own w)) := by
  have hi : i < ρ.length := (List.getElem?_eq_some_iff.mp h).1
  have g : ∀ m s, (ρ.set i (.own w))[m]? = some s → (i = m ∧ s = .own w) ∨ (i ≠ m ∧ ρ[m]? = some s) := fun m s h => by
    by_cases z : i = m
    · subst z
      rw [List.getElem?_set_self hi] at h
      exact .inl ⟨rfl, (Option.some.inj h).symm⟩
    · rw [List.getElem?_set_ne z] at h
      exact .inr ⟨z, h⟩
  refine ⟨fun b u q => ?_, fun b u q => ?_, R.f0, R.ff, by rw [List.length_set]; exact R.len, fun j u q => ?_, fun j u q => ?_, fun j k u u' a' j1 j2 j3 j4 => ?_⟩
  · rw [upd_ne (ne_of_none q fa)]
    exact R.fh _ _ q
  · rw [upd_ne (ne_of_none q ba)]
    exact R.bh _ _ q
  · rcases g j _ q with ⟨z, z2⟩ | ⟨z, z2⟩
    · cases z2
    · exact R.val j u z2
  · rcases g j _ q with ⟨z, z2⟩ | ⟨z, z2⟩
    · cases z2
      subst z
      exact ⟨ad, h1, fa, ba, ho⟩
    · obtain ⟨a', y1, y2, y3, y4⟩ := R.own j u z2
      have na : a' ≠ ad := fun q => z (R.sep i j v u ad h z2 h1 (q ▸ y1))
      exact ⟨a', y1, y2, y3, y4.same (Same.refl _) (upd_ne na)⟩
  · rcases g j _ j1 with ⟨z, z2⟩ | ⟨z, z2⟩
    · rcases g k _ j2 with ⟨y, y2⟩ | ⟨y, y2⟩
      · exact z.symm.trans y
      · subst z
        exact R.sep i k v u' a' h y2 j3 j4
    · rcases g k _ j2 with ⟨y, y2⟩ | ⟨y, y2⟩
      · subst y
        exact R.sep j i u v a' z2 h j3 j4
      · exact R.sep j k u u' a' z2 y2 j3 j4
def ownL (ρ : PEnv) (i : Nat) : Option (List PV) := match ρ[i]? with
  | some (.own (.list l)) => some l
  | _ => none
theorem ownL_some {ρ : PEnv} {i : Nat} {l : List PV} (h : ownL ρ i = some l) : ρ[i]? = some (.own (.list l)) := by
  unfold ownL at h
  split at h
  · cases h
    assumption
  · cases h
/-- xs.append(e) -/
def sApp (i : Nat) (f : PF) : PSt := fun ρ => (f ρ).bind fun v => (ownL ρ i).bind fun l => if l.length < sizeLine then some (.nx (ρ.set i (.own (.list (l ++ [v]))))) else none
theorem ss_app {i : Nat} {o : Expr} {apos cpos : Pos} (ho : PE X o (tVar i)) (he : SE X e f) (na : NS e := by intro _ _; rfl)
    (hbase : attributeBase o "append" X.env (eval o X.env) = eval o X.env := by rfl) (hline : (apos.endLine == cpos.line) = true := by rfl)
    (hs : swapsWith (.Call (.Attribute o "append" apos) [e] [] cpos) none pos.line X.env = pure false := by rfl) (hfew : ((backTo cpos (starEach [e] X.env)).all (fun x => !x.1) && (backToKw cpos (keywordEach [] X.env)).all (fun x => x.1.isSome)
      && decide ([e].length + ([] : List Keyword).length + (if ([] : List Keyword).isEmpty then 0 else 1) < 30)) = true := by rfl) :
    SS X (.Expr (.Call (.Attribute o "append" apos) [e] [] cpos) pos) (sApp i f) :=
  PS.imp (ps_expr (pe_bm PySem.F.plainAttrs_list PySem.F.slot_list_append PySem.F.type_list_append mt_append ho (pa_cons he pa_nil (na _ _)) hbase hfew hline (na _ _)) hs) fun D σ H ⟨B, F0, F, ρ, r, R, e, q⟩ => by
    obtain ⟨v, e1, e2⟩ := bind_some e
    obtain ⟨l, e3, e4⟩ := bind_some e2
    split at e4
    · rename_i hz
      cases e4
      have hl := ownL_some e3
      obtain ⟨ad, h1, h2, h3, xs, h4, h5⟩ := R.own i _ hl
      refine ⟨_, h1, .inl ⟨rfl, xs, .inl (.inl h4)⟩, B, F0, F, ρ, v, R, e1, fun y H1 F1 R1 E1 d1 => ?_⟩
      have h6 := E1.h _ _ h4
      have f1 : F1 ad = none := E1.keepNone h4 h2
      refine ⟨ad, xs, y, rfl, rfl, h6, by rw [drAll_length h5]; exact hz, q _ _ F1 (R1.updOwn hl h1 f1 h3 ?_) E1.f⟩
      exact ⟨_, upd_same, drAll_append (drAll_same E1.f _ _ h5) (.cons d1 .nil)⟩
    · cases e4
/-- xs[k] = v -/
def sSetI (i : Nat) (g f : PF) : PSt := fun ρ => (f ρ).bind fun v => (g ρ).bind fun k => (toI k).bind fun j => (ownL ρ i).bind fun l => (ixN l.length j).bind fun m => some (.nx (ρ.set i (.own (.list (l.set m v)))))
theorem ss_setI {i : Nat} {o : Expr} {spos : Pos} (ho : PE X o (tVar i)) (hk : SB X a g) (he : SE X e f)
    (ha : ∀ v, assign (.Subscript o a spos) X.env v = (do
      let ov ← holding [v] (eval o X.env)
      let iv ← holding [v, ov] (eval a X.env)
      standAt spos
      holding [v, ov, iv] (setItem ov iv v)
      release [v, ov, iv] []) := by intro _; rfl)
    (hs : swapsWithSole [.Subscript o a spos] e pos.line X.env = pure false := by rfl) (hw : swappedStores [.Subscript o a spos] e X.env = pure none := by rfl)
    (h1 : (assignEach [.Subscript o a spos] X.env).map (·.2) = [assign (.Subscript o a spos) X.env] := by rfl) : SS X (.Assign [.Subscript o a spos] e pos) (sSetI i g f) :=
  PS.imp (ps_asg he (pg_sub ho hk set_list ha) hs hw h1) fun D σ H ⟨B, F0, F, ρ, r, R, e, q⟩ => by
    obtain ⟨v, e1, e2⟩ := bind_some e
    obtain ⟨k, e3, e4⟩ := bind_some e2
    obtain ⟨j, e5, e6⟩ := bind_some e4
    obtain ⟨l, e7, e8⟩ := bind_some e6
    obtain ⟨m, e9, e10⟩ := bind_some e8
    cases e10
    obtain rfl := toI_some e5
    have hl := ownL_some e7
    refine ⟨B, F0, F, ρ, v, R, e1, fun y H1 F1 R1 E1 d1 => ?_⟩
    obtain ⟨ad, h1, h2, h3, xs, h4, h5⟩ := R1.own i _ hl
    refine ⟨_, h1, B, F0, F1, ρ, _, R1, e3, fun z H2 F2 R2 E2 d2 => ?_⟩
    obtain rfl := bor_int d2
    have h6 := E2.h _ _ h4
    have f2 : F2 ad = none := E2.keepNone h4 h2
    refine ⟨ad, xs, j, m, rfl, rfl, h6, by rw [drAll_length h5]; exact e9, q _ _ F2 (R2.updOwn hl h1 f2 h3 ?_) (E1.f.trans E2.f)⟩
    exact ⟨_, upd_same, drAll_set (dr_same E2.f _ _ d1) m (drAll_same E2.f _ _ h5)⟩

/-! ### several names at once -/
abbrev MF := PEnv → Option (List (Bool × PV))
/-- values of two kinds: given (false), new own objects (true), these all apart -/
def MixR (K : PySem.W.Frag) (F H H' : Hp) : List V → List (Bool × PV) → Prop
  | [], [] => True
  | x :: xs, (false, d) :: r => Dr K F x d ∧ MixR K F H H' xs r
  | x :: xs, (true, d) :: r => (∃ a, x = .ref a ∧ F a = none ∧ H a = none ∧ OwnR K F H' a d ∧ V.ref a ∉ ownsOf xs r) ∧ MixR K F H H' xs r
  | _, _ => False
where ownsOf : List V → List (Bool × PV) → List V
  | x :: xs, (true, _) :: r => x :: ownsOf xs r
  | _ :: xs, (false, _) :: r => ownsOf xs r
  | _, _ => []
def tM (K : PySem.W.Frag) (f : MF) : TA := fun σ H Q => ∃ B F0 F ρ v, RE K B F0 F H σ ρ ∧ f ρ = some v ∧ ∀ xs H' F', RE K B F0 F' H' σ ρ → Ext F H F' H' → MixR K F' H H' xs v → Q xs H'
abbrev SM (X : Cx) (es : List Expr) (f : MF) : Prop := PA X es (tM X.K f)
def mNil : MF := fun _ => some []
def mVal (f : PF) (r : MF) : MF := fun ρ => (f ρ).bind fun v => (r ρ).bind fun l => some ((false, v) :: l)
def mOwn (f : PF) (r : MF) : MF := fun ρ => (f ρ).bind fun v => (r ρ).bind fun l => some ((true, v) :: l)
theorem MixR.pre {F H0 H H' : Hp} (s : Same H0 H) : ∀ {xs : List V} {l : List (Bool × PV)}, MixR K F H H' xs l → MixR K F H0 H' xs l
  | [], [], _ => trivial
  | x :: xs, (false, d) :: r, ⟨h1, h2⟩ => ⟨h1, MixR.pre s h2⟩
  | x :: xs, (true, d) :: r, ⟨⟨a, h1, h2, h3, h4, h5⟩, h6⟩ => ⟨⟨a, h1, h2, s.free h3, h4, h5⟩, MixR.pre s h6⟩
theorem MixR.owns {F H H' : Hp} : ∀ {xs : List V} {l : List (Bool × PV)} {a : Addr}, MixR K F H H' xs l → V.ref a ∈ MixR.ownsOf xs l → H a = none
  | x :: xs, (false, d) :: r, a, ⟨h1, h2⟩, h => MixR.owns h2 h
  | x :: xs, (true, d) :: r, a, ⟨⟨a', h1, h2, h3, h4, h5⟩, h6⟩, h => by
    unfold MixR.ownsOf at h
    rcases List.mem_cons.mp h with h | h
    · subst h1
      cases h
      exact h3
    · exact MixR.owns h6 h
theorem sm_nil : SM X [] mNil := PA.imp pa_nil fun σ H Q ⟨B, F0, F, ρ, z, R, e, q⟩ => by
  cases e
  exact q _ _ _ R (Ext.refl _ _) trivial
theorem sm_val {es : List Expr} {r : MF} (ha : SE X a f) (hr : SM X es r) (hs : starEach (a :: es) X.env = (false, eval a X.env) :: starEach es X.env := by rfl) : SM X (a :: es) (mVal f r) := PA.imp (pa_cons ha hr hs) fun σ H Q ⟨B, F0, F, ρ, z, R, e, q⟩ => by
  obtain ⟨v, e1, e2⟩ := bind_some e
  obtain ⟨l, e3, e4⟩ := bind_some e2
  cases e4
  refine ⟨B, F0, F, ρ, v, R, e1, fun x H1 F1 R1 E1 d1 => ⟨B, F0, F1, ρ, l, R1, e3, fun xs H2 F2 R2 E2 d2 => ?_⟩⟩
  exact q _ _ _ R2 (E1.trans E2) ⟨dr_same E2.f _ _ d1, d2.pre E1.h⟩
theorem sm_own {es : List Expr} {r : MF} (ha : SF X a f) (hr : SM X es r) (hs : starEach (a :: es) X.env = (false, eval a X.env) :: starEach es X.env := by rfl) : SM X (a :: es) (mOwn f r) := PA.imp (pa_cons ha hr hs) fun σ H Q ⟨B, F0, F, ρ, z, R, e, q⟩ => by
  obtain ⟨v, e1, e2⟩ := bind_some e
  obtain ⟨l, e3, e4⟩ := bind_some e2
  cases e4
  refine ⟨B, F0, F, ρ, v, R, e1, fun a H1 F1 R1 E1 fa ha d1 => ⟨B, F0, F1, ρ, l, R1, e3, fun xs H2 F2 R2 E2 d2 => ?_⟩⟩
  obtain ⟨o, ho⟩ := d1.some
  refine q _ _ _ R2 (E1.trans E2) ⟨⟨a, rfl, E2.keepNone ho fa, ha, d1.same E2.f (by rw [E2.h _ _ ho, ho]), fun m => ?_⟩, d2.pre E1.h⟩
  have := d2.owns m
  rw [ho] at this
  cases this
def setAll (σ : L2.St) : List Nat → List V → L2.St
  | i :: is, x :: xs => setAll (σ.set i (some x)) is xs
  | _, _ => σ
def setAllE (ρ : PEnv) : List Nat → List (Bool × PV) → PEnv
  | i :: is, (k, d) :: r => setAllE (ρ.set i (if k = true then .own d else .val d)) is r
  | _, _ => ρ
theorem RE.setMix {B F0 F H0 H : Hp} : ∀ {is : List Nat} {xs : List V} {l : List (Bool × PV)} {σ : L2.St} {ρ : PEnv}, RE K B F0 F H σ ρ → MixR K F H0 H xs l → Same B H0 → (∀ (j : Nat) v a, ρ[j]? = some (.own v) → σ[j]? = some (some (.ref a)) → V.ref a ∉ MixR.ownsOf xs l) → RE K B F0 F H (setAll σ is xs) (setAllE ρ is l)
  | [], _, _, _, _, R, _, _, _ => R
  | i :: is, [], [], _, _, R, _, _, _ => R
  | i :: is, [], _ :: _, _, _, R, h, _, _ => h.elim
  | i :: is, _ :: _, [], _, _, R, h, _, _ => h.elim
  | i :: is, x :: xs, (false, d) :: r, σ, ρ, R, ⟨h1, h2⟩, hb, no => by
    show RE K B F0 F H (setAll (σ.set i (some x)) is xs) (setAllE (ρ.set i (.val d)) is r)
    refine RE.setMix (R.setVal h1) h2 hb fun j v a e1 e2 m => ?_
    by_cases z : i = j
    · subst z
      by_cases hi : i < ρ.length
      · rw [List.getElem?_set_self hi] at e1
        cases e1
      · rw [List.getElem?_eq_none (by rw [List.length_set]; omega)] at e1
        cases e1
    · rw [List.getElem?_set_ne z] at e1 e2
      exact no j v a e1 e2 m
  | i :: is, x :: xs, (true, d) :: r, σ, ρ, R, ⟨⟨a, h1, h2, h3, h4, h5⟩, h6⟩, hb, no => by
    subst h1
    show RE K B F0 F H (setAll (σ.set i (some (.ref a))) is xs) (setAllE (ρ.set i (.own d)) is r)
    refine RE.setMix (R.setOwn h2 (hb.free h3) h4 fun j v e1 e2 => no j v a e1 e2 (by unfold MixR.ownsOf; exact List.mem_cons_self)) h6 hb fun j v a' e1 e2 m => ?_
    by_cases z : i = j
    · subst z
      by_cases hi : i < ρ.length
      · rw [List.getElem?_set_self (by rw [R.len]; exact hi)] at e2
        cases e2
        exact h5 m
      · rw [List.getElem?_eq_none (by rw [List.length_set]; omega)] at e1
        cases e1
    · rw [List.getElem?_set_ne z] at e1 e2
      exact no j v a' e1 e2 (by unfold MixR.ownsOf; exact List.mem_cons_of_mem _ m)
def sPar (is : List Nat) (f : MF) : PSt := fun ρ => (f ρ).bind fun l => if l.length = is.length then some (.nx (setAllE ρ is l)) else none
theorem MixR.length {F H H' : Hp} : ∀ {xs : List V} {l : List (Bool × PV)}, MixR K F H H' xs l → xs.length = l.length
  | [], [], _ => rfl
  | [], _ :: _, h => h.elim
  | _ :: _, [], h => h.elim
  | x :: xs, (false, d) :: r, ⟨h1, h2⟩ => by rw [List.length_cons, List.length_cons, MixR.length h2]
  | x :: xs, (true, d) :: r, ⟨h1, h2⟩ => by rw [List.length_cons, List.length_cons, MixR.length h2]
theorem par_end {B F0 F H F1 H1 : Hp} {is : List Nat} {xs : List V} {l : List (Bool × PV)} {σ : L2.St} {ρ : PEnv} (R : RE K B F0 F H σ ρ) (R1 : RE K B F0 F1 H1 σ ρ) (m : MixR K F1 H H1 xs l) : RE K B F0 F1 H1 (setAll σ is xs) (setAllE ρ is l) :=
  RE.setMix R1 m R.bh fun j v a e1 e2 q => R.notOwn (m.owns q) j v e1 e2
theorem ss_par2 {i j : Nat} {x y : Str} {px py pt : Pos} {kt k2 pt2} {f : MF} (hc : X.calm = true) (hN : X.N.Nodup) (hi : X.N[i]? = some x) (hj : X.N[j]? = some y) (hij : i ≠ j)
    (hx : X.env.scope.names.lookup x = some .local) (hy : X.env.scope.names.lookup y = some .local) (ha : SM X [a, b] f)
    (hw : swappedStores [.Tuple [.Name x px, .Name y py] kt pt] (.Tuple [a, b] k2 pt2) X.env = pure (some [x, y]))
    (hs : swapsWithSole [.Tuple [.Name x px, .Name y py] kt pt] (.Tuple [a, b] k2 pt2) pos.line X.env = pure false := by rfl) :
    SS X (.Assign [.Tuple [.Name x px, .Name y py] kt pt] (.Tuple [a, b] k2 pt2) pos) (sPar [i, j] f) := PS.imp (ps_par hc hN hi hj hij hx hy ha hw hs) fun D σ H ⟨B, F0, F, ρ, r, R, e, q⟩ => by
  obtain ⟨l, e1, e2⟩ := bind_some e
  split at e2
  · rename_i hl
    cases e2
    refine ⟨B, F0, F, ρ, l, R, e1, fun xs H1 F1 R1 E1 m => ?_⟩
    have hx := m.length
    rw [hl] at hx
    match xs, hx with
    | [u, w], _ => exact ⟨u, w, rfl, q _ _ _ (par_end (is := [i, j]) R R1 m) E1.f⟩
  · cases e2
theorem ss_par3 {i j k : Nat} {x y z : Str} {px py pz pt : Pos} {kt k2 pt2} {f : MF} (hc : X.calm = true) (hN : X.N.Nodup) (hi : X.N[i]? = some x) (hj : X.N[j]? = some y) (hk : X.N[k]? = some z) (hij : i ≠ j) (hik : i ≠ k) (hjk : j ≠ k)
    (hx : X.env.scope.names.lookup x = some .local) (hy : X.env.scope.names.lookup y = some .local) (hz : X.env.scope.names.lookup z = some .local) (ha : SM X [a, b, c] f)
    (hw : swappedStores [.Tuple [.Name x px, .Name y py, .Name z pz] kt pt] (.Tuple [a, b, c] k2 pt2) X.env = pure (some [x, y, z]))
    (hs : swapsWithSole [.Tuple [.Name x px, .Name y py, .Name z pz] kt pt] (.Tuple [a, b, c] k2 pt2) pos.line X.env = pure false := by rfl) :
    SS X (.Assign [.Tuple [.Name x px, .Name y py, .Name z pz] kt pt] (.Tuple [a, b, c] k2 pt2) pos) (sPar [i, j, k] f) := PS.imp (L2.ps_par3 hc hN hi hj hk hij hik hjk hx hy hz ha hw hs) fun D σ H ⟨B, F0, F, ρ, r, R, e, q⟩ => by
  obtain ⟨l, e1, e2⟩ := bind_some e
  split at e2
  · rename_i hl
    cases e2
    refine ⟨B, F0, F, ρ, l, R, e1, fun xs H1 F1 R1 E1 m => ?_⟩
    have hx := m.length
    rw [hl] at hx
    match xs, hx with
    | [u, w, v], _ => exact ⟨u, w, v, rfl, q _ _ _ (par_end (is := [i, j, k]) R R1 m) E1.f⟩
  · cases e2
/-- names stored one behind the other -/
def tNs (is : List Nat) : TGs := fun xs σ H Q => xs.length = is.length ∧ Q (setAll σ is xs) H
theorem pns_nil : PGs X [] (tNs []) := PGs.imp pgs_nil fun xs σ H Q ⟨h, q⟩ => by
  cases xs with
  | nil => exact ⟨rfl, q⟩
  | cons u us => cases h
theorem pns_cons {es : List Expr} {i : Nat} {is : List Nat} (h1 : PG X e (gName i)) (h2 : PGs X es (tNs is)) (hs : (assignEach (e :: es) X.env).map (·.2) = assign e X.env :: (assignEach es X.env).map (·.2) := by rfl) : PGs X (e :: es) (tNs (i :: is)) :=
  PGs.imp (pgs_cons h1 h2 hs) fun xs σ H Q ⟨h, q⟩ => by
    cases xs with
    | nil => cases h
    | cons u us => exact ⟨u, us, rfl, Nat.succ.inj h, q⟩
/-- a, b, .. = x, y, .. where the tuple is made (names of cells, four and more, constants) -/
theorem ss_parT {is : List Nat} {es ts : List Expr} {k k2 n : Nat} {p2 : Pos} {f : MF} (hc : X.calm = true) (ha : SM X es f) (hg : PGs X ts (tNs is)) (hn : (assignEach ts X.env).length = n := by rfl) (hst : (assignEach ts X.env).findIdx? (·.1) = none := by rfl) (hnl : is.length = n := by rfl) (hl : is.length ≤ 1000 := by decide)
    (hs : swapsWithSole [.Tuple ts k p] (.Tuple es k2 p2) pos.line X.env = pure false := by rfl) (hw : swappedStores [.Tuple ts k p] (.Tuple es k2 p2) X.env = pure none := by rfl) (h1 : (assignEach [.Tuple ts k p] X.env).map (·.2) = [assign (.Tuple ts k p) X.env] := by rfl) :
    SS X (.Assign [.Tuple ts k p] (.Tuple es k2 p2) pos) (sPar is f) := PS.imp (ps_asg (pe_tup ha) (pg_tup hc hg hn hst) hs hw h1) fun D σ H ⟨B, F0, F, ρ, r, R, e, q⟩ => by
  obtain ⟨l, e1, e2⟩ := bind_some e
  split at e2
  · rename_i hll
    cases e2
    refine ⟨B, F0, F, ρ, l, R, e1, fun xs H1 F1 R1 E1 m => ?_⟩
    have hx := m.length
    have hz : xs.length = n := by rw [hx, hll, hnl]
    refine ⟨by rw [hz]; exact Nat.le_of_lt (L2.small1000 (hnl ▸ hl)), fun p hp => ⟨p, xs, rfl, .inl (.inl upd_same), hz, by rw [hz, hnl], ?_⟩⟩
    have R2 := par_end (is := is) R R1 m
    have E2 : Ext F1 H1 F1 (upd H1 p (.tup xs)) := ext_new hp
    exact q _ _ _ (R2.ext E2 (same_upd2 R1.fh hp)) E1.f
  · cases e2

/-! ### loops -/
def loopF (h : GF) (body : PSt) : List PV → PEnv → Option Fl
  | [], ρ => some (.nx ρ)
  | x :: r, ρ => (h x ρ).bind fun ρ1 => (body ρ1).bind fun fl => match fl with
    | .nx ρ' => loopF h body r ρ'
    | .cnt ρ' => loopF h body r ρ'
    | .brk ρ' => some (.nx ρ')
    | .ret v => some (.ret v)
def sFor (L : LF) (h : GF) (body : PSt) : PSt := fun ρ => (L ρ).bind fun l => loopF h body l ρ
theorem ss_for {iter : Expr} {body : List Stmt} {L : LF} {h : GF} {ts : List Nat} (hp : PassesOwn (model X.prog X.w) X.A X.env X.xe) (hc : X.calm = true) (hi : SI X tg iter L) (hg : SG X tg h ts) (hb : SSs X body s) (hs : ∀ x, foldedSetIterable iter X.env x = pure x := by intro _; rfl) :
    SS X (.For tg iter body [] pos) (sFor L h s) := PS.imp (ps_for hp hc hi hg hb hs) fun D σ H ⟨B, F0, F, ρ, r, R, e, q⟩ => by
  obtain ⟨l, e1, e2⟩ := bind_some e
  refine ⟨B, F0, F, ρ, l, R, e1, fun J H1 F1 R1 E1 Y => ?_⟩
  refine ⟨fun i m σ' H' => m = l.length - i ∧ i ≤ l.length ∧ ∃ Fc ρc, RE X.K B F0 Fc H' σ' ρc ∧ Same F1 Fc ∧ loopF h s (l.drop i) ρc = some r, ⟨l.length, by simp, Nat.zero_le _, F1, ρ, R1, Same.refl _, e2⟩, ?_⟩
  rintro i m σ' H' ⟨rfl, hi, Fc, ρc, Rc, sc, hr⟩
  by_cases hlt : i < l.length
  · refine .inr ⟨Y.go i H' (sc.trans Rc.fh) hlt, fun σ2 H2 => i + 1 ≤ l.length ∧ ∃ Fc ρc, RE X.K B F0 Fc H2 σ2 ρc ∧ Same F1 Fc ∧ loopF h s (l.drop (i + 1)) ρc = some r, fun σ2 H2 z => ⟨l.length - (i + 1), by omega, rfl, z⟩, fun x H2 y => ?_⟩
    obtain ⟨d, F2, g1, E2, s2, dx⟩ := Y.item sc Rc.fh (sc.trans Rc.fh) hlt y
    have ed : l.drop i = d :: l.drop (i + 1) := by
      rw [List.drop_eq_getElem_cons hlt]
      rw [List.getElem?_eq_getElem hlt] at g1
      cases g1
      rfl
    rw [ed] at hr
    unfold loopF at hr
    obtain ⟨ρ1, q1, hr1⟩ := bind_some hr
    obtain ⟨fl, q2, hr2⟩ := bind_some hr1
    refine ⟨B, F0, F2, ρc, d, ρ1, Rc.ext E2 s2, dx, q1, fun σ3 R3 _ _ => ⟨B, F0, F2, ρ1, fl, R3, q2, ?_⟩⟩
    have s3 : Same F1 F2 := sc.trans E2.f
    cases fl with
    | nx ρ' => exact fun σ4 H4 F4 R4 s4 => ⟨by omega, F4, ρ', R4, s3.trans s4, hr2⟩
    | cnt ρ' => exact fun σ4 H4 F4 R4 s4 => ⟨by omega, F4, ρ', R4, s3.trans s4, hr2⟩
    | brk ρ' =>
      cases hr2
      exact fun σ4 H4 F4 R4 s4 => q σ4 H4 F4 R4 (E1.f.trans (s3.trans s4))
    | ret v =>
      cases hr2
      exact q
  · have ei : i = l.length := by omega
    subst ei
    rw [List.drop_length] at hr
    cases hr
    exact .inl ⟨Y.stop _ H' (sc.trans Rc.fh) rfl, q σ' H' Fc Rc (E1.f.trans sc)⟩
def loopW (c : PEnv → Option Bool) (body : PSt) : Nat → PEnv → Option Fl
  | 0, _ => none
  | n + 1, ρ => (c ρ).bind fun b => if b = true then (body ρ).bind fun fl => match fl with
      | .nx ρ' => loopW c body n ρ'
      | .cnt ρ' => loopW c body n ρ'
      | .brk ρ' => some (.nx ρ')
      | .ret v => some (.ret v)
    else some (.nx ρ)
/-- n: a bound of the turns -/
def sWhile (n : Nat) (c : PEnv → Option Bool) (body : PSt) : PSt := loopW c body n
theorem ss_while {c : Expr} {body : List Stmt} {k : PEnv → Option Bool} (n : Nat) (hp : PassesOwn (model X.prog X.w) X.A X.env X.xe) (hc : ST X c k) (hb : SSs X body s) : SS X (.While c body [] pos) (sWhile n k s) := PS.imp (ps_while hp hc hb) fun D σ H ⟨B, F0, F, ρ, r, R, e, q⟩ => by
  refine ⟨fun m σ' H' => ∃ Fc ρc, RE X.K B F0 Fc H' σ' ρc ∧ Same F Fc ∧ loopW k s m ρc = some r, ⟨n, F, ρ, R, Same.refl _, e⟩, ?_⟩
  rintro m σ' H' ⟨Fc, ρc, Rc, sc, hr⟩
  cases m with
  | zero => cases hr
  | succ m =>
    unfold loopW at hr
    obtain ⟨b, q1, hr1⟩ := bind_some hr
    refine ⟨B, F0, Fc, ρc, b, Rc, q1, fun H1 F1 R1 E1 => ?_⟩
    have s1 := sc.trans E1.f
    cases b with
    | true =>
      rw [if_pos rfl] at hr1
      obtain ⟨fl, q2, hr2⟩ := bind_some hr1
      refine L2.iteT ⟨fun σ2 H2 => ∃ Fc ρc, RE X.K B F0 Fc H2 σ2 ρc ∧ Same F Fc ∧ loopW k s m ρc = some r, fun σ2 H2 z => ⟨m, by omega, z⟩, B, F0, F1, ρc, fl, R1, q2, ?_⟩
      cases fl with
      | nx ρ' => exact fun σ4 H4 F4 R4 s4 => ⟨F4, ρ', R4, s1.trans s4, hr2⟩
      | cnt ρ' => exact fun σ4 H4 F4 R4 s4 => ⟨F4, ρ', R4, s1.trans s4, hr2⟩
      | brk ρ' =>
        cases hr2
        exact fun σ4 H4 F4 R4 s4 => q σ4 H4 F4 R4 (s1.trans s4)
      | ret v =>
        cases hr2
        exact q
    | false =>
      rw [if_neg Bool.false_ne_true] at hr1
      cases hr1
      exact L2.iteF (q σ' H1 F1 R1 s1)
end
end Pl

set_option Elab.async false
set_option linter.all false
set_option maxRecDepth 100000
set_option maxHeartbeats 4000000
set_option autoImplicit false
namespace Pl
open PySem PySem.Spec PyProof.Rows L2
variable {K : PySem.W.Frag}

/-! ### defs -/
/-- what a def promises: n values in, the value of fn out -/
def spP (K : PySem.W.Frag) (n : Nat) (fn : List PV → Option PV) : Sp := fun vs H Q _ => ∃ F l r, Same F H ∧ DrAll K F vs l ∧ l.length = n ∧ fn l = some r ∧
  ∀ x H' F', Same H H' → Same F F' → Same F' H' → (∀ a o, F' a = some o → F a = some o ∨ H a = none) → Dr K F' x r → Q x H'
def startE (n : Nat) (l : List PV) : PEnv := l.map Slot.val ++ List.replicate (n - l.length) Slot.un
def outF : Fl → Option PV
  | .ret v => some v
  | .nx _ => some .none
  | _ => none
/-- a def with n slots -/
def fnDef (n : Nat) (body : PSt) : List PV → Option PV := fun l => (body (startE n l)).bind outF
theorem re_start {F H : Hp} {N : List Str} {vs : List V} {l : List PV} (fh : Same F H) (d : DrAll K F vs l) (hl : l.length ≤ N.length) : RE K H F F H (L2.start N vs) (startE N.length l) := by
  have lv := drAll_length d
  refine ⟨fh, Same.refl _, Same.refl _, fun a o h => .inl h, ?_, fun i v h => ?_, fun i v h => ?_, fun i j v w a h1 => ?_⟩
  · unfold L2.start startE
    simp only [List.length_append, List.length_map, List.length_replicate]
    omega
  · unfold startE at h
    unfold L2.start
    by_cases hi : i < l.length
    · rw [List.getElem?_append_left (by simpa using hi), List.getElem?_map, List.getElem?_eq_getElem hi] at h
      cases h
      obtain ⟨x, h1, h2⟩ := drAll_get d (List.getElem?_eq_getElem hi)
      refine ⟨x, ?_, h2⟩
      rw [List.getElem?_append_left (by rw [List.length_map, lv]; exact hi), List.getElem?_map, h1]
      rfl
    · rw [List.getElem?_append_right (by simpa using hi), List.getElem?_replicate] at h
      split at h <;> cases h
  · unfold startE at h
    by_cases hi : i < l.length
    · rw [List.getElem?_append_left (by simpa using hi), List.getElem?_map, List.getElem?_eq_getElem hi] at h
      cases h
    · rw [List.getElem?_append_right (by simpa using hi), List.getElem?_replicate] at h
      split at h <;> cases h
  · unfold startE at h1
    by_cases hi : i < l.length
    · rw [List.getElem?_append_left (by simpa using hi), List.getElem?_map, List.getElem?_eq_getElem hi] at h1
      cases h1
    · rw [List.getElem?_append_right (by simpa using hi), List.getElem?_replicate] at h1
      split at h1 <;> cases h1
/-- a def of the module that keeps the promise -/
structure DefOk (P : Program) (w : World) (K : PySem.W.Frag) (mg : Str → Option Value) (base : Heap) (k : Nat) (x : Str) (n : Nat) (fn : List PV → Option PV) : Prop where
  ex : ∃ (f : Addr) (fd : FuncData) (ps : List Str), mg x = some (.ref f) ∧ PySem.W.keepIn K (.ref f) = true ∧ Binds K fd ps [] ∧ FnOk P w K mg base CX0 k f fd ps (spP K n fn)
theorem DefOk.mono {P : Program} {w : World} {mg : Str → Option Value} {base : Heap} {j k : Nat} {x : Str} {n : Nat} {fn : List PV → Option PV} (D : DefOk P w K mg base j x n fn) (h : j ≤ k) : DefOk P w K mg base k x n fn := by
  obtain ⟨f, fd, ps, h1, h2, h3, h4⟩ := D.ex
  exact ⟨f, fd, ps, h1, h2, h3, h4.mono h⟩
/-- the promise follows from another function's -/
theorem DefOk.imp {P : Program} {w : World} {mg : Str → Option Value} {base : Heap} {k : Nat} {x : Str} {n : Nat} {fn fn' : List PV → Option PV} (D : DefOk P w K mg base k x n fn) (h : ∀ l r, fn' l = some r → fn l = some r) : DefOk P w K mg base k x n fn' := by
  obtain ⟨f, fd, ps, h1, h2, h3, h4⟩ := D.ex
  refine ⟨f, fd, ps, h1, h2, h3, h4.imp fun vs H Q E ⟨F, l, r, q1, q2, q3, q4, q5⟩ => ⟨F, l, r, q1, q2, q3, h _ _ q4, q5⟩⟩
theorem fnOk_body {P : Program} {w : World} {mg : Str → Option Value} {base : Heap} {k : Nat} {x : Str} {st : Stmt} {f : Addr} {fd : FuncData} {N ps : List Str} {b : PSt} (F : FunD K x x (defArgs st) (defBody st) (defScope st) [] [] f fd) (S : FnScope N ps (defScope st))
    (body : ∀ (cdv : Value) (A : Around) (outer : List Env) (s : Shared) (H : Hp) (E : XK), Room k (A.deeper (envOfC x (defScope st) s.heap.objs.size f cdv)) → SSs (cxOf CX0 P w K mg base N x (defScope st) f cdv A outer s H E).nox (defBody st) b) :
    FnOk P w K mg base CX0 (k + 1) f fd ps (spP K ps.length (fnDef N.length b)) := by
  have hpl : ps.length ≤ N.length := by
    have := congrArg List.length S.pre
    rw [List.length_take] at this
    omega
  refine F.ok S (fun vs H Q E ⟨F, l, r, q1, q2, q3, q4, q5⟩ => (drAll_length q2).trans q3) fun cdv A outer s H vs Q E hr ⟨F, l, r, q1, q2, q3, q4, q5⟩ => ⟨_, (body cdv A outer s H E hr).nox, ?_⟩
  obtain ⟨fl, e1, e2⟩ := bind_some q4
  refine ⟨H, F, F, startE N.length l, fl, re_start q1 q2 (by omega), e1, ?_⟩
  cases fl with
  | ret v =>
    cases e2
    exact fun y H' F' h1 h2 h3 h4 h5 => q5 y H' F' h1 h2 h3 h4 h5
  | nx ρ =>
    cases e2
    exact fun σ' H' F' R _ => q5 .non H' F' R.bh R.f0 R.fh R.ff .non
  | brk ρ => cases e2
  | cnt ρ => cases e2
theorem DefOk.mk' {P : Program} {w : World} {mg : Str → Option Value} {base : Heap} {k : Nat} {x : Str} {st : Stmt} {f : Addr} {fd : FuncData} {N ps : List Str} {b : PSt} {n m : Nat} (F : FunD K x x (defArgs st) (defBody st) (defScope st) [] [] f fd) (hm : mg x = some (.ref f)) (S : FnScope N ps (defScope st))
    (hb : ∀ (kV doc pm : Value) (an : Option Addr) (cdv ct : Value) (us : List Value), us.length = ps.length → bindArgs (PySem.W.fnOf x x (defArgs st) (defBody st) (defScope st) .none kV doc pm an cdv ct) ⟨us, []⟩ = pure (ps.zip us))
    (hn : ps.length = n) (hN : N.length = m)
    (body : ∀ (cdv : Value) (A : Around) (outer : List Env) (s : Shared) (H : Hp) (E : XK), Room k (A.deeper (envOfC x (defScope st) s.heap.objs.size f cdv)) → SSs (cxOf CX0 P w K mg base N x (defScope st) f cdv A outer s H E).nox (defBody st) b) :
    DefOk P w K mg base (k + 1) x n (fnDef m b) := by
  subst hn hN
  exact ⟨f, fd, ps, hm, F.kp, F.bindsN hb, fnOk_body F S body⟩
section
variable {X : Cx} {a b c e : Expr} {f g : PF} {pos p : Pos} {x : Str} {es : List Expr} {r : PEnv → Option (List PV)}
theorem se_call {k n : Nat} {fn : List PV → Option PV} (D : DefOk X.prog X.w X.K X.mg X.base k x n fn) (hr : Room k X.A) (hg : Gl X x) (ha : SA X (e :: es) r) (hn : (e :: es).length = n := by rfl)
    (hdb : (x == ("__debug__" : Str)) = false := by decide) (he : starEach (e :: es) X.env = (false, eval e X.env) :: starEach es X.env := by rfl) (hpl : (backTo pos (starEach es X.env)).any (·.1) = false := by rfl) (hlen : ∀ ρ l, r ρ = some l → l.length = n) :
    SE X (.Call (.Name x p) (e :: es) [] pos) (eCall fn r) := by
  obtain ⟨f, fd, ps, h1, h2, h3, h4⟩ := D.ex
  refine PE.imp (pe_call h4 hr hg h1 h2 h3 .nil pass0 ha hdb he hpl) fun σ H Q ⟨B, F0, F, ρ, z, R, e, q⟩ => ?_
  obtain ⟨l, e1, e2⟩ := bind_some e
  refine ⟨B, F0, F, ρ, l, R, e1, fun xs H1 F1 R1 E1 d1 => ?_⟩
  show spP X.K n fn (xs ++ []) H1 Q E0
  rw [List.append_nil]
  refine ⟨F1, l, z, R1.fh, d1, hlen _ _ e1, e2, fun y H2 F2 s1 s2 s3 s4 d2 => ?_⟩
  have E2 : Ext F1 H1 F2 H2 := ⟨s2, s1, s4⟩
  exact q _ _ _ (R1.ext E2 s3) (E1.trans E2) d2
theorem aNil_len : ∀ ρ l, aNil ρ = some l → l.length = 0 := fun ρ l h => by cases h; rfl
theorem aCons_len {f : PF} {r : PEnv → Option (List PV)} {n : Nat} (h : ∀ ρ l, r ρ = some l → l.length = n) : ∀ ρ l, aCons f r ρ = some l → l.length = n + 1 := fun ρ l e => by
  obtain ⟨v, e1, e2⟩ := bind_some e
  obtain ⟨m, e3, e4⟩ := bind_some e2
  cases e4
  rw [List.length_cons, h _ _ e3]
end

/-! ### the end: a law -/
theorem law_end {l : PySem.W.OpenLaw} {k : Nat} {q : Program} {loose : List Str} {XP : (Str → Option Value) → Heap → Prop} {d : DefRec} {fa : List He.Fa} {fn : List He.DefD} {YP : World → Heap → Prop}
    (hn : l.most = some 63) (hdf : d.params.defaults = []) (hr : Room k callerA) (hd : d.name = "law") (hY : ∀ w h, YP w h → ∃ K : PySem.W.Frag, K.In h ∧ He.SaysD fa fn K) {law : List PV → Option PV} (hlaw : ∀ ns : List Int, ns.length ≤ 63 → law [.list (ns.map PyData.int)] = some (.bool true))
    (F : ∀ (w : World) (K : PySem.W.Frag) (mg : Str → Option Value) (h : Heap), K.In h → h.Ns mainGlobals mg → He.SaysD fa fn K →
      (∀ (f : Addr), mg "law" = some (.ref f) → ∃ fd : FuncData, (∀ (s : Shared) (u : Value), BindsTo s fd ⟨[u], []⟩ [("script", u)]) ∧ ∀ base : Heap, K.In base → base.Ns mainGlobals mg → FnOk l.prog w K mg base CX0 k f fd ["script"] (spP K 1 law))) :
    PySem.W.WalkO q loose XP YP l.row.toRowW d [] (fun f vs => PySem.call f vs) := by
  refine L2.walk_ofE (l := l) (n := 63) (k := k) (x := "script") (CX := CX0) hn (by decide) hdf hr (fun w mg f h Y G hmg => ?_) fun _ _ _ _ z => z
  obtain ⟨K, KX, c⟩ := hY w h Y
  rw [hd] at hmg
  obtain ⟨fd, hb, hF⟩ := F w K mg h KX G c f hmg
  refine ⟨K, fd, spP K 1 law, KX, hb, fun H a ns hl _ hS => ?_, hF⟩
  refine ⟨H, [.list (ns.map PyData.int)], .bool true, Same.refl _, .cons (.lst hS (drAll_of_ints ns)) .nil, rfl, hlaw ns hl, fun x H' F' _ _ _ _ d => ?_⟩
  cases d
  rfl
end Pl

set_option Elab.async false
set_option linter.all false
set_option maxRecDepth 100000
set_option maxHeartbeats 4000000
set_option autoImplicit false
namespace Pl
open PySem PySem.Spec PyProof.Rows L2
variable {K : PySem.W.Frag}

/-! ### enumerate and zip of lists and tuples, in any mix -/
structure SrcK where
  It : Heap → Addr → Addr → Nat → Prop
  Ob : Heap → Addr → Array Value → Prop
  sq : PySem.W.Frag → Hp → Addr → List V → Prop
  o0 : Addr → Obj
  draws : ∀ (prog : Program) (w : World) (A : Around), A.handled = none → ∀ (it l : Addr), l ≠ it → ∀ items : Array Value, Draws prog w A it [it, l] items.size (fun i v => items[i]? = some v) (fun i h => It h it l i ∧ Ob h l items)
  itAt : ∀ {h h' : Heap} {it a : Addr} {i : Nat}, It h it a i → (∀ o, h.get? it = some o → h'.get? it = some o) → It h' it a i
  obj : ∀ {h : Heap} {it a : Addr} {i : Nat}, It h it a i → ∃ o, h.get? it = some o ∧ ∀ v, o.data ≠ .cell v
  apart : ∀ {h : Heap} {it a : Addr} {i : Nat} {items : Array Value}, It h it a i → Ob h a items → a ≠ it
  ob : ∀ {h : Heap} {a : Addr} {items : Array Value}, Ob h a items → ∃ o, h.get? a = some o ∧ o.cls ≠ .type "enumerate" ∧ o.cls ≠ .type "zip"
  read : ∀ {X : Cx} {pins : List (Addr × Obj)} {σ : L2.St} {H : Hp} {s : Shared} {a : Addr} {xs : List V}, Inv X pins σ H s → sq X.K H a xs → ∃ its : List Value, Vals xs its ∧ Ob s.heap a its.toArray
  inj : ∀ {X : Cx} {pins : List (Addr × Obj)} {σ : L2.St} {H : Hp} {s : Shared} {a : Addr} {xs ys : List V}, Inv X pins σ H s → sq X.K H a xs → sq X.K H a ys → xs = ys
  same : ∀ {K : PySem.W.Frag} {H H' : Hp} {a : Addr} {xs : List V}, Same H H' → sq K H a xs → sq K H' a xs
  begins : ∀ (a : Addr) (items : Array Value), Begins (.ref a) (o0 a) fun h => Ob h a items
  start : ∀ {h : Heap} {it a : Addr}, h.get? it = some (o0 a) → It h it a 0
theorem cls_ne {o : Obj} {a b : String} (h : o.cls = .type a) (n : a ≠ b) : o.cls ≠ .type b := fun z => by
  rw [h] at z
  injection z with z
  exact n z
def kL : SrcK where
  It := fun h it a i => h.IsListIter it a i
  Ob := fun h a items => h.IsList a items
  sq := SqL
  o0 := fun a => { cls := .type "list_iterator", data := .fields #[.ref a, .int 0 0] }
  draws := fun _ _ _ hh it l hne items => Draws.list hh it l hne items
  itAt := fun h k => h.at k
  obj := fun ⟨o, e, c, d⟩ => ⟨o, e, fun v z => by rw [d] at z; cases z⟩
  apart := fun ⟨o, e, c, d⟩ ⟨o', e', c', d'⟩ z => by
    subst z
    rw [e] at e'
    cases e'
    rw [c] at c'
    exact absurd c' (by decide)
  ob := fun ⟨o, e, c, d⟩ => ⟨o, e, cls_ne c (by decide), cls_ne c (by decide)⟩
  read := fun I h => by
    obtain ⟨its, r, p, _⟩ := I.list h
    exact ⟨its, r, p.isList⟩
  inj := fun I h h' => I.list_inj h h'
  same := fun e h => e.seq h
  begins := fun a items => begins_list a items
  start := fun h => ⟨_, h, rfl, rfl⟩
def kT : SrcK where
  It := fun h it a i => h.IsTupleIter it a i
  Ob := fun h a items => h.IsTuple a items
  sq := SqT
  o0 := fun a => { cls := .type "tuple_iterator", data := .fields #[.ref a, .int 0 0] }
  draws := fun _ _ _ hh it l hne items => Draws.tuple hh it l hne items
  itAt := fun h k => h.at k
  obj := fun ⟨o, e, c, d⟩ => ⟨o, e, fun v z => by rw [d] at z; cases z⟩
  apart := fun ⟨o, e, c, d⟩ ⟨o', e', c', d'⟩ z => by
    subst z
    rw [e] at e'
    cases e'
    rw [c] at c'
    exact absurd c' (by decide)
  ob := fun ⟨o, e, c, d⟩ => ⟨o, e, cls_ne c (by decide), cls_ne c (by decide)⟩
  read := fun I h => by
    obtain ⟨its, r, p, _⟩ := I.tuple h
    exact ⟨its, r, p⟩
  inj := fun I h h' => I.tuple_inj h h'
  same := fun e h => sqT_same e h
  begins := fun a items => begins_tuple a items
  start := fun h => ⟨_, h, rfl, rfl⟩
def IteG (K : PySem.W.Frag) (κ : SrcK) (a : Addr) : It :=
  ⟨fun i H => ∃ xs x, κ.sq K H a xs ∧ xs[i]? = some x, fun i H v H' => ∃ T x, v = .ref T ∧ H T = none ∧ H' = upd H T (.tup [.int (i : Nat), x]) ∧ ∀ xs, κ.sq K H a xs → xs[i]? = some x, fun i H => ∃ xs, κ.sq K H a xs ∧ xs.length = i⟩
theorem enum_ne {κ : SrcK} {h : Heap} {e it a : Addr} {c : Int} {old : Value} {items : Array Value} (he : IsEnum h e it c old) (ob : κ.Ob h a items) : e ≠ a := fun z => by
  obtain ⟨o, e1, n, _⟩ := κ.ob ob
  subst z
  have he' : h.get? e = some _ := he
  rw [e1] at he'
  have := congrArg Obj.cls (Option.some.inj he')
  exact n this
theorem turn_enumG {P : Program} {w : World} {elts : List Expr} {kk : Nat} {tpos : Pos} (κ : SrcK) (a e it : Addr) :
    Turn P w K (.Tuple elts kk tpos) (IteG K κ a) [e, it] e (fun i h => (∃ old, IsEnum h e it ((i : Nat) : Int) old) ∧ κ.It h it a i ∧ e ≠ it) where
  mem := by simp
  obj := fun i h ⟨⟨old, he⟩, hit, _⟩ b hb => by
    rcases List.mem_cons.mp hb with z | z
    · rw [z]
      exact ⟨_, he, fun v q => nomatch q⟩
    · rw [List.mem_singleton.mp z]
      exact κ.obj hit
  keep := fun i h h' ⟨⟨old, he⟩, hit, hne⟩ k => ⟨⟨old, k e (by simp) _ he⟩, κ.itAt hit (fun o q => k it (by simp) o q), hne⟩
  item := fun X hP hw hK hc i pins s σ H E I hf ⟨⟨old, he⟩, hit, hne⟩ ⟨xs, x, hq, hx⟩ => by
    subst hP hw hK
    obtain ⟨its, rv, ob⟩ := κ.read I hq
    obtain ⟨u, hu, ru⟩ := rv.get hx
    have hae := enum_ne he ob
    have hai := κ.apart hit ob
    have el : e < s.heap.objs.size := Heap.lt_size he
    obtain ⟨oi, gi, _⟩ := κ.obj hit
    have il : it < s.heap.objs.size := Heap.lt_size gi
    have hlt : i < its.toArray.size := by
      have := (List.getElem?_eq_some_iff.mp hx).1
      rw [List.size_toArray, ← rv.length]
      exact this
    have D := κ.draws X.prog X.w X.A.in1 (I.ok.hd hc) it a hai its.toArray
    refine wpAny_pyNext_enum_itemC D he ⟨hit, ob⟩ hlt hne (by simp [hne, hae]) fun y h1 tk hy ho st1 hT hsz hk => ?_
    have ey : y = u := by
      have hy' : its.toArray[i]? = some y := hy
      rw [List.getElem?_toArray, hu] at hy'
      exact (Option.some.inj hy').symm
    subst ey
    refine ⟨_, rfl, wpAny_letOwnedTupleGo_enum (s := { s with heap := h1, toks := tk + 1 }) ho fun h2 he2 sb => ?_⟩
    have g2 : h2.get? s.heap.objs.size = some { cls := .type "tuple", data := .seq #[.int i tk, y] } := (sb.2 _ (Nat.ne_of_gt el)).trans hT
    have fr : H s.heap.objs.size = none := I.fresh
    have J : Inv X pins σ (upd H s.heap.objs.size (.tup [.int (i : Nat), x])) { s with heap := h2, toks := tk + 1 } := by
      refine I.turnedNew (ch := [e, it]) (fun b o hb q => ?_) hf (Nat.le_refl _) ⟨by show 2 ≤ sizeLine; decide, [.int i tk, y], .cons ⟨_, rfl⟩ (.cons ru .nil), ⟨_, g2, rfl, _, rfl⟩⟩
      simp only [List.mem_cons, List.mem_nil_iff, or_false, not_or] at hb
      exact (sb.2 b hb.1).trans (hk b o hb.1 hb.2 q)
    refine ⟨.ref s.heap.objs.size, _, J, rfl, ⟨_, x, rfl, fr, rfl, fun ys hy2 => by rw [κ.inj I hy2 hq]; exact hx⟩, ⟨⟨y, ?_⟩, κ.itAt st1.1 (fun o q => (sb.2 it (Ne.symm hne)).trans q), hne⟩, fun b hb => ?_⟩
    · rw [show ((i + 1 : Nat) : Int) = (i : Int) + 1 by omega]
      exact he2
    · have bl : b < s.heap.objs.size := by
        rcases List.mem_cons.mp hb with z | z
        · rw [z]
          exact el
        · rw [List.mem_singleton.mp z]
          exact il
      rw [upd_ne (Nat.ne_of_lt bl)]
      exact (hf b hb).1
  done := fun X hP hw hK hc i pins s σ H E I hf ⟨⟨old, he⟩, hit, hne⟩ ⟨xs, hq, hx⟩ => by
    subst hP hw hK
    obtain ⟨its, rv, ob⟩ := κ.read I hq
    have hai := κ.apart hit ob
    have D := κ.draws X.prog X.w X.A.in1 (I.ok.hd hc) it a hai its.toArray
    have en : its.toArray.size = i := by rw [List.size_toArray, ← rv.length, hx]
    refine wpAny_pyNext_enum_endD D he (by rw [en]; exact ⟨hit, ob⟩) fun h1 hk => ⟨rfl, I.turnedL (t' := s.toks) (ch := [e, it]) (fun b o hb q => ?_) hf⟩
    simp only [List.mem_cons, List.mem_nil_iff, or_false, not_or] at hb
    exact hk b o hb.2 q
  self := fun A i s Q E ⟨⟨old, he⟩, _⟩ h => wpAny_pyIter_enum he h
end Pl

set_option Elab.async false
set_option linter.all false
set_option maxRecDepth 100000
set_option maxHeartbeats 4000000
set_option autoImplicit false
namespace Pl
open PySem PySem.Spec PyProof.Rows L2
variable {K : PySem.W.Frag}

theorem meets_enum1B {v : Value} {o : Obj} {Hv : Heap → Prop} (B : Begins v o Hv) :
    Meets (Builtin.«enumerate.__new__» ⟨[.type "enumerate", v], []⟩) (fun _ R s => Hv s.heap ∧
      R (.ok (.ret (.ref (s.heap.push o).objs.size))) { s with heap := (s.heap.push o).push { cls := .type "enumerate", data := .fields #[.none, .bool false, .ref s.heap.objs.size, rawInt 0, .none, .none] } }) :=
  .of_wp fun prog w A R s h => by
    obtain ⟨hp, gs, dr, tks, oss⟩ := s
    obtain ⟨hv, h⟩ := h
    have f1 := sub_enumerate
    have it1 : ∀ {A' : Around} {E : Value → Shared → Prop} {Q : Value → Shared → Prop}, Q (.ref hp.objs.size) ⟨hp.push o, gs, dr, tks, oss⟩ → wpAny (model prog w) A' (pyIter v) Q E ⟨hp, gs, dr, tks, oss⟩ :=
      fun q => B.iter prog w _ _ ⟨hp, gs, dr, tks, oss⟩ _ hv q
    wp_walk using it1
    refine wpAny_stack_any fun stk => wpAny_pure ?_
    split
    · rename_i c _ _ _ _ _
      cases (c == Value.type "enumerate")
      · wp_walk using it1
        exact ⟨_, rfl, h⟩
      · wp_walk using it1
        exact ⟨_, rfl, h⟩
    · wp_walk using it1
      exact ⟨_, rfl, h⟩
theorem enum1_begins {prog : Program} {w : World} {A : Around} {E : Value → Shared → Prop} {s : Shared} {v : Value} {o : Obj} {Hv : Heap → Prop} {Q : Value → Shared → Prop} (B : Begins v o Hv) (h1 : Hv s.heap)
    (h : ∀ h', IsEnum h' (s.heap.objs.size + 1) s.heap.objs.size 0 .none → h'.get? s.heap.objs.size = some o → (∀ b u, s.heap.get? b = some u → h'.get? b = some u) → Q (.ref (s.heap.objs.size + 1)) { s with heap := h' }) :
    wpAny (model prog w) A (call (.type "enumerate") [v]) Q E s := by
  have hz : (s.heap.push o).objs.size = s.heap.objs.size + 1 := Heap.size_push ..
  have he := Heap.get?_push_size (s.heap.push o) (o := { cls := .type "enumerate", data := .fields #[.none, .bool false, .ref s.heap.objs.size, rawInt 0, .none, .none] }) rfl
  rw [hz] at he
  refine callType_new F.called_enumerate (by decide) (F.typeCall_enumerate_1 v) (F.newCall_enumerate_1 v) (fun obj => F.args_object_init_2 obj v) F.entry_enumerate_new (meets_enum1B B) ⟨h1, ?_⟩
  show _ ∧ _
  rw [hz]
  exact ⟨⟨_, he, rfl⟩, h _ he (Heap.get?_push_of_some _ (Heap.get?_push_size _ B.free)) fun b u q => Heap.get?_push_of_some _ (Heap.get?_push_of_some _ q)⟩

section
variable {X : Cx} {tg a b c e : Expr} {f g : PF} {pos p : Pos} {x : Str}
def enumL (l : List PV) : List PV := l.mapIdx fun i d => .tuple [.int (i : Nat), d]
def lEnum (f : PF) : LF := fun ρ => (f ρ).bind fun v => (toL v).bind fun l => some (enumL l)
theorem enumL_length (l : List PV) : (enumL l).length = l.length := by
  unfold enumL
  rw [List.length_mapIdx]
theorem enumL_get (l : List PV) (i : Nat) (d : PV) (h : l[i]? = some d) : (enumL l)[i]? = some (.tuple [.int (i : Nat), d]) := by
  unfold enumL
  rw [List.getElem?_mapIdx, h]
  rfl
theorem yl_enum {κ : SrcK} {ad : Addr} {xs : List V} {l : List PV} {F G : Hp} (h : κ.sq K G ad xs) (d : DrAll K F xs l) : Yl K (IteG K κ ad) (enumL l) F G where
  go := fun i H s hi => by
    rw [enumL_length] at hi
    obtain ⟨v, h1, h2⟩ := drAll_get d (List.getElem?_eq_getElem hi)
    exact ⟨xs, v, κ.same s h, h1⟩
  stop := fun i H s hi => ⟨xs, κ.same s h, by rw [drAll_length d, ← enumL_length]; exact hi⟩
  yld := fun i H x H' s hi y => by
    obtain ⟨T, u, e1, e2, e3, e4⟩ := y
    obtain ⟨dd, h1, h2⟩ := drAll_get' d (e4 xs (κ.same s h))
    exact ⟨_, enumL_get l i dd h1, .inr ⟨T, _, _, e1, e2, e3, .cons (.int _) (.cons h2 .nil), rfl⟩⟩
/-- the address of a list or a tuple that is looked at -/
theorem bor_src {F H : Hp} {v : V} {d : PV} {l : List PV} (fh : Same F H) (h : BoR K F H v d) (e : toL d = some l) : ∃ (κ : SrcK) (ad : Addr) (xs : List V) (G : Hp), v = .ref ad ∧ κ.sq K H ad xs ∧ DrAll K F xs l ∧ κ.sq K G ad xs ∧ Same F G ∧ Same G H := by
  unfold toL at e
  split at e
  · cases e
    rcases h with h | ⟨p, rfl, xs, h1, h2⟩
    · cases h with
      | lst hs ha => exact ⟨kL, _, _, F, rfl, sqL_same fh hs, ha, hs, Same.refl _, fh⟩
    · obtain ⟨s1, s2⟩ := same_add fh h1
      exact ⟨kL, p, xs, _, rfl, .inl (.inl h1), h2, .inl (.inl upd_same), s1, s2⟩
  · cases e
    obtain ⟨p, xs, rfl, f1, h1, d1⟩ := bor_tup fh h
    exact ⟨kT, p, xs, F, rfl, h1, d1, f1, Same.refl _, fh⟩
  · cases e
theorem se_src {F H : Hp} {v : V} {d : PV} {l : List PV} (fh : Same F H) (h : Dr K F v d) (e : toL d = some l) : ∃ (κ : SrcK) (ad : Addr) (xs : List V), v = .ref ad ∧ κ.sq K H ad xs ∧ DrAll K F xs l ∧ κ.sq K F ad xs := by
  unfold toL at e
  split at e
  · cases e
    cases h with
    | lst hs ha => exact ⟨kL, _, _, rfl, sqL_same fh hs, ha, hs⟩
  · cases e
    cases h with
    | tup hs ha => exact ⟨kT, _, _, rfl, sqT_same fh hs, ha, hs⟩
  · cases e
def iEnumG (K : PySem.W.Frag) (ta : TA) : TI := fun σ H R => ta σ H fun vs H1 => ∃ (κ : SrcK) (ad : Addr) (xs : List V), vs = [.ref ad] ∧ κ.sq K H1 ad xs ∧ R (IteG K κ ad) H1
theorem pi_enumG {ta : TA} {tpos : Pos} {elts : List Expr} {kk : Nat} (hg : Gl X "enumerate") (hm : X.mg "enumerate" = none) (ha : PA X [e] ta) (hs : starEach [e] X.env = [(false, eval e X.env)]) :
    PI X (.Tuple elts kk tpos) (.Call (.Name "enumerate" p) [e] [] pos) (iEnumG X.K ta) := by
  refine ⟨fun pins s σ H R I h => ?_⟩
  refine Call_ (ld_blt I hg hm boot_enumerate (PyProof.Rows.callWith_type1 (thn (ha.run pos pins s σ H _ I h) fun us s1 ⟨vs, H1, I1, r1, κ, ad, xs, ev, hq, q⟩ => ?_) hs rfl))
  subst ev
  obtain ⟨u, rfl, ru⟩ := vals1 r1
  cases ru
  obtain ⟨its, rv, ob⟩ := κ.read I1 hq
  refine enum1_begins (κ.begins ad its.toArray) ob fun h' he hit hk => wpAny_pyIter_enum he ?_
  refine ⟨s1.heap.objs.size + 1, [s1.heap.objs.size + 1, s1.heap.objs.size], _, _, H1, rfl, I1.kept (t' := s1.toks) hk, turn_enumG κ ad (s1.heap.objs.size + 1) s1.heap.objs.size, ⟨⟨_, he⟩, κ.start hit, Nat.succ_ne_self _⟩, fun b hb => ?_, q⟩
  have hl : s1.heap.objs.size ≤ b := by
    rcases List.mem_cons.mp hb with z | z
    · rw [z]
      exact Nat.le_add_right _ _
    · rw [List.mem_singleton.mp z]
      exact Nat.le_refl _
  exact I1.fpOk hl (I1.hok.fresh hl)
theorem si_enum {tpos : Pos} {elts : List Expr} {kk : Nat} (hg : Gl X "enumerate") (hm : X.mg "enumerate" = none) (ha : SE X a f) (na : NS a := by intro _ _; rfl) : SI X (.Tuple elts kk tpos) (.Call (.Name "enumerate" p) [a] [] pos) (lEnum f) :=
  PI.imp (pi_enumG hg hm (pa_cons ha pa_nil (na _ _)) (na _ _)) fun σ H R ⟨B, F0, F, ρ, l, R1, e, q⟩ => by
    obtain ⟨v, e1, e2⟩ := bind_some e
    obtain ⟨m, e3, e4⟩ := bind_some e2
    cases e4
    refine ⟨B, F0, F, ρ, v, R1, e1, fun x H1 F1 R2 E1 d1 => ?_⟩
    obtain ⟨κ, ad, xs, rfl, h1, h2, h3⟩ := se_src R2.fh d1 e3
    exact ⟨κ, ad, xs, rfl, h1, q _ _ _ R2 E1 (yl_enum h3 h2)⟩
theorem sib_enum {tpos : Pos} {elts : List Expr} {kk : Nat} (hg : Gl X "enumerate") (hm : X.mg "enumerate" = none) (ha : SB X a f) (na : NS a := by intro _ _; rfl) : SIB X (.Tuple elts kk tpos) (.Call (.Name "enumerate" p) [a] [] pos) (lEnum f) :=
  PI.imp (pi_enumG hg hm (pa_cons ha pa_nil (na _ _)) (na _ _)) fun σ H R ⟨B, F0, F, ρ, l, R1, e, q⟩ => by
    obtain ⟨v, e1, e2⟩ := bind_some e
    obtain ⟨m, e3, e4⟩ := bind_some e2
    cases e4
    refine ⟨B, F0, F, ρ, v, R1, e1, fun x H1 F1 R2 E1 d1 => ?_⟩
    obtain ⟨κ, ad, xs, G, rfl, h1, h2, h3, h4, h5⟩ := bor_src R2.fh d1 e3
    exact ⟨κ, ad, xs, rfl, h1, q _ _ _ G R2 E1 h4 h5 (yl_enum h3 h2)⟩
end
end Pl

set_option Elab.async false
set_option linter.all false
set_option maxRecDepth 100000
set_option maxHeartbeats 4000000
set_option autoImplicit false
namespace Pl
open PySem PySem.Spec PyProof.Rows L2
open PySem.W (alike dataLt lt_data le_data gt_data ge_data)
variable {K : PySem.W.Frag}

/-- the built-in names that the module does not bind -/
structure BF (mg : Str → Option Value) : Prop where
  len : mg "len" = none
  range : mg "range" = none
  tuple : mg "tuple" = none
  int : mg "int" = none
  abs : mg "abs" = none
  list : mg "list" = none
  sum : mg "sum" = none
  all : mg "all" = none
  any : mg "any" = none
  min : mg "min" = none
  max : mg "max" = none
  sorted : mg "sorted" = none
  isinstance : mg "isinstance" = none
  enumerate : mg "enumerate" = none
  zip : mg "zip" = none
  set : mg "set" = none
  reversed : mg "reversed" = none
  bool : mg "bool" = none
  str : mg "str" = none
def bfNames : List He.Fa := [.free "len", .free "range", .free "tuple", .free "int", .free "abs", .free "list", .free "sum", .free "all", .free "any", .free "min", .free "max", .free "sorted", .free "isinstance", .free "enumerate", .free "zip", .free "set", .free "reversed", .free "bool", .free "str"]
theorem BF.of {K : PySem.W.Frag} {h : Heap} {mg : Str → Option Value} {fa : List He.Fa} {fn : List He.DefD} (X : K.In h) (G : h.Ns mainGlobals mg) (c : He.SaysD (bfNames ++ fa) fn K) : BF mg :=
  ⟨He.free_ok X G (c.fact 0 rfl), He.free_ok X G (c.fact 1 rfl), He.free_ok X G (c.fact 2 rfl), He.free_ok X G (c.fact 3 rfl), He.free_ok X G (c.fact 4 rfl), He.free_ok X G (c.fact 5 rfl), He.free_ok X G (c.fact 6 rfl), He.free_ok X G (c.fact 7 rfl), He.free_ok X G (c.fact 8 rfl), He.free_ok X G (c.fact 9 rfl), He.free_ok X G (c.fact 10 rfl), He.free_ok X G (c.fact 11 rfl), He.free_ok X G (c.fact 12 rfl), He.free_ok X G (c.fact 13 rfl), He.free_ok X G (c.fact 14 rfl), He.free_ok X G (c.fact 15 rfl), He.free_ok X G (c.fact 16 rfl), He.free_ok X G (c.fact 17 rfl), He.free_ok X G (c.fact 18 rfl)⟩
theorem u65 {k : Nat} {A : Around} (hr : Room k A) : A.units + 65 < cLine := by
  have := hr.un
  omega
theorem rm {k : Nat} {A : Around} (hr : Room k A) : Room k A := hr
/-- a bound of the turns of any while loop -/
def wfuel : Nat := 1000000
section
variable {X : Cx} {tg a b c e : Expr} {f g : PF} {pos p : Pos} {x : Str}
theorem ss_ownLc {i : Nat} {y : Str} {py spos : Pos} {elt iter : Expr} {ifs : List Expr} {scope : Scope} {own : List (Str × Nat)} {vs : List Nat} {L : LF} {h : GF} {ts : List Nat} {k : PEnv → Option Bool} {el : PF} (hc : X.calm = true) (hyl : X.env.scope.names.lookup y = some .local)
    (hsw : swapsWith (.ListComp elt [⟨tg, iter, ifs, 0⟩] scope pos) (some (.Name y py)) spos.line X.env = pure true) (hN : X.N.Nodup) (hi : SIB X tg iter L) (ok : BlkOk X.N X.env.scope scope own)
    (hg : ∀ (s : Shared) (H : Hp) (C : Addr) (cl : List (Str × Addr)) (fp : List Addr), SG (X.blk s H scope (compEnvC scope cl C X.env) fp) tg h ts)
    (ht : ∀ (s : Shared) (H : Hp) (C : Addr) (cl : List (Str × Addr)) (fp : List Addr), PTs (X.blk s H scope (compEnvC scope cl C X.env) fp) ifs (tT X.K k))
    (he : ∀ (s : Shared) (H : Hp) (C : Addr) (cl : List (Str × Addr)) (fp : List Addr), SE (X.blk s H scope (compEnvC scope cl C X.env) fp) elt el)
    (hts : ∀ i ∈ ts, i ∈ vs) (hvs : own.map (·.2) = vs := by rfl) (hy : X.N[i]? = some y := by rfl) (hs : ∀ x, foldedSetIterable iter X.env x = pure x := by intro _; rfl) :
    SS X (.Assign [.Name y py] (.ListComp elt [⟨tg, iter, ifs, 0⟩] scope pos) spos) (sOwn i (eComp L vs h k el)) := by
  subst hvs
  exact ss_lc (ps_setLc hc hN hy hyl hsw hi ok hg ht he hs) fun _ _ _ w => own_of w fun _ w => lc_imp hts w
theorem ss_setLc {i : Nat} {y : Str} {py spos : Pos} {elt iter : Expr} {ifs : List Expr} {scope : Scope} {own : List (Str × Nat)} {vs : List Nat} {L : LF} {h : GF} {ts : List Nat} {k : PEnv → Option Bool} {el : PF} (hc : X.calm = true) (hyl : X.env.scope.names.lookup y = some .local)
    (hsw : swapsWith (.ListComp elt [⟨tg, iter, ifs, 0⟩] scope pos) (some (.Name y py)) spos.line X.env = pure true) (hN : X.N.Nodup) (hi : SIB X tg iter L) (ok : BlkOk X.N X.env.scope scope own)
    (hg : ∀ (s : Shared) (H : Hp) (C : Addr) (cl : List (Str × Addr)) (fp : List Addr), SG (X.blk s H scope (compEnvC scope cl C X.env) fp) tg h ts)
    (ht : ∀ (s : Shared) (H : Hp) (C : Addr) (cl : List (Str × Addr)) (fp : List Addr), PTs (X.blk s H scope (compEnvC scope cl C X.env) fp) ifs (tT X.K k))
    (he : ∀ (s : Shared) (H : Hp) (C : Addr) (cl : List (Str × Addr)) (fp : List Addr), SE (X.blk s H scope (compEnvC scope cl C X.env) fp) elt el)
    (hts : ∀ i ∈ ts, i ∈ vs) (hvs : own.map (·.2) = vs := by rfl) (hy : X.N[i]? = some y := by rfl) (hs : ∀ x, foldedSetIterable iter X.env x = pure x := by intro _; rfl) :
    SS X (.Assign [.Name y py] (.ListComp elt [⟨tg, iter, ifs, 0⟩] scope pos) spos) (sAsg (eComp L vs h k el) (gN i)) := by
  subst hvs
  exact ss_lc (ps_setLc hc hN hy hyl hsw hi ok hg ht he hs) fun _ _ _ w => set_of w fun _ w => lc_imp hts w
theorem ss_ownLc2 {i : Nat} {y : Str} {py spos : Pos} {elt iter tg1 iter1 : Expr} {ifs ifs1 : List Expr} {scope : Scope} {own : List (Str × Nat)} {vs vs1 : List Nat} {L L1 : LF} {h h1 : GF} {ts ts1 : List Nat} {k k1 : PEnv → Option Bool} {el : PF} (hc : X.calm = true) (hyl : X.env.scope.names.lookup y = some .local)
    (hsw : swapsWith (.ListComp elt [⟨tg, iter, ifs, 0⟩, ⟨tg1, iter1, ifs1, 0⟩] scope pos) (some (.Name y py)) spos.line X.env = pure true) (hN : X.N.Nodup) (hi : SIB X tg iter L) (ok : BlkOk X.N X.env.scope scope own) (hv : ∀ i ∈ vs1, i ∈ vs)
    (hg : ∀ (s : Shared) (H : Hp) (C : Addr) (cl : List (Str × Addr)) (fp : List Addr), SG (X.blk s H scope (compEnvC scope cl C X.env) fp) tg h ts)
    (ht : ∀ (s : Shared) (H : Hp) (C : Addr) (cl : List (Str × Addr)) (fp : List Addr), PTs (X.blk s H scope (compEnvC scope cl C X.env) fp) ifs (tT X.K k))
    (hi1 : ∀ (s : Shared) (H : Hp) (C : Addr) (cl : List (Str × Addr)) (fp : List Addr), SI (X.blk s H scope (compEnvC scope cl C X.env) fp) tg1 iter1 L1)
    (hg1 : ∀ (s : Shared) (H : Hp) (C : Addr) (cl : List (Str × Addr)) (fp : List Addr), SG (X.blk s H scope (compEnvC scope cl C X.env) fp) tg1 h1 ts1)
    (ht1 : ∀ (s : Shared) (H : Hp) (C : Addr) (cl : List (Str × Addr)) (fp : List Addr), PTs (X.blk s H scope (compEnvC scope cl C X.env) fp) ifs1 (tT X.K k1))
    (he : ∀ (s : Shared) (H : Hp) (C : Addr) (cl : List (Str × Addr)) (fp : List Addr), SE (X.blk s H scope (compEnvC scope cl C X.env) fp) elt el)
    (hts : ∀ i ∈ ts, i ∈ vs) (hts1 : ∀ i ∈ ts1, i ∈ vs1) (hvs : own.map (·.2) = vs := by rfl) (hy : X.N[i]? = some y := by rfl) (hs : ∀ x, foldedSetIterable iter X.env x = pure x := by intro _; rfl) (hs1 : ∀ env x, foldedSetIterable iter1 env x = pure x := by intro _ _; rfl) :
    SS X (.Assign [.Name y py] (.ListComp elt [⟨tg, iter, ifs, 0⟩, ⟨tg1, iter1, ifs1, 0⟩] scope pos) spos) (sOwn i (eComp2 L vs h k L1 vs1 h1 k1 el)) := by
  subst hvs
  exact ss_lc (ps_setLc2 hc hN hy hyl hsw hi ok hv hg ht hi1 hg1 ht1 he hs hs1) fun _ _ _ w => own_of w fun _ w => lc2_imp hts hts1 w
theorem ss_setLc2 {i : Nat} {y : Str} {py spos : Pos} {elt iter tg1 iter1 : Expr} {ifs ifs1 : List Expr} {scope : Scope} {own : List (Str × Nat)} {vs vs1 : List Nat} {L L1 : LF} {h h1 : GF} {ts ts1 : List Nat} {k k1 : PEnv → Option Bool} {el : PF} (hc : X.calm = true) (hyl : X.env.scope.names.lookup y = some .local)
    (hsw : swapsWith (.ListComp elt [⟨tg, iter, ifs, 0⟩, ⟨tg1, iter1, ifs1, 0⟩] scope pos) (some (.Name y py)) spos.line X.env = pure true) (hN : X.N.Nodup) (hi : SIB X tg iter L) (ok : BlkOk X.N X.env.scope scope own) (hv : ∀ i ∈ vs1, i ∈ vs)
    (hg : ∀ (s : Shared) (H : Hp) (C : Addr) (cl : List (Str × Addr)) (fp : List Addr), SG (X.blk s H scope (compEnvC scope cl C X.env) fp) tg h ts)
    (ht : ∀ (s : Shared) (H : Hp) (C : Addr) (cl : List (Str × Addr)) (fp : List Addr), PTs (X.blk s H scope (compEnvC scope cl C X.env) fp) ifs (tT X.K k))
    (hi1 : ∀ (s : Shared) (H : Hp) (C : Addr) (cl : List (Str × Addr)) (fp : List Addr), SI (X.blk s H scope (compEnvC scope cl C X.env) fp) tg1 iter1 L1)
    (hg1 : ∀ (s : Shared) (H : Hp) (C : Addr) (cl : List (Str × Addr)) (fp : List Addr), SG (X.blk s H scope (compEnvC scope cl C X.env) fp) tg1 h1 ts1)
    (ht1 : ∀ (s : Shared) (H : Hp) (C : Addr) (cl : List (Str × Addr)) (fp : List Addr), PTs (X.blk s H scope (compEnvC scope cl C X.env) fp) ifs1 (tT X.K k1))
    (he : ∀ (s : Shared) (H : Hp) (C : Addr) (cl : List (Str × Addr)) (fp : List Addr), SE (X.blk s H scope (compEnvC scope cl C X.env) fp) elt el)
    (hts : ∀ i ∈ ts, i ∈ vs) (hts1 : ∀ i ∈ ts1, i ∈ vs1) (hvs : own.map (·.2) = vs := by rfl) (hy : X.N[i]? = some y := by rfl) (hs : ∀ x, foldedSetIterable iter X.env x = pure x := by intro _; rfl) (hs1 : ∀ env x, foldedSetIterable iter1 env x = pure x := by intro _ _; rfl) :
    SS X (.Assign [.Name y py] (.ListComp elt [⟨tg, iter, ifs, 0⟩, ⟨tg1, iter1, ifs1, 0⟩] scope pos) spos) (sAsg (eComp2 L vs h k L1 vs1 h1 k1 el) (gN i)) := by
  subst hvs
  exact ss_lc (ps_setLc2 hc hN hy hyl hsw hi ok hv hg ht hi1 hg1 ht1 he hs hs1) fun _ _ _ w => set_of w fun _ w => lc2_imp hts hts1 w
end
/-- a def that calls itself: nothing is promised at depth 0 -/
theorem DefOk.zero {P : Program} {w : World} {mg : Str → Option Value} {base : Heap} {k : Nat} {x : Str} {n : Nat} {fn : List PV → Option PV} (D : DefOk P w K mg base k x n fn) (j : Nat) : DefOk P w K mg base j x n (fun _ => none) := by
  obtain ⟨f, fd, ps, h1, h2, h3, h4⟩ := D.ex
  exact ⟨f, fd, ps, h1, h2, h3, ⟨fun vs H Q E ⟨F, l, r, q1, q2, q3, q4, q5⟩ => (by cases q4), fun A outer s H args us vs Q E _ _ _ _ ⟨F, l, r, q1, q2, q3, q4, q5⟩ => (by cases q4)⟩⟩
theorem DefOk.none' {P : Program} {w : World} {mg : Str → Option Value} {base : Heap} {x : Str} {n : Nat} {f : Addr} {fd : FuncData} {ps : List Str} (hm : mg x = some (.ref f)) (kp : PySem.W.keepIn K (.ref f) = true) (hb : Binds K fd ps []) (j : Nat) : DefOk P w K mg base j x n (fun _ => none) :=
  ⟨f, fd, ps, hm, kp, hb, ⟨fun vs H Q E ⟨F, l, r, q1, q2, q3, q4, q5⟩ => (by cases q4), fun A outer s H args us vs Q E _ _ _ _ ⟨F, l, r, q1, q2, q3, q4, q5⟩ => (by cases q4)⟩⟩
end Pl

set_option Elab.async false
set_option linter.all false
set_option maxRecDepth 100000
set_option maxHeartbeats 4000000
set_option autoImplicit false
namespace Pl
open PySem PySem.Spec PyProof.Rows L2
variable {K : PySem.W.Frag}

/-! ### sorted(xs) of a list of alike data -/
open PySem.W in
def srtOk (l : List PV) : Prop := AllAlike l ∧ Sortable l ∧ ∀ d ∈ l, d.depth ≤ 61
def srtL (l : List PV) : List PV := l.mergeSort (PySem.W.dataLe false id)
def rSortedD (K : PySem.W.Frag) : List V → Hp → VK → Prop := fun vs H Q => ∃ (a : Addr) (xs : List V) (l : List PV), vs = [V.ref a] ∧ SqL K H a xs ∧ DpAll K H xs l ∧ srtOk l ∧
  ∀ (ys : List V) (p : Addr), PySem.W.EachIs (fun y d => (y, d) ∈ xs.zip l) ys (srtL l) → H p = none → Q (.ref p) (upd H p (.lst ys))
theorem vals_of_each {R : V → PV → Prop} : ∀ {out : List Value} {l : List PV}, PySem.W.EachIs (fun v d => ∃ x : V, RelV x v ∧ R x d) out l → ∃ ys, Vals ys out ∧ PySem.W.EachIs R ys l
  | _, _, .nil => ⟨[], .nil, .nil⟩
  | _, _, .cons ⟨x, h1, h2⟩ t => by
    obtain ⟨ys, h3, h4⟩ := vals_of_each t
    exact ⟨x :: ys, .cons h1 h3, .cons h2 h4⟩
section
variable {X : Cx}
theorem each_of_dp {pins : List (Addr × Obj)} {σ : L2.St} {H : Hp} {s : Shared} (I : Inv X pins σ H s) : ∀ {xs : List V} {l : List PV} {its : List Value}, DpAll X.K H xs l → Vals xs its → (∀ (Z : List (V × PV)), (∀ z ∈ xs.zip l, z ∈ Z) → PySem.W.EachIs (fun v d => ∃ x : V, RelV x v ∧ (x, d) ∈ Z) its l) ∧ PySem.W.EachIs (fun v d => ∃ as, Reads s.heap v d as) its l
  | [], _, _, h, r => by
    cases h
    cases r
    exact ⟨fun _ _ => .nil, .nil⟩
  | x :: xs, _, _, h, r => by
    cases h with
    | cons h1 h2 =>
      cases r with
      | cons r1 r2 =>
        obtain ⟨a, b⟩ := each_of_dp I h2 r2
        exact ⟨fun Z hZ => .cons ⟨x, r1, hZ _ (by simp)⟩ (a Z fun z hz => hZ z (by simp [hz])), .cons (Dp.reads I _ _ _ h1 r1) b⟩
theorem cr_sortedD (hu : X.A.units + 64 < cLine) : CallR X (.builtin "sorted") (rSortedD X.K) := by
  intro pins s σ H vs us Q I r h
  obtain ⟨a, xs, l, rfl, hs, hd, ⟨h1, h2, h3⟩, q⟩ := h
  obtain ⟨its, rv, hl, hz⟩ := I.list hs
  rw [Vals.ref1 r]
  obtain ⟨e1, e2⟩ := each_of_dp I hd rv
  have ln : its.length = l.length := e2.length
  refine PySem.W.sorted_data (bs := l) (enc := id) hl.isList (e1 (xs.zip l) fun z hz => hz) e2 (by rw [List.map_id]; exact h1) (by rw [List.map_id]; exact h2) (by rw [← ln, ← rv.length]; exact hz) (fun b hb => by have := h3 b hb; show X.A.units + 2 + b.depth < cLine; omega) fun out ho eo => ?_
  obtain ⟨ys, k1, k2⟩ := vals_of_each eo
  obtain ⟨ep, he'⟩ := PyProof.Rows.sortedAll_at s.heap its out.toArray
  have hlen : ys.length ≤ sizeLine := by rw [k1.length, ho, ← ln, ← rv.length]; exact hz
  exact ⟨.ref _, upd H (s.heap.objs.size + 1) (.lst ys), I.laid (t' := s.toks) (fun _ _ => PyProof.Rows.sortedAll_old) (Nat.le_succ _) ⟨hlen, out, ep, k1, he'⟩, rfl, q _ _ k2 (I.hok.fresh (Nat.le_succ _))⟩
open Classical in
noncomputable def pSorted : PV → Option PV
  | .list l => if srtOk l then some (.list (srtL l)) else none
  | _ => none
theorem dr_zip {F : Hp} : ∀ {xs : List V} {l : List PV}, DrAll K F xs l → ∀ {y : V} {z : PV}, (y, z) ∈ xs.zip l → Dr K F y z
  | _, _, .nil, _, _, h => by cases h
  | _, _, .cons a b, y, z, h => by
    rw [List.zip_cons_cons, List.mem_cons] at h
    rcases h with h | h
    · cases h
      exact a
    · exact dr_zip b h
theorem dr_each {F : Hp} {xs : List V} {l : List PV} (d : DrAll K F xs l) : ∀ {ys : List V} {m : List PV}, PySem.W.EachIs (fun y z => (y, z) ∈ xs.zip l) ys m → DrAll K F ys m
  | _, _, .nil => .nil
  | _, _, .cons h t => .cons (dr_zip d h) (dr_each d t)
theorem un_sorted : Un1F K (rSortedD K) pSorted := fun F H x v z Q fh d e q => by
  unfold pSorted at e
  split at e
  · split at e
    · rename_i l ok
      cases e
      obtain ⟨p, xs, rfl, h1, d1⟩ := bor_lst fh d
      exact ⟨p, xs, l, rfl, h1, drAll_dp _ _ (drAll_same fh _ _ d1), ok, fun ys p' he hp => finOwn fh (dr_each d1 he) q p' hp⟩
    · cases e
  · cases e
theorem sf_sorted {a : Expr} {f : PF} {pos p : Pos} (hu : X.A.units + 64 < cLine) (hg : Gl X "sorted") (hm : X.mg "sorted" = none) (ha : SB X a f) (na : NS a := by intro _ _; rfl) : SF X (.Call (.Name "sorted" p) [a] [] pos) (e1 pSorted f) := sf_un1 un_sorted ha (fun h => pe_callB (cr_sortedD hu) hg hm boot_sorted' h (he := na _ _)) na

end
/-! ### sum of a list or a tuple of ints -/
def rSumT (K : PySem.W.Frag) : List V → Hp → VK → Prop := fun vs H Q => ∃ (a : Addr) (ns : List Int), vs = [V.ref a] ∧ SqT K H a (ns.map V.int) ∧ Q (.int ns.sum) H
theorem vals_at : ∀ {us : List Value} {ns : List Int}, Vals (ns.map V.int) us → ∀ (i : Nat) (v : Value), us[i]? = some v → ∃ t, v = .int (ns.getD i 0) t
  | [], _, _, i, v, h => by cases h
  | u :: us, [], r, _, _, _ => by cases r
  | u :: us, n :: ns, r, i, v, h => by
    cases r with
    | cons r1 r2 =>
      cases i with
      | zero =>
        cases h
        obtain ⟨t, rfl⟩ := r1
        exact ⟨t, rfl⟩
      | succ i => exact vals_at r2 i v h
section
variable {X : Cx}
theorem cr_sumT (hc : X.calm = true) : CallR X (.builtin "sum") (rSumT X.K) := by
  intro pins s σ H vs us Q I r h
  obtain ⟨a, ns, rfl, hs, q⟩ := h
  obtain ⟨its, rv, hl, _⟩ := I.tuple hs
  rw [Vals.ref1 r]
  have la : a < s.heap.objs.size := by
    obtain ⟨o, e, _⟩ := hl
    exact Heap.lt_size e
  have ln : its.length = ns.length := by rw [← rv.length, List.length_map]
  refine PySem.call_sum_walkG (wpAny_pyIter_tuple hl ?_)
  refine ⟨_, _, _, _, _, _, fun i => ns.getD i 0, rfl, Walks.tuple (A := X.A.in1) (I.ok.hd hc) s.heap.objs.size a (Nat.ne_of_lt la) its.toArray, ⟨⟨_, Heap.get?_push_size _ rfl, rfl, rfl⟩, Heap.IsTuple.at hl fun o e => Heap.get?_push_of_some _ e⟩, fun b hb => ?_, fun i v hv => vals_at rv i v (by rw [List.getElem?_toArray] at hv; exact hv), fun h' tk t' hk => ?_⟩
  · show b < (s.heap.push _).objs.size
    rw [Heap.size_push]
    rcases List.mem_cons.mp hb with rfl | hb
    · exact Nat.lt_succ_self _
    · rw [List.mem_singleton.mp hb]
      exact Nat.lt_succ_of_lt la
  · have e : preSum (fun i => ns.getD i 0) its.toArray.size = ns.sum := by rw [PyProof.Rows.preSum_getD, List.size_toArray, ln, List.take_length]
    rw [e]
    exact ⟨.int _, H, I.kept (fun b o g => hk b o (fun z => by rw [List.mem_singleton.mp z] at g; exact Nat.lt_irrefl _ (Heap.lt_size g)) (Heap.get?_push_of_some _ g)), ⟨_, rfl⟩, q⟩
def pSum : PV → Option PV
  | .list l => (toIs l).bind fun is => some (.int is.sum)
  | .tuple l => (toIs l).bind fun is => some (.int is.sum)
  | _ => none
theorem cr_sumA (hc : X.calm = true) : CallR X (.builtin "sum") (fun xs H Q => rSum X.K xs H Q ∨ rSumT X.K xs H Q) := by
  intro pins s σ H vs us Q I r h
  rcases h with h | h
  · exact cr_sum hc pins s σ H vs us Q I r h
  · exact cr_sumT hc pins s σ H vs us Q I r h
theorem un_sumA : Un1 K (fun xs H Q => rSum K xs H Q ∨ rSumT K xs H Q) pSum := fun F H x v z Q fh d e q => by
  unfold pSum at e
  split at e
  · obtain ⟨is, e1, e2⟩ := bind_some e
    cases e2
    obtain rfl := toIs_some e1
    obtain ⟨p, xs, rfl, h1, d1⟩ := bor_lst fh d
    obtain rfl := drAll_ints d1
    exact .inl ⟨p, is, rfl, h1, fin0 fh (.int _) q⟩
  · obtain ⟨is, e1, e2⟩ := bind_some e
    cases e2
    obtain rfl := toIs_some e1
    obtain ⟨p, xs, rfl, f1, h1, d1⟩ := bor_tup fh d
    obtain rfl := drAll_ints d1
    exact .inr ⟨p, is, rfl, h1, fin0 fh (.int _) q⟩
  · cases e
theorem se_sumG {a : Expr} {f : PF} {pos p : Pos} (hc : X.calm = true) (hg : Gl X "sum") (hm : X.mg "sum" = none) (ha : SB X a f) (na : NS a := by intro _ _; rfl) : SE X (.Call (.Name "sum" p) [a] [] pos) (e1 pSum f) := se_un1 un_sumA ha (fun h => pe_callB (cr_sumA hc) hg hm boot_sum' h (he := na _ _)) na
end
/-! ### list(range(..)), tuple(range(..)) -/
theorem ints_rgV (F : Hp) (a b : Int) : DrAll K F (rgV a b) ((rng a b).map PyData.int) := by
  unfold rgV rng
  rw [List.map_map]
  generalize (b - a).toNat = n
  induction List.range n with
  | nil => exact .nil
  | cons x l ih => exact .cons (.int _) ih
def pLstRg (v w : PV) : Option PV := (toI v).bind fun i => (toI w).bind fun j => if rOk i j && decide ((j - i).toNat ≤ 16777216) then some (.list ((rng i j).map PyData.int)) else none
def pTupRg (v w : PV) : Option PV := (toI v).bind fun i => (toI w).bind fun j => if rOk i j && decide ((j - i).toNat ≤ 16777216) then some (.tuple ((rng i j).map PyData.int)) else none
/-- the two ends of a range -/
abbrev RF := PEnv → Option (PV × PV)
def rg1 (f : PF) : RF := fun ρ => (f ρ).bind fun v => some (.int 0, v)
def rg2 (f g : PF) : RF := fun ρ => (f ρ).bind fun v => (g ρ).bind fun w => some (v, w)
def eLstRg (r : RF) : PF := fun ρ => (r ρ).bind fun p => pLstRg p.1 p.2
def eTupRg (r : RF) : PF := fun ρ => (r ρ).bind fun p => pTupRg p.1 p.2
def tRgE (K : PySem.W.Frag) (r : RF) : L2.St → Hp → (Int → Int → Hp → Prop) → Prop := fun σ H Q => ∃ B F0 F ρ i j, RE K B F0 F H σ ρ ∧ r ρ = some (.int i, .int j) ∧ ∀ H' F', RE K B F0 F' H' σ ρ → Ext F H F' H' → Q i j H'
def SRg (X : Cx) (e : Expr) (r : RF) : Prop := PRg X e (tRgE X.K r)
section
variable {X : Cx} {a b e : Expr} {f g : PF} {r : RF} {pos p : Pos}
theorem PRg.imp {t t' : L2.St → Hp → (Int → Int → Hp → Prop) → Prop} (h : PRg X e t) (w : ∀ σ H Q, t' σ H Q → t σ H Q) : PRg X e t' := fun pins s σ H Q I q => h pins s σ H Q I (w σ H Q q)
theorem srg_1 (hg : Gl X "range") (hm : X.mg "range" = none) (ha : SB X a f) (na : NS a := by intro _ _; rfl) : SRg X (.Call (.Name "range" p) [a] [] pos) (rg1 f) :=
  PRg.imp (prg_1 hg hm ha (na _ _)) fun σ H Q ⟨B, F0, F, ρ, i, j, R, e, q⟩ => by
    obtain ⟨v, e1, e2⟩ := bind_some e
    cases e2
    exact ⟨B, F0, F, ρ, _, R, e1, fun x H1 F1 R1 E1 d1 => ⟨j, bor_int d1, q H1 F1 R1 E1⟩⟩
theorem srg_2 (hg : Gl X "range") (hm : X.mg "range" = none) (ha : SB X a f) (hb : SB X b g) (na : NS a := by intro _ _; rfl) (nb : NS b := by intro _ _; rfl) : SRg X (.Call (.Name "range" p) [a, b] [] pos) (rg2 f g) :=
  PRg.imp (prg_2 hg hm ha hb (na _ _) (nb _ _) (nb.one _ _)) fun σ H Q ⟨B, F0, F, ρ, i, j, R, e, q⟩ => by
    obtain ⟨v, e1, e2⟩ := bind_some e
    obtain ⟨w, e3, e4⟩ := bind_some e2
    cases e4
    exact ⟨B, F0, F, ρ, _, R, e1, fun x H1 F1 R1 E1 d1 => ⟨B, F0, F1, ρ, _, R1, e3, fun y H2 F2 R2 E2 d2 => ⟨i, j, bor_int d1, bor_int d2, q H2 F2 R2 (E1.trans E2)⟩⟩⟩
theorem pLstRg_some {v w z : PV} (h : pLstRg v w = some z) : ∃ i j, v = .int i ∧ w = .int j ∧ RgOk i j ∧ z = .list ((rng i j).map PyData.int) := by
  obtain ⟨i, h1, h2⟩ := bind_some h
  obtain ⟨j, h3, h4⟩ := bind_some h2
  split at h4
  · rename_i c
    rw [Bool.and_eq_true] at c
    have c1 : -(2 ^ 62) ≤ i ∧ i < 2 ^ 62 ∧ -(2 ^ 62) ≤ j ∧ j < 2 ^ 62 := by
      have := c.1
      unfold rOk at this
      simp only [Bool.and_eq_true, decide_eq_true_eq] at this
      exact this
    have c2 := of_decide_eq_true c.2
    cases h4
    refine ⟨i, j, ?_, ?_, ⟨c1.1, c1.2.1, c1.2.2.1, c1.2.2.2, by omega⟩, rfl⟩
    · unfold toI at h1; split at h1 <;> cases h1; rfl
    · unfold toI at h3; split at h3 <;> cases h3; rfl
  · cases h4
theorem sf_listRg (hc : X.calm = true) (hg : Gl X "list") (hm : X.mg "list" = none) (he : SRg X e r) (na : NS e := by intro _ _; rfl) : SF X (.Call (.Name "list" p) [e] [] pos) (eLstRg r) :=
  PE.imp (pe_listRg hc hg hm he (na _ _)) fun σ H Q ⟨B, F0, F, ρ, z, R, e, q⟩ => by
    obtain ⟨v, e1, e2⟩ := bind_some e
    obtain ⟨i, j, h1, h2, ok, rfl⟩ := pLstRg_some e2
    refine ⟨B, F0, F, ρ, i, j, R, by rw [e1, ← h1, ← h2], fun H1 F1 R1 E1 => ⟨ok, finOwn R1.fh (ints_rgV F1 i j) fun a H2 F2 E2 s2 fp hp d2 => q a H2 F2 (R1.ext E2 s2) (E1.trans E2) fp (E1.h.free hp) d2⟩⟩
theorem pTupRg_some {v w z : PV} (h : pTupRg v w = some z) : ∃ i j, v = .int i ∧ w = .int j ∧ RgOk i j ∧ z = .tuple ((rng i j).map PyData.int) := by
  obtain ⟨i, h1, h2⟩ := bind_some h
  obtain ⟨j, h3, h4⟩ := bind_some h2
  split at h4
  · rename_i c
    have q : pLstRg v w = some (.list ((rng i j).map PyData.int)) := by
      unfold pLstRg
      rw [h1, Option.bind_some, h3, Option.bind_some, if_pos c]
    obtain ⟨i', j', k1, k2, k3, k4⟩ := pLstRg_some q
    subst k1 k2
    cases h1
    cases h3
    cases h4
    exact ⟨_, _, rfl, rfl, k3, rfl⟩
  · cases h4
theorem se_tupRg (hc : X.calm = true) (hg : Gl X "tuple") (hm : X.mg "tuple" = none) (he : SRg X e r) (na : NS e := by intro _ _; rfl) : SE X (.Call (.Name "tuple" p) [e] [] pos) (eTupRg r) :=
  PE.imp (pe_tupRg hc hg hm he (na _ _)) fun σ H Q ⟨B, F0, F, ρ, z, R, e, q⟩ => by
    obtain ⟨v, e1, e2⟩ := bind_some e
    obtain ⟨i, j, h1, h2, ok, rfl⟩ := pTupRg_some e2
    refine ⟨B, F0, F, ρ, i, j, R, by rw [e1, ← h1, ← h2], fun H1 F1 R1 E1 => ⟨ok, finNew (z := .none) R1.fh (ints_rgV F1 i j) fun u H2 F2 E2 s2 d2 => q u H2 F2 (R1.ext E2 s2) (E1.trans E2) d2⟩⟩
end
/-! ### (x, ..) * k -/
theorem tup_once (l : Addr) (items : Array Value) (n : Nat) (dd : Option Addr) (sl : Array (Option Value)) (u : Tok) :
    Meets (Builtin.«tuple.__mul__» ⟨[.ref l, .int 1 u], []⟩) (fun _ R s => s.heap.get? l = some { cls := .type "tuple", dict := dd, data := .seq items n, slots := sl } ∧ R (.ok (.ret (.ref l))) s) :=
  .of_wp fun prog w A R s h => by
    obtain ⟨hp, g, d, tk, os⟩ := s
    obtain ⟨hl, h⟩ := h
    have f1 := AutoSeq1.idx_int
    wp_walk using wpAny_loadPart' hl
    exact ⟨_, rfl, h⟩
section
variable {X : Cx} {a b e : Expr} {f g : PF} {pos p : Pos}
def rRepO (K : PySem.W.Frag) : R2 := fun x y H Q => ∃ l xs, x = .ref l ∧ y = .int 1 ∧ SqT K H l xs ∧ Q (.ref l) H
theorem op_repO : OpR X (binaryOp .Mult) (rRepO X.K) := by
  intro pins s σ H x y v u Q I rx ry h
  obtain ⟨l, xs, rfl, rfl, hT, q⟩ := h
  cases rx
  obtain ⟨t, rfl⟩ := ry
  obtain ⟨its, r, ⟨⟨cls, dd, data, sl⟩, ho, hc, n, hd⟩, hs⟩ := I.tuple hT
  simp only at hc hd
  subst hc hd
  have M := tup_once l its.toArray n dd sl t
  exact wpAny_binaryOp_repeat_ref (T := "tuple") (U := "int") (by decide) ⟨_, ho, rfl⟩ (fun s' => typeIs_int s' 1 t) noFill_tuple_mul F.fills_int_mul F.slot_int_rmul
    repeat_tuple F.slot_int_index.lookup (call_meets F.slot_int_rmul (typeIs_int s 1 t) F.entry_int_rmul (F.args_int_rmul_2 _ _)
      (int_rmul_tuple 1 t l its.toArray n dd sl) ⟨ho, rfl, ⟨_, ho, rfl⟩, call_meets F.slot_tuple_mul ⟨_, ho, rfl⟩ F.entry_tuple_mul
        (F.args_tuple_mul_2 _ _) M ⟨ho, ⟨.ref l, H, I, rfl, q⟩⟩⟩)
def pRepT : PV → PV → Option PV
  | .tuple l, .int k => if l ≠ [] ∧ 1 ≤ k ∧ k ≤ 1000 ∧ l.length ≤ 1000 then some (.tuple (List.replicate k.toNat l).flatten) else none
  | _, _ => none
theorem drAll_rep {F : Hp} {xs : List V} {l : List PV} (d : DrAll K F xs l) : ∀ n : Nat, DrAll K F (List.replicate n xs).flatten (List.replicate n l).flatten
  | 0 => .nil
  | n + 1 => by
    rw [List.replicate_succ, List.replicate_succ, List.flatten_cons, List.flatten_cons]
    exact drAll_append d (drAll_rep d n)
theorem op2_repT : Op2 K (fun x y H Q => rRepT K x y H Q ∨ rRepO K x y H Q) pRepT := fun F H x y v w z Q fh dx dy e q => by
  unfold pRepT at e
  split at e
  · rename_i l k
    split at e
    · rename_i c
      obtain ⟨c1, c2, c3, c4⟩ := c
      cases e
      obtain ⟨p, xs, rfl, f1, h1, d1⟩ := bor_tup fh dx
      obtain rfl := bor_int dy
      have ln := drAll_length d1
      by_cases k1 : k = 1
      · subst k1
        refine .inr ⟨p, xs, rfl, rfl, h1, fin0 fh (.tup f1 ?_) q⟩
        show DrAll K F xs (l ++ [])
        rw [List.append_nil]
        exact d1
      · refine .inl ⟨p, k, xs, rfl, rfl, h1, fun z => c1 ?_, by omega, c3, by omega, finNew (z := .none) fh (drAll_rep d1 _) q⟩
        rw [z] at ln
        exact List.eq_nil_of_length_eq_zero ln.symm
    · cases e
  · cases e
theorem se_repT (ha : SB X a f) (hb : SB X b g) : SE X (.BinOp a .Mult b pos) (e2 pRepT f g) := se_op2 op2_repT ha hb fun h1 h2 => pe_op (OpR.or op_repT op_repO) h1 h2
end
/-! ### is, is not, of truth values -/
def pIsB : PV → PV → Option PV
  | .bool a, .bool b => some (.bool (decide (a = b)))
  | _, _ => none
def pNotB : PV → PV → Option PV
  | .bool a, .bool b => some (.bool (!decide (a = b)))
  | _, _ => none
section
variable {X : Cx}
theorem ck_isB : CmpK X .Is pIsB rIsB := ⟨op_isBl, fun F H x y v w z Q fh dx dy e q => by
  unfold pIsB at e
  split at e
  · cases e
    exact ⟨_, _, bor_bool dx, bor_bool dy, fin0 fh (.bl _) q⟩
  · cases e⟩
theorem ck_notB : CmpK X .IsNot pNotB rNotB := ⟨op_notBl, fun F H x y v w z Q fh dx dy e q => by
  unfold pNotB at e
  split at e
  · cases e
    exact ⟨_, _, bor_bool dx, bor_bool dy, fin0 fh (.bl _) q⟩
  · cases e⟩
end
/-! ### xs.extend(a new list) -/
def sExt (i : Nat) (f : PF) : PSt := fun ρ => (f ρ).bind fun v => (ownL ρ i).bind fun l => (toL v).bind fun m => if l.length + m.length ≤ sizeLine then some (.nx (ρ.set i (.own (.list (l ++ m))))) else none
section
variable {X : Cx} {e : Expr} {f : PF} {pos : Pos}
theorem own_list {F H : Hp} {a : Addr} {v : PV} {m : List PV} (h : OwnR K F H a v) (hm : toL v = some m) : ∃ zs, H a = some (.lst zs) ∧ DrAll K F zs m := by
  cases v with
  | list l =>
    cases hm
    obtain ⟨zs, h1, h2⟩ := h
    exact ⟨zs, h1, h2⟩
  | _ => exact h.elim
theorem ss_ext {i : Nat} {o : Expr} {apos cpos : Pos} (ho : PE X o (tVar i)) (he : SF X e f) (na : NS e := by intro _ _; rfl)
    (hbase : attributeBase o "extend" X.env (eval o X.env) = eval o X.env := by rfl) (hline : (apos.endLine == cpos.line) = true := by rfl)
    (hs : swapsWith (.Call (.Attribute o "extend" apos) [e] [] cpos) none pos.line X.env = pure false := by rfl) (hfew : ((backTo cpos (starEach [e] X.env)).all (fun x => !x.1) && (backToKw cpos (keywordEach [] X.env)).all (fun x => x.1.isSome)
      && decide ([e].length + ([] : List Keyword).length + (if ([] : List Keyword).isEmpty then 0 else 1) < 30)) = true := by rfl) :
    SS X (.Expr (.Call (.Attribute o "extend" apos) [e] [] cpos) pos) (sExt i f) :=
  PS.imp (ps_expr (pe_bm PySem.F.plainAttrs_list PySem.F.slot_list_extend PySem.F.type_list_extend mt_extend ho (pa_cons he pa_nil (na _ _)) hbase hfew hline (na _ _)) hs) fun D σ H ⟨B, F0, F, ρ, r, R, e, q⟩ => by
    obtain ⟨v, e1, e2⟩ := bind_some e
    obtain ⟨l, e3, e4⟩ := bind_some e2
    obtain ⟨m, e5, e6⟩ := bind_some e4
    split at e6
    · rename_i hz
      cases e6
      have hl := ownL_some e3
      obtain ⟨ad, h1, h2, h3, xs, h4, h5⟩ := R.own i _ hl
      refine ⟨_, h1, .inl ⟨rfl, xs, .inl (.inl h4)⟩, B, F0, F, ρ, v, R, e1, fun y H1 F1 R1 E1 fy hy d1 => ?_⟩
      have h6 := E1.h _ _ h4
      have f1 : F1 ad = none := E1.keepNone h4 h2
      obtain ⟨zs, z1, z2⟩ := own_list d1 e5
      refine ⟨ad, y, xs, zs, rfl, rfl, h6, z1, by rw [drAll_length h5, drAll_length z2]; exact hz, q _ _ F1 (R1.updOwn hl h1 f1 h3 ?_) E1.f⟩
      exact ⟨_, upd_same, drAll_append (drAll_same E1.f _ _ h5) z2⟩
    · cases e6
end
end Pl

set_option Elab.async false
set_option linter.all false
set_option maxRecDepth 100000
set_option maxHeartbeats 4000000
set_option autoImplicit false
namespace Pl
open PySem PySem.Spec PyProof.Rows L2
variable {K : PySem.W.Frag}

/-! ### a call that looks at own lists: its result has no list in it -/
mutual
def noL : PV → Bool
  | .list _ => false
  | .dict _ => false
  | .tuple l => noLs l
  | _ => true
def noLs : List PV → Bool
  | [] => true
  | d :: r => noL d && noLs r
end
inductive BoAll (K : PySem.W.Frag) (F H : Hp) : List V → List PV → Prop
  | nil : BoAll K F H [] []
  | cons {x : V} {xs : List V} {v : PV} {l : List PV} (h : BoR K F H x v) (g : BoAll K F H xs l) : BoAll K F H (x :: xs) (v :: l)
theorem BoAll.length {F H : Hp} : ∀ {xs : List V} {l : List PV}, BoAll K F H xs l → xs.length = l.length
  | _, _, .nil => rfl
  | _, _, .cons _ g => by rw [List.length_cons, List.length_cons, g.length]
def tAB (K : PySem.W.Frag) (f : PEnv → Option (List PV)) : TA := fun σ H Q => ∃ B F0 F ρ v, RE K B F0 F H σ ρ ∧ f ρ = some v ∧ ∀ x H' F', RE K B F0 F' H' σ ρ → Ext F H F' H' → BoAll K F' H' x v → Q x H'
abbrev SAB (X : Cx) (es : List Expr) (f : PEnv → Option (List PV)) : Prop := PA X es (tAB X.K f)
section
variable {X : Cx} {e : Expr} {es : List Expr} {f : PF} {r : PEnv → Option (List PV)}
theorem sab_nil : SAB X [] aNil := PA.imp pa_nil fun σ H Q ⟨B, F0, F, ρ, v, R, e, q⟩ => by
  cases e
  exact q _ _ _ R (Ext.refl _ _) .nil
theorem sab_cons (ha : SB X e f) (hr : SAB X es r) (na : NS e := by intro _ _; rfl) : SAB X (e :: es) (aCons f r) := PA.imp (pa_cons ha hr (na _ _)) fun σ H Q ⟨B, F0, F, ρ, v, R, e, q⟩ => by
  obtain ⟨x, e1, e2⟩ := bind_some e
  obtain ⟨l, e3, e4⟩ := bind_some e2
  cases e4
  exact ⟨B, F0, F, ρ, x, R, e1, fun y H1 F1 R1 E1 d1 => ⟨B, F0, F1, ρ, l, R1, e3, fun ys H2 F2 R2 E2 d2 => q _ _ _ R2 (E1.trans E2) (.cons (d1.ext E2) d2)⟩⟩
end
/-- the own lists among xs -/
def lent (F H : Hp) (xs : List V) (a : Addr) : Prop := V.ref a ∈ xs ∧ F a = none ∧ ∃ ys, H a = some (.lst ys)
open Classical in
noncomputable def withL (F H : Hp) (xs : List V) : Hp := fun a => if lent F H xs a then H a else F a
open Classical in
noncomputable def lessL (F H : Hp) (xs : List V) (G : Hp) : Hp := fun a => if lent F H xs a then none else G a
theorem withL_same {F H : Hp} {xs : List V} (fh : Same F H) : Same F (withL F H xs) ∧ Same (withL F H xs) H := by
  constructor
  · intro a o h
    unfold withL
    rw [if_neg (fun c => by rw [c.2.1] at h; cases h)]
    exact h
  · intro a o h
    unfold withL at h
    split at h
    · exact h
    · exact fh _ _ h
theorem withL_all {F H : Hp} {zs : List V} (fh : Same F H) : ∀ {xs : List V} {l : List PV}, BoAll K F H xs l → (∀ x ∈ xs, x ∈ zs) → DrAll K (withL F H zs) xs l
  | _, _, .nil, _ => .nil
  | _, _, .cons (x := x) (v := v) h g, hz => by
    refine .cons ?_ (withL_all fh g fun y hy => hz y (List.mem_cons_of_mem _ hy))
    rcases h with h | ⟨a, rfl, h⟩
    · exact dr_same (withL_same fh).1 _ _ h
    · cases v with
      | list l =>
        obtain ⟨ys, h1, h2⟩ := h
        refine .lst (.inl (.inl ?_)) (drAll_same (withL_same fh).1 _ _ h2)
        by_cases c : lent F H zs a
        · unfold withL
          rw [if_pos c]
          exact h1
        · cases q : F a with
          | none => exact absurd ⟨hz _ (List.mem_cons_self ..), q, ys, h1⟩ c
          | some o =>
            have := fh _ _ q
            rw [h1] at this
            cases this
            exact (withL_same fh).1 _ _ q
      | _ => exact h.elim
mutual
theorem dr_noL {G G' : Hp} (hk : ∀ a o, G a = some o → G' a = some o ∨ ∃ ys, o = .lst ys) : ∀ (d : PV) (v : V), noL d = true → Dr K G v d → Dr K G' v d
  | .none, _, _, h => by cases h; exact .non
  | .bool b, _, _, h => by cases h; exact .bl b
  | .int i, _, _, h => by cases h; exact .int i
  | .str x, _, _, h => by cases h; exact .str x
  | .list ds, _, n, _ => by rw [noL] at n; cases n
  | .tuple ds, _, n, h => by
    rw [noL] at n
    cases h with
    | tup hs ha =>
      refine .tup ?_ (drAll_noL hk ds _ n ha)
      rcases hs with (h | ⟨o, h⟩) | h
      · rcases hk _ _ h with q | ⟨ys, q⟩
        · exact .inl (.inl q)
        · cases q
      · rcases hk _ _ h with q | ⟨ys, q⟩
        · exact .inl (.inr ⟨o, q⟩)
        · cases q
      · exact .inr h
  | .dict _, _, n, _ => by rw [noL] at n; cases n
theorem drAll_noL {G G' : Hp} (hk : ∀ a o, G a = some o → G' a = some o ∨ ∃ ys, o = .lst ys) : ∀ (ds : List PV) (vs : List V), noLs ds = true → DrAll K G vs ds → DrAll K G' vs ds
  | [], _, _, h => by cases h; exact .nil
  | d :: ds, _, n, h => by
    rw [noLs, Bool.and_eq_true] at n
    cases h with
    | cons h1 h2 => exact .cons (dr_noL hk d _ n.1 h1) (drAll_noL hk ds _ n.2 h2)
end
def eCallB (fn : List PV → Option PV) (r : PEnv → Option (List PV)) : PF := fun ρ => (r ρ).bind fun l => (fn l).bind fun z => if noL z = true then some z else none
theorem se_callB {X : Cx} {e : Expr} {pos p : Pos} {x : Str} {es : List Expr} {r : PEnv → Option (List PV)} {k n : Nat} {fn : List PV → Option PV} (D : DefOk X.prog X.w X.K X.mg X.base k x n fn) (hr : Room k X.A) (hg : Gl X x) (ha : SAB X (e :: es) r) (hn : (e :: es).length = n := by rfl)
    (hdb : (x == ("__debug__" : Str)) = false := by decide) (he : starEach (e :: es) X.env = (false, eval e X.env) :: starEach es X.env := by rfl) (hpl : (backTo pos (starEach es X.env)).any (·.1) = false := by rfl) (hlen : ∀ ρ l, r ρ = some l → l.length = n) :
    SE X (.Call (.Name x p) (e :: es) [] pos) (eCallB fn r) := by
  obtain ⟨f, fd, ps, h1, h2, h3, h4⟩ := D.ex
  refine PE.imp (pe_call h4 hr hg h1 h2 h3 .nil pass0 ha hdb he hpl) fun σ H Q ⟨B, F0, F, ρ, z, R, e, q⟩ => ?_
  obtain ⟨l, e1, e2⟩ := bind_some e
  obtain ⟨z', e3, e4⟩ := bind_some e2
  split at e4
  · rename_i hz
    cases e4
    refine ⟨B, F0, F, ρ, l, R, e1, fun xs H1 F1 R1 E1 d1 => ?_⟩
    show spP X.K n fn (xs ++ []) H1 Q E0
    rw [List.append_nil]
    obtain ⟨w1, w2⟩ := withL_same (xs := xs) R1.fh
    refine ⟨withL F1 H1 xs, l, z, w2, withL_all R1.fh d1 fun _ h => h, hlen _ _ e1, e3, fun y H2 G2 s1 s2 s3 s4 d2 => ?_⟩
    have key : ∀ a, lent F1 H1 xs a → ∃ ys, G2 a = some (.lst ys) := fun a c => by
      obtain ⟨ys, hy⟩ := c.2.2
      refine ⟨ys, s2 _ _ ?_⟩
      unfold withL
      rw [if_pos c]
      exact hy
    have E2 : Ext F1 H1 (lessL F1 H1 xs G2) H2 := ⟨fun a o h => by
      unfold lessL
      rw [if_neg (fun c => by rw [c.2.1] at h; cases h)]
      exact s2 _ _ (w1 _ _ h), s1, fun a o h => by
      unfold lessL at h
      split at h
      · cases h
      · rename_i c
        rcases s4 _ _ h with g | g
        · unfold withL at g
          rw [if_neg c] at g
          exact .inl g
        · exact .inr g⟩
    have sm : Same (lessL F1 H1 xs G2) H2 := fun a o h => by
      unfold lessL at h
      split at h
      · cases h
      · exact s3 _ _ h
    refine q _ _ _ (R1.ext E2 sm) (E1.trans E2) (dr_noL (G := G2) (fun a o h => ?_) z y hz d2)
    by_cases c : lent F1 H1 xs a
    · obtain ⟨ys, hy⟩ := key a c
      rw [hy] at h
      cases h
      exact .inr ⟨ys, rfl⟩
    · left
      unfold lessL
      rw [if_neg c]
      exact h
  · cases e4
end Pl

set_option Elab.async false
set_option linter.all false
set_option maxRecDepth 100000
set_option maxHeartbeats 4000000
namespace Wk
noncomputable section
open PySem PySem.Spec PyProof.Rows L2 Pl
def top (i : Nat) : Stmt := PySem.Challenge.pw_dockheld_k17_whole_basins_joined_by_turn.main.body.getD i (.Pass ⟨0, 0, 0, 0⟩)
/-! divisor -/
abbrev s_divisor : Stmt := top 1
abbrev N_divisor : List Str := ["first", "second"]
theorem sc_divisor : FnScope N_divisor ["first", "second"] (defScope s_divisor) := ⟨rfl, rfl, rfl, by decide +kernel, rfl, by decide +kernel, by decide +kernel⟩
abbrev b_divisor : PSt := (sSeq (sPar [0, 1] (mVal (e1 pAbs (eB 0)) (mVal (e1 pAbs (eB 1)) mNil))) (sSeq (sWhile wfuel (cB (e2 pGt (eB 1) (eK (.int 0)))) (sPar [0, 1] (mVal (eV 1) (mVal (e2 pMod (eB 0) (eB 1)) mNil)))) (sRet (eV 0))))
theorem ok_divisor {P : Program} {w : World} {K : PySem.W.Frag} {mg : Str → Option Value} {base : Heap} {k : Nat} {f : Addr} {fd : FuncData} (F : FunD K "divisor" "divisor" (defArgs s_divisor) (defBody s_divisor) (defScope s_divisor) [] [] f fd) (hm : mg "divisor" = some (.ref f)) (m : BF mg) :
    DefOk P w K mg base (k + 1) "divisor" 2 (fnDef 2 (b_divisor)) :=
  have sc := sc_divisor
  DefOk.mk' F hm sc (fun _ _ _ _ _ _ us hl => match us, hl with | [_, _], _ => rfl) rfl rfl fun cdv A outer s H E hr =>
    (ss_cons (ss_par2 (i := 0) (j := 1) rfl sc.nd rfl rfl (by decide) rfl rfl (sm_val (se_abs (by rfl) m.abs (sb_var 0 (pv 0))) (sm_val (se_abs (by rfl) m.abs (sb_var 1 (pv 1))) sm_nil)) (by rfl)) (ss_cons (ss_while wfuel PassesOwn.never (st_cmp (ck_gt hr.units) (sb_var 1 (pv 1)) (sb_of se_int) (nomark _)) (ss_one (ss_par2 (i := 0) (j := 1) rfl sc.nd rfl rfl (by decide) rfl rfl (sm_val (se_var 1 (pv 1)) (sm_val (se_mod (sb_var 0 (pv 0)) (sb_var 1 (pv 1))) sm_nil)) (by rfl)))) (ss_one (ss_ret (se_var 0 (pv 0))))))
/-! lowest -/
abbrev s_lowest : Stmt := top 2
abbrev N_lowest : List Str := ["a", "b", "common"]
theorem sc_lowest : FnScope N_lowest ["a", "b"] (defScope s_lowest) := ⟨rfl, rfl, rfl, by decide +kernel, rfl, by decide +kernel, by decide +kernel⟩
abbrev b_lowest (fn_divisor : List PV → Option PV) : PSt := (sSeq (sAsg (eIf (cB (e2 pGt (eB 1) (eK (.int 0)))) (eCall fn_divisor (aCons (eV 0) (aCons (eV 1) aNil))) (e1 pNeg (eCall fn_divisor (aCons (eV 0) (aCons (eV 1) aNil))))) (gN 2)) (sRet (eCall pTup (aCons (e2 pDiv (eB 0) (eB 2)) (aCons (e2 pDiv (eB 1) (eB 2)) aNil)))))
theorem ok_lowest {P : Program} {w : World} {K : PySem.W.Frag} {mg : Str → Option Value} {base : Heap} {k : Nat} {f : Addr} {fd : FuncData} {fn_divisor : List PV → Option PV} (F : FunD K "lowest" "lowest" (defArgs s_lowest) (defBody s_lowest) (defScope s_lowest) [] [] f fd) (hm : mg "lowest" = some (.ref f)) (m : BF mg) (d_divisor : DefOk P w K mg base k "divisor" 2 fn_divisor) :
    DefOk P w K mg base (k + 1) "lowest" 2 (fnDef 3 (b_lowest fn_divisor)) :=
  have sc := sc_lowest
  DefOk.mk' F hm sc (fun _ _ _ _ _ _ us hl => match us, hl with | [_, _], _ => rfl) rfl rfl fun cdv A outer s H E hr =>
    (ss_cons (ss_set (i := 2) sc.nd rfl (.inl rfl) (se_if (st_cmp (ck_gt hr.units) (sb_var 1 (pv 1)) (sb_of se_int) (nomark _)) (se_call d_divisor (rm hr) (by rfl) (sa_cons (se_var 0 (pv 0)) (sa_cons (se_var 1 (pv 1)) sa_nil)) (hlen := (aCons_len (aCons_len aNil_len)))) (se_neg (sb_of (se_call d_divisor (rm hr) (by rfl) (sa_cons (se_var 0 (pv 0)) (sa_cons (se_var 1 (pv 1)) sa_nil)) (hlen := (aCons_len (aCons_len aNil_len)))))))) (ss_one (ss_ret (se_tup (sa_cons (se_div (sb_var 0 (pv 0)) (sb_var 2 (pv 2))) (sa_cons (se_div (sb_var 1 (pv 1)) (sb_var 2 (pv 2))) sa_nil))))))
/-! plus -/
abbrev s_plus : Stmt := top 3
abbrev N_plus : List Str := ["first", "second"]
theorem sc_plus : FnScope N_plus ["first", "second"] (defScope s_plus) := ⟨rfl, rfl, rfl, by decide +kernel, rfl, by decide +kernel, by decide +kernel⟩
abbrev b_plus (fn_lowest : List PV → Option PV) : PSt := (sRet (eCall fn_lowest (aCons (e2 pPlus (e2 pMul (e2 pIx (eB 0) (eK (.int 0))) (e2 pIx (eB 1) (eK (.int 1)))) (e2 pMul (e2 pIx (eB 1) (eK (.int 0))) (e2 pIx (eB 0) (eK (.int 1))))) (aCons (e2 pMul (e2 pIx (eB 0) (eK (.int 1))) (e2 pIx (eB 1) (eK (.int 1)))) aNil))))
theorem ok_plus {P : Program} {w : World} {K : PySem.W.Frag} {mg : Str → Option Value} {base : Heap} {k : Nat} {f : Addr} {fd : FuncData} {fn_lowest : List PV → Option PV} (F : FunD K "plus" "plus" (defArgs s_plus) (defBody s_plus) (defScope s_plus) [] [] f fd) (hm : mg "plus" = some (.ref f)) (m : BF mg) (d_lowest : DefOk P w K mg base k "lowest" 2 fn_lowest) :
    DefOk P w K mg base (k + 1) "plus" 2 (fnDef 2 (b_plus fn_lowest)) :=
  have sc := sc_plus
  DefOk.mk' F hm sc (fun _ _ _ _ _ _ us hl => match us, hl with | [_, _], _ => rfl) rfl rfl fun cdv A outer s H E hr =>
    (ss_one (ss_ret (se_call d_lowest (rm hr) (by rfl) (sa_cons (se_plus (sb_of (se_mul (sb_of (se_ix (sb_var 0 (pv 0)) (sb_of se_int) (fun _ _ => rfl))) (sb_of (se_ix (sb_var 1 (pv 1)) (sb_of se_int) (fun _ _ => rfl))))) (sb_of (se_mul (sb_of (se_ix (sb_var 1 (pv 1)) (sb_of se_int) (fun _ _ => rfl))) (sb_of (se_ix (sb_var 0 (pv 0)) (sb_of se_int) (fun _ _ => rfl)))))) (sa_cons (se_mul (sb_of (se_ix (sb_var 0 (pv 0)) (sb_of se_int) (fun _ _ => rfl))) (sb_of (se_ix (sb_var 1 (pv 1)) (sb_of se_int) (fun _ _ => rfl)))) sa_nil)) (hlen := (aCons_len (aCons_len aNil_len))))))
/-! times -/
abbrev s_times : Stmt := top 4
abbrev N_times : List Str := ["first", "second"]
theorem sc_times : FnScope N_times ["first", "second"] (defScope s_times) := ⟨rfl, rfl, rfl, by decide +kernel, rfl, by decide +kernel, by decide +kernel⟩
abbrev b_times (fn_lowest : List PV → Option PV) : PSt := (sRet (eCall fn_lowest (aCons (e2 pMul (e2 pIx (eB 0) (eK (.int 0))) (e2 pIx (eB 1) (eK (.int 0)))) (aCons (e2 pMul (e2 pIx (eB 0) (eK (.int 1))) (e2 pIx (eB 1) (eK (.int 1)))) aNil))))
theorem ok_times {P : Program} {w : World} {K : PySem.W.Frag} {mg : Str → Option Value} {base : Heap} {k : Nat} {f : Addr} {fd : FuncData} {fn_lowest : List PV → Option PV} (F : FunD K "times" "times" (defArgs s_times) (defBody s_times) (defScope s_times) [] [] f fd) (hm : mg "times" = some (.ref f)) (m : BF mg) (d_lowest : DefOk P w K mg base k "lowest" 2 fn_lowest) :
    DefOk P w K mg base (k + 1) "times" 2 (fnDef 2 (b_times fn_lowest)) :=
  have sc := sc_times
  DefOk.mk' F hm sc (fun _ _ _ _ _ _ us hl => match us, hl with | [_, _], _ => rfl) rfl rfl fun cdv A outer s H E hr =>
    (ss_one (ss_ret (se_call d_lowest (rm hr) (by rfl) (sa_cons (se_mul (sb_of (se_ix (sb_var 0 (pv 0)) (sb_of se_int) (fun _ _ => rfl))) (sb_of (se_ix (sb_var 1 (pv 1)) (sb_of se_int) (fun _ _ => rfl)))) (sa_cons (se_mul (sb_of (se_ix (sb_var 0 (pv 0)) (sb_of se_int) (fun _ _ => rfl))) (sb_of (se_ix (sb_var 1 (pv 1)) (sb_of se_int) (fun _ _ => rfl)))) sa_nil)) (hlen := (aCons_len (aCons_len aNil_len))))))
/-! parted -/
abbrev s_parted : Stmt := top 5
abbrev N_parted : List Str := ["first", "second"]
theorem sc_parted : FnScope N_parted ["first", "second"] (defScope s_parted) := ⟨rfl, rfl, rfl, by decide +kernel, rfl, by decide +kernel, by decide +kernel⟩
abbrev b_parted (fn_lowest : List PV → Option PV) : PSt := (sRet (eCall fn_lowest (aCons (e2 pMul (e2 pIx (eB 0) (eK (.int 0))) (e2 pIx (eB 1) (eK (.int 1)))) (aCons (e2 pMul (e2 pIx (eB 0) (eK (.int 1))) (e2 pIx (eB 1) (eK (.int 0)))) aNil))))
theorem ok_parted {P : Program} {w : World} {K : PySem.W.Frag} {mg : Str → Option Value} {base : Heap} {k : Nat} {f : Addr} {fd : FuncData} {fn_lowest : List PV → Option PV} (F : FunD K "parted" "parted" (defArgs s_parted) (defBody s_parted) (defScope s_parted) [] [] f fd) (hm : mg "parted" = some (.ref f)) (m : BF mg) (d_lowest : DefOk P w K mg base k "lowest" 2 fn_lowest) :
    DefOk P w K mg base (k + 1) "parted" 2 (fnDef 2 (b_parted fn_lowest)) :=
  have sc := sc_parted
  DefOk.mk' F hm sc (fun _ _ _ _ _ _ us hl => match us, hl with | [_, _], _ => rfl) rfl rfl fun cdv A outer s H E hr =>
    (ss_one (ss_ret (se_call d_lowest (rm hr) (by rfl) (sa_cons (se_mul (sb_of (se_ix (sb_var 0 (pv 0)) (sb_of se_int) (fun _ _ => rfl))) (sb_of (se_ix (sb_var 1 (pv 1)) (sb_of se_int) (fun _ _ => rfl)))) (sa_cons (se_mul (sb_of (se_ix (sb_var 0 (pv 0)) (sb_of se_int) (fun _ _ => rfl))) (sb_of (se_ix (sb_var 1 (pv 1)) (sb_of se_int) (fun _ _ => rfl)))) sa_nil)) (hlen := (aCons_len (aCons_len aNil_len))))))
/-! whole -/
abbrev s_whole : Stmt := top 7
abbrev N_whole : List Str := ["number"]
theorem sc_whole : FnScope N_whole ["number"] (defScope s_whole) := ⟨rfl, rfl, rfl, by decide +kernel, rfl, by decide +kernel, by decide +kernel⟩
abbrev b_whole : PSt := (sRet (eCall pTup (aCons (eV 0) (aCons (eK (.int 1)) aNil))))
theorem ok_whole {P : Program} {w : World} {K : PySem.W.Frag} {mg : Str → Option Value} {base : Heap} {k : Nat} {f : Addr} {fd : FuncData} (F : FunD K "whole" "whole" (defArgs s_whole) (defBody s_whole) (defScope s_whole) [] [] f fd) (hm : mg "whole" = some (.ref f)) (m : BF mg) :
    DefOk P w K mg base (k + 1) "whole" 1 (fnDef 1 (b_whole)) :=
  have sc := sc_whole
  DefOk.mk' F hm sc (fun _ _ _ _ _ _ us hl => match us, hl with | [_], _ => rfl) rfl rfl fun cdv A outer s H E hr =>
    (ss_one (ss_ret (se_tup (sa_cons (se_var 0 (pv 0)) (sa_cons se_int sa_nil)))))
/-! summed -/
abbrev s_summed : Stmt := top 8
abbrev N_summed : List Str := ["ratios", "found", "ratio"]
theorem sc_summed : FnScope N_summed ["ratios"] (defScope s_summed) := ⟨rfl, rfl, rfl, by decide +kernel, rfl, by decide +kernel, by decide +kernel⟩
abbrev b_summed (fn_plus : List PV → Option PV) : PSt := (sSeq (sAsg (eCall pTup (aCons (eK (.int 0)) (aCons (eK (.int 1)) aNil))) (gN 1)) (sSeq (sFor (lSeq (eV 0)) (gN 2) (sAsg (eCall fn_plus (aCons (eV 1) (aCons (eV 2) aNil))) (gN 1))) (sRet (eV 1))))
theorem ok_summed {P : Program} {w : World} {K : PySem.W.Frag} {mg : Str → Option Value} {base : Heap} {k : Nat} {f : Addr} {fd : FuncData} {fn_plus : List PV → Option PV} (F : FunD K "summed" "summed" (defArgs s_summed) (defBody s_summed) (defScope s_summed) [] [] f fd) (hm : mg "summed" = some (.ref f)) (m : BF mg) (d_plus : DefOk P w K mg base k "plus" 2 fn_plus) :
    DefOk P w K mg base (k + 1) "summed" 1 (fnDef 3 (b_summed fn_plus)) :=
  have sc := sc_summed
  DefOk.mk' F hm sc (fun _ _ _ _ _ _ us hl => match us, hl with | [_], _ => rfl) rfl rfl fun cdv A outer s H E hr =>
    (ss_cons (ss_set (i := 1) sc.nd rfl (.inl rfl) (se_tup (sa_cons se_int (sa_cons se_int sa_nil)))) (ss_cons (ss_for PassesOwn.never rfl (si_seq (se_var 0 (pv 0))) (sg_name (i := 2) sc.nd rfl (by first | exact .inl rfl | exact .inr rfl)) (ss_one (ss_set (i := 1) sc.nd rfl (.inl rfl) (se_call d_plus (rm hr) (by rfl) (sa_cons (se_var 1 (pv 1)) (sa_cons (se_var 2 (pv 2)) sa_nil)) (hlen := (aCons_len (aCons_len aNil_len))))))) (ss_one (ss_ret (se_var 1 (pv 1))))))
/-! size_of -/
abbrev s_size_of : Stmt := top 9
abbrev N_size_of : List Str := ["ratio"]
theorem sc_size_of : FnScope N_size_of ["ratio"] (defScope s_size_of) := ⟨rfl, rfl, rfl, by decide +kernel, rfl, by decide +kernel, by decide +kernel⟩
abbrev b_size_of : PSt := (sRet (eCall pTup (aCons (e1 pAbs (e2 pIx (eB 0) (eK (.int 0)))) (aCons (e2 pIx (eB 0) (eK (.int 1))) aNil))))
theorem ok_size_of {P : Program} {w : World} {K : PySem.W.Frag} {mg : Str → Option Value} {base : Heap} {k : Nat} {f : Addr} {fd : FuncData} (F : FunD K "size_of" "size_of" (defArgs s_size_of) (defBody s_size_of) (defScope s_size_of) [] [] f fd) (hm : mg "size_of" = some (.ref f)) (m : BF mg) :
    DefOk P w K mg base (k + 1) "size_of" 1 (fnDef 1 (b_size_of)) :=
  have sc := sc_size_of
  DefOk.mk' F hm sc (fun _ _ _ _ _ _ us hl => match us, hl with | [_], _ => rfl) rfl rfl fun cdv A outer s H E hr =>
    (ss_one (ss_ret (se_tup (sa_cons (se_abs (by rfl) m.abs (sb_of (se_ix (sb_var 0 (pv 0)) (sb_of se_int) (fun _ _ => rfl)))) (sa_cons (se_ix (sb_var 0 (pv 0)) (sb_of se_int) (fun _ _ => rfl)) sa_nil)))))
/-! level_of -/
abbrev s_level_of : Stmt := top 11
abbrev N_level_of : List Str := ["levels", "place"]
theorem sc_level_of : FnScope N_level_of ["levels", "place"] (defScope s_level_of) := ⟨rfl, rfl, rfl, by decide +kernel, rfl, by decide +kernel, by decide +kernel⟩
abbrev b_level_of (fn_whole : List PV → Option PV) : PSt := (sRet (eIf (cB (e2 pLt (eB 1) (e1 pLen (eB 0)))) (e2 pIx (eB 0) (eB 1)) (eCall fn_whole (aCons (eK (.int 0)) aNil))))
theorem ok_level_of {P : Program} {w : World} {K : PySem.W.Frag} {mg : Str → Option Value} {base : Heap} {k : Nat} {f : Addr} {fd : FuncData} {fn_whole : List PV → Option PV} (F : FunD K "level_of" "level_of" (defArgs s_level_of) (defBody s_level_of) (defScope s_level_of) [] [] f fd) (hm : mg "level_of" = some (.ref f)) (m : BF mg) (d_whole : DefOk P w K mg base k "whole" 1 fn_whole) :
    DefOk P w K mg base (k + 1) "level_of" 2 (fnDef 2 (b_level_of fn_whole)) :=
  have sc := sc_level_of
  DefOk.mk' F hm sc (fun _ _ _ _ _ _ us hl => match us, hl with | [_, _], _ => rfl) rfl rfl fun cdv A outer s H E hr =>
    (ss_one (ss_ret (se_if (st_cmp (ck_lt hr.units) (sb_var 1 (pv 1)) (sb_of (se_len (by rfl) m.len (sb_var 0 (pv 0)))) (nomark _)) (se_ix (sb_var 0 (pv 0)) (sb_var 1 (pv 1)) (fun _ _ => rfl)) (se_call d_whole (rm hr) (by rfl) (sa_cons se_int sa_nil) (hlen := (aCons_len aNil_len))))))
/-! may_open -/
abbrev s_may_open : Stmt := top 12
abbrev N_may_open : List Str := ["levels", "gate"]
theorem sc_may_open : FnScope N_may_open ["levels", "gate"] (defScope s_may_open) := ⟨rfl, rfl, rfl, by decide +kernel, rfl, by decide +kernel, by decide +kernel⟩
abbrev b_may_open (fn_level_of : List PV → Option PV) : PSt := (sRet (e2 pEq (eCall fn_level_of (aCons (eV 0) (aCons (e2 pIx (eB 1) (eK (.int 0))) aNil))) (eCall fn_level_of (aCons (eV 0) (aCons (e2 pIx (eB 1) (eK (.int 1))) aNil)))))
theorem ok_may_open {P : Program} {w : World} {K : PySem.W.Frag} {mg : Str → Option Value} {base : Heap} {k : Nat} {f : Addr} {fd : FuncData} {fn_level_of : List PV → Option PV} (F : FunD K "may_open" "may_open" (defArgs s_may_open) (defBody s_may_open) (defScope s_may_open) [] [] f fd) (hm : mg "may_open" = some (.ref f)) (m : BF mg) (d_level_of : DefOk P w K mg base k "level_of" 2 fn_level_of) :
    DefOk P w K mg base (k + 1) "may_open" 2 (fnDef 2 (b_may_open fn_level_of)) :=
  have sc := sc_may_open
  DefOk.mk' F hm sc (fun _ _ _ _ _ _ us hl => match us, hl with | [_, _], _ => rfl) rfl rfl fun cdv A outer s H E hr =>
    (ss_one (ss_ret (se_cmp (ck_eq hr.units) (sb_of (se_call d_level_of (rm hr) (by rfl) (sa_cons (se_var 0 (pv 0)) (sa_cons (se_ix (sb_var 1 (pv 1)) (sb_of se_int) (fun _ _ => rfl)) sa_nil)) (hlen := (aCons_len (aCons_len aNil_len))))) (sb_of (se_call d_level_of (rm hr) (by rfl) (sa_cons (se_var 0 (pv 0)) (sa_cons (se_ix (sb_var 1 (pv 1)) (sb_of se_int) (fun _ _ => rfl)) sa_nil)) (hlen := (aCons_len (aCons_len aNil_len))))) (nomark _))))
/-! gates_free -/
abbrev s_gates_free : Stmt := top 13
abbrev N_gates_free : List Str := ["levels", "gates", "index", "gate"]
theorem sc_gates_free : FnScope N_gates_free ["levels", "gates"] (defScope s_gates_free) := ⟨rfl, rfl, rfl, by decide +kernel, rfl, by decide +kernel, by decide +kernel⟩
abbrev b_gates_free (fn_may_open : List PV → Option PV) : PSt := (sRet (e1 pTuple (eComp (lEnum (eB 1)) [2, 3] (gT (gCons' (gN 2) (gCons' (gN 3) gNil'))) (cTru (eCall fn_may_open (aCons (eV 0) (aCons (eV 3) aNil)))) (eV 2))))
theorem ok_gates_free {P : Program} {w : World} {K : PySem.W.Frag} {mg : Str → Option Value} {base : Heap} {k : Nat} {f : Addr} {fd : FuncData} {fn_may_open : List PV → Option PV} (F : FunD K "gates_free" "gates_free" (defArgs s_gates_free) (defBody s_gates_free) (defScope s_gates_free) [] [] f fd) (hm : mg "gates_free" = some (.ref f)) (m : BF mg) (d_may_open : DefOk P w K mg base k "may_open" 2 fn_may_open) :
    DefOk P w K mg base (k + 1) "gates_free" 2 (fnDef 4 (b_gates_free fn_may_open)) :=
  have sc := sc_gates_free
  DefOk.mk' F hm sc (fun _ _ _ _ _ _ us hl => match us, hl with | [_, _], _ => rfl) rfl rfl fun cdv A outer s H E hr =>
    (ss_one (ss_ret (se_tuple (by rfl) m.tuple (sb_ofF (sf_lc rfl sc.nd (sib_enum (by rfl) m.enumerate (sb_var 1 (pv 1))) (blkOk_by (N := N_gates_free) (sc := defScope s_gates_free) (own := [("index", 2), ("gate", 3)]) (by decide +kernel)) (fun _ _ _ _ _ => (sg_tup rfl (sgs_cons (sg_name (i := 2) sc.nd rfl (by first | exact .inl rfl | exact .inr rfl)) (sgs_cons (sg_name (i := 3) sc.nd rfl (by first | exact .inl rfl | exact .inr rfl)) sgs_nil)) (hl := (gCons_len (gCons_len gNil_len))))) (fun _ _ _ _ _ => (sts_one (st_tru (sb_of (se_call d_may_open (rm hr) (by rfl) (sa_cons (se_var 0 (pv 0)) (sa_cons (se_var 3 (pv 3)) sa_nil)) (hlen := (aCons_len (aCons_len aNil_len)))))))) (fun _ _ _ _ _ => (se_var 2 (pv 2))) (by decide))))))
/-! evened -/
abbrev s_evened : Stmt := top 14
abbrev N_evened : List Str := ["areas", "levels", "a", "b", "both"]
theorem sc_evened : FnScope N_evened ["areas", "levels", "a", "b"] (defScope s_evened) := ⟨rfl, rfl, rfl, by decide +kernel, rfl, by decide +kernel, by decide +kernel⟩
abbrev b_evened (fn_whole : List PV → Option PV) (fn_plus : List PV → Option PV) (fn_times : List PV → Option PV) (fn_parted : List PV → Option PV) : PSt := (sSeq (sIf (cOr (cB (e2 pEq (eB 2) (e1 pLen (eB 0)))) (cB (e2 pEq (eB 3) (e1 pLen (eB 0))))) (sRet (eCall fn_whole (aCons (eK (.int 0)) aNil))) sNil) (sSeq (sAsg (eCall fn_plus (aCons (eCall fn_times (aCons (e2 pIx (eB 1) (eB 2)) (aCons (eCall fn_whole (aCons (e2 pIx (eB 0) (eB 2)) aNil)) aNil))) (aCons (eCall fn_times (aCons (e2 pIx (eB 1) (eB 3)) (aCons (eCall fn_whole (aCons (e2 pIx (eB 0) (eB 3)) aNil)) aNil))) aNil))) (gN 4)) (sRet (eCall fn_parted (aCons (eV 4) (aCons (eCall fn_whole (aCons (e2 pPlus (e2 pIx (eB 0) (eB 2)) (e2 pIx (eB 0) (eB 3))) aNil)) aNil))))))
theorem ok_evened {P : Program} {w : World} {K : PySem.W.Frag} {mg : Str → Option Value} {base : Heap} {k : Nat} {f : Addr} {fd : FuncData} {fn_whole : List PV → Option PV} {fn_plus : List PV → Option PV} {fn_times : List PV → Option PV} {fn_parted : List PV → Option PV} (F : FunD K "evened" "evened" (defArgs s_evened) (defBody s_evened) (defScope s_evened) [] [] f fd) (hm : mg "evened" = some (.ref f)) (m : BF mg) (d_whole : DefOk P w K mg base k "whole" 1 fn_whole) (d_plus : DefOk P w K mg base k "plus" 2 fn_plus) (d_times : DefOk P w K mg base k "times" 2 fn_times) (d_parted : DefOk P w K mg base k "parted" 2 fn_parted) :
    DefOk P w K mg base (k + 1) "evened" 4 (fnDef 5 (b_evened fn_whole fn_plus fn_times fn_parted)) :=
  have sc := sc_evened
  DefOk.mk' F hm sc (fun _ _ _ _ _ _ us hl => match us, hl with | [_, _, _, _], _ => rfl) rfl rfl fun cdv A outer s H E hr =>
    (ss_cons (ss_if (st_w (sw_or (st_cmp (ck_eq hr.units) (sb_var 2 (pv 2)) (sb_of (se_len (by rfl) m.len (sb_var 0 (pv 0)))) (nomark _)) (sw_or1 (st_cmp (ck_eq hr.units) (sb_var 3 (pv 3)) (sb_of (se_len (by rfl) m.len (sb_var 0 (pv 0)))) (nomark _))))) (ss_one (ss_ret (se_call d_whole (rm hr) (by rfl) (sa_cons se_int sa_nil) (hlen := (aCons_len aNil_len))))) ss_nil) (ss_cons (ss_set (i := 4) sc.nd rfl (.inl rfl) (se_call d_plus (rm hr) (by rfl) (sa_cons (se_call d_times (rm hr) (by rfl) (sa_cons (se_ix (sb_var 1 (pv 1)) (sb_var 2 (pv 2)) (fun _ _ => rfl)) (sa_cons (se_call d_whole (rm hr) (by rfl) (sa_cons (se_ix (sb_var 0 (pv 0)) (sb_var 2 (pv 2)) (fun _ _ => rfl)) sa_nil) (hlen := (aCons_len aNil_len))) sa_nil)) (hlen := (aCons_len (aCons_len aNil_len)))) (sa_cons (se_call d_times (rm hr) (by rfl) (sa_cons (se_ix (sb_var 1 (pv 1)) (sb_var 3 (pv 3)) (fun _ _ => rfl)) (sa_cons (se_call d_whole (rm hr) (by rfl) (sa_cons (se_ix (sb_var 0 (pv 0)) (sb_var 3 (pv 3)) (fun _ _ => rfl)) sa_nil) (hlen := (aCons_len aNil_len))) sa_nil)) (hlen := (aCons_len (aCons_len aNil_len)))) sa_nil)) (hlen := (aCons_len (aCons_len aNil_len))))) (ss_one (ss_ret (se_call d_parted (rm hr) (by rfl) (sa_cons (se_var 4 (pv 4)) (sa_cons (se_call d_whole (rm hr) (by rfl) (sa_cons (se_plus (sb_of (se_ix (sb_var 0 (pv 0)) (sb_var 2 (pv 2)) (fun _ _ => rfl))) (sb_of (se_ix (sb_var 0 (pv 0)) (sb_var 3 (pv 3)) (fun _ _ => rfl)))) sa_nil) (hlen := (aCons_len aNil_len))) sa_nil)) (hlen := (aCons_len (aCons_len aNil_len))))))))
/-! level_steps -/
abbrev s_level_steps : Stmt := top 15
abbrev N_level_steps : List Str := ["areas", "levels", "deeds", "moved", "kind", "a", "b", "new", "side", "rise", "place"]
theorem sc_level_steps : FnScope N_level_steps ["areas", "levels", "deeds"] (defScope s_level_steps) := ⟨rfl, rfl, rfl, by decide +kernel, rfl, by decide +kernel, by decide +kernel⟩
abbrev b_level_steps (fn_evened : List PV → Option PV) (fn_plus : List PV → Option PV) (fn_size_of : List PV → Option PV) (fn_times : List PV → Option PV) (fn_whole : List PV → Option PV) (fn_summed : List PV → Option PV) : PSt := (sSeq (sPar [1, 3] (mOwn (e1 pList (eB 1)) (mOwn (eCall pLst aNil) mNil))) (sSeq (sFor (lSeq (eV 2)) (gT (gCons' (gN 4) (gCons' (gN 5) (gCons' (gN 6) gNil')))) (sSeq (sAsg (eCallB fn_evened (aCons (eB 0) (aCons (eB 1) (aCons (eB 5) (aCons (eB 6) aNil))))) (gN 7)) (sSeq (sAsg (eIf (cB (e2 pLt (eB 5) (e1 pLen (eB 0)))) (eV 5) (eV 6)) (gN 8)) (sSeq (sAsg (eCall fn_plus (aCons (eV 7) (aCons (eCall pTup (aCons (e1 pNeg (e2 pIx (e2 pIx (eB 1) (eB 8)) (eK (.int 0)))) (aCons (e2 pIx (e2 pIx (eB 1) (eB 8)) (eK (.int 1))) aNil))) aNil))) (gN 9)) (sSeq (sApp 3 (eCall fn_size_of (aCons (eCall fn_times (aCons (eV 9) (aCons (eCall fn_whole (aCons (e2 pIx (eB 0) (eB 8)) aNil)) aNil))) aNil))) (sFor (lSeq (eCall pTup (aCons (eV 5) (aCons (eV 6) aNil)))) (gN 10) (sIf (cB (e2 pLt (eB 10) (e1 pLen (eB 0)))) (sSetI 1 (eB 10) (eV 7)) sNil))))))) (sSeq (sFz 3) (sSeq (sRet (eCall pTup (aCons (e1 pTuple (eB 1)) (aCons (eCall fn_summed (aCons (eV 3) aNil)) aNil)))) sNil))))
theorem ok_level_steps {P : Program} {w : World} {K : PySem.W.Frag} {mg : Str → Option Value} {base : Heap} {k : Nat} {f : Addr} {fd : FuncData} {fn_evened : List PV → Option PV} {fn_plus : List PV → Option PV} {fn_size_of : List PV → Option PV} {fn_times : List PV → Option PV} {fn_whole : List PV → Option PV} {fn_summed : List PV → Option PV} (F : FunD K "level_steps" "level_steps" (defArgs s_level_steps) (defBody s_level_steps) (defScope s_level_steps) [] [] f fd) (hm : mg "level_steps" = some (.ref f)) (m : BF mg) (d_evened : DefOk P w K mg base k "evened" 4 fn_evened) (d_plus : DefOk P w K mg base k "plus" 2 fn_plus) (d_size_of : DefOk P w K mg base k "size_of" 1 fn_size_of) (d_times : DefOk P w K mg base k "times" 2 fn_times) (d_whole : DefOk P w K mg base k "whole" 1 fn_whole) (d_summed : DefOk P w K mg base k "summed" 1 fn_summed) :
    DefOk P w K mg base (k + 1) "level_steps" 3 (fnDef 11 (b_level_steps fn_evened fn_plus fn_size_of fn_times fn_whole fn_summed)) :=
  have sc := sc_level_steps
  DefOk.mk' F hm sc (fun _ _ _ _ _ _ us hl => match us, hl with | [_, _, _], _ => rfl) rfl rfl fun cdv A outer s H E hr =>
    (ss_cons (ss_par2 (i := 1) (j := 3) rfl sc.nd rfl rfl (by decide) rfl rfl (sm_own (sf_list (by rfl) m.list (sb_var 1 (pv 1))) (sm_own (sf_lst sa_nil) sm_nil)) (by rfl)) (ss_cons (ss_for PassesOwn.never rfl (si_seq (se_var 2 (pv 2))) (sg_tup rfl (sgs_cons (sg_name (i := 4) sc.nd rfl (by first | exact .inl rfl | exact .inr rfl)) (sgs_cons (sg_name (i := 5) sc.nd rfl (by first | exact .inl rfl | exact .inr rfl)) (sgs_cons (sg_name (i := 6) sc.nd rfl (by first | exact .inl rfl | exact .inr rfl)) sgs_nil))) (hl := (gCons_len (gCons_len (gCons_len gNil_len))))) (ss_cons (ss_set (i := 7) sc.nd rfl (.inl rfl) (se_callB d_evened (rm hr) (by rfl) (sab_cons (sb_var 0 (pv 0)) (sab_cons (sb_var 1 (pv 1)) (sab_cons (sb_var 5 (pv 5)) (sab_cons (sb_var 6 (pv 6)) sab_nil)))) (hlen := (aCons_len (aCons_len (aCons_len (aCons_len aNil_len))))))) (ss_cons (ss_set (i := 8) sc.nd rfl (.inl rfl) (se_if (st_cmp (ck_lt hr.units) (sb_var 5 (pv 5)) (sb_of (se_len (by rfl) m.len (sb_var 0 (pv 0)))) (nomark _)) (se_var 5 (pv 5)) (se_var 6 (pv 6)))) (ss_cons (ss_set (i := 9) sc.nd rfl (.inl rfl) (se_call d_plus (rm hr) (by rfl) (sa_cons (se_var 7 (pv 7)) (sa_cons (se_tup (sa_cons (se_neg (sb_of (se_ix (sb_of (se_ix (sb_var 1 (pv 1)) (sb_var 8 (pv 8)) (fun _ _ => rfl))) (sb_of se_int) (fun _ _ => rfl)))) (sa_cons (se_ix (sb_of (se_ix (sb_var 1 (pv 1)) (sb_var 8 (pv 8)) (fun _ _ => rfl))) (sb_of se_int) (fun _ _ => rfl)) sa_nil))) sa_nil)) (hlen := (aCons_len (aCons_len aNil_len))))) (ss_cons (ss_app (pv 3) (se_call d_size_of (rm hr) (by rfl) (sa_cons (se_call d_times (rm hr) (by rfl) (sa_cons (se_var 9 (pv 9)) (sa_cons (se_call d_whole (rm hr) (by rfl) (sa_cons (se_ix (sb_var 0 (pv 0)) (sb_var 8 (pv 8)) (fun _ _ => rfl)) sa_nil) (hlen := (aCons_len aNil_len))) sa_nil)) (hlen := (aCons_len (aCons_len aNil_len)))) sa_nil) (hlen := (aCons_len aNil_len)))) (ss_one (ss_for PassesOwn.never rfl (si_seq (se_tup (sa_cons (se_var 5 (pv 5)) (sa_cons (se_var 6 (pv 6)) sa_nil)))) (sg_name (i := 10) sc.nd rfl (by first | exact .inl rfl | exact .inr rfl)) (ss_one (ss_if (st_cmp (ck_lt hr.units) (sb_var 10 (pv 10)) (sb_of (se_len (by rfl) m.len (sb_var 0 (pv 0)))) (nomark _)) (ss_one (ss_setI (pv 1) (sb_var 10 (pv 10)) (se_var 7 (pv 7)))) ss_nil))))))))) (ss_fz 3 (ss_cons (ss_ret (se_tup (sa_cons (se_tuple (by rfl) m.tuple (sb_var 1 (pv 1))) (sa_cons (se_call d_summed (rm hr) (by rfl) (sa_cons (se_var 3 (pv 3)) sa_nil) (hlen := (aCons_len aNil_len))) sa_nil)))) ss_nil))))
/-! level_run -/
abbrev s_level_run : Stmt := top 16
abbrev N_level_run : List Str := ["areas", "levels", "deeds"]
theorem sc_level_run : FnScope N_level_run ["areas", "levels", "deeds"] (defScope s_level_run) := ⟨rfl, rfl, rfl, by decide +kernel, rfl, by decide +kernel, by decide +kernel⟩
abbrev b_level_run (fn_level_steps : List PV → Option PV) : PSt := (sRet (e2 pIx (eCall fn_level_steps (aCons (eV 0) (aCons (eV 1) (aCons (eV 2) aNil)))) (eK (.int 0))))
theorem ok_level_run {P : Program} {w : World} {K : PySem.W.Frag} {mg : Str → Option Value} {base : Heap} {k : Nat} {f : Addr} {fd : FuncData} {fn_level_steps : List PV → Option PV} (F : FunD K "level_run" "level_run" (defArgs s_level_run) (defBody s_level_run) (defScope s_level_run) [] [] f fd) (hm : mg "level_run" = some (.ref f)) (m : BF mg) (d_level_steps : DefOk P w K mg base k "level_steps" 3 fn_level_steps) :
    DefOk P w K mg base (k + 1) "level_run" 3 (fnDef 3 (b_level_run fn_level_steps)) :=
  have sc := sc_level_run
  DefOk.mk' F hm sc (fun _ _ _ _ _ _ us hl => match us, hl with | [_, _, _], _ => rfl) rfl rfl fun cdv A outer s H E hr =>
    (ss_one (ss_ret (se_ix (sb_of (se_call d_level_steps (rm hr) (by rfl) (sa_cons (se_var 0 (pv 0)) (sa_cons (se_var 1 (pv 1)) (sa_cons (se_var 2 (pv 2)) sa_nil))) (hlen := (aCons_len (aCons_len (aCons_len aNil_len)))))) (sb_of se_int) (fun _ _ => rfl))))
/-! water_moved -/
abbrev s_water_moved : Stmt := top 17
abbrev N_water_moved : List Str := ["areas", "levels", "deeds"]
theorem sc_water_moved : FnScope N_water_moved ["areas", "levels", "deeds"] (defScope s_water_moved) := ⟨rfl, rfl, rfl, by decide +kernel, rfl, by decide +kernel, by decide +kernel⟩
abbrev b_water_moved (fn_level_steps : List PV → Option PV) : PSt := (sRet (e2 pIx (eCall fn_level_steps (aCons (eV 0) (aCons (eV 1) (aCons (eV 2) aNil)))) (eK (.int 1))))
theorem ok_water_moved {P : Program} {w : World} {K : PySem.W.Frag} {mg : Str → Option Value} {base : Heap} {k : Nat} {f : Addr} {fd : FuncData} {fn_level_steps : List PV → Option PV} (F : FunD K "water_moved" "water_moved" (defArgs s_water_moved) (defBody s_water_moved) (defScope s_water_moved) [] [] f fd) (hm : mg "water_moved" = some (.ref f)) (m : BF mg) (d_level_steps : DefOk P w K mg base k "level_steps" 3 fn_level_steps) :
    DefOk P w K mg base (k + 1) "water_moved" 3 (fnDef 3 (b_water_moved fn_level_steps)) :=
  have sc := sc_water_moved
  DefOk.mk' F hm sc (fun _ _ _ _ _ _ us hl => match us, hl with | [_, _, _], _ => rfl) rfl rfl fun cdv A outer s H E hr =>
    (ss_one (ss_ret (se_ix (sb_of (se_call d_level_steps (rm hr) (by rfl) (sa_cons (se_var 0 (pv 0)) (sa_cons (se_var 1 (pv 1)) (sa_cons (se_var 2 (pv 2)) sa_nil))) (hlen := (aCons_len (aCons_len (aCons_len aNil_len)))))) (sb_of se_int) (fun _ _ => rfl))))
/-! _law_mixed -/
abbrev s__law_mixed : Stmt := top 19
abbrev N__law_mixed : List Str := ["script", "k", "cell", "first", "second", "third"]
theorem sc__law_mixed : FnScope N__law_mixed ["script", "k"] (defScope s__law_mixed) := ⟨rfl, rfl, rfl, by decide +kernel, rfl, by decide +kernel, by decide +kernel⟩
abbrev b__law_mixed : PSt := (sSeq (sAsg (eK (.int 0)) (gN 2)) (sSeq (sIf (cB (e2 pGt (e1 pLen (eB 0)) (eK (.int 0)))) (sAsg (e2 pIx (eB 0) (e2 pMod (eB 1) (e1 pLen (eB 0)))) (gN 2)) sNil) (sSeq (sAsg (e2 pMod (e1 pInt (e2 pPlus (e2 pPlus (e2 pMul (eB 2) (eK (.int 48271))) (e2 pMul (eB 1) (eK (.int 69621)))) (eK (.int 8191)))) (eK (.int 2147483647))) (gN 3)) (sSeq (sAsg (e2 pMod (e1 pInt (e2 pPlus (e2 pPlus (e2 pMul (eB 3) (eB 3)) (e2 pDiv (eB 3) (eK (.int 7)))) (e2 pMul (eB 1) (eK (.int 16807))))) (eK (.int 2147483629))) (gN 4)) (sSeq (sAsg (e2 pMod (e1 pInt (e2 pPlus (e2 pPlus (e2 pMul (eB 4) (eB 4)) (e2 pDiv (eB 4) (eK (.int 11)))) (eK (.int 40692)))) (eK (.int 2147483563))) (gN 5)) (sRet (e2 pMod (e2 pDiv (eB 5) (eK (.int 5))) (eK (.int 1000003)))))))))
theorem ok__law_mixed {P : Program} {w : World} {K : PySem.W.Frag} {mg : Str → Option Value} {base : Heap} {k : Nat} {f : Addr} {fd : FuncData} (F : FunD K "_law_mixed" "_law_mixed" (defArgs s__law_mixed) (defBody s__law_mixed) (defScope s__law_mixed) [] [] f fd) (hm : mg "_law_mixed" = some (.ref f)) (m : BF mg) :
    DefOk P w K mg base (k + 1) "_law_mixed" 2 (fnDef 6 (b__law_mixed)) :=
  have sc := sc__law_mixed
  DefOk.mk' F hm sc (fun _ _ _ _ _ _ us hl => match us, hl with | [_, _], _ => rfl) rfl rfl fun cdv A outer s H E hr =>
    (ss_cons (ss_set (i := 2) sc.nd rfl (.inl rfl) se_int) (ss_cons (ss_if (st_cmp (ck_gt hr.units) (sb_of (se_len (by rfl) m.len (sb_var 0 (pv 0)))) (sb_of se_int) (nomark _)) (ss_one (ss_set (i := 2) sc.nd rfl (.inl rfl) (se_ix (sb_var 0 (pv 0)) (sb_of (se_mod (sb_var 1 (pv 1)) (sb_of (se_len (by rfl) m.len (sb_var 0 (pv 0)))))) (fun _ _ => rfl)))) ss_nil) (ss_cons (ss_set (i := 3) sc.nd rfl (.inl rfl) (se_mod (sb_of (se_intc (by rfl) m.int (sb_of (se_plus (sb_of (se_plus (sb_of (se_mul (sb_var 2 (pv 2)) (sb_of se_int))) (sb_of (se_mul (sb_var 1 (pv 1)) (sb_of se_int))))) (sb_of se_int))))) (sb_of se_int))) (ss_cons (ss_set (i := 4) sc.nd rfl (.inl rfl) (se_mod (sb_of (se_intc (by rfl) m.int (sb_of (se_plus (sb_of (se_plus (sb_of (se_mul (sb_var 3 (pv 3)) (sb_var 3 (pv 3)))) (sb_of (se_div (sb_var 3 (pv 3)) (sb_of se_int))))) (sb_of (se_mul (sb_var 1 (pv 1)) (sb_of se_int))))))) (sb_of se_int))) (ss_cons (ss_set (i := 5) sc.nd rfl (.inl rfl) (se_mod (sb_of (se_intc (by rfl) m.int (sb_of (se_plus (sb_of (se_plus (sb_of (se_mul (sb_var 4 (pv 4)) (sb_var 4 (pv 4)))) (sb_of (se_div (sb_var 4 (pv 4)) (sb_of se_int))))) (sb_of se_int))))) (sb_of se_int))) (ss_one (ss_ret (se_mod (sb_of (se_div (sb_var 5 (pv 5)) (sb_of se_int))) (sb_of se_int)))))))))
/-! _law_row -/
abbrev s__law_row : Stmt := top 20
abbrev N__law_row : List Str := ["script", "many", "big", "row", "k"]
theorem sc__law_row : FnScope N__law_row ["script", "many"] (defScope s__law_row) := ⟨rfl, rfl, rfl, by decide +kernel, rfl, by decide +kernel, by decide +kernel⟩
abbrev b__law_row (fn__law_mixed : List PV → Option PV) : PSt := (sSeq (sAsg (eK (.int 0)) (gN 2)) (sSeq (sIf (cAnd (cB (e2 pGt (e1 pLen (eB 0)) (eK (.int 0)))) (cB (e2 pGe (e2 pIx (eB 0) (eK (.int 0))) (e2 pPow (eK (.int 10)) (eK (.int 18)))))) (sAsg (e2 pIx (eB 0) (eK (.int 0))) (gN 2)) sNil) (sSeq (sOwn 3 (eCall pLst aNil)) (sSeq (sFor (lRng1 (eB 1)) (gN 4) (sIf (cB (e2 pGt (eB 2) (eK (.int 0)))) (sSeq (sApp 3 (e2 pMod (e1 pInt (eB 2)) (eK (.int 1000)))) (sAsg (e2 pDiv (eB 2) (eK (.int 1000))) (gN 2))) (sApp 3 (eCall fn__law_mixed (aCons (eV 0) (aCons (eV 4) aNil)))))) (sSeq (sFz 3) (sSeq (sRet (eV 3)) sNil))))))
theorem ok__law_row {P : Program} {w : World} {K : PySem.W.Frag} {mg : Str → Option Value} {base : Heap} {k : Nat} {f : Addr} {fd : FuncData} {fn__law_mixed : List PV → Option PV} (F : FunD K "_law_row" "_law_row" (defArgs s__law_row) (defBody s__law_row) (defScope s__law_row) [] [] f fd) (hm : mg "_law_row" = some (.ref f)) (m : BF mg) (d__law_mixed : DefOk P w K mg base k "_law_mixed" 2 fn__law_mixed) :
    DefOk P w K mg base (k + 1) "_law_row" 2 (fnDef 5 (b__law_row fn__law_mixed)) :=
  have sc := sc__law_row
  DefOk.mk' F hm sc (fun _ _ _ _ _ _ us hl => match us, hl with | [_, _], _ => rfl) rfl rfl fun cdv A outer s H E hr =>
    (ss_cons (ss_set (i := 2) sc.nd rfl (.inl rfl) se_int) (ss_cons (ss_if (st_w (sw_and (st_cmp (ck_gt hr.units) (sb_of (se_len (by rfl) m.len (sb_var 0 (pv 0)))) (sb_of se_int) (nomark _)) (sw_and1 (st_cmp (ck_ge hr.units) (sb_of (se_ix (sb_var 0 (pv 0)) (sb_of se_int) (fun _ _ => rfl))) (sb_of (se_pow (sb_of se_int) (sb_of se_int))) (nomark _))))) (ss_one (ss_set (i := 2) sc.nd rfl (.inl rfl) (se_ix (sb_var 0 (pv 0)) (sb_of se_int) (fun _ _ => rfl)))) ss_nil) (ss_cons (ss_own (i := 3) sc.nd rfl (.inl rfl) (sf_lst sa_nil)) (ss_cons (ss_for PassesOwn.never rfl (si_rng1 (by rfl) m.range (sb_var 1 (pv 1))) (sg_name (i := 4) sc.nd rfl (by first | exact .inl rfl | exact .inr rfl)) (ss_one (ss_if (st_cmp (ck_gt hr.units) (sb_var 2 (pv 2)) (sb_of se_int) (nomark _)) (ss_cons (ss_app (pv 3) (se_mod (sb_of (se_intc (by rfl) m.int (sb_var 2 (pv 2)))) (sb_of se_int))) (ss_one (ss_set (i := 2) sc.nd rfl (.inl rfl) (se_div (sb_var 2 (pv 2)) (sb_of se_int))))) (ss_one (ss_app (pv 3) (se_call d__law_mixed (rm hr) (by rfl) (sa_cons (se_var 0 (pv 0)) (sa_cons (se_var 4 (pv 4)) sa_nil)) (hlen := (aCons_len (aCons_len aNil_len))))))))) (ss_fz 3 (ss_cons (ss_ret (se_var 3 (pv 3))) ss_nil))))))
/-! _law_is_int -/
abbrev s__law_is_int : Stmt := top 21
abbrev N__law_is_int : List Str := ["value"]
theorem sc__law_is_int : FnScope N__law_is_int ["value"] (defScope s__law_is_int) := ⟨rfl, rfl, rfl, by decide +kernel, rfl, by decide +kernel, by decide +kernel⟩
abbrev b__law_is_int : PSt := (sRet (eAnd (e1 (pIsi "int") (eB 0)) (eNot (e1 (pIsi "bool") (eB 0)))))
theorem ok__law_is_int {P : Program} {w : World} {K : PySem.W.Frag} {mg : Str → Option Value} {base : Heap} {k : Nat} {f : Addr} {fd : FuncData} (F : FunD K "_law_is_int" "_law_is_int" (defArgs s__law_is_int) (defBody s__law_is_int) (defScope s__law_is_int) [] [] f fd) (hm : mg "_law_is_int" = some (.ref f)) (m : BF mg) :
    DefOk P w K mg base (k + 1) "_law_is_int" 1 (fnDef 1 (b__law_is_int)) :=
  have sc := sc__law_is_int
  DefOk.mk' F hm sc (fun _ _ _ _ _ _ us hl => match us, hl with | [_], _ => rfl) rfl rfl fun cdv A outer s H E hr =>
    (ss_one (ss_ret (se_and (se_isi (by rfl) m.isinstance (sb_var 0 (pv 0)) (pe_bltn (by rfl) m.int boot_int' rfl)) (se_one (se_not (se_isi (by rfl) m.isinstance (sb_var 0 (pv 0)) (pe_bltn (by rfl) m.bool boot_bool' rfl)))))))
/-! _law_like -/
abbrev s__law_like : Stmt := top 22
abbrev N__law_like : List Str := ["value", "due", "k"]
theorem sc__law_like : FnScope N__law_like ["value", "due"] (defScope s__law_like) := ⟨rfl, rfl, rfl, by decide +kernel, rfl, by decide +kernel, by decide +kernel⟩
abbrev b__law_like (fn__law_like : List PV → Option PV) (fn__law_is_int : List PV → Option PV) : PSt := (sSeq (sIf (cB (e1 pIsN (eB 1))) (sRet (e1 pIsN (eB 0))) sNil) (sSeq (sIf (cTru (e1 (pIsi "bool") (eB 1))) (sRet (eAnd (e1 (pIsi "bool") (eB 0)) (e2 pEq (eB 0) (eB 1)))) sNil) (sSeq (sIf (cTru (e1 (pIsi "tuple") (eB 1))) (sSeq (sIf (cOr (cNot (cTru (e1 (pIsi "tuple") (eB 0)))) (cB (e2 pNe (e1 pLen (eB 0)) (e1 pLen (eB 1))))) (sRet (eK (.bool false))) sNil) (sRet (e1 pAll (eComp (lRng1 (e1 pLen (eB 1))) [2] (gN 2) cYes (eCall fn__law_like (aCons (e2 pIx (eB 0) (eB 2)) (aCons (e2 pIx (eB 1) (eB 2)) aNil))))))) sNil) (sSeq (sIf (cTru (e1 (pIsi "str") (eB 1))) (sRet (eAnd (e1 (pIsi "str") (eB 0)) (e2 pEq (eB 0) (eB 1)))) sNil) (sRet (eAnd (eCall fn__law_is_int (aCons (eV 0) aNil)) (e2 pEq (eB 0) (eB 1))))))))
theorem ok__law_like {P : Program} {w : World} {K : PySem.W.Frag} {mg : Str → Option Value} {base : Heap} {k : Nat} {f : Addr} {fd : FuncData} {fn__law_like : List PV → Option PV} {fn__law_is_int : List PV → Option PV} (F : FunD K "_law_like" "_law_like" (defArgs s__law_like) (defBody s__law_like) (defScope s__law_like) [] [] f fd) (hm : mg "_law_like" = some (.ref f)) (m : BF mg) (d__law_like : DefOk P w K mg base k "_law_like" 2 fn__law_like) (d__law_is_int : DefOk P w K mg base k "_law_is_int" 1 fn__law_is_int) :
    DefOk P w K mg base (k + 1) "_law_like" 2 (fnDef 3 (b__law_like fn__law_like fn__law_is_int)) :=
  have sc := sc__law_like
  DefOk.mk' F hm sc (fun _ _ _ _ _ _ us hl => match us, hl with | [_, _], _ => rfl) rfl rfl fun cdv A outer s H E hr =>
    (ss_cons (ss_if (st_isN (sb_var 1 (pv 1))) (ss_one (ss_ret (se_isN (sb_var 0 (pv 0))))) ss_nil) (ss_cons (ss_if (st_tru (sb_of (se_isi (by rfl) m.isinstance (sb_var 1 (pv 1)) (pe_bltn (by rfl) m.bool boot_bool' rfl)))) (ss_one (ss_ret (se_and (se_isi (by rfl) m.isinstance (sb_var 0 (pv 0)) (pe_bltn (by rfl) m.bool boot_bool' rfl)) (se_one (se_cmp (ck_eq hr.units) (sb_var 0 (pv 0)) (sb_var 1 (pv 1)) (nomark _)))))) ss_nil) (ss_cons (ss_if (st_tru (sb_of (se_isi (by rfl) m.isinstance (sb_var 1 (pv 1)) (pe_bltn (by rfl) m.tuple boot_tuple' rfl)))) (ss_cons (ss_if (st_w (sw_or (st_not (st_tru (sb_of (se_isi (by rfl) m.isinstance (sb_var 0 (pv 0)) (pe_bltn (by rfl) m.tuple boot_tuple' rfl))))) (sw_or1 (st_cmp (ck_ne hr.units) (sb_of (se_len (by rfl) m.len (sb_var 0 (pv 0)))) (sb_of (se_len (by rfl) m.len (sb_var 1 (pv 1)))) (nomark _))))) (ss_one (ss_ret se_bl)) ss_nil) (ss_one (ss_ret (se_all rfl (by rfl) m.all (sb_ofF (sf_lc rfl sc.nd (sib_of (si_rng1 (by rfl) m.range (sb_of (se_len (by rfl) m.len (sb_var 1 (pv 1)))))) (blkOk_by (N := N__law_like) (sc := defScope s__law_like) (own := [("k", 2)]) (by decide +kernel)) (fun _ _ _ _ _ => (sg_name (i := 2) sc.nd rfl (by first | exact .inl rfl | exact .inr rfl))) (fun _ _ _ _ _ => sts_nil) (fun _ _ _ _ _ => (se_call d__law_like (rm hr) (by rfl) (sa_cons (se_ix (sb_var 0 (pv 0)) (sb_var 2 (pv 2)) (fun _ _ => rfl)) (sa_cons (se_ix (sb_var 1 (pv 1)) (sb_var 2 (pv 2)) (fun _ _ => rfl)) sa_nil)) (hlen := (aCons_len (aCons_len aNil_len))))) (by decide))))))) ss_nil) (ss_cons (ss_if (st_tru (sb_of (se_isi (by rfl) m.isinstance (sb_var 1 (pv 1)) (pe_bltn (by rfl) m.str boot_str' rfl)))) (ss_one (ss_ret (se_and (se_isi (by rfl) m.isinstance (sb_var 0 (pv 0)) (pe_bltn (by rfl) m.str boot_str' rfl)) (se_one (se_cmp (ck_eq hr.units) (sb_var 0 (pv 0)) (sb_var 1 (pv 1)) (nomark _)))))) ss_nil) (ss_one (ss_ret (se_and (se_call d__law_is_int (rm hr) (by rfl) (sa_cons (se_var 0 (pv 0)) sa_nil) (hlen := (aCons_len aNil_len))) (se_one (se_cmp (ck_eq hr.units) (sb_var 0 (pv 0)) (sb_var 1 (pv 1)) (nomark _))))))))))
/-! _law_low -/
abbrev s__law_low : Stmt := top 23
abbrev N__law_low : List Str := ["a", "b", "one", "other"]
theorem sc__law_low : FnScope N__law_low ["a", "b"] (defScope s__law_low) := ⟨rfl, rfl, rfl, by decide +kernel, rfl, by decide +kernel, by decide +kernel⟩
abbrev b__law_low : PSt := (sSeq (sPar [2, 3] (mVal (e1 pAbs (eB 0)) (mVal (e1 pAbs (eB 1)) mNil))) (sSeq (sWhile wfuel (cB (e2 pGt (eB 3) (eK (.int 0)))) (sPar [2, 3] (mVal (eV 3) (mVal (e2 pMod (e1 pInt (eB 2)) (eB 3)) mNil)))) (sSeq (sIf (cB (e2 pLt (eB 1) (eK (.int 0)))) (sAsg (e2 pSub (eK (.int 0)) (eB 2)) (gN 2)) sNil) (sRet (eCall pTup (aCons (e2 pDiv (eB 0) (eB 2)) (aCons (e2 pDiv (eB 1) (eB 2)) aNil)))))))
theorem ok__law_low {P : Program} {w : World} {K : PySem.W.Frag} {mg : Str → Option Value} {base : Heap} {k : Nat} {f : Addr} {fd : FuncData} (F : FunD K "_law_low" "_law_low" (defArgs s__law_low) (defBody s__law_low) (defScope s__law_low) [] [] f fd) (hm : mg "_law_low" = some (.ref f)) (m : BF mg) :
    DefOk P w K mg base (k + 1) "_law_low" 2 (fnDef 4 (b__law_low)) :=
  have sc := sc__law_low
  DefOk.mk' F hm sc (fun _ _ _ _ _ _ us hl => match us, hl with | [_, _], _ => rfl) rfl rfl fun cdv A outer s H E hr =>
    (ss_cons (ss_par2 (i := 2) (j := 3) rfl sc.nd rfl rfl (by decide) rfl rfl (sm_val (se_abs (by rfl) m.abs (sb_var 0 (pv 0))) (sm_val (se_abs (by rfl) m.abs (sb_var 1 (pv 1))) sm_nil)) (by rfl)) (ss_cons (ss_while wfuel PassesOwn.never (st_cmp (ck_gt hr.units) (sb_var 3 (pv 3)) (sb_of se_int) (nomark _)) (ss_one (ss_par2 (i := 2) (j := 3) rfl sc.nd rfl rfl (by decide) rfl rfl (sm_val (se_var 3 (pv 3)) (sm_val (se_mod (sb_of (se_intc (by rfl) m.int (sb_var 2 (pv 2)))) (sb_var 3 (pv 3))) sm_nil)) (by rfl)))) (ss_cons (ss_if (st_cmp (ck_lt hr.units) (sb_var 1 (pv 1)) (sb_of se_int) (nomark _)) (ss_one (ss_set (i := 2) sc.nd rfl (.inl rfl) (se_sub (sb_of se_int) (sb_var 2 (pv 2))))) ss_nil) (ss_one (ss_ret (se_tup (sa_cons (se_div (sb_var 0 (pv 0)) (sb_var 2 (pv 2))) (sa_cons (se_div (sb_var 1 (pv 1)) (sb_var 2 (pv 2))) sa_nil))))))))
/-! _law_sum -/
abbrev s__law_sum : Stmt := top 24
abbrev N__law_sum : List Str := ["one", "other"]
theorem sc__law_sum : FnScope N__law_sum ["one", "other"] (defScope s__law_sum) := ⟨rfl, rfl, rfl, by decide +kernel, rfl, by decide +kernel, by decide +kernel⟩
abbrev b__law_sum (fn__law_low : List PV → Option PV) : PSt := (sRet (eCall fn__law_low (aCons (e2 pPlus (e2 pMul (e2 pIx (eB 0) (eK (.int 0))) (e2 pIx (eB 1) (eK (.int 1)))) (e2 pMul (e2 pIx (eB 1) (eK (.int 0))) (e2 pIx (eB 0) (eK (.int 1))))) (aCons (e2 pMul (e2 pIx (eB 0) (eK (.int 1))) (e2 pIx (eB 1) (eK (.int 1)))) aNil))))
theorem ok__law_sum {P : Program} {w : World} {K : PySem.W.Frag} {mg : Str → Option Value} {base : Heap} {k : Nat} {f : Addr} {fd : FuncData} {fn__law_low : List PV → Option PV} (F : FunD K "_law_sum" "_law_sum" (defArgs s__law_sum) (defBody s__law_sum) (defScope s__law_sum) [] [] f fd) (hm : mg "_law_sum" = some (.ref f)) (m : BF mg) (d__law_low : DefOk P w K mg base k "_law_low" 2 fn__law_low) :
    DefOk P w K mg base (k + 1) "_law_sum" 2 (fnDef 2 (b__law_sum fn__law_low)) :=
  have sc := sc__law_sum
  DefOk.mk' F hm sc (fun _ _ _ _ _ _ us hl => match us, hl with | [_, _], _ => rfl) rfl rfl fun cdv A outer s H E hr =>
    (ss_one (ss_ret (se_call d__law_low (rm hr) (by rfl) (sa_cons (se_plus (sb_of (se_mul (sb_of (se_ix (sb_var 0 (pv 0)) (sb_of se_int) (fun _ _ => rfl))) (sb_of (se_ix (sb_var 1 (pv 1)) (sb_of se_int) (fun _ _ => rfl))))) (sb_of (se_mul (sb_of (se_ix (sb_var 1 (pv 1)) (sb_of se_int) (fun _ _ => rfl))) (sb_of (se_ix (sb_var 0 (pv 0)) (sb_of se_int) (fun _ _ => rfl)))))) (sa_cons (se_mul (sb_of (se_ix (sb_var 0 (pv 0)) (sb_of se_int) (fun _ _ => rfl))) (sb_of (se_ix (sb_var 1 (pv 1)) (sb_of se_int) (fun _ _ => rfl)))) sa_nil)) (hlen := (aCons_len (aCons_len aNil_len))))))
/-! _law_times -/
abbrev s__law_times : Stmt := top 25
abbrev N__law_times : List Str := ["one", "other"]
theorem sc__law_times : FnScope N__law_times ["one", "other"] (defScope s__law_times) := ⟨rfl, rfl, rfl, by decide +kernel, rfl, by decide +kernel, by decide +kernel⟩
abbrev b__law_times (fn__law_low : List PV → Option PV) : PSt := (sRet (eCall fn__law_low (aCons (e2 pMul (e2 pIx (eB 0) (eK (.int 0))) (e2 pIx (eB 1) (eK (.int 0)))) (aCons (e2 pMul (e2 pIx (eB 0) (eK (.int 1))) (e2 pIx (eB 1) (eK (.int 1)))) aNil))))
theorem ok__law_times {P : Program} {w : World} {K : PySem.W.Frag} {mg : Str → Option Value} {base : Heap} {k : Nat} {f : Addr} {fd : FuncData} {fn__law_low : List PV → Option PV} (F : FunD K "_law_times" "_law_times" (defArgs s__law_times) (defBody s__law_times) (defScope s__law_times) [] [] f fd) (hm : mg "_law_times" = some (.ref f)) (m : BF mg) (d__law_low : DefOk P w K mg base k "_law_low" 2 fn__law_low) :
    DefOk P w K mg base (k + 1) "_law_times" 2 (fnDef 2 (b__law_times fn__law_low)) :=
  have sc := sc__law_times
  DefOk.mk' F hm sc (fun _ _ _ _ _ _ us hl => match us, hl with | [_, _], _ => rfl) rfl rfl fun cdv A outer s H E hr =>
    (ss_one (ss_ret (se_call d__law_low (rm hr) (by rfl) (sa_cons (se_mul (sb_of (se_ix (sb_var 0 (pv 0)) (sb_of se_int) (fun _ _ => rfl))) (sb_of (se_ix (sb_var 1 (pv 1)) (sb_of se_int) (fun _ _ => rfl)))) (sa_cons (se_mul (sb_of (se_ix (sb_var 0 (pv 0)) (sb_of se_int) (fun _ _ => rfl))) (sb_of (se_ix (sb_var 1 (pv 1)) (sb_of se_int) (fun _ _ => rfl)))) sa_nil)) (hlen := (aCons_len (aCons_len aNil_len))))))
/-! _law_level -/
abbrev s__law_level : Stmt := top 26
abbrev N__law_level : List Str := ["levels", "place"]
theorem sc__law_level : FnScope N__law_level ["levels", "place"] (defScope s__law_level) := ⟨rfl, rfl, rfl, by decide +kernel, rfl, by decide +kernel, by decide +kernel⟩
abbrev b__law_level : PSt := (sRet (e2 pIx (e2 pPlus (eB 0) (eCall pTup (aCons (eCall pTup (aCons (eK (.int 0)) (aCons (eK (.int 1)) aNil))) aNil))) (eB 1)))
theorem ok__law_level {P : Program} {w : World} {K : PySem.W.Frag} {mg : Str → Option Value} {base : Heap} {k : Nat} {f : Addr} {fd : FuncData} (F : FunD K "_law_level" "_law_level" (defArgs s__law_level) (defBody s__law_level) (defScope s__law_level) [] [] f fd) (hm : mg "_law_level" = some (.ref f)) (m : BF mg) :
    DefOk P w K mg base (k + 1) "_law_level" 2 (fnDef 2 (b__law_level)) :=
  have sc := sc__law_level
  DefOk.mk' F hm sc (fun _ _ _ _ _ _ us hl => match us, hl with | [_, _], _ => rfl) rfl rfl fun cdv A outer s H E hr =>
    (ss_one (ss_ret (se_ix (sb_of (se_plus (sb_var 0 (pv 0)) (sb_of (se_tup (sa_cons (se_tup (sa_cons se_int (sa_cons se_int sa_nil))) sa_nil))))) (sb_var 1 (pv 1)) (fun _ _ => rfl))))
/-! _law_joined -/
abbrev s__law_joined : Stmt := top 27
abbrev N__law_joined : List Str := ["areas", "levels", "deed", "n", "a", "b", "new", "both", "place", "rise", "moved", "k"]
theorem sc__law_joined : FnScope N__law_joined ["areas", "levels", "deed"] (defScope s__law_joined) := ⟨rfl, rfl, rfl, by decide +kernel, rfl, by decide +kernel, by decide +kernel⟩
abbrev b__law_joined (fn__law_sum : List PV → Option PV) (fn__law_times : List PV → Option PV) : PSt := (sSeq (sAsg (eCall pTup (aCons (e1 pLen (eB 0)) (aCons (eV 2) aNil))) (gT (gCons' (gN 3) (gCons' (gT (gCons' (gN 4) (gCons' (gN 5) gNil'))) gNil')))) (sSeq (sIf (cB (e2 pIn (eB 3) (eCall pTup (aCons (eV 4) (aCons (eV 5) aNil))))) (sAsg (eCall pTup (aCons (eK (.int 0)) (aCons (eK (.int 1)) aNil))) (gN 6)) (sSeq (sAsg (eCall fn__law_sum (aCons (eCall fn__law_times (aCons (e2 pIx (eB 1) (eB 4)) (aCons (eCall pTup (aCons (e2 pIx (eB 0) (eB 4)) (aCons (eK (.int 1)) aNil))) aNil))) (aCons (eCall fn__law_times (aCons (e2 pIx (eB 1) (eB 5)) (aCons (eCall pTup (aCons (e2 pIx (eB 0) (eB 5)) (aCons (eK (.int 1)) aNil))) aNil))) aNil))) (gN 7)) (sAsg (eCall fn__law_times (aCons (eV 7) (aCons (eCall pTup (aCons (eK (.int 1)) (aCons (e2 pPlus (e2 pIx (eB 0) (eB 4)) (e2 pIx (eB 0) (eB 5))) aNil))) aNil))) (gN 6)))) (sSeq (sAsg (e2 pMin2 (eB 4) (eB 5)) (gN 8)) (sSeq (sAsg (eCall fn__law_sum (aCons (eV 6) (aCons (eCall pTup (aCons (e2 pSub (eK (.int 0)) (e2 pIx (e2 pIx (eB 1) (eB 8)) (eK (.int 0)))) (aCons (e2 pIx (e2 pIx (eB 1) (eB 8)) (eK (.int 1))) aNil))) aNil))) (gN 9)) (sSeq (sAsg (eCall fn__law_times (aCons (eCall pTup (aCons (e1 pAbs (e2 pIx (eB 9) (eK (.int 0)))) (aCons (e2 pIx (eB 9) (eK (.int 1))) aNil))) (aCons (eCall pTup (aCons (e2 pIx (eB 0) (eB 8)) (aCons (eK (.int 1)) aNil))) aNil))) (gN 10)) (sRet (eCall pTup (aCons (e1 pTuple (eComp (lRng1 (eB 3)) [11] (gN 11) cYes (e2 pIx (eCall pTup (aCons (e2 pIx (eB 1) (eB 11)) (aCons (eV 6) aNil))) (e1 pInt (e2 pIn (eB 11) (eCall pTup (aCons (eV 4) (aCons (eV 5) aNil)))))))) (aCons (eV 10) aNil)))))))))
theorem ok__law_joined {P : Program} {w : World} {K : PySem.W.Frag} {mg : Str → Option Value} {base : Heap} {k : Nat} {f : Addr} {fd : FuncData} {fn__law_sum : List PV → Option PV} {fn__law_times : List PV → Option PV} (F : FunD K "_law_joined" "_law_joined" (defArgs s__law_joined) (defBody s__law_joined) (defScope s__law_joined) [] [] f fd) (hm : mg "_law_joined" = some (.ref f)) (m : BF mg) (d__law_sum : DefOk P w K mg base k "_law_sum" 2 fn__law_sum) (d__law_times : DefOk P w K mg base k "_law_times" 2 fn__law_times) :
    DefOk P w K mg base (k + 1) "_law_joined" 3 (fnDef 12 (b__law_joined fn__law_sum fn__law_times)) :=
  have sc := sc__law_joined
  DefOk.mk' F hm sc (fun _ _ _ _ _ _ us hl => match us, hl with | [_, _, _], _ => rfl) rfl rfl fun cdv A outer s H E hr =>
    (ss_cons (ss_asg (se_tup (sa_cons (se_len (by rfl) m.len (sb_var 0 (pv 0))) (sa_cons (se_var 2 (pv 2)) sa_nil))) (sg_tup rfl (sgs_cons (sg_name (i := 3) sc.nd rfl (by first | exact .inl rfl | exact .inr rfl)) (sgs_cons (sg_tup rfl (sgs_cons (sg_name (i := 4) sc.nd rfl (by first | exact .inl rfl | exact .inr rfl)) (sgs_cons (sg_name (i := 5) sc.nd rfl (by first | exact .inl rfl | exact .inr rfl)) sgs_nil)) (hl := (gCons_len (gCons_len gNil_len)))) sgs_nil)) (hl := (gCons_len (gCons_len gNil_len))))) (ss_cons (ss_if (st_cmp (ck_in (u65 hr)) (sb_var 3 (pv 3)) (sb_of (se_tup (sa_cons (se_var 4 (pv 4)) (sa_cons (se_var 5 (pv 5)) sa_nil)))) (by with_unfolding_all rfl)) (ss_one (ss_set (i := 6) sc.nd rfl (.inr rfl) (se_tup (sa_cons se_int (sa_cons se_int sa_nil))))) (ss_cons (ss_set (i := 7) sc.nd rfl (.inl rfl) (se_call d__law_sum (rm hr) (by rfl) (sa_cons (se_call d__law_times (rm hr) (by rfl) (sa_cons (se_ix (sb_var 1 (pv 1)) (sb_var 4 (pv 4)) (fun _ _ => rfl)) (sa_cons (se_tup (sa_cons (se_ix (sb_var 0 (pv 0)) (sb_var 4 (pv 4)) (fun _ _ => rfl)) (sa_cons se_int sa_nil))) sa_nil)) (hlen := (aCons_len (aCons_len aNil_len)))) (sa_cons (se_call d__law_times (rm hr) (by rfl) (sa_cons (se_ix (sb_var 1 (pv 1)) (sb_var 5 (pv 5)) (fun _ _ => rfl)) (sa_cons (se_tup (sa_cons (se_ix (sb_var 0 (pv 0)) (sb_var 5 (pv 5)) (fun _ _ => rfl)) (sa_cons se_int sa_nil))) sa_nil)) (hlen := (aCons_len (aCons_len aNil_len)))) sa_nil)) (hlen := (aCons_len (aCons_len aNil_len))))) (ss_one (ss_set (i := 6) sc.nd rfl (.inr rfl) (se_call d__law_times (rm hr) (by rfl) (sa_cons (se_var 7 (pv 7)) (sa_cons (se_tup (sa_cons se_int (sa_cons (se_plus (sb_of (se_ix (sb_var 0 (pv 0)) (sb_var 4 (pv 4)) (fun _ _ => rfl))) (sb_of (se_ix (sb_var 0 (pv 0)) (sb_var 5 (pv 5)) (fun _ _ => rfl)))) sa_nil))) sa_nil)) (hlen := (aCons_len (aCons_len aNil_len)))))))) (ss_cons (ss_set (i := 8) sc.nd rfl (.inl rfl) (se_min2 rfl (by rfl) m.min (sb_var 4 (pv 4)) (sb_var 5 (pv 5)))) (ss_cons (ss_set (i := 9) sc.nd rfl (.inl rfl) (se_call d__law_sum (rm hr) (by rfl) (sa_cons (se_var 6 (pv 6)) (sa_cons (se_tup (sa_cons (se_sub (sb_of se_int) (sb_of (se_ix (sb_of (se_ix (sb_var 1 (pv 1)) (sb_var 8 (pv 8)) (fun _ _ => rfl))) (sb_of se_int) (fun _ _ => rfl)))) (sa_cons (se_ix (sb_of (se_ix (sb_var 1 (pv 1)) (sb_var 8 (pv 8)) (fun _ _ => rfl))) (sb_of se_int) (fun _ _ => rfl)) sa_nil))) sa_nil)) (hlen := (aCons_len (aCons_len aNil_len))))) (ss_cons (ss_set (i := 10) sc.nd rfl (.inl rfl) (se_call d__law_times (rm hr) (by rfl) (sa_cons (se_tup (sa_cons (se_abs (by rfl) m.abs (sb_of (se_ix (sb_var 9 (pv 9)) (sb_of se_int) (fun _ _ => rfl)))) (sa_cons (se_ix (sb_var 9 (pv 9)) (sb_of se_int) (fun _ _ => rfl)) sa_nil))) (sa_cons (se_tup (sa_cons (se_ix (sb_var 0 (pv 0)) (sb_var 8 (pv 8)) (fun _ _ => rfl)) (sa_cons se_int sa_nil))) sa_nil)) (hlen := (aCons_len (aCons_len aNil_len))))) (ss_one (ss_ret (se_tup (sa_cons (se_tuple (by rfl) m.tuple (sb_ofF (sf_lc rfl sc.nd (sib_of (si_rng1 (by rfl) m.range (sb_var 3 (pv 3)))) (blkOk_by (N := N__law_joined) (sc := defScope s__law_joined) (own := [("k", 11)]) (by decide +kernel)) (fun _ _ _ _ _ => (sg_name (i := 11) sc.nd rfl (by first | exact .inl rfl | exact .inr rfl))) (fun _ _ _ _ _ => sts_nil) (fun _ _ _ _ _ => (se_ix (sb_of (se_tup (sa_cons (se_ix (sb_var 1 (pv 1)) (sb_var 11 (pv 11)) (fun _ _ => rfl)) (sa_cons (se_var 6 (pv 6)) sa_nil)))) (sb_of (se_intc (by rfl) m.int (sb_of (se_cmp (ck_in (u65 hr)) (sb_var 11 (pv 11)) (sb_of (se_tup (sa_cons (se_var 4 (pv 4)) (sa_cons (se_var 5 (pv 5)) sa_nil)))) (by with_unfolding_all rfl))))) (fun _ _ => rfl))) (by decide)))) (sa_cons (se_var 10 (pv 10)) sa_nil))))))))))
/-! _law_run -/
abbrev s__law_run : Stmt := top 28
abbrev N__law_run : List Str := ["areas", "levels", "deeds", "moved", "deed", "more"]
theorem sc__law_run : FnScope N__law_run ["areas", "levels", "deeds"] (defScope s__law_run) := ⟨rfl, rfl, rfl, by decide +kernel, rfl, by decide +kernel, by decide +kernel⟩
abbrev b__law_run (fn__law_joined : List PV → Option PV) (fn__law_sum : List PV → Option PV) : PSt := (sSeq (sAsg (eCall pTup (aCons (eK (.int 0)) (aCons (eK (.int 1)) aNil))) (gN 3)) (sSeq (sFor (lSeq (eV 2)) (gN 4) (sSeq (sAsg (eCall fn__law_joined (aCons (eV 0) (aCons (eV 1) (aCons (eV 4) aNil)))) (gT (gCons' (gN 1) (gCons' (gN 5) gNil')))) (sAsg (eCall fn__law_sum (aCons (eV 3) (aCons (eV 5) aNil))) (gN 3)))) (sRet (eCall pTup (aCons (eV 1) (aCons (eV 3) aNil))))))
theorem ok__law_run {P : Program} {w : World} {K : PySem.W.Frag} {mg : Str → Option Value} {base : Heap} {k : Nat} {f : Addr} {fd : FuncData} {fn__law_joined : List PV → Option PV} {fn__law_sum : List PV → Option PV} (F : FunD K "_law_run" "_law_run" (defArgs s__law_run) (defBody s__law_run) (defScope s__law_run) [] [] f fd) (hm : mg "_law_run" = some (.ref f)) (m : BF mg) (d__law_joined : DefOk P w K mg base k "_law_joined" 3 fn__law_joined) (d__law_sum : DefOk P w K mg base k "_law_sum" 2 fn__law_sum) :
    DefOk P w K mg base (k + 1) "_law_run" 3 (fnDef 6 (b__law_run fn__law_joined fn__law_sum)) :=
  have sc := sc__law_run
  DefOk.mk' F hm sc (fun _ _ _ _ _ _ us hl => match us, hl with | [_, _, _], _ => rfl) rfl rfl fun cdv A outer s H E hr =>
    (ss_cons (ss_set (i := 3) sc.nd rfl (.inl rfl) (se_tup (sa_cons se_int (sa_cons se_int sa_nil)))) (ss_cons (ss_for PassesOwn.never rfl (si_seq (se_var 2 (pv 2))) (sg_name (i := 4) sc.nd rfl (by first | exact .inl rfl | exact .inr rfl)) (ss_cons (ss_asg (se_call d__law_joined (rm hr) (by rfl) (sa_cons (se_var 0 (pv 0)) (sa_cons (se_var 1 (pv 1)) (sa_cons (se_var 4 (pv 4)) sa_nil))) (hlen := (aCons_len (aCons_len (aCons_len aNil_len))))) (sg_tup rfl (sgs_cons (sg_name (i := 1) sc.nd rfl (by first | exact .inl rfl | exact .inr rfl)) (sgs_cons (sg_name (i := 5) sc.nd rfl (by first | exact .inl rfl | exact .inr rfl)) sgs_nil)) (hl := (gCons_len (gCons_len gNil_len))))) (ss_one (ss_set (i := 3) sc.nd rfl (.inl rfl) (se_call d__law_sum (rm hr) (by rfl) (sa_cons (se_var 3 (pv 3)) (sa_cons (se_var 5 (pv 5)) sa_nil)) (hlen := (aCons_len (aCons_len aNil_len)))))))) (ss_one (ss_ret (se_tup (sa_cons (se_var 1 (pv 1)) (sa_cons (se_var 3 (pv 3)) sa_nil)))))))
/-! _law_told -/
abbrev s__law_told : Stmt := top 29
abbrev N__law_told : List Str := ["areas", "levels", "deeds", "rows", "a", "b"]
theorem sc__law_told : FnScope N__law_told ["areas", "levels", "deeds"] (defScope s__law_told) := ⟨rfl, rfl, rfl, by decide +kernel, rfl, by decide +kernel, by decide +kernel⟩
abbrev b__law_told (fn_water_moved : List PV → Option PV) (fn_level_run : List PV → Option PV) : PSt := (sSeq (sAsg (e1 pTuple (eComp (lSeq (eB 2)) [4, 5] (gT (gCons' (gN 4) (gCons' (gN 5) gNil'))) cYes (eCall pTup (aCons (eK (.str (Str.ofString "even"))) (aCons (eV 4) (aCons (eV 5) aNil)))))) (gN 3)) (sRet (eCall pTup (aCons (eCall fn_level_run (aCons (eV 0) (aCons (eV 1) (aCons (eV 3) aNil)))) (aCons (eCall fn_water_moved (aCons (eV 0) (aCons (eV 1) (aCons (eV 3) aNil)))) aNil)))))
theorem ok__law_told {P : Program} {w : World} {K : PySem.W.Frag} {mg : Str → Option Value} {base : Heap} {k : Nat} {f : Addr} {fd : FuncData} {fn_water_moved : List PV → Option PV} {fn_level_run : List PV → Option PV} (F : FunD K "_law_told" "_law_told" (defArgs s__law_told) (defBody s__law_told) (defScope s__law_told) [] [] f fd) (hm : mg "_law_told" = some (.ref f)) (m : BF mg) (d_water_moved : DefOk P w K mg base k "water_moved" 3 fn_water_moved) (d_level_run : DefOk P w K mg base k "level_run" 3 fn_level_run) :
    DefOk P w K mg base (k + 1) "_law_told" 3 (fnDef 6 (b__law_told fn_water_moved fn_level_run)) :=
  have sc := sc__law_told
  DefOk.mk' F hm sc (fun _ _ _ _ _ _ us hl => match us, hl with | [_, _, _], _ => rfl) rfl rfl fun cdv A outer s H E hr =>
    (ss_cons (ss_set (i := 3) sc.nd rfl (.inl rfl) (se_tuple (by rfl) m.tuple (sb_ofF (sf_lc rfl sc.nd (sib_seq (sb_var 2 (pv 2))) (blkOk_by (N := N__law_told) (sc := defScope s__law_told) (own := [("a", 4), ("b", 5)]) (by decide +kernel)) (fun _ _ _ _ _ => (sg_tup rfl (sgs_cons (sg_name (i := 4) sc.nd rfl (by first | exact .inl rfl | exact .inr rfl)) (sgs_cons (sg_name (i := 5) sc.nd rfl (by first | exact .inl rfl | exact .inr rfl)) sgs_nil)) (hl := (gCons_len (gCons_len gNil_len))))) (fun _ _ _ _ _ => sts_nil) (fun _ _ _ _ _ => (se_tup (sa_cons se_str (sa_cons (se_var 4 (pv 4)) (sa_cons (se_var 5 (pv 5)) sa_nil))))) (by decide))))) (ss_one (ss_ret (se_tup (sa_cons (se_call d_level_run (rm hr) (by rfl) (sa_cons (se_var 0 (pv 0)) (sa_cons (se_var 1 (pv 1)) (sa_cons (se_var 3 (pv 3)) sa_nil))) (hlen := (aCons_len (aCons_len (aCons_len aNil_len))))) (sa_cons (se_call d_water_moved (rm hr) (by rfl) (sa_cons (se_var 0 (pv 0)) (sa_cons (se_var 1 (pv 1)) (sa_cons (se_var 3 (pv 3)) sa_nil))) (hlen := (aCons_len (aCons_len (aCons_len aNil_len))))) sa_nil))))))
/-! _law_whole -/
abbrev s__law_whole : Stmt := top 30
abbrev N__law_whole : List Str := ["areas", "levels", "total", "k"]
theorem sc__law_whole : FnScope N__law_whole ["areas", "levels"] (defScope s__law_whole) := ⟨rfl, rfl, rfl, by decide +kernel, rfl, by decide +kernel, by decide +kernel⟩
abbrev b__law_whole (fn__law_sum : List PV → Option PV) (fn__law_times : List PV → Option PV) : PSt := (sSeq (sAsg (eCall pTup (aCons (eK (.int 0)) (aCons (eK (.int 1)) aNil))) (gN 2)) (sSeq (sFor (lRng1 (e1 pLen (eB 0))) (gN 3) (sAsg (eCall fn__law_sum (aCons (eV 2) (aCons (eCall fn__law_times (aCons (e2 pIx (eB 1) (eB 3)) (aCons (eCall pTup (aCons (e2 pIx (eB 0) (eB 3)) (aCons (eK (.int 1)) aNil))) aNil))) aNil))) (gN 2))) (sRet (eV 2))))
theorem ok__law_whole {P : Program} {w : World} {K : PySem.W.Frag} {mg : Str → Option Value} {base : Heap} {k : Nat} {f : Addr} {fd : FuncData} {fn__law_sum : List PV → Option PV} {fn__law_times : List PV → Option PV} (F : FunD K "_law_whole" "_law_whole" (defArgs s__law_whole) (defBody s__law_whole) (defScope s__law_whole) [] [] f fd) (hm : mg "_law_whole" = some (.ref f)) (m : BF mg) (d__law_sum : DefOk P w K mg base k "_law_sum" 2 fn__law_sum) (d__law_times : DefOk P w K mg base k "_law_times" 2 fn__law_times) :
    DefOk P w K mg base (k + 1) "_law_whole" 2 (fnDef 4 (b__law_whole fn__law_sum fn__law_times)) :=
  have sc := sc__law_whole
  DefOk.mk' F hm sc (fun _ _ _ _ _ _ us hl => match us, hl with | [_, _], _ => rfl) rfl rfl fun cdv A outer s H E hr =>
    (ss_cons (ss_set (i := 2) sc.nd rfl (.inl rfl) (se_tup (sa_cons se_int (sa_cons se_int sa_nil)))) (ss_cons (ss_for PassesOwn.never rfl (si_rng1 (by rfl) m.range (sb_of (se_len (by rfl) m.len (sb_var 0 (pv 0))))) (sg_name (i := 3) sc.nd rfl (by first | exact .inl rfl | exact .inr rfl)) (ss_one (ss_set (i := 2) sc.nd rfl (.inl rfl) (se_call d__law_sum (rm hr) (by rfl) (sa_cons (se_var 2 (pv 2)) (sa_cons (se_call d__law_times (rm hr) (by rfl) (sa_cons (se_ix (sb_var 1 (pv 1)) (sb_var 3 (pv 3)) (fun _ _ => rfl)) (sa_cons (se_tup (sa_cons (se_ix (sb_var 0 (pv 0)) (sb_var 3 (pv 3)) (fun _ _ => rfl)) (sa_cons se_int sa_nil))) sa_nil)) (hlen := (aCons_len (aCons_len aNil_len)))) sa_nil)) (hlen := (aCons_len (aCons_len aNil_len))))))) (ss_one (ss_ret (se_var 2 (pv 2))))))
/-! law -/
abbrev s_law : Stmt := top 31
abbrev N_law : List Str := ["script", "row", "n", "k", "areas", "levels", "deeds", "a", "due", "twice", "turned", "deed", "inner", "kept", "gates", "state", "free", "wide", "far", "level", "b"]
theorem sc_law : FnScope N_law ["script"] (defScope s_law) := ⟨rfl, rfl, rfl, by decide +kernel, rfl, by decide +kernel, by decide +kernel⟩
abbrev b_law (fn__law_row : List PV → Option PV) (fn__law_low : List PV → Option PV) (fn__law_run : List PV → Option PV) (fn__law_like : List PV → Option PV) (fn__law_told : List PV → Option PV) (fn_level_run : List PV → Option PV) (fn__law_whole : List PV → Option PV) (fn__law_level : List PV → Option PV) (fn_gates_free : List PV → Option PV) (fn_may_open : List PV → Option PV) (fn__law_times : List PV → Option PV) : PSt := (sSeq (sAsg (eCall fn__law_row (aCons (eV 0) (aCons (eK (.int 34)) aNil))) (gN 1)) (sSeq (sAsg (e2 pPlus (eK (.int 2)) (e2 pMod (e1 pInt (e2 pIx (eB 1) (eK (.int 0)))) (eK (.int 3)))) (gN 2)) (sSeq (sAsg (e1 pTuple (eComp (lRng1 (eB 2)) [3] (gN 3) cYes (e2 pPlus (eK (.int 1)) (e2 pMod (e1 pInt (e2 pIx (eB 1) (e2 pPlus (eK (.int 1)) (eB 3)))) (eK (.int 6)))))) (gN 4)) (sSeq (sAsg (e1 pTuple (eComp (lRng1 (eB 2)) [3] (gN 3) cYes (eCall fn__law_low (aCons (e2 pSub (e2 pMod (e1 pInt (e2 pIx (eB 1) (e2 pPlus (eK (.int 5)) (eB 3)))) (eK (.int 25))) (eK (.int 12))) (aCons (e2 pPlus (eK (.int 1)) (e2 pMod (e2 pDiv (e1 pInt (e2 pIx (eB 1) (eK (.int 9)))) (e2 pIx (eCall pTup (aCons (eK (.int 1)) (aCons (eK (.int 2)) (aCons (eK (.int 4)) (aCons (eK (.int 8)) aNil))))) (eB 3))) (eK (.int 2)))) aNil))))) (gN 5)) (sSeq (sOwn 6 (eCall pLst aNil)) (sSeq (sFor (lRng1 (e2 pMod (e1 pInt (e2 pIx (eB 1) (eK (.int 10)))) (eK (.int 7)))) (gN 3) (sSeq (sAsg (e2 pMod (e1 pInt (e2 pIx (eB 1) (e2 pPlus (eK (.int 11)) (e2 pMul (eK (.int 2)) (eB 3))))) (e2 pPlus (eB 2) (eK (.int 1)))) (gN 7)) (sApp 6 (eCall pTup (aCons (eV 7) (aCons (e2 pMod (e1 pInt (e2 pPlus (e2 pPlus (eB 7) (eK (.int 1))) (e2 pMod (e1 pInt (e2 pIx (eB 1) (e2 pPlus (eK (.int 12)) (e2 pMul (eK (.int 2)) (eB 3))))) (eB 2)))) (e2 pPlus (eB 2) (eK (.int 1)))) aNil)))))) (sSeq (sAsg (e1 pTuple (eB 6)) (gN 6)) (sSeq (sFz 6) (sSeq (sAsg (eCall fn__law_run (aCons (eV 4) (aCons (eV 5) (aCons (eV 6) aNil)))) (gN 8)) (sSeq (sFz 6) (sSeq (sIf (cNot (cTru (eCall fn__law_like (aCons (eCall fn__law_told (aCons (eV 4) (aCons (eV 5) (aCons (eV 6) aNil)))) (aCons (eV 8) aNil))))) (sRet (eK (.bool false))) sNil) (sSeq (sPar [9, 10] (mOwn (eCall pLst aNil) (mVal (e1 pTuple (eComp (lSeq (eB 6)) [7, 20] (gT (gCons' (gN 7) (gCons' (gN 20) gNil'))) cYes (eCall pTup (aCons (eV 20) (aCons (eV 7) aNil))))) mNil))) (sSeq (sFz 6) (sSeq (sFor (lSeq (eV 6)) (gN 11) (sExt 9 (eCall pLst (aCons (eV 11) (aCons (eCall pTup (aCons (e2 pIx (eB 11) (eK (.int 1))) (aCons (e2 pIx (eB 11) (eK (.int 0))) aNil))) aNil))))) (sSeq (sIf (cNot (cTru (eCall fn__law_like (aCons (eCall pTup (aCons (eCall fn__law_told (aCons (eV 4) (aCons (eV 5) (aCons (e1 pTuple (eB 9)) aNil)))) (aCons (eCall fn__law_told (aCons (eV 4) (aCons (eV 5) (aCons (eV 10) aNil)))) aNil))) (aCons (eCall pTup (aCons (eV 8) (aCons (eV 8) aNil))) aNil))))) (sRet (eK (.bool false))) sNil) (sSeq (sAsg (e1 pTuple (eComp (lSeq (eB 6)) [11] (gN 11) (cB (e2 pNotIn (eB 2) (eB 11))) (eV 11))) (gN 12)) (sSeq (sAsg (eCall fn_level_run (aCons (eV 4) (aCons (eV 5) (aCons (e1 pTuple (eComp (lSeq (eB 12)) [7, 20] (gT (gCons' (gN 7) (gCons' (gN 20) gNil'))) cYes (eCall pTup (aCons (eK (.str (Str.ofString "even"))) (aCons (eV 7) (aCons (eV 20) aNil)))))) aNil)))) (gN 13)) (sSeq (sIf (cNot (cTru (eCall fn__law_like (aCons (eCall fn__law_whole (aCons (eV 4) (aCons (eV 13) aNil))) (aCons (eCall fn__law_whole (aCons (eV 4) (aCons (eV 5) aNil))) aNil))))) (sRet (eK (.bool false))) sNil) (sSeq (sOwn 14 (eCall pLst aNil)) (sSeq (sFor (lRng1 (e2 pPlus (eB 2) (eK (.int 1)))) (gN 7) (sExt 14 (eComp (lRng1 (e2 pPlus (eB 2) (eK (.int 1)))) [20] (gN 20) (cB (e2 pNe (eB 7) (eB 20))) (eCall pTup (aCons (eV 7) (aCons (eV 20) aNil)))))) (sSeq (sFor (lSeq (eCall pTup (aCons (eV 5) (aCons (e2 pIx (eB 8) (eK (.int 0))) aNil)))) (gN 15) (sSeq (sAsg (eComp (lRng1 (e1 pLen (eB 14))) [3] (gN 3) (cB (e2 pEq (eCall fn__law_level (aCons (eV 15) (aCons (e2 pIx (e2 pIx (eB 14) (eB 3)) (eK (.int 0))) aNil))) (eCall fn__law_level (aCons (eV 15) (aCons (e2 pIx (e2 pIx (eB 14) (eB 3)) (eK (.int 1))) aNil))))) (eV 3)) (gN 16)) (sSeq (sIf (cNot (cTru (eCall fn__law_like (aCons (eCall fn_gates_free (aCons (eV 15) (aCons (e1 pTuple (eB 14)) aNil))) (aCons (e1 pTuple (eB 16)) aNil))))) (sRet (eK (.bool false))) sNil) (sIf (cNot (cTru (e1 pAll (eComp (lRng1 (e1 pLen (eB 14))) [3] (gN 3) cYes (eCall fn__law_like (aCons (eCall fn_may_open (aCons (eV 15) (aCons (e2 pIx (eB 14) (eB 3)) aNil))) (aCons (e2 pIn (eB 3) (eB 16)) aNil))))))) (sRet (eK (.bool false))) sNil)))) (sSeq (sIf (cAnd (cB (e2 pGt (e1 pLen (eB 6)) (eK (.int 0)))) (cB (e2 pNotB (eCall fn_may_open (aCons (e2 pIx (eB 8) (eK (.int 0))) (aCons (e2 pIx (eB 6) (e2 pSub (e1 pLen (eB 6)) (eK (.int 1)))) aNil))) (eK (.bool true))))) (sRet (eK (.bool false))) sNil) (sSeq (sAsg (e2 pPlus (eK (.int 1)) (e2 pMod (e1 pInt (e2 pIx (eB 1) (eK (.int 24)))) (eK (.int 4)))) (gN 3)) (sSeq (sAsg (e1 pTuple (eComp (lSeq (eB 5)) [19] (gN 19) cYes (eCall fn__law_times (aCons (eV 19) (aCons (eCall pTup (aCons (eV 3) (aCons (eK (.int 1)) aNil))) aNil))))) (gN 17)) (sSeq (sAsg (eCall pTup (aCons (e1 pTuple (eComp (lSeq (e2 pIx (eB 8) (eK (.int 0)))) [19] (gN 19) cYes (eCall fn__law_times (aCons (eV 19) (aCons (eCall pTup (aCons (eV 3) (aCons (eK (.int 1)) aNil))) aNil))))) (aCons (eCall fn__law_times (aCons (e2 pIx (eB 8) (eK (.int 1))) (aCons (eCall pTup (aCons (eV 3) (aCons (eK (.int 1)) aNil))) aNil))) aNil))) (gN 18)) (sSeq (sFz 6) (sSeq (sRet (eCall fn__law_like (aCons (eCall fn__law_told (aCons (eV 4) (aCons (eV 17) (aCons (eV 6) aNil)))) (aCons (eV 18) aNil)))) sNil)))))))))))))))))))))))))))
theorem bd_law {P : Program} {w : World} {K : PySem.W.Frag} {mg : Str → Option Value} {base : Heap} {k : Nat} {f : Addr} {fn__law_row : List PV → Option PV} {fn__law_low : List PV → Option PV} {fn__law_run : List PV → Option PV} {fn__law_like : List PV → Option PV} {fn__law_told : List PV → Option PV} {fn_level_run : List PV → Option PV} {fn__law_whole : List PV → Option PV} {fn__law_level : List PV → Option PV} {fn_gates_free : List PV → Option PV} {fn_may_open : List PV → Option PV} {fn__law_times : List PV → Option PV} (m : BF mg) (d__law_row : DefOk P w K mg base k "_law_row" 2 fn__law_row) (d__law_low : DefOk P w K mg base k "_law_low" 2 fn__law_low) (d__law_run : DefOk P w K mg base k "_law_run" 3 fn__law_run) (d__law_like : DefOk P w K mg base k "_law_like" 2 fn__law_like) (d__law_told : DefOk P w K mg base k "_law_told" 3 fn__law_told) (d_level_run : DefOk P w K mg base k "level_run" 3 fn_level_run) (d__law_whole : DefOk P w K mg base k "_law_whole" 2 fn__law_whole) (d__law_level : DefOk P w K mg base k "_law_level" 2 fn__law_level) (d_gates_free : DefOk P w K mg base k "gates_free" 2 fn_gates_free) (d_may_open : DefOk P w K mg base k "may_open" 2 fn_may_open) (d__law_times : DefOk P w K mg base k "_law_times" 2 fn__law_times) {cdv : Value} {A : Around} {outer : List Env} {s : Shared} {H : Hp} {E : XK} (hr : Room k (A.deeper (envOfC "law" (defScope s_law) s.heap.objs.size f cdv))) :
    SSs (cxOf CX0 P w K mg base N_law "law" (defScope s_law) f cdv A outer s H E).nox (defBody s_law) (b_law fn__law_row fn__law_low fn__law_run fn__law_like fn__law_told fn_level_run fn__law_whole fn__law_level fn_gates_free fn_may_open fn__law_times) :=
  have sc := sc_law
  (ss_cons (ss_set (i := 1) sc.nd rfl (.inr rfl) (se_call d__law_row (rm hr) (by rfl) (sa_cons (se_var 0 (pv 0)) (sa_cons se_int sa_nil)) (hlen := (aCons_len (aCons_len aNil_len))))) (ss_cons (ss_set (i := 2) sc.nd rfl (.inr rfl) (se_plus (sb_of se_int) (sb_of (se_mod (sb_of (se_intc (by rfl) m.int (sb_of (se_ix (sb_var 1 (pv 1)) (sb_of se_int) (fun _ _ => rfl))))) (sb_of se_int))))) (ss_cons (ss_set (i := 4) sc.nd rfl (.inl rfl) (se_tuple (by rfl) m.tuple (sb_ofF (sf_lc rfl sc.nd (sib_of (si_rng1 (by rfl) m.range (sb_var 2 (pv 2)))) (blkOk_by (N := N_law) (sc := defScope s_law) (own := [("k", 3)]) (by decide +kernel)) (fun _ _ _ _ _ => (sg_name (i := 3) sc.nd rfl (by first | exact .inl rfl | exact .inr rfl))) (fun _ _ _ _ _ => sts_nil) (fun _ _ _ _ _ => (se_plus (sb_of se_int) (sb_of (se_mod (sb_of (se_intc (by rfl) m.int (sb_of (se_ix (sb_var 1 (pv 1)) (sb_of (se_plus (sb_of se_int) (sb_var 3 (pv 3)))) (fun _ _ => rfl))))) (sb_of se_int))))) (by decide))))) (ss_cons (ss_set (i := 5) sc.nd rfl (.inl rfl) (se_tuple (by rfl) m.tuple (sb_ofF (sf_lc rfl sc.nd (sib_of (si_rng1 (by rfl) m.range (sb_var 2 (pv 2)))) (blkOk_by (N := N_law) (sc := defScope s_law) (own := [("k", 3)]) (by decide +kernel)) (fun _ _ _ _ _ => (sg_name (i := 3) sc.nd rfl (by first | exact .inl rfl | exact .inr rfl))) (fun _ _ _ _ _ => sts_nil) (fun _ _ _ _ _ => (se_call d__law_low (rm hr) (by rfl) (sa_cons (se_sub (sb_of (se_mod (sb_of (se_intc (by rfl) m.int (sb_of (se_ix (sb_var 1 (pv 1)) (sb_of (se_plus (sb_of se_int) (sb_var 3 (pv 3)))) (fun _ _ => rfl))))) (sb_of se_int))) (sb_of se_int)) (sa_cons (se_plus (sb_of se_int) (sb_of (se_mod (sb_of (se_div (sb_of (se_intc (by rfl) m.int (sb_of (se_ix (sb_var 1 (pv 1)) (sb_of se_int) (fun _ _ => rfl))))) (sb_of (se_ix (sb_of (se_tup (sa_cons se_int (sa_cons se_int (sa_cons se_int (sa_cons se_int sa_nil)))))) (sb_var 3 (pv 3)) (fun _ _ => rfl))))) (sb_of se_int)))) sa_nil)) (hlen := (aCons_len (aCons_len aNil_len))))) (by decide))))) (ss_cons (ss_own (i := 6) sc.nd rfl (.inl rfl) (sf_lst sa_nil)) (ss_cons (ss_for PassesOwn.never rfl (si_rng1 (by rfl) m.range (sb_of (se_mod (sb_of (se_intc (by rfl) m.int (sb_of (se_ix (sb_var 1 (pv 1)) (sb_of se_int) (fun _ _ => rfl))))) (sb_of se_int)))) (sg_name (i := 3) sc.nd rfl (by first | exact .inl rfl | exact .inr rfl)) (ss_cons (ss_set (i := 7) sc.nd rfl (.inr rfl) (se_mod (sb_of (se_intc (by rfl) m.int (sb_of (se_ix (sb_var 1 (pv 1)) (sb_of (se_plus (sb_of se_int) (sb_of (se_mul (sb_of se_int) (sb_var 3 (pv 3)))))) (fun _ _ => rfl))))) (sb_of (se_plus (sb_var 2 (pv 2)) (sb_of se_int))))) (ss_one (ss_app (pv 6) (se_tup (sa_cons (se_var 7 (pv 7)) (sa_cons (se_mod (sb_of (se_intc (by rfl) m.int (sb_of (se_plus (sb_of (se_plus (sb_var 7 (pv 7)) (sb_of se_int))) (sb_of (se_mod (sb_of (se_intc (by rfl) m.int (sb_of (se_ix (sb_var 1 (pv 1)) (sb_of (se_plus (sb_of se_int) (sb_of (se_mul (sb_of se_int) (sb_var 3 (pv 3)))))) (fun _ _ => rfl))))) (sb_var 2 (pv 2)))))))) (sb_of (se_plus (sb_var 2 (pv 2)) (sb_of se_int)))) sa_nil))))))) (ss_cons (ss_set (i := 6) sc.nd rfl (.inl rfl) (se_tuple (by rfl) m.tuple (sb_var 6 (pv 6)))) (ss_fz 6 (ss_cons (ss_set (i := 8) sc.nd rfl (.inl rfl) (se_call d__law_run (rm hr) (by rfl) (sa_cons (se_var 4 (pv 4)) (sa_cons (se_var 5 (pv 5)) (sa_cons (se_var 6 (pv 6)) sa_nil))) (hlen := (aCons_len (aCons_len (aCons_len aNil_len)))))) (ss_fz 6 (ss_cons (ss_if (st_not (st_tru (sb_of (se_call d__law_like (rm hr) (by rfl) (sa_cons (se_call d__law_told (rm hr) (by rfl) (sa_cons (se_var 4 (pv 4)) (sa_cons (se_var 5 (pv 5)) (sa_cons (se_var 6 (pv 6)) sa_nil))) (hlen := (aCons_len (aCons_len (aCons_len aNil_len))))) (sa_cons (se_var 8 (pv 8)) sa_nil)) (hlen := (aCons_len (aCons_len aNil_len))))))) (ss_one (ss_ret se_bl)) ss_nil) (ss_cons (ss_par2 (i := 9) (j := 10) rfl sc.nd rfl rfl (by decide) rfl rfl (sm_own (sf_lst sa_nil) (sm_val (se_tuple (by rfl) m.tuple (sb_ofF (sf_lc rfl sc.nd (sib_seq (sb_var 6 (pv 6))) (blkOk_by (N := N_law) (sc := defScope s_law) (own := [("a", 7), ("b", 20)]) (by decide +kernel)) (fun _ _ _ _ _ => (sg_tup rfl (sgs_cons (sg_name (i := 7) sc.nd rfl (by first | exact .inl rfl | exact .inr rfl)) (sgs_cons (sg_name (i := 20) sc.nd rfl (by first | exact .inl rfl | exact .inr rfl)) sgs_nil)) (hl := (gCons_len (gCons_len gNil_len))))) (fun _ _ _ _ _ => sts_nil) (fun _ _ _ _ _ => (se_tup (sa_cons (se_var 20 (pv 20)) (sa_cons (se_var 7 (pv 7)) sa_nil)))) (by decide)))) sm_nil)) (by rfl)) (ss_fz 6 (ss_cons (ss_for PassesOwn.never rfl (si_seq (se_var 6 (pv 6))) (sg_name (i := 11) sc.nd rfl (by first | exact .inl rfl | exact .inr rfl)) (ss_one (ss_ext (pv 9) (sf_lst (sa_cons (se_var 11 (pv 11)) (sa_cons (se_tup (sa_cons (se_ix (sb_var 11 (pv 11)) (sb_of se_int) (fun _ _ => rfl)) (sa_cons (se_ix (sb_var 11 (pv 11)) (sb_of se_int) (fun _ _ => rfl)) sa_nil))) sa_nil)))))) (ss_cons (ss_if (st_not (st_tru (sb_of (se_call d__law_like (rm hr) (by rfl) (sa_cons (se_tup (sa_cons (se_call d__law_told (rm hr) (by rfl) (sa_cons (se_var 4 (pv 4)) (sa_cons (se_var 5 (pv 5)) (sa_cons (se_tuple (by rfl) m.tuple (sb_var 9 (pv 9))) sa_nil))) (hlen := (aCons_len (aCons_len (aCons_len aNil_len))))) (sa_cons (se_call d__law_told (rm hr) (by rfl) (sa_cons (se_var 4 (pv 4)) (sa_cons (se_var 5 (pv 5)) (sa_cons (se_var 10 (pv 10)) sa_nil))) (hlen := (aCons_len (aCons_len (aCons_len aNil_len))))) sa_nil))) (sa_cons (se_tup (sa_cons (se_var 8 (pv 8)) (sa_cons (se_var 8 (pv 8)) sa_nil))) sa_nil)) (hlen := (aCons_len (aCons_len aNil_len))))))) (ss_one (ss_ret se_bl)) ss_nil) (ss_cons (ss_set (i := 12) sc.nd rfl (.inl rfl) (se_tuple (by rfl) m.tuple (sb_ofF (sf_lc rfl sc.nd (sib_seq (sb_var 6 (pv 6))) (blkOk_by (N := N_law) (sc := defScope s_law) (own := [("deed", 11)]) (by decide +kernel)) (fun _ _ _ _ _ => (sg_name (i := 11) sc.nd rfl (by first | exact .inl rfl | exact .inr rfl))) (fun _ _ _ _ _ => (sts_one (st_cmp (ck_notIn (u65 hr)) (sb_var 2 (pv 2)) (sb_var 11 (pv 11)) (by with_unfolding_all rfl)))) (fun _ _ _ _ _ => (se_var 11 (pv 11))) (by decide))))) (ss_cons (ss_set (i := 13) sc.nd rfl (.inl rfl) (se_call d_level_run (rm hr) (by rfl) (sa_cons (se_var 4 (pv 4)) (sa_cons (se_var 5 (pv 5)) (sa_cons (se_tuple (by rfl) m.tuple (sb_ofF (sf_lc rfl sc.nd (sib_seq (sb_var 12 (pv 12))) (blkOk_by (N := N_law) (sc := defScope s_law) (own := [("a", 7), ("b", 20)]) (by decide +kernel)) (fun _ _ _ _ _ => (sg_tup rfl (sgs_cons (sg_name (i := 7) sc.nd rfl (by first | exact .inl rfl | exact .inr rfl)) (sgs_cons (sg_name (i := 20) sc.nd rfl (by first | exact .inl rfl | exact .inr rfl)) sgs_nil)) (hl := (gCons_len (gCons_len gNil_len))))) (fun _ _ _ _ _ => sts_nil) (fun _ _ _ _ _ => (se_tup (sa_cons se_str (sa_cons (se_var 7 (pv 7)) (sa_cons (se_var 20 (pv 20)) sa_nil))))) (by decide)))) sa_nil))) (hlen := (aCons_len (aCons_len (aCons_len aNil_len)))))) (ss_cons (ss_if (st_not (st_tru (sb_of (se_call d__law_like (rm hr) (by rfl) (sa_cons (se_call d__law_whole (rm hr) (by rfl) (sa_cons (se_var 4 (pv 4)) (sa_cons (se_var 13 (pv 13)) sa_nil)) (hlen := (aCons_len (aCons_len aNil_len)))) (sa_cons (se_call d__law_whole (rm hr) (by rfl) (sa_cons (se_var 4 (pv 4)) (sa_cons (se_var 5 (pv 5)) sa_nil)) (hlen := (aCons_len (aCons_len aNil_len)))) sa_nil)) (hlen := (aCons_len (aCons_len aNil_len))))))) (ss_one (ss_ret se_bl)) ss_nil) (ss_cons (ss_own (i := 14) sc.nd rfl (.inr rfl) (sf_lst sa_nil)) (ss_cons (ss_for PassesOwn.never rfl (si_rng1 (by rfl) m.range (sb_of (se_plus (sb_var 2 (pv 2)) (sb_of se_int)))) (sg_name (i := 7) sc.nd rfl (by first | exact .inl rfl | exact .inr rfl)) (ss_one (ss_ext (pv 14) (sf_lc rfl sc.nd (sib_of (si_rng1 (by rfl) m.range (sb_of (se_plus (sb_var 2 (pv 2)) (sb_of se_int))))) (blkOk_by (N := N_law) (sc := defScope s_law) (own := [("b", 20)]) (by decide +kernel)) (fun _ _ _ _ _ => (sg_name (i := 20) sc.nd rfl (by first | exact .inl rfl | exact .inr rfl))) (fun _ _ _ _ _ => (sts_one (st_cmp (ck_ne hr.units) (sb_var 7 (pv 7)) (sb_var 20 (pv 20)) (nomark _)))) (fun _ _ _ _ _ => (se_tup (sa_cons (se_var 7 (pv 7)) (sa_cons (se_var 20 (pv 20)) sa_nil)))) (by decide))))) (ss_cons (ss_for PassesOwn.never rfl (si_seq (se_tup (sa_cons (se_var 5 (pv 5)) (sa_cons (se_ix (sb_var 8 (pv 8)) (sb_of se_int) (fun _ _ => rfl)) sa_nil)))) (sg_name (i := 15) sc.nd rfl (by first | exact .inl rfl | exact .inr rfl)) (ss_cons (ss_set (i := 16) sc.nd rfl (.inr rfl) (se_ofF (sf_lc rfl sc.nd (sib_of (si_rng1 (by rfl) m.range (sb_of (se_len (by rfl) m.len (sb_var 14 (pv 14)))))) (blkOk_by (N := N_law) (sc := defScope s_law) (own := [("k", 3)]) (by decide +kernel)) (fun _ _ _ _ _ => (sg_name (i := 3) sc.nd rfl (by first | exact .inl rfl | exact .inr rfl))) (fun _ _ _ _ _ => (sts_one (st_cmp (ck_eq hr.units) (sb_of (se_call d__law_level (rm hr) (by rfl) (sa_cons (se_var 15 (pv 15)) (sa_cons (se_ix (sb_of (se_ix (sb_var 14 (pv 14)) (sb_var 3 (pv 3)) (fun _ _ => rfl))) (sb_of se_int) (fun _ _ => rfl)) sa_nil)) (hlen := (aCons_len (aCons_len aNil_len))))) (sb_of (se_call d__law_level (rm hr) (by rfl) (sa_cons (se_var 15 (pv 15)) (sa_cons (se_ix (sb_of (se_ix (sb_var 14 (pv 14)) (sb_var 3 (pv 3)) (fun _ _ => rfl))) (sb_of se_int) (fun _ _ => rfl)) sa_nil)) (hlen := (aCons_len (aCons_len aNil_len))))) (nomark _)))) (fun _ _ _ _ _ => (se_var 3 (pv 3))) (by decide)))) (ss_cons (ss_if (st_not (st_tru (sb_of (se_call d__law_like (rm hr) (by rfl) (sa_cons (se_call d_gates_free (rm hr) (by rfl) (sa_cons (se_var 15 (pv 15)) (sa_cons (se_tuple (by rfl) m.tuple (sb_var 14 (pv 14))) sa_nil)) (hlen := (aCons_len (aCons_len aNil_len)))) (sa_cons (se_tuple (by rfl) m.tuple (sb_var 16 (pv 16))) sa_nil)) (hlen := (aCons_len (aCons_len aNil_len))))))) (ss_one (ss_ret se_bl)) ss_nil) (ss_one (ss_if (st_not (st_tru (sb_of (se_all rfl (by rfl) m.all (sb_ofF (sf_lc rfl sc.nd (sib_of (si_rng1 (by rfl) m.range (sb_of (se_len (by rfl) m.len (sb_var 14 (pv 14)))))) (blkOk_by (N := N_law) (sc := defScope s_law) (own := [("k", 3)]) (by decide +kernel)) (fun _ _ _ _ _ => (sg_name (i := 3) sc.nd rfl (by first | exact .inl rfl | exact .inr rfl))) (fun _ _ _ _ _ => sts_nil) (fun _ _ _ _ _ => (se_call d__law_like (rm hr) (by rfl) (sa_cons (se_call d_may_open (rm hr) (by rfl) (sa_cons (se_var 15 (pv 15)) (sa_cons (se_ix (sb_var 14 (pv 14)) (sb_var 3 (pv 3)) (fun _ _ => rfl)) sa_nil)) (hlen := (aCons_len (aCons_len aNil_len)))) (sa_cons (se_cmp (ck_in (u65 hr)) (sb_var 3 (pv 3)) (sb_var 16 (pv 16)) (by with_unfolding_all rfl)) sa_nil)) (hlen := (aCons_len (aCons_len aNil_len))))) (by decide))))))) (ss_one (ss_ret se_bl)) ss_nil))))) (ss_cons (ss_if (st_w (sw_and (st_cmp (ck_gt hr.units) (sb_of (se_len (by rfl) m.len (sb_var 6 (pv 6)))) (sb_of se_int) (nomark _)) (sw_and1 (st_cmp ck_notB (sb_of (se_call d_may_open (rm hr) (by rfl) (sa_cons (se_ix (sb_var 8 (pv 8)) (sb_of se_int) (fun _ _ => rfl)) (sa_cons (se_ix (sb_var 6 (pv 6)) (sb_of (se_sub (sb_of (se_len (by rfl) m.len (sb_var 6 (pv 6)))) (sb_of se_int))) (fun _ _ => rfl)) sa_nil)) (hlen := (aCons_len (aCons_len aNil_len))))) (sb_of se_bl) (nomark _))))) (ss_one (ss_ret se_bl)) ss_nil) (ss_cons (ss_set (i := 3) sc.nd rfl (.inr rfl) (se_plus (sb_of se_int) (sb_of (se_mod (sb_of (se_intc (by rfl) m.int (sb_of (se_ix (sb_var 1 (pv 1)) (sb_of se_int) (fun _ _ => rfl))))) (sb_of se_int))))) (ss_cons (ss_set (i := 17) sc.nd rfl (.inl rfl) (se_tuple (by rfl) m.tuple (sb_ofF (sf_lc rfl sc.nd (sib_seq (sb_var 5 (pv 5))) (blkOk_by (N := N_law) (sc := defScope s_law) (own := [("level", 19)]) (by decide +kernel)) (fun _ _ _ _ _ => (sg_name (i := 19) sc.nd rfl (by first | exact .inl rfl | exact .inr rfl))) (fun _ _ _ _ _ => sts_nil) (fun _ _ _ _ _ => (se_call d__law_times (rm hr) (by rfl) (sa_cons (se_var 19 (pv 19)) (sa_cons (se_tup (sa_cons (se_var 3 (pv 3)) (sa_cons se_int sa_nil))) sa_nil)) (hlen := (aCons_len (aCons_len aNil_len))))) (by decide))))) (ss_cons (ss_set (i := 18) sc.nd rfl (.inl rfl) (se_tup (sa_cons (se_tuple (by rfl) m.tuple (sb_ofF (sf_lc rfl sc.nd (sib_seq (sb_of (se_ix (sb_var 8 (pv 8)) (sb_of se_int) (fun _ _ => rfl)))) (blkOk_by (N := N_law) (sc := defScope s_law) (own := [("level", 19)]) (by decide +kernel)) (fun _ _ _ _ _ => (sg_name (i := 19) sc.nd rfl (by first | exact .inl rfl | exact .inr rfl))) (fun _ _ _ _ _ => sts_nil) (fun _ _ _ _ _ => (se_call d__law_times (rm hr) (by rfl) (sa_cons (se_var 19 (pv 19)) (sa_cons (se_tup (sa_cons (se_var 3 (pv 3)) (sa_cons se_int sa_nil))) sa_nil)) (hlen := (aCons_len (aCons_len aNil_len))))) (by decide)))) (sa_cons (se_call d__law_times (rm hr) (by rfl) (sa_cons (se_ix (sb_var 8 (pv 8)) (sb_of se_int) (fun _ _ => rfl)) (sa_cons (se_tup (sa_cons (se_var 3 (pv 3)) (sa_cons se_int sa_nil))) sa_nil)) (hlen := (aCons_len (aCons_len aNil_len)))) sa_nil)))) (ss_fz 6 (ss_cons (ss_ret (se_call d__law_like (rm hr) (by rfl) (sa_cons (se_call d__law_told (rm hr) (by rfl) (sa_cons (se_var 4 (pv 4)) (sa_cons (se_var 17 (pv 17)) (sa_cons (se_var 6 (pv 6)) sa_nil))) (hlen := (aCons_len (aCons_len (aCons_len aNil_len))))) (sa_cons (se_var 18 (pv 18)) sa_nil)) (hlen := (aCons_len (aCons_len aNil_len))))) ss_nil)))))))))))))))))))))))))))
end
end Wk

set_option Elab.async false
set_option linter.all false
set_option maxRecDepth 100000
namespace Wk
noncomputable section
open PySem PySem.Spec PyProof.Rows L2 Pl
def f_divisor : List PV → Option PV := fnDef 2 (b_divisor)
def f_lowest : List PV → Option PV := fnDef 3 (b_lowest f_divisor)
def f_plus : List PV → Option PV := fnDef 2 (b_plus f_lowest)
def f_times : List PV → Option PV := fnDef 2 (b_times f_lowest)
def f_parted : List PV → Option PV := fnDef 2 (b_parted f_lowest)
def f_whole : List PV → Option PV := fnDef 1 (b_whole)
def f_summed : List PV → Option PV := fnDef 3 (b_summed f_plus)
def f_size_of : List PV → Option PV := fnDef 1 (b_size_of)
def f_level_of : List PV → Option PV := fnDef 2 (b_level_of f_whole)
def f_may_open : List PV → Option PV := fnDef 2 (b_may_open f_level_of)
def f_gates_free : List PV → Option PV := fnDef 4 (b_gates_free f_may_open)
def f_evened : List PV → Option PV := fnDef 5 (b_evened f_whole f_plus f_times f_parted)
def f_level_steps : List PV → Option PV := fnDef 11 (b_level_steps f_evened f_plus f_size_of f_times f_whole f_summed)
def f_level_run : List PV → Option PV := fnDef 3 (b_level_run f_level_steps)
def f_water_moved : List PV → Option PV := fnDef 3 (b_water_moved f_level_steps)
def f__law_mixed : List PV → Option PV := fnDef 6 (b__law_mixed)
def f__law_row : List PV → Option PV := fnDef 5 (b__law_row f__law_mixed)
def f__law_is_int : List PV → Option PV := fnDef 1 (b__law_is_int)
def g__law_like : Nat → List PV → Option PV
  | 0 => fun _ => none
  | d + 1 => fnDef 3 (b__law_like (g__law_like d) f__law_is_int)
abbrev f__law_like : List PV → Option PV := g__law_like 8
def f__law_low : List PV → Option PV := fnDef 4 (b__law_low)
def f__law_sum : List PV → Option PV := fnDef 2 (b__law_sum f__law_low)
def f__law_times : List PV → Option PV := fnDef 2 (b__law_times f__law_low)
def f__law_level : List PV → Option PV := fnDef 2 (b__law_level)
def f__law_joined : List PV → Option PV := fnDef 12 (b__law_joined f__law_sum f__law_times)
def f__law_run : List PV → Option PV := fnDef 6 (b__law_run f__law_joined f__law_sum)
def f__law_told : List PV → Option PV := fnDef 6 (b__law_told f_water_moved f_level_run)
def f__law_whole : List PV → Option PV := fnDef 4 (b__law_whole f__law_sum f__law_times)
def f_law : List PV → Option PV := fnDef 21 (b_law f__law_row f__law_low f__law_run f__law_like f__law_told f_level_run f__law_whole f__law_level f_gates_free f_may_open f__law_times)
end
end Wk

set_option Elab.async false
set_option linter.all false
set_option maxRecDepth 100000
set_option autoImplicit false
namespace Cm
open PySem PySem.Spec PyProof.Rows L2 Pl
/-! ### operations at ints -/
theorem mulOk_l {i j : Int} (h : i.natAbs < 2 ^ 63) : mulOk i j = true := by
  unfold mulOk
  rw [decide_eq_true h]
  rfl
theorem mulOk_r {i j : Int} (h : j.natAbs < 2 ^ 63) : mulOk i j = true := by
  unfold mulOk
  rw [decide_eq_true h, Bool.or_true]
theorem divOk_of {j : Int} (h : j.natAbs < 2 ^ 63) : divOk j = true := by
  unfold divOk
  apply decide_eq_true
  rcases Nat.eq_zero_or_pos j.natAbs with h0 | h0
  · rw [h0]; decide
  · have := (Nat.log2_lt (by omega)).2 h
    omega
theorem pPlus_i (i j : Int) : pPlus (.int i) (.int j) = some (.int (i + j)) := rfl
theorem pMul_i {i j : Int} (h : mulOk i j = true) : pMul (.int i) (.int j) = some (.int (i * j)) := if_pos h
theorem pDiv_i {i j : Int} (h : 0 < j) (h2 : j.natAbs < 2 ^ 63) : pDiv (.int i) (.int j) = some (.int (i / j)) := by
  unfold pDiv
  simp only [if_pos h, if_pos (divOk_of h2)]
theorem pDiv_j {i j : Int} (h : 0 < j) (h2 : j < 9223372036854775808) : pDiv (.int i) (.int j) = some (.int (i / j)) := pDiv_i h (by omega)
theorem mulOk_x {i j : Int} (h : -9223372036854775808 < i) (h2 : i < 9223372036854775808) : mulOk i j = true := mulOk_l (by omega)
theorem mulOk_y {i j : Int} (h : -9223372036854775808 < j) (h2 : j < 9223372036854775808) : mulOk i j = true := mulOk_r (by omega)
theorem pMod_i {i j : Int} (h : 0 < j) : pMod (.int i) (.int j) = some (.int (i % j)) := if_pos h
theorem pEq_i (i j : Int) : pEq (.int i) (.int j) = some (.bool (decide (i = j))) := rfl
theorem pNe_i (i j : Int) : pNe (.int i) (.int j) = some (.bool (!decide (i = j))) := rfl
theorem pLt_i (i j : Int) : pLt (.int i) (.int j) = some (.bool (decide (i < j))) := rfl
theorem pLe_i (i j : Int) : pLe (.int i) (.int j) = some (.bool (decide (i ≤ j))) := rfl
theorem pGt_i (i j : Int) : pGt (.int i) (.int j) = some (.bool (decide (j < i))) := rfl
theorem pGe_i (i j : Int) : pGe (.int i) (.int j) = some (.bool (decide (j ≤ i))) := rfl
theorem szl : sizeLine = 16777216 := by decide
theorem pTup_s {l : List PV} (h : l.length ≤ 16777216) : pTup l = some (.tuple l) := if_pos (decide_eq_true (by rw [szl]; exact h))
theorem pLst_s {l : List PV} (h : l.length ≤ 16777216) : pLst l = some (.list l) := if_pos (decide_eq_true (by rw [szl]; exact h))
/-! equality of typed data -/
theorem pEq_sh {v w : PV} (hv : SeqAt.shaped v = true) (hw : SeqAt.shaped w = true) : pEq v w = some (.bool (PyData.eqv v w)) := by
  unfold pEq
  split
  · simp only [PyData.eqv]
    rw [PySem.W.beq_decide]
  · rw [if_pos ⟨hv, hw⟩]
theorem pNe_sh {v w : PV} (hv : SeqAt.shaped v = true) (hw : SeqAt.shaped w = true) : pNe v w = some (.bool (!PyData.eqv v w)) := by
  unfold pNe
  split
  · simp only [PyData.eqv]
    rw [PySem.W.beq_decide]
  · rw [if_pos ⟨hv, hw⟩]
class Dc (α : Type) [DecidableEq α] [PySem.W.Datum α] where
  can : ∀ a : α, (PySem.W.Datum.toD a).canLay0 = true
instance : Dc Int := ⟨fun _ => rfl⟩
instance : Dc Bool := ⟨fun _ => rfl⟩
instance : Dc Unit := ⟨fun _ => rfl⟩
section
variable {α β : Type} [DecidableEq α] [PySem.W.Datum α] [Dc α] [DecidableEq β] [PySem.W.Datum β] [Dc β]
theorem can_all : ∀ l : List α, PyData.canLayAll0 (l.map PySem.W.Datum.toD) = true
  | [] => rfl
  | x :: l => by rw [List.map_cons, PyData.canLayAll0, Dc.can, can_all l]; rfl
instance : Dc (List α) := ⟨fun l => by show PyData.canLay0 (.list _) = true; rw [PyData.canLay0]; exact can_all l⟩
instance : Dc (PySem.W.Tup α) := ⟨fun l => by show PyData.canLay0 (.tuple _) = true; rw [PyData.canLay0]; exact can_all l.items⟩
instance : Dc (α × β) := ⟨fun l => by show PyData.canLay0 (.tuple [_, _]) = true; simp only [PyData.canLay0, PyData.canLayAll0, Dc.can]; rfl⟩
theorem sh_D (a : α) (h : PySem.W.Datum.depth α ≤ 64) : SeqAt.shaped (PySem.W.Datum.toD a) = true := by
  unfold SeqAt.shaped
  rw [Dc.can, Bool.true_and]
  exact decide_eq_true (Nat.le_trans (PySem.W.Datum.depth_le a) h)
theorem pEq_D (a b : α) (h : PySem.W.Datum.depth α ≤ 64) : pEq (PySem.W.Datum.toD a) (PySem.W.Datum.toD b) = some (.bool (decide (a = b))) := by
  rw [pEq_sh (sh_D a h) (sh_D b h), PySem.W.Datum.eqv]
theorem pNe_D (a b : α) (h : PySem.W.Datum.depth α ≤ 64) : pNe (PySem.W.Datum.toD a) (PySem.W.Datum.toD b) = some (.bool (!decide (a = b))) := by
  rw [pNe_sh (sh_D a h) (sh_D b h), PySem.W.Datum.eqv]
end
theorem sh_str {s : Str} (h : PyData.strOk s = true) : SeqAt.shaped (.str s) = true := by
  unfold SeqAt.shaped
  rw [PyData.canLay0, h, Bool.true_and]
  exact decide_eq_true (Nat.le_trans (PySem.W.Datum.depth_le s) (Nat.zero_le _))
theorem pEq_str {s t : Str} (h : PyData.strOk s = true) (h' : PyData.strOk t = true) : pEq (.str s) (.str t) = some (.bool (decide (s = t))) := (pEq_sh (sh_str h) (sh_str h')).trans (congrArg (fun b => some (PyData.bool b)) (PySem.W.Datum.eqv s t))
theorem pEq_bool (a b : Bool) : pEq (.bool a) (.bool b) = some (.bool (decide (a = b))) := pEq_D a b (Nat.zero_le _)
theorem pNe_bool (a b : Bool) : pNe (.bool a) (.bool b) = some (.bool (!decide (a = b))) := pNe_D a b (Nat.zero_le _)
/-! lists of ints -/
abbrev iL (l : List Int) : PV := .list (l.map PyData.int)
abbrev iT (l : List Int) : PV := .tuple (l.map PyData.int)
theorem atI_nat {α : Type} {l : List α} {i : Int} {x : α} (h0 : 0 ≤ i) (h : l[i.toNat]? = some x) : atI l i = some x := by
  obtain ⟨n, rfl⟩ := Int.eq_ofNat_of_zero_le h0
  have hn : n < l.length := by
    rcases Nat.lt_or_ge n l.length with h' | h'
    · exact h'
    · rw [Int.toNat_natCast, List.getElem?_eq_none h'] at h; cases h
  rw [Int.toNat_natCast] at h
  unfold atI ixN
  simp only [hn, Int.natCast_nonneg]
  first
  | (simp only [if_pos (show ((n : Int) < (l.length : Int)) by omega)]; simpa using h)
  | (simp; exact h)
theorem atI_neg1 {α : Type} {l : List α} {x : α} (h : l.getLast? = some x) : atI l (-1) = some x := by
  have hl : l ≠ [] := fun e => by rw [e] at h; cases h
  have hp : 0 < l.length := List.length_pos_iff.2 hl
  unfold atI ixN
  rw [if_neg (by decide), if_pos (by omega)]
  rw [List.getLast?_eq_getElem?] at h
  show l[((-1 : Int) + l.length).toNat]? = some x
  rw [show ((-1 : Int) + l.length).toNat = l.length - 1 by omega]
  exact h
theorem ix_t {l : List Int} {i : Int} (h0 : 0 ≤ i) (h1 : i < l.length) : pIx (iT l) (.int i) = some (.int (l.getD i.toNat 0)) := by
  have e : i.toNat < l.length := by omega
  refine atI_nat h0 ?_
  rw [List.getElem?_map, List.getElem?_eq_getElem e, List.getD_eq_getElem?_getD, List.getElem?_eq_getElem e]
  rfl
theorem ix_l {l : List Int} {i : Int} (h0 : 0 ≤ i) (h1 : i < l.length) : pIx (iL l) (.int i) = some (.int (l.getD i.toNat 0)) := ix_t (l := l) h0 h1
theorem ix_t1 {l : List Int} (h : l ≠ []) : pIx (iT l) (.int (-1)) = some (.int (l.getLastD 0)) := by
  refine atI_neg1 ?_
  rw [List.getLast?_map]
  cases l with
  | nil => exact absurd rfl h
  | cons a r => rw [List.getLast?_cons, List.getLastD_cons, List.getLastD_eq_getLast?]; rfl
theorem ix_l1 {l : List Int} (h : l ≠ []) : pIx (iL l) (.int (-1)) = some (.int (l.getLastD 0)) := ix_t1 h
/-! ### statements -/
theorem sq_nx {a b : PSt} {ρ ρ' : PEnv} {r : Option Fl} (h : a ρ = some (.nx ρ')) (h2 : b ρ' = r) : sSeq a b ρ = r := by
  unfold sSeq
  rw [h]
  exact h2
theorem sq_rt {a b : PSt} {ρ : PEnv} {v : PV} (h : a ρ = some (.ret v)) : sSeq a b ρ = some (.ret v) := by
  unfold sSeq
  rw [h]
  rfl
theorem if_t {c : PEnv → Option Bool} {a b : PSt} {ρ : PEnv} {r : Option Fl} (h : c ρ = some true) (h2 : a ρ = r) : sIf c a b ρ = r := by
  unfold sIf
  rw [h]
  exact h2
theorem if_f {c : PEnv → Option Bool} {a b : PSt} {ρ : PEnv} {r : Option Fl} (h : c ρ = some false) (h2 : b ρ = r) : sIf c a b ρ = r := by
  unfold sIf
  rw [h]
  exact h2
theorem fn_rt {n : Nat} {b : PSt} {l : List PV} {v : PV} (h : b (startE n l) = some (.ret v)) : fnDef n b l = some v := by
  unfold fnDef
  rw [h]
  rfl
/-! loops -/
theorem lp_inv {α β : Type} {h : GF} {b : PSt} (enc : α → PV) (f : β → α → β) (Inv : β → PEnv → Prop) : ∀ (l : List α), (∀ a ∈ l, ∀ s ρ, Inv s ρ → ∃ ρ1 ρ2, h (enc a) ρ = some ρ1 ∧ b ρ1 = some (.nx ρ2) ∧ Inv (f s a) ρ2) → ∀ (s : β) (ρ : PEnv), Inv s ρ → ∃ ρ', loopF h b (l.map enc) ρ = some (.nx ρ') ∧ Inv (l.foldl f s) ρ'
  | [], _, s, ρ, i => ⟨ρ, rfl, i⟩
  | a :: l, st, s, ρ, i => by
    obtain ⟨ρ1, ρ2, e1, e2, i2⟩ := st a (List.mem_cons_self ..) s ρ i
    obtain ⟨ρ', e, i'⟩ := lp_inv enc f Inv l (fun a ha => st a (List.mem_cons_of_mem _ ha)) _ _ i2
    refine ⟨ρ', ?_, i'⟩
    rw [List.map_cons, loopF, e1, Option.bind_some, e2, Option.bind_some]
    exact e
/-- a loop that gives an answer at the first place of P -/
theorem lp_find {α : Type} {h : GF} {b : PSt} (enc : α → PV) (P : α → Bool) (g : α → PV) (Inv : PEnv → Prop) : ∀ (l : List α), (∀ a ∈ l, ∀ ρ, Inv ρ → ∃ ρ1, h (enc a) ρ = some ρ1 ∧ if P a = true then b ρ1 = some (.ret (g a)) else ∃ ρ2, b ρ1 = some (.nx ρ2) ∧ Inv ρ2) → ∀ (ρ : PEnv), Inv ρ → (∃ a, l.find? P = some a ∧ loopF h b (l.map enc) ρ = some (.ret (g a))) ∨ (l.find? P = none ∧ ∃ ρ', loopF h b (l.map enc) ρ = some (.nx ρ') ∧ Inv ρ')
  | [], _, ρ, i => .inr ⟨rfl, ρ, rfl, i⟩
  | a :: l, st, ρ, i => by
    obtain ⟨ρ1, e1, e2⟩ := st a (List.mem_cons_self ..) ρ i
    by_cases hp : P a = true
    · rw [if_pos hp] at e2
      refine .inl ⟨a, List.find?_cons_of_pos hp, ?_⟩
      rw [List.map_cons, loopF, e1, Option.bind_some, e2]
      rfl
    · rw [if_neg hp] at e2
      obtain ⟨ρ2, e2, i2⟩ := e2
      have q : loopF h b ((a :: l).map enc) ρ = loopF h b (l.map enc) ρ2 := by
        rw [List.map_cons, loopF, e1, Option.bind_some, e2]
        rfl
      rw [q, List.find?_cons_of_neg hp]
      exact lp_find enc P g Inv l (fun a ha => st a (List.mem_cons_of_mem _ ha)) _ i2
theorem lw_inv {c : PEnv → Option Bool} {b : PSt} {β : Type} (Inv : β → PEnv → Prop) (f : β → β) (P : β → Bool) (st : ∀ s ρ, Inv s ρ → c ρ = some (P s) ∧ (P s = true → ∃ ρ', b ρ = some (.nx ρ') ∧ Inv (f s) ρ')) : ∀ (k n : Nat) (s : β) (ρ : PEnv), (∀ j, j < k → P (Nat.repeat f j s) = true) → P (Nat.repeat f k s) = false → k < n → Inv s ρ → ∃ ρ', loopW c b n ρ = some (.nx ρ') ∧ Inv (Nat.repeat f k s) ρ' := by
  intro k
  induction k with
  | zero =>
    intro n s ρ _ hf hn i
    obtain ⟨n, rfl⟩ : ∃ m, n = m + 1 := ⟨n - 1, by omega⟩
    refine ⟨ρ, ?_, i⟩
    rw [loopW, (st s ρ i).1]
    change P s = false at hf
    rw [hf]
    rfl
  | succ k ih =>
    intro n s ρ ht hf hn i
    obtain ⟨n, rfl⟩ : ∃ m, n = m + 1 := ⟨n - 1, by omega⟩
    have sh : ∀ j, Nat.repeat f (j + 1) s = Nat.repeat f j (f s) := fun j => by
      induction j with
      | zero => rfl
      | succ j ih2 => rw [Nat.repeat, ih2, Nat.repeat]
    have h0 : P s = true := ht 0 (by omega)
    obtain ⟨ρ2, e2, i2⟩ := (st s ρ i).2 h0
    obtain ⟨ρ', e, i'⟩ := ih n (f s) ρ2 (fun j hj => by rw [← sh]; exact ht (j + 1) (by omega)) (by rw [← sh]; exact hf) (by omega) i2
    refine ⟨ρ', ?_, by rw [sh]; exact i'⟩
    rw [loopW, (st s ρ i).1, h0, Option.bind_some, if_pos rfl, e2]
    exact e
/-! comprehensions -/
theorem cp_map {α : Type} {h : GF} {c : PEnv → Option Bool} {e : PF} {ρ : PEnv} (enc : α → PV) (f : α → PV) : ∀ (l : List α), (∀ a ∈ l, ∃ ρ1, h (enc a) ρ = some ρ1 ∧ c ρ1 = some true ∧ e ρ1 = some (f a)) → compL h c e ρ (l.map enc) = some (l.map f)
  | [], _ => rfl
  | a :: l, st => by
    obtain ⟨ρ1, e1, e2, e3⟩ := st a (List.mem_cons_self ..)
    rw [List.map_cons, compL, e1, Option.bind_some, e2, Option.bind_some, if_pos rfl, e3, Option.bind_some, cp_map enc f l (fun a ha => st a (List.mem_cons_of_mem _ ha))]
    rfl
theorem cp_flt {α : Type} {h : GF} {c : PEnv → Option Bool} {e : PF} {ρ : PEnv} (enc : α → PV) (P : α → Bool) (f : α → PV) : ∀ (l : List α), (∀ a ∈ l, ∃ ρ1, h (enc a) ρ = some ρ1 ∧ c ρ1 = some (P a) ∧ (P a = true → e ρ1 = some (f a))) → compL h c e ρ (l.map enc) = some ((l.filter P).map f)
  | [], _ => rfl
  | a :: l, st => by
    obtain ⟨ρ1, e1, e2, e3⟩ := st a (List.mem_cons_self ..)
    have ih := cp_flt enc P f l (fun a ha => st a (List.mem_cons_of_mem _ ha))
    rw [List.map_cons, compL, e1, Option.bind_some, e2, Option.bind_some]
    by_cases hp : P a = true
    · rw [hp, if_pos rfl, e3 hp, Option.bind_some, ih, List.filter_cons_of_pos hp]
      rfl
    · rw [if_neg hp, ih, List.filter_cons_of_neg hp]
/-- [f(a) for a in L] -/
theorem ec_map {α : Type} {L : LF} {vs : List Nat} {h : GF} {c : PEnv → Option Bool} {e : PF} {ρ : PEnv} (enc : α → PV) (f : α → PV) {l : List α} (hL : L ρ = some (l.map enc)) (hn : l.length ≤ 16777216) (st : ∀ a ∈ l, ∃ ρ1, h (enc a) (wipeE ρ vs) = some ρ1 ∧ c ρ1 = some true ∧ e ρ1 = some (f a)) : eComp L vs h c e ρ = some (.list (l.map f)) := by
  unfold eComp
  rw [hL, Option.bind_some, cp_map enc f l st]
  exact pLst_s (by rw [List.length_map]; exact hn)
theorem ec_flt {α : Type} {L : LF} {vs : List Nat} {h : GF} {c : PEnv → Option Bool} {e : PF} {ρ : PEnv} (enc : α → PV) (P : α → Bool) (f : α → PV) {l : List α} (hL : L ρ = some (l.map enc)) (hn : l.length ≤ 16777216) (st : ∀ a ∈ l, ∃ ρ1, h (enc a) (wipeE ρ vs) = some ρ1 ∧ c ρ1 = some (P a) ∧ (P a = true → e ρ1 = some (f a))) : eComp L vs h c e ρ = some (.list ((l.filter P).map f)) := by
  unfold eComp
  rw [hL, Option.bind_some, cp_flt enc P f l st]
  exact pLst_s (by rw [List.length_map]; exact Nat.le_trans (List.length_filter_le ..) hn)
/-! ranges: over natural numbers -/
abbrev nI (n : Nat) : PV := .int n
theorem rg_1 {f : PF} {ρ : PEnv} {n : Int} (h : f ρ = some (.int n)) (h1 : n < 2 ^ 62) (h0 : -(2 ^ 62) ≤ n) : lRng1 f ρ = some ((List.range n.toNat).map nI) := by
  unfold lRng1
  rw [h, Option.bind_some]
  unfold pRng
  have ok : rOk 0 n = true := by
    unfold rOk
    simp only [Bool.and_eq_true, decide_eq_true_eq]
    omega
  simp only [toI, Option.bind_some, if_pos ok]
  unfold rng
  rw [List.map_map, Int.sub_zero]
  congr 1
  apply List.map_congr_left
  intro k _
  show PyData.int (0 + (k : Int)) = PyData.int k
  rw [Int.zero_add]
theorem rg_2 {f g : PF} {ρ : PEnv} {a b : Int} (h : f ρ = some (.int a)) (h' : g ρ = some (.int b)) (h0 : -(2 ^ 62) ≤ a) (h1 : a < 2 ^ 62) (h2 : -(2 ^ 62) ≤ b) (h3 : b < 2 ^ 62) : lRng2 f g ρ = some ((rng a b).map PyData.int) := by
  unfold lRng2
  rw [h, Option.bind_some, h', Option.bind_some]
  unfold pRng
  have ok : rOk a b = true := by
    unfold rOk
    simp only [Bool.and_eq_true, decide_eq_true_eq]
    omega
  simp only [toI, Option.bind_some, if_pos ok]
theorem mem_rng {a b x : Int} : x ∈ rng a b ↔ a ≤ x ∧ x < b := by
  unfold rng
  rw [List.mem_map]
  constructor
  · rintro ⟨k, hk, rfl⟩
    have := List.mem_range.1 hk
    omega
  · intro h
    exact ⟨(x - a).toNat, List.mem_range.2 (by omega), by omega⟩
/-! ### the row -/
abbrev b_mixed : PSt := (sSeq (sAsg (eK (.int 0)) (gN 2)) (sSeq (sIf (cB (e2 pGt (e1 pLen (eB 0)) (eK (.int 0)))) (sAsg (e2 pIx (eB 0) (e2 pMod (eB 1) (e1 pLen (eB 0)))) (gN 2)) sNil) (sSeq (sAsg (e2 pMod (e1 pInt (e2 pPlus (e2 pPlus (e2 pMul (eB 2) (eK (.int 48271))) (e2 pMul (eB 1) (eK (.int 69621)))) (eK (.int 8191)))) (eK (.int 2147483647))) (gN 3)) (sSeq (sAsg (e2 pMod (e1 pInt (e2 pPlus (e2 pPlus (e2 pMul (eB 3) (eB 3)) (e2 pDiv (eB 3) (eK (.int 7)))) (e2 pMul (eB 1) (eK (.int 16807))))) (eK (.int 2147483629))) (gN 4)) (sSeq (sAsg (e2 pMod (e1 pInt (e2 pPlus (e2 pPlus (e2 pMul (eB 4) (eB 4)) (e2 pDiv (eB 4) (eK (.int 11)))) (eK (.int 40692)))) (eK (.int 2147483563))) (gN 5)) (sRet (e2 pMod (e2 pDiv (eB 5) (eK (.int 5))) (eK (.int 1000003)))))))))
def f_mixed : List PV → Option PV := fnDef 6 b_mixed
theorem mixed_is (ns : List Int) (k : Nat) : ∃ r : Int, f_mixed [iL ns, nI k] = some (.int r) ∧ 0 ≤ r ∧ r < 1000003 := by
  suffices h : ∃ r : Int, b_mixed (startE 6 [iL ns, nI k]) = some (.ret (.int r)) ∧ 0 ≤ r ∧ r < 1000003 by
    obtain ⟨r, h1, h2⟩ := h
    exact ⟨r, fn_rt h1, h2⟩
  have rest : ∀ cell : Int, ∃ r : Int, (sSeq (sAsg (e2 pMod (e1 pInt (e2 pPlus (e2 pPlus (e2 pMul (eB 2) (eK (.int 48271))) (e2 pMul (eB 1) (eK (.int 69621)))) (eK (.int 8191)))) (eK (.int 2147483647))) (gN 3)) (sSeq (sAsg (e2 pMod (e1 pInt (e2 pPlus (e2 pPlus (e2 pMul (eB 3) (eB 3)) (e2 pDiv (eB 3) (eK (.int 7)))) (e2 pMul (eB 1) (eK (.int 16807))))) (eK (.int 2147483629))) (gN 4)) (sSeq (sAsg (e2 pMod (e1 pInt (e2 pPlus (e2 pPlus (e2 pMul (eB 4) (eB 4)) (e2 pDiv (eB 4) (eK (.int 11)))) (eK (.int 40692)))) (eK (.int 2147483563))) (gN 5)) (sRet (e2 pMod (e2 pDiv (eB 5) (eK (.int 5))) (eK (.int 1000003))))))) [.val (iL ns), .val (nI k), .val (.int cell), .un, .un, .un] = some (.ret (.int r)) ∧ 0 ≤ r ∧ r < 1000003 := by
    intro cell
    have m1 : ∀ j : Int, mulOk j 48271 = true := fun j => mulOk_r (by decide)
    have m2 : ∀ j : Int, mulOk j 69621 = true := fun j => mulOk_r (by decide)
    have m3 : ∀ j : Int, mulOk j 16807 = true := fun j => mulOk_r (by decide)
    have b1 : ∀ x : Int, (x % 2147483647).natAbs < 2 ^ 63 := fun x => by omega
    have b2 : ∀ x : Int, (x % 2147483629).natAbs < 2 ^ 63 := fun x => by omega
    refine ⟨_, by
      refine sq_nx (by simp only [eK, eCallB, noL, noLs, Bool.and_true, Bool.and_self, eV, eB, e1, e2, aNil, aCons, eCall, eIf, cB, cAnd, cOr, cNot, cYes, cTru, eAnd, eOr, eNot, eNotT, e3c, eSl, eSlL, oNone, oSome, toB, toI, toL, pTru, pIsN, pNotN, isNone, gN, gT, gCons', gNil', sNil, thenF, sRet, sBrk, sCnt, sAsg, sOwn, sAug, sApp, sFz, sPar, mVal, mOwn, mNil, setAllE, ownL, sIf, sSetI, lSeq, lRng1, lRng2, lEnum, wipeE, pLen, pInt, pAbs, pTuple, pList, pNeg, pSub, pAddI, pPlus_i, pMul_i, pDiv_i, pDiv_j, mulOk_x, mulOk_y, Int.reduceLT, Int.reduceNeg, Nat.reduceLeDiff, pMod_i, pEq_i, pNe_i, pLt_i, pLe_i, pGt_i, pGe_i, pMin2, pMax2, pTup_s, pLst_s, outF, Option.bind_some, Option.bind_none, List.getElem?_cons_succ, List.getElem?_cons_zero, List.length_cons, List.length_nil, List.set_cons_succ, List.set_cons_zero, Nat.reduceAdd, Nat.reduceLT, Nat.reduceSub, Nat.lt_irrefl, if_true, if_false, ite_true, ite_false, reduceIte, ↓reduceIte, Bool.not_true, Bool.not_false, Bool.false_eq_true, decide_true, not_true_eq_false, not_false_eq_true, decide_false, decide_eq_true_eq, Bool.not_eq_true', decide_eq_false_iff_not, Bool.not_eq_eq_eq_not, m1, m2, (by decide : (0:Int) < 2147483647)]; rfl) ?_
      refine sq_nx (by simp only [eK, eCallB, noL, noLs, Bool.and_true, Bool.and_self, eV, eB, e1, e2, aNil, aCons, eCall, eIf, cB, cAnd, cOr, cNot, cYes, cTru, eAnd, eOr, eNot, eNotT, e3c, eSl, eSlL, oNone, oSome, toB, toI, toL, pTru, pIsN, pNotN, isNone, gN, gT, gCons', gNil', sNil, thenF, sRet, sBrk, sCnt, sAsg, sOwn, sAug, sApp, sFz, sPar, mVal, mOwn, mNil, setAllE, ownL, sIf, sSetI, lSeq, lRng1, lRng2, lEnum, wipeE, pLen, pInt, pAbs, pTuple, pList, pNeg, pSub, pAddI, pPlus_i, pMul_i, pDiv_i, pDiv_j, mulOk_x, mulOk_y, Int.reduceLT, Int.reduceNeg, Nat.reduceLeDiff, pMod_i, pEq_i, pNe_i, pLt_i, pLe_i, pGt_i, pGe_i, pMin2, pMax2, pTup_s, pLst_s, outF, Option.bind_some, Option.bind_none, List.getElem?_cons_succ, List.getElem?_cons_zero, List.length_cons, List.length_nil, List.set_cons_succ, List.set_cons_zero, Nat.reduceAdd, Nat.reduceLT, Nat.reduceSub, Nat.lt_irrefl, if_true, if_false, ite_true, ite_false, reduceIte, ↓reduceIte, Bool.not_true, Bool.not_false, Bool.false_eq_true, decide_true, not_true_eq_false, not_false_eq_true, decide_false, decide_eq_true_eq, Bool.not_eq_true', decide_eq_false_iff_not, Bool.not_eq_eq_eq_not, m3, mulOk_l (b1 _), (by decide : (0:Int) < 2147483629), (by decide : (0:Int) < 7), (by decide : (7:Int).natAbs < 2^63)]; rfl) ?_
      refine sq_nx (by simp only [eK, eCallB, noL, noLs, Bool.and_true, Bool.and_self, eV, eB, e1, e2, aNil, aCons, eCall, eIf, cB, cAnd, cOr, cNot, cYes, cTru, eAnd, eOr, eNot, eNotT, e3c, eSl, eSlL, oNone, oSome, toB, toI, toL, pTru, pIsN, pNotN, isNone, gN, gT, gCons', gNil', sNil, thenF, sRet, sBrk, sCnt, sAsg, sOwn, sAug, sApp, sFz, sPar, mVal, mOwn, mNil, setAllE, ownL, sIf, sSetI, lSeq, lRng1, lRng2, lEnum, wipeE, pLen, pInt, pAbs, pTuple, pList, pNeg, pSub, pAddI, pPlus_i, pMul_i, pDiv_i, pDiv_j, mulOk_x, mulOk_y, Int.reduceLT, Int.reduceNeg, Nat.reduceLeDiff, pMod_i, pEq_i, pNe_i, pLt_i, pLe_i, pGt_i, pGe_i, pMin2, pMax2, pTup_s, pLst_s, outF, Option.bind_some, Option.bind_none, List.getElem?_cons_succ, List.getElem?_cons_zero, List.length_cons, List.length_nil, List.set_cons_succ, List.set_cons_zero, Nat.reduceAdd, Nat.reduceLT, Nat.reduceSub, Nat.lt_irrefl, if_true, if_false, ite_true, ite_false, reduceIte, ↓reduceIte, Bool.not_true, Bool.not_false, Bool.false_eq_true, decide_true, not_true_eq_false, not_false_eq_true, decide_false, decide_eq_true_eq, Bool.not_eq_true', decide_eq_false_iff_not, Bool.not_eq_eq_eq_not, mulOk_l (b2 _), (by decide : (0:Int) < 2147483563), (by decide : (0:Int) < 11), (by decide : (11:Int).natAbs < 2^63)]; rfl) ?_
      simp only [eK, eCallB, noL, noLs, Bool.and_true, Bool.and_self, eV, eB, e1, e2, aNil, aCons, eCall, eIf, cB, cAnd, cOr, cNot, cYes, cTru, eAnd, eOr, eNot, eNotT, e3c, eSl, eSlL, oNone, oSome, toB, toI, toL, pTru, pIsN, pNotN, isNone, gN, gT, gCons', gNil', sNil, thenF, sRet, sBrk, sCnt, sAsg, sOwn, sAug, sApp, sFz, sPar, mVal, mOwn, mNil, setAllE, ownL, sIf, sSetI, lSeq, lRng1, lRng2, lEnum, wipeE, pLen, pInt, pAbs, pTuple, pList, pNeg, pSub, pAddI, pPlus_i, pMul_i, pDiv_i, pDiv_j, mulOk_x, mulOk_y, Int.reduceLT, Int.reduceNeg, Nat.reduceLeDiff, pMod_i, pEq_i, pNe_i, pLt_i, pLe_i, pGt_i, pGe_i, pMin2, pMax2, pTup_s, pLst_s, outF, Option.bind_some, Option.bind_none, List.getElem?_cons_succ, List.getElem?_cons_zero, List.length_cons, List.length_nil, List.set_cons_succ, List.set_cons_zero, Nat.reduceAdd, Nat.reduceLT, Nat.reduceSub, Nat.lt_irrefl, if_true, if_false, ite_true, ite_false, reduceIte, ↓reduceIte, Bool.not_true, Bool.not_false, Bool.false_eq_true, decide_true, not_true_eq_false, not_false_eq_true, decide_false, decide_eq_true_eq, Bool.not_eq_true', decide_eq_false_iff_not, Bool.not_eq_eq_eq_not, (by decide : (0:Int) < 5), (by decide : (5:Int).natAbs < 2^63), (by decide : (0:Int) < 1000003)]; rfl, ?_⟩
    omega
  rcases Nat.eq_zero_or_pos ns.length with h0 | h0
  · obtain ⟨r, hr⟩ := rest 0
    refine ⟨r, ?_, hr.2⟩
    refine sq_nx (ρ' := [.val (iL ns), .val (nI k), .val (.int 0), .un, .un, .un]) rfl (sq_nx (if_f ?_ rfl) hr.1)
    simp [eK, eCallB, noL, noLs, Bool.and_true, Bool.and_self, eV, eB, e1, e2, aNil, aCons, eCall, eIf, cB, cAnd, cOr, cNot, cYes, cTru, eAnd, eOr, eNot, eNotT, e3c, eSl, eSlL, oNone, oSome, toB, toI, toL, pTru, pIsN, pNotN, isNone, gN, gT, gCons', gNil', sNil, thenF, sRet, sBrk, sCnt, sAsg, sOwn, sAug, sApp, sFz, sPar, mVal, mOwn, mNil, setAllE, ownL, sIf, sSetI, lSeq, lRng1, lRng2, lEnum, wipeE, pLen, pInt, pAbs, pTuple, pList, pNeg, pSub, pAddI, pPlus_i, pMul_i, pDiv_i, pDiv_j, mulOk_x, mulOk_y, Int.reduceLT, Int.reduceNeg, Nat.reduceLeDiff, pMod_i, pEq_i, pNe_i, pLt_i, pLe_i, pGt_i, pGe_i, pMin2, pMax2, pTup_s, pLst_s, outF, Option.bind_some, Option.bind_none, List.getElem?_cons_succ, List.getElem?_cons_zero, List.length_cons, List.length_nil, List.set_cons_succ, List.set_cons_zero, Nat.reduceAdd, Nat.reduceLT, Nat.reduceSub, Nat.lt_irrefl, if_true, if_false, ite_true, ite_false, reduceIte, ↓reduceIte, Bool.not_true, Bool.not_false, Bool.false_eq_true, decide_true, not_true_eq_false, not_false_eq_true, decide_false, decide_eq_true_eq, Bool.not_eq_true', decide_eq_false_iff_not, Bool.not_eq_eq_eq_not, h0]
  · obtain ⟨r, hr⟩ := rest (ns.getD (k % ns.length) 0)
    refine ⟨r, ?_, hr.2⟩
    refine sq_nx (ρ' := [.val (iL ns), .val (nI k), .val (.int 0), .un, .un, .un]) rfl (sq_nx (if_t ?_ (r := some (.nx [.val (iL ns), .val (nI k), .val (.int (ns.getD (k % ns.length) 0)), .un, .un, .un])) ?_) hr.1)
    · simp [eK, eCallB, noL, noLs, Bool.and_true, Bool.and_self, eV, eB, e1, e2, aNil, aCons, eCall, eIf, cB, cAnd, cOr, cNot, cYes, cTru, eAnd, eOr, eNot, eNotT, e3c, eSl, eSlL, oNone, oSome, toB, toI, toL, pTru, pIsN, pNotN, isNone, gN, gT, gCons', gNil', sNil, thenF, sRet, sBrk, sCnt, sAsg, sOwn, sAug, sApp, sFz, sPar, mVal, mOwn, mNil, setAllE, ownL, sIf, sSetI, lSeq, lRng1, lRng2, lEnum, wipeE, pLen, pInt, pAbs, pTuple, pList, pNeg, pSub, pAddI, pPlus_i, pMul_i, pDiv_i, pDiv_j, mulOk_x, mulOk_y, Int.reduceLT, Int.reduceNeg, Nat.reduceLeDiff, pMod_i, pEq_i, pNe_i, pLt_i, pLe_i, pGt_i, pGe_i, pMin2, pMax2, pTup_s, pLst_s, outF, Option.bind_some, Option.bind_none, List.getElem?_cons_succ, List.getElem?_cons_zero, List.length_cons, List.length_nil, List.set_cons_succ, List.set_cons_zero, Nat.reduceAdd, Nat.reduceLT, Nat.reduceSub, Nat.lt_irrefl, if_true, if_false, ite_true, ite_false, reduceIte, ↓reduceIte, Bool.not_true, Bool.not_false, Bool.false_eq_true, decide_true, not_true_eq_false, not_false_eq_true, decide_false, decide_eq_true_eq, Bool.not_eq_true', decide_eq_false_iff_not, Bool.not_eq_eq_eq_not, h0]
    · have hm : 0 < (ns.length : Int) := by omega
      have e : ((k : Int) % (ns.length : Int)) = ((k % ns.length : Nat) : Int) := (Int.natCast_emod k ns.length).symm
      have := ix_l (l := ns) (i := ((k % ns.length : Nat) : Int)) (by omega) (by have := Nat.mod_lt k h0; omega)
      rw [Int.toNat_natCast] at this
      simp only [eK, eCallB, noL, noLs, Bool.and_true, Bool.and_self, eV, eB, e1, e2, aNil, aCons, eCall, eIf, cB, cAnd, cOr, cNot, cYes, cTru, eAnd, eOr, eNot, eNotT, e3c, eSl, eSlL, oNone, oSome, toB, toI, toL, pTru, pIsN, pNotN, isNone, gN, gT, gCons', gNil', sNil, thenF, sRet, sBrk, sCnt, sAsg, sOwn, sAug, sApp, sFz, sPar, mVal, mOwn, mNil, setAllE, ownL, sIf, sSetI, lSeq, lRng1, lRng2, lEnum, wipeE, pLen, pInt, pAbs, pTuple, pList, pNeg, pSub, pAddI, pPlus_i, pMul_i, pDiv_i, pDiv_j, mulOk_x, mulOk_y, Int.reduceLT, Int.reduceNeg, Nat.reduceLeDiff, pMod_i, pEq_i, pNe_i, pLt_i, pLe_i, pGt_i, pGe_i, pMin2, pMax2, pTup_s, pLst_s, outF, Option.bind_some, Option.bind_none, List.getElem?_cons_succ, List.getElem?_cons_zero, List.length_cons, List.length_nil, List.set_cons_succ, List.set_cons_zero, Nat.reduceAdd, Nat.reduceLT, Nat.reduceSub, Nat.lt_irrefl, if_true, if_false, ite_true, ite_false, reduceIte, ↓reduceIte, Bool.not_true, Bool.not_false, Bool.false_eq_true, decide_true, not_true_eq_false, not_false_eq_true, decide_false, decide_eq_true_eq, Bool.not_eq_true', decide_eq_false_iff_not, Bool.not_eq_eq_eq_not, List.length_map, hm, e, this]
abbrev b_row (fn__law_mixed : List PV → Option PV) : PSt := (sSeq (sAsg (eK (.int 0)) (gN 2)) (sSeq (sIf (cAnd (cB (e2 pGt (e1 pLen (eB 0)) (eK (.int 0)))) (cB (e2 pGe (e2 pIx (eB 0) (eK (.int 0))) (e2 pPow (eK (.int 10)) (eK (.int 18)))))) (sAsg (e2 pIx (eB 0) (eK (.int 0))) (gN 2)) sNil) (sSeq (sOwn 3 (eCall pLst aNil)) (sSeq (sFor (lRng1 (eB 1)) (gN 4) (sIf (cB (e2 pGt (eB 2) (eK (.int 0)))) (sSeq (sApp 3 (e2 pMod (e1 pInt (eB 2)) (eK (.int 1000)))) (sAsg (e2 pDiv (eB 2) (eK (.int 1000))) (gN 2))) (sApp 3 (eCall fn__law_mixed (aCons (eV 0) (aCons (eV 4) aNil)))))) (sSeq (sFz 3) (sSeq (sRet (eV 3)) sNil))))))
def f_row : List PV → Option PV := fnDef 5 (b_row f_mixed)
/-- all below the row's bound -/
def Rw (r : List Int) : Prop := ∀ x ∈ r, 0 ≤ x ∧ x < 1000003
def RwI (ns : List Int) (m : Nat) (k : Nat) (ρ : PEnv) : Prop := ∃ (big : Int) (r : List Int) (s : Slot), ρ = [.val (iL ns), .val (nI m), .val (.int big), .own (iL r), s] ∧ r.length = k ∧ Rw r
theorem row_rest (ns : List Int) (m : Nat) (hm : m ≤ 1000) (big : Int) : ∃ r : List Int, (sSeq (sOwn 3 (eCall pLst aNil)) (sSeq (sFor (lRng1 (eB 1)) (gN 4) (sIf (cB (e2 pGt (eB 2) (eK (.int 0)))) (sSeq (sApp 3 (e2 pMod (e1 pInt (eB 2)) (eK (.int 1000)))) (sAsg (e2 pDiv (eB 2) (eK (.int 1000))) (gN 2))) (sApp 3 (eCall f_mixed (aCons (eV 0) (aCons (eV 4) aNil)))))) (sSeq (sFz 3) (sSeq (sRet (eV 3)) sNil)))) [.val (iL ns), .val (nI m), .val (.int big), .un, .un] = some (.ret (iL r)) ∧ r.length = m ∧ Rw r := by
  have lp2 : ∀ (l : List Nat) (k : Nat) (ρ : PEnv), RwI ns m k ρ → k + l.length ≤ m → ∃ ρ', loopF (gN 4) (sIf (cB (e2 pGt (eB 2) (eK (.int 0)))) (sSeq (sApp 3 (e2 pMod (e1 pInt (eB 2)) (eK (.int 1000)))) (sAsg (e2 pDiv (eB 2) (eK (.int 1000))) (gN 2))) (sApp 3 (eCall f_mixed (aCons (eV 0) (aCons (eV 4) aNil))))) (l.map nI) ρ = some (.nx ρ') ∧ RwI ns m (k + l.length) ρ' := by
    intro l
    induction l with
    | nil => exact fun k ρ h _ => ⟨ρ, rfl, h⟩
    | cons a l ih =>
      rintro k ρ ⟨big, r, s, rfl, hr, hw⟩ hk
      rw [List.length_cons] at hk
      have hl : (r.length < sizeLine) = True := eq_true (by rw [szl]; omega)
      have st : ∃ ρ2, (sIf (cB (e2 pGt (eB 2) (eK (.int 0)))) (sSeq (sApp 3 (e2 pMod (e1 pInt (eB 2)) (eK (.int 1000)))) (sAsg (e2 pDiv (eB 2) (eK (.int 1000))) (gN 2))) (sApp 3 (eCall f_mixed (aCons (eV 0) (aCons (eV 4) aNil))))) [.val (iL ns), .val (nI m), .val (.int big), .own (iL r), .val (nI a)] = some (.nx ρ2) ∧ RwI ns m (k + 1) ρ2 := by
        by_cases hb : 0 < big
        · refine ⟨[.val (iL ns), .val (nI m), .val (.int (big / 1000)), .own (iL (r ++ [big % 1000])), .val (nI a)], ?_, _, _, _, rfl, ?_, ?_⟩
          · refine if_t (by simp only [eK, eCallB, noL, noLs, Bool.and_true, Bool.and_self, eV, eB, e1, e2, aNil, aCons, eCall, eIf, cB, cAnd, cOr, cNot, cYes, cTru, eAnd, eOr, eNot, eNotT, e3c, eSl, eSlL, oNone, oSome, toB, toI, toL, pTru, pIsN, pNotN, isNone, gN, gT, gCons', gNil', sNil, thenF, sRet, sBrk, sCnt, sAsg, sOwn, sAug, sApp, sFz, sPar, mVal, mOwn, mNil, setAllE, ownL, sIf, sSetI, lSeq, lRng1, lRng2, lEnum, wipeE, pLen, pInt, pAbs, pTuple, pList, pNeg, pSub, pAddI, pPlus_i, pMul_i, pDiv_i, pDiv_j, mulOk_x, mulOk_y, Int.reduceLT, Int.reduceNeg, Nat.reduceLeDiff, pMod_i, pEq_i, pNe_i, pLt_i, pLe_i, pGt_i, pGe_i, pMin2, pMax2, pTup_s, pLst_s, outF, Option.bind_some, Option.bind_none, List.getElem?_cons_succ, List.getElem?_cons_zero, List.length_cons, List.length_nil, List.set_cons_succ, List.set_cons_zero, Nat.reduceAdd, Nat.reduceLT, Nat.reduceSub, Nat.lt_irrefl, if_true, if_false, ite_true, ite_false, reduceIte, ↓reduceIte, Bool.not_true, Bool.not_false, Bool.false_eq_true, decide_true, not_true_eq_false, not_false_eq_true, decide_false, decide_eq_true_eq, Bool.not_eq_true', decide_eq_false_iff_not, Bool.not_eq_eq_eq_not, hb]) (sq_nx (ρ' := [.val (iL ns), .val (nI m), .val (.int big), .own (iL (r ++ [big % 1000])), .val (nI a)]) ?_ ?_)
            · simp only [eK, eCallB, noL, noLs, Bool.and_true, Bool.and_self, eV, eB, e1, e2, aNil, aCons, eCall, eIf, cB, cAnd, cOr, cNot, cYes, cTru, eAnd, eOr, eNot, eNotT, e3c, eSl, eSlL, oNone, oSome, toB, toI, toL, pTru, pIsN, pNotN, isNone, gN, gT, gCons', gNil', sNil, thenF, sRet, sBrk, sCnt, sAsg, sOwn, sAug, sApp, sFz, sPar, mVal, mOwn, mNil, setAllE, ownL, sIf, sSetI, lSeq, lRng1, lRng2, lEnum, wipeE, pLen, pInt, pAbs, pTuple, pList, pNeg, pSub, pAddI, pPlus_i, pMul_i, pDiv_i, pDiv_j, mulOk_x, mulOk_y, Int.reduceLT, Int.reduceNeg, Nat.reduceLeDiff, pMod_i, pEq_i, pNe_i, pLt_i, pLe_i, pGt_i, pGe_i, pMin2, pMax2, pTup_s, pLst_s, outF, Option.bind_some, Option.bind_none, List.getElem?_cons_succ, List.getElem?_cons_zero, List.length_cons, List.length_nil, List.set_cons_succ, List.set_cons_zero, Nat.reduceAdd, Nat.reduceLT, Nat.reduceSub, Nat.lt_irrefl, if_true, if_false, ite_true, ite_false, reduceIte, ↓reduceIte, Bool.not_true, Bool.not_false, Bool.false_eq_true, decide_true, not_true_eq_false, not_false_eq_true, decide_false, decide_eq_true_eq, Bool.not_eq_true', decide_eq_false_iff_not, Bool.not_eq_eq_eq_not, (by decide : (0:Int) < 1000), iL, List.length_map, hl, List.map_append, List.map_cons, List.map_nil]
            · simp only [eK, eCallB, noL, noLs, Bool.and_true, Bool.and_self, eV, eB, e1, e2, aNil, aCons, eCall, eIf, cB, cAnd, cOr, cNot, cYes, cTru, eAnd, eOr, eNot, eNotT, e3c, eSl, eSlL, oNone, oSome, toB, toI, toL, pTru, pIsN, pNotN, isNone, gN, gT, gCons', gNil', sNil, thenF, sRet, sBrk, sCnt, sAsg, sOwn, sAug, sApp, sFz, sPar, mVal, mOwn, mNil, setAllE, ownL, sIf, sSetI, lSeq, lRng1, lRng2, lEnum, wipeE, pLen, pInt, pAbs, pTuple, pList, pNeg, pSub, pAddI, pPlus_i, pMul_i, pDiv_i, pDiv_j, mulOk_x, mulOk_y, Int.reduceLT, Int.reduceNeg, Nat.reduceLeDiff, pMod_i, pEq_i, pNe_i, pLt_i, pLe_i, pGt_i, pGe_i, pMin2, pMax2, pTup_s, pLst_s, outF, Option.bind_some, Option.bind_none, List.getElem?_cons_succ, List.getElem?_cons_zero, List.length_cons, List.length_nil, List.set_cons_succ, List.set_cons_zero, Nat.reduceAdd, Nat.reduceLT, Nat.reduceSub, Nat.lt_irrefl, if_true, if_false, ite_true, ite_false, reduceIte, ↓reduceIte, Bool.not_true, Bool.not_false, Bool.false_eq_true, decide_true, not_true_eq_false, not_false_eq_true, decide_false, decide_eq_true_eq, Bool.not_eq_true', decide_eq_false_iff_not, Bool.not_eq_eq_eq_not, (by decide : (0:Int) < 1000), (by decide : (1000:Int).natAbs < 2^63)]
          · rw [List.length_append, hr]; rfl
          · intro x hx
            rcases List.mem_append.1 hx with hx | hx
            · exact hw x hx
            · rw [List.mem_singleton] at hx
              omega
        · obtain ⟨v, hv, hv1, hv2⟩ := mixed_is ns a
          refine ⟨[.val (iL ns), .val (nI m), .val (.int big), .own (iL (r ++ [v])), .val (nI a)], ?_, _, _, _, rfl, ?_, ?_⟩
          · refine if_f (by simp only [eK, eCallB, noL, noLs, Bool.and_true, Bool.and_self, eV, eB, e1, e2, aNil, aCons, eCall, eIf, cB, cAnd, cOr, cNot, cYes, cTru, eAnd, eOr, eNot, eNotT, e3c, eSl, eSlL, oNone, oSome, toB, toI, toL, pTru, pIsN, pNotN, isNone, gN, gT, gCons', gNil', sNil, thenF, sRet, sBrk, sCnt, sAsg, sOwn, sAug, sApp, sFz, sPar, mVal, mOwn, mNil, setAllE, ownL, sIf, sSetI, lSeq, lRng1, lRng2, lEnum, wipeE, pLen, pInt, pAbs, pTuple, pList, pNeg, pSub, pAddI, pPlus_i, pMul_i, pDiv_i, pDiv_j, mulOk_x, mulOk_y, Int.reduceLT, Int.reduceNeg, Nat.reduceLeDiff, pMod_i, pEq_i, pNe_i, pLt_i, pLe_i, pGt_i, pGe_i, pMin2, pMax2, pTup_s, pLst_s, outF, Option.bind_some, Option.bind_none, List.getElem?_cons_succ, List.getElem?_cons_zero, List.length_cons, List.length_nil, List.set_cons_succ, List.set_cons_zero, Nat.reduceAdd, Nat.reduceLT, Nat.reduceSub, Nat.lt_irrefl, if_true, if_false, ite_true, ite_false, reduceIte, ↓reduceIte, Bool.not_true, Bool.not_false, Bool.false_eq_true, decide_true, not_true_eq_false, not_false_eq_true, decide_false, decide_eq_true_eq, Bool.not_eq_true', decide_eq_false_iff_not, Bool.not_eq_eq_eq_not, hb]) ?_
            simp only [eK, eCallB, noL, noLs, Bool.and_true, Bool.and_self, eV, eB, e1, e2, aNil, aCons, eCall, eIf, cB, cAnd, cOr, cNot, cYes, cTru, eAnd, eOr, eNot, eNotT, e3c, eSl, eSlL, oNone, oSome, toB, toI, toL, pTru, pIsN, pNotN, isNone, gN, gT, gCons', gNil', sNil, thenF, sRet, sBrk, sCnt, sAsg, sOwn, sAug, sApp, sFz, sPar, mVal, mOwn, mNil, setAllE, ownL, sIf, sSetI, lSeq, lRng1, lRng2, lEnum, wipeE, pLen, pInt, pAbs, pTuple, pList, pNeg, pSub, pAddI, pPlus_i, pMul_i, pDiv_i, pDiv_j, mulOk_x, mulOk_y, Int.reduceLT, Int.reduceNeg, Nat.reduceLeDiff, pMod_i, pEq_i, pNe_i, pLt_i, pLe_i, pGt_i, pGe_i, pMin2, pMax2, pTup_s, pLst_s, outF, Option.bind_some, Option.bind_none, List.getElem?_cons_succ, List.getElem?_cons_zero, List.length_cons, List.length_nil, List.set_cons_succ, List.set_cons_zero, Nat.reduceAdd, Nat.reduceLT, Nat.reduceSub, Nat.lt_irrefl, if_true, if_false, ite_true, ite_false, reduceIte, ↓reduceIte, Bool.not_true, Bool.not_false, Bool.false_eq_true, decide_true, not_true_eq_false, not_false_eq_true, decide_false, decide_eq_true_eq, Bool.not_eq_true', decide_eq_false_iff_not, Bool.not_eq_eq_eq_not, hv, iL, List.length_map, hl, List.map_append, List.map_cons, List.map_nil]
          · rw [List.length_append, hr]; rfl
          · intro x hx
            rcases List.mem_append.1 hx with hx | hx
            · exact hw x hx
            · rw [List.mem_singleton] at hx
              omega
      obtain ⟨ρ2, e2, i2⟩ := st
      obtain ⟨ρ', e', i'⟩ := ih (k + 1) ρ2 i2 (by omega)
      refine ⟨ρ', ?_, by rw [List.length_cons, show k + (l.length + 1) = k + 1 + l.length by omega]; exact i'⟩
      rw [List.map_cons, loopF]
      show (Option.bind (some [Slot.val (iL ns), .val (nI m), .val (.int big), .own (iL r), .val (nI a)]) _) = _
      rw [Option.bind_some, e2, Option.bind_some]
      exact e'
  obtain ⟨ρ', e', ⟨big', r, s, rfl, hr, hw⟩⟩ := lp2 (List.range m) 0 [.val (iL ns), .val (nI m), .val (.int big), .own (iL []), .un] ⟨big, [], .un, rfl, rfl, fun x hx => by cases hx⟩ (by rw [List.length_range]; omega)
  rw [List.length_range, Nat.zero_add] at hr
  refine ⟨r, ?_, hr, hw⟩
  refine sq_nx (ρ' := [.val (iL ns), .val (nI m), .val (.int big), .own (iL []), .un]) (by simp only [eK, eCallB, noL, noLs, Bool.and_true, Bool.and_self, eV, eB, e1, e2, aNil, aCons, eCall, eIf, cB, cAnd, cOr, cNot, cYes, cTru, eAnd, eOr, eNot, eNotT, e3c, eSl, eSlL, oNone, oSome, toB, toI, toL, pTru, pIsN, pNotN, isNone, gN, gT, gCons', gNil', sNil, thenF, sRet, sBrk, sCnt, sAsg, sOwn, sAug, sApp, sFz, sPar, mVal, mOwn, mNil, setAllE, ownL, sIf, sSetI, lSeq, lRng1, lRng2, lEnum, wipeE, pLen, pInt, pAbs, pTuple, pList, pNeg, pSub, pAddI, pPlus_i, pMul_i, pDiv_i, pDiv_j, mulOk_x, mulOk_y, Int.reduceLT, Int.reduceNeg, Nat.reduceLeDiff, pMod_i, pEq_i, pNe_i, pLt_i, pLe_i, pGt_i, pGe_i, pMin2, pMax2, pTup_s, pLst_s, outF, Option.bind_some, Option.bind_none, List.getElem?_cons_succ, List.getElem?_cons_zero, List.length_cons, List.length_nil, List.set_cons_succ, List.set_cons_zero, Nat.reduceAdd, Nat.reduceLT, Nat.reduceSub, Nat.lt_irrefl, if_true, if_false, ite_true, ite_false, reduceIte, ↓reduceIte, Bool.not_true, Bool.not_false, Bool.false_eq_true, decide_true, not_true_eq_false, not_false_eq_true, decide_false, decide_eq_true_eq, Bool.not_eq_true', decide_eq_false_iff_not, Bool.not_eq_eq_eq_not, (by decide : (0 ≤ 16777216) = True), List.map_nil] <;> rfl) (sq_nx ?_ rfl (ρ' := [.val (iL ns), .val (nI m), .val (.int big'), .own (iL r), s]))
  unfold sFor
  rw [rg_1 (n := m) rfl (by omega) (by omega), Option.bind_some, Int.toNat_natCast]
  exact e'
theorem row_is (ns : List Int) (m : Nat) (hm : m ≤ 1000) : ∃ r : List Int, f_row [iL ns, nI m] = some (iL r) ∧ r.length = m ∧ Rw r := by
  suffices h : ∃ r : List Int, b_row f_mixed (startE 5 [iL ns, nI m]) = some (.ret (iL r)) ∧ r.length = m ∧ Rw r by
    obtain ⟨r, h1, h2⟩ := h
    exact ⟨r, fn_rt h1, h2⟩
  have st : ∃ big : Int, ∀ t, (sSeq (sIf (cAnd (cB (e2 pGt (e1 pLen (eB 0)) (eK (.int 0)))) (cB (e2 pGe (e2 pIx (eB 0) (eK (.int 0))) (e2 pPow (eK (.int 10)) (eK (.int 18)))))) (sAsg (e2 pIx (eB 0) (eK (.int 0))) (gN 2)) sNil) t) [.val (iL ns), .val (nI m), .val (.int 0), .un, .un] = t [.val (iL ns), .val (nI m), .val (.int big), .un, .un] := by
    cases ns with
    | nil => exact ⟨0, fun t => sq_nx (if_f rfl rfl) rfl⟩
    | cons n ns =>
      have p : pPow (.int 10) (.int 18) = some (.int 1000000000000000000)  := by simp [pPow]
      have hx : pIx (iL (n :: ns)) (.int 0) = some (.int n) := ix_l (l := n :: ns) (i := 0) (by decide) (by rw [List.length_cons]; omega)
      by_cases hn : (1000000000000000000 : Int) ≤ n
      · refine ⟨n, fun t => sq_nx (if_t ?_ (r := some (.nx [.val (iL (n :: ns)), .val (nI m), .val (.int n), .un, .un])) ?_) rfl⟩
        · simp only [eK, eCallB, noL, noLs, Bool.and_true, Bool.and_self, eV, eB, e1, e2, aNil, aCons, eCall, eIf, cB, cAnd, cOr, cNot, cYes, cTru, eAnd, eOr, eNot, eNotT, e3c, eSl, eSlL, oNone, oSome, toB, toI, toL, pTru, pIsN, pNotN, isNone, gN, gT, gCons', gNil', sNil, thenF, sRet, sBrk, sCnt, sAsg, sOwn, sAug, sApp, sFz, sPar, mVal, mOwn, mNil, setAllE, ownL, sIf, sSetI, lSeq, lRng1, lRng2, lEnum, wipeE, pLen, pInt, pAbs, pTuple, pList, pNeg, pSub, pAddI, pPlus_i, pMul_i, pDiv_i, pDiv_j, mulOk_x, mulOk_y, Int.reduceLT, Int.reduceNeg, Nat.reduceLeDiff, pMod_i, pEq_i, pNe_i, pLt_i, pLe_i, pGt_i, pGe_i, pMin2, pMax2, pTup_s, pLst_s, outF, Option.bind_some, Option.bind_none, List.getElem?_cons_succ, List.getElem?_cons_zero, List.length_cons, List.length_nil, List.set_cons_succ, List.set_cons_zero, Nat.reduceAdd, Nat.reduceLT, Nat.reduceSub, Nat.lt_irrefl, if_true, if_false, ite_true, ite_false, reduceIte, ↓reduceIte, Bool.not_true, Bool.not_false, Bool.false_eq_true, decide_true, not_true_eq_false, not_false_eq_true, decide_false, decide_eq_true_eq, Bool.not_eq_true', decide_eq_false_iff_not, Bool.not_eq_eq_eq_not, hx, p, hn, List.length_map]
          simp <;> omega
        · simp only [eK, eCallB, noL, noLs, Bool.and_true, Bool.and_self, eV, eB, e1, e2, aNil, aCons, eCall, eIf, cB, cAnd, cOr, cNot, cYes, cTru, eAnd, eOr, eNot, eNotT, e3c, eSl, eSlL, oNone, oSome, toB, toI, toL, pTru, pIsN, pNotN, isNone, gN, gT, gCons', gNil', sNil, thenF, sRet, sBrk, sCnt, sAsg, sOwn, sAug, sApp, sFz, sPar, mVal, mOwn, mNil, setAllE, ownL, sIf, sSetI, lSeq, lRng1, lRng2, lEnum, wipeE, pLen, pInt, pAbs, pTuple, pList, pNeg, pSub, pAddI, pPlus_i, pMul_i, pDiv_i, pDiv_j, mulOk_x, mulOk_y, Int.reduceLT, Int.reduceNeg, Nat.reduceLeDiff, pMod_i, pEq_i, pNe_i, pLt_i, pLe_i, pGt_i, pGe_i, pMin2, pMax2, pTup_s, pLst_s, outF, Option.bind_some, Option.bind_none, List.getElem?_cons_succ, List.getElem?_cons_zero, List.length_cons, List.length_nil, List.set_cons_succ, List.set_cons_zero, Nat.reduceAdd, Nat.reduceLT, Nat.reduceSub, Nat.lt_irrefl, if_true, if_false, ite_true, ite_false, reduceIte, ↓reduceIte, Bool.not_true, Bool.not_false, Bool.false_eq_true, decide_true, not_true_eq_false, not_false_eq_true, decide_false, decide_eq_true_eq, Bool.not_eq_true', decide_eq_false_iff_not, Bool.not_eq_eq_eq_not, hx]
      · refine ⟨0, fun t => sq_nx (if_f ?_ rfl) rfl⟩
        simp only [eK, eCallB, noL, noLs, Bool.and_true, Bool.and_self, eV, eB, e1, e2, aNil, aCons, eCall, eIf, cB, cAnd, cOr, cNot, cYes, cTru, eAnd, eOr, eNot, eNotT, e3c, eSl, eSlL, oNone, oSome, toB, toI, toL, pTru, pIsN, pNotN, isNone, gN, gT, gCons', gNil', sNil, thenF, sRet, sBrk, sCnt, sAsg, sOwn, sAug, sApp, sFz, sPar, mVal, mOwn, mNil, setAllE, ownL, sIf, sSetI, lSeq, lRng1, lRng2, lEnum, wipeE, pLen, pInt, pAbs, pTuple, pList, pNeg, pSub, pAddI, pPlus_i, pMul_i, pDiv_i, pDiv_j, mulOk_x, mulOk_y, Int.reduceLT, Int.reduceNeg, Nat.reduceLeDiff, pMod_i, pEq_i, pNe_i, pLt_i, pLe_i, pGt_i, pGe_i, pMin2, pMax2, pTup_s, pLst_s, outF, Option.bind_some, Option.bind_none, List.getElem?_cons_succ, List.getElem?_cons_zero, List.length_cons, List.length_nil, List.set_cons_succ, List.set_cons_zero, Nat.reduceAdd, Nat.reduceLT, Nat.reduceSub, Nat.lt_irrefl, if_true, if_false, ite_true, ite_false, reduceIte, ↓reduceIte, Bool.not_true, Bool.not_false, Bool.false_eq_true, decide_true, not_true_eq_false, not_false_eq_true, decide_false, decide_eq_true_eq, Bool.not_eq_true', decide_eq_false_iff_not, Bool.not_eq_eq_eq_not, hx, p, hn, List.length_map]
        simp <;> omega
  obtain ⟨big, hb⟩ := st
  obtain ⟨r, h1, h2⟩ := row_rest ns m hm big
  exact ⟨r, sq_nx (ρ' := [.val (iL ns), .val (nI m), .val (.int 0), .un, .un]) rfl ((hb _).trans h1), h2⟩
/-! ### _law_like -/
abbrev b_isint : PSt := (sRet (eAnd (e1 (pIsi "int") (eB 0)) (eNot (e1 (pIsi "bool") (eB 0)))))
def f_isint : List PV → Option PV := fnDef 1 b_isint
abbrev b_like (fn__law_like : List PV → Option PV) (fn__law_is_int : List PV → Option PV) : PSt := (sSeq (sIf (cB (e1 pIsN (eB 1))) (sRet (e1 pIsN (eB 0))) sNil) (sSeq (sIf (cTru (e1 (pIsi "bool") (eB 1))) (sRet (eAnd (e1 (pIsi "bool") (eB 0)) (e2 pEq (eB 0) (eB 1)))) sNil) (sSeq (sIf (cTru (e1 (pIsi "tuple") (eB 1))) (sSeq (sIf (cOr (cNot (cTru (e1 (pIsi "tuple") (eB 0)))) (cB (e2 pNe (e1 pLen (eB 0)) (e1 pLen (eB 1))))) (sRet (eK (.bool false))) sNil) (sRet (e1 pAll (eComp (lRng1 (e1 pLen (eB 1))) [2] (gN 2) cYes (eCall fn__law_like (aCons (e2 pIx (eB 0) (eB 2)) (aCons (e2 pIx (eB 1) (eB 2)) aNil))))))) sNil) (sSeq (sIf (cTru (e1 (pIsi "str") (eB 1))) (sRet (eAnd (e1 (pIsi "str") (eB 0)) (e2 pEq (eB 0) (eB 1)))) sNil) (sRet (eAnd (eCall fn__law_is_int (aCons (eV 0) aNil)) (e2 pEq (eB 0) (eB 1))))))))
def g_like : Nat → List PV → Option PV
  | 0 => fun _ => none
  | d + 1 => fnDef 3 (b_like (g_like d) f_isint)
/-- a due value at depth d -/
inductive Lk : Nat → PV → Prop
  | non {d} : Lk (d + 1) .none
  | bl {d} (b : Bool) : Lk (d + 1) (.bool b)
  | int {d} (i : Int) : Lk (d + 1) (.int i)
  | str {d} (s : Str) (h : PyData.strOk s = true) : Lk (d + 1) (.str s)
  | tup {d} (l : List PV) (h : ∀ v ∈ l, Lk d v) (hl : l.length ≤ 16777216) : Lk (d + 1) (.tuple l)
theorem is_none_ (T : String) : pIsi T .none = (kitB "NoneType" T).bind fun b => some (.bool b) := rfl
theorem is_bool_ (T : String) (b : Bool) : pIsi T (.bool b) = (kitB "bool" T).bind fun b => some (.bool b) := rfl
theorem is_int_ (T : String) (b : Int) : pIsi T (.int b) = (kitB "int" T).bind fun b => some (.bool b) := rfl
theorem is_str_ (T : String) (b : Str) : pIsi T (.str b) = (kitB "str" T).bind fun b => some (.bool b) := rfl
theorem is_tup_ (T : String) (b : List PV) : pIsi T (.tuple b) = (kitB "tuple" T).bind fun b => some (.bool b) := rfl
theorem is_lst_ (T : String) (b : List PV) : pIsi T (.list b) = (kitB "list" T).bind fun b => some (.bool b) := rfl
theorem k_bb : kitB "bool" "bool" = some true := by decide +kernel
theorem k_bi : kitB "bool" "int" = some true := by decide +kernel
theorem k_bt : kitB "bool" "tuple" = some false := by decide +kernel
theorem k_bs : kitB "bool" "str" = some false := by decide +kernel
theorem k_ib : kitB "int" "bool" = some false := by decide +kernel
theorem k_ii : kitB "int" "int" = some true := by decide +kernel
theorem k_it : kitB "int" "tuple" = some false := by decide +kernel
theorem k_is : kitB "int" "str" = some false := by decide +kernel
theorem k_tb : kitB "tuple" "bool" = some false := by decide +kernel
theorem k_ti : kitB "tuple" "int" = some false := by decide +kernel
theorem k_tt : kitB "tuple" "tuple" = some true := by decide +kernel
theorem k_ts : kitB "tuple" "str" = some false := by decide +kernel
theorem k_sb : kitB "str" "bool" = some false := by decide +kernel
theorem k_si : kitB "str" "int" = some false := by decide +kernel
theorem k_st : kitB "str" "tuple" = some false := by decide +kernel
theorem k_ss : kitB "str" "str" = some true := by decide +kernel
theorem like_refl : ∀ (d : Nat) (v : PV), Lk d v → g_like d [v, v] = some (.bool true) := by
  intro d
  induction d with
  | zero => intro v h; cases h
  | succ d ih =>
    intro v h
    refine fn_rt ?_
    cases h with
    | non => exact sq_rt (if_t rfl rfl)
    | bl b =>
      refine sq_nx (if_f rfl rfl) (sq_rt (if_t ?_ ?_))
      · show (Option.bind (Option.bind (kitB "bool" "bool") fun b => some (.bool b)) pTru) = some true
        rw [k_bb]; rfl
      · simp only [eK, eCallB, noL, noLs, Bool.and_true, Bool.and_self, eV, eB, e1, e2, aNil, aCons, eCall, eIf, cB, cAnd, cOr, cNot, cYes, cTru, eAnd, eOr, eNot, eNotT, e3c, eSl, eSlL, oNone, oSome, toB, toI, toL, pTru, pIsN, pNotN, isNone, gN, gT, gCons', gNil', sNil, thenF, sRet, sBrk, sCnt, sAsg, sOwn, sAug, sApp, sFz, sPar, mVal, mOwn, mNil, setAllE, ownL, sIf, sSetI, lSeq, lRng1, lRng2, lEnum, wipeE, pLen, pInt, pAbs, pTuple, pList, pNeg, pSub, pAddI, pPlus_i, pMul_i, pDiv_i, pDiv_j, mulOk_x, mulOk_y, Int.reduceLT, Int.reduceNeg, Nat.reduceLeDiff, pMod_i, pEq_i, pNe_i, pLt_i, pLe_i, pGt_i, pGe_i, pMin2, pMax2, pTup_s, pLst_s, outF, Option.bind_some, Option.bind_none, List.getElem?_cons_succ, List.getElem?_cons_zero, List.length_cons, List.length_nil, List.set_cons_succ, List.set_cons_zero, Nat.reduceAdd, Nat.reduceLT, Nat.reduceSub, Nat.lt_irrefl, if_true, if_false, ite_true, ite_false, reduceIte, ↓reduceIte, Bool.not_true, Bool.not_false, Bool.false_eq_true, decide_true, not_true_eq_false, not_false_eq_true, decide_false, decide_eq_true_eq, Bool.not_eq_true', decide_eq_false_iff_not, Bool.not_eq_eq_eq_not, startE, List.map_cons, List.map_nil, List.cons_append, is_bool_, k_bb]
        rw [pEq_bool, Option.bind_some, decide_eq_true rfl]
    | int i =>
      refine sq_nx (if_f rfl rfl) (sq_nx (if_f ?_ rfl) (sq_nx (if_f ?_ rfl) (sq_nx (if_f ?_ rfl) ?_)))
      · simp only [eK, eCallB, noL, noLs, Bool.and_true, Bool.and_self, eV, eB, e1, e2, aNil, aCons, eCall, eIf, cB, cAnd, cOr, cNot, cYes, cTru, eAnd, eOr, eNot, eNotT, e3c, eSl, eSlL, oNone, oSome, toB, toI, toL, pTru, pIsN, pNotN, isNone, gN, gT, gCons', gNil', sNil, thenF, sRet, sBrk, sCnt, sAsg, sOwn, sAug, sApp, sFz, sPar, mVal, mOwn, mNil, setAllE, ownL, sIf, sSetI, lSeq, lRng1, lRng2, lEnum, wipeE, pLen, pInt, pAbs, pTuple, pList, pNeg, pSub, pAddI, pPlus_i, pMul_i, pDiv_i, pDiv_j, mulOk_x, mulOk_y, Int.reduceLT, Int.reduceNeg, Nat.reduceLeDiff, pMod_i, pEq_i, pNe_i, pLt_i, pLe_i, pGt_i, pGe_i, pMin2, pMax2, pTup_s, pLst_s, outF, Option.bind_some, Option.bind_none, List.getElem?_cons_succ, List.getElem?_cons_zero, List.length_cons, List.length_nil, List.set_cons_succ, List.set_cons_zero, Nat.reduceAdd, Nat.reduceLT, Nat.reduceSub, Nat.lt_irrefl, if_true, if_false, ite_true, ite_false, reduceIte, ↓reduceIte, Bool.not_true, Bool.not_false, Bool.false_eq_true, decide_true, not_true_eq_false, not_false_eq_true, decide_false, decide_eq_true_eq, Bool.not_eq_true', decide_eq_false_iff_not, Bool.not_eq_eq_eq_not, startE, List.map_cons, List.map_nil, List.cons_append, is_int_, k_ib]
      · simp only [eK, eCallB, noL, noLs, Bool.and_true, Bool.and_self, eV, eB, e1, e2, aNil, aCons, eCall, eIf, cB, cAnd, cOr, cNot, cYes, cTru, eAnd, eOr, eNot, eNotT, e3c, eSl, eSlL, oNone, oSome, toB, toI, toL, pTru, pIsN, pNotN, isNone, gN, gT, gCons', gNil', sNil, thenF, sRet, sBrk, sCnt, sAsg, sOwn, sAug, sApp, sFz, sPar, mVal, mOwn, mNil, setAllE, ownL, sIf, sSetI, lSeq, lRng1, lRng2, lEnum, wipeE, pLen, pInt, pAbs, pTuple, pList, pNeg, pSub, pAddI, pPlus_i, pMul_i, pDiv_i, pDiv_j, mulOk_x, mulOk_y, Int.reduceLT, Int.reduceNeg, Nat.reduceLeDiff, pMod_i, pEq_i, pNe_i, pLt_i, pLe_i, pGt_i, pGe_i, pMin2, pMax2, pTup_s, pLst_s, outF, Option.bind_some, Option.bind_none, List.getElem?_cons_succ, List.getElem?_cons_zero, List.length_cons, List.length_nil, List.set_cons_succ, List.set_cons_zero, Nat.reduceAdd, Nat.reduceLT, Nat.reduceSub, Nat.lt_irrefl, if_true, if_false, ite_true, ite_false, reduceIte, ↓reduceIte, Bool.not_true, Bool.not_false, Bool.false_eq_true, decide_true, not_true_eq_false, not_false_eq_true, decide_false, decide_eq_true_eq, Bool.not_eq_true', decide_eq_false_iff_not, Bool.not_eq_eq_eq_not, startE, List.map_cons, List.map_nil, List.cons_append, is_int_, k_it]
      · simp only [eK, eCallB, noL, noLs, Bool.and_true, Bool.and_self, eV, eB, e1, e2, aNil, aCons, eCall, eIf, cB, cAnd, cOr, cNot, cYes, cTru, eAnd, eOr, eNot, eNotT, e3c, eSl, eSlL, oNone, oSome, toB, toI, toL, pTru, pIsN, pNotN, isNone, gN, gT, gCons', gNil', sNil, thenF, sRet, sBrk, sCnt, sAsg, sOwn, sAug, sApp, sFz, sPar, mVal, mOwn, mNil, setAllE, ownL, sIf, sSetI, lSeq, lRng1, lRng2, lEnum, wipeE, pLen, pInt, pAbs, pTuple, pList, pNeg, pSub, pAddI, pPlus_i, pMul_i, pDiv_i, pDiv_j, mulOk_x, mulOk_y, Int.reduceLT, Int.reduceNeg, Nat.reduceLeDiff, pMod_i, pEq_i, pNe_i, pLt_i, pLe_i, pGt_i, pGe_i, pMin2, pMax2, pTup_s, pLst_s, outF, Option.bind_some, Option.bind_none, List.getElem?_cons_succ, List.getElem?_cons_zero, List.length_cons, List.length_nil, List.set_cons_succ, List.set_cons_zero, Nat.reduceAdd, Nat.reduceLT, Nat.reduceSub, Nat.lt_irrefl, if_true, if_false, ite_true, ite_false, reduceIte, ↓reduceIte, Bool.not_true, Bool.not_false, Bool.false_eq_true, decide_true, not_true_eq_false, not_false_eq_true, decide_false, decide_eq_true_eq, Bool.not_eq_true', decide_eq_false_iff_not, Bool.not_eq_eq_eq_not, startE, List.map_cons, List.map_nil, List.cons_append, is_int_, k_is]
      · have q : f_isint [.int i] = some (.bool true) := fn_rt (by simp only [eK, eCallB, noL, noLs, Bool.and_true, Bool.and_self, eV, eB, e1, e2, aNil, aCons, eCall, eIf, cB, cAnd, cOr, cNot, cYes, cTru, eAnd, eOr, eNot, eNotT, e3c, eSl, eSlL, oNone, oSome, toB, toI, toL, pTru, pIsN, pNotN, isNone, gN, gT, gCons', gNil', sNil, thenF, sRet, sBrk, sCnt, sAsg, sOwn, sAug, sApp, sFz, sPar, mVal, mOwn, mNil, setAllE, ownL, sIf, sSetI, lSeq, lRng1, lRng2, lEnum, wipeE, pLen, pInt, pAbs, pTuple, pList, pNeg, pSub, pAddI, pPlus_i, pMul_i, pDiv_i, pDiv_j, mulOk_x, mulOk_y, Int.reduceLT, Int.reduceNeg, Nat.reduceLeDiff, pMod_i, pEq_i, pNe_i, pLt_i, pLe_i, pGt_i, pGe_i, pMin2, pMax2, pTup_s, pLst_s, outF, Option.bind_some, Option.bind_none, List.getElem?_cons_succ, List.getElem?_cons_zero, List.length_cons, List.length_nil, List.set_cons_succ, List.set_cons_zero, Nat.reduceAdd, Nat.reduceLT, Nat.reduceSub, Nat.lt_irrefl, if_true, if_false, ite_true, ite_false, reduceIte, ↓reduceIte, Bool.not_true, Bool.not_false, Bool.false_eq_true, decide_true, not_true_eq_false, not_false_eq_true, decide_false, decide_eq_true_eq, Bool.not_eq_true', decide_eq_false_iff_not, Bool.not_eq_eq_eq_not, startE, List.map_cons, List.map_nil, List.cons_append, is_int_, k_ii, k_ib])
        simp only [eK, eCallB, noL, noLs, Bool.and_true, Bool.and_self, eV, eB, e1, e2, aNil, aCons, eCall, eIf, cB, cAnd, cOr, cNot, cYes, cTru, eAnd, eOr, eNot, eNotT, e3c, eSl, eSlL, oNone, oSome, toB, toI, toL, pTru, pIsN, pNotN, isNone, gN, gT, gCons', gNil', sNil, thenF, sRet, sBrk, sCnt, sAsg, sOwn, sAug, sApp, sFz, sPar, mVal, mOwn, mNil, setAllE, ownL, sIf, sSetI, lSeq, lRng1, lRng2, lEnum, wipeE, pLen, pInt, pAbs, pTuple, pList, pNeg, pSub, pAddI, pPlus_i, pMul_i, pDiv_i, pDiv_j, mulOk_x, mulOk_y, Int.reduceLT, Int.reduceNeg, Nat.reduceLeDiff, pMod_i, pEq_i, pNe_i, pLt_i, pLe_i, pGt_i, pGe_i, pMin2, pMax2, pTup_s, pLst_s, outF, Option.bind_some, Option.bind_none, List.getElem?_cons_succ, List.getElem?_cons_zero, List.length_cons, List.length_nil, List.set_cons_succ, List.set_cons_zero, Nat.reduceAdd, Nat.reduceLT, Nat.reduceSub, Nat.lt_irrefl, if_true, if_false, ite_true, ite_false, reduceIte, ↓reduceIte, Bool.not_true, Bool.not_false, Bool.false_eq_true, decide_true, not_true_eq_false, not_false_eq_true, decide_false, decide_eq_true_eq, Bool.not_eq_true', decide_eq_false_iff_not, Bool.not_eq_eq_eq_not, startE, List.map_cons, List.map_nil, List.cons_append, q]
    | str s hs =>
      refine sq_nx (if_f rfl rfl) (sq_nx (if_f ?_ rfl) (sq_nx (if_f ?_ rfl) (sq_rt (if_t ?_ ?_))))
      · simp only [eK, eCallB, noL, noLs, Bool.and_true, Bool.and_self, eV, eB, e1, e2, aNil, aCons, eCall, eIf, cB, cAnd, cOr, cNot, cYes, cTru, eAnd, eOr, eNot, eNotT, e3c, eSl, eSlL, oNone, oSome, toB, toI, toL, pTru, pIsN, pNotN, isNone, gN, gT, gCons', gNil', sNil, thenF, sRet, sBrk, sCnt, sAsg, sOwn, sAug, sApp, sFz, sPar, mVal, mOwn, mNil, setAllE, ownL, sIf, sSetI, lSeq, lRng1, lRng2, lEnum, wipeE, pLen, pInt, pAbs, pTuple, pList, pNeg, pSub, pAddI, pPlus_i, pMul_i, pDiv_i, pDiv_j, mulOk_x, mulOk_y, Int.reduceLT, Int.reduceNeg, Nat.reduceLeDiff, pMod_i, pEq_i, pNe_i, pLt_i, pLe_i, pGt_i, pGe_i, pMin2, pMax2, pTup_s, pLst_s, outF, Option.bind_some, Option.bind_none, List.getElem?_cons_succ, List.getElem?_cons_zero, List.length_cons, List.length_nil, List.set_cons_succ, List.set_cons_zero, Nat.reduceAdd, Nat.reduceLT, Nat.reduceSub, Nat.lt_irrefl, if_true, if_false, ite_true, ite_false, reduceIte, ↓reduceIte, Bool.not_true, Bool.not_false, Bool.false_eq_true, decide_true, not_true_eq_false, not_false_eq_true, decide_false, decide_eq_true_eq, Bool.not_eq_true', decide_eq_false_iff_not, Bool.not_eq_eq_eq_not, startE, List.map_cons, List.map_nil, List.cons_append, is_str_, k_sb]
      · simp only [eK, eCallB, noL, noLs, Bool.and_true, Bool.and_self, eV, eB, e1, e2, aNil, aCons, eCall, eIf, cB, cAnd, cOr, cNot, cYes, cTru, eAnd, eOr, eNot, eNotT, e3c, eSl, eSlL, oNone, oSome, toB, toI, toL, pTru, pIsN, pNotN, isNone, gN, gT, gCons', gNil', sNil, thenF, sRet, sBrk, sCnt, sAsg, sOwn, sAug, sApp, sFz, sPar, mVal, mOwn, mNil, setAllE, ownL, sIf, sSetI, lSeq, lRng1, lRng2, lEnum, wipeE, pLen, pInt, pAbs, pTuple, pList, pNeg, pSub, pAddI, pPlus_i, pMul_i, pDiv_i, pDiv_j, mulOk_x, mulOk_y, Int.reduceLT, Int.reduceNeg, Nat.reduceLeDiff, pMod_i, pEq_i, pNe_i, pLt_i, pLe_i, pGt_i, pGe_i, pMin2, pMax2, pTup_s, pLst_s, outF, Option.bind_some, Option.bind_none, List.getElem?_cons_succ, List.getElem?_cons_zero, List.length_cons, List.length_nil, List.set_cons_succ, List.set_cons_zero, Nat.reduceAdd, Nat.reduceLT, Nat.reduceSub, Nat.lt_irrefl, if_true, if_false, ite_true, ite_false, reduceIte, ↓reduceIte, Bool.not_true, Bool.not_false, Bool.false_eq_true, decide_true, not_true_eq_false, not_false_eq_true, decide_false, decide_eq_true_eq, Bool.not_eq_true', decide_eq_false_iff_not, Bool.not_eq_eq_eq_not, startE, List.map_cons, List.map_nil, List.cons_append, is_str_, k_st]
      · simp only [eK, eCallB, noL, noLs, Bool.and_true, Bool.and_self, eV, eB, e1, e2, aNil, aCons, eCall, eIf, cB, cAnd, cOr, cNot, cYes, cTru, eAnd, eOr, eNot, eNotT, e3c, eSl, eSlL, oNone, oSome, toB, toI, toL, pTru, pIsN, pNotN, isNone, gN, gT, gCons', gNil', sNil, thenF, sRet, sBrk, sCnt, sAsg, sOwn, sAug, sApp, sFz, sPar, mVal, mOwn, mNil, setAllE, ownL, sIf, sSetI, lSeq, lRng1, lRng2, lEnum, wipeE, pLen, pInt, pAbs, pTuple, pList, pNeg, pSub, pAddI, pPlus_i, pMul_i, pDiv_i, pDiv_j, mulOk_x, mulOk_y, Int.reduceLT, Int.reduceNeg, Nat.reduceLeDiff, pMod_i, pEq_i, pNe_i, pLt_i, pLe_i, pGt_i, pGe_i, pMin2, pMax2, pTup_s, pLst_s, outF, Option.bind_some, Option.bind_none, List.getElem?_cons_succ, List.getElem?_cons_zero, List.length_cons, List.length_nil, List.set_cons_succ, List.set_cons_zero, Nat.reduceAdd, Nat.reduceLT, Nat.reduceSub, Nat.lt_irrefl, if_true, if_false, ite_true, ite_false, reduceIte, ↓reduceIte, Bool.not_true, Bool.not_false, Bool.false_eq_true, decide_true, not_true_eq_false, not_false_eq_true, decide_false, decide_eq_true_eq, Bool.not_eq_true', decide_eq_false_iff_not, Bool.not_eq_eq_eq_not, startE, List.map_cons, List.map_nil, List.cons_append, is_str_, k_ss]
      · simp only [eK, eCallB, noL, noLs, Bool.and_true, Bool.and_self, eV, eB, e1, e2, aNil, aCons, eCall, eIf, cB, cAnd, cOr, cNot, cYes, cTru, eAnd, eOr, eNot, eNotT, e3c, eSl, eSlL, oNone, oSome, toB, toI, toL, pTru, pIsN, pNotN, isNone, gN, gT, gCons', gNil', sNil, thenF, sRet, sBrk, sCnt, sAsg, sOwn, sAug, sApp, sFz, sPar, mVal, mOwn, mNil, setAllE, ownL, sIf, sSetI, lSeq, lRng1, lRng2, lEnum, wipeE, pLen, pInt, pAbs, pTuple, pList, pNeg, pSub, pAddI, pPlus_i, pMul_i, pDiv_i, pDiv_j, mulOk_x, mulOk_y, Int.reduceLT, Int.reduceNeg, Nat.reduceLeDiff, pMod_i, pEq_i, pNe_i, pLt_i, pLe_i, pGt_i, pGe_i, pMin2, pMax2, pTup_s, pLst_s, outF, Option.bind_some, Option.bind_none, List.getElem?_cons_succ, List.getElem?_cons_zero, List.length_cons, List.length_nil, List.set_cons_succ, List.set_cons_zero, Nat.reduceAdd, Nat.reduceLT, Nat.reduceSub, Nat.lt_irrefl, if_true, if_false, ite_true, ite_false, reduceIte, ↓reduceIte, Bool.not_true, Bool.not_false, Bool.false_eq_true, decide_true, not_true_eq_false, not_false_eq_true, decide_false, decide_eq_true_eq, Bool.not_eq_true', decide_eq_false_iff_not, Bool.not_eq_eq_eq_not, startE, List.map_cons, List.map_nil, List.cons_append, is_str_, k_ss]
        rw [pEq_str hs hs, Option.bind_some, decide_eq_true rfl]
    | tup l h hl =>
      refine sq_nx (if_f rfl rfl) (sq_nx (if_f ?_ rfl) (sq_rt (if_t ?_ (sq_nx (if_f ?_ rfl) ?_))))
      · simp only [eK, eCallB, noL, noLs, Bool.and_true, Bool.and_self, eV, eB, e1, e2, aNil, aCons, eCall, eIf, cB, cAnd, cOr, cNot, cYes, cTru, eAnd, eOr, eNot, eNotT, e3c, eSl, eSlL, oNone, oSome, toB, toI, toL, pTru, pIsN, pNotN, isNone, gN, gT, gCons', gNil', sNil, thenF, sRet, sBrk, sCnt, sAsg, sOwn, sAug, sApp, sFz, sPar, mVal, mOwn, mNil, setAllE, ownL, sIf, sSetI, lSeq, lRng1, lRng2, lEnum, wipeE, pLen, pInt, pAbs, pTuple, pList, pNeg, pSub, pAddI, pPlus_i, pMul_i, pDiv_i, pDiv_j, mulOk_x, mulOk_y, Int.reduceLT, Int.reduceNeg, Nat.reduceLeDiff, pMod_i, pEq_i, pNe_i, pLt_i, pLe_i, pGt_i, pGe_i, pMin2, pMax2, pTup_s, pLst_s, outF, Option.bind_some, Option.bind_none, List.getElem?_cons_succ, List.getElem?_cons_zero, List.length_cons, List.length_nil, List.set_cons_succ, List.set_cons_zero, Nat.reduceAdd, Nat.reduceLT, Nat.reduceSub, Nat.lt_irrefl, if_true, if_false, ite_true, ite_false, reduceIte, ↓reduceIte, Bool.not_true, Bool.not_false, Bool.false_eq_true, decide_true, not_true_eq_false, not_false_eq_true, decide_false, decide_eq_true_eq, Bool.not_eq_true', decide_eq_false_iff_not, Bool.not_eq_eq_eq_not, startE, List.map_cons, List.map_nil, List.cons_append, is_tup_, k_tb]
      · simp only [eK, eCallB, noL, noLs, Bool.and_true, Bool.and_self, eV, eB, e1, e2, aNil, aCons, eCall, eIf, cB, cAnd, cOr, cNot, cYes, cTru, eAnd, eOr, eNot, eNotT, e3c, eSl, eSlL, oNone, oSome, toB, toI, toL, pTru, pIsN, pNotN, isNone, gN, gT, gCons', gNil', sNil, thenF, sRet, sBrk, sCnt, sAsg, sOwn, sAug, sApp, sFz, sPar, mVal, mOwn, mNil, setAllE, ownL, sIf, sSetI, lSeq, lRng1, lRng2, lEnum, wipeE, pLen, pInt, pAbs, pTuple, pList, pNeg, pSub, pAddI, pPlus_i, pMul_i, pDiv_i, pDiv_j, mulOk_x, mulOk_y, Int.reduceLT, Int.reduceNeg, Nat.reduceLeDiff, pMod_i, pEq_i, pNe_i, pLt_i, pLe_i, pGt_i, pGe_i, pMin2, pMax2, pTup_s, pLst_s, outF, Option.bind_some, Option.bind_none, List.getElem?_cons_succ, List.getElem?_cons_zero, List.length_cons, List.length_nil, List.set_cons_succ, List.set_cons_zero, Nat.reduceAdd, Nat.reduceLT, Nat.reduceSub, Nat.lt_irrefl, if_true, if_false, ite_true, ite_false, reduceIte, ↓reduceIte, Bool.not_true, Bool.not_false, Bool.false_eq_true, decide_true, not_true_eq_false, not_false_eq_true, decide_false, decide_eq_true_eq, Bool.not_eq_true', decide_eq_false_iff_not, Bool.not_eq_eq_eq_not, startE, List.map_cons, List.map_nil, List.cons_append, is_tup_, k_tt]
      · simp only [eK, eCallB, noL, noLs, Bool.and_true, Bool.and_self, eV, eB, e1, e2, aNil, aCons, eCall, eIf, cB, cAnd, cOr, cNot, cYes, cTru, eAnd, eOr, eNot, eNotT, e3c, eSl, eSlL, oNone, oSome, toB, toI, toL, pTru, pIsN, pNotN, isNone, gN, gT, gCons', gNil', sNil, thenF, sRet, sBrk, sCnt, sAsg, sOwn, sAug, sApp, sFz, sPar, mVal, mOwn, mNil, setAllE, ownL, sIf, sSetI, lSeq, lRng1, lRng2, lEnum, wipeE, pLen, pInt, pAbs, pTuple, pList, pNeg, pSub, pAddI, pPlus_i, pMul_i, pDiv_i, pDiv_j, mulOk_x, mulOk_y, Int.reduceLT, Int.reduceNeg, Nat.reduceLeDiff, pMod_i, pEq_i, pNe_i, pLt_i, pLe_i, pGt_i, pGe_i, pMin2, pMax2, pTup_s, pLst_s, outF, Option.bind_some, Option.bind_none, List.getElem?_cons_succ, List.getElem?_cons_zero, List.length_cons, List.length_nil, List.set_cons_succ, List.set_cons_zero, Nat.reduceAdd, Nat.reduceLT, Nat.reduceSub, Nat.lt_irrefl, if_true, if_false, ite_true, ite_false, reduceIte, ↓reduceIte, Bool.not_true, Bool.not_false, Bool.false_eq_true, decide_true, not_true_eq_false, not_false_eq_true, decide_false, decide_eq_true_eq, Bool.not_eq_true', decide_eq_false_iff_not, Bool.not_eq_eq_eq_not, startE, List.map_cons, List.map_nil, List.cons_append, is_tup_, k_tt]
      · have ec := ec_map (L := lRng1 (e1 pLen (eB 1))) (vs := [2]) (h := gN 2) (c := cYes) (e := eCall (g_like d) (aCons (e2 pIx (eB 0) (eB 2)) (aCons (e2 pIx (eB 1) (eB 2)) aNil))) (ρ := [.val (.tuple l), .val (.tuple l), .un]) nI (fun _ => .bool true) (l := List.range l.length) (rg_1 (n := l.length) rfl (by omega) (by omega)) (by rw [List.length_range]; exact hl) fun k hk => ⟨_, rfl, rfl, by
          have hk := List.mem_range.1 hk
          have x : pIx (.tuple l) (nI k) = some l[k] := atI_nat (by omega) (by rw [Int.toNat_natCast]; exact List.getElem?_eq_getElem hk)
          simp only [eK, eCallB, noL, noLs, Bool.and_true, Bool.and_self, eV, eB, e1, e2, aNil, aCons, eCall, eIf, cB, cAnd, cOr, cNot, cYes, cTru, eAnd, eOr, eNot, eNotT, e3c, eSl, eSlL, oNone, oSome, toB, toI, toL, pTru, pIsN, pNotN, isNone, gN, gT, gCons', gNil', sNil, thenF, sRet, sBrk, sCnt, sAsg, sOwn, sAug, sApp, sFz, sPar, mVal, mOwn, mNil, setAllE, ownL, sIf, sSetI, lSeq, lRng1, lRng2, lEnum, wipeE, pLen, pInt, pAbs, pTuple, pList, pNeg, pSub, pAddI, pPlus_i, pMul_i, pDiv_i, pDiv_j, mulOk_x, mulOk_y, Int.reduceLT, Int.reduceNeg, Nat.reduceLeDiff, pMod_i, pEq_i, pNe_i, pLt_i, pLe_i, pGt_i, pGe_i, pMin2, pMax2, pTup_s, pLst_s, outF, Option.bind_some, Option.bind_none, List.getElem?_cons_succ, List.getElem?_cons_zero, List.length_cons, List.length_nil, List.set_cons_succ, List.set_cons_zero, Nat.reduceAdd, Nat.reduceLT, Nat.reduceSub, Nat.lt_irrefl, if_true, if_false, ite_true, ite_false, reduceIte, ↓reduceIte, Bool.not_true, Bool.not_false, Bool.false_eq_true, decide_true, not_true_eq_false, not_false_eq_true, decide_false, decide_eq_true_eq, Bool.not_eq_true', decide_eq_false_iff_not, Bool.not_eq_eq_eq_not, x, ih _ (h _ (List.getElem_mem hk))]⟩
        show Option.bind (Option.bind (eComp _ _ _ _ _ [.val (.tuple l), .val (.tuple l), .un]) pAll) _ = _
        rw [ec]
        have : ∀ n : List Nat, toBs (n.map fun _ => PyData.bool true) = some (n.map fun _ => true) := fun n => by
          induction n with
          | nil => rfl
          | cons a n ih => rw [List.map_cons, toBs, ih]; rfl
        simp only [pAll, Option.bind_some, this]
        have : ((List.range l.length).map fun _ => true).all id = true := by
          rw [List.all_eq_true]
          intro x hx
          obtain ⟨_, _, rfl⟩ := List.mem_map.1 hx
          rfl
        rw [this]
theorem if_like {like : List PV → Option PV} {a b : PF} {s : PSt} {ρ : PEnv} {d : Nat} {v : PV} (H : ∀ v, Lk d v → like [v, v] = some (.bool true)) (h1 : a ρ = some v) (h2 : b ρ = some v) (hl : Lk d v) : sIf (cNot (cTru (eCall like (aCons a (aCons b aNil))))) s sNil ρ = some (.nx ρ) := by
  refine if_f ?_ rfl
  simp only [eK, eCallB, noL, noLs, Bool.and_true, Bool.and_self, eV, eB, e1, e2, aNil, aCons, eCall, eIf, cB, cAnd, cOr, cNot, cYes, cTru, eAnd, eOr, eNot, eNotT, e3c, eSl, eSlL, oNone, oSome, toB, toI, toL, pTru, pIsN, pNotN, isNone, gN, gT, gCons', gNil', sNil, thenF, sRet, sBrk, sCnt, sAsg, sOwn, sAug, sApp, sFz, sPar, mVal, mOwn, mNil, setAllE, ownL, sIf, sSetI, lSeq, lRng1, lRng2, lEnum, wipeE, pLen, pInt, pAbs, pTuple, pList, pNeg, pSub, pAddI, pPlus_i, pMul_i, pDiv_i, pDiv_j, mulOk_x, mulOk_y, Int.reduceLT, Int.reduceNeg, Nat.reduceLeDiff, pMod_i, pEq_i, pNe_i, pLt_i, pLe_i, pGt_i, pGe_i, pMin2, pMax2, pTup_s, pLst_s, outF, Option.bind_some, Option.bind_none, List.getElem?_cons_succ, List.getElem?_cons_zero, List.length_cons, List.length_nil, List.set_cons_succ, List.set_cons_zero, Nat.reduceAdd, Nat.reduceLT, Nat.reduceSub, Nat.lt_irrefl, if_true, if_false, ite_true, ite_false, reduceIte, ↓reduceIte, Bool.not_true, Bool.not_false, Bool.false_eq_true, decide_true, not_true_eq_false, not_false_eq_true, decide_false, decide_eq_true_eq, Bool.not_eq_true', decide_eq_false_iff_not, Bool.not_eq_eq_eq_not, h1, h2, H v hl]
theorem fz_val {ρ : PEnv} {i : Nat} {v : PV} (h : ρ[i]? = some (.val v)) : sFz i ρ = some (.nx ρ) := by
  unfold sFz
  rw [h]
/-! ### enumerate -/
theorem enumL_int (t : List Int) : enumL (t.map PyData.int) = (List.range t.length).map fun (k : Nat) => PyData.tuple [.int k, .int (t.getD k 0)] := by
  apply List.ext_getElem?
  intro i
  unfold enumL
  rw [List.getElem?_mapIdx, List.getElem?_map, List.getElem?_map]
  rcases Nat.lt_or_ge i t.length with h | h
  · rw [List.getElem?_eq_getElem h, List.getElem?_eq_getElem (by rw [List.length_range]; exact h), List.getElem_range, Option.map_some, Option.map_some, Option.map_some, List.getD_eq_getElem?_getD, List.getElem?_eq_getElem h]
    rfl
  · rw [List.getElem?_eq_none h, List.getElem?_eq_none (by rw [List.length_range]; exact h)]
    rfl
/-- the first n where P is false -/
theorem first_not {P : Nat → Bool} : ∀ n : Nat, P n = false → ∃ k, k ≤ n ∧ (∀ j, j < k → P j = true) ∧ P k = false := by
  intro n h
  induction n using Nat.strongRecOn with
  | _ n ih =>
    by_cases c : ∃ m, m < n ∧ P m = false
    · obtain ⟨m, hm, e⟩ := c
      obtain ⟨k, hk, r⟩ := ih m hm e
      exact ⟨k, by omega, r⟩
    · refine ⟨n, Nat.le_refl _, fun j hj => ?_, h⟩
      cases e : P j with
      | true => rfl
      | false => exact absurd ⟨j, hj, e⟩ c
theorem rep_succ (k : Nat) (n : Nat) : Nat.repeat (fun x => x + 1) k n = n + k := by
  induction k with
  | zero => rfl
  | succ k ih => rw [Nat.repeat, ih]; rfl
theorem lastD_mem {t : List Int} (h : t ≠ []) : t.getLastD 0 ∈ t := by
  rw [List.getLastD_eq_getLast?, List.getLast?_eq_some_getLast h]
  exact List.getLast_mem h
theorem gd_mem {t : List Int} {k : Nat} (h : k < t.length) : t.getD k 0 ∈ t := by
  rw [List.getD_eq_getElem?_getD, List.getElem?_eq_getElem h]
  exact List.getElem_mem h
/-! loops over ranges, by place -/
theorem lp_ix {α : Type} {h : GF} {b : PSt} (enc : α → PV) (Inv : Nat → PEnv → Prop) : ∀ (l : List α) (m : Nat), (∀ (i : Nat) (hi : i < l.length) (ρ : PEnv), Inv (m + i) ρ → ∃ ρ1 ρ2, h (enc l[i]) ρ = some ρ1 ∧ b ρ1 = some (.nx ρ2) ∧ Inv (m + i + 1) ρ2) → ∀ ρ, Inv m ρ → ∃ ρ', loopF h b (l.map enc) ρ = some (.nx ρ') ∧ Inv (m + l.length) ρ'
  | [], m, _, ρ, i => ⟨ρ, rfl, i⟩
  | a :: l, m, st, ρ, i => by
    obtain ⟨ρ1, ρ2, e1, e2, i2⟩ := st 0 (by rw [List.length_cons]; omega) ρ i
    obtain ⟨ρ', e, i'⟩ := lp_ix enc Inv l (m + 1) (fun j hj ρ i => by
      have := st (j + 1) (by rw [List.length_cons]; omega) ρ (by rw [show m + (j + 1) = m + 1 + j by omega]; exact i)
      rw [show m + (j + 1) = m + 1 + j by omega] at this
      exact this) ρ2 i2
    refine ⟨ρ', ?_, by rw [List.length_cons, show m + (l.length + 1) = m + 1 + l.length by omega]; exact i'⟩
    rw [List.map_cons, loopF, show h (enc a) ρ = some ρ1 from e1, Option.bind_some, e2, Option.bind_some]
    exact e
theorem lp_range {h : GF} {b : PSt} (Inv : Nat → PEnv → Prop) (n : Nat) (st : ∀ i, i < n → ∀ ρ, Inv i ρ → ∃ ρ1 ρ2, h (nI i) ρ = some ρ1 ∧ b ρ1 = some (.nx ρ2) ∧ Inv (i + 1) ρ2) (ρ : PEnv) (h0 : Inv 0 ρ) : ∃ ρ', loopF h b ((List.range n).map nI) ρ = some (.nx ρ') ∧ Inv n ρ' := by
  have := lp_ix (h := h) (b := b) nI Inv (List.range n) 0 (fun i hi ρ j => by
    rw [Nat.zero_add] at j ⊢
    rw [List.getElem_range]
    exact st i (by rw [List.length_range] at hi; exact hi) ρ j) ρ h0
  rw [List.length_range, Nat.zero_add] at this
  exact this
theorem lp_rng {h : GF} {b : PSt} (Inv : Int → PEnv → Prop) (x y : Int) (hxy : x ≤ y) (st : ∀ i, x ≤ i → i < y → ∀ ρ, Inv i ρ → ∃ ρ1 ρ2, h (.int i) ρ = some ρ1 ∧ b ρ1 = some (.nx ρ2) ∧ Inv (i + 1) ρ2) (ρ : PEnv) (h0 : Inv x ρ) : ∃ ρ', loopF h b ((rng x y).map PyData.int) ρ = some (.nx ρ') ∧ Inv y ρ' := by
  have := lp_ix (h := h) (b := b) PyData.int (fun i => Inv (x + i)) (rng x y) 0 (fun i hi ρ j => by
    rw [Nat.zero_add] at j ⊢
    rw [rng_length] at hi
    have e : (rng x y)[i]'(by rw [rng_length]; exact hi) = x + i := by
      have := rng_get x y i hi
      rw [List.getElem?_eq_getElem (by rw [rng_length]; exact hi)] at this
      exact Option.some.inj this
    rw [e, show x + ((i + 1 : Nat) : Int) = x + i + 1 by omega]
    exact st (x + i) (by omega) (by omega) ρ j) ρ (by rw [show x + ((0 : Nat) : Int) = x by omega]; exact h0)
  rw [rng_length, Nat.zero_add, show x + ((y - x).toNat : Int) = y by omega] at this
  exact this
/-- a cell of the row -/
def gR (r : List Int) (k : Int) : Int := r.getD k.toNat 0
theorem gR_b {r : List Int} (h : Rw r) (k : Int) : 0 ≤ gR r k ∧ gR r k < 1000003 := by
  unfold gR
  rcases Nat.lt_or_ge k.toNat r.length with h' | h'
  · exact h _ (gd_mem h')
  · rw [List.getD_eq_getElem?_getD, List.getElem?_eq_none h']
    exact ⟨by decide, by decide⟩
theorem rx {r : List Int} {n : Nat} (hr : r.length = n) (k : Int) (h0 : 0 ≤ k := by decide) (h1 : k < (n : Int) := by decide) : pIx (iL r) (.int k) = some (.int (gR r k)) := ix_l h0 (by omega)
/-! steps -/
theorem sq_asg {f : PF} {i : Nat} {t : PSt} {ρ ρ' : PEnv} {v : PV} {r : Option Fl} (h : f ρ = some v) (hs : gN i v ρ = some ρ') (k : t ρ' = r) : sSeq (sAsg f (gN i)) t ρ = r := by
  refine sq_nx (ρ' := ρ') ?_ k
  unfold sAsg
  rw [h, Option.bind_some, hs]
  rfl
theorem e_tup {f : PF} {ρ : PEnv} {l : List PV} (h : f ρ = some (.list l)) : e1 pTuple f ρ = some (.tuple l) := by
  unfold e1
  rw [h]
  rfl
theorem e_lst {f : PF} {ρ : PEnv} {l : List PV} (h : f ρ = some (.tuple l)) : e1 pList f ρ = some (.list l) := by
  unfold e1
  rw [h]
  rfl
theorem sq_range {L : LF} {h : GF} {b t : PSt} {ρ : PEnv} {n : Nat} {r : Option Fl} (Inv : Nat → PEnv → Prop) (hL : L ρ = some ((List.range n).map nI)) (h0 : Inv 0 ρ) (st : ∀ i, i < n → ∀ ρ, Inv i ρ → ∃ ρ1 ρ2, h (nI i) ρ = some ρ1 ∧ b ρ1 = some (.nx ρ2) ∧ Inv (i + 1) ρ2) (k : ∀ ρ', Inv n ρ' → t ρ' = r) : sSeq (sFor L h b) t ρ = r := by
  obtain ⟨ρ', e, i⟩ := lp_range Inv n st ρ h0
  refine sq_nx (ρ' := ρ') ?_ (k ρ' i)
  unfold sFor
  rw [hL]
  exact e
theorem sq_rng {L : LF} {h : GF} {b t : PSt} {ρ : PEnv} {x y : Int} {r : Option Fl} (Inv : Int → PEnv → Prop) (hxy : x ≤ y) (hL : L ρ = some ((rng x y).map PyData.int)) (h0 : Inv x ρ) (st : ∀ i, x ≤ i → i < y → ∀ ρ, Inv i ρ → ∃ ρ1 ρ2, h (.int i) ρ = some ρ1 ∧ b ρ1 = some (.nx ρ2) ∧ Inv (i + 1) ρ2) (k : ∀ ρ', Inv y ρ' → t ρ' = r) : sSeq (sFor L h b) t ρ = r := by
  obtain ⟨ρ', e, i⟩ := lp_rng Inv x y hxy st ρ h0
  refine sq_nx (ρ' := ρ') ?_ (k ρ' i)
  unfold sFor
  rw [hL]
  exact e
theorem sq_list {α : Type} {L : LF} {h : GF} {b t : PSt} {ρ : PEnv} {l : List α} {r : Option Fl} (enc : α → PV) (Inv : Nat → PEnv → Prop) (hL : L ρ = some (l.map enc)) (h0 : Inv 0 ρ) (st : ∀ (i : Nat) (hi : i < l.length) (ρ : PEnv), Inv i ρ → ∃ ρ1 ρ2, h (enc l[i]) ρ = some ρ1 ∧ b ρ1 = some (.nx ρ2) ∧ Inv (i + 1) ρ2) (k : ∀ ρ', Inv l.length ρ' → t ρ' = r) : sSeq (sFor L h b) t ρ = r := by
  obtain ⟨ρ', e, i⟩ := lp_ix (h := h) (b := b) enc Inv l 0 (fun i hi ρ j => by rw [Nat.zero_add] at j ⊢; exact st i hi ρ j) ρ h0
  rw [Nat.zero_add] at i
  refine sq_nx (ρ' := ρ') ?_ (k ρ' i)
  unfold sFor
  rw [hL]
  exact e
/-! sums, sorting, membership of typed data -/
theorem toIs_map : ∀ l : List Int, toIs (l.map PyData.int) = some l
  | [] => rfl
  | x :: l => by rw [List.map_cons, toIs, toIs_map l]; rfl
theorem pSum_t (l : List Int) : pSum (iT l) = some (.int l.sum) := by
  show (toIs _).bind _ = _
  rw [toIs_map]
  rfl
theorem pSum_l (l : List Int) : pSum (iL l) = some (.int l.sum) := pSum_t l
section
variable {α : Type} [DecidableEq α] [PySem.W.DatumOrd α]
def leD (a b : α) : Bool := !PySem.W.DatumOrd.lt b a
theorem srt_D (l : List α) : srtL (l.map PySem.W.Datum.toD) = (l.mergeSort leD).map PySem.W.Datum.toD := by
  unfold srtL
  rw [List.map_mergeSort]
  intro a _ b _
  rw [PySem.W.dataLe_eq]
  show leD a b = !PySem.W.dataLt (PySem.W.Datum.toD b) (PySem.W.Datum.toD a)
  rw [PySem.W.DatumOrd.lt_eq]
  rfl
end
theorem srtI_ok (l : List Int) : srtOk (l.map PyData.int) := by
  refine ⟨fun d hd d' hd' => ?_, .inr fun d hd => ?_, fun d hd => ?_⟩
  · obtain ⟨a, _, rfl⟩ := List.mem_map.1 hd
    obtain ⟨b, _, rfl⟩ := List.mem_map.1 hd'
    rfl
  · obtain ⟨a, _, rfl⟩ := List.mem_map.1 hd
    exact ⟨fun h => (by cases h), fun xs h => (by cases h)⟩
  · obtain ⟨a, _, rfl⟩ := List.mem_map.1 hd
    exact Nat.zero_le _
theorem srt_int (l : List Int) : pSorted (iL l) = some (iL (l.mergeSort fun a b => decide (a ≤ b))) := by
  unfold pSorted
  simp only [if_pos (srtI_ok l)]
  congr 2
  have := srt_D l
  rw [show (leD : Int → Int → Bool) = fun a b => decide (a ≤ b) from funext fun a => funext fun b => by
    show (!decide (b < a)) = decide (a ≤ b)
    rw [← decide_not]
    exact decide_eq_decide.2 Int.not_lt] at this
  exact this
theorem msort_eq {l m : List Int} (h : l.Perm m) (hs : m.Pairwise (· ≤ ·)) : (l.mergeSort fun a b => decide (a ≤ b)) = m := by
  refine List.Perm.eq_of_pairwise (le := (· ≤ ·)) (fun a b _ _ h1 h2 => Int.le_antisymm h1 h2) ?_ hs ((List.mergeSort_perm ..).trans h)
  refine (List.pairwise_mergeSort ?_ ?_ l).imp fun h => of_decide_eq_true h
  · intro a b c h1 h2
    have h1 := of_decide_eq_true h1
    have h2 := of_decide_eq_true h2
    exact decide_eq_true (Int.le_trans h1 h2)
  · intro a b
    rw [Bool.or_eq_true, decide_eq_true_eq, decide_eq_true_eq]
    omega
theorem rng_sorted (a b : Int) : (rng a b).Pairwise (· ≤ ·) := by
  unfold rng
  rw [List.pairwise_map]
  exact List.pairwise_lt_range.imp fun h => by omega
section
variable {α : Type} [DecidableEq α] [PySem.W.Datum α] [Dc α]
theorem inL_D (x : α) (xs : List α) : inL (PySem.W.Datum.toD x) (xs.map PySem.W.Datum.toD) = decide (x ∈ xs) := PySem.W.any_datum xs x
theorem pIn_t (x : α) (xs : List α) (h : PySem.W.Datum.depth α + 1 ≤ 64) : pIn (PySem.W.Datum.toD x) (.tuple (xs.map PySem.W.Datum.toD)) = some (.bool (decide (x ∈ xs))) := by
  have s1 := sh_D x (by omega)
  have s2 := sh_D (PySem.W.Tup.mk xs) h
  rw [← inL_D]
  exact if_pos ⟨s1, s2⟩
theorem pIn_l (x : α) (xs : List α) (h : PySem.W.Datum.depth α + 1 ≤ 64) : pIn (PySem.W.Datum.toD x) (.list (xs.map PySem.W.Datum.toD)) = some (.bool (decide (x ∈ xs))) := by
  have s1 := sh_D x (by omega)
  have s2 := sh_D xs h
  rw [← inL_D]
  exact if_pos ⟨s1, s2⟩
theorem pNotIn_t (x : α) (xs : List α) (h : PySem.W.Datum.depth α + 1 ≤ 64) : pNotIn (PySem.W.Datum.toD x) (.tuple (xs.map PySem.W.Datum.toD)) = some (.bool (!decide (x ∈ xs))) := by
  have s1 := sh_D x (by omega)
  have s2 := sh_D (PySem.W.Tup.mk xs) h
  rw [← inL_D]
  exact if_pos ⟨s1, s2⟩
theorem pNotIn_l (x : α) (xs : List α) (h : PySem.W.Datum.depth α + 1 ≤ 64) : pNotIn (PySem.W.Datum.toD x) (.list (xs.map PySem.W.Datum.toD)) = some (.bool (!decide (x ∈ xs))) := by
  have s1 := sh_D x (by omega)
  have s2 := sh_D xs h
  rw [← inL_D]
  exact if_pos ⟨s1, s2⟩
end
theorem perm_sum {l m : List Int} (h : l.Perm m) : l.sum = m.sum := by
  induction h with
  | nil => rfl
  | cons x _ ih => rw [List.sum_cons, List.sum_cons, ih]
  | swap x y l => rw [List.sum_cons, List.sum_cons, List.sum_cons, List.sum_cons]; omega
  | trans _ _ h1 h2 => rw [h1, h2]
theorem lk_ints {d : Nat} {l : List Int} (h : l.length ≤ 16777216) : Lk (d + 2) (iT l) := .tup _ (fun v hv => by
  obtain ⟨a, _, rfl⟩ := List.mem_map.1 hv
  exact .int a) (by rw [List.length_map]; exact h)
theorem lk_map {α : Type} {d : Nat} {l : List α} {f : α → PV} (h : l.length ≤ 16777216) (hf : ∀ a ∈ l, Lk d (f a)) : Lk (d + 1) (.tuple (l.map f)) := .tup _ (fun v hv => by
  obtain ⟨a, ha, rfl⟩ := List.mem_map.1 hv
  exact hf a ha) (by rw [List.length_map]; exact h)
theorem lk_pair {d : Nat} {a b : PV} (ha : Lk d a) (hb : Lk d b) : Lk (d + 1) (.tuple [a, b]) := .tup _ (fun v hv => by
  rcases List.mem_cons.1 hv with rfl | hv
  · exact ha
  · rw [List.mem_singleton] at hv
    subst hv
    exact hb) (Nat.le_of_ble_eq_true rfl)
theorem ec_mapI {α : Type} {L : LF} {vs : List Nat} {h : GF} {c : PEnv → Option Bool} {e : PF} {ρ : PEnv} (enc : α → PV) (f : α → Int) {l : List α} (hL : L ρ = some (l.map enc)) (hn : l.length ≤ 16777216) (st : ∀ a ∈ l, ∃ ρ1, h (enc a) (wipeE ρ vs) = some ρ1 ∧ c ρ1 = some true ∧ e ρ1 = some (.int (f a))) : eComp L vs h c e ρ = some (iL (l.map f)) := by
  rw [ec_map enc (fun a => .int (f a)) hL hn st]
  unfold iL
  rw [List.map_map]
  rfl
theorem ec_fltI {α : Type} {L : LF} {vs : List Nat} {h : GF} {c : PEnv → Option Bool} {e : PF} {ρ : PEnv} (enc : α → PV) (P : α → Bool) (f : α → Int) {l : List α} (hL : L ρ = some (l.map enc)) (hn : l.length ≤ 16777216) (st : ∀ a ∈ l, ∃ ρ1, h (enc a) (wipeE ρ vs) = some ρ1 ∧ c ρ1 = some (P a) ∧ (P a = true → e ρ1 = some (.int (f a)))) : eComp L vs h c e ρ = some (iL ((l.filter P).map f)) := by
  rw [ec_flt enc P (fun a => .int (f a)) hL hn st]
  unfold iL
  rw [List.map_map]
  rfl
theorem pPlus_l {a b : List PV} (h : a.length + b.length ≤ 16777216) : pPlus (.list a) (.list b) = some (.list (a ++ b)) := by
  have c : lineOk (a.length + b.length) = true := decide_eq_true (by rw [szl]; exact h)
  simp only [pPlus, pAdd, pCat, c, if_true]
theorem pPlus_t {a b : List PV} (h : a.length + b.length ≤ 16777216) : pPlus (.tuple a) (.tuple b) = some (.tuple (a ++ b)) := by
  have c : lineOk (a.length + b.length) = true := decide_eq_true (by rw [szl]; exact h)
  simp only [pPlus, pAdd, pCat, c, if_true]
theorem no_like {like : List PV → Option PV} {a b : PF} {ρ : PEnv} {d : Nat} {v : PV} (H : ∀ v, Lk d v → like [v, v] = some (.bool true)) (h1 : a ρ = some v) (h2 : b ρ = some v) (hl : Lk d v) : cNot (cTru (eCall like (aCons a (aCons b aNil)))) ρ = some false := by
  simp only [eK, eCallB, noL, noLs, Bool.and_true, Bool.and_self, eV, eB, e1, e2, aNil, aCons, eCall, eIf, cB, cAnd, cOr, cNot, cYes, cTru, eAnd, eOr, eNot, eNotT, e3c, eSl, eSlL, oNone, oSome, toB, toI, toL, pTru, pIsN, pNotN, isNone, gN, gT, gCons', gNil', sNil, thenF, sRet, sBrk, sCnt, sAsg, sOwn, sAug, sApp, sFz, sPar, mVal, mOwn, mNil, setAllE, ownL, sIf, sSetI, lSeq, lRng1, lRng2, lEnum, wipeE, pLen, pInt, pAbs, pTuple, pList, pNeg, pSub, pAddI, pPlus_i, pMul_i, pDiv_i, pDiv_j, mulOk_x, mulOk_y, Int.reduceLT, Int.reduceNeg, Nat.reduceLeDiff, pMod_i, pEq_i, pNe_i, pLt_i, pLe_i, pGt_i, pGe_i, pMin2, pMax2, pTup_s, pLst_s, outF, Option.bind_some, Option.bind_none, List.getElem?_cons_succ, List.getElem?_cons_zero, List.length_cons, List.length_nil, List.set_cons_succ, List.set_cons_zero, Nat.reduceAdd, Nat.reduceLT, Nat.reduceSub, Nat.lt_irrefl, if_true, if_false, ite_true, ite_false, reduceIte, ↓reduceIte, Bool.not_true, Bool.not_false, Bool.false_eq_true, decide_true, not_true_eq_false, not_false_eq_true, decide_false, decide_eq_true_eq, Bool.not_eq_true', decide_eq_false_iff_not, Bool.not_eq_eq_eq_not, h1, h2, H v hl]
theorem or_f {a b : PEnv → Option Bool} {ρ : PEnv} (h1 : a ρ = some false) (h2 : b ρ = some false) : cOr a b ρ = some false := by
  unfold cOr
  rw [h1]
  exact h2
theorem and_f {a b : PEnv → Option Bool} {ρ : PEnv} (h1 : a ρ = some false) : cAnd a b ρ = some false := by
  unfold cAnd
  rw [h1]
  rfl
theorem and_t {a b : PEnv → Option Bool} {ρ : PEnv} {k : Bool} (h1 : a ρ = some true) (h2 : b ρ = some k) : cAnd a b ρ = some k := by
  unfold cAnd
  rw [h1]
  exact h2
theorem lstRg_e {f g : PF} {ρ : PEnv} {a b : Int} (h : f ρ = some (.int a)) (h' : g ρ = some (.int b)) (h0 : -(2 ^ 62) ≤ a) (h1 : a < 2 ^ 62) (h2 : -(2 ^ 62) ≤ b) (h3 : b < 2 ^ 62) (h4 : b - a ≤ 16777216) : eLstRg (rg2 f g) ρ = some (iL (rng a b)) := by
  unfold eLstRg rg2
  rw [h, Option.bind_some, h', Option.bind_some]
  have ok : rOk a b = true := by
    unfold rOk
    simp only [Bool.and_eq_true, decide_eq_true_eq]
    omega
  have ok2 : (rOk a b && decide ((b - a).toNat ≤ 16777216)) = true := by
    rw [ok]
    exact decide_eq_true (by omega)
  show pLstRg (.int a) (.int b) = _
  unfold pLstRg
  simp only [toI, Option.bind_some, if_pos ok2]
theorem pNe_iL (a b : List Int) : pNe (iL a) (iL b) = some (.bool (!decide (a = b))) := pNe_D a b (by decide)
theorem pEq_iL (a b : List Int) : pEq (iL a) (iL b) = some (.bool (decide (a = b))) := pEq_D a b (by decide)
theorem pNe_iT (a b : List Int) : pNe (iT a) (iT b) = some (.bool (!decide (a = b))) := by
  have := pNe_D (PySem.W.Tup.mk a) (PySem.W.Tup.mk b) (by decide)
  rw [show decide (PySem.W.Tup.mk a = PySem.W.Tup.mk b) = decide (a = b) from decide_eq_decide.2 (by rw [PySem.W.Tup.mk.injEq])] at this
  exact this
theorem pEq_iT (a b : List Int) : pEq (iT a) (iT b) = some (.bool (decide (a = b))) := by
  have := pEq_D (PySem.W.Tup.mk a) (PySem.W.Tup.mk b) (by decide)
  rw [show decide (PySem.W.Tup.mk a = PySem.W.Tup.mk b) = decide (a = b) from decide_eq_decide.2 (by rw [PySem.W.Tup.mk.injEq])] at this
  exact this
theorem filter_all {α : Type} {l : List α} {p : α → Bool} (h : ∀ a ∈ l, p a = true) : l.filter p = l := List.filter_eq_self.2 h
theorem filter_none {α : Type} {l : List α} {p : α → Bool} (h : ∀ a ∈ l, p a = false) : l.filter p = [] := List.filter_eq_nil_iff.2 fun a ha => by rw [h a ha]; decide
end Cm

set_option Elab.async false
set_option linter.all false
set_option maxRecDepth 100000
set_option maxHeartbeats 4000000
set_option autoImplicit false
namespace Tv
open PySem PySem.Spec PyProof.Rows L2 Pl Cm
/-! ### typed values: encoders -/
section enc
variable {α β γ δ ε : Type}
abbrev eI : Int → PV := PyData.int
abbrev eBo : Bool → PV := PyData.bool
abbrev PStr := {s : Str // PyData.strOk s = true}
instance : Inhabited PStr := ⟨⟨Str.ofString "", by decide +kernel⟩⟩
def eS : PStr → PV := fun s => .str s.1
def eT (e : α → PV) : List α → PV := fun l => .tuple (l.map e)
def eL (e : α → PV) : List α → PV := fun l => .list (l.map e)
def eO (e : α → PV) : Option α → PV
  | none => .none
  | some a => e a
def p2 (a : α → PV) (b : β → PV) : α × β → PV := fun p => .tuple [a p.1, b p.2]
def p3 (a : α → PV) (b : β → PV) (c : γ → PV) : α × β × γ → PV := fun p => .tuple [a p.1, b p.2.1, c p.2.2]
def p4 (a : α → PV) (b : β → PV) (c : γ → PV) (d : δ → PV) : α × β × γ × δ → PV := fun p => .tuple [a p.1, b p.2.1, c p.2.2.1, d p.2.2.2]
def p5 (a : α → PV) (b : β → PV) (c : γ → PV) (d : δ → PV) (e : ε → PV) : α × β × γ × δ × ε → PV := fun p => .tuple [a p.1, b p.2.1, c p.2.2.1, d p.2.2.2.1, e p.2.2.2.2]
/-- what == says of typed values -/
class Ty [DecidableEq α] (e : α → PV) where
  dp : Nat
  can : ∀ a, (e a).canLay0 = true
  dep : ∀ a, (e a).depth ≤ dp
  eqv : ∀ a b, PyData.eqv (e a) (e b) = decide (a = b)
class Nn (e : α → PV) : Prop where
  nn : ∀ a, isNone (e a) = false
instance : Ty eI := ⟨0, fun _ => rfl, fun _ => Nat.le_refl _, fun a b => PySem.W.Datum.eqv (α := Int) a b⟩
instance : Ty eBo := ⟨0, fun _ => rfl, fun _ => Nat.le_refl _, fun a b => PySem.W.Datum.eqv (α := Bool) a b⟩
instance : Ty eS := ⟨0, fun a => a.2, fun _ => Nat.le_refl _, fun a b => (PySem.W.Datum.eqv (α := Str) a.1 b.1).trans (decide_eq_decide.2 ⟨fun h => Subtype.ext h, fun h => congrArg _ h⟩)⟩
instance : Nn eI := ⟨fun _ => rfl⟩
instance : Nn eBo := ⟨fun _ => rfl⟩
instance : Nn eS := ⟨fun _ => rfl⟩
instance {e : α → PV} : Nn (eT e) := ⟨fun _ => rfl⟩
instance {e : α → PV} : Nn (eL e) := ⟨fun _ => rfl⟩
instance {a : α → PV} {b : β → PV} : Nn (p2 a b) := ⟨fun _ => rfl⟩
instance {a : α → PV} {b : β → PV} {c : γ → PV} : Nn (p3 a b c) := ⟨fun _ => rfl⟩
instance {a : α → PV} {b : β → PV} {c : γ → PV} {d : δ → PV} : Nn (p4 a b c d) := ⟨fun _ => rfl⟩
instance {a : α → PV} {b : β → PV} {c : γ → PV} {d : δ → PV} {e : ε → PV} : Nn (p5 a b c d e) := ⟨fun _ => rfl⟩
section
variable [DecidableEq α] [DecidableEq β] [DecidableEq γ] [DecidableEq δ] [DecidableEq ε]
theorem canAll (e : α → PV) [Ty e] : ∀ l : List α, PyData.canLayAll0 (l.map e) = true
  | [] => rfl
  | x :: l => by rw [List.map_cons, PyData.canLayAll0, Ty.can (e := e), canAll e l]; rfl
theorem depAll (e : α → PV) [Ty e] : ∀ l : List α, PyData.depthAll (l.map e) ≤ Ty.dp e
  | [] => Nat.zero_le _
  | x :: l => by
    rw [List.map_cons, PyData.depthAll]
    exact Nat.max_le.mpr ⟨Ty.dep (e := e) x, depAll e l⟩
theorem eqvAll (e : α → PV) [Ty e] : ∀ xs ys : List α, PyData.eqvAll (xs.map e) (ys.map e) = decide (xs = ys)
  | [], [] => by simp only [List.map_nil, PyData.eqvAll, decide_true]
  | [], _ :: _ => by simp [PyData.eqvAll]
  | _ :: _, [] => by simp [PyData.eqvAll]
  | x :: xs, y :: ys => by
    rw [List.map_cons, List.map_cons, PyData.eqvAll, Ty.eqv x y, eqvAll e xs ys, ← Bool.decide_and]
    exact decide_eq_decide.mpr (by rw [List.cons.injEq])
instance {e : α → PV} [Ty e] : Ty (eT e) := ⟨Ty.dp e + 1, fun l => by show PyData.canLay0 (.tuple _) = true; rw [PyData.canLay0]; exact canAll e l, fun l => by show PyData.depth (.tuple _) ≤ _; simp only [PyData.depth]; exact Nat.succ_le_succ (depAll e l), fun a b => by show PyData.eqv (.tuple _) (.tuple _) = _; simp only [PyData.eqv]; exact eqvAll e a b⟩
instance {e : α → PV} [Ty e] : Ty (eL e) := ⟨Ty.dp e + 1, fun l => by show PyData.canLay0 (.list _) = true; rw [PyData.canLay0]; exact canAll e l, fun l => by show PyData.depth (.list _) ≤ _; simp only [PyData.depth]; exact Nat.succ_le_succ (depAll e l), fun a b => by show PyData.eqv (.list _) (.list _) = _; simp only [PyData.eqv]; exact eqvAll e a b⟩
instance {a : α → PV} {b : β → PV} [Ty a] [Ty b] : Ty (p2 a b) := ⟨max (Ty.dp a) (Ty.dp b) + 1, fun l => by
  show PyData.canLay0 (.tuple _) = true
  simp only [PyData.canLay0, PyData.canLayAll0, Ty.can (e := a), Ty.can (e := b)]; rfl, fun l => by
  show PyData.depth (.tuple _) ≤ _
  simp only [PyData.depth, PyData.depthAll]
  have := Ty.dep (e := a) l.1
  have := Ty.dep (e := b) l.2
  omega, fun x y => by
  show PyData.eqv (.tuple _) (.tuple _) = _
  simp only [PyData.eqv, PyData.eqvAll]
  rw [Ty.eqv (e := a), Ty.eqv (e := b), Bool.and_true, ← Bool.decide_and]
  exact decide_eq_decide.mpr ⟨fun e => Prod.ext e.1 e.2, fun e => by rw [e]; exact ⟨rfl, rfl⟩⟩⟩
instance {a : α → PV} {b : β → PV} {c : γ → PV} [Ty a] [Ty b] [Ty c] : Ty (p3 a b c) := ⟨max (Ty.dp a) (max (Ty.dp b) (Ty.dp c)) + 1, fun l => by
  show PyData.canLay0 (.tuple _) = true
  simp only [PyData.canLay0, PyData.canLayAll0, Ty.can (e := a), Ty.can (e := b), Ty.can (e := c)]; rfl, fun l => by
  show PyData.depth (.tuple _) ≤ _
  simp only [PyData.depth, PyData.depthAll]
  have := Ty.dep (e := a) l.1
  have := Ty.dep (e := b) l.2.1
  have := Ty.dep (e := c) l.2.2
  omega, fun x y => by
  show PyData.eqv (.tuple _) (.tuple _) = _
  simp only [PyData.eqv, PyData.eqvAll]
  rw [Ty.eqv (e := a), Ty.eqv (e := b), Ty.eqv (e := c), Bool.and_true, ← Bool.decide_and, ← Bool.decide_and]
  exact decide_eq_decide.mpr ⟨fun e => Prod.ext e.1 (Prod.ext e.2.1 e.2.2), fun e => by rw [e]; exact ⟨rfl, rfl, rfl⟩⟩⟩
instance {a : α → PV} {b : β → PV} {c : γ → PV} {d : δ → PV} [Ty a] [Ty b] [Ty c] [Ty d] : Ty (p4 a b c d) := ⟨max (Ty.dp a) (max (Ty.dp b) (max (Ty.dp c) (Ty.dp d))) + 1, fun l => by
  show PyData.canLay0 (.tuple _) = true
  simp only [PyData.canLay0, PyData.canLayAll0, Ty.can (e := a), Ty.can (e := b), Ty.can (e := c), Ty.can (e := d)]; rfl, fun l => by
  show PyData.depth (.tuple _) ≤ _
  simp only [PyData.depth, PyData.depthAll]
  have := Ty.dep (e := a) l.1
  have := Ty.dep (e := b) l.2.1
  have := Ty.dep (e := c) l.2.2.1
  have := Ty.dep (e := d) l.2.2.2
  omega, fun x y => by
  show PyData.eqv (.tuple _) (.tuple _) = _
  simp only [PyData.eqv, PyData.eqvAll]
  rw [Ty.eqv (e := a), Ty.eqv (e := b), Ty.eqv (e := c), Ty.eqv (e := d), Bool.and_true, ← Bool.decide_and, ← Bool.decide_and, ← Bool.decide_and]
  exact decide_eq_decide.mpr ⟨fun e => Prod.ext e.1 (Prod.ext e.2.1 (Prod.ext e.2.2.1 e.2.2.2)), fun e => by rw [e]; exact ⟨rfl, rfl, rfl, rfl⟩⟩⟩
theorem eqv_non {v : PV} (h : isNone v = false) : PyData.eqv v .none = false ∧ PyData.eqv .none v = false := by
  cases v <;> first | (simp [isNone] at h; done) | (constructor <;> simp only [PyData.eqv])
instance {e : α → PV} [Ty e] [Nn e] : Ty (eO e) := ⟨Ty.dp e, fun l => by
  cases l with
  | none => rfl
  | some a => exact Ty.can (e := e) a, fun l => by
  cases l with
  | none => exact Nat.zero_le _
  | some a => exact Ty.dep (e := e) a, fun x y => by
  cases x <;> cases y
  · show PyData.eqv .none .none = _
    simp only [PyData.eqv, decide_true]
  · rename_i a
    show PyData.eqv .none (e a) = _
    rw [(eqv_non (Nn.nn (e := e) a)).2]
    rfl
  · rename_i a
    show PyData.eqv (e a) .none = _
    rw [(eqv_non (Nn.nn (e := e) a)).1]
    rfl
  · rename_i a b
    show PyData.eqv (e a) (e b) = _
    rw [Ty.eqv (e := e)]
    exact decide_eq_decide.mpr (by rw [Option.some.injEq])⟩
theorem shT (e : α → PV) [Ty e] (a : α) (h : Ty.dp e ≤ 60) : SeqAt.shaped (e a) = true := by
  unfold SeqAt.shaped
  rw [Ty.can (e := e), Bool.true_and]
  exact decide_eq_true (Nat.le_trans (Ty.dep (e := e) a) (by omega))
end
end enc
/-! ### what _law_like takes -/
section like
variable {α β γ δ ε : Type}
class Lki (e : α → PV) where
  ld : Nat
  ok : α → Prop
  lk : ∀ a, ok a → Lk ld (e a)
abbrev Lo (e : α → PV) [Lki e] (a : α) : Prop := Lki.ok e a
theorem lk_mono : ∀ (v : PV) (d k : Nat), Lk d v → d ≤ k → Lk k v := by
  intro v d k h
  induction h generalizing k with
  | non => intro hk; obtain ⟨j, rfl⟩ : ∃ j, k = j + 1 := ⟨k - 1, by omega⟩; exact .non
  | bl b => intro hk; obtain ⟨j, rfl⟩ : ∃ j, k = j + 1 := ⟨k - 1, by omega⟩; exact .bl b
  | int b => intro hk; obtain ⟨j, rfl⟩ : ∃ j, k = j + 1 := ⟨k - 1, by omega⟩; exact .int b
  | str s hs => intro hk; obtain ⟨j, rfl⟩ : ∃ j, k = j + 1 := ⟨k - 1, by omega⟩; exact .str s hs
  | tup l h hl ih => intro hk; obtain ⟨j, rfl⟩ : ∃ j, k = j + 1 := ⟨k - 1, by omega⟩; exact .tup l (fun v hv => ih v hv j (by omega)) hl
instance : Lki eI := ⟨1, fun _ => True, fun a _ => .int a⟩
instance : Lki eBo := ⟨1, fun _ => True, fun a _ => .bl a⟩
instance : Lki eS := ⟨1, fun _ => True, fun a _ => .str a.1 a.2⟩
instance {e : α → PV} [Lki e] : Lki (eT e) := ⟨Lki.ld e + 1, fun l => l.length ≤ 16777216 ∧ ∀ a ∈ l, Lki.ok e a, fun l h => lk_map h.1 fun a ha => Lki.lk a (h.2 a ha)⟩
instance {e : α → PV} [Lki e] : Lki (eO e) := ⟨Lki.ld e + 1, fun o => ∀ a, o = some a → Lki.ok e a, fun o h => by
  cases o with
  | none => exact .non
  | some a => exact lk_mono _ _ _ (Lki.lk a (h a rfl)) (Nat.le_succ _)⟩
instance {a : α → PV} {b : β → PV} [Lki a] [Lki b] : Lki (p2 a b) := ⟨max (Lki.ld a) (Lki.ld b) + 1, fun p => Lki.ok a p.1 ∧ Lki.ok b p.2, fun p h => .tup _ (fun v hv => by
  rcases List.mem_cons.1 hv with rfl | hv
  · exact lk_mono _ _ _ (Lki.lk _ h.1) (by omega)
  · rw [List.mem_singleton] at hv
    subst hv
    exact lk_mono _ _ _ (Lki.lk _ h.2) (by omega)) (Nat.le_of_ble_eq_true rfl)⟩
instance {a : α → PV} {b : β → PV} {c : γ → PV} [Lki a] [Lki b] [Lki c] : Lki (p3 a b c) := ⟨max (Lki.ld a) (max (Lki.ld b) (Lki.ld c)) + 1, fun p => Lki.ok a p.1 ∧ Lki.ok b p.2.1 ∧ Lki.ok c p.2.2, fun p h => .tup _ (fun v hv => by
  rcases List.mem_cons.1 hv with rfl | hv
  · exact lk_mono _ _ _ (Lki.lk _ h.1) (by omega)
  rcases List.mem_cons.1 hv with rfl | hv
  · exact lk_mono _ _ _ (Lki.lk _ h.2.1) (by omega)
  · rw [List.mem_singleton] at hv
    subst hv
    exact lk_mono _ _ _ (Lki.lk _ h.2.2) (by omega)) (Nat.le_of_ble_eq_true rfl)⟩
instance {a : α → PV} {b : β → PV} {c : γ → PV} {d : δ → PV} [Lki a] [Lki b] [Lki c] [Lki d] : Lki (p4 a b c d) := ⟨max (Lki.ld a) (max (Lki.ld b) (max (Lki.ld c) (Lki.ld d))) + 1, fun p => Lki.ok a p.1 ∧ Lki.ok b p.2.1 ∧ Lki.ok c p.2.2.1 ∧ Lki.ok d p.2.2.2, fun p h => .tup _ (fun v hv => by
  rcases List.mem_cons.1 hv with rfl | hv
  · exact lk_mono _ _ _ (Lki.lk _ h.1) (by omega)
  rcases List.mem_cons.1 hv with rfl | hv
  · exact lk_mono _ _ _ (Lki.lk _ h.2.1) (by omega)
  rcases List.mem_cons.1 hv with rfl | hv
  · exact lk_mono _ _ _ (Lki.lk _ h.2.2.1) (by omega)
  · rw [List.mem_singleton] at hv
    subst hv
    exact lk_mono _ _ _ (Lki.lk _ h.2.2.2) (by omega)) (Nat.le_of_ble_eq_true rfl)⟩
def SpLike (g : List PV → Option PV) : Prop := ∀ v, Lk 8 v → g [v, v] = some (.bool true)
theorem v_like {g : List PV → Option PV} (hg : SpLike g) {e : α → PV} [Lki e] {a b : PF} {ρ : PEnv} {x y : α} (h1 : a ρ = some (e x)) (h2 : b ρ = some (e y)) (hxy : x = y) (ho : Lo e y) (hd : Lki.ld e ≤ 8 := by decide) : eCall g (aCons a (aCons b aNil)) ρ = some (eBo true) := by
  subst hxy
  unfold eCall aCons aNil
  rw [h1, h2]
  exact hg _ (lk_mono _ _ _ (Lki.lk x ho) hd)
end like
/-! ### expressions -/
section ex
variable {α β γ δ ε : Type} {f g k : PF} {ρ : PEnv}
theorem v_e2 {p : PV → PV → Option PV} {a b : PV} (h1 : f ρ = some a) (h2 : g ρ = some b) : e2 p f g ρ = p a b := by
  unfold e2
  rw [h1, h2]
  rfl
theorem v_e1 {p : PV → Option PV} {a : PV} (h1 : f ρ = some a) : e1 p f ρ = p a := by
  unfold e1
  rw [h1]
  rfl
theorem v_add {a b : Int} (h1 : f ρ = some (eI a)) (h2 : g ρ = some (eI b)) : e2 pPlus f g ρ = some (eI (a + b)) := v_e2 h1 h2
theorem v_sub {a b : Int} (h1 : f ρ = some (eI a)) (h2 : g ρ = some (eI b)) : e2 pSub f g ρ = some (eI (a - b)) := v_e2 h1 h2
theorem v_mul {a b : Int} (h1 : f ρ = some (eI a)) (h2 : g ρ = some (eI b)) (h : mulOk a b = true) : e2 pMul f g ρ = some (eI (a * b)) := (v_e2 h1 h2).trans (pMul_i h)
theorem v_mulK {a b : Int} (h1 : f ρ = some (eI a)) (h2 : g ρ = some (eI b)) (h : a.natAbs < 2 ^ 63 ∨ b.natAbs < 2 ^ 63) : e2 pMul f g ρ = some (eI (a * b)) := v_mul h1 h2 (h.elim mulOk_l mulOk_r)
theorem v_div {a b : Int} (h1 : f ρ = some (eI a)) (h2 : g ρ = some (eI b)) (h : 0 < b ∧ b < 9223372036854775808) : e2 pDiv f g ρ = some (eI (a / b)) := (v_e2 h1 h2).trans (pDiv_j h.1 h.2)
theorem v_mod {a b : Int} (h1 : f ρ = some (eI a)) (h2 : g ρ = some (eI b)) (h : 0 < b) : e2 pMod f g ρ = some (eI (a % b)) := (v_e2 h1 h2).trans (pMod_i h)
theorem v_pow {a b : Int} (h1 : f ρ = some (eI a)) (h2 : g ρ = some (eI b)) (h : 0 ≤ b ∧ b ≤ 1000000 ∧ a.natAbs < 2 ^ 64) : e2 pPow f g ρ = some (eI (a ^ b.toNat)) := (v_e2 h1 h2).trans (if_pos h)
theorem v_neg {a : Int} (h1 : f ρ = some (eI a)) : e1 pNeg f ρ = some (eI (-a)) := v_e1 h1
theorem v_abs {a : Int} (h1 : f ρ = some (eI a)) : e1 pAbs f ρ = some (eI (a.natAbs : Int)) := (v_e1 h1).trans (by
  unfold pAbs
  simp only
  congr 2
  split <;> omega)
theorem v_int {a : Int} (h1 : f ρ = some (eI a)) : e1 pInt f ρ = some (eI a) := v_e1 h1
theorem v_intB {P : Prop} [Decidable P] (h1 : f ρ = some (eBo (decide P))) : e1 pInt f ρ = some (eI (if P then 1 else 0)) := (v_e1 h1).trans (by
  show some (PyData.int (if decide P = true then 1 else 0)) = _
  by_cases h : P <;> simp [h])
theorem v_min {a b : Int} (h1 : f ρ = some (eI a)) (h2 : g ρ = some (eI b)) : e2 pMin2 f g ρ = some (eI (min a b)) := (v_e2 h1 h2).trans (by
  show some (PyData.int (if b < a then b else a)) = some (PyData.int _)
  congr 2
  split <;> omega)
theorem v_max {a b : Int} (h1 : f ρ = some (eI a)) (h2 : g ρ = some (eI b)) : e2 pMax2 f g ρ = some (eI (max a b)) := (v_e2 h1 h2).trans (by
  show some (PyData.int (if a < b then b else a)) = some (PyData.int _)
  congr 2
  split <;> omega)
theorem v_catT (e : α → PV) {a b : List α} (h1 : f ρ = some (eT e a)) (h2 : g ρ = some (eT e b)) (h : a.length + b.length ≤ 16777216) : e2 pPlus f g ρ = some (eT e (a ++ b)) := (v_e2 h1 h2).trans ((pPlus_t (by rw [List.length_map, List.length_map]; exact h)).trans (by unfold eT; rw [List.map_append]))
theorem v_catL (e : α → PV) {a b : List α} (h1 : f ρ = some (eL e a)) (h2 : g ρ = some (eL e b)) (h : a.length + b.length ≤ 16777216) : e2 pPlus f g ρ = some (eL e (a ++ b)) := (v_e2 h1 h2).trans ((pPlus_l (by rw [List.length_map, List.length_map]; exact h)).trans (by unfold eL; rw [List.map_append]))
theorem v_catF (e : α → PV) {a b : List α} (h1 : f ρ = some (eL e a)) (h2 : g ρ = some (eL e b)) (h : a.length + b.length ≤ 16777216) : e2 pCat f g ρ = some (eL e (a ++ b)) := (v_e2 h1 h2).trans (by
  have c : lineOk ((a.map e).length + (b.map e).length) = true := decide_eq_true (by rw [szl, List.length_map, List.length_map]; exact h)
  unfold eL
  rw [List.map_append]
  exact if_pos c)
/-! comparisons: truth values -/
section
variable [DecidableEq α] [DecidableEq β]
theorem v_eqI {a b : Int} (h1 : f ρ = some (eI a)) (h2 : g ρ = some (eI b)) : e2 pEq f g ρ = some (eBo (decide (a = b))) := v_e2 h1 h2
theorem v_neI {a b : Int} (h1 : f ρ = some (eI a)) (h2 : g ρ = some (eI b)) : e2 pNe f g ρ = some (eBo (decide (a ≠ b))) := (v_e2 h1 h2).trans (by
  show some (PyData.bool (!decide (a = b))) = _
  rw [← decide_not])
theorem v_ltI {a b : Int} (h1 : f ρ = some (eI a)) (h2 : g ρ = some (eI b)) : e2 pLt f g ρ = some (eBo (decide (a < b))) := v_e2 h1 h2
theorem v_leI {a b : Int} (h1 : f ρ = some (eI a)) (h2 : g ρ = some (eI b)) : e2 pLe f g ρ = some (eBo (decide (a ≤ b))) := v_e2 h1 h2
theorem v_gtI {a b : Int} (h1 : f ρ = some (eI a)) (h2 : g ρ = some (eI b)) : e2 pGt f g ρ = some (eBo (decide (b < a))) := v_e2 h1 h2
theorem v_geI {a b : Int} (h1 : f ρ = some (eI a)) (h2 : g ρ = some (eI b)) : e2 pGe f g ρ = some (eBo (decide (b ≤ a))) := v_e2 h1 h2
theorem v_eq (e : α → PV) [Ty e] {a b : α} (h1 : f ρ = some (e a)) (h2 : g ρ = some (e b)) (hd : Ty.dp e ≤ 60 := by decide) : e2 pEq f g ρ = some (eBo (decide (a = b))) := (v_e2 h1 h2).trans (by
  rw [pEq_sh (shT e a hd) (shT e b hd), Ty.eqv])
theorem v_ne (e : α → PV) [Ty e] {a b : α} (h1 : f ρ = some (e a)) (h2 : g ρ = some (e b)) (hd : Ty.dp e ≤ 60 := by decide) : e2 pNe f g ρ = some (eBo (decide (a ≠ b))) := (v_e2 h1 h2).trans (by
  rw [pNe_sh (shT e a hd) (shT e b hd), Ty.eqv, ← decide_not])
theorem v_isN (e : α → PV) [Nn e] {o : Option α} (h1 : f ρ = some (eO e o)) : e1 pIsN f ρ = some (eBo (decide (o = none))) := (v_e1 h1).trans (by
  cases o with
  | none => rfl
  | some a => show some (PyData.bool (isNone (e a))) = _; rw [Nn.nn (e := e)]; simp)
theorem v_notN (e : α → PV) [Nn e] {o : Option α} (h1 : f ρ = some (eO e o)) : e1 pNotN f ρ = some (eBo (decide (o ≠ none))) := (v_e1 h1).trans (by
  cases o with
  | none => rfl
  | some a => show some (PyData.bool (!isNone (e a))) = _; rw [Nn.nn (e := e)]; simp)
theorem inT (e : α → PV) [Ty e] (x : α) : ∀ l : List α, inL (e x) (l.map e) = decide (x ∈ l)
  | [] => by simp [inL]
  | y :: l => by
    have ih := inT e x l
    unfold inL at ih ⊢
    rw [List.map_cons, List.any_cons, ih, Ty.eqv, ← Bool.decide_or]
    exact decide_eq_decide.2 (by rw [List.mem_cons, eq_comm])
theorem v_inT (e : α → PV) [Ty e] {a : α} {l : List α} (h1 : f ρ = some (e a)) (h2 : g ρ = some (eT e l)) (hd : Ty.dp e + 1 ≤ 60 := by decide) : e2 pIn f g ρ = some (eBo (decide (a ∈ l))) := (v_e2 h1 h2).trans (by
  rw [← inT e]
  exact if_pos ⟨shT e a (by omega), shT (eT e) l hd⟩)
theorem v_inL (e : α → PV) [Ty e] {a : α} {l : List α} (h1 : f ρ = some (e a)) (h2 : g ρ = some (eL e l)) (hd : Ty.dp e + 1 ≤ 60 := by decide) : e2 pIn f g ρ = some (eBo (decide (a ∈ l))) := (v_e2 h1 h2).trans (by
  rw [← inT e]
  exact if_pos ⟨shT e a (by omega), shT (eL e) l hd⟩)
theorem v_ninT (e : α → PV) [Ty e] {a : α} {l : List α} (h1 : f ρ = some (e a)) (h2 : g ρ = some (eT e l)) (hd : Ty.dp e + 1 ≤ 60 := by decide) : e2 pNotIn f g ρ = some (eBo (decide (a ∉ l))) := (v_e2 h1 h2).trans (by
  rw [decide_not, ← inT e]
  exact if_pos ⟨shT e a (by omega), shT (eT e) l hd⟩)
theorem v_ninL (e : α → PV) [Ty e] {a : α} {l : List α} (h1 : f ρ = some (e a)) (h2 : g ρ = some (eL e l)) (hd : Ty.dp e + 1 ≤ 60 := by decide) : e2 pNotIn f g ρ = some (eBo (decide (a ∉ l))) := (v_e2 h1 h2).trans (by
  rw [decide_not, ← inT e]
  exact if_pos ⟨shT e a (by omega), shT (eL e) l hd⟩)
end
theorem v_isB {a b : Bool} (h1 : f ρ = some (eBo a)) (h2 : g ρ = some (eBo b)) : e2 pIsB f g ρ = some (eBo (decide (a = b))) := v_e2 h1 h2
theorem v_notB {a b : Bool} (h1 : f ρ = some (eBo a)) (h2 : g ρ = some (eBo b)) : e2 pNotB f g ρ = some (eBo (decide (a ≠ b))) := (v_e2 h1 h2).trans (by
  show some (PyData.bool (!decide (a = b))) = _
  rw [← decide_not])
/-- a truth value's proposition -/
theorem v_bd {b : Bool} (h : f ρ = some (eBo b)) : f ρ = some (eBo (decide (b = true))) := by
  rw [h]
  cases b <;> rfl
section
variable {P Q : Prop} [Decidable P] [Decidable Q] {c d : PEnv → Option Bool}
theorem v_and (h1 : f ρ = some (eBo (decide P))) (h2 : P → g ρ = some (eBo (decide Q))) : eAnd f g ρ = some (eBo (decide (P ∧ Q))) := by
  unfold eAnd
  rw [h1]
  by_cases h : P
  · show (if decide P = true then g ρ else _) = _
    rw [if_pos (decide_eq_true h), h2 h]
    simp [h]
  · show (if decide P = true then g ρ else _) = _
    rw [if_neg (by simp [h])]
    simp [h]
theorem v_or (h1 : f ρ = some (eBo (decide P))) (h2 : ¬P → g ρ = some (eBo (decide Q))) : eOr f g ρ = some (eBo (decide (P ∨ Q))) := by
  unfold eOr
  rw [h1]
  by_cases h : P
  · show (if decide P = true then _ else g ρ) = _
    rw [if_pos (decide_eq_true h)]
    simp [h]
  · show (if decide P = true then _ else g ρ) = _
    rw [if_neg (by simp [h]), h2 h]
    simp [h]
theorem v_not (h1 : f ρ = some (eBo (decide P))) : eNot f ρ = some (eBo (decide (¬P))) := by
  unfold eNot
  rw [h1]
  show some (PyData.bool (!decide P)) = _
  rw [← decide_not]
theorem v_notT (h1 : c ρ = some (decide P)) : eNotT c ρ = some (eBo (decide (¬P))) := by
  unfold eNotT
  rw [h1]
  show some (PyData.bool (!decide P)) = _
  rw [← decide_not]
/-! tests -/
theorem c_B (h1 : f ρ = some (eBo (decide P))) : cB f ρ = some (decide P) := by
  unfold cB
  rw [h1]
  rfl
theorem c_tru (h1 : f ρ = some (eBo (decide P))) : cTru f ρ = some (decide P) := by
  unfold cTru
  rw [h1]
  rfl
theorem c_and (h1 : c ρ = some (decide P)) (h2 : P → d ρ = some (decide Q)) : cAnd c d ρ = some (decide (P ∧ Q)) := by
  unfold cAnd
  rw [h1]
  by_cases h : P
  · show (if decide P = true then d ρ else _) = _
    rw [if_pos (decide_eq_true h), h2 h]
    simp [h]
  · show (if decide P = true then d ρ else _) = _
    rw [if_neg (by simp [h])]
    simp [h]
theorem c_or (h1 : c ρ = some (decide P)) (h2 : ¬P → d ρ = some (decide Q)) : cOr c d ρ = some (decide (P ∨ Q)) := by
  unfold cOr
  rw [h1]
  by_cases h : P
  · show (if decide P = true then _ else d ρ) = _
    rw [if_pos (decide_eq_true h)]
    simp [h]
  · show (if decide P = true then _ else d ρ) = _
    rw [if_neg (by simp [h]), h2 h]
    simp [h]
theorem c_not (h1 : c ρ = some (decide P)) : cNot c ρ = some (decide (¬P)) := by
  unfold cNot
  rw [h1]
  show some (!decide P) = _
  rw [← decide_not]
theorem c_yes : cYes ρ = some (decide True) := rfl
theorem c_truI {a : Int} (h1 : f ρ = some (eI a)) : cTru f ρ = some (decide (a ≠ 0)) := by
  unfold cTru
  rw [h1]
  show some (a != 0) = _
  congr 1
  by_cases h : a = 0 <;> simp [h]
theorem c_truL (e : α → PV) {l : List α} (h1 : f ρ = some (eL e l)) : cTru f ρ = some (decide (0 < l.length)) := by
  unfold cTru
  rw [h1]
  cases l <;> rfl
theorem c_truT (e : α → PV) {l : List α} (h1 : f ρ = some (eT e l)) : cTru f ρ = some (decide (0 < l.length)) := by
  unfold cTru
  rw [h1]
  cases l <;> rfl
theorem v_if (e : α → PV) {a b : α} (hc : c ρ = some (decide P)) (h1 : P → f ρ = some (e a)) (h2 : ¬P → g ρ = some (e b)) : eIf c f g ρ = some (e (if P then a else b)) := by
  unfold eIf
  rw [hc]
  by_cases h : P
  · show (if decide P = true then f ρ else _) = _
    rw [if_pos (decide_eq_true h), h1 h, if_pos h]
  · show (if decide P = true then f ρ else _) = _
    rw [if_neg (by simp [h]), h2 h, if_neg h]
theorem v_ifB {a b : Bool} (hc : c ρ = some (decide P)) (h1 : P → f ρ = some (eBo a)) (h2 : ¬P → g ρ = some (eBo b)) : eIf c f g ρ = some (eBo (if P then a else b)) := v_if eBo hc h1 h2
/-- a < b < c -/
theorem v_chain {p q : PV → PV → Option PV} {x y z : PV} (h1 : f ρ = some x) (h2 : g ρ = some y) (h3 : k ρ = some z) (hp : p x y = some (eBo (decide P))) (hq : q y z = some (eBo (decide Q))) : e3c p q f g k ρ = some (eBo (decide (P ∧ Q))) := by
  unfold e3c
  rw [h1, Option.bind_some, h2, Option.bind_some, hp]
  by_cases h : P
  · show (if decide P = true then _ else _) = _
    rw [if_pos (decide_eq_true h), h3]
    show q y z = _
    rw [hq]
    simp [h]
  · show (if decide P = true then _ else _) = _
    rw [if_neg (by simp [h])]
    simp [h]
end
/-! tuples and lists -/
theorem a_nil : aNil ρ = some [] := rfl
theorem a_cons {r : PEnv → Option (List PV)} {x : PV} {l : List PV} (h1 : f ρ = some x) (h2 : r ρ = some l) : aCons f r ρ = some (x :: l) := by
  unfold aCons
  rw [h1, h2]
  rfl
section
variable {r : PEnv → Option (List PV)}
theorem v_tup {l : List PV} (h : r ρ = some l) (hl : l.length ≤ 16777216 := by exact Nat.le_of_ble_eq_true rfl) : eCall pTup r ρ = some (.tuple l) := by
  unfold eCall
  rw [h]
  exact pTup_s hl
theorem v_lst {l : List PV} (h : r ρ = some l) (hl : l.length ≤ 16777216 := by exact Nat.le_of_ble_eq_true rfl) : eCall pLst r ρ = some (.list l) := by
  unfold eCall
  rw [h]
  exact pLst_s hl
theorem v_call {fn : List PV → Option PV} {l : List PV} {v : PV} (h : r ρ = some l) (q : fn l = some v) : eCall fn r ρ = some v := by
  unfold eCall
  rw [h]
  exact q
theorem v_callB {fn : List PV → Option PV} {l : List PV} {v : PV} (h : r ρ = some l) (q : fn l = some v) (n : noL v = true) : eCallB fn r ρ = some v := by
  unfold eCallB
  rw [h, Option.bind_some, q, Option.bind_some, if_pos n]
end
/-- an item; from behind for i below 0 -/
def ix [Inhabited α] (l : List α) (i : Int) : α := l.getD (if i < 0 then i + l.length else i).toNat default
theorem ix_nn [Inhabited α] {l : List α} {i : Int} (h : 0 ≤ i) : ix l i = l.getD i.toNat default := by
  unfold ix
  rw [if_neg (by omega)]
theorem atI_ix [Inhabited α] (e : α → PV) {l : List α} {i : Int} (h : -(l.length : Int) ≤ i ∧ i < l.length) : atI (l.map e) i = some (e (ix l i)) := by
  unfold atI ixN ix
  rw [List.length_map]
  by_cases h0 : 0 ≤ i
  · rw [if_pos h0, if_pos h.2, Option.bind_some, List.getElem?_map, if_neg (by omega), List.getD_eq_getElem?_getD, List.getElem?_eq_getElem (by omega)]
    rfl
  · rw [if_neg h0, if_pos h.1, Option.bind_some, List.getElem?_map, if_pos (by omega), List.getD_eq_getElem?_getD, List.getElem?_eq_getElem (by omega)]
    rfl
theorem v_ixT [Inhabited α] (e : α → PV) {l : List α} {i : Int} (h1 : f ρ = some (eT e l)) (h2 : g ρ = some (eI i)) (h : -(l.length : Int) ≤ i ∧ i < l.length) : e2 pIx f g ρ = some (e (ix l i)) := (v_e2 h1 h2).trans (atI_ix e h)
theorem v_ixL [Inhabited α] (e : α → PV) {l : List α} {i : Int} (h1 : f ρ = some (eL e l)) (h2 : g ρ = some (eI i)) (h : -(l.length : Int) ≤ i ∧ i < l.length) : e2 pIx f g ρ = some (e (ix l i)) := (v_e2 h1 h2).trans (atI_ix e h)
/-- an item of a tuple of known form -/
theorem v_ixP {l : List PV} {i : Int} {v : PV} (h1 : f ρ = some (.tuple l)) (h2 : g ρ = some (eI i)) (h : atI l i = some v) : e2 pIx f g ρ = some v := (v_e2 h1 h2).trans h
theorem v_lenT (e : α → PV) {l : List α} (h1 : f ρ = some (eT e l)) : e1 pLen f ρ = some (eI l.length) := (v_e1 h1).trans (by show some (PyData.int ((l.map e).length : Int)) = _; rw [List.length_map])
theorem v_lenL (e : α → PV) {l : List α} (h1 : f ρ = some (eL e l)) : e1 pLen f ρ = some (eI l.length) := (v_e1 h1).trans (by show some (PyData.int ((l.map e).length : Int)) = _; rw [List.length_map])
theorem v_sumT {l : List Int} (h1 : f ρ = some (eT eI l)) : e1 pSum f ρ = some (eI l.sum) := (v_e1 h1).trans (pSum_t l)
theorem v_sumL {l : List Int} (h1 : f ρ = some (eL eI l)) : e1 pSum f ρ = some (eI l.sum) := (v_e1 h1).trans (pSum_l l)
theorem v_tupT (e : α → PV) {l : List α} (h1 : f ρ = some (eT e l)) : e1 pTuple f ρ = some (eT e l) := v_e1 h1
theorem v_tupL (e : α → PV) {l : List α} (h1 : f ρ = some (eL e l)) : e1 pTuple f ρ = some (eT e l) := v_e1 h1
theorem v_lstT (e : α → PV) {l : List α} (h1 : f ρ = some (eT e l)) : e1 pList f ρ = some (eL e l) := v_e1 h1
theorem v_lstL (e : α → PV) {l : List α} (h1 : f ρ = some (eL e l)) : e1 pList f ρ = some (eL e l) := v_e1 h1
theorem toBs_map : ∀ l : List Bool, toBs (l.map PyData.bool) = some l
  | [] => rfl
  | x :: l => by rw [List.map_cons, toBs, toBs_map l]; rfl
theorem v_all (P : α → Prop) [DecidablePred P] {l : List α} {D : Decidable (∀ x ∈ l, P x)} (h1 : f ρ = some (eL eBo (l.map fun x => decide (P x)))) : e1 pAll f ρ = some (eBo (decide (∀ x ∈ l, P x))) := (v_e1 h1).trans (by
  show (toBs _).bind _ = _
  rw [toBs_map, Option.bind_some]
  congr 2
  rw [Bool.eq_iff_iff, List.all_eq_true, decide_eq_true_eq]
  simp)
theorem v_any (P : α → Prop) [DecidablePred P] {l : List α} {D : Decidable (∃ x ∈ l, P x)} (h1 : f ρ = some (eL eBo (l.map fun x => decide (P x)))) : e1 pAny f ρ = some (eBo (decide (∃ x ∈ l, P x))) := (v_e1 h1).trans (by
  show (toBs _).bind _ = _
  rw [toBs_map, Option.bind_some]
  congr 2
  rw [Bool.eq_iff_iff, List.any_eq_true, decide_eq_true_eq]
  simp)
theorem v_all2 {m : α → List β} (P : α → β → Prop) [∀ x y, Decidable (P x y)] {l : List α} {D : Decidable (∀ x ∈ l, ∀ y ∈ m x, P x y)} (h1 : f ρ = some (eL eBo (l.flatMap fun x => (m x).map fun y => decide (P x y)))) : e1 pAll f ρ = some (eBo (decide (∀ x ∈ l, ∀ y ∈ m x, P x y))) := (v_e1 h1).trans (by
  show (toBs _).bind _ = _
  rw [toBs_map, Option.bind_some]
  congr 2
  rw [Bool.eq_iff_iff, List.all_eq_true, decide_eq_true_eq]
  simp)
theorem v_any2 {m : α → List β} (P : α → β → Prop) [∀ x y, Decidable (P x y)] {l : List α} {D : Decidable (∃ x ∈ l, ∃ y ∈ m x, P x y)} (h1 : f ρ = some (eL eBo (l.flatMap fun x => (m x).map fun y => decide (P x y)))) : e1 pAny f ρ = some (eBo (decide (∃ x ∈ l, ∃ y ∈ m x, P x y))) := (v_e1 h1).trans (by
  show (toBs _).bind _ = _
  rw [toBs_map, Option.bind_some]
  congr 2
  rw [Bool.eq_iff_iff, List.any_eq_true, decide_eq_true_eq]
  simp)
theorem v_allL {l : List Bool} {D : Decidable (∀ x ∈ l, x = true)} (h1 : f ρ = some (eL eBo l)) : e1 pAll f ρ = some (eBo (decide (∀ x ∈ l, x = true))) := v_all (fun x => x = true) (by simpa using h1)
theorem v_anyL {l : List Bool} {D : Decidable (∃ x ∈ l, x = true)} (h1 : f ρ = some (eL eBo l)) : e1 pAny f ρ = some (eBo (decide (∃ x ∈ l, x = true))) := v_any (fun x => x = true) (by simpa using h1)
/-- a part of a list -/
def cut (l : List α) (lo hi : Option Int) : List α := (l.drop (HT.sIx l.length 0 lo)).take (HT.sIx l.length l.length hi - HT.sIx l.length 0 lo)
theorem cutD_map (e : α → PV) (l : List α) (lo hi : Option Int) : Pl.cutD (l.map e) lo hi = (cut l lo hi).map e := by
  unfold Pl.cutD cut
  rw [List.length_map, List.map_take, List.map_drop]
theorem o_some {i : Int} (h : f ρ = some (eI i)) : oSome f ρ = some (some i) := by
  unfold oSome
  rw [h]
  rfl
theorem o_none : oNone ρ = some none := rfl
section
variable {p q : PEnv → Option (Option Int)} {lo hi : Option Int}
theorem v_slT (e : α → PV) {l : List α} (h1 : f ρ = some (eT e l)) (h2 : p ρ = some lo) (h3 : q ρ = some hi) : eSl f p q ρ = some (eT e (cut l lo hi)) := by
  unfold eSl
  rw [h1, Option.bind_some, h2, Option.bind_some, h3, Option.bind_some]
  show some (PyData.tuple (Pl.cutD (l.map e) lo hi)) = _
  rw [cutD_map]
  rfl
theorem v_slL (e : α → PV) {l : List α} (h1 : f ρ = some (eL e l)) (h2 : p ρ = some lo) (h3 : q ρ = some hi) : eSl f p q ρ = some (eL e (cut l lo hi)) := by
  unfold eSl
  rw [h1, Option.bind_some, h2, Option.bind_some, h3, Option.bind_some]
  show some (PyData.list (Pl.cutD (l.map e) lo hi)) = _
  rw [cutD_map]
  rfl
theorem v_slF (e : α → PV) {l : List α} (h1 : f ρ = some (eL e l)) (h2 : p ρ = some lo) (h3 : q ρ = some hi) : eSlL f p q ρ = some (eL e (cut l lo hi)) := by
  unfold eSlL
  rw [h1, Option.bind_some, h2, Option.bind_some, h3, Option.bind_some]
  show some (PyData.list (Pl.cutD (l.map e) lo hi)) = _
  rw [cutD_map]
  rfl
theorem v_slP {l : List PV} {v : PV} (h1 : f ρ = some (.tuple l)) (h2 : p ρ = some lo) (h3 : q ρ = some hi) (h : some (PyData.tuple (Pl.cutD l lo hi)) = some v) : eSl f p q ρ = some v := by
  unfold eSl
  rw [h1, Option.bind_some, h2, Option.bind_some, h3, Option.bind_some]
  exact h
end
/-! ranges -/
def RngOk (a b : Int) : Prop := -4611686018427387904 ≤ a ∧ a < 4611686018427387904 ∧ -4611686018427387904 ≤ b ∧ b < 4611686018427387904 ∧ b - a ≤ 16777216
theorem rOk_of {a b : Int} (h : RngOk a b) : rOk a b = true := by
  unfold RngOk at h
  unfold rOk
  simp only [Bool.and_eq_true, decide_eq_true_eq]
  omega
theorem l_rng1 {n : Int} (h : f ρ = some (eI n)) (ok : RngOk 0 n) : lRng1 f ρ = some ((rng 0 n).map eI) := by
  unfold RngOk at ok
  unfold lRng1
  rw [h, Option.bind_some]
  show pRng (.int 0) (.int n) = _
  unfold pRng
  simp only [toI, Option.bind_some, if_pos (rOk_of (a := 0) (b := n) ok)]
theorem l_rng2 {a b : Int} (h : f ρ = some (eI a)) (h' : g ρ = some (eI b)) (ok : RngOk a b) : lRng2 f g ρ = some ((rng a b).map eI) := by
  unfold RngOk at ok
  exact rg_2 h h' (by omega) (by omega) (by omega) (by omega)
theorem v_lstRg2 {a b : Int} (h : f ρ = some (eI a)) (h' : g ρ = some (eI b)) (ok : RngOk a b) : eLstRg (rg2 f g) ρ = some (eL eI (rng a b)) := by
  unfold RngOk at ok
  exact lstRg_e h h' (by omega) (by omega) (by omega) (by omega) (by omega)
theorem v_lstRg1 {n : Int} (h : f ρ = some (eI n)) (ok : RngOk 0 n) : eLstRg (rg1 f) ρ = some (eL eI (rng 0 n)) := by
  have := v_lstRg2 (f := eK (.int 0)) (g := f) (ρ := ρ) (a := 0) (b := n) rfl h ok
  unfold eLstRg rg1
  unfold eLstRg rg2 at this
  rw [h] at this ⊢
  exact this
theorem v_tupRg2 {a b : Int} (h : f ρ = some (eI a)) (h' : g ρ = some (eI b)) (ok : RngOk a b) : eTupRg (rg2 f g) ρ = some (eT eI (rng a b)) := by
  have ok1 := rOk_of ok
  unfold RngOk at ok
  unfold eTupRg rg2
  rw [h, Option.bind_some, h', Option.bind_some]
  have ok2 : (rOk a b && decide ((b - a).toNat ≤ 16777216)) = true := by
    rw [ok1]
    exact decide_eq_true (by omega)
  show pTupRg (.int a) (.int b) = _
  unfold pTupRg
  simp only [toI, Option.bind_some, if_pos ok2]
  rfl
theorem v_tupRg1 {n : Int} (h : f ρ = some (eI n)) (ok : RngOk 0 n) : eTupRg (rg1 f) ρ = some (eT eI (rng 0 n)) := by
  have := v_tupRg2 (f := eK (.int 0)) (g := f) (ρ := ρ) (a := 0) (b := n) rfl h ok
  unfold eTupRg rg1
  unfold eTupRg rg2 at this
  rw [h] at this ⊢
  exact this
theorem l_T (e : α → PV) {l : List α} (h : f ρ = some (eT e l)) : lSeq f ρ = some (l.map e) := by
  unfold lSeq
  rw [h]
  rfl
theorem l_L (e : α → PV) {l : List α} (h : f ρ = some (eL e l)) : lSeq f ρ = some (l.map e) := by
  unfold lSeq
  rw [h]
  rfl
def enumI (l : List α) : List (Int × α) := l.mapIdx fun i d => ((i : Int), d)
theorem enumL_map (e : α → PV) (l : List α) : enumL (l.map e) = (enumI l).map (p2 eI e) := by
  unfold enumL enumI
  apply List.ext_getElem?
  intro i
  rw [List.getElem?_mapIdx, List.getElem?_map, List.getElem?_map, List.getElem?_mapIdx]
  cases l[i]? <;> rfl
theorem l_enumT (e : α → PV) {l : List α} (h : f ρ = some (eT e l)) : lEnum f ρ = some ((enumI l).map (p2 eI e)) := by
  unfold lEnum
  rw [h]
  exact congrArg some (enumL_map e l)
theorem l_enumL (e : α → PV) {l : List α} (h : f ρ = some (eL e l)) : lEnum f ρ = some ((enumI l).map (p2 eI e)) := by
  unfold lEnum
  rw [h]
  exact congrArg some (enumL_map e l)
/-! comprehensions -/
section
variable {L L1 : LF} {vs vs1 : List Nat} {h h1 : GF} {c c1 : PEnv → Option Bool} {e : PF}
theorem v_map (ea : α → PV) (eb : β → PV) {l : List α} (fn : α → β) (hL : L ρ = some (l.map ea)) (hn : l.length ≤ 16777216) (st : ∀ a ∈ l, ∃ ρ1, h (ea a) (wipeE ρ vs) = some ρ1 ∧ c ρ1 = some (decide True) ∧ e ρ1 = some (eb (fn a))) : eComp L vs h c e ρ = some (eL eb (l.map fn)) := by
  rw [ec_map ea (fun a => eb (fn a)) hL hn st]
  unfold eL
  rw [List.map_map]
  rfl
theorem v_flt (ea : α → PV) (eb : β → PV) {l : List α} (P : α → Prop) [DecidablePred P] (fn : α → β) (hL : L ρ = some (l.map ea)) (hn : l.length ≤ 16777216) (st : ∀ a ∈ l, ∃ ρ1, h (ea a) (wipeE ρ vs) = some ρ1 ∧ c ρ1 = some (decide (P a)) ∧ (P a → e ρ1 = some (eb (fn a)))) : eComp L vs h c e ρ = some (eL eb ((l.filter fun a => decide (P a)).map fn)) := by
  rw [ec_flt ea (fun a => decide (P a)) (fun a => eb (fn a)) hL hn fun a ha => by
    obtain ⟨ρ1, q1, q2, q3⟩ := st a ha
    exact ⟨ρ1, q1, q2, fun hp => q3 (of_decide_eq_true hp)⟩]
  unfold eL
  rw [List.map_map]
  rfl
theorem cp2 {ρ : PEnv} (ea : α → PV) (eb : β → PV) (ec : γ → PV) (P : α → Prop) [DecidablePred P] (m : α → List β) (R : α → β → Prop) [∀ x y, Decidable (R x y)] (fn : α → β → γ) : ∀ (l : List α), (∀ a ∈ l, ∃ ρ1, h (ea a) ρ = some ρ1 ∧ c ρ1 = some (decide (P a)) ∧ (P a → L1 ρ1 = some ((m a).map eb) ∧ ∀ b ∈ m a, ∃ ρ2, h1 (eb b) (wipeE ρ1 vs1) = some ρ2 ∧ c1 ρ2 = some (decide (R a b)) ∧ (R a b → e ρ2 = some (ec (fn a b))))) → compL2 h c L1 vs1 h1 c1 e ρ (l.map ea) = some (((l.filter fun a => decide (P a)).flatMap fun a => ((m a).filter fun b => decide (R a b)).map (fn a)).map ec)
  | [], _ => rfl
  | a :: l, st => by
    obtain ⟨ρ1, q1, q2, q3⟩ := st a (List.mem_cons_self ..)
    have ih := cp2 ea eb ec P m R fn l (fun a ha => st a (List.mem_cons_of_mem _ ha))
    rw [List.map_cons, compL2, q1, Option.bind_some, q2, Option.bind_some]
    by_cases hp : P a
    · obtain ⟨q4, q5⟩ := q3 hp
      have := cp_flt (h := h1) (c := c1) (e := e) (ρ := wipeE ρ1 vs1) eb (fun b => decide (R a b)) (fun b => ec (fn a b)) (m a) fun b hb => by
        obtain ⟨ρ2, w1, w2, w3⟩ := q5 b hb
        exact ⟨ρ2, w1, w2, fun hr => w3 (of_decide_eq_true hr)⟩
      rw [if_pos (decide_eq_true hp), q4, Option.bind_some, this, Option.bind_some, ih, Option.bind_some, List.filter_cons_of_pos (by exact decide_eq_true hp), List.flatMap_cons, List.map_append, List.map_map]
      rfl
    · rw [if_neg (by simp [hp]), ih, List.filter_cons_of_neg (by simp [hp])]
theorem v_c2 (ea : α → PV) (eb : β → PV) (ec : γ → PV) {l : List α} (P : α → Prop) [DecidablePred P] (m : α → List β) (R : α → β → Prop) [∀ x y, Decidable (R x y)] (fn : α → β → γ) (hL : L ρ = some (l.map ea)) (hn : ((l.filter fun a => decide (P a)).flatMap fun a => ((m a).filter fun b => decide (R a b)).map (fn a)).length ≤ 16777216) (st : ∀ a ∈ l, ∃ ρ1, h (ea a) (wipeE ρ vs) = some ρ1 ∧ c ρ1 = some (decide (P a)) ∧ (P a → L1 ρ1 = some ((m a).map eb) ∧ ∀ b ∈ m a, ∃ ρ2, h1 (eb b) (wipeE ρ1 vs1) = some ρ2 ∧ c1 ρ2 = some (decide (R a b)) ∧ (R a b → e ρ2 = some (ec (fn a b))))) : eComp2 L vs h c L1 vs1 h1 c1 e ρ = some (eL ec ((l.filter fun a => decide (P a)).flatMap fun a => ((m a).filter fun b => decide (R a b)).map (fn a))) := by
  unfold eComp2
  rw [hL, Option.bind_some, cp2 ea eb ec P m R fn l st]
  exact pLst_s (by rw [List.length_map]; exact hn)
theorem flt_True (l : List α) : (l.filter fun _ => decide True) = l := List.filter_eq_self.2 fun _ _ => rfl
theorem v_c2m (ea : α → PV) (eb : β → PV) (ec : γ → PV) {l : List α} (m : α → List β) (fn : α → β → γ) (hL : L ρ = some (l.map ea)) (hn : (l.flatMap fun a => (m a).map (fn a)).length ≤ 16777216) (st : ∀ a ∈ l, ∃ ρ1, h (ea a) (wipeE ρ vs) = some ρ1 ∧ c ρ1 = some (decide True) ∧ L1 ρ1 = some ((m a).map eb) ∧ ∀ b ∈ m a, ∃ ρ2, h1 (eb b) (wipeE ρ1 vs1) = some ρ2 ∧ c1 ρ2 = some (decide True) ∧ e ρ2 = some (ec (fn a b))) : eComp2 L vs h c L1 vs1 h1 c1 e ρ = some (eL ec (l.flatMap fun a => (m a).map (fn a))) := by
  have := v_c2 (L := L) (L1 := L1) (vs := vs) (vs1 := vs1) (h := h) (h1 := h1) (c := c) (c1 := c1) (e := e) (ρ := ρ) ea eb ec (l := l) (fun _ => True) m (fun _ _ => True) fn hL (by simp only [flt_True]; exact hn) fun a ha => by
    obtain ⟨ρ1, q1, q2, q3, q4⟩ := st a ha
    exact ⟨ρ1, q1, q2, fun _ => ⟨q3, fun b hb => by
      obtain ⟨ρ2, w1, w2, w3⟩ := q4 b hb
      exact ⟨ρ2, w1, w2, fun _ => w3⟩⟩⟩
  rw [this]
  simp only [flt_True]
theorem v_c2i (ea : α → PV) (eb : β → PV) (ec : γ → PV) {l : List α} (m : α → List β) (R : α → β → Prop) [∀ x y, Decidable (R x y)] (fn : α → β → γ) (hL : L ρ = some (l.map ea)) (hn : (l.flatMap fun a => ((m a).filter fun b => decide (R a b)).map (fn a)).length ≤ 16777216) (st : ∀ a ∈ l, ∃ ρ1, h (ea a) (wipeE ρ vs) = some ρ1 ∧ c ρ1 = some (decide True) ∧ L1 ρ1 = some ((m a).map eb) ∧ ∀ b ∈ m a, ∃ ρ2, h1 (eb b) (wipeE ρ1 vs1) = some ρ2 ∧ c1 ρ2 = some (decide (R a b)) ∧ (R a b → e ρ2 = some (ec (fn a b)))) : eComp2 L vs h c L1 vs1 h1 c1 e ρ = some (eL ec (l.flatMap fun a => ((m a).filter fun b => decide (R a b)).map (fn a))) := by
  have := v_c2 (L := L) (L1 := L1) (vs := vs) (vs1 := vs1) (h := h) (h1 := h1) (c := c) (c1 := c1) (e := e) (ρ := ρ) ea eb ec (l := l) (fun _ => True) m R fn hL (by simp only [flt_True]; exact hn) fun a ha => by
    obtain ⟨ρ1, q1, q2, q3, q4⟩ := st a ha
    exact ⟨ρ1, q1, q2, fun _ => ⟨q3, q4⟩⟩
  rw [this, flt_True]
end
end ex
/-! ### more expressions -/
section ex2
variable {α β γ δ ε : Type} {f g k : PF} {ρ : PEnv} {r : PEnv → Option (List PV)}
theorem co_some (e : α → PV) {a : α} (h : f ρ = some (e a)) : f ρ = some (eO e (some a)) := h
theorem un_some [Inhabited α] (e : α → PV) {o : Option α} (h : f ρ = some (eO e o)) (hn : o ≠ none) : f ρ = some (e (o.getD default)) := by
  cases o with
  | none => exact absurd rfl hn
  | some a => exact h
theorem k_none (e : α → PV) : eK .none ρ = some (eO e none) := rfl
theorem t_nil (e : α → PV) : aNil ρ = some (([] : List α).map e) := rfl
theorem t_cons (e : α → PV) {x : α} {l : List α} (h1 : f ρ = some (e x)) (h2 : r ρ = some (l.map e)) : aCons f r ρ = some ((x :: l).map e) := a_cons h1 h2
theorem v_T (e : α → PV) {l : List α} (h : r ρ = some (l.map e)) (hl : (l.map e).length ≤ 16777216 := by exact Nat.le_of_ble_eq_true rfl) : eCall pTup r ρ = some (eT e l) := v_tup h hl
theorem v_L (e : α → PV) {l : List α} (h : r ρ = some (l.map e)) (hl : (l.map e).length ≤ 16777216 := by exact Nat.le_of_ble_eq_true rfl) : eCall pLst r ρ = some (eL e l) := v_lst h hl
theorem v_P2 (a : α → PV) (b : β → PV) {x : α} {y : β} (h : r ρ = some [a x, b y]) : eCall pTup r ρ = some (p2 a b (x, y)) := v_tup h
theorem v_P3 (a : α → PV) (b : β → PV) (c : γ → PV) {x : α} {y : β} {z : γ} (h : r ρ = some [a x, b y, c z]) : eCall pTup r ρ = some (p3 a b c (x, y, z)) := v_tup h
theorem v_P4 (a : α → PV) (b : β → PV) (c : γ → PV) (d : δ → PV) {x : α} {y : β} {z : γ} {u : δ} (h : r ρ = some [a x, b y, c z, d u]) : eCall pTup r ρ = some (p4 a b c d (x, y, z, u)) := v_tup h
theorem v_P5 (a : α → PV) (b : β → PV) (c : γ → PV) (d : δ → PV) (e : ε → PV) {x : α} {y : β} {z : γ} {u : δ} {w : ε} (h : r ρ = some [a x, b y, c z, d u, e w]) : eCall pTup r ρ = some (p5 a b c d e (x, y, z, u, w)) := v_tup h
theorem i2_0 (a : α → PV) (b : β → PV) {x : α × β} (h : f ρ = some (p2 a b x)) : e2 pIx f (eK (.int 0)) ρ = some (a x.1) := (v_e2 h rfl).trans rfl
theorem i2_1 (a : α → PV) (b : β → PV) {x : α × β} (h : f ρ = some (p2 a b x)) : e2 pIx f (eK (.int 1)) ρ = some (b x.2) := (v_e2 h rfl).trans rfl
theorem i3_0 (a : α → PV) (b : β → PV) (c : γ → PV) {x : α × β × γ} (h : f ρ = some (p3 a b c x)) : e2 pIx f (eK (.int 0)) ρ = some (a x.1) := (v_e2 h rfl).trans rfl
theorem i3_1 (a : α → PV) (b : β → PV) (c : γ → PV) {x : α × β × γ} (h : f ρ = some (p3 a b c x)) : e2 pIx f (eK (.int 1)) ρ = some (b x.2.1) := (v_e2 h rfl).trans rfl
theorem i3_2 (a : α → PV) (b : β → PV) (c : γ → PV) {x : α × β × γ} (h : f ρ = some (p3 a b c x)) : e2 pIx f (eK (.int 2)) ρ = some (c x.2.2) := (v_e2 h rfl).trans rfl
theorem i4_0 (a : α → PV) (b : β → PV) (c : γ → PV) (d : δ → PV) {x : α × β × γ × δ} (h : f ρ = some (p4 a b c d x)) : e2 pIx f (eK (.int 0)) ρ = some (a x.1) := (v_e2 h rfl).trans rfl
theorem i4_1 (a : α → PV) (b : β → PV) (c : γ → PV) (d : δ → PV) {x : α × β × γ × δ} (h : f ρ = some (p4 a b c d x)) : e2 pIx f (eK (.int 1)) ρ = some (b x.2.1) := (v_e2 h rfl).trans rfl
theorem i4_2 (a : α → PV) (b : β → PV) (c : γ → PV) (d : δ → PV) {x : α × β × γ × δ} (h : f ρ = some (p4 a b c d x)) : e2 pIx f (eK (.int 2)) ρ = some (c x.2.2.1) := (v_e2 h rfl).trans rfl
theorem i4_3 (a : α → PV) (b : β → PV) (c : γ → PV) (d : δ → PV) {x : α × β × γ × δ} (h : f ρ = some (p4 a b c d x)) : e2 pIx f (eK (.int 3)) ρ = some (d x.2.2.2) := (v_e2 h rfl).trans rfl
theorem i5_0 (a : α → PV) (b : β → PV) (c : γ → PV) (d : δ → PV) (e : ε → PV) {x : α × β × γ × δ × ε} (h : f ρ = some (p5 a b c d e x)) : e2 pIx f (eK (.int 0)) ρ = some (a x.1) := (v_e2 h rfl).trans rfl
theorem i5_1 (a : α → PV) (b : β → PV) (c : γ → PV) (d : δ → PV) (e : ε → PV) {x : α × β × γ × δ × ε} (h : f ρ = some (p5 a b c d e x)) : e2 pIx f (eK (.int 1)) ρ = some (b x.2.1) := (v_e2 h rfl).trans rfl
theorem i5_2 (a : α → PV) (b : β → PV) (c : γ → PV) (d : δ → PV) (e : ε → PV) {x : α × β × γ × δ × ε} (h : f ρ = some (p5 a b c d e x)) : e2 pIx f (eK (.int 2)) ρ = some (c x.2.2.1) := (v_e2 h rfl).trans rfl
theorem i5_3 (a : α → PV) (b : β → PV) (c : γ → PV) (d : δ → PV) (e : ε → PV) {x : α × β × γ × δ × ε} (h : f ρ = some (p5 a b c d e x)) : e2 pIx f (eK (.int 3)) ρ = some (d x.2.2.2.1) := (v_e2 h rfl).trans rfl
theorem i5_4 (a : α → PV) (b : β → PV) (c : γ → PV) (d : δ → PV) (e : ε → PV) {x : α × β × γ × δ × ε} (h : f ρ = some (p5 a b c d e x)) : e2 pIx f (eK (.int 4)) ρ = some (e x.2.2.2.2) := (v_e2 h rfl).trans rfl
/-- tuples of known form, read as tuples of one type -/
theorem co_2T (a : α → PV) {x : α × α} (h : f ρ = some (p2 a a x)) : f ρ = some (eT a [x.1, x.2]) := h
theorem co_3T (a : α → PV) {x : α × α × α} (h : f ρ = some (p3 a a a x)) : f ρ = some (eT a [x.1, x.2.1, x.2.2]) := h
theorem co_4T (a : α → PV) {x : α × α × α × α} (h : f ρ = some (p4 a a a a x)) : f ρ = some (eT a [x.1, x.2.1, x.2.2.1, x.2.2.2]) := h
theorem v_catP {l m : List PV} (h1 : f ρ = some (.tuple l)) (h2 : g ρ = some (.tuple m)) (h : l.length + m.length ≤ 16777216 := by exact Nat.le_of_ble_eq_true rfl) : e2 pPlus f g ρ = some (.tuple (l ++ m)) := (v_e2 h1 h2).trans (pPlus_t h)
theorem cat21 (a : α → PV) (b : β → PV) (c : γ → PV) {x : α × β} {z : γ} (h1 : f ρ = some (p2 a b x)) (h2 : g ρ = some (eT c [z])) : e2 pPlus f g ρ = some (p3 a b c (x.1, x.2, z)) := v_catP h1 h2
theorem cat31 (a : α → PV) (b : β → PV) (c : γ → PV) (d : δ → PV) {x : α × β × γ} {z : δ} (h1 : f ρ = some (p3 a b c x)) (h2 : g ρ = some (eT d [z])) : e2 pPlus f g ρ = some (p4 a b c d (x.1, x.2.1, x.2.2, z)) := v_catP h1 h2
theorem v_isNK (e : α → PV) [Nn e] {a : α} (h1 : f ρ = some (e a)) : e1 pIsN f ρ = some (eBo (decide False)) := (v_e1 h1).trans (by
  show some (PyData.bool (isNone (e a))) = _; rw [Nn.nn (e := e)]; rfl)
theorem v_notNK (e : α → PV) [Nn e] {a : α} (h1 : f ρ = some (e a)) : e1 pNotN f ρ = some (eBo (decide True)) := (v_e1 h1).trans (by
  show some (PyData.bool (!isNone (e a))) = _; rw [Nn.nn (e := e)]; rfl)
end ex2
/-! ### the row -/
structure Row (n : Nat) where
  l : List Int
  len : l.length = n
  rw : Rw l
abbrev eR {n : Nat} (r : Row n) : PV := iL r.l
def rg {n : Nat} (r : Row n) (k : Int) : Int := gR r.l k
theorem rg_b {n : Nat} (r : Row n) (k : Int) : 0 ≤ rg r k ∧ rg r k < 1000003 := gR_b r.rw k
theorem v_row {n : Nat} {f g : PF} {ρ : PEnv} {r : Row n} {k : Int} (h1 : f ρ = some (eR r)) (h2 : g ρ = some (eI k)) (h : 0 ≤ k ∧ k < n) : e2 pIx f g ρ = some (eI (rg r k)) := (v_e2 h1 h2).trans (ix_l h.1 (by rw [r.len]; exact h.2))
/-! ### statements -/
inductive WP (o : Option Fl) (N : PEnv → Prop) (R : PV → Prop) : Prop
  | nx {ρ : PEnv} (e : o = some (.nx ρ)) (h : N ρ) : WP o N R
  | rt {v : PV} (e : o = some (.ret v)) (h : R v) : WP o N R
section st
variable {N : PEnv → Prop} {R : PV → Prop} {ρ ρ' : PEnv} {f g : PF} {a b s t : PSt}
theorem WP.elim {o : Option Fl} (h : WP o N R) : (∃ ρ, o = some (.nx ρ) ∧ N ρ) ∨ ∃ v, o = some (.ret v) ∧ R v := by
  cases h with
  | nx e h => exact .inl ⟨_, e, h⟩
  | rt e h => exact .inr ⟨_, e, h⟩
theorem WP.mono {o : Option Fl} {N' : PEnv → Prop} {R' : PV → Prop} (h : WP o N R) (hn : ∀ ρ, N ρ → N' ρ) (hr : ∀ v, R v → R' v) : WP o N' R' := by
  cases h with
  | nx e h => exact .nx e (hn _ h)
  | rt e h => exact .rt e (hr _ h)
theorem wp_seq (h : WP (a ρ) (fun ρ' => WP (b ρ') N R) R) : WP (sSeq a b ρ) N R := by
  cases h with
  | nx e q =>
    have : sSeq a b ρ = b _ := sq_nx e rfl
    rw [this]
    exact q
  | rt e q => exact .rt (sq_rt e) q
theorem wp_join (N' : PEnv → Prop) (h : WP (a ρ) N' R) (k : ∀ ρ', N' ρ' → WP (b ρ') N R) : WP (sSeq a b ρ) N R := wp_seq (h.mono k fun _ q => q)
theorem wp_nil (h : N ρ) : WP (sNil ρ) N R := .nx rfl h
theorem wp_ret {v : PV} (h : f ρ = some v) (q : R v) : WP (sRet f ρ) N R := .rt (by
  unfold sRet
  rw [h]
  rfl) q
theorem wp_asg {v : PV} {h : GF} (h1 : f ρ = some v) (h2 : h v ρ = some ρ') (q : N ρ') : WP (sAsg f h ρ) N R := .nx (by
  unfold sAsg
  rw [h1, Option.bind_some, h2]
  rfl) q
theorem wp_own {v : PV} {i : Nat} (h1 : f ρ = some v) (h2 : ρ.set i (.own v) = ρ') (q : N ρ') : WP (sOwn i f ρ) N R := .nx (by
  unfold sOwn
  rw [h1, Option.bind_some, h2]) q
theorem wp_aug {v w z : PV} {i : Nat} {p : PV → PV → Option PV} (h1 : eV i ρ = some v) (h2 : f ρ = some w) (h3 : p v w = some z) (h4 : ρ.set i (.val z) = ρ') (q : N ρ') : WP (sAug i p f ρ) N R := .nx (by
  unfold sAug
  rw [h1, Option.bind_some, h2, Option.bind_some, h3, Option.bind_some, h4]) q
section
variable {α : Type}
theorem wp_app (e : α → PV) {l : List α} {x : α} {i : Nat} (h1 : f ρ = some (e x)) (h2 : ownL ρ i = some (l.map e)) (hl : l.length < 16777216) (h3 : ρ.set i (.own (eL e (l ++ [x]))) = ρ') (q : N ρ') : WP (sApp i f ρ) N R := .nx (by
  unfold sApp
  rw [h1, Option.bind_some, h2, Option.bind_some, List.length_map, if_pos (by rw [szl]; exact hl)]
  have : (.list (l.map e ++ [e x]) : PV) = eL e (l ++ [x]) := by unfold eL; rw [List.map_append]; rfl
  rw [this, h3]) q
theorem wp_ext (e : α → PV) {l m : List α} {i : Nat} (h1 : f ρ = some (eL e m)) (h2 : ownL ρ i = some (l.map e)) (hl : l.length + m.length ≤ 16777216) (h3 : ρ.set i (.own (eL e (l ++ m))) = ρ') (q : N ρ') : WP (sExt i f ρ) N R := .nx (by
  unfold sExt
  rw [h1, Option.bind_some, h2, Option.bind_some]
  show (if (l.map e).length + (m.map e).length ≤ sizeLine then _ else _) = _
  rw [List.length_map, List.length_map, if_pos (by rw [szl]; exact hl)]
  have : (.list (l.map e ++ m.map e) : PV) = eL e (l ++ m) := by unfold eL; rw [List.map_append]
  rw [this, h3]) q
/-- l[i] = x -/
def setI (l : List α) (i : Int) (x : α) : List α := l.set (if i < 0 then i + l.length else i).toNat x
theorem setI_length (l : List α) (i : Int) (x : α) : (setI l i x).length = l.length := List.length_set
theorem wp_setI (e : α → PV) {l : List α} {x : α} {i : Nat} {j : Int} (h1 : f ρ = some (e x)) (hg : g ρ = some (eI j)) (h2 : ownL ρ i = some (l.map e)) (hj : -(l.length : Int) ≤ j ∧ j < l.length) (h3 : ρ.set i (.own (eL e (setI l j x))) = ρ') (q : N ρ') : WP (sSetI i g f ρ) N R := .nx (by
  unfold sSetI
  rw [h1, Option.bind_some, hg, Option.bind_some]
  have hm : ixN (l.map e).length j = some (if j < 0 then j + l.length else j).toNat := by
    unfold ixN
    rw [List.length_map]
    by_cases h0 : 0 ≤ j
    · rw [if_pos h0, if_pos hj.2, if_neg (by omega)]
    · rw [if_neg h0, if_pos hj.1, if_pos (by omega)]
  show (toI (.int j)).bind _ = _
  simp only [toI, Option.bind_some, h2, hm]
  have : (.list ((l.map e).set (if j < 0 then j + l.length else j).toNat (e x)) : PV) = eL e (setI l j x) := by unfold eL setI; rw [List.map_set]
  rw [this, h3]) q
end
theorem wp_fzO {i : Nat} {v : PV} (h : ρ[i]? = some (.own v)) (h2 : ρ.set i (.val v) = ρ') (q : N ρ') : WP (sFz i ρ) N R := .nx (by
  unfold sFz
  rw [h]
  show some (Fl.nx (ρ.set i (.val v))) = _
  rw [h2]) q
theorem wp_fzV {i : Nat} {v : PV} (h : ρ[i]? = some (.val v)) (q : N ρ) : WP (sFz i ρ) N R := .nx (fz_val h) q
theorem wp_fzU {i : Nat} (h : ρ[i]? = some .un) (q : N ρ) : WP (sFz i ρ) N R := .nx (by
  unfold sFz
  rw [h]) q
theorem m_nil : mNil ρ = some [] := rfl
theorem m_val {r : MF} {v : PV} {l : List (Bool × PV)} (h1 : f ρ = some v) (h2 : r ρ = some l) : mVal f r ρ = some ((false, v) :: l) := by
  unfold mVal
  rw [h1, Option.bind_some, h2]
  rfl
theorem m_own {r : MF} {v : PV} {l : List (Bool × PV)} (h1 : f ρ = some v) (h2 : r ρ = some l) : mOwn f r ρ = some ((true, v) :: l) := by
  unfold mOwn
  rw [h1, Option.bind_some, h2]
  rfl
theorem wp_par {is : List Nat} {r : MF} {l : List (Bool × PV)} (h : r ρ = some l) (hl : l.length = is.length) (h2 : setAllE ρ is l = ρ') (q : N ρ') : WP (sPar is r ρ) N R := .nx (by
  unfold sPar
  rw [h, Option.bind_some, if_pos hl, h2]) q
theorem wp_if {P : Prop} [Decidable P] {c : PEnv → Option Bool} (hc : c ρ = some (decide P)) (h1 : P → WP (s ρ) N R) (h2 : ¬P → WP (t ρ) N R) : WP (sIf c s t ρ) N R := by
  unfold sIf
  rw [hc, Option.bind_some]
  by_cases h : P
  · rw [if_pos (decide_eq_true h)]
    exact h1 h
  · rw [if_neg (by simp [h])]
    exact h2 h
theorem wp_ifF {c : PEnv → Option Bool} (hc : c ρ = some false) (h2 : WP (t ρ) N R) : WP (sIf c s t ρ) N R := by
  unfold sIf
  rw [hc, Option.bind_some, if_neg (by decide)]
  exact h2
/-- a loop over l from the state s0: B x s N: a turn at x from s ends where N holds; K: what is asked behind -/
def FoI {α σ : Type} (l : List α) (s0 : σ) (B : α → σ → (σ → Prop) → Prop) (K : σ → Prop) : Prop := ∃ I : List α → σ → Prop, I [] s0 ∧ (∀ pre x post s, l = pre ++ x :: post → I pre s → B x s (I (pre ++ [x]))) ∧ ∀ s, I l s → K s
theorem wp_for {α σ : Type} {L : LF} {h : GF} (ea : α → PV) (Inv : σ → PEnv → Prop) {l : List α} {s0 : σ} {B : α → σ → (σ → Prop) → Prop} {K : σ → Prop} (hL : L ρ = some (l.map ea)) (hF : FoI l s0 B K) (h0 : Inv s0 ρ) (st : ∀ x s ρ Nx, B x s Nx → Inv s ρ → ∃ ρ1, h (ea x) ρ = some ρ1 ∧ WP (b ρ1) (fun ρ2 => ∃ s', Nx s' ∧ Inv s' ρ2) R) (k : ∀ s ρ', K s → Inv s ρ' → N ρ') : WP (sFor L h b ρ) N R := by
  obtain ⟨I, i0, is, ik⟩ := hF
  unfold sFor
  rw [hL, Option.bind_some]
  suffices H : ∀ (post pre : List α) (s : σ) (ρ : PEnv), l = pre ++ post → I pre s → Inv s ρ → WP (loopF h b (post.map ea) ρ) N R from H l [] s0 ρ rfl i0 h0
  intro post
  induction post with
  | nil =>
    intro pre s ρ e i v
    rw [List.append_nil] at e
    subst e
    exact .nx rfl (k s ρ (ik s i) v)
  | cons x post ih =>
    intro pre s ρ e i v
    obtain ⟨ρ1, e1, w⟩ := st x s ρ _ (is pre x post s e i) v
    rw [List.map_cons, loopF, e1, Option.bind_some]
    rcases w.elim with ⟨ρ2, e2, s', n, v'⟩ | ⟨w, e2, q⟩
    · rw [e2, Option.bind_some]
      exact ih (pre ++ [x]) s' ρ2 (by rw [e, List.append_assoc]; rfl) n v'
    · rw [e2]
      exact .rt rfl q
/-- a while loop: C the test, Cc what it wants -/
def WhI {σ : Type} (fuel : Nat) (s0 : σ) (Cc C : σ → Prop) (B : σ → (σ → Prop) → Prop) (K : σ → Prop) : Prop := ∃ I : Nat → σ → Prop, (∃ n, n < fuel ∧ I n s0) ∧ ∀ n s, I n s → Cc s ∧ (C s → B s fun s' => ∃ m, m < n ∧ I m s') ∧ (¬C s → K s)
theorem wp_while {σ : Type} {c : PEnv → Option Bool} {fuel : Nat} (Inv : σ → PEnv → Prop) {s0 : σ} {Cc C : σ → Prop} [DecidablePred C] {B : σ → (σ → Prop) → Prop} {K : σ → Prop} (hW : WhI fuel s0 Cc C B K) (h0 : Inv s0 ρ) (hc : ∀ s ρ, Cc s → Inv s ρ → c ρ = some (decide (C s))) (st : ∀ s ρ Nx, C s → B s Nx → Inv s ρ → WP (b ρ) (fun ρ2 => ∃ s', Nx s' ∧ Inv s' ρ2) R) (k : ∀ s ρ', K s → Inv s ρ' → N ρ') : WP (sWhile fuel c b ρ) N R := by
  obtain ⟨I, ⟨n, hn, i0⟩, ih⟩ := hW
  unfold sWhile
  suffices H : ∀ (n m : Nat) (s : σ) (ρ : PEnv), n < m → I n s → Inv s ρ → WP (loopW c b m ρ) N R from H n fuel s0 ρ hn i0 h0
  intro n
  induction n using Nat.strongRecOn with
  | _ n rec_ =>
    intro m s ρ hm i v
    obtain ⟨m, rfl⟩ : ∃ j, m = j + 1 := ⟨m - 1, by omega⟩
    obtain ⟨h1, h2, h3⟩ := ih n s i
    rw [loopW, hc s ρ h1 v, Option.bind_some]
    by_cases hC : C s
    · rw [if_pos (decide_eq_true hC)]
      rcases (st s ρ _ hC (h2 hC) v).elim with ⟨ρ2, e2, s', ⟨j, hj, n'⟩, v'⟩ | ⟨w, e2, q⟩
      · rw [e2, Option.bind_some]
        exact rec_ j hj m s' ρ2 (by omega) n' v'
      · rw [e2]
        exact .rt rfl q
    · rw [if_neg (by simp [hC])]
      exact .nx rfl (k s ρ (h3 hC) v)
/-- two ways joined -/
def JoI {σ : Type} (B : (σ → Prop) → Prop) (K : σ → Prop) : Prop := ∃ J : σ → Prop, B J ∧ ∀ s, J s → K s
theorem fn_wp {β : Type} {n : Nat} {l : List PV} {e : β → PV} {Q : β → Prop} (h : WP (b (startE n l)) (fun _ => False) (fun v => ∃ r, v = e r ∧ Q r)) : ∃ r, fnDef n b l = some (e r) ∧ Q r := by
  rcases h.elim with ⟨_, _, q⟩ | ⟨v, e1, r, rfl, q⟩
  · exact q.elim
  · exact ⟨r, fn_rt e1, q⟩
theorem fn_law {n : Nat} {l : List PV} (h : WP (b (startE n l)) (fun _ => False) (fun v => v = eBo true)) : fnDef n b l = some (eBo true) := by
  rcases h.elim with ⟨_, _, q⟩ | ⟨v, e1, rfl⟩
  · exact q.elim
  · exact fn_rt e1
end st
/-! ### how loops are shown -/
section fo
variable {α σ : Type} {l : List α} {s0 : σ} {B : α → σ → (σ → Prop) → Prop} {K : σ → Prop}
theorem FoI.inv (I : σ → Prop) (h0 : I s0) (st : ∀ x ∈ l, ∀ s, I s → B x s I) (k : ∀ s, I s → K s) : FoI l s0 B K :=
  ⟨fun _ => I, h0, fun pre x post s e i => st x (by rw [e]; simp) s i, k⟩
theorem FoI.fold (f : σ → α → σ) (st : ∀ pre x post, l = pre ++ x :: post → B x (pre.foldl f s0) (fun s' => s' = f (pre.foldl f s0) x)) (k : K (l.foldl f s0)) : FoI l s0 B K :=
  ⟨fun pre s => s = pre.foldl f s0, rfl, fun pre x post s e i => by
    subst i
    have := st pre x post e
    show B x _ fun s' => s' = (pre ++ [x]).foldl f s0
    rw [List.foldl_append]
    exact this, fun s e => by rw [e]; exact k⟩
theorem FoI.ix (I : Nat → σ → Prop) (h0 : I 0 s0) (st : ∀ (i : Nat) (h : i < l.length) s, I i s → B l[i] s (I (i + 1))) (k : ∀ s, I l.length s → K s) : FoI l s0 B K :=
  ⟨fun pre => I pre.length, h0, fun pre x post s e i => by
    subst e
    have := st pre.length (by rw [List.length_append, List.length_cons]; omega) s i
    rw [List.getElem_append_right (Nat.le_refl _)] at this
    simp only [Nat.sub_self, List.getElem_cons_zero] at this
    show B x s (I (pre ++ [x]).length)
    rw [List.length_append]
    exact this, k⟩
theorem FoI.rn {B : Int → σ → (σ → Prop) → Prop} {a b : Int} (I : Int → σ → Prop) (hab : a ≤ b) (h0 : I a s0) (st : ∀ i, a ≤ i → i < b → ∀ s, I i s → B i s (I (i + 1))) (k : ∀ s, I b s → K s) : FoI (Pl.rng a b) s0 B K := by
  refine FoI.ix (l := Pl.rng a b) (fun i => I (a + i)) (by rw [show a + ((0 : Nat) : Int) = a by omega]; exact h0) (fun i hi s j => ?_) (fun s j => ?_)
  · rw [rng_length] at hi
    have e : (Pl.rng a b)[i]'(by rw [rng_length]; exact hi) = a + i := by
      have := rng_get a b i hi
      rw [List.getElem?_eq_getElem (by rw [rng_length]; exact hi)] at this
      exact Option.some.inj this
    rw [e, show a + ((i + 1 : Nat) : Int) = a + i + 1 by omega]
    exact st (a + i) (by omega) (by omega) s j
  · rw [rng_length, show a + ((b - a).toNat : Int) = b by omega] at j
    exact k s j
theorem FoI.unit {B : α → Unit → (Unit → Prop) → Prop} {K : Unit → Prop} (st : ∀ x ∈ l, B x () fun _ => True) (k : K ()) : FoI l () B K :=
  FoI.inv (fun _ => True) trivial (fun x hx s _ => st x hx) fun _ _ => k
theorem JoI.mk' {B : (σ → Prop) → Prop} (J : σ → Prop) (h : B J) (k : ∀ s, J s → K s) : JoI B K := ⟨J, h, k⟩
end fo
/-! ### what must be true -/
section pos
variable {α : Type} {N : PEnv → Prop} {R : PV → Prop} {ρ : PEnv} {f g : PF} {c d : PEnv → Option Bool} {P : Prop} [Decidable P]
theorem ret_eq {v : PV} (h : f ρ = some v) : sRet f ρ = some (.ret v) := by
  unfold sRet
  rw [h]
  rfl
theorem rng_len {a b : Int} (h : RngOk a b) : (Pl.rng a b).length ≤ 16777216 := by
  unfold RngOk at h
  rw [rng_length]
  omega
theorem map_id' {e : α → PV} {l : List α} (h : f ρ = some (eL e (l.map fun a => a))) : f ρ = some (eL e l) := by
  rw [h, List.map_id']
theorem cT_of (h : c ρ = some (decide P)) (p : P) : c ρ = some true := by rw [h, decide_eq_true p]
theorem cF_of (h : c ρ = some (decide P)) (p : ¬P) : c ρ = some false := by rw [h, decide_eq_false p]
theorem cT_tru (h : f ρ = some (eBo true)) : cTru f ρ = some true := by unfold cTru; rw [h]; rfl
theorem cT_B (h : f ρ = some (eBo true)) : cB f ρ = some true := by unfold cB; rw [h]; rfl
theorem cF_tru (h : f ρ = some (eBo false)) : cTru f ρ = some false := by unfold cTru; rw [h]; rfl
theorem cF_B (h : f ρ = some (eBo false)) : cB f ρ = some false := by unfold cB; rw [h]; rfl
theorem cT_not (h : c ρ = some false) : cNot c ρ = some true := by unfold cNot; rw [h]; rfl
theorem cF_not (h : c ρ = some true) : cNot c ρ = some false := by unfold cNot; rw [h]; rfl
theorem cT_and (h : c ρ = some true) (h2 : d ρ = some true) : cAnd c d ρ = some true := by unfold cAnd; rw [h]; exact h2
theorem cF_or (h : c ρ = some false) (h2 : d ρ = some false) : cOr c d ρ = some false := by unfold cOr; rw [h]; exact h2
theorem cT_or (h : c ρ = some (decide P)) (h2 : ¬P → d ρ = some true) : cOr c d ρ = some true := by
  unfold cOr
  rw [h]
  by_cases p : P
  · rw [decide_eq_true p]; rfl
  · rw [decide_eq_false p]; exact h2 p
theorem cF_and (h : c ρ = some (decide P)) (h2 : P → d ρ = some false) : cAnd c d ρ = some false := by
  unfold cAnd
  rw [h]
  by_cases p : P
  · rw [decide_eq_true p]; exact h2 p
  · rw [decide_eq_false p]; rfl
theorem eT_of (h : f ρ = some (eBo (decide P))) (p : P) : f ρ = some (eBo true) := by rw [h, decide_eq_true p]
theorem eF_of (h : f ρ = some (eBo (decide P))) (p : ¬P) : f ρ = some (eBo false) := by rw [h, decide_eq_false p]
theorem eT_and (h : f ρ = some (eBo true)) (h2 : g ρ = some (eBo true)) : eAnd f g ρ = some (eBo true) := by unfold eAnd; rw [h]; exact h2
theorem eF_or (h : f ρ = some (eBo false)) (h2 : g ρ = some (eBo false)) : eOr f g ρ = some (eBo false) := by unfold eOr; rw [h]; exact h2
theorem eT_or (h : f ρ = some (eBo (decide P))) (h2 : ¬P → g ρ = some (eBo true)) : eOr f g ρ = some (eBo true) := by
  unfold eOr
  rw [h]
  by_cases p : P
  · rw [decide_eq_true p]; rfl
  · rw [decide_eq_false p]; exact h2 p
theorem eF_and (h : f ρ = some (eBo (decide P))) (h2 : P → g ρ = some (eBo false)) : eAnd f g ρ = some (eBo false) := by
  unfold eAnd
  rw [h]
  by_cases p : P
  · rw [decide_eq_true p]; exact h2 p
  · rw [decide_eq_false p]; rfl
theorem eT_not (h : f ρ = some (eBo false)) : eNot f ρ = some (eBo true) := by unfold eNot; rw [h]; rfl
theorem eF_not (h : f ρ = some (eBo true)) : eNot f ρ = some (eBo false) := by unfold eNot; rw [h]; rfl
theorem eT_notT (h : c ρ = some false) : eNotT c ρ = some (eBo true) := by unfold eNotT; rw [h]; rfl
theorem posall {l : List α} (h : f ρ = some (eL eBo (l.map fun _ => true))) : e1 pAll f ρ = some (eBo true) := (v_e1 h).trans (by
  show (toBs _).bind _ = _
  rw [toBs_map, Option.bind_some]
  congr 2
  simp)
/-! results without lists in them -/
class Nl (e : α → PV) : Prop where
  nl : ∀ a, noL (e a) = true
instance : Nl eI := ⟨fun _ => by unfold noL; rfl⟩
instance : Nl eBo := ⟨fun _ => by unfold noL; rfl⟩
instance : Nl eS := ⟨fun _ => by unfold noL eS; rfl⟩
theorem noLs_map {e : α → PV} [Nl e] : ∀ l : List α, noLs (l.map e) = true
  | [] => by simp [noLs]
  | x :: l => by rw [List.map_cons, noLs, Nl.nl (e := e), noLs_map l]; rfl
instance {e : α → PV} [Nl e] : Nl (eT e) := ⟨fun l => by unfold eT noL; exact noLs_map l⟩
instance {β : Type} {a : α → PV} {b : β → PV} [Nl a] [Nl b] : Nl (p2 a b) := ⟨fun l => by unfold p2 noL; simp [noLs, Nl.nl]⟩
instance {β γ : Type} {a : α → PV} {b : β → PV} {c : γ → PV} [Nl a] [Nl b] [Nl c] : Nl (p3 a b c) := ⟨fun l => by unfold p3 noL; simp [noLs, Nl.nl]⟩
instance {e : α → PV} [Nl e] : Nl (eO e) := ⟨fun o => by
  cases o with
  | none => unfold eO; unfold noL; rfl
  | some a => exact Nl.nl (e := e) a⟩
end pos
end Tv

set_option Elab.async false
set_option linter.all false
set_option maxRecDepth 100000
set_option maxHeartbeats 4000000
set_option autoImplicit false
/-! ratios: a pair in lowest terms stands for a rational number -/
namespace Rt
open PySem PySem.Spec PyProof.Rows L2 Pl Cm
abbrev qE (q : Rat) : PV := .tuple [.int q.num, .int q.den]
/-- numbers that no multiplication minds -/
def Sq (q : Rat) : Prop := q.num.natAbs < 2 ^ 63 ∧ q.den < 2 ^ 63
theorem gcd_mod_eq (a b : Nat) : Nat.gcd b (a % b) = Nat.gcd a b := by
  rw [Nat.gcd_comm b, ← Nat.gcd_rec, Nat.gcd_comm]
theorem half_mod {b r k : Nat} (h0 : 0 < r) (h1 : r < b) (h2 : b < 2 ^ (k + 1)) : b % r < 2 ^ k := by
  have h3 := Nat.mod_lt b h0
  have h4 := Nat.div_add_mod b r
  have h5 : 1 ≤ b / r := (Nat.le_div_iff_mul_le h0).2 (by omega)
  have h6 : r * 1 ≤ r * (b / r) := Nat.mul_le_mul_left r h5
  rw [Nat.pow_succ] at h2
  omega
theorem lw_gcd {c : PEnv → Option Bool} {b : PSt} (st : Nat → Nat → PEnv) (hc : ∀ x y, c (st x y) = some (decide (0 < y))) (hb : ∀ x y, 0 < y → b (st x y) = some (.nx (st y (x % y)))) : ∀ (k x y n : Nat), y < 2 ^ k → 2 * k + 1 ≤ n → loopW c b n (st x y) = some (.nx (st (Nat.gcd x y) 0)) := by
  have stop : ∀ x n, 1 ≤ n → loopW c b n (st x 0) = some (.nx (st x 0)) := fun x n hn => by
    obtain ⟨n, rfl⟩ : ∃ m, n = m + 1 := ⟨n - 1, by omega⟩
    rw [loopW, hc]
    rfl
  have step : ∀ x y n, 0 < y → loopW c b (n + 1) (st x y) = loopW c b n (st y (x % y)) := fun x y n hy => by
    rw [loopW, hc, decide_eq_true hy, Option.bind_some, if_pos rfl, hb x y hy]
    rfl
  intro k
  induction k with
  | zero =>
    intro x y n hy hn
    have : y = 0 := by rw [Nat.pow_zero] at hy; omega
    subst this
    rw [Nat.gcd_zero_right]
    exact stop x n (by omega)
  | succ k ih =>
    intro x y n hy hn
    rcases Nat.eq_zero_or_pos y with h | h
    · subst h
      rw [Nat.gcd_zero_right]
      exact stop x n (by omega)
    · obtain ⟨n, rfl⟩ : ∃ m, n = m + 2 := ⟨n - 2, by omega⟩
      rw [show n + 2 = (n + 1) + 1 from rfl, step x y (n + 1) h, ← gcd_mod_eq]
      rcases Nat.eq_zero_or_pos (x % y) with h2 | h2
      · rw [h2, Nat.gcd_zero_right]
        exact stop y (n + 1) (by omega)
      · rw [step y (x % y) n h2, ← gcd_mod_eq]
        exact ih _ _ n (half_mod h2 (Nat.mod_lt x h) hy) (by omega)
/-- x in lowest terms -/
theorem low_eq {a b : Int} (h : 0 < b) : (Rat.divInt a b).num = a / (Nat.gcd a.natAbs b.natAbs : Nat) ∧ ((Rat.divInt a b).den : Int) = b / (Nat.gcd a.natAbs b.natAbs : Nat) := by
  constructor
  · rw [Rat.num_divInt, Int.sign_eq_one_of_pos h, Int.one_mul]
    rw [Nat.gcd_comm]
    rfl
  · rw [Rat.den_divInt, if_neg (by omega), Int.natCast_ediv, Nat.gcd_comm]
    rw [show ((b.natAbs : Nat) : Int) = b by omega]
    rfl
theorem divOk_nat {n : Nat} (h : n < 2 ^ 8000) : divOk (n : Int) = true := by
  unfold divOk
  apply decide_eq_true
  rw [Int.natAbs_natCast]
  rcases Nat.eq_zero_or_pos n with h0 | h0
  · rw [h0]; decide
  · have := (Nat.log2_lt (by omega)).2 h
    omega
theorem pDiv_b {i j : Int} (h : 0 < j) (h2 : divOk j = true) : pDiv (.int i) (.int j) = some (.int (i / j)) := by
  unfold pDiv
  simp only [if_pos h, if_pos h2]
theorem abs_nat (i : Int) : pAbs (.int i) = some (nI i.natAbs) := by
  unfold pAbs
  simp only
  congr 2
  split <;> omega
def SpDiv (g : List PV → Option PV) : Prop := ∀ a b : Int, b.natAbs < 2 ^ 8000 → g [.int a, .int b] = some (nI (Nat.gcd a.natAbs b.natAbs))
def SpLow (g : List PV → Option PV) : Prop := ∀ a b : Int, 0 < b → b < 2 ^ 8000 → g [.int a, .int b] = some (qE (Rat.divInt a b))
abbrev b_div : PSt := (sSeq (sPar [0, 1] (mVal (e1 pAbs (eB 0)) (mVal (e1 pAbs (eB 1)) mNil))) (sSeq (sWhile wfuel (cB (e2 pGt (eB 1) (eK (.int 0)))) (sPar [0, 1] (mVal (eV 1) (mVal (e2 pMod (eB 0) (eB 1)) mNil)))) (sRet (eV 0))))
theorem st_div : SpDiv (fnDef 2 b_div) := fun a b hb => by
  refine fn_rt ?_
  refine sq_nx (ρ' := [.val (nI a.natAbs), .val (nI b.natAbs)]) (by simp only [eK, eCallB, noL, noLs, Bool.and_true, Bool.and_self, eV, eB, e1, e2, aNil, aCons, eCall, eIf, cB, cAnd, cOr, cNot, cYes, cTru, eAnd, eOr, eNot, eNotT, e3c, eSl, eSlL, oNone, oSome, toB, toI, toL, pTru, pIsN, pNotN, isNone, gN, gT, gCons', gNil', sNil, thenF, sRet, sBrk, sCnt, sAsg, sOwn, sAug, sApp, sFz, sPar, mVal, mOwn, mNil, setAllE, ownL, sIf, sSetI, lSeq, lRng1, lRng2, lEnum, wipeE, pLen, pInt, pTuple, pList, pNeg, pSub, pAddI, pPlus_i, pMul_i, pDiv_i, pDiv_j, mulOk_x, mulOk_y, Int.reduceLT, Int.reduceNeg, Nat.reduceLeDiff, pMod_i, pEq_i, pNe_i, pLt_i, pLe_i, pGt_i, pGe_i, pMin2, pMax2, pTup_s, pLst_s, outF, Option.bind_some, Option.bind_none, List.getElem?_cons_succ, List.getElem?_cons_zero, List.length_cons, List.length_nil, List.set_cons_succ, List.set_cons_zero, Nat.reduceAdd, Nat.reduceLT, Nat.reduceSub, Nat.lt_irrefl, if_true, if_false, ite_true, ite_false, reduceIte, ↓reduceIte, Bool.not_true, Bool.not_false, Bool.false_eq_true, decide_true, not_true_eq_false, not_false_eq_true, decide_false, decide_eq_true_eq, Bool.not_eq_true', decide_eq_false_iff_not, Bool.not_eq_eq_eq_not, startE, List.map_cons, List.map_nil, List.cons_append, abs_nat] <;> rfl) ?_
  have lw := lw_gcd (c := cB (e2 pGt (eB 1) (eK (.int 0)))) (b := sPar [0, 1] (mVal (eV 1) (mVal (e2 pMod (eB 0) (eB 1)) mNil))) (fun x y => [.val (nI x), .val (nI y)]) (fun x y => by
    simp only [eK, eCallB, noL, noLs, Bool.and_true, Bool.and_self, eV, eB, e1, e2, aNil, aCons, eCall, eIf, cB, cAnd, cOr, cNot, cYes, cTru, eAnd, eOr, eNot, eNotT, e3c, eSl, eSlL, oNone, oSome, toB, toI, toL, pTru, pIsN, pNotN, isNone, gN, gT, gCons', gNil', sNil, thenF, sRet, sBrk, sCnt, sAsg, sOwn, sAug, sApp, sFz, sPar, mVal, mOwn, mNil, setAllE, ownL, sIf, sSetI, lSeq, lRng1, lRng2, lEnum, wipeE, pLen, pInt, pAbs, pTuple, pList, pNeg, pSub, pAddI, pPlus_i, pMul_i, pDiv_i, pDiv_j, mulOk_x, mulOk_y, Int.reduceLT, Int.reduceNeg, Nat.reduceLeDiff, pMod_i, pEq_i, pNe_i, pLt_i, pLe_i, pGt_i, pGe_i, pMin2, pMax2, pTup_s, pLst_s, outF, Option.bind_some, Option.bind_none, List.getElem?_cons_succ, List.getElem?_cons_zero, List.length_cons, List.length_nil, List.set_cons_succ, List.set_cons_zero, Nat.reduceAdd, Nat.reduceLT, Nat.reduceSub, Nat.lt_irrefl, if_true, if_false, ite_true, ite_false, reduceIte, ↓reduceIte, Bool.not_true, Bool.not_false, Bool.false_eq_true, decide_true, not_true_eq_false, not_false_eq_true, decide_false, decide_eq_true_eq, Bool.not_eq_true', decide_eq_false_iff_not, Bool.not_eq_eq_eq_not]
    exact congrArg some (decide_eq_decide.2 (by omega))) (fun x y hy => by
    simp only [eK, eCallB, noL, noLs, Bool.and_true, Bool.and_self, eV, eB, e1, e2, aNil, aCons, eCall, eIf, cB, cAnd, cOr, cNot, cYes, cTru, eAnd, eOr, eNot, eNotT, e3c, eSl, eSlL, oNone, oSome, toB, toI, toL, pTru, pIsN, pNotN, isNone, gN, gT, gCons', gNil', sNil, thenF, sRet, sBrk, sCnt, sAsg, sOwn, sAug, sApp, sFz, sPar, mVal, mOwn, mNil, setAllE, ownL, sIf, sSetI, lSeq, lRng1, lRng2, lEnum, wipeE, pLen, pInt, pAbs, pTuple, pList, pNeg, pSub, pAddI, pPlus_i, pMul_i, pDiv_i, pDiv_j, mulOk_x, mulOk_y, Int.reduceLT, Int.reduceNeg, Nat.reduceLeDiff, pMod_i, pEq_i, pNe_i, pLt_i, pLe_i, pGt_i, pGe_i, pMin2, pMax2, pTup_s, pLst_s, outF, Option.bind_some, Option.bind_none, List.getElem?_cons_succ, List.getElem?_cons_zero, List.length_cons, List.length_nil, List.set_cons_succ, List.set_cons_zero, Nat.reduceAdd, Nat.reduceLT, Nat.reduceSub, Nat.lt_irrefl, if_true, if_false, ite_true, ite_false, reduceIte, ↓reduceIte, Bool.not_true, Bool.not_false, Bool.false_eq_true, decide_true, not_true_eq_false, not_false_eq_true, decide_false, decide_eq_true_eq, Bool.not_eq_true', decide_eq_false_iff_not, Bool.not_eq_eq_eq_not, (by omega : (0 : Int) < (y : Int))]
    rfl) 8000 a.natAbs b.natAbs wfuel hb (by unfold wfuel; omega)
  exact sq_nx lw rfl
abbrev b_low (fn_divisor : List PV → Option PV) : PSt := (sSeq (sAsg (eIf (cB (e2 pGt (eB 1) (eK (.int 0)))) (eCall fn_divisor (aCons (eV 0) (aCons (eV 1) aNil))) (e1 pNeg (eCall fn_divisor (aCons (eV 0) (aCons (eV 1) aNil))))) (gN 2)) (sRet (eCall pTup (aCons (e2 pDiv (eB 0) (eB 2)) (aCons (e2 pDiv (eB 1) (eB 2)) aNil)))))
theorem st_low {g : List PV → Option PV} (hg : SpDiv g) : SpLow (fnDef 3 (b_low g)) := fun a b hb hb2 => by
  refine fn_rt ?_
  have q := hg a b (by omega)
  obtain ⟨l1, l2⟩ := low_eq (a := a) hb
  have gp : 0 < Nat.gcd a.natAbs b.natAbs := Nat.gcd_pos_of_pos_right _ (by omega)
  have gl : Nat.gcd a.natAbs b.natAbs ≤ b.natAbs := Nat.gcd_le_right _ (by omega)
  generalize Nat.gcd a.natAbs b.natAbs = d at *
  have dp : (0 : Int) < (d : Int) := by omega
  have dok : divOk (d : Int) = true := divOk_nat (by omega)
  refine sq_nx (ρ' := [.val (.int a), .val (.int b), .val (nI d)]) (by simp only [eK, eCallB, noL, noLs, Bool.and_true, Bool.and_self, eV, eB, e1, e2, aNil, aCons, eCall, eIf, cB, cAnd, cOr, cNot, cYes, cTru, eAnd, eOr, eNot, eNotT, e3c, eSl, eSlL, oNone, oSome, toB, toI, toL, pTru, pIsN, pNotN, isNone, gN, gT, gCons', gNil', sNil, thenF, sRet, sBrk, sCnt, sAsg, sOwn, sAug, sApp, sFz, sPar, mVal, mOwn, mNil, setAllE, ownL, sIf, sSetI, lSeq, lRng1, lRng2, lEnum, wipeE, pLen, pInt, pAbs, pTuple, pList, pNeg, pSub, pAddI, pPlus_i, pMul_i, pDiv_i, pDiv_j, mulOk_x, mulOk_y, Int.reduceLT, Int.reduceNeg, Nat.reduceLeDiff, pMod_i, pEq_i, pNe_i, pLt_i, pLe_i, pGt_i, pGe_i, pMin2, pMax2, pTup_s, pLst_s, outF, Option.bind_some, Option.bind_none, List.getElem?_cons_succ, List.getElem?_cons_zero, List.length_cons, List.length_nil, List.set_cons_succ, List.set_cons_zero, Nat.reduceAdd, Nat.reduceLT, Nat.reduceSub, Nat.lt_irrefl, if_true, if_false, ite_true, ite_false, reduceIte, ↓reduceIte, Bool.not_true, Bool.not_false, Bool.false_eq_true, decide_true, not_true_eq_false, not_false_eq_true, decide_false, decide_eq_true_eq, Bool.not_eq_true', decide_eq_false_iff_not, Bool.not_eq_eq_eq_not, startE, List.map_cons, List.map_nil, List.cons_append, hb, q] <;> rfl) ?_
  simp only [eK, eCallB, noL, noLs, Bool.and_true, Bool.and_self, eV, eB, e1, e2, aNil, aCons, eCall, eIf, cB, cAnd, cOr, cNot, cYes, cTru, eAnd, eOr, eNot, eNotT, e3c, eSl, eSlL, oNone, oSome, toB, toI, toL, pTru, pIsN, pNotN, isNone, gN, gT, gCons', gNil', sNil, thenF, sRet, sBrk, sCnt, sAsg, sOwn, sAug, sApp, sFz, sPar, mVal, mOwn, mNil, setAllE, ownL, sIf, sSetI, lSeq, lRng1, lRng2, lEnum, wipeE, pLen, pInt, pAbs, pTuple, pList, pNeg, pSub, pAddI, pPlus_i, pMul_i, pDiv_i, pDiv_j, mulOk_x, mulOk_y, Int.reduceLT, Int.reduceNeg, Nat.reduceLeDiff, pMod_i, pEq_i, pNe_i, pLt_i, pLe_i, pGt_i, pGe_i, pMin2, pMax2, pTup_s, pLst_s, outF, Option.bind_some, Option.bind_none, List.getElem?_cons_succ, List.getElem?_cons_zero, List.length_cons, List.length_nil, List.set_cons_succ, List.set_cons_zero, Nat.reduceAdd, Nat.reduceLT, Nat.reduceSub, Nat.lt_irrefl, if_true, if_false, ite_true, ite_false, reduceIte, ↓reduceIte, Bool.not_true, Bool.not_false, Bool.false_eq_true, decide_true, not_true_eq_false, not_false_eq_true, decide_false, decide_eq_true_eq, Bool.not_eq_true', decide_eq_false_iff_not, Bool.not_eq_eq_eq_not, pDiv_b dp dok, ← l1, ← l2]
abbrev b_llow : PSt := (sSeq (sPar [2, 3] (mVal (e1 pAbs (eB 0)) (mVal (e1 pAbs (eB 1)) mNil))) (sSeq (sWhile wfuel (cB (e2 pGt (eB 3) (eK (.int 0)))) (sPar [2, 3] (mVal (eV 3) (mVal (e2 pMod (e1 pInt (eB 2)) (eB 3)) mNil)))) (sSeq (sIf (cB (e2 pLt (eB 1) (eK (.int 0)))) (sAsg (e2 pSub (eK (.int 0)) (eB 2)) (gN 2)) sNil) (sRet (eCall pTup (aCons (e2 pDiv (eB 0) (eB 2)) (aCons (e2 pDiv (eB 1) (eB 2)) aNil)))))))
theorem st_llow : SpLow (fnDef 4 b_llow) := fun a b hb hb2 => by
  refine fn_rt ?_
  obtain ⟨l1, l2⟩ := low_eq (a := a) hb
  have gp : 0 < Nat.gcd a.natAbs b.natAbs := Nat.gcd_pos_of_pos_right _ (by omega)
  have gl : Nat.gcd a.natAbs b.natAbs ≤ b.natAbs := Nat.gcd_le_right _ (by omega)
  refine sq_nx (ρ' := [.val (.int a), .val (.int b), .val (nI a.natAbs), .val (nI b.natAbs)]) (by simp only [eK, eCallB, noL, noLs, Bool.and_true, Bool.and_self, eV, eB, e1, e2, aNil, aCons, eCall, eIf, cB, cAnd, cOr, cNot, cYes, cTru, eAnd, eOr, eNot, eNotT, e3c, eSl, eSlL, oNone, oSome, toB, toI, toL, pTru, pIsN, pNotN, isNone, gN, gT, gCons', gNil', sNil, thenF, sRet, sBrk, sCnt, sAsg, sOwn, sAug, sApp, sFz, sPar, mVal, mOwn, mNil, setAllE, ownL, sIf, sSetI, lSeq, lRng1, lRng2, lEnum, wipeE, pLen, pInt, pTuple, pList, pNeg, pSub, pAddI, pPlus_i, pMul_i, pDiv_i, pDiv_j, mulOk_x, mulOk_y, Int.reduceLT, Int.reduceNeg, Nat.reduceLeDiff, pMod_i, pEq_i, pNe_i, pLt_i, pLe_i, pGt_i, pGe_i, pMin2, pMax2, pTup_s, pLst_s, outF, Option.bind_some, Option.bind_none, List.getElem?_cons_succ, List.getElem?_cons_zero, List.length_cons, List.length_nil, List.set_cons_succ, List.set_cons_zero, Nat.reduceAdd, Nat.reduceLT, Nat.reduceSub, Nat.lt_irrefl, if_true, if_false, ite_true, ite_false, reduceIte, ↓reduceIte, Bool.not_true, Bool.not_false, Bool.false_eq_true, decide_true, not_true_eq_false, not_false_eq_true, decide_false, decide_eq_true_eq, Bool.not_eq_true', decide_eq_false_iff_not, Bool.not_eq_eq_eq_not, startE, List.map_cons, List.map_nil, List.cons_append, abs_nat] <;> rfl) ?_
  have lw := lw_gcd (c := cB (e2 pGt (eB 3) (eK (.int 0)))) (b := sPar [2, 3] (mVal (eV 3) (mVal (e2 pMod (e1 pInt (eB 2)) (eB 3)) mNil))) (fun x y => [.val (.int a), .val (.int b), .val (nI x), .val (nI y)]) (fun x y => by
    simp only [eK, eCallB, noL, noLs, Bool.and_true, Bool.and_self, eV, eB, e1, e2, aNil, aCons, eCall, eIf, cB, cAnd, cOr, cNot, cYes, cTru, eAnd, eOr, eNot, eNotT, e3c, eSl, eSlL, oNone, oSome, toB, toI, toL, pTru, pIsN, pNotN, isNone, gN, gT, gCons', gNil', sNil, thenF, sRet, sBrk, sCnt, sAsg, sOwn, sAug, sApp, sFz, sPar, mVal, mOwn, mNil, setAllE, ownL, sIf, sSetI, lSeq, lRng1, lRng2, lEnum, wipeE, pLen, pInt, pAbs, pTuple, pList, pNeg, pSub, pAddI, pPlus_i, pMul_i, pDiv_i, pDiv_j, mulOk_x, mulOk_y, Int.reduceLT, Int.reduceNeg, Nat.reduceLeDiff, pMod_i, pEq_i, pNe_i, pLt_i, pLe_i, pGt_i, pGe_i, pMin2, pMax2, pTup_s, pLst_s, outF, Option.bind_some, Option.bind_none, List.getElem?_cons_succ, List.getElem?_cons_zero, List.length_cons, List.length_nil, List.set_cons_succ, List.set_cons_zero, Nat.reduceAdd, Nat.reduceLT, Nat.reduceSub, Nat.lt_irrefl, if_true, if_false, ite_true, ite_false, reduceIte, ↓reduceIte, Bool.not_true, Bool.not_false, Bool.false_eq_true, decide_true, not_true_eq_false, not_false_eq_true, decide_false, decide_eq_true_eq, Bool.not_eq_true', decide_eq_false_iff_not, Bool.not_eq_eq_eq_not]
    exact congrArg some (decide_eq_decide.2 (by omega))) (fun x y hy => by
    simp only [eK, eCallB, noL, noLs, Bool.and_true, Bool.and_self, eV, eB, e1, e2, aNil, aCons, eCall, eIf, cB, cAnd, cOr, cNot, cYes, cTru, eAnd, eOr, eNot, eNotT, e3c, eSl, eSlL, oNone, oSome, toB, toI, toL, pTru, pIsN, pNotN, isNone, gN, gT, gCons', gNil', sNil, thenF, sRet, sBrk, sCnt, sAsg, sOwn, sAug, sApp, sFz, sPar, mVal, mOwn, mNil, setAllE, ownL, sIf, sSetI, lSeq, lRng1, lRng2, lEnum, wipeE, pLen, pInt, pAbs, pTuple, pList, pNeg, pSub, pAddI, pPlus_i, pMul_i, pDiv_i, pDiv_j, mulOk_x, mulOk_y, Int.reduceLT, Int.reduceNeg, Nat.reduceLeDiff, pMod_i, pEq_i, pNe_i, pLt_i, pLe_i, pGt_i, pGe_i, pMin2, pMax2, pTup_s, pLst_s, outF, Option.bind_some, Option.bind_none, List.getElem?_cons_succ, List.getElem?_cons_zero, List.length_cons, List.length_nil, List.set_cons_succ, List.set_cons_zero, Nat.reduceAdd, Nat.reduceLT, Nat.reduceSub, Nat.lt_irrefl, if_true, if_false, ite_true, ite_false, reduceIte, ↓reduceIte, Bool.not_true, Bool.not_false, Bool.false_eq_true, decide_true, not_true_eq_false, not_false_eq_true, decide_false, decide_eq_true_eq, Bool.not_eq_true', decide_eq_false_iff_not, Bool.not_eq_eq_eq_not, (by omega : (0 : Int) < (y : Int))]
    rfl) 8000 a.natAbs b.natAbs wfuel (by omega) (by unfold wfuel; omega)
  refine sq_nx lw ?_
  generalize Nat.gcd a.natAbs b.natAbs = d at *
  have dp : (0 : Int) < (d : Int) := by omega
  have dok : divOk (d : Int) = true := divOk_nat (by omega)
  refine sq_nx (if_f (by simp only [eK, eCallB, noL, noLs, Bool.and_true, Bool.and_self, eV, eB, e1, e2, aNil, aCons, eCall, eIf, cB, cAnd, cOr, cNot, cYes, cTru, eAnd, eOr, eNot, eNotT, e3c, eSl, eSlL, oNone, oSome, toB, toI, toL, pTru, pIsN, pNotN, isNone, gN, gT, gCons', gNil', sNil, thenF, sRet, sBrk, sCnt, sAsg, sOwn, sAug, sApp, sFz, sPar, mVal, mOwn, mNil, setAllE, ownL, sIf, sSetI, lSeq, lRng1, lRng2, lEnum, wipeE, pLen, pInt, pAbs, pTuple, pList, pNeg, pSub, pAddI, pPlus_i, pMul_i, pDiv_i, pDiv_j, mulOk_x, mulOk_y, Int.reduceLT, Int.reduceNeg, Nat.reduceLeDiff, pMod_i, pEq_i, pNe_i, pLt_i, pLe_i, pGt_i, pGe_i, pMin2, pMax2, pTup_s, pLst_s, outF, Option.bind_some, Option.bind_none, List.getElem?_cons_succ, List.getElem?_cons_zero, List.length_cons, List.length_nil, List.set_cons_succ, List.set_cons_zero, Nat.reduceAdd, Nat.reduceLT, Nat.reduceSub, Nat.lt_irrefl, if_true, if_false, ite_true, ite_false, reduceIte, ↓reduceIte, Bool.not_true, Bool.not_false, Bool.false_eq_true, decide_true, not_true_eq_false, not_false_eq_true, decide_false, decide_eq_true_eq, Bool.not_eq_true', decide_eq_false_iff_not, Bool.not_eq_eq_eq_not]; exact congrArg some (decide_eq_false (by omega))) rfl) ?_
  simp only [eK, eCallB, noL, noLs, Bool.and_true, Bool.and_self, eV, eB, e1, e2, aNil, aCons, eCall, eIf, cB, cAnd, cOr, cNot, cYes, cTru, eAnd, eOr, eNot, eNotT, e3c, eSl, eSlL, oNone, oSome, toB, toI, toL, pTru, pIsN, pNotN, isNone, gN, gT, gCons', gNil', sNil, thenF, sRet, sBrk, sCnt, sAsg, sOwn, sAug, sApp, sFz, sPar, mVal, mOwn, mNil, setAllE, ownL, sIf, sSetI, lSeq, lRng1, lRng2, lEnum, wipeE, pLen, pInt, pAbs, pTuple, pList, pNeg, pSub, pAddI, pPlus_i, pMul_i, pDiv_i, pDiv_j, mulOk_x, mulOk_y, Int.reduceLT, Int.reduceNeg, Nat.reduceLeDiff, pMod_i, pEq_i, pNe_i, pLt_i, pLe_i, pGt_i, pGe_i, pMin2, pMax2, pTup_s, pLst_s, outF, Option.bind_some, Option.bind_none, List.getElem?_cons_succ, List.getElem?_cons_zero, List.length_cons, List.length_nil, List.set_cons_succ, List.set_cons_zero, Nat.reduceAdd, Nat.reduceLT, Nat.reduceSub, Nat.lt_irrefl, if_true, if_false, ite_true, ite_false, reduceIte, ↓reduceIte, Bool.not_true, Bool.not_false, Bool.false_eq_true, decide_true, not_true_eq_false, not_false_eq_true, decide_false, decide_eq_true_eq, Bool.not_eq_true', decide_eq_false_iff_not, Bool.not_eq_eq_eq_not, pDiv_b dp dok, ← l1, ← l2]
/-! sums and products -/
def SpBin (op : Rat → Rat → Rat) (g : List PV → Option PV) : Prop := ∀ p q : Rat, Sq p → Sq q → g [qE p, qE q] = some (qE (op p q))
theorem den_pos (q : Rat) : (0 : Int) < q.den := by have := q.den_pos; omega
theorem mul_big {a b : Nat} (ha : a < 2 ^ 63) (hb : b < 2 ^ 63) : ((a : Int) * b) < 2 ^ 8000 := by
  have h1 : a * b ≤ 2 ^ 63 * 2 ^ 63 := Nat.mul_le_mul (by omega) (by omega)
  have h2 : (2 : Nat) ^ 63 * 2 ^ 63 < 2 ^ 8000 := by decide +kernel
  have h3 : ((a * b : Nat) : Int) < 2 ^ 8000 := by omega
  rw [Int.natCast_mul] at h3
  exact h3
theorem ixq0 (q : Rat) : pIx (qE q) (.int 0) = some (.int q.num) := rfl
theorem ixq1 (q : Rat) : pIx (qE q) (.int 1) = some (.int q.den) := rfl
abbrev b_sum (fn_lowest : List PV → Option PV) : PSt := (sRet (eCall fn_lowest (aCons (e2 pPlus (e2 pMul (e2 pIx (eB 0) (eK (.int 0))) (e2 pIx (eB 1) (eK (.int 1)))) (e2 pMul (e2 pIx (eB 1) (eK (.int 0))) (e2 pIx (eB 0) (eK (.int 1))))) (aCons (e2 pMul (e2 pIx (eB 0) (eK (.int 1))) (e2 pIx (eB 1) (eK (.int 1)))) aNil))))
theorem st_sum {g : List PV → Option PV} (hg : SpLow g) : SpBin (· + ·) (fnDef 2 (b_sum g)) := fun p q hp hq => by
  refine fn_rt ?_
  have m1 : mulOk p.num q.den = true := mulOk_l hp.1
  have m2 : mulOk q.num p.den = true := mulOk_l hq.1
  have m3 : mulOk p.den q.den = true := mulOk_l (by have := hp.2; omega)
  have e : Rat.divInt (p.num * q.den + q.num * p.den) ((p.den : Int) * q.den) = p + q := by
    rw [← Rat.divInt_add_divInt _ _ (by have := den_pos p; omega) (by have := den_pos q; omega), Rat.num_divInt_den, Rat.num_divInt_den]
  have h := hg (p.num * q.den + q.num * p.den) ((p.den : Int) * q.den) (Int.mul_pos (den_pos p) (den_pos q)) (mul_big hp.2 hq.2)
  rw [e] at h
  simp only [eK, eCallB, noL, noLs, Bool.and_true, Bool.and_self, eV, eB, e1, e2, aNil, aCons, eCall, eIf, cB, cAnd, cOr, cNot, cYes, cTru, eAnd, eOr, eNot, eNotT, e3c, eSl, eSlL, oNone, oSome, toB, toI, toL, pTru, pIsN, pNotN, isNone, gN, gT, gCons', gNil', sNil, thenF, sRet, sBrk, sCnt, sAsg, sOwn, sAug, sApp, sFz, sPar, mVal, mOwn, mNil, setAllE, ownL, sIf, sSetI, lSeq, lRng1, lRng2, lEnum, wipeE, pLen, pInt, pAbs, pTuple, pList, pNeg, pSub, pAddI, pPlus_i, pMul_i, pDiv_i, pDiv_j, mulOk_x, mulOk_y, Int.reduceLT, Int.reduceNeg, Nat.reduceLeDiff, pMod_i, pEq_i, pNe_i, pLt_i, pLe_i, pGt_i, pGe_i, pMin2, pMax2, pTup_s, pLst_s, outF, Option.bind_some, Option.bind_none, List.getElem?_cons_succ, List.getElem?_cons_zero, List.length_cons, List.length_nil, List.set_cons_succ, List.set_cons_zero, Nat.reduceAdd, Nat.reduceLT, Nat.reduceSub, Nat.lt_irrefl, if_true, if_false, ite_true, ite_false, reduceIte, ↓reduceIte, Bool.not_true, Bool.not_false, Bool.false_eq_true, decide_true, not_true_eq_false, not_false_eq_true, decide_false, decide_eq_true_eq, Bool.not_eq_true', decide_eq_false_iff_not, Bool.not_eq_eq_eq_not, startE, List.map_cons, List.map_nil, List.cons_append, ixq0, ixq1, m1, m2, m3, h]
abbrev b_mul (fn_lowest : List PV → Option PV) : PSt := (sRet (eCall fn_lowest (aCons (e2 pMul (e2 pIx (eB 0) (eK (.int 0))) (e2 pIx (eB 1) (eK (.int 0)))) (aCons (e2 pMul (e2 pIx (eB 0) (eK (.int 1))) (e2 pIx (eB 1) (eK (.int 1)))) aNil))))
theorem st_mul {g : List PV → Option PV} (hg : SpLow g) : SpBin (· * ·) (fnDef 2 (b_mul g)) := fun p q hp hq => by
  refine fn_rt ?_
  have m1 : mulOk p.num q.num = true := mulOk_l hp.1
  have m3 : mulOk p.den q.den = true := mulOk_l (by have := hp.2; omega)
  have e : Rat.divInt (p.num * q.num) ((p.den : Int) * q.den) = p * q := by
    rw [← Rat.divInt_mul_divInt, Rat.num_divInt_den, Rat.num_divInt_den]
  have h := hg (p.num * q.num) ((p.den : Int) * q.den) (Int.mul_pos (den_pos p) (den_pos q)) (mul_big hp.2 hq.2)
  rw [e] at h
  simp only [eK, eCallB, noL, noLs, Bool.and_true, Bool.and_self, eV, eB, e1, e2, aNil, aCons, eCall, eIf, cB, cAnd, cOr, cNot, cYes, cTru, eAnd, eOr, eNot, eNotT, e3c, eSl, eSlL, oNone, oSome, toB, toI, toL, pTru, pIsN, pNotN, isNone, gN, gT, gCons', gNil', sNil, thenF, sRet, sBrk, sCnt, sAsg, sOwn, sAug, sApp, sFz, sPar, mVal, mOwn, mNil, setAllE, ownL, sIf, sSetI, lSeq, lRng1, lRng2, lEnum, wipeE, pLen, pInt, pAbs, pTuple, pList, pNeg, pSub, pAddI, pPlus_i, pMul_i, pDiv_i, pDiv_j, mulOk_x, mulOk_y, Int.reduceLT, Int.reduceNeg, Nat.reduceLeDiff, pMod_i, pEq_i, pNe_i, pLt_i, pLe_i, pGt_i, pGe_i, pMin2, pMax2, pTup_s, pLst_s, outF, Option.bind_some, Option.bind_none, List.getElem?_cons_succ, List.getElem?_cons_zero, List.length_cons, List.length_nil, List.set_cons_succ, List.set_cons_zero, Nat.reduceAdd, Nat.reduceLT, Nat.reduceSub, Nat.lt_irrefl, if_true, if_false, ite_true, ite_false, reduceIte, ↓reduceIte, Bool.not_true, Bool.not_false, Bool.false_eq_true, decide_true, not_true_eq_false, not_false_eq_true, decide_false, decide_eq_true_eq, Bool.not_eq_true', decide_eq_false_iff_not, Bool.not_eq_eq_eq_not, startE, List.map_cons, List.map_nil, List.cons_append, ixq0, ixq1, m1, m3, h]
abbrev b_quo (fn_lowest : List PV → Option PV) : PSt := (sRet (eCall fn_lowest (aCons (e2 pMul (e2 pIx (eB 0) (eK (.int 0))) (e2 pIx (eB 1) (eK (.int 1)))) (aCons (e2 pMul (e2 pIx (eB 0) (eK (.int 1))) (e2 pIx (eB 1) (eK (.int 0)))) aNil))))
theorem st_quo {g : List PV → Option PV} (hg : SpLow g) (p q : Rat) (hp : Sq p) (hq : Sq q) (h0 : 0 < q.num) : (fnDef 2 (b_quo g)) [qE p, qE q] = some (qE (p / q)) := by
  refine fn_rt ?_
  have m1 : mulOk p.num q.den = true := mulOk_l hp.1
  have m3 : mulOk p.den q.num = true := mulOk_l (by have := hp.2; omega)
  have e : Rat.divInt (p.num * q.den) ((p.den : Int) * q.num) = p / q := by
    rw [Rat.div_def, ← Rat.divInt_mul_divInt, Rat.num_divInt_den]
    congr 1
    have : q⁻¹ = (Rat.divInt q.num q.den)⁻¹ := by rw [Rat.num_divInt_den]
    rw [this, Rat.inv_divInt]
  have h := hg (p.num * q.den) ((p.den : Int) * q.num) (Int.mul_pos (den_pos p) h0) (by
    have := mul_big hp.2 hq.1
    rw [show ((q.num.natAbs : Nat) : Int) = q.num by omega] at this
    exact this)
  rw [e] at h
  simp only [eK, eCallB, noL, noLs, Bool.and_true, Bool.and_self, eV, eB, e1, e2, aNil, aCons, eCall, eIf, cB, cAnd, cOr, cNot, cYes, cTru, eAnd, eOr, eNot, eNotT, e3c, eSl, eSlL, oNone, oSome, toB, toI, toL, pTru, pIsN, pNotN, isNone, gN, gT, gCons', gNil', sNil, thenF, sRet, sBrk, sCnt, sAsg, sOwn, sAug, sApp, sFz, sPar, mVal, mOwn, mNil, setAllE, ownL, sIf, sSetI, lSeq, lRng1, lRng2, lEnum, wipeE, pLen, pInt, pAbs, pTuple, pList, pNeg, pSub, pAddI, pPlus_i, pMul_i, pDiv_i, pDiv_j, mulOk_x, mulOk_y, Int.reduceLT, Int.reduceNeg, Nat.reduceLeDiff, pMod_i, pEq_i, pNe_i, pLt_i, pLe_i, pGt_i, pGe_i, pMin2, pMax2, pTup_s, pLst_s, outF, Option.bind_some, Option.bind_none, List.getElem?_cons_succ, List.getElem?_cons_zero, List.length_cons, List.length_nil, List.set_cons_succ, List.set_cons_zero, Nat.reduceAdd, Nat.reduceLT, Nat.reduceSub, Nat.lt_irrefl, if_true, if_false, ite_true, ite_false, reduceIte, ↓reduceIte, Bool.not_true, Bool.not_false, Bool.false_eq_true, decide_true, not_true_eq_false, not_false_eq_true, decide_false, decide_eq_true_eq, Bool.not_eq_true', decide_eq_false_iff_not, Bool.not_eq_eq_eq_not, startE, List.map_cons, List.map_nil, List.cons_append, ixq0, ixq1, m1, m3, h]
end Rt

set_option Elab.async false
set_option linter.all false
set_option maxRecDepth 100000
set_option maxHeartbeats 4000000
set_option autoImplicit false
namespace Tv
open PySem PySem.Spec PyProof.Rows L2 Pl Cm Rt
/-! ### ratios -/
section
variable {f g : PF} {ρ : PEnv}
instance : Inhabited Rat := ⟨0⟩
instance : Ty qE := ⟨1, fun a => rfl, fun a => Nat.le_refl _, fun a b => by
  show PyData.eqv (.tuple _) (.tuple _) = _
  simp only [PyData.eqv, PyData.eqvAll, Bool.and_true, PySem.W.beq_decide]
  rw [← Bool.decide_and]
  exact decide_eq_decide.2 ⟨fun h => Rat.ext h.1 (by have := h.2; omega), fun h => by rw [h]; exact ⟨rfl, rfl⟩⟩⟩
instance : Nn qE := ⟨fun _ => rfl⟩
instance : Nl qE := ⟨fun _ => by unfold noL; simp [noLs, noL]⟩
instance : Lki qE := ⟨2, fun _ => True, fun a _ => lk_pair (.int _) (.int _)⟩
theorem iq_0 {q : Rat} (h : f ρ = some (qE q)) : e2 pIx f (eK (.int 0)) ρ = some (eI q.num) := (v_e2 h (rfl : eK _ _ = _)).trans rfl
theorem iq_1 {q : Rat} (h : f ρ = some (qE q)) : e2 pIx f (eK (.int 1)) ρ = some (eI (q.den : Int)) := (v_e2 h (rfl : eK _ _ = _)).trans rfl
/-- in lowest terms -/
def QOk (a b : Int) : Prop := 0 < b ∧ Nat.gcd a.natAbs b.natAbs = 1
theorem qE_ok {a b : Int} (h : QOk a b) : qE (Rat.divInt a b) = .tuple [.int a, .int b] := by
  obtain ⟨l1, l2⟩ := low_eq (a := a) h.1
  rw [h.2] at l1 l2
  unfold qE
  rw [l1, l2, Int.natCast_one, Int.ediv_one, Int.ediv_one]
theorem v_Q {a b : Int} (h1 : f ρ = some (eI a)) (h2 : g ρ = some (eI b)) (h : QOk a b) : eCall pTup (aCons f (aCons g aNil)) ρ = some (qE (Rat.divInt a b)) := by
  rw [qE_ok h]
  exact v_tup (a_cons h1 (a_cons h2 a_nil))
theorem v_Q1 {a : Int} (h1 : f ρ = some (eI a)) : eCall pTup (aCons f (aCons (eK (.int 1)) aNil)) ρ = some (qE (a : Rat)) := v_tup (a_cons h1 (a_cons rfl a_nil))
theorem co_PQ {x : Int × Int} (h : f ρ = some (p2 eI eI x)) (ok : QOk x.1 x.2) : f ρ = some (qE (Rat.divInt x.1 x.2)) := by rw [qE_ok ok]; exact h
theorem co_QP {q : Rat} (h : f ρ = some (qE q)) : f ρ = some (p2 eI eI (q.num, (q.den : Int))) := h
end
abbrev qAdd (a b : Rat) : Rat := a + b
abbrev qSub (a b : Rat) : Rat := a - b
abbrev qMul (a b : Rat) : Rat := a * b
abbrev qDiv (a b : Rat) : Rat := a / b
abbrev qLow (a b : Int) : Rat := Rat.divInt a b
abbrev Sq2 (a b : Rat) : Prop := Sq a ∧ Sq b
abbrev PLow (a b : Int) : Prop := 0 < b ∧ b < 2 ^ 8000
abbrev PDiv (a b : Rat) : Prop := Sq a ∧ Sq b ∧ 0 < b.num
theorem neg_ok (q : Rat) : QOk (-q.num) q.den ∧ Rat.divInt (-q.num) q.den = -q := by
  refine ⟨⟨den_pos q, ?_⟩, ?_⟩
  · rw [Int.natAbs_neg, Int.natAbs_natCast]
    exact q.reduced
  · rw [← Rat.neg_divInt, Rat.num_divInt_den]
theorem abs_ok (q : Rat) : QOk (q.num.natAbs : Int) q.den ∧ Rat.divInt (q.num.natAbs : Int) q.den = if q < 0 then -q else q := by
  refine ⟨⟨den_pos q, ?_⟩, ?_⟩
  · rw [Int.natAbs_natCast, Int.natAbs_natCast]
    exact q.reduced
  · have hn : q.num < 0 ↔ q < 0 := by rw [← Int.not_le, Rat.num_nonneg, Rat.not_le]
    split
    · rename_i h
      have := hn.2 h
      rw [show ((q.num.natAbs : Nat) : Int) = -q.num by omega]
      exact (neg_ok q).2
    · rename_i h
      have : ¬ q.num < 0 := fun k => h (hn.1 k)
      rw [show ((q.num.natAbs : Nat) : Int) = q.num by omega, Rat.num_divInt_den]
end Tv

set_option Elab.async false
set_option linter.all false
set_option maxRecDepth 100000
set_option maxHeartbeats 4000000
set_option autoImplicit false
namespace Tv
open PySem PySem.Spec PyProof.Rows L2 Pl Cm
/-! ### often wanted -/
section
variable {α β : Type}
theorem RngOk.of {a b : Int} (h0 : -1000000 ≤ a) (h1 : a ≤ 1000000) (h2 : -1000000 ≤ b) (h3 : b ≤ 1000000) : RngOk a b := by unfold RngOk; omega
theorem RngOk.z {b : Int} (h2 : -1000000 ≤ b) (h3 : b ≤ 1000000) : RngOk 0 b := by unfold RngOk; omega
theorem mrng {a b x : Int} : x ∈ Pl.rng a b ↔ a ≤ x ∧ x < b := mem_rng
theorem rlen (a b : Int) : (Pl.rng a b).length = (b - a).toNat := rng_length a b
theorem ix_mem [Inhabited α] {l : List α} {i : Int} (h : 0 ≤ i) (h1 : i < l.length) : ix l i ∈ l := by
  rw [ix_nn h, List.getD_eq_getElem?_getD, List.getElem?_eq_getElem (by omega)]
  exact List.getElem_mem _
theorem ix_get [Inhabited α] {l : List α} {i : Nat} (h1 : i < l.length) : ix l i = l[i] := by
  rw [ix_nn (by omega), List.getD_eq_getElem?_getD, List.getElem?_eq_getElem (by omega)]
  rfl
theorem ix_map [Inhabited α] [Inhabited β] (f : α → β) {l : List α} {i : Int} (h : 0 ≤ i) (h1 : i < l.length) : ix (l.map f) i = f (ix l i) := by
  obtain ⟨n, rfl⟩ := Int.eq_ofNat_of_zero_le h
  rw [ix_get (by rw [List.length_map]; omega), ix_get (by omega), List.getElem_map]
theorem ix_rng {a b i : Int} (h : 0 ≤ i) (h1 : a + i < b) : ix (Pl.rng a b) i = a + i := by
  obtain ⟨n, rfl⟩ := Int.eq_ofNat_of_zero_le h
  rw [ix_get (by rw [rlen]; omega)]
  have := rng_get a b n (by omega)
  rw [List.getElem?_eq_getElem (by rw [rlen]; omega)] at this
  exact Option.some.inj this
theorem ix_mrng [Inhabited β] (f : Int → β) {n i : Int} (h : 0 ≤ i) (h1 : i < n) : ix ((Pl.rng 0 n).map f) i = f i := by
  rw [ix_map f h (by rw [rlen]; omega), ix_rng h (by omega), Int.zero_add]
theorem setI_nn {l : List α} {i : Int} {x : α} (h : 0 ≤ i) : setI l i x = l.set i.toNat x := by unfold setI; rw [if_neg (by omega)]
theorem ix_setI [Inhabited α] {l : List α} {i j : Int} {x : α} (h : 0 ≤ i) (hj : 0 ≤ j) (h1 : i < l.length) : ix (setI l i x) j = if i = j then x else ix l j := by
  rw [setI_nn h, ix_nn hj, ix_nn hj, List.getD_eq_getElem?_getD, List.getElem?_set, List.getD_eq_getElem?_getD]
  by_cases e : i = j
  · subst e
    rw [if_pos rfl, if_pos rfl, if_pos (by omega)]
    rfl
  · rw [if_neg (by omega), if_neg e]
theorem mem_setI {l : List α} {i : Int} {x y : α} (h : y ∈ setI l i x) : y ∈ l ∨ y = x := by
  unfold setI at h
  exact List.mem_or_eq_of_mem_set h
/-- equal by their items -/
theorem ext_ix [Inhabited α] {l m : List α} (hl : l.length = m.length) (h : ∀ i : Int, 0 ≤ i → i < l.length → ix l i = ix m i) : l = m := by
  apply List.ext_getElem hl
  intro i h1 h2
  have := h i (by omega) (by omega)
  rw [ix_get h1, ix_get h2] at this
  exact this
theorem rng_emp {a b : Int} (h : b ≤ a) : Pl.rng a b = [] := by
  unfold Pl.rng
  rw [show (b - a).toNat = 0 by omega]
  rfl
theorem rng_succ {a b : Int} (h : a ≤ b) : Pl.rng a (b + 1) = Pl.rng a b ++ [b] := by
  unfold Pl.rng
  rw [show (b + 1 - a).toNat = (b - a).toNat + 1 by omega, List.range_succ, List.map_append, List.map_cons, List.map_nil, show a + ((b - a).toNat : Int) = b by omega]
theorem rng_cons {a b : Int} (h : a < b) : Pl.rng a b = a :: Pl.rng (a + 1) b := by
  unfold Pl.rng
  rw [show (b - a).toNat = (b - (a + 1)).toNat + 1 by omega, List.range_succ_eq_map, List.map_cons, List.map_map]
  congr 1
  · omega
  · apply List.map_congr_left
    intro k _
    show a + ((k + 1 : Nat) : Int) = a + 1 + (k : Int)
    omega
theorem rng_nodup (a b : Int) : (Pl.rng a b).Nodup := by
  unfold Pl.rng
  rw [List.Nodup, List.pairwise_map]
  exact List.pairwise_lt_range.imp fun h => by omega
theorem mul_x {i j : Int} (h : -9223372036854775808 < i) (h2 : i < 9223372036854775808) : mulOk i j = true := mulOk_x h h2
theorem mul_y {i j : Int} (h : -9223372036854775808 < j) (h2 : j < 9223372036854775808) : mulOk i j = true := mulOk_y h h2
theorem enumI_length (l : List α) : (enumI l).length = l.length := by unfold enumI; rw [List.length_mapIdx]
theorem mem_enumI [Inhabited α] {l : List α} {z : Int × α} : z ∈ enumI l ↔ 0 ≤ z.1 ∧ z.1 < l.length ∧ z.2 = ix l z.1 := by
  unfold enumI
  rw [List.mem_mapIdx]
  constructor
  · rintro ⟨i, h, rfl⟩
    refine ⟨by simp, by simp only; omega, ?_⟩
    show l[i] = ix l (i : Int)
    rw [ix_get h]
  · rintro ⟨h1, h2, h3⟩
    obtain ⟨i, x⟩ := z
    simp only at h1 h2 h3
    obtain ⟨n, rfl⟩ := Int.eq_ofNat_of_zero_le h1
    refine ⟨n, by omega, ?_⟩
    rw [h3, ix_get (by omega)]
theorem enumI_eq [Inhabited α] (l : List α) : enumI l = (Pl.rng 0 l.length).map fun i => (i, ix l i) := by
  apply List.ext_getElem
  · rw [enumI_length, List.length_map, rlen]; omega
  · intro i h1 h2
    have h1' := h1
    rw [enumI_length] at h1'
    have e : (enumI l)[i] = ((i : Int), l[i]) := by simp only [enumI, List.getElem_mapIdx]
    rw [e, List.getElem_map]
    have : (Pl.rng 0 (l.length : Int))[i]'(by rw [rlen]; omega) = i := by
      have := ix_rng (a := 0) (b := l.length) (i := i) (by omega) (by omega)
      rw [ix_get (by rw [rlen]; omega)] at this
      omega
    rw [this, ix_get h1']
theorem nil_rep {α : Type} : ([] : List α).length = 0 := rfl
end
/-- the row of a law -/
theorem row_spec (ns : List Int) (n : Nat) (h : n ≤ 1000) : ∃ row : Row n, f_row [iL ns, .int n] = some (eR row) := by
  obtain ⟨r, h1, h2, h3⟩ := row_is ns n h
  exact ⟨⟨r, h2, h3⟩, h1⟩
theorem like_spec : SpLike (g_like 8) := fun v h => like_refl 8 v h
end Tv

set_option Elab.async false
set_option linter.all false
set_option autoImplicit false
namespace Wk
open PySem PySem.Spec PyProof.Rows L2 Pl Cm Rt Tv
/-- a size whose multiples are small -/
def Pt (D M : Nat) (q : Rat) : Prop := ∃ z : Int, q = Rat.divInt z D ∧ z.natAbs ≤ M * D
structure ArOk (A : List Int) : Prop where
  n : A.length ≤ 100
  b : ∀ x ∈ A, 1 ≤ x ∧ x ≤ 6
structure LvOk (A : List Int) (L : List Rat) (D : Nat) : Prop where
  n : L.length = A.length
  b : ∀ x ∈ L, Pt D 48 x
def DdOk (A : List Int) (a b : Int) : Prop := 0 ≤ a ∧ a ≤ A.length ∧ 0 ≤ b ∧ b ≤ A.length ∧ a ≠ b
def F_divisor (_ _ : Int) : Int := 0
def P_divisor (_ _ : Int) : Prop := True
def aR (q : Rat) : Rat := if q < 0 then -q else q
def F_summed (l : List Rat) : Rat := l.foldl (· + ·) 0
def P_summed (l : List Rat) : Prop := ∃ D : Nat, 0 < D ∧ D < 2 ^ 48 ∧ l.length ≤ 20 ∧ ∀ x ∈ l, Pt D 600 x
def F_evened (A : List Int) (L : List Rat) (a b : Int) : Rat := if a = A.length ∨ b = A.length then 0 else (ix L a * ((ix A a : Int) : Rat) + ix L b * ((ix A b : Int) : Rat)) / ((ix A a + ix A b : Int) : Rat)
def P_evened (A : List Int) (L : List Rat) (a b : Int) : Prop := ArOk A ∧ DdOk A a b ∧ ∃ D : Nat, 0 < D ∧ D < 2 ^ 50 ∧ LvOk A L D
def sideOf (A : List Int) (a b : Int) : Int := if a < A.length then a else b
def movR (A : List Int) (L : List Rat) (a b : Int) : Rat := aR (F_evened A L a b - ix L (sideOf A a b)) * ((ix A (sideOf A a b) : Int) : Rat)
def stepL (A : List Int) (L : List Rat) (a b : Int) : List Rat := [a, b].foldl (fun M (p : Int) => if p < A.length then setI M p (F_evened A L a b) else M) L
def stepF (A : List Int) (s : List Rat × Rat) (d : Int × Int) : List Rat × Rat := (stepL A s.1 d.1 d.2, s.2 + movR A s.1 d.1 d.2)
def runF (A : List Int) (L : List Rat) (ds : List (Int × Int)) : List Rat × Rat := ds.foldl (stepF A) (L, 0)
def RunOk (A : List Int) (L : List Rat) (ds : List (Int × Int)) : Prop := ArOk A ∧ LvOk A L 2 ∧ ds.length ≤ 12 ∧ ∀ d ∈ ds, DdOk A d.1 d.2
def F_level_steps (A : List Int) (L : List Rat) (ds : List (PStr × Int × Int)) : List Rat × Rat := runF A L (ds.map fun d => d.2)
def P_level_steps (A : List Int) (L : List Rat) (ds : List (PStr × Int × Int)) : Prop := RunOk A L (ds.map fun d => d.2)
def F__law_joined (A : List Int) (L : List Rat) (d : Int × Int) : List Rat × Rat := (stepL A L d.1 d.2, movR A L d.1 d.2)
def P__law_joined (A : List Int) (L : List Rat) (d : Int × Int) : Prop := ArOk A ∧ DdOk A d.1 d.2 ∧ ∃ D : Nat, 0 < D ∧ D < 2 ^ 45 ∧ LvOk A L D
def F__law_run (A : List Int) (L : List Rat) (ds : List (Int × Int)) : List Rat × Rat := runF A L ds
def P__law_run (A : List Int) (L : List Rat) (ds : List (Int × Int)) : Prop := RunOk A L ds
def F__law_told (A : List Int) (L : List Rat) (ds : List (Int × Int)) : List Rat × Rat := runF A L ds
def P__law_told (A : List Int) (L : List Rat) (ds : List (Int × Int)) : Prop := RunOk A L ds
def wholeF (A : List Int) (L : List Rat) : Rat := (Pl.rng 0 A.length).foldl (fun t k => t + ix L k * ((ix A k : Int) : Rat)) 0
def F__law_whole (A : List Int) (L : List Rat) : Rat := wholeF A L
def P__law_whole (A : List Int) (L : List Rat) : Prop := ArOk A ∧ A.length ≤ 10 ∧ ∃ D : Nat, 0 < D ∧ D < 2 ^ 45 ∧ LvOk A L D
end Wk

set_option Elab.async false
set_option linter.all false
set_option maxRecDepth 100000
set_option maxHeartbeats 4000000
set_option autoImplicit false
namespace Wk
open PySem PySem.Spec PyProof.Rows L2 Pl Cm Rt Tv
def c_even : PStr := ⟨Str.ofString "even", by decide +kernel⟩
abbrev Sp_divisor (g : List PV → Option PV) : Prop := ∀ (first : Int) (second : Int), P_divisor first second → g [eI first, eI second] = some (eI (F_divisor first second))
abbrev Sp_lowest (g : List PV → Option PV) : Prop := ∀ (a : Int) (b : Int), PLow a b → g [eI a, eI b] = some (qE (qLow a b))
abbrev Sp_plus (g : List PV → Option PV) : Prop := ∀ (first : Rat) (second : Rat), Sq2 first second → g [qE first, qE second] = some (qE (qAdd first second))
abbrev Sp_times (g : List PV → Option PV) : Prop := ∀ (first : Rat) (second : Rat), Sq2 first second → g [qE first, qE second] = some (qE (qMul first second))
abbrev Sp_parted (g : List PV → Option PV) : Prop := ∀ (first : Rat) (second : Rat), PDiv first second → g [qE first, qE second] = some (qE (qDiv first second))
def V_whole (number : Int) : Rat := ((number : Int) : Rat)
def C_whole (number : Int) : Prop := True
abbrev Sp_whole (g : List PV → Option PV) : Prop := ∀ (number : Int), C_whole number → g [eI number] = some (qE (V_whole number))
theorem t_whole   : Sp_whole (fnDef 1 (b_whole )) := fun number hD => by
  delta C_whole at hD
  delta V_whole
  refine fn_rt ?_
  show ((b_whole ) [.val (eI number)]) = _
  exact ret_eq (v_Q1 rfl)
abbrev Sp_summed (g : List PV → Option PV) : Prop := ∀ (ratios : (List Rat)), P_summed ratios → g [(eL qE) ratios] = some (qE (F_summed ratios))
def D_summed (ratios : (List Rat)) (Q : Rat → Prop) : Prop := ∀ (found : Rat), found = (((0 : Int) : Int) : Rat) → FoI ratios ((found) : Rat) (fun (ratio : Rat) (s : Rat) (N : Rat → Prop) => ∀ (found_1 : Rat), found_1 = s → (Sq2 found_1 ratio) ∧ ∀ (found_2 : Rat), found_2 = (qAdd found_1 ratio) → N (found_2)) (fun (s : Rat) => ∀ (found_3 : Rat), found_3 = s → Q found_3)
theorem t_summed {fn_plus : List PV → Option PV} (h_plus : Sp_plus fn_plus) (ratios : (List Rat)) (Q : Rat → Prop) (hD : D_summed ratios Q) : ∃ r, fnDef 3 (b_summed fn_plus) [(eL qE) ratios] = some (qE r) ∧ Q r := by
  delta D_summed at hD
  refine fn_wp ?_
  show WP ((b_summed fn_plus) [.val ((eL qE) ratios), .un, .un]) _ _
  refine wp_seq ?_
  obtain ⟨found, h1⟩ : ∃ found : Rat, found = (((0 : Int) : Int) : Rat) := ⟨_, rfl⟩
  have hD := hD found h1
  refine wp_asg (v := qE found) (ρ' := [.val ((eL qE) ratios), .val (qE found), .un]) (by rw [h1]; exact (v_Q1 rfl)) rfl ?_
  refine wp_seq ?_
  refine wp_for (σ := Rat) qE (fun (s : Rat) ρ' => ∃ (j : Slot), ρ' = [.val ((eL qE) ratios), .val (qE s), j]) (l_L qE rfl) hD ⟨_, rfl⟩ ?_ ?_
  · rintro ratio s _ N hB ⟨j, rfl⟩
    obtain ⟨found_1, rfl⟩ : ∃ x, x = s := ⟨_, rfl⟩
    have hD := hB found_1 rfl
    refine ⟨[.val ((eL qE) ratios), .val (qE found_1), .val (qE ratio)], rfl, ?_⟩
    obtain ⟨h3, hD⟩ := hD
    obtain ⟨found_2, h2⟩ : ∃ found_2 : Rat, found_2 = (qAdd found_1 ratio) := ⟨_, rfl⟩
    have hD := hD found_2 h2
    refine wp_asg (v := qE found_2) (ρ' := [.val ((eL qE) ratios), .val (qE found_2), .val (qE ratio)]) (by rw [h2]; exact (v_call (a_cons rfl (a_cons rfl a_nil)) (h_plus found_1 ratio h3))) rfl ?_
    exact ⟨_, hD, _, rfl⟩
  · rintro s _ hK ⟨j, rfl⟩
    obtain ⟨found_3, rfl⟩ : ∃ x, x = s := ⟨_, rfl⟩
    have hD := hK found_3 rfl
    exact wp_ret rfl ⟨_, rfl, hD⟩
def V_size_of (ratio : Rat) : Rat := (Rat.divInt (ratio.num.natAbs : Int) (ratio.den : Int))
def C_size_of (ratio : Rat) : Prop := (QOk (ratio.num.natAbs : Int) (ratio.den : Int))
abbrev Sp_size_of (g : List PV → Option PV) : Prop := ∀ (ratio : Rat), C_size_of ratio → g [qE ratio] = some (qE (V_size_of ratio))
theorem t_size_of   : Sp_size_of (fnDef 1 (b_size_of )) := fun ratio hD => by
  delta C_size_of at hD
  delta V_size_of
  refine fn_rt ?_
  show ((b_size_of ) [.val (qE ratio)]) = _
  exact ret_eq (v_Q (v_abs (iq_0 rfl)) (iq_1 rfl) hD)
def V_level_of (levels : (List Rat)) (place : Int) : Rat := (if place < (levels.length : Int) then (ix levels place) else (V_whole (0 : Int)))
def C_level_of (levels : (List Rat)) (place : Int) : Prop := ((place < (levels.length : Int)) → (-(levels.length : Int) ≤ place ∧ place < levels.length)) ∧ (¬(place < (levels.length : Int)) → (C_whole (0 : Int)))
abbrev Sp_level_of (g : List PV → Option PV) : Prop := ∀ (levels : (List Rat)) (place : Int), C_level_of levels place → g [(eT qE) levels, eI place] = some (qE (V_level_of levels place))
theorem t_level_of {fn_whole : List PV → Option PV} (h_whole : Sp_whole fn_whole) : Sp_level_of (fnDef 2 (b_level_of fn_whole)) := fun levels place hD => by
  delta C_level_of at hD
  delta V_level_of
  refine fn_rt ?_
  show ((b_level_of fn_whole) [.val ((eT qE) levels), .val (eI place)]) = _
  exact ret_eq (v_if qE (c_B (v_ltI rfl (v_lenT qE rfl))) (fun h1 => (v_ixT qE rfl rfl (hD.1 h1))) (fun h2 => (v_call (a_cons rfl a_nil) (h_whole (0 : Int) (hD.2 h2)))))
def V_may_open (levels : (List Rat)) (gate : (Int × Int)) : Bool := (decide ((V_level_of levels gate.1) = (V_level_of levels gate.2)))
def C_may_open (levels : (List Rat)) (gate : (Int × Int)) : Prop := (C_level_of levels gate.1) ∧ (C_level_of levels gate.2)
abbrev Sp_may_open (g : List PV → Option PV) : Prop := ∀ (levels : (List Rat)) (gate : (Int × Int)), C_may_open levels gate → g [(eT qE) levels, (p2 eI eI) gate] = some (eBo (V_may_open levels gate))
theorem t_may_open {fn_level_of : List PV → Option PV} (h_level_of : Sp_level_of fn_level_of) : Sp_may_open (fnDef 2 (b_may_open fn_level_of)) := fun levels gate hD => by
  delta C_may_open at hD
  delta V_may_open
  refine fn_rt ?_
  show ((b_may_open fn_level_of) [.val ((eT qE) levels), .val ((p2 eI eI) gate)]) = _
  exact ret_eq (v_eq qE (v_call (a_cons rfl (a_cons (i2_0 eI eI rfl) a_nil)) (h_level_of levels gate.1 hD.1)) (v_call (a_cons rfl (a_cons (i2_1 eI eI rfl) a_nil)) (h_level_of levels gate.2 hD.2)))
def V_gates_free (levels : (List Rat)) (gates : (List (Int × Int))) : (List Int) := (List.map (fun (z : (Int × (Int × Int))) => z.1) (List.filter (fun (z : (Int × (Int × Int))) => decide ((V_may_open levels z.2) = true)) (enumI gates)))
def C_gates_free (levels : (List Rat)) (gates : (List (Int × Int))) : Prop := ((enumI gates).length ≤ 16777216) ∧ (∀ z ∈ (enumI gates), (C_may_open levels z.2))
abbrev Sp_gates_free (g : List PV → Option PV) : Prop := ∀ (levels : (List Rat)) (gates : (List (Int × Int))), C_gates_free levels gates → g [(eT qE) levels, (eT (p2 eI eI)) gates] = some ((eT eI) (V_gates_free levels gates))
theorem t_gates_free {fn_may_open : List PV → Option PV} (h_may_open : Sp_may_open fn_may_open) : Sp_gates_free (fnDef 4 (b_gates_free fn_may_open)) := fun levels gates hD => by
  delta C_gates_free at hD
  delta V_gates_free
  refine fn_rt ?_
  show ((b_gates_free fn_may_open) [.val ((eT qE) levels), .val ((eT (p2 eI eI)) gates), .un, .un]) = _
  exact ret_eq (v_tupL eI (v_flt (p2 eI (p2 eI eI)) eI (fun (z : (Int × (Int × Int))) => (V_may_open levels z.2) = true) (fun (z : (Int × (Int × Int))) => z.1) (l_enumT (p2 eI eI) rfl) hD.1 (fun z h1 => ⟨[.val ((eT qE) levels), .val ((eT (p2 eI eI)) gates), .val (eI z.1), .val ((p2 eI eI) z.2)], rfl, (c_tru (v_bd (v_call (a_cons rfl (a_cons rfl a_nil)) (h_may_open levels z.2 (hD.2 z h1))))), (fun h2 => rfl)⟩)))
abbrev Sp_evened (g : List PV → Option PV) : Prop := ∀ (areas : (List Int)) (levels : (List Rat)) (a : Int) (b : Int), P_evened areas levels a b → g [(eT eI) areas, (eL qE) levels, eI a, eI b] = some (qE (F_evened areas levels a b))
def D_evened (areas : (List Int)) (levels : (List Rat)) (a : Int) (b : Int) (Q : Rat → Prop) : Prop := (((a = (areas.length : Int)) ∨ (b = (areas.length : Int))) → (C_whole (0 : Int)) ∧ Q (V_whole (0 : Int))) ∧ (¬((a = (areas.length : Int)) ∨ (b = (areas.length : Int))) → (-(levels.length : Int) ≤ a ∧ a < levels.length) ∧ (-(areas.length : Int) ≤ a ∧ a < areas.length) ∧ (C_whole (ix areas a)) ∧ (Sq2 (ix levels a) (V_whole (ix areas a))) ∧ (-(levels.length : Int) ≤ b ∧ b < levels.length) ∧ (-(areas.length : Int) ≤ b ∧ b < areas.length) ∧ (C_whole (ix areas b)) ∧ (Sq2 (ix levels b) (V_whole (ix areas b))) ∧ (Sq2 (qMul (ix levels a) (V_whole (ix areas a))) (qMul (ix levels b) (V_whole (ix areas b)))) ∧ ∀ (both : Rat), both = (qAdd (qMul (ix levels a) (V_whole (ix areas a))) (qMul (ix levels b) (V_whole (ix areas b)))) → (-(areas.length : Int) ≤ a ∧ a < areas.length) ∧ (-(areas.length : Int) ≤ b ∧ b < areas.length) ∧ (C_whole ((ix areas a) + (ix areas b))) ∧ (PDiv both (V_whole ((ix areas a) + (ix areas b)))) ∧ Q (qDiv both (V_whole ((ix areas a) + (ix areas b)))))
theorem t_evened {fn_whole : List PV → Option PV} {fn_plus : List PV → Option PV} {fn_times : List PV → Option PV} {fn_parted : List PV → Option PV} (h_whole : Sp_whole fn_whole) (h_plus : Sp_plus fn_plus) (h_times : Sp_times fn_times) (h_parted : Sp_parted fn_parted) (areas : (List Int)) (levels : (List Rat)) (a : Int) (b : Int) (Q : Rat → Prop) (hD : D_evened areas levels a b Q) : ∃ r, fnDef 5 (b_evened fn_whole fn_plus fn_times fn_parted) [(eT eI) areas, (eL qE) levels, eI a, eI b] = some (qE r) ∧ Q r := by
  delta D_evened at hD
  refine fn_wp ?_
  show WP ((b_evened fn_whole fn_plus fn_times fn_parted) [.val ((eT eI) areas), .val ((eL qE) levels), .val (eI a), .val (eI b), .un]) _ _
  refine wp_seq ?_
  obtain ⟨h19, h20⟩ := hD
  refine wp_if (P := (a = (areas.length : Int)) ∨ (b = (areas.length : Int))) (c_or (c_B (v_eqI rfl (v_lenT eI rfl))) (fun h1 => (c_B (v_eqI rfl (v_lenT eI rfl))))) (fun h2 => ?_) (fun h3 => ?_)
  · have hD := h19 h2
    obtain ⟨h4, hD⟩ := hD
    exact wp_ret (v_call (a_cons rfl a_nil) (h_whole (0 : Int) h4)) ⟨_, rfl, hD⟩
  · have hD := h20 h3
    refine wp_nil ?_
    refine wp_seq ?_
    obtain ⟨h10, h11, h12, h13, h14, h15, h16, h17, h18, hD⟩ := hD
    obtain ⟨both, h5⟩ : ∃ both : Rat, both = (qAdd (qMul (ix levels a) (V_whole (ix areas a))) (qMul (ix levels b) (V_whole (ix areas b)))) := ⟨_, rfl⟩
    have hD := hD both h5
    refine wp_asg (v := qE both) (ρ' := [.val ((eT eI) areas), .val ((eL qE) levels), .val (eI a), .val (eI b), .val (qE both)]) (by rw [h5]; exact (v_call (a_cons (v_call (a_cons (v_ixL qE rfl rfl h10) (a_cons (v_call (a_cons (v_ixT eI rfl rfl h11) a_nil) (h_whole (ix areas a) h12)) a_nil)) (h_times (ix levels a) (V_whole (ix areas a)) h13)) (a_cons (v_call (a_cons (v_ixL qE rfl rfl h14) (a_cons (v_call (a_cons (v_ixT eI rfl rfl h15) a_nil) (h_whole (ix areas b) h16)) a_nil)) (h_times (ix levels b) (V_whole (ix areas b)) h17)) a_nil)) (h_plus (qMul (ix levels a) (V_whole (ix areas a))) (qMul (ix levels b) (V_whole (ix areas b))) h18))) rfl ?_
    obtain ⟨h6, h7, h8, h9, hD⟩ := hD
    exact wp_ret (v_call (a_cons rfl (a_cons (v_call (a_cons (v_add (v_ixT eI rfl rfl h6) (v_ixT eI rfl rfl h7)) a_nil) (h_whole ((ix areas a) + (ix areas b)) h8)) a_nil)) (h_parted both (V_whole ((ix areas a) + (ix areas b))) h9)) ⟨_, rfl, hD⟩
abbrev Sp_level_steps (g : List PV → Option PV) : Prop := ∀ (areas : (List Int)) (levels : (List Rat)) (deeds : (List (PStr × Int × Int))), P_level_steps areas levels deeds → g [(eT eI) areas, (eT qE) levels, (eT (p3 eS eI eI)) deeds] = some ((p2 (eT qE) qE) (F_level_steps areas levels deeds))
def D_level_steps (areas : (List Int)) (levels : (List Rat)) (deeds : (List (PStr × Int × Int))) (Q : ((List Rat) × Rat) → Prop) : Prop := ∀ (moved : (List Rat)), moved = ([] : List Rat) → FoI deeds ((levels, moved) : ((List Rat) × (List Rat))) (fun (z : (PStr × Int × Int)) (s : ((List Rat) × (List Rat))) (N : ((List Rat) × (List Rat)) → Prop) => ∀ (levels_1 : (List Rat)), levels_1 = s.1 → ∀ (moved_1 : (List Rat)), moved_1 = s.2 → (P_evened areas levels_1 z.2.1 z.2.2) ∧ ∀ (new : Rat), new = (F_evened areas levels_1 z.2.1 z.2.2) → ∀ (side : Int), side = (if z.2.1 < (areas.length : Int) then z.2.1 else z.2.2) → (-(levels_1.length : Int) ≤ side ∧ side < levels_1.length) ∧ (QOk (-(ix levels_1 side).num) ((ix levels_1 side).den : Int)) ∧ (Sq2 new (Rat.divInt (-(ix levels_1 side).num) ((ix levels_1 side).den : Int))) ∧ ∀ (rise : Rat), rise = (qAdd new (Rat.divInt (-(ix levels_1 side).num) ((ix levels_1 side).den : Int))) → (-(areas.length : Int) ≤ side ∧ side < areas.length) ∧ (C_whole (ix areas side)) ∧ (Sq2 rise (V_whole (ix areas side))) ∧ (C_size_of (qMul rise (V_whole (ix areas side)))) ∧ (moved_1.length < 16777216) ∧ ∀ (moved_2 : (List Rat)), moved_2 = (moved_1 ++ [(V_size_of (qMul rise (V_whole (ix areas side))))]) → FoI [z.2.1, z.2.2] ((levels_1) : (List Rat)) (fun (place : Int) (s : (List Rat)) (N : (List Rat) → Prop) => ∀ (levels_2 : (List Rat)), levels_2 = s → ((place < (areas.length : Int)) → (-(levels_2.length : Int) ≤ place ∧ place < levels_2.length)) ∧ ∀ (levels_3 : (List Rat)), levels_3 = (if place < (areas.length : Int) then (setI levels_2 place new) else levels_2) → N (levels_3)) (fun (s : (List Rat)) => ∀ (levels_4 : (List Rat)), levels_4 = s → N (levels_4, moved_2))) (fun (s : ((List Rat) × (List Rat))) => ∀ (levels_5 : (List Rat)), levels_5 = s.1 → ∀ (moved_3 : (List Rat)), moved_3 = s.2 → (P_summed moved_3) ∧ Q (levels_5, (F_summed moved_3)))
theorem t_level_steps {fn_evened : List PV → Option PV} {fn_plus : List PV → Option PV} {fn_size_of : List PV → Option PV} {fn_times : List PV → Option PV} {fn_whole : List PV → Option PV} {fn_summed : List PV → Option PV} (h_evened : Sp_evened fn_evened) (h_plus : Sp_plus fn_plus) (h_size_of : Sp_size_of fn_size_of) (h_times : Sp_times fn_times) (h_whole : Sp_whole fn_whole) (h_summed : Sp_summed fn_summed) (areas : (List Int)) (levels : (List Rat)) (deeds : (List (PStr × Int × Int))) (Q : ((List Rat) × Rat) → Prop) (hD : D_level_steps areas levels deeds Q) : ∃ r, fnDef 11 (b_level_steps fn_evened fn_plus fn_size_of fn_times fn_whole fn_summed) [(eT eI) areas, (eT qE) levels, (eT (p3 eS eI eI)) deeds] = some ((p2 (eT qE) qE) r) ∧ Q r := by
  delta D_level_steps at hD
  refine fn_wp ?_
  show WP ((b_level_steps fn_evened fn_plus fn_size_of fn_times fn_whole fn_summed) [.val ((eT eI) areas), .val ((eT qE) levels), .val ((eT (p3 eS eI eI)) deeds), .un, .un, .un, .un, .un, .un, .un, .un]) _ _
  refine wp_seq ?_
  obtain ⟨moved, h1⟩ : ∃ moved : (List Rat), moved = ([] : List Rat) := ⟨_, rfl⟩
  have hD := hD moved h1
  refine wp_par (l := [(true, (eL qE) levels), (true, (eL qE) moved)]) (ρ' := [.val ((eT eI) areas), .own ((eL qE) levels), .val ((eT (p3 eS eI eI)) deeds), .own ((eL qE) moved), .un, .un, .un, .un, .un, .un, .un]) (m_own (v_lstT qE rfl) (m_own (by rw [h1]; exact (v_L qE (t_nil qE))) m_nil)) rfl rfl ?_
  refine wp_seq ?_
  refine wp_for (σ := ((List Rat) × (List Rat))) (p3 eS eI eI) (fun (s : ((List Rat) × (List Rat))) ρ' => ∃ (j j_1 j_2 j_3 j_4 j_5 j_6 : Slot), ρ' = [.val ((eT eI) areas), .own ((eL qE) s.1), .val ((eT (p3 eS eI eI)) deeds), .own ((eL qE) s.2), j, j_1, j_2, j_3, j_4, j_5, j_6]) (l_T (p3 eS eI eI) rfl) hD ⟨_, _, _, _, _, _, _, rfl⟩ ?_ ?_
  · rintro z s _ N hB ⟨j, j_1, j_2, j_3, j_4, j_5, j_6, rfl⟩
    obtain ⟨levels_1, moved_1⟩ := s
    have hD := hB levels_1 rfl moved_1 rfl
    refine ⟨[.val ((eT eI) areas), .own ((eL qE) levels_1), .val ((eT (p3 eS eI eI)) deeds), .own ((eL qE) moved_1), .val (eS z.1), .val (eI z.2.1), .val (eI z.2.2), j_3, j_4, j_5, j_6], rfl, ?_⟩
    refine wp_seq ?_
    obtain ⟨h22, hD⟩ := hD
    obtain ⟨new, h2⟩ : ∃ new : Rat, new = (F_evened areas levels_1 z.2.1 z.2.2) := ⟨_, rfl⟩
    have hD := hD new h2
    refine wp_asg (v := qE new) (ρ' := [.val ((eT eI) areas), .own ((eL qE) levels_1), .val ((eT (p3 eS eI eI)) deeds), .own ((eL qE) moved_1), .val (eS z.1), .val (eI z.2.1), .val (eI z.2.2), .val (qE new), j_4, j_5, j_6]) (by rw [h2]; exact (v_callB (a_cons rfl (a_cons rfl (a_cons rfl (a_cons rfl a_nil)))) (h_evened areas levels_1 z.2.1 z.2.2 h22) (Nl.nl (e := qE) _))) rfl ?_
    refine wp_seq ?_
    obtain ⟨side, h5⟩ : ∃ side : Int, side = (if z.2.1 < (areas.length : Int) then z.2.1 else z.2.2) := ⟨_, rfl⟩
    have hD := hD side h5
    refine wp_asg (v := eI side) (ρ' := [.val ((eT eI) areas), .own ((eL qE) levels_1), .val ((eT (p3 eS eI eI)) deeds), .own ((eL qE) moved_1), .val (eS z.1), .val (eI z.2.1), .val (eI z.2.2), .val (qE new), .val (eI side), j_5, j_6]) (by rw [h5]; exact (v_if eI (c_B (v_ltI rfl (v_lenT eI rfl))) (fun h3 => rfl) (fun h4 => rfl))) rfl ?_
    refine wp_seq ?_
    obtain ⟨h19, h20, h21, hD⟩ := hD
    obtain ⟨rise, h6⟩ : ∃ rise : Rat, rise = (qAdd new (Rat.divInt (-(ix levels_1 side).num) ((ix levels_1 side).den : Int))) := ⟨_, rfl⟩
    have hD := hD rise h6
    refine wp_asg (v := qE rise) (ρ' := [.val ((eT eI) areas), .own ((eL qE) levels_1), .val ((eT (p3 eS eI eI)) deeds), .own ((eL qE) moved_1), .val (eS z.1), .val (eI z.2.1), .val (eI z.2.2), .val (qE new), .val (eI side), .val (qE rise), j_6]) (by rw [h6]; exact (v_call (a_cons rfl (a_cons (v_Q (v_neg (iq_0 (v_ixL qE rfl rfl h19))) (iq_1 (v_ixL qE rfl rfl h19)) h20) a_nil)) (h_plus new (Rat.divInt (-(ix levels_1 side).num) ((ix levels_1 side).den : Int)) h21))) rfl ?_
    refine wp_seq ?_
    obtain ⟨h14, h15, h16, h17, h18, hD⟩ := hD
    obtain ⟨moved_2, h7⟩ : ∃ moved_2 : (List Rat), moved_2 = (moved_1 ++ [(V_size_of (qMul rise (V_whole (ix areas side))))]) := ⟨_, rfl⟩
    have hD := hD moved_2 h7
    refine wp_app qE (l := moved_1) (x := (V_size_of (qMul rise (V_whole (ix areas side))))) (ρ' := [.val ((eT eI) areas), .own ((eL qE) levels_1), .val ((eT (p3 eS eI eI)) deeds), .own ((eL qE) moved_2), .val (eS z.1), .val (eI z.2.1), .val (eI z.2.2), .val (qE new), .val (eI side), .val (qE rise), j_6]) (v_call (a_cons (v_call (a_cons rfl (a_cons (v_call (a_cons (v_ixT eI rfl rfl h14) a_nil) (h_whole (ix areas side) h15)) a_nil)) (h_times rise (V_whole (ix areas side)) h16)) a_nil) (h_size_of (qMul rise (V_whole (ix areas side))) h17)) rfl h18 (by rw [h7]; rfl) ?_
    refine wp_for (σ := (List Rat)) eI (fun (s : (List Rat)) ρ' => ∃ (j_7 : Slot), ρ' = [.val ((eT eI) areas), .own ((eL qE) s), .val ((eT (p3 eS eI eI)) deeds), .own ((eL qE) moved_2), .val (eS z.1), .val (eI z.2.1), .val (eI z.2.2), .val (qE new), .val (eI side), .val (qE rise), j_7]) (l_T eI (v_T eI (t_cons eI rfl (t_cons eI rfl (t_nil eI))))) hD ⟨_, rfl⟩ ?_ ?_
    · rintro place s _ N hB ⟨j_7, rfl⟩
      obtain ⟨levels_2, rfl⟩ : ∃ x, x = s := ⟨_, rfl⟩
      have hD := hB levels_2 rfl
      refine ⟨[.val ((eT eI) areas), .own ((eL qE) levels_2), .val ((eT (p3 eS eI eI)) deeds), .own ((eL qE) moved_2), .val (eS z.1), .val (eI z.2.1), .val (eI z.2.2), .val (qE new), .val (eI side), .val (qE rise), .val (eI place)], rfl, ?_⟩
      obtain ⟨h13, hD⟩ := hD
      obtain ⟨levels_3, h10⟩ : ∃ levels_3 : (List Rat), levels_3 = (if place < (areas.length : Int) then (setI levels_2 place new) else levels_2) := ⟨_, rfl⟩
      have hD := hD levels_3 h10
      refine WP.mono (N := fun ρ' => ρ' = [.val ((eT eI) areas), .own ((eL qE) levels_3), .val ((eT (p3 eS eI eI)) deeds), .own ((eL qE) moved_2), .val (eS z.1), .val (eI z.2.1), .val (eI z.2.2), .val (qE new), .val (eI side), .val (qE rise), .val (eI place)]) (R := _) ?_ ?_ (fun _ q => q)
      · clear hD
        refine wp_if (P := place < (areas.length : Int)) (c_B (v_ltI rfl (v_lenT eI rfl))) (fun h11 => ?_) (fun h12 => ?_)
        · rw [if_pos h11] at h10
          subst h10
          refine wp_setI qE (l := levels_2) (x := new) (j := place) (ρ' := [.val ((eT eI) areas), .own ((eL qE) (setI levels_2 place new)), .val ((eT (p3 eS eI eI)) deeds), .own ((eL qE) moved_2), .val (eS z.1), .val (eI z.2.1), .val (eI z.2.2), .val (qE new), .val (eI side), .val (qE rise), .val (eI place)]) rfl rfl rfl (h13 h11) rfl ?_
          rfl
        · rw [if_neg h12] at h10
          subst h10
          refine wp_nil ?_
          rfl
      · rintro _ rfl
        exact ⟨_, hD, _, rfl⟩
    · rintro s _ hK ⟨j_7, rfl⟩
      obtain ⟨levels_4, rfl⟩ : ∃ x, x = s := ⟨_, rfl⟩
      have hD := hK levels_4 rfl
      exact ⟨_, hD, _, _, _, _, _, _, _, rfl⟩
  · rintro s _ hK ⟨j, j_1, j_2, j_3, j_4, j_5, j_6, rfl⟩
    obtain ⟨levels_5, moved_3⟩ := s
    have hD := hK levels_5 rfl moved_3 rfl
    refine wp_seq ?_
    refine wp_fzO (v := (eL qE) moved_3) (ρ' := [.val ((eT eI) areas), .own ((eL qE) levels_5), .val ((eT (p3 eS eI eI)) deeds), .val ((eL qE) moved_3), j, j_1, j_2, j_3, j_4, j_5, j_6]) rfl rfl ?_
    refine wp_seq ?_
    obtain ⟨h23, hD⟩ := hD
    exact wp_ret (v_P2 (eT qE) qE (a_cons (v_tupL qE rfl) (a_cons (v_call (a_cons rfl a_nil) (h_summed moved_3 h23)) a_nil))) ⟨_, rfl, hD⟩
def V_level_run (areas : (List Int)) (levels : (List Rat)) (deeds : (List (PStr × Int × Int))) : (List Rat) := (F_level_steps areas levels deeds).1
def C_level_run (areas : (List Int)) (levels : (List Rat)) (deeds : (List (PStr × Int × Int))) : Prop := (P_level_steps areas levels deeds)
abbrev Sp_level_run (g : List PV → Option PV) : Prop := ∀ (areas : (List Int)) (levels : (List Rat)) (deeds : (List (PStr × Int × Int))), C_level_run areas levels deeds → g [(eT eI) areas, (eT qE) levels, (eT (p3 eS eI eI)) deeds] = some ((eT qE) (V_level_run areas levels deeds))
theorem t_level_run {fn_level_steps : List PV → Option PV} (h_level_steps : Sp_level_steps fn_level_steps) : Sp_level_run (fnDef 3 (b_level_run fn_level_steps)) := fun areas levels deeds hD => by
  delta C_level_run at hD
  delta V_level_run
  refine fn_rt ?_
  show ((b_level_run fn_level_steps) [.val ((eT eI) areas), .val ((eT qE) levels), .val ((eT (p3 eS eI eI)) deeds)]) = _
  exact ret_eq (i2_0 (eT qE) qE (v_call (a_cons rfl (a_cons rfl (a_cons rfl a_nil))) (h_level_steps areas levels deeds hD)))
def V_water_moved (areas : (List Int)) (levels : (List Rat)) (deeds : (List (PStr × Int × Int))) : Rat := (F_level_steps areas levels deeds).2
def C_water_moved (areas : (List Int)) (levels : (List Rat)) (deeds : (List (PStr × Int × Int))) : Prop := (P_level_steps areas levels deeds)
abbrev Sp_water_moved (g : List PV → Option PV) : Prop := ∀ (areas : (List Int)) (levels : (List Rat)) (deeds : (List (PStr × Int × Int))), C_water_moved areas levels deeds → g [(eT eI) areas, (eT qE) levels, (eT (p3 eS eI eI)) deeds] = some (qE (V_water_moved areas levels deeds))
theorem t_water_moved {fn_level_steps : List PV → Option PV} (h_level_steps : Sp_level_steps fn_level_steps) : Sp_water_moved (fnDef 3 (b_water_moved fn_level_steps)) := fun areas levels deeds hD => by
  delta C_water_moved at hD
  delta V_water_moved
  refine fn_rt ?_
  show ((b_water_moved fn_level_steps) [.val ((eT eI) areas), .val ((eT qE) levels), .val ((eT (p3 eS eI eI)) deeds)]) = _
  exact ret_eq (i2_1 (eT qE) qE (v_call (a_cons rfl (a_cons rfl (a_cons rfl a_nil))) (h_level_steps areas levels deeds hD)))
abbrev Sp__law_low (g : List PV → Option PV) : Prop := ∀ (a : Int) (b : Int), PLow a b → g [eI a, eI b] = some (qE (qLow a b))
abbrev Sp__law_sum (g : List PV → Option PV) : Prop := ∀ (one : Rat) (other : Rat), Sq2 one other → g [qE one, qE other] = some (qE (qAdd one other))
abbrev Sp__law_times (g : List PV → Option PV) : Prop := ∀ (one : Rat) (other : Rat), Sq2 one other → g [qE one, qE other] = some (qE (qMul one other))
def V__law_level (levels : (List Rat)) (place : Int) : Rat := (ix (levels ++ [(((0 : Int) : Int) : Rat)]) place)
def C__law_level (levels : (List Rat)) (place : Int) : Prop := (levels.length + [(((0 : Int) : Int) : Rat)].length ≤ 16777216) ∧ (-((levels ++ [(((0 : Int) : Int) : Rat)]).length : Int) ≤ place ∧ place < (levels ++ [(((0 : Int) : Int) : Rat)]).length)
abbrev Sp__law_level (g : List PV → Option PV) : Prop := ∀ (levels : (List Rat)) (place : Int), C__law_level levels place → g [(eT qE) levels, eI place] = some (qE (V__law_level levels place))
theorem t__law_level   : Sp__law_level (fnDef 2 (b__law_level )) := fun levels place hD => by
  delta C__law_level at hD
  delta V__law_level
  refine fn_rt ?_
  show ((b__law_level ) [.val ((eT qE) levels), .val (eI place)]) = _
  exact ret_eq (v_ixT qE (v_catT qE rfl (v_T qE (t_cons qE (v_Q1 rfl) (t_nil qE))) hD.1) rfl hD.2)
abbrev Sp__law_joined (g : List PV → Option PV) : Prop := ∀ (areas : (List Int)) (levels : (List Rat)) (deed : (Int × Int)), P__law_joined areas levels deed → g [(eT eI) areas, (eT qE) levels, (p2 eI eI) deed] = some ((p2 (eT qE) qE) (F__law_joined areas levels deed))
def D__law_joined (areas : (List Int)) (levels : (List Rat)) (deed : (Int × Int)) (Q : ((List Rat) × Rat) → Prop) : Prop := ∀ (z : (Int × (Int × Int))), z = ((areas.length : Int), deed) → (¬(z.1 ∈ [z.2.1, z.2.2]) → (-(levels.length : Int) ≤ z.2.1 ∧ z.2.1 < levels.length) ∧ (-(areas.length : Int) ≤ z.2.1 ∧ z.2.1 < areas.length) ∧ (Sq2 (ix levels z.2.1) (((ix areas z.2.1) : Int) : Rat)) ∧ (-(levels.length : Int) ≤ z.2.2 ∧ z.2.2 < levels.length) ∧ (-(areas.length : Int) ≤ z.2.2 ∧ z.2.2 < areas.length) ∧ (Sq2 (ix levels z.2.2) (((ix areas z.2.2) : Int) : Rat)) ∧ (Sq2 (qMul (ix levels z.2.1) (((ix areas z.2.1) : Int) : Rat)) (qMul (ix levels z.2.2) (((ix areas z.2.2) : Int) : Rat))) ∧ (QOk (1 : Int) ((ix areas z.2.1) + (ix areas z.2.2))) ∧ (Sq2 (qAdd (qMul (ix levels z.2.1) (((ix areas z.2.1) : Int) : Rat)) (qMul (ix levels z.2.2) (((ix areas z.2.2) : Int) : Rat))) (Rat.divInt (1 : Int) ((ix areas z.2.1) + (ix areas z.2.2))))) ∧ ∀ (new : Rat), new = (if z.1 ∈ [z.2.1, z.2.2] then (((0 : Int) : Int) : Rat) else (qMul (qAdd (qMul (ix levels z.2.1) (((ix areas z.2.1) : Int) : Rat)) (qMul (ix levels z.2.2) (((ix areas z.2.2) : Int) : Rat))) (Rat.divInt (1 : Int) ((ix areas z.2.1) + (ix areas z.2.2))))) → ∀ (place : Int), place = (min z.2.1 z.2.2) → (-(levels.length : Int) ≤ place ∧ place < levels.length) ∧ (QOk ((0 : Int) - (ix levels place).num) ((ix levels place).den : Int)) ∧ (Sq2 new (Rat.divInt ((0 : Int) - (ix levels place).num) ((ix levels place).den : Int))) ∧ ∀ (rise : Rat), rise = (qAdd new (Rat.divInt ((0 : Int) - (ix levels place).num) ((ix levels place).den : Int))) → (QOk (rise.num.natAbs : Int) (rise.den : Int)) ∧ (-(areas.length : Int) ≤ place ∧ place < areas.length) ∧ (Sq2 (Rat.divInt (rise.num.natAbs : Int) (rise.den : Int)) (((ix areas place) : Int) : Rat)) ∧ ∀ (moved : Rat), moved = (qMul (Rat.divInt (rise.num.natAbs : Int) (rise.den : Int)) (((ix areas place) : Int) : Rat)) → (RngOk (0 : Int) z.1) ∧ (∀ k ∈ (Pl.rng 0 z.1), (-(levels.length : Int) ≤ k ∧ k < levels.length) ∧ (-([(ix levels k), new].length : Int) ≤ (if k ∈ [z.2.1, z.2.2] then (1 : Int) else 0) ∧ (if k ∈ [z.2.1, z.2.2] then (1 : Int) else 0) < [(ix levels k), new].length)) ∧ Q ((List.map (fun (k : Int) => (ix [(ix levels k), new] (if k ∈ [z.2.1, z.2.2] then (1 : Int) else 0))) (Pl.rng 0 z.1)), moved)
theorem t__law_joined {fn__law_sum : List PV → Option PV} {fn__law_times : List PV → Option PV} (h__law_sum : Sp__law_sum fn__law_sum) (h__law_times : Sp__law_times fn__law_times) (areas : (List Int)) (levels : (List Rat)) (deed : (Int × Int)) (Q : ((List Rat) × Rat) → Prop) (hD : D__law_joined areas levels deed Q) : ∃ r, fnDef 12 (b__law_joined fn__law_sum fn__law_times) [(eT eI) areas, (eT qE) levels, (p2 eI eI) deed] = some ((p2 (eT qE) qE) r) ∧ Q r := by
  delta D__law_joined at hD
  refine fn_wp ?_
  show WP ((b__law_joined fn__law_sum fn__law_times) [.val ((eT eI) areas), .val ((eT qE) levels), .val ((p2 eI eI) deed), .un, .un, .un, .un, .un, .un, .un, .un, .un]) _ _
  refine wp_seq ?_
  obtain ⟨z, h1⟩ : ∃ z : (Int × (Int × Int)), z = ((areas.length : Int), deed) := ⟨_, rfl⟩
  have hD := hD z h1
  refine wp_asg (v := (p2 eI (p2 eI eI)) z) (ρ' := [.val ((eT eI) areas), .val ((eT qE) levels), .val ((p2 eI eI) deed), .val (eI z.1), .val (eI z.2.1), .val (eI z.2.2), .un, .un, .un, .un, .un, .un]) (by rw [h1]; exact (v_P2 eI (p2 eI eI) (a_cons (v_lenT eI rfl) (a_cons rfl a_nil)))) rfl ?_
  refine wp_seq ?_
  obtain ⟨h19, hD⟩ := hD
  obtain ⟨new, h4⟩ : ∃ new : Rat, new = (if z.1 ∈ [z.2.1, z.2.2] then (((0 : Int) : Int) : Rat) else (qMul (qAdd (qMul (ix levels z.2.1) (((ix areas z.2.1) : Int) : Rat)) (qMul (ix levels z.2.2) (((ix areas z.2.2) : Int) : Rat))) (Rat.divInt (1 : Int) ((ix areas z.2.1) + (ix areas z.2.2))))) := ⟨_, rfl⟩
  have hD := hD new h4
  refine WP.mono (N := fun ρ' => ∃ (j : Slot), ρ' = [.val ((eT eI) areas), .val ((eT qE) levels), .val ((p2 eI eI) deed), .val (eI z.1), .val (eI z.2.1), .val (eI z.2.2), .val (qE new), j, .un, .un, .un, .un]) (R := _) ?_ ?_ (fun _ q => q)
  · clear hD
    refine wp_if (P := z.1 ∈ [z.2.1, z.2.2]) (c_B (v_inT eI rfl (v_T eI (t_cons eI rfl (t_cons eI rfl (t_nil eI)))))) (fun h17 => ?_) (fun h18 => ?_)
    · rw [if_pos h17] at h4
      subst h4
      refine wp_asg (v := qE (((0 : Int) : Int) : Rat)) (ρ' := [.val ((eT eI) areas), .val ((eT qE) levels), .val ((p2 eI eI) deed), .val (eI z.1), .val (eI z.2.1), .val (eI z.2.2), .val (qE (((0 : Int) : Int) : Rat)), .un, .un, .un, .un, .un]) (v_Q1 rfl) rfl ?_
      exact ⟨_, rfl⟩
    · rw [if_neg h18] at h4
      subst h4
      refine wp_seq ?_
      refine wp_asg (v := qE (qAdd (qMul (ix levels z.2.1) (((ix areas z.2.1) : Int) : Rat)) (qMul (ix levels z.2.2) (((ix areas z.2.2) : Int) : Rat)))) (ρ' := [.val ((eT eI) areas), .val ((eT qE) levels), .val ((p2 eI eI) deed), .val (eI z.1), .val (eI z.2.1), .val (eI z.2.2), .un, .val (qE (qAdd (qMul (ix levels z.2.1) (((ix areas z.2.1) : Int) : Rat)) (qMul (ix levels z.2.2) (((ix areas z.2.2) : Int) : Rat)))), .un, .un, .un, .un]) (v_call (a_cons (v_call (a_cons (v_ixT qE rfl rfl (h19 h18).1) (a_cons (v_Q1 (v_ixT eI rfl rfl (h19 h18).2.1)) a_nil)) (h__law_times (ix levels z.2.1) (((ix areas z.2.1) : Int) : Rat) (h19 h18).2.2.1)) (a_cons (v_call (a_cons (v_ixT qE rfl rfl (h19 h18).2.2.2.1) (a_cons (v_Q1 (v_ixT eI rfl rfl (h19 h18).2.2.2.2.1)) a_nil)) (h__law_times (ix levels z.2.2) (((ix areas z.2.2) : Int) : Rat) (h19 h18).2.2.2.2.2.1)) a_nil)) (h__law_sum (qMul (ix levels z.2.1) (((ix areas z.2.1) : Int) : Rat)) (qMul (ix levels z.2.2) (((ix areas z.2.2) : Int) : Rat)) (h19 h18).2.2.2.2.2.2.1)) rfl ?_
      refine wp_asg (v := qE (qMul (qAdd (qMul (ix levels z.2.1) (((ix areas z.2.1) : Int) : Rat)) (qMul (ix levels z.2.2) (((ix areas z.2.2) : Int) : Rat))) (Rat.divInt (1 : Int) ((ix areas z.2.1) + (ix areas z.2.2))))) (ρ' := [.val ((eT eI) areas), .val ((eT qE) levels), .val ((p2 eI eI) deed), .val (eI z.1), .val (eI z.2.1), .val (eI z.2.2), .val (qE (qMul (qAdd (qMul (ix levels z.2.1) (((ix areas z.2.1) : Int) : Rat)) (qMul (ix levels z.2.2) (((ix areas z.2.2) : Int) : Rat))) (Rat.divInt (1 : Int) ((ix areas z.2.1) + (ix areas z.2.2))))), .val (qE (qAdd (qMul (ix levels z.2.1) (((ix areas z.2.1) : Int) : Rat)) (qMul (ix levels z.2.2) (((ix areas z.2.2) : Int) : Rat)))), .un, .un, .un, .un]) (v_call (a_cons rfl (a_cons (v_Q rfl (v_add (v_ixT eI rfl rfl (h19 h18).2.1) (v_ixT eI rfl rfl (h19 h18).2.2.2.2.1)) (h19 h18).2.2.2.2.2.2.2.1) a_nil)) (h__law_times (qAdd (qMul (ix levels z.2.1) (((ix areas z.2.1) : Int) : Rat)) (qMul (ix levels z.2.2) (((ix areas z.2.2) : Int) : Rat))) (Rat.divInt (1 : Int) ((ix areas z.2.1) + (ix areas z.2.2))) (h19 h18).2.2.2.2.2.2.2.2)) rfl ?_
      exact ⟨_, rfl⟩
  · rintro _ ⟨j, rfl⟩
    refine wp_seq ?_
    obtain ⟨place, h5⟩ : ∃ place : Int, place = (min z.2.1 z.2.2) := ⟨_, rfl⟩
    have hD := hD place h5
    refine wp_asg (v := eI place) (ρ' := [.val ((eT eI) areas), .val ((eT qE) levels), .val ((p2 eI eI) deed), .val (eI z.1), .val (eI z.2.1), .val (eI z.2.2), .val (qE new), j, .val (eI place), .un, .un, .un]) (by rw [h5]; exact (v_min rfl rfl)) rfl ?_
    refine wp_seq ?_
    obtain ⟨h14, h15, h16, hD⟩ := hD
    obtain ⟨rise, h6⟩ : ∃ rise : Rat, rise = (qAdd new (Rat.divInt ((0 : Int) - (ix levels place).num) ((ix levels place).den : Int))) := ⟨_, rfl⟩
    have hD := hD rise h6
    refine wp_asg (v := qE rise) (ρ' := [.val ((eT eI) areas), .val ((eT qE) levels), .val ((p2 eI eI) deed), .val (eI z.1), .val (eI z.2.1), .val (eI z.2.2), .val (qE new), j, .val (eI place), .val (qE rise), .un, .un]) (by rw [h6]; exact (v_call (a_cons rfl (a_cons (v_Q (v_sub rfl (iq_0 (v_ixT qE rfl rfl h14))) (iq_1 (v_ixT qE rfl rfl h14)) h15) a_nil)) (h__law_sum new (Rat.divInt ((0 : Int) - (ix levels place).num) ((ix levels place).den : Int)) h16))) rfl ?_
    refine wp_seq ?_
    obtain ⟨h11, h12, h13, hD⟩ := hD
    obtain ⟨moved, h7⟩ : ∃ moved : Rat, moved = (qMul (Rat.divInt (rise.num.natAbs : Int) (rise.den : Int)) (((ix areas place) : Int) : Rat)) := ⟨_, rfl⟩
    have hD := hD moved h7
    refine wp_asg (v := qE moved) (ρ' := [.val ((eT eI) areas), .val ((eT qE) levels), .val ((p2 eI eI) deed), .val (eI z.1), .val (eI z.2.1), .val (eI z.2.2), .val (qE new), j, .val (eI place), .val (qE rise), .val (qE moved), .un]) (by rw [h7]; exact (v_call (a_cons (v_Q (v_abs (iq_0 rfl)) (iq_1 rfl) h11) (a_cons (v_Q1 (v_ixT eI rfl rfl h12)) a_nil)) (h__law_times (Rat.divInt (rise.num.natAbs : Int) (rise.den : Int)) (((ix areas place) : Int) : Rat) h13))) rfl ?_
    obtain ⟨h9, h10, hD⟩ := hD
    exact wp_ret (v_P2 (eT qE) qE (a_cons (v_tupL qE (v_map eI qE (fun (k : Int) => (ix [(ix levels k), new] (if k ∈ [z.2.1, z.2.2] then (1 : Int) else 0))) (l_rng1 rfl h9) (rng_len h9) (fun k h8 => ⟨[.val ((eT eI) areas), .val ((eT qE) levels), .val ((p2 eI eI) deed), .val (eI z.1), .val (eI z.2.1), .val (eI z.2.2), .val (qE new), j, .val (eI place), .val (qE rise), .val (qE moved), .val (eI k)], rfl, rfl, (v_ixT qE (v_T qE (t_cons qE (v_ixT qE rfl rfl (h10 k h8).1) (t_cons qE rfl (t_nil qE)))) (v_intB (v_inT eI rfl (v_T eI (t_cons eI rfl (t_cons eI rfl (t_nil eI)))))) (h10 k h8).2)⟩))) (a_cons rfl a_nil))) ⟨_, rfl, hD⟩
abbrev Sp__law_run (g : List PV → Option PV) : Prop := ∀ (areas : (List Int)) (levels : (List Rat)) (deeds : (List (Int × Int))), P__law_run areas levels deeds → g [(eT eI) areas, (eT qE) levels, (eT (p2 eI eI)) deeds] = some ((p2 (eT qE) qE) (F__law_run areas levels deeds))
def D__law_run (areas : (List Int)) (levels : (List Rat)) (deeds : (List (Int × Int))) (Q : ((List Rat) × Rat) → Prop) : Prop := ∀ (moved : Rat), moved = (((0 : Int) : Int) : Rat) → FoI deeds ((levels, moved) : ((List Rat) × Rat)) (fun (deed : (Int × Int)) (s : ((List Rat) × Rat)) (N : ((List Rat) × Rat) → Prop) => ∀ (levels_1 : (List Rat)), levels_1 = s.1 → ∀ (moved_1 : Rat), moved_1 = s.2 → (P__law_joined areas levels_1 deed) ∧ ∀ (z : ((List Rat) × Rat)), z = (F__law_joined areas levels_1 deed) → (Sq2 moved_1 z.2) ∧ ∀ (moved_2 : Rat), moved_2 = (qAdd moved_1 z.2) → N (z.1, moved_2)) (fun (s : ((List Rat) × Rat)) => ∀ (levels_2 : (List Rat)), levels_2 = s.1 → ∀ (moved_3 : Rat), moved_3 = s.2 → Q (levels_2, moved_3))
theorem t__law_run {fn__law_joined : List PV → Option PV} {fn__law_sum : List PV → Option PV} (h__law_joined : Sp__law_joined fn__law_joined) (h__law_sum : Sp__law_sum fn__law_sum) (areas : (List Int)) (levels : (List Rat)) (deeds : (List (Int × Int))) (Q : ((List Rat) × Rat) → Prop) (hD : D__law_run areas levels deeds Q) : ∃ r, fnDef 6 (b__law_run fn__law_joined fn__law_sum) [(eT eI) areas, (eT qE) levels, (eT (p2 eI eI)) deeds] = some ((p2 (eT qE) qE) r) ∧ Q r := by
  delta D__law_run at hD
  refine fn_wp ?_
  show WP ((b__law_run fn__law_joined fn__law_sum) [.val ((eT eI) areas), .val ((eT qE) levels), .val ((eT (p2 eI eI)) deeds), .un, .un, .un]) _ _
  refine wp_seq ?_
  obtain ⟨moved, h1⟩ : ∃ moved : Rat, moved = (((0 : Int) : Int) : Rat) := ⟨_, rfl⟩
  have hD := hD moved h1
  refine wp_asg (v := qE moved) (ρ' := [.val ((eT eI) areas), .val ((eT qE) levels), .val ((eT (p2 eI eI)) deeds), .val (qE moved), .un, .un]) (by rw [h1]; exact (v_Q1 rfl)) rfl ?_
  refine wp_seq ?_
  refine wp_for (σ := ((List Rat) × Rat)) (p2 eI eI) (fun (s : ((List Rat) × Rat)) ρ' => ∃ (j j_1 : Slot), ρ' = [.val ((eT eI) areas), .val ((eT qE) s.1), .val ((eT (p2 eI eI)) deeds), .val (qE s.2), j, j_1]) (l_T (p2 eI eI) rfl) hD ⟨_, _, rfl⟩ ?_ ?_
  · rintro deed s _ N hB ⟨j, j_1, rfl⟩
    obtain ⟨levels_1, moved_1⟩ := s
    have hD := hB levels_1 rfl moved_1 rfl
    refine ⟨[.val ((eT eI) areas), .val ((eT qE) levels_1), .val ((eT (p2 eI eI)) deeds), .val (qE moved_1), .val ((p2 eI eI) deed), j_1], rfl, ?_⟩
    refine wp_seq ?_
    obtain ⟨h5, hD⟩ := hD
    obtain ⟨z, h2⟩ : ∃ z : ((List Rat) × Rat), z = (F__law_joined areas levels_1 deed) := ⟨_, rfl⟩
    have hD := hD z h2
    refine wp_asg (v := (p2 (eT qE) qE) z) (ρ' := [.val ((eT eI) areas), .val ((eT qE) z.1), .val ((eT (p2 eI eI)) deeds), .val (qE moved_1), .val ((p2 eI eI) deed), .val (qE z.2)]) (by rw [h2]; exact (v_call (a_cons rfl (a_cons rfl (a_cons rfl a_nil))) (h__law_joined areas levels_1 deed h5))) rfl ?_
    obtain ⟨h4, hD⟩ := hD
    obtain ⟨moved_2, h3⟩ : ∃ moved_2 : Rat, moved_2 = (qAdd moved_1 z.2) := ⟨_, rfl⟩
    have hD := hD moved_2 h3
    refine wp_asg (v := qE moved_2) (ρ' := [.val ((eT eI) areas), .val ((eT qE) z.1), .val ((eT (p2 eI eI)) deeds), .val (qE moved_2), .val ((p2 eI eI) deed), .val (qE z.2)]) (by rw [h3]; exact (v_call (a_cons rfl (a_cons rfl a_nil)) (h__law_sum moved_1 z.2 h4))) rfl ?_
    exact ⟨_, hD, _, _, rfl⟩
  · rintro s _ hK ⟨j, j_1, rfl⟩
    obtain ⟨levels_2, moved_3⟩ := s
    have hD := hK levels_2 rfl moved_3 rfl
    exact wp_ret (v_P2 (eT qE) qE (a_cons rfl (a_cons rfl a_nil))) ⟨_, rfl, hD⟩
abbrev Sp__law_told (g : List PV → Option PV) : Prop := ∀ (areas : (List Int)) (levels : (List Rat)) (deeds : (List (Int × Int))), P__law_told areas levels deeds → g [(eT eI) areas, (eT qE) levels, (eT (p2 eI eI)) deeds] = some ((p2 (eT qE) qE) (F__law_told areas levels deeds))
def D__law_told (areas : (List Int)) (levels : (List Rat)) (deeds : (List (Int × Int))) (Q : ((List Rat) × Rat) → Prop) : Prop := (deeds.length ≤ 16777216) ∧ ∀ (rows : (List (PStr × Int × Int))), rows = (List.map (fun (z : (Int × Int)) => (c_even, z.1, z.2)) deeds) → (C_level_run areas levels rows) ∧ (C_water_moved areas levels rows) ∧ Q ((V_level_run areas levels rows), (V_water_moved areas levels rows))
theorem t__law_told {fn_water_moved : List PV → Option PV} {fn_level_run : List PV → Option PV} (h_water_moved : Sp_water_moved fn_water_moved) (h_level_run : Sp_level_run fn_level_run) (areas : (List Int)) (levels : (List Rat)) (deeds : (List (Int × Int))) (Q : ((List Rat) × Rat) → Prop) (hD : D__law_told areas levels deeds Q) : ∃ r, fnDef 6 (b__law_told fn_water_moved fn_level_run) [(eT eI) areas, (eT qE) levels, (eT (p2 eI eI)) deeds] = some ((p2 (eT qE) qE) r) ∧ Q r := by
  delta D__law_told at hD
  refine fn_wp ?_
  show WP ((b__law_told fn_water_moved fn_level_run) [.val ((eT eI) areas), .val ((eT qE) levels), .val ((eT (p2 eI eI)) deeds), .un, .un, .un]) _ _
  refine wp_seq ?_
  obtain ⟨h5, hD⟩ := hD
  obtain ⟨rows, h2⟩ : ∃ rows : (List (PStr × Int × Int)), rows = (List.map (fun (z : (Int × Int)) => (c_even, z.1, z.2)) deeds) := ⟨_, rfl⟩
  have hD := hD rows h2
  refine wp_asg (v := (eT (p3 eS eI eI)) rows) (ρ' := [.val ((eT eI) areas), .val ((eT qE) levels), .val ((eT (p2 eI eI)) deeds), .val ((eT (p3 eS eI eI)) rows), .un, .un]) (by rw [h2]; exact (v_tupL (p3 eS eI eI) (v_map (p2 eI eI) (p3 eS eI eI) (fun (z : (Int × Int)) => (c_even, z.1, z.2)) (l_T (p2 eI eI) rfl) h5 (fun z h1 => ⟨[.val ((eT eI) areas), .val ((eT qE) levels), .val ((eT (p2 eI eI)) deeds), .un, .val (eI z.1), .val (eI z.2)], rfl, rfl, (v_P3 eS eI eI (a_cons rfl (a_cons rfl (a_cons rfl a_nil))))⟩)))) rfl ?_
  obtain ⟨h3, h4, hD⟩ := hD
  exact wp_ret (v_P2 (eT qE) qE (a_cons (v_call (a_cons rfl (a_cons rfl (a_cons rfl a_nil))) (h_level_run areas levels rows h3)) (a_cons (v_call (a_cons rfl (a_cons rfl (a_cons rfl a_nil))) (h_water_moved areas levels rows h4)) a_nil))) ⟨_, rfl, hD⟩
abbrev Sp__law_whole (g : List PV → Option PV) : Prop := ∀ (areas : (List Int)) (levels : (List Rat)), P__law_whole areas levels → g [(eT eI) areas, (eT qE) levels] = some (qE (F__law_whole areas levels))
def D__law_whole (areas : (List Int)) (levels : (List Rat)) (Q : Rat → Prop) : Prop := ∀ (total : Rat), total = (((0 : Int) : Int) : Rat) → (RngOk (0 : Int) (areas.length : Int)) ∧ FoI (Pl.rng 0 (areas.length : Int)) ((total) : Rat) (fun (k : Int) (s : Rat) (N : Rat → Prop) => ∀ (total_1 : Rat), total_1 = s → (-(levels.length : Int) ≤ k ∧ k < levels.length) ∧ (-(areas.length : Int) ≤ k ∧ k < areas.length) ∧ (Sq2 (ix levels k) (((ix areas k) : Int) : Rat)) ∧ (Sq2 total_1 (qMul (ix levels k) (((ix areas k) : Int) : Rat))) ∧ ∀ (total_2 : Rat), total_2 = (qAdd total_1 (qMul (ix levels k) (((ix areas k) : Int) : Rat))) → N (total_2)) (fun (s : Rat) => ∀ (total_3 : Rat), total_3 = s → Q total_3)
theorem t__law_whole {fn__law_sum : List PV → Option PV} {fn__law_times : List PV → Option PV} (h__law_sum : Sp__law_sum fn__law_sum) (h__law_times : Sp__law_times fn__law_times) (areas : (List Int)) (levels : (List Rat)) (Q : Rat → Prop) (hD : D__law_whole areas levels Q) : ∃ r, fnDef 4 (b__law_whole fn__law_sum fn__law_times) [(eT eI) areas, (eT qE) levels] = some (qE r) ∧ Q r := by
  delta D__law_whole at hD
  refine fn_wp ?_
  show WP ((b__law_whole fn__law_sum fn__law_times) [.val ((eT eI) areas), .val ((eT qE) levels), .un, .un]) _ _
  refine wp_seq ?_
  obtain ⟨total, h1⟩ : ∃ total : Rat, total = (((0 : Int) : Int) : Rat) := ⟨_, rfl⟩
  have hD := hD total h1
  refine wp_asg (v := qE total) (ρ' := [.val ((eT eI) areas), .val ((eT qE) levels), .val (qE total), .un]) (by rw [h1]; exact (v_Q1 rfl)) rfl ?_
  refine wp_seq ?_
  obtain ⟨h7, hD⟩ := hD
  refine wp_for (σ := Rat) eI (fun (s : Rat) ρ' => ∃ (j : Slot), ρ' = [.val ((eT eI) areas), .val ((eT qE) levels), .val (qE s), j]) (l_rng1 (v_lenT eI rfl) h7) hD ⟨_, rfl⟩ ?_ ?_
  · rintro k s _ N hB ⟨j, rfl⟩
    obtain ⟨total_1, rfl⟩ : ∃ x, x = s := ⟨_, rfl⟩
    have hD := hB total_1 rfl
    refine ⟨[.val ((eT eI) areas), .val ((eT qE) levels), .val (qE total_1), .val (eI k)], rfl, ?_⟩
    obtain ⟨h3, h4, h5, h6, hD⟩ := hD
    obtain ⟨total_2, h2⟩ : ∃ total_2 : Rat, total_2 = (qAdd total_1 (qMul (ix levels k) (((ix areas k) : Int) : Rat))) := ⟨_, rfl⟩
    have hD := hD total_2 h2
    refine wp_asg (v := qE total_2) (ρ' := [.val ((eT eI) areas), .val ((eT qE) levels), .val (qE total_2), .val (eI k)]) (by rw [h2]; exact (v_call (a_cons rfl (a_cons (v_call (a_cons (v_ixT qE rfl rfl h3) (a_cons (v_Q1 (v_ixT eI rfl rfl h4)) a_nil)) (h__law_times (ix levels k) (((ix areas k) : Int) : Rat) h5)) a_nil)) (h__law_sum total_1 (qMul (ix levels k) (((ix areas k) : Int) : Rat)) h6))) rfl ?_
    exact ⟨_, hD, _, rfl⟩
  · rintro s _ hK ⟨j, rfl⟩
    obtain ⟨total_3, rfl⟩ : ∃ x, x = s := ⟨_, rfl⟩
    have hD := hK total_3 rfl
    exact wp_ret rfl ⟨_, rfl, hD⟩
def D_law (row : Row 34) : Prop := ∀ (n : Int), n = ((2 : Int) + ((rg row (0 : Int)) % (3 : Int))) → (RngOk (0 : Int) n) ∧ (∀ k ∈ (Pl.rng 0 n), (0 ≤ ((1 : Int) + k) ∧ ((1 : Int) + k) < 34)) ∧ ∀ (areas : (List Int)), areas = (List.map (fun (k : Int) => ((1 : Int) + ((rg row ((1 : Int) + k)) % (6 : Int)))) (Pl.rng 0 n)) → (RngOk (0 : Int) n) ∧ (∀ k_1 ∈ (Pl.rng 0 n), (0 ≤ ((5 : Int) + k_1) ∧ ((5 : Int) + k_1) < 34) ∧ (-([(1 : Int), (2 : Int), (4 : Int), (8 : Int)].length : Int) ≤ k_1 ∧ k_1 < [(1 : Int), (2 : Int), (4 : Int), (8 : Int)].length) ∧ (0 < (ix [(1 : Int), (2 : Int), (4 : Int), (8 : Int)] k_1) ∧ (ix [(1 : Int), (2 : Int), (4 : Int), (8 : Int)] k_1) < 9223372036854775808) ∧ (PLow (((rg row ((5 : Int) + k_1)) % (25 : Int)) - (12 : Int)) ((1 : Int) + (((rg row (9 : Int)) / (ix [(1 : Int), (2 : Int), (4 : Int), (8 : Int)] k_1)) % (2 : Int))))) ∧ ∀ (levels : (List Rat)), levels = (List.map (fun (k_1 : Int) => (qLow (((rg row ((5 : Int) + k_1)) % (25 : Int)) - (12 : Int)) ((1 : Int) + (((rg row (9 : Int)) / (ix [(1 : Int), (2 : Int), (4 : Int), (8 : Int)] k_1)) % (2 : Int))))) (Pl.rng 0 n)) → ∀ (deeds : (List (Int × Int))), deeds = ([] : List (Int × Int)) → (RngOk (0 : Int) ((rg row (10 : Int)) % (7 : Int))) ∧ FoI (Pl.rng 0 ((rg row (10 : Int)) % (7 : Int))) ((deeds) : (List (Int × Int))) (fun (k_2 : Int) (s : (List (Int × Int))) (N : (List (Int × Int)) → Prop) => ∀ (deeds_1 : (List (Int × Int))), deeds_1 = s → (0 ≤ ((11 : Int) + ((2 : Int) * k_2)) ∧ ((11 : Int) + ((2 : Int) * k_2)) < 34) ∧ (0 < (n + (1 : Int))) ∧ ∀ (a : Int), a = ((rg row ((11 : Int) + ((2 : Int) * k_2))) % (n + (1 : Int))) → (0 ≤ ((12 : Int) + ((2 : Int) * k_2)) ∧ ((12 : Int) + ((2 : Int) * k_2)) < 34) ∧ (0 < n) ∧ (0 < (n + (1 : Int))) ∧ (deeds_1.length < 16777216) ∧ ∀ (deeds_2 : (List (Int × Int))), deeds_2 = (deeds_1 ++ [(a, (((a + (1 : Int)) + ((rg row ((12 : Int) + ((2 : Int) * k_2))) % n)) % (n + (1 : Int))))]) → N (deeds_2)) (fun (s : (List (Int × Int))) => ∀ (deeds_3 : (List (Int × Int))), deeds_3 = s → (P__law_run areas levels deeds_3) ∧ ∀ (due : ((List Rat) × Rat)), due = (F__law_run areas levels deeds_3) → (P__law_told areas levels deeds_3) ∧ ((F__law_told areas levels deeds_3) = due) ∧ (Lo (p2 (eT qE) qE) due) ∧ (deeds_3.length ≤ 16777216) ∧ ∀ (twice : (List (Int × Int))), twice = ([] : List (Int × Int)) → ∀ (turned : (List (Int × Int))), turned = (List.map (fun (z : (Int × Int)) => (z.2, z.1)) deeds_3) → FoI deeds_3 ((twice) : (List (Int × Int))) (fun (deed : (Int × Int)) (s : (List (Int × Int))) (N : (List (Int × Int)) → Prop) => ∀ (twice_1 : (List (Int × Int))), twice_1 = s → (twice_1.length + [deed, (deed.2, deed.1)].length ≤ 16777216) ∧ ∀ (twice_2 : (List (Int × Int))), twice_2 = (twice_1 ++ [deed, (deed.2, deed.1)]) → N (twice_2)) (fun (s : (List (Int × Int))) => ∀ (twice_3 : (List (Int × Int))), twice_3 = s → (P__law_told areas levels twice_3) ∧ (P__law_told areas levels turned) ∧ (((F__law_told areas levels twice_3), (F__law_told areas levels turned)) = (due, due)) ∧ (Lo (p2 (p2 (eT qE) qE) (p2 (eT qE) qE)) (due, due)) ∧ (deeds_3.length ≤ 16777216) ∧ ∀ (inner : (List (Int × Int))), inner = (List.filter (fun (deed_1 : (Int × Int)) => decide (n ∉ [deed_1.1, deed_1.2])) deeds_3) → (inner.length ≤ 16777216) ∧ (C_level_run areas levels (List.map (fun (z_1 : (Int × Int)) => (c_even, z_1.1, z_1.2)) inner)) ∧ ∀ (kept : (List Rat)), kept = (V_level_run areas levels (List.map (fun (z_1 : (Int × Int)) => (c_even, z_1.1, z_1.2)) inner)) → (P__law_whole areas kept) ∧ (P__law_whole areas levels) ∧ ((F__law_whole areas kept) = (F__law_whole areas levels)) ∧ (Lo qE (F__law_whole areas levels)) ∧ ∀ (gates : (List (Int × Int))), gates = ([] : List (Int × Int)) → (RngOk (0 : Int) (n + (1 : Int))) ∧ FoI (Pl.rng 0 (n + (1 : Int))) ((gates) : (List (Int × Int))) (fun (a_1 : Int) (s : (List (Int × Int))) (N : (List (Int × Int)) → Prop) => ∀ (gates_1 : (List (Int × Int))), gates_1 = s → (RngOk (0 : Int) (n + (1 : Int))) ∧ (gates_1.length + (List.map (fun (b : Int) => (a_1, b)) (List.filter (fun (b : Int) => decide (a_1 ≠ b)) (Pl.rng 0 (n + (1 : Int))))).length ≤ 16777216) ∧ ∀ (gates_2 : (List (Int × Int))), gates_2 = (gates_1 ++ (List.map (fun (b : Int) => (a_1, b)) (List.filter (fun (b : Int) => decide (a_1 ≠ b)) (Pl.rng 0 (n + (1 : Int)))))) → N (gates_2)) (fun (s : (List (Int × Int))) => ∀ (gates_3 : (List (Int × Int))), gates_3 = s → FoI [levels, due.1] (() : Unit) (fun (state : (List Rat)) (s : Unit) (N : Unit → Prop) => (RngOk (0 : Int) (gates_3.length : Int)) ∧ (∀ k_3 ∈ (Pl.rng 0 (gates_3.length : Int)), (-(gates_3.length : Int) ≤ k_3 ∧ k_3 < gates_3.length) ∧ (C__law_level state (ix gates_3 k_3).1) ∧ (C__law_level state (ix gates_3 k_3).2)) ∧ ∀ (free : (List Int)), free = (List.filter (fun (k_3 : Int) => decide ((V__law_level state (ix gates_3 k_3).1) = (V__law_level state (ix gates_3 k_3).2))) (Pl.rng 0 (gates_3.length : Int))) → (C_gates_free state gates_3) ∧ ((V_gates_free state gates_3) = free) ∧ (Lo (eT eI) free) ∧ (RngOk (0 : Int) (gates_3.length : Int)) ∧ (∀ k_4 ∈ (Pl.rng 0 (gates_3.length : Int)), (-(gates_3.length : Int) ≤ k_4 ∧ k_4 < gates_3.length) ∧ (C_may_open state (ix gates_3 k_4)) ∧ ((V_may_open state (ix gates_3 k_4)) = (decide (k_4 ∈ free))) ∧ (Lo eBo (decide (k_4 ∈ free)))) ∧ N ()) (fun (s : Unit) => (((0 : Int) < (deeds_3.length : Int)) → (-(deeds_3.length : Int) ≤ ((deeds_3.length : Int) - (1 : Int)) ∧ ((deeds_3.length : Int) - (1 : Int)) < deeds_3.length) ∧ (C_may_open due.1 (ix deeds_3 ((deeds_3.length : Int) - (1 : Int)))) ∧ ((V_may_open due.1 (ix deeds_3 ((deeds_3.length : Int) - (1 : Int)))) = true)) ∧ ∀ (k_5 : Int), k_5 = ((1 : Int) + ((rg row (24 : Int)) % (4 : Int))) → (levels.length ≤ 16777216) ∧ (∀ level ∈ levels, (Sq2 level ((k_5 : Int) : Rat))) ∧ ∀ (wide : (List Rat)), wide = (List.map (fun (level : Rat) => (qMul level ((k_5 : Int) : Rat))) levels) → (due.1.length ≤ 16777216) ∧ (∀ level_1 ∈ due.1, (Sq2 level_1 ((k_5 : Int) : Rat))) ∧ (Sq2 due.2 ((k_5 : Int) : Rat)) ∧ ∀ (far : ((List Rat) × Rat)), far = ((List.map (fun (level_1 : Rat) => (qMul level_1 ((k_5 : Int) : Rat))) due.1), (qMul due.2 ((k_5 : Int) : Rat))) → (P__law_told areas wide deeds_3) ∧ ((F__law_told areas wide deeds_3) = far) ∧ (Lo (p2 (eT qE) qE) far)))))
theorem t_law {fn__law_row : List PV → Option PV} {fn__law_low : List PV → Option PV} {fn__law_run : List PV → Option PV} {fn__law_like : List PV → Option PV} {fn__law_told : List PV → Option PV} {fn_level_run : List PV → Option PV} {fn__law_whole : List PV → Option PV} {fn__law_level : List PV → Option PV} {fn_gates_free : List PV → Option PV} {fn_may_open : List PV → Option PV} {fn__law_times : List PV → Option PV} (h__law_low : Sp__law_low fn__law_low) (h__law_run : Sp__law_run fn__law_run) (h__law_like : SpLike fn__law_like) (h__law_told : Sp__law_told fn__law_told) (h_level_run : Sp_level_run fn_level_run) (h__law_whole : Sp__law_whole fn__law_whole) (h__law_level : Sp__law_level fn__law_level) (h_gates_free : Sp_gates_free fn_gates_free) (h_may_open : Sp_may_open fn_may_open) (h__law_times : Sp__law_times fn__law_times) (script : PV) (row : Row 34) (hrow : fn__law_row [script, .int 34] = some (eR row)) (hD : D_law row) : fnDef 21 (b_law fn__law_row fn__law_low fn__law_run fn__law_like fn__law_told fn_level_run fn__law_whole fn__law_level fn_gates_free fn_may_open fn__law_times) [script] = some (eBo true) := by
  delta D_law at hD
  refine fn_law ?_
  show WP ((b_law fn__law_row fn__law_low fn__law_run fn__law_like fn__law_told fn_level_run fn__law_whole fn__law_level fn_gates_free fn_may_open fn__law_times) [.val script, .un, .un, .un, .un, .un, .un, .un, .un, .un, .un, .un, .un, .un, .un, .un, .un, .un, .un, .un, .un]) _ _
  refine wp_seq (wp_asg (v := eR row) (ρ' := [.val script, .val (eR row), .un, .un, .un, .un, .un, .un, .un, .un, .un, .un, .un, .un, .un, .un, .un, .un, .un, .un, .un]) (v_call (a_cons rfl (a_cons rfl a_nil)) hrow) rfl ?_)
  refine wp_seq ?_
  obtain ⟨n, h1⟩ : ∃ n : Int, n = ((2 : Int) + ((rg row (0 : Int)) % (3 : Int))) := ⟨_, rfl⟩
  have hD := hD n h1
  refine wp_asg (v := eI n) (ρ' := [.val script, .val (eR row), .val (eI n), .un, .un, .un, .un, .un, .un, .un, .un, .un, .un, .un, .un, .un, .un, .un, .un, .un, .un]) (by rw [h1]; exact (v_add rfl (v_mod (v_int (v_row rfl rfl ⟨by decide, by decide⟩)) rfl (by decide)))) rfl ?_
  refine wp_seq ?_
  obtain ⟨h78, h79, hD⟩ := hD
  obtain ⟨areas, h3⟩ : ∃ areas : (List Int), areas = (List.map (fun (k : Int) => ((1 : Int) + ((rg row ((1 : Int) + k)) % (6 : Int)))) (Pl.rng 0 n)) := ⟨_, rfl⟩
  have hD := hD areas h3
  refine wp_asg (v := (eT eI) areas) (ρ' := [.val script, .val (eR row), .val (eI n), .un, .val ((eT eI) areas), .un, .un, .un, .un, .un, .un, .un, .un, .un, .un, .un, .un, .un, .un, .un, .un]) (by rw [h3]; exact (v_tupL eI (v_map eI eI (fun (k : Int) => ((1 : Int) + ((rg row ((1 : Int) + k)) % (6 : Int)))) (l_rng1 rfl h78) (rng_len h78) (fun k h2 => ⟨[.val script, .val (eR row), .val (eI n), .val (eI k), .un, .un, .un, .un, .un, .un, .un, .un, .un, .un, .un, .un, .un, .un, .un, .un, .un], rfl, rfl, (v_add rfl (v_mod (v_int (v_row rfl (v_add rfl rfl) (h79 k h2))) rfl (by decide)))⟩)))) rfl ?_
  refine wp_seq ?_
  obtain ⟨h76, h77, hD⟩ := hD
  obtain ⟨levels, h5⟩ : ∃ levels : (List Rat), levels = (List.map (fun (k_1 : Int) => (qLow (((rg row ((5 : Int) + k_1)) % (25 : Int)) - (12 : Int)) ((1 : Int) + (((rg row (9 : Int)) / (ix [(1 : Int), (2 : Int), (4 : Int), (8 : Int)] k_1)) % (2 : Int))))) (Pl.rng 0 n)) := ⟨_, rfl⟩
  have hD := hD levels h5
  refine wp_asg (v := (eT qE) levels) (ρ' := [.val script, .val (eR row), .val (eI n), .un, .val ((eT eI) areas), .val ((eT qE) levels), .un, .un, .un, .un, .un, .un, .un, .un, .un, .un, .un, .un, .un, .un, .un]) (by rw [h5]; exact (v_tupL qE (v_map eI qE (fun (k_1 : Int) => (qLow (((rg row ((5 : Int) + k_1)) % (25 : Int)) - (12 : Int)) ((1 : Int) + (((rg row (9 : Int)) / (ix [(1 : Int), (2 : Int), (4 : Int), (8 : Int)] k_1)) % (2 : Int))))) (l_rng1 rfl h76) (rng_len h76) (fun k_1 h4 => ⟨[.val script, .val (eR row), .val (eI n), .val (eI k_1), .val ((eT eI) areas), .un, .un, .un, .un, .un, .un, .un, .un, .un, .un, .un, .un, .un, .un, .un, .un], rfl, rfl, (v_call (a_cons (v_sub (v_mod (v_int (v_row rfl (v_add rfl rfl) (h77 k_1 h4).1)) rfl (by decide)) rfl) (a_cons (v_add rfl (v_mod (v_div (v_int (v_row rfl rfl ⟨by decide, by decide⟩)) (v_ixT eI (v_T eI (t_cons eI rfl (t_cons eI rfl (t_cons eI rfl (t_cons eI rfl (t_nil eI)))))) rfl (h77 k_1 h4).2.1) (h77 k_1 h4).2.2.1) rfl (by decide))) a_nil)) (h__law_low (((rg row ((5 : Int) + k_1)) % (25 : Int)) - (12 : Int)) ((1 : Int) + (((rg row (9 : Int)) / (ix [(1 : Int), (2 : Int), (4 : Int), (8 : Int)] k_1)) % (2 : Int))) (h77 k_1 h4).2.2.2))⟩)))) rfl ?_
  refine wp_seq ?_
  obtain ⟨deeds, h6⟩ : ∃ deeds : (List (Int × Int)), deeds = ([] : List (Int × Int)) := ⟨_, rfl⟩
  have hD := hD deeds h6
  refine wp_own (v := (eL (p2 eI eI)) deeds) (ρ' := [.val script, .val (eR row), .val (eI n), .un, .val ((eT eI) areas), .val ((eT qE) levels), .own ((eL (p2 eI eI)) deeds), .un, .un, .un, .un, .un, .un, .un, .un, .un, .un, .un, .un, .un, .un]) (by rw [h6]; exact (v_L (p2 eI eI) (t_nil (p2 eI eI)))) rfl ?_
  refine wp_seq ?_
  obtain ⟨h75, hD⟩ := hD
  refine wp_for (σ := (List (Int × Int))) eI (fun (s : (List (Int × Int))) ρ' => ∃ (j j_1 : Slot), ρ' = [.val script, .val (eR row), .val (eI n), j, .val ((eT eI) areas), .val ((eT qE) levels), .own ((eL (p2 eI eI)) s), j_1, .un, .un, .un, .un, .un, .un, .un, .un, .un, .un, .un, .un, .un]) (l_rng1 (v_mod (v_int (v_row rfl rfl ⟨by decide, by decide⟩)) rfl (by decide)) h75) hD ⟨_, _, rfl⟩ ?_ ?_
  · rintro k_2 s _ N hB ⟨j, j_1, rfl⟩
    obtain ⟨deeds_1, rfl⟩ : ∃ x, x = s := ⟨_, rfl⟩
    have hD := hB deeds_1 rfl
    refine ⟨[.val script, .val (eR row), .val (eI n), .val (eI k_2), .val ((eT eI) areas), .val ((eT qE) levels), .own ((eL (p2 eI eI)) deeds_1), j_1, .un, .un, .un, .un, .un, .un, .un, .un, .un, .un, .un, .un, .un], rfl, ?_⟩
    refine wp_seq ?_
    obtain ⟨h13, h14, hD⟩ := hD
    obtain ⟨a, h7⟩ : ∃ a : Int, a = ((rg row ((11 : Int) + ((2 : Int) * k_2))) % (n + (1 : Int))) := ⟨_, rfl⟩
    have hD := hD a h7
    refine wp_asg (v := eI a) (ρ' := [.val script, .val (eR row), .val (eI n), .val (eI k_2), .val ((eT eI) areas), .val ((eT qE) levels), .own ((eL (p2 eI eI)) deeds_1), .val (eI a), .un, .un, .un, .un, .un, .un, .un, .un, .un, .un, .un, .un, .un]) (by rw [h7]; exact (v_mod (v_int (v_row rfl (v_add rfl (v_mulK rfl rfl (.inl (by decide)))) h13)) (v_add rfl rfl) h14)) rfl ?_
    obtain ⟨h9, h10, h11, h12, hD⟩ := hD
    obtain ⟨deeds_2, h8⟩ : ∃ deeds_2 : (List (Int × Int)), deeds_2 = (deeds_1 ++ [(a, (((a + (1 : Int)) + ((rg row ((12 : Int) + ((2 : Int) * k_2))) % n)) % (n + (1 : Int))))]) := ⟨_, rfl⟩
    have hD := hD deeds_2 h8
    refine wp_app (p2 eI eI) (l := deeds_1) (x := (a, (((a + (1 : Int)) + ((rg row ((12 : Int) + ((2 : Int) * k_2))) % n)) % (n + (1 : Int))))) (ρ' := [.val script, .val (eR row), .val (eI n), .val (eI k_2), .val ((eT eI) areas), .val ((eT qE) levels), .own ((eL (p2 eI eI)) deeds_2), .val (eI a), .un, .un, .un, .un, .un, .un, .un, .un, .un, .un, .un, .un, .un]) (v_P2 eI eI (a_cons rfl (a_cons (v_mod (v_int (v_add (v_add rfl rfl) (v_mod (v_int (v_row rfl (v_add rfl (v_mulK rfl rfl (.inl (by decide)))) h9)) rfl h10))) (v_add rfl rfl) h11) a_nil))) rfl h12 (by rw [h8]; rfl) ?_
    exact ⟨_, hD, _, _, rfl⟩
  · rintro s _ hK ⟨j, j_1, rfl⟩
    obtain ⟨deeds_3, rfl⟩ : ∃ x, x = s := ⟨_, rfl⟩
    have hD := hK deeds_3 rfl
    refine wp_seq ?_
    refine wp_asg (v := (eT (p2 eI eI)) deeds_3) (ρ' := [.val script, .val (eR row), .val (eI n), j, .val ((eT eI) areas), .val ((eT qE) levels), .val ((eT (p2 eI eI)) deeds_3), j_1, .un, .un, .un, .un, .un, .un, .un, .un, .un, .un, .un, .un, .un]) (v_tupL (p2 eI eI) rfl) rfl ?_
    refine wp_seq ?_
    refine wp_fzV (v := (eT (p2 eI eI)) deeds_3) rfl ?_
    refine wp_seq ?_
    obtain ⟨h74, hD⟩ := hD
    obtain ⟨due, h15⟩ : ∃ due : ((List Rat) × Rat), due = (F__law_run areas levels deeds_3) := ⟨_, rfl⟩
    have hD := hD due h15
    refine wp_asg (v := (p2 (eT qE) qE) due) (ρ' := [.val script, .val (eR row), .val (eI n), j, .val ((eT eI) areas), .val ((eT qE) levels), .val ((eT (p2 eI eI)) deeds_3), j_1, .val ((p2 (eT qE) qE) due), .un, .un, .un, .un, .un, .un, .un, .un, .un, .un, .un, .un]) (by rw [h15]; exact (v_call (a_cons rfl (a_cons rfl (a_cons rfl a_nil))) (h__law_run areas levels deeds_3 h74))) rfl ?_
    refine wp_seq ?_
    refine wp_fzV (v := (eT (p2 eI eI)) deeds_3) rfl ?_
    refine wp_seq ?_
    obtain ⟨h71, h72, h73, hD⟩ := hD
    refine wp_ifF (cF_not (cT_tru (v_like h__law_like (e := (p2 (eT qE) qE)) (v_call (a_cons rfl (a_cons rfl (a_cons rfl a_nil))) (h__law_told areas levels deeds_3 h71)) rfl h72 h73))) ?_
    refine wp_nil ?_
    refine wp_seq ?_
    obtain ⟨h70, hD⟩ := hD
    obtain ⟨twice, h17⟩ : ∃ twice : (List (Int × Int)), twice = ([] : List (Int × Int)) := ⟨_, rfl⟩
    have hD := hD twice h17
    obtain ⟨turned, h18⟩ : ∃ turned : (List (Int × Int)), turned = (List.map (fun (z : (Int × Int)) => (z.2, z.1)) deeds_3) := ⟨_, rfl⟩
    have hD := hD turned h18
    refine wp_par (l := [(true, (eL (p2 eI eI)) twice), (false, (eT (p2 eI eI)) turned)]) (ρ' := [.val script, .val (eR row), .val (eI n), j, .val ((eT eI) areas), .val ((eT qE) levels), .val ((eT (p2 eI eI)) deeds_3), j_1, .val ((p2 (eT qE) qE) due), .own ((eL (p2 eI eI)) twice), .val ((eT (p2 eI eI)) turned), .un, .un, .un, .un, .un, .un, .un, .un, .un, .un]) (m_own (by rw [h17]; exact (v_L (p2 eI eI) (t_nil (p2 eI eI)))) (m_val (by rw [h18]; exact (v_tupL (p2 eI eI) (v_map (p2 eI eI) (p2 eI eI) (fun (z : (Int × Int)) => (z.2, z.1)) (l_T (p2 eI eI) rfl) h70 (fun z h16 => ⟨[.val script, .val (eR row), .val (eI n), j, .val ((eT eI) areas), .val ((eT qE) levels), .val ((eT (p2 eI eI)) deeds_3), .val (eI z.1), .val ((p2 (eT qE) qE) due), .un, .un, .un, .un, .un, .un, .un, .un, .un, .un, .un, .val (eI z.2)], rfl, rfl, (v_P2 eI eI (a_cons rfl (a_cons rfl a_nil)))⟩)))) m_nil)) rfl rfl ?_
    refine wp_seq ?_
    refine wp_fzV (v := (eT (p2 eI eI)) deeds_3) rfl ?_
    refine wp_seq ?_
    refine wp_for (σ := (List (Int × Int))) (p2 eI eI) (fun (s : (List (Int × Int))) ρ' => ∃ (j_2 : Slot), ρ' = [.val script, .val (eR row), .val (eI n), j, .val ((eT eI) areas), .val ((eT qE) levels), .val ((eT (p2 eI eI)) deeds_3), j_1, .val ((p2 (eT qE) qE) due), .own ((eL (p2 eI eI)) s), .val ((eT (p2 eI eI)) turned), j_2, .un, .un, .un, .un, .un, .un, .un, .un, .un]) (l_T (p2 eI eI) rfl) hD ⟨_, rfl⟩ ?_ ?_
    · rintro deed s _ N hB ⟨j_2, rfl⟩
      obtain ⟨twice_1, rfl⟩ : ∃ x, x = s := ⟨_, rfl⟩
      have hD := hB twice_1 rfl
      refine ⟨[.val script, .val (eR row), .val (eI n), j, .val ((eT eI) areas), .val ((eT qE) levels), .val ((eT (p2 eI eI)) deeds_3), j_1, .val ((p2 (eT qE) qE) due), .own ((eL (p2 eI eI)) twice_1), .val ((eT (p2 eI eI)) turned), .val ((p2 eI eI) deed), .un, .un, .un, .un, .un, .un, .un, .un, .un], rfl, ?_⟩
      obtain ⟨h20, hD⟩ := hD
      obtain ⟨twice_2, h19⟩ : ∃ twice_2 : (List (Int × Int)), twice_2 = (twice_1 ++ [deed, (deed.2, deed.1)]) := ⟨_, rfl⟩
      have hD := hD twice_2 h19
      refine wp_ext (p2 eI eI) (l := twice_1) (m := [deed, (deed.2, deed.1)]) (ρ' := [.val script, .val (eR row), .val (eI n), j, .val ((eT eI) areas), .val ((eT qE) levels), .val ((eT (p2 eI eI)) deeds_3), j_1, .val ((p2 (eT qE) qE) due), .own ((eL (p2 eI eI)) twice_2), .val ((eT (p2 eI eI)) turned), .val ((p2 eI eI) deed), .un, .un, .un, .un, .un, .un, .un, .un, .un]) (v_L (p2 eI eI) (t_cons (p2 eI eI) rfl (t_cons (p2 eI eI) (v_P2 eI eI (a_cons (i2_1 eI eI rfl) (a_cons (i2_0 eI eI rfl) a_nil))) (t_nil (p2 eI eI))))) rfl h20 (by rw [h19]; rfl) ?_
      exact ⟨_, hD, _, rfl⟩
    · rintro s _ hK ⟨j_2, rfl⟩
      obtain ⟨twice_3, rfl⟩ : ∃ x, x = s := ⟨_, rfl⟩
      have hD := hK twice_3 rfl
      refine wp_seq ?_
      obtain ⟨h66, h67, h68, h69, hD⟩ := hD
      refine wp_ifF (cF_not (cT_tru (v_like h__law_like (e := (p2 (p2 (eT qE) qE) (p2 (eT qE) qE))) (v_P2 (p2 (eT qE) qE) (p2 (eT qE) qE) (a_cons (v_call (a_cons rfl (a_cons rfl (a_cons (v_tupL (p2 eI eI) rfl) a_nil))) (h__law_told areas levels twice_3 h66)) (a_cons (v_call (a_cons rfl (a_cons rfl (a_cons rfl a_nil))) (h__law_told areas levels turned h67)) a_nil))) (v_P2 (p2 (eT qE) qE) (p2 (eT qE) qE) (a_cons rfl (a_cons rfl a_nil))) h68 h69))) ?_
      refine wp_nil ?_
      refine wp_seq ?_
      obtain ⟨h65, hD⟩ := hD
      obtain ⟨inner, h23⟩ : ∃ inner : (List (Int × Int)), inner = (List.filter (fun (deed_1 : (Int × Int)) => decide (n ∉ [deed_1.1, deed_1.2])) deeds_3) := ⟨_, rfl⟩
      have hD := hD inner h23
      refine wp_asg (v := (eT (p2 eI eI)) inner) (ρ' := [.val script, .val (eR row), .val (eI n), j, .val ((eT eI) areas), .val ((eT qE) levels), .val ((eT (p2 eI eI)) deeds_3), j_1, .val ((p2 (eT qE) qE) due), .own ((eL (p2 eI eI)) twice_3), .val ((eT (p2 eI eI)) turned), j_2, .val ((eT (p2 eI eI)) inner), .un, .un, .un, .un, .un, .un, .un, .un]) (by rw [h23]; exact (v_tupL (p2 eI eI) (map_id' (v_flt (p2 eI eI) (p2 eI eI) (fun (deed_1 : (Int × Int)) => n ∉ [deed_1.1, deed_1.2]) (fun (deed_1 : (Int × Int)) => deed_1) (l_T (p2 eI eI) rfl) h65 (fun deed_1 h21 => ⟨[.val script, .val (eR row), .val (eI n), j, .val ((eT eI) areas), .val ((eT qE) levels), .val ((eT (p2 eI eI)) deeds_3), j_1, .val ((p2 (eT qE) qE) due), .own ((eL (p2 eI eI)) twice_3), .val ((eT (p2 eI eI)) turned), .val ((p2 eI eI) deed_1), .un, .un, .un, .un, .un, .un, .un, .un, .un], rfl, (c_B (v_ninT eI rfl (co_2T eI rfl))), (fun h22 => rfl)⟩))))) rfl ?_
      refine wp_seq ?_
      obtain ⟨h63, h64, hD⟩ := hD
      obtain ⟨kept, h25⟩ : ∃ kept : (List Rat), kept = (V_level_run areas levels (List.map (fun (z_1 : (Int × Int)) => (c_even, z_1.1, z_1.2)) inner)) := ⟨_, rfl⟩
      have hD := hD kept h25
      refine wp_asg (v := (eT qE) kept) (ρ' := [.val script, .val (eR row), .val (eI n), j, .val ((eT eI) areas), .val ((eT qE) levels), .val ((eT (p2 eI eI)) deeds_3), j_1, .val ((p2 (eT qE) qE) due), .own ((eL (p2 eI eI)) twice_3), .val ((eT (p2 eI eI)) turned), j_2, .val ((eT (p2 eI eI)) inner), .val ((eT qE) kept), .un, .un, .un, .un, .un, .un, .un]) (by rw [h25]; exact (v_call (a_cons rfl (a_cons rfl (a_cons (v_tupL (p3 eS eI eI) (v_map (p2 eI eI) (p3 eS eI eI) (fun (z_1 : (Int × Int)) => (c_even, z_1.1, z_1.2)) (l_T (p2 eI eI) rfl) h63 (fun z_1 h24 => ⟨[.val script, .val (eR row), .val (eI n), j, .val ((eT eI) areas), .val ((eT qE) levels), .val ((eT (p2 eI eI)) deeds_3), .val (eI z_1.1), .val ((p2 (eT qE) qE) due), .own ((eL (p2 eI eI)) twice_3), .val ((eT (p2 eI eI)) turned), j_2, .val ((eT (p2 eI eI)) inner), .un, .un, .un, .un, .un, .un, .un, .val (eI z_1.2)], rfl, rfl, (v_P3 eS eI eI (a_cons rfl (a_cons rfl (a_cons rfl a_nil))))⟩))) a_nil))) (h_level_run areas levels (List.map (fun (z_1 : (Int × Int)) => (c_even, z_1.1, z_1.2)) inner) h64))) rfl ?_
      refine wp_seq ?_
      obtain ⟨h59, h60, h61, h62, hD⟩ := hD
      refine wp_ifF (cF_not (cT_tru (v_like h__law_like (e := qE) (v_call (a_cons rfl (a_cons rfl a_nil)) (h__law_whole areas kept h59)) (v_call (a_cons rfl (a_cons rfl a_nil)) (h__law_whole areas levels h60)) h61 h62))) ?_
      refine wp_nil ?_
      refine wp_seq ?_
      obtain ⟨gates, h26⟩ : ∃ gates : (List (Int × Int)), gates = ([] : List (Int × Int)) := ⟨_, rfl⟩
      have hD := hD gates h26
      refine wp_own (v := (eL (p2 eI eI)) gates) (ρ' := [.val script, .val (eR row), .val (eI n), j, .val ((eT eI) areas), .val ((eT qE) levels), .val ((eT (p2 eI eI)) deeds_3), j_1, .val ((p2 (eT qE) qE) due), .own ((eL (p2 eI eI)) twice_3), .val ((eT (p2 eI eI)) turned), j_2, .val ((eT (p2 eI eI)) inner), .val ((eT qE) kept), .own ((eL (p2 eI eI)) gates), .un, .un, .un, .un, .un, .un]) (by rw [h26]; exact (v_L (p2 eI eI) (t_nil (p2 eI eI)))) rfl ?_
      refine wp_seq ?_
      obtain ⟨h58, hD⟩ := hD
      refine wp_for (σ := (List (Int × Int))) eI (fun (s : (List (Int × Int))) ρ' => ∃ (j_3 : Slot), ρ' = [.val script, .val (eR row), .val (eI n), j, .val ((eT eI) areas), .val ((eT qE) levels), .val ((eT (p2 eI eI)) deeds_3), j_3, .val ((p2 (eT qE) qE) due), .own ((eL (p2 eI eI)) twice_3), .val ((eT (p2 eI eI)) turned), j_2, .val ((eT (p2 eI eI)) inner), .val ((eT qE) kept), .own ((eL (p2 eI eI)) s), .un, .un, .un, .un, .un, .un]) (l_rng1 (v_add rfl rfl) h58) hD ⟨_, rfl⟩ ?_ ?_
      · rintro a_1 s _ N hB ⟨j_3, rfl⟩
        obtain ⟨gates_1, rfl⟩ : ∃ x, x = s := ⟨_, rfl⟩
        have hD := hB gates_1 rfl
        refine ⟨[.val script, .val (eR row), .val (eI n), j, .val ((eT eI) areas), .val ((eT qE) levels), .val ((eT (p2 eI eI)) deeds_3), .val (eI a_1), .val ((p2 (eT qE) qE) due), .own ((eL (p2 eI eI)) twice_3), .val ((eT (p2 eI eI)) turned), j_2, .val ((eT (p2 eI eI)) inner), .val ((eT qE) kept), .own ((eL (p2 eI eI)) gates_1), .un, .un, .un, .un, .un, .un], rfl, ?_⟩
        obtain ⟨h30, h31, hD⟩ := hD
        obtain ⟨gates_2, h29⟩ : ∃ gates_2 : (List (Int × Int)), gates_2 = (gates_1 ++ (List.map (fun (b : Int) => (a_1, b)) (List.filter (fun (b : Int) => decide (a_1 ≠ b)) (Pl.rng 0 (n + (1 : Int)))))) := ⟨_, rfl⟩
        have hD := hD gates_2 h29
        refine wp_ext (p2 eI eI) (l := gates_1) (m := (List.map (fun (b : Int) => (a_1, b)) (List.filter (fun (b : Int) => decide (a_1 ≠ b)) (Pl.rng 0 (n + (1 : Int)))))) (ρ' := [.val script, .val (eR row), .val (eI n), j, .val ((eT eI) areas), .val ((eT qE) levels), .val ((eT (p2 eI eI)) deeds_3), .val (eI a_1), .val ((p2 (eT qE) qE) due), .own ((eL (p2 eI eI)) twice_3), .val ((eT (p2 eI eI)) turned), j_2, .val ((eT (p2 eI eI)) inner), .val ((eT qE) kept), .own ((eL (p2 eI eI)) gates_2), .un, .un, .un, .un, .un, .un]) (v_flt eI (p2 eI eI) (fun (b : Int) => a_1 ≠ b) (fun (b : Int) => (a_1, b)) (l_rng1 (v_add rfl rfl) h30) (rng_len h30) (fun b h27 => ⟨[.val script, .val (eR row), .val (eI n), j, .val ((eT eI) areas), .val ((eT qE) levels), .val ((eT (p2 eI eI)) deeds_3), .val (eI a_1), .val ((p2 (eT qE) qE) due), .own ((eL (p2 eI eI)) twice_3), .val ((eT (p2 eI eI)) turned), j_2, .val ((eT (p2 eI eI)) inner), .val ((eT qE) kept), .own ((eL (p2 eI eI)) gates_1), .un, .un, .un, .un, .un, .val (eI b)], rfl, (c_B (v_neI rfl rfl)), (fun h28 => (v_P2 eI eI (a_cons rfl (a_cons rfl a_nil))))⟩)) rfl h31 (by rw [h29]; rfl) ?_
        exact ⟨_, hD, _, rfl⟩
      · rintro s _ hK ⟨j_3, rfl⟩
        obtain ⟨gates_3, rfl⟩ : ∃ x, x = s := ⟨_, rfl⟩
        have hD := hK gates_3 rfl
        refine wp_seq ?_
        refine wp_for (σ := Unit) (eT qE) (fun (s : Unit) ρ' => ∃ (j_4 j_5 : Slot), ρ' = [.val script, .val (eR row), .val (eI n), j, .val ((eT eI) areas), .val ((eT qE) levels), .val ((eT (p2 eI eI)) deeds_3), j_3, .val ((p2 (eT qE) qE) due), .own ((eL (p2 eI eI)) twice_3), .val ((eT (p2 eI eI)) turned), j_2, .val ((eT (p2 eI eI)) inner), .val ((eT qE) kept), .own ((eL (p2 eI eI)) gates_3), j_4, j_5, .un, .un, .un, .un]) (l_T (eT qE) (v_T (eT qE) (t_cons (eT qE) rfl (t_cons (eT qE) (i2_0 (eT qE) qE rfl) (t_nil (eT qE)))))) hD ⟨_, _, rfl⟩ ?_ ?_
        · rintro state s _ N hB ⟨j_4, j_5, rfl⟩
          have hD := hB
          refine ⟨[.val script, .val (eR row), .val (eI n), j, .val ((eT eI) areas), .val ((eT qE) levels), .val ((eT (p2 eI eI)) deeds_3), j_3, .val ((p2 (eT qE) qE) due), .own ((eL (p2 eI eI)) twice_3), .val ((eT (p2 eI eI)) turned), j_2, .val ((eT (p2 eI eI)) inner), .val ((eT qE) kept), .own ((eL (p2 eI eI)) gates_3), .val ((eT qE) state), j_5, .un, .un, .un, .un], rfl, ?_⟩
          refine wp_seq ?_
          obtain ⟨h41, h42, hD⟩ := hD
          obtain ⟨free, h34⟩ : ∃ free : (List Int), free = (List.filter (fun (k_3 : Int) => decide ((V__law_level state (ix gates_3 k_3).1) = (V__law_level state (ix gates_3 k_3).2))) (Pl.rng 0 (gates_3.length : Int))) := ⟨_, rfl⟩
          have hD := hD free h34
          refine wp_asg (v := (eL eI) free) (ρ' := [.val script, .val (eR row), .val (eI n), j, .val ((eT eI) areas), .val ((eT qE) levels), .val ((eT (p2 eI eI)) deeds_3), j_3, .val ((p2 (eT qE) qE) due), .own ((eL (p2 eI eI)) twice_3), .val ((eT (p2 eI eI)) turned), j_2, .val ((eT (p2 eI eI)) inner), .val ((eT qE) kept), .own ((eL (p2 eI eI)) gates_3), .val ((eT qE) state), .val ((eL eI) free), .un, .un, .un, .un]) (by rw [h34]; exact (map_id' (v_flt eI eI (fun (k_3 : Int) => (V__law_level state (ix gates_3 k_3).1) = (V__law_level state (ix gates_3 k_3).2)) (fun (k_3 : Int) => k_3) (l_rng1 (v_lenL (p2 eI eI) rfl) h41) (rng_len h41) (fun k_3 h32 => ⟨[.val script, .val (eR row), .val (eI n), .val (eI k_3), .val ((eT eI) areas), .val ((eT qE) levels), .val ((eT (p2 eI eI)) deeds_3), j_3, .val ((p2 (eT qE) qE) due), .own ((eL (p2 eI eI)) twice_3), .val ((eT (p2 eI eI)) turned), j_2, .val ((eT (p2 eI eI)) inner), .val ((eT qE) kept), .own ((eL (p2 eI eI)) gates_3), .val ((eT qE) state), j_5, .un, .un, .un, .un], rfl, (c_B (v_eq qE (v_call (a_cons rfl (a_cons (i2_0 eI eI (v_ixL (p2 eI eI) rfl rfl (h42 k_3 h32).1)) a_nil)) (h__law_level state (ix gates_3 k_3).1 (h42 k_3 h32).2.1)) (v_call (a_cons rfl (a_cons (i2_1 eI eI (v_ixL (p2 eI eI) rfl rfl (h42 k_3 h32).1)) a_nil)) (h__law_level state (ix gates_3 k_3).2 (h42 k_3 h32).2.2)))), (fun h33 => rfl)⟩)))) rfl ?_
          refine wp_seq ?_
          obtain ⟨h38, h39, h40, hD⟩ := hD
          refine wp_ifF (cF_not (cT_tru (v_like h__law_like (e := (eT eI)) (v_call (a_cons rfl (a_cons (v_tupL (p2 eI eI) rfl) a_nil)) (h_gates_free state gates_3 h38)) (v_tupL eI rfl) h39 h40))) ?_
          refine wp_nil ?_
          obtain ⟨h36, h37, hD⟩ := hD
          refine wp_ifF (cF_not (cT_tru (posall (v_map eI eBo (fun (k_4 : Int) => true) (l_rng1 (v_lenL (p2 eI eI) rfl) h36) (rng_len h36) (fun k_4 h35 => ⟨[.val script, .val (eR row), .val (eI n), .val (eI k_4), .val ((eT eI) areas), .val ((eT qE) levels), .val ((eT (p2 eI eI)) deeds_3), j_3, .val ((p2 (eT qE) qE) due), .own ((eL (p2 eI eI)) twice_3), .val ((eT (p2 eI eI)) turned), j_2, .val ((eT (p2 eI eI)) inner), .val ((eT qE) kept), .own ((eL (p2 eI eI)) gates_3), .val ((eT qE) state), .val ((eL eI) free), .un, .un, .un, .un], rfl, rfl, (v_like h__law_like (e := eBo) (v_call (a_cons rfl (a_cons (v_ixL (p2 eI eI) rfl rfl (h37 k_4 h35).1) a_nil)) (h_may_open state (ix gates_3 k_4) (h37 k_4 h35).2.1)) (v_inL eI rfl rfl) (h37 k_4 h35).2.2.1 (h37 k_4 h35).2.2.2)⟩))))) ?_
          refine wp_nil ?_
          exact ⟨_, hD, _, _, rfl⟩
        · rintro s _ hK ⟨j_4, j_5, rfl⟩
          have hD := hK
          refine wp_seq ?_
          obtain ⟨h57, hD⟩ := hD
          refine wp_ifF (cF_and (c_B (v_gtI (v_lenT (p2 eI eI) rfl) rfl)) (fun h43 => (cF_B (v_e2 (eT_of (v_bd (v_call (a_cons (i2_0 (eT qE) qE rfl) (a_cons (v_ixT (p2 eI eI) rfl (v_sub (v_lenT (p2 eI eI) rfl) rfl) (h57 h43).1) a_nil)) (h_may_open due.1 (ix deeds_3 ((deeds_3.length : Int) - (1 : Int))) (h57 h43).2.1))) (h57 h43).2.2) (rfl : eK _ _ = _) |>.trans rfl)))) ?_
          refine wp_nil ?_
          refine wp_seq ?_
          obtain ⟨k_5, h44⟩ : ∃ k_5 : Int, k_5 = ((1 : Int) + ((rg row (24 : Int)) % (4 : Int))) := ⟨_, rfl⟩
          have hD := hD k_5 h44
          refine wp_asg (v := eI k_5) (ρ' := [.val script, .val (eR row), .val (eI n), .val (eI k_5), .val ((eT eI) areas), .val ((eT qE) levels), .val ((eT (p2 eI eI)) deeds_3), j_3, .val ((p2 (eT qE) qE) due), .own ((eL (p2 eI eI)) twice_3), .val ((eT (p2 eI eI)) turned), j_2, .val ((eT (p2 eI eI)) inner), .val ((eT qE) kept), .own ((eL (p2 eI eI)) gates_3), j_4, j_5, .un, .un, .un, .un]) (by rw [h44]; exact (v_add rfl (v_mod (v_int (v_row rfl rfl ⟨by decide, by decide⟩)) rfl (by decide)))) rfl ?_
          refine wp_seq ?_
          obtain ⟨h55, h56, hD⟩ := hD
          obtain ⟨wide, h46⟩ : ∃ wide : (List Rat), wide = (List.map (fun (level : Rat) => (qMul level ((k_5 : Int) : Rat))) levels) := ⟨_, rfl⟩
          have hD := hD wide h46
          refine wp_asg (v := (eT qE) wide) (ρ' := [.val script, .val (eR row), .val (eI n), .val (eI k_5), .val ((eT eI) areas), .val ((eT qE) levels), .val ((eT (p2 eI eI)) deeds_3), j_3, .val ((p2 (eT qE) qE) due), .own ((eL (p2 eI eI)) twice_3), .val ((eT (p2 eI eI)) turned), j_2, .val ((eT (p2 eI eI)) inner), .val ((eT qE) kept), .own ((eL (p2 eI eI)) gates_3), j_4, j_5, .val ((eT qE) wide), .un, .un, .un]) (by rw [h46]; exact (v_tupL qE (v_map qE qE (fun (level : Rat) => (qMul level ((k_5 : Int) : Rat))) (l_T qE rfl) h55 (fun level h45 => ⟨[.val script, .val (eR row), .val (eI n), .val (eI k_5), .val ((eT eI) areas), .val ((eT qE) levels), .val ((eT (p2 eI eI)) deeds_3), j_3, .val ((p2 (eT qE) qE) due), .own ((eL (p2 eI eI)) twice_3), .val ((eT (p2 eI eI)) turned), j_2, .val ((eT (p2 eI eI)) inner), .val ((eT qE) kept), .own ((eL (p2 eI eI)) gates_3), j_4, j_5, .un, .un, .val (qE level), .un], rfl, rfl, (v_call (a_cons rfl (a_cons (v_Q1 rfl) a_nil)) (h__law_times level ((k_5 : Int) : Rat) (h56 level h45)))⟩)))) rfl ?_
          refine wp_seq ?_
          obtain ⟨h52, h53, h54, hD⟩ := hD
          obtain ⟨far, h48⟩ : ∃ far : ((List Rat) × Rat), far = ((List.map (fun (level_1 : Rat) => (qMul level_1 ((k_5 : Int) : Rat))) due.1), (qMul due.2 ((k_5 : Int) : Rat))) := ⟨_, rfl⟩
          have hD := hD far h48
          refine wp_asg (v := (p2 (eT qE) qE) far) (ρ' := [.val script, .val (eR row), .val (eI n), .val (eI k_5), .val ((eT eI) areas), .val ((eT qE) levels), .val ((eT (p2 eI eI)) deeds_3), j_3, .val ((p2 (eT qE) qE) due), .own ((eL (p2 eI eI)) twice_3), .val ((eT (p2 eI eI)) turned), j_2, .val ((eT (p2 eI eI)) inner), .val ((eT qE) kept), .own ((eL (p2 eI eI)) gates_3), j_4, j_5, .val ((eT qE) wide), .val ((p2 (eT qE) qE) far), .un, .un]) (by rw [h48]; exact (v_P2 (eT qE) qE (a_cons (v_tupL qE (v_map qE qE (fun (level_1 : Rat) => (qMul level_1 ((k_5 : Int) : Rat))) (l_T qE (i2_0 (eT qE) qE rfl)) h52 (fun level_1 h47 => ⟨[.val script, .val (eR row), .val (eI n), .val (eI k_5), .val ((eT eI) areas), .val ((eT qE) levels), .val ((eT (p2 eI eI)) deeds_3), j_3, .val ((p2 (eT qE) qE) due), .own ((eL (p2 eI eI)) twice_3), .val ((eT (p2 eI eI)) turned), j_2, .val ((eT (p2 eI eI)) inner), .val ((eT qE) kept), .own ((eL (p2 eI eI)) gates_3), j_4, j_5, .val ((eT qE) wide), .un, .val (qE level_1), .un], rfl, rfl, (v_call (a_cons rfl (a_cons (v_Q1 rfl) a_nil)) (h__law_times level_1 ((k_5 : Int) : Rat) (h53 level_1 h47)))⟩))) (a_cons (v_call (a_cons (i2_1 (eT qE) qE rfl) (a_cons (v_Q1 rfl) a_nil)) (h__law_times due.2 ((k_5 : Int) : Rat) h54)) a_nil)))) rfl ?_
          refine wp_seq ?_
          refine wp_fzV (v := (eT (p2 eI eI)) deeds_3) rfl ?_
          refine wp_seq ?_
          obtain ⟨h49, h50, h51⟩ := hD
          exact wp_ret (v_like h__law_like (e := (p2 (eT qE) qE)) (v_call (a_cons rfl (a_cons rfl (a_cons rfl a_nil))) (h__law_told areas wide deeds_3 h49)) rfl h50 h51) rfl
end Wk

set_option Elab.async false
set_option linter.all false
set_option maxRecDepth 100000
set_option maxHeartbeats 4000000
set_option autoImplicit false
namespace Wk
open PySem PySem.Spec PyProof.Rows L2 Pl Cm Rt Tv
theorem row_eq : f__law_row = f_row := rfl
theorem like_eq : ∀ d, g__law_like d = g_like d
  | 0 => rfl
  | d + 1 => by
    show fnDef 3 (b__law_like (g__law_like d) f__law_is_int) = fnDef 3 (b_like (g_like d) f_isint)
    rw [like_eq d]
    rfl
theorem like_ok : SpLike f__law_like := by
  rw [show f__law_like = g_like 8 from like_eq 8]
  exact like_spec
/-! ratios -/
theorem low_ok : SpLow f_lowest := st_low st_div
theorem llow_ok : SpLow f__law_low := st_llow
theorem q_lowest : Sp_lowest f_lowest := fun a b h => low_ok a b h.1 h.2
theorem q_plus : Sp_plus f_plus := fun p q h => st_sum low_ok p q h.1 h.2
theorem q_times : Sp_times f_times := fun p q h => st_mul low_ok p q h.1 h.2
theorem q_parted : Sp_parted f_parted := fun p q h => st_quo low_ok p q h.1 h.2.1 h.2.2
theorem q__law_low : Sp__law_low f__law_low := fun a b h => llow_ok a b h.1 h.2
theorem q__law_sum : Sp__law_sum f__law_sum := fun p q h => st_sum llow_ok p q h.1 h.2
theorem q__law_times : Sp__law_times f__law_times := fun p q h => st_mul llow_ok p q h.1 h.2
theorem Pt.sq {D M : Nat} {q : Rat} (hD : 0 < D) (h : Pt D M q) (hb : M * D < 2 ^ 63) (hd : D < 2 ^ 63) : Sq q := by
  obtain ⟨z, rfl, hz⟩ := h
  obtain ⟨l1, l2⟩ := low_eq (a := z) (b := (D : Int)) (by omega)
  have gp : 0 < Nat.gcd z.natAbs (D : Int).natAbs := Nat.gcd_pos_of_pos_right _ (by omega)
  generalize Nat.gcd z.natAbs (D : Int).natAbs = g at *
  constructor
  · rw [l1]
    have := Int.natAbs_ediv_le_natAbs z (g : Int)
    omega
  · have := Int.ediv_le_self (g : Int) (show (0 : Int) ≤ (D : Int) by omega)
    omega
theorem Pt.add {D M N : Nat} {p q : Rat} (hD : 0 < D) (h : Pt D M p) (k : Pt D N q) : Pt D (M + N) (p + q) := by
  obtain ⟨z, rfl, hz⟩ := h
  obtain ⟨y, rfl, hy⟩ := k
  have hd : (D : Int) ≠ 0 := by omega
  refine ⟨z + y, ?_, by rw [Nat.add_mul]; omega⟩
  rw [Rat.divInt_add_divInt _ _ hd hd, Rat.divInt_eq_divInt_iff (Int.mul_ne_zero hd hd) hd]
  grind
theorem Pt.neg {D M : Nat} {p : Rat} (h : Pt D M p) : Pt D M (-p) := by
  obtain ⟨z, rfl, hz⟩ := h
  exact ⟨-z, Rat.neg_divInt z D, by omega⟩
theorem Pt.mono {D E M N : Nat} {p : Rat} (hE : 0 < E) (h : Pt D M p) (hd : D ∣ E) (hm : M ≤ N) : Pt E N p := by
  obtain ⟨z, rfl, hz⟩ := h
  obtain ⟨c, rfl⟩ := hd
  have hD : 0 < D := Nat.pos_of_ne_zero fun h => by rw [h, Nat.zero_mul] at hE; omega
  have hc : 0 < c := Nat.pos_of_ne_zero fun h => by rw [h, Nat.mul_zero] at hE; omega
  refine ⟨z * c, ?_, ?_⟩
  · rw [Rat.divInt_eq_divInt_iff (by omega) (by omega)]
    grind
  · rw [Int.natAbs_mul, Int.natAbs_natCast, ← Nat.mul_assoc]
    exact Nat.mul_le_mul_right c (Nat.le_trans hz (Nat.mul_le_mul_right D hm))
theorem intR (a : Int) : (a : Rat) = Rat.divInt a 1 := (Rat.num_divInt_den (a : Rat)).symm
theorem Pt.muli {D M c : Nat} {p : Rat} (h : Pt D M p) (a : Int) (ha : a.natAbs ≤ c) : Pt D (M * c) (p * (a : Rat)) := by
  obtain ⟨z, rfl, hz⟩ := h
  refine ⟨z * a, ?_, ?_⟩
  · rw [intR a, Rat.divInt_mul_divInt, Int.mul_one]
  · rw [Int.natAbs_mul]
    calc z.natAbs * a.natAbs ≤ M * D * c := Nat.mul_le_mul hz ha
      _ = M * c * D := by rw [Nat.mul_assoc, Nat.mul_comm D, ← Nat.mul_assoc]
/-- the average of two, by weights -/
theorem Pt.avg {D M : Nat} {p q : Rat} (hD : 0 < D) (h : Pt D M p) (k : Pt D M q) (a b : Nat) (hab : 0 < a + b) : Pt (D * (a + b)) M ((p * ((a : Int) : Rat) + q * ((b : Int) : Rat)) / (((a : Int) + (b : Int) : Int) : Rat)) := by
  obtain ⟨z, rfl, hz⟩ := h
  obtain ⟨y, rfl, hy⟩ := k
  refine ⟨z * a + y * b, ?_, ?_⟩
  · have hd : (D : Int) ≠ 0 := by omega
    have hs : ((a : Int) + (b : Int)) ≠ 0 := by omega
    rw [Rat.div_def, intR a, intR b, intR ((a : Int) + b), Rat.divInt_mul_divInt, Rat.divInt_mul_divInt, Int.mul_one, Rat.divInt_add_divInt _ _ hd hd, Rat.inv_divInt, Rat.divInt_mul_divInt, Rat.divInt_eq_divInt_iff (Int.mul_ne_zero (Int.mul_ne_zero hd hd) hs) (by rw [Int.natCast_mul]; exact Int.mul_ne_zero hd (by omega))]
    grind
  · have h1 : (z * a).natAbs ≤ M * D * a := by rw [Int.natAbs_mul, Int.natAbs_natCast]; exact Nat.mul_le_mul_right a hz
    have h2 : (y * b).natAbs ≤ M * D * b := by rw [Int.natAbs_mul, Int.natAbs_natCast]; exact Nat.mul_le_mul_right b hy
    have h3 : M * (D * (a + b)) = M * D * a + M * D * b := by grind
    omega
theorem Pt.zero {D M : Nat} (hD : 0 < D) : Pt D M 0 := ⟨0, by rw [Rat.zero_divInt], Nat.zero_le _⟩
theorem sqI {a : Int} (h : a.natAbs < 2 ^ 63) : Sq (a : Rat) := ⟨h, by show 1 < 2 ^ 63; decide⟩
theorem Pt.int (a : Int) {D c : Nat} (hD : 0 < D) (h : a.natAbs ≤ c) : Pt D c (a : Rat) := Pt.mono (D := 1) hD ⟨a, intR a, by omega⟩ (Nat.one_dvd D) (Nat.le_refl c)
theorem aR_pt {D M : Nat} {q : Rat} (h : Pt D M q) : Pt D M (aR q) := by
  unfold aR
  split
  · exact h.neg
  · exact h
theorem aR_neg (x : Rat) : aR (-x) = aR x := by
  unfold aR
  grind
theorem aR_mul (x : Rat) (a : Int) (h : 0 < a) : aR (x * (a : Rat)) = aR x * (a : Rat) := by
  have ha : (0 : Rat) < (a : Rat) := by exact_mod_cast h
  unfold aR
  by_cases c : x < 0
  · have : x * (a : Rat) < 0 := by
      have := Rat.mul_lt_mul_of_pos_right c ha
      grind
    rw [if_pos c, if_pos this]
    grind
  · have h0 : 0 ≤ x := by grind
    have : ¬ x * (a : Rat) < 0 := by
      have := Rat.mul_nonneg h0 (by grind : (0 : Rat) ≤ (a : Rat))
      grind
    rw [if_neg c, if_neg this]
theorem spec_of {α : Type} {e : α → PV} {o : Option PV} {v : α} (h : ∃ r, o = some (e r) ∧ r = v) : o = some (e v) := by
  obtain ⟨r, h1, rfl⟩ := h
  exact h1
/-! one deed -/
section
variable {A : List Int} {L : List Rat} {a b : Int} {D : Nat}
theorem DdOk.symm (h : DdOk A a b) : DdOk A b a := ⟨h.2.2.1, h.2.2.2.1, h.1, h.2.1, fun e => h.2.2.2.2 e.symm⟩
theorem arB (hA : ArOk A) {p : Int} (h0 : 0 ≤ p) (h1 : p < A.length) : 1 ≤ ix A p ∧ ix A p ≤ 6 := hA.b _ (ix_mem h0 h1)
theorem new_pt (hA : ArOk A) (hD : 0 < D) (hL : LvOk A L D) (hd : DdOk A a b) : ∃ s, 1 ≤ s ∧ s ≤ 12 ∧ Pt (D * s) 48 (F_evened A L a b) := by
  unfold F_evened
  split
  · exact ⟨1, by omega, by omega, Pt.zero (by omega)⟩
  · rename_i c
    obtain ⟨h1, h2, h3, h4, h5⟩ := hd
    have l := hL.n
    have qa := arB hA h1 (by omega)
    have qb := arB hA h3 (by omega)
    have pa := hL.b _ (ix_mem (l := L) h1 (by omega))
    have pb := hL.b _ (ix_mem (l := L) h3 (by omega))
    generalize ix A a = x at *
    generalize ix A b = y at *
    obtain ⟨u, rfl⟩ := Int.eq_ofNat_of_zero_le (show 0 ≤ x by omega)
    obtain ⟨v, rfl⟩ := Int.eq_ofNat_of_zero_le (show 0 ≤ y by omega)
    exact ⟨u + v, by omega, by omega, Pt.avg hD pa pb u v (by omega)⟩
theorem ev_symm : F_evened A L a b = F_evened A L b a := by
  unfold F_evened
  by_cases c : a = A.length ∨ b = A.length
  · rw [if_pos c, if_pos c.symm]
  · rw [if_neg c, if_neg fun h => c h.symm, Int.add_comm (ix A a), Rat.add_comm]
theorem fold_len {A : List Int} (x : Rat) : ∀ (ps : List Int) (L : List Rat), (ps.foldl (fun L (p : Int) => if p < A.length then setI L p x else L) L).length = L.length
  | [], _ => rfl
  | p :: ps, L => by
    rw [List.foldl_cons, fold_len x ps]
    split
    · exact setI_length ..
    · rfl
theorem step_len : (stepL A L a b).length = L.length := fold_len ..
theorem step_ix (hl : L.length = A.length) (hd : DdOk A a b) {p : Int} (h0 : 0 ≤ p) (h1 : p < A.length) : ix (stepL A L a b) p = if p = a ∨ p = b then F_evened A L a b else ix L p := by
  obtain ⟨d1, d2, d3, d4, d5⟩ := hd
  unfold stepL
  simp only [List.foldl_cons, List.foldl_nil]
  by_cases ca : a < A.length <;> by_cases cb : b < A.length <;> simp only [ca, cb, if_true, if_false]
  · rw [ix_setI d3 h0 (by rw [setI_length]; omega), ix_setI d1 h0 (by omega)]
    by_cases e1 : b = p
    · simp [e1]
    · by_cases e2 : a = p
      · simp [e1, e2]
      · rw [if_neg e1, if_neg e2, if_neg (by omega)]
  · rw [ix_setI d1 h0 (by omega)]
    by_cases e2 : a = p
    · simp [e2]
    · rw [if_neg e2, if_neg (by omega)]
  · rw [ix_setI d3 h0 (by omega)]
    by_cases e2 : b = p
    · simp [e2]
    · rw [if_neg e2, if_neg (by omega)]
  · omega
theorem step_map (hl : L.length = A.length) (hd : DdOk A a b) : stepL A L a b = (Pl.rng 0 A.length).map fun p => if p = a ∨ p = b then F_evened A L a b else ix L p := by
  refine ext_ix (by rw [step_len, List.length_map, rlen]; omega) fun i h0 h1 => ?_
  rw [step_len] at h1
  rw [step_ix hl hd h0 (by omega), ix_mrng _ h0 (by omega)]
theorem step_symm (hl : L.length = A.length) (hd : DdOk A a b) : stepL A L b a = stepL A L a b := by
  rw [step_map hl hd, step_map hl hd.symm]
  apply List.map_congr_left
  intro p _
  rw [ev_symm (a := b)]
  by_cases c : p = a ∨ p = b
  · rw [if_pos c, if_pos c.symm]
  · rw [if_neg c, if_neg fun h => c h.symm]
theorem mov_any (hA : ArOk A) (hl : L.length = A.length) (hd : DdOk A a b) (ha : a < A.length) (hb : b < A.length) : aR (F_evened A L a b - ix L a) * ((ix A a : Int) : Rat) = aR (F_evened A L a b - ix L b) * ((ix A b : Int) : Rat) := by
  have qa := arB hA hd.1 ha
  have qb := arB hA hd.2.2.1 hb
  unfold F_evened
  rw [if_neg (by omega)]
  generalize ix L a = x
  generalize ix L b = y
  generalize ix A a = u at *
  generalize ix A b = v at *
  rw [← aR_mul _ _ (by omega), ← aR_mul _ _ (by omega), ← aR_neg]
  congr 1
  have h0 : ((u + v : Int) : Rat) ≠ 0 := fun h => by
    have := Rat.num_eq_zero.2 h
    rw [Rat.num_intCast] at this
    omega
  have h1 : ((u + v : Int) : Rat) = (u : Rat) + (v : Rat) := Rat.intCast_add u v
  rw [h1] at h0 ⊢
  grind
theorem mov_symm (hA : ArOk A) (hl : L.length = A.length) (hd : DdOk A a b) : movR A L b a = movR A L a b := by
  obtain ⟨d1, d2, d3, d4, d5⟩ := id hd
  unfold movR sideOf
  rw [ev_symm (a := b)]
  by_cases ca : a < A.length <;> by_cases cb : b < A.length
  · rw [if_pos ca, if_pos cb]
    exact (mov_any hA hl hd ca cb).symm
  · rw [if_pos ca, if_neg cb]
  · rw [if_pos cb, if_neg ca]
  · omega
/-- told twice -/
theorem ev_again (hA : ArOk A) (hl : L.length = A.length) (hd : DdOk A a b) : F_evened A (stepL A L a b) a b = F_evened A L a b := by
  obtain ⟨d1, d2, d3, d4, d5⟩ := id hd
  by_cases c : a = A.length ∨ b = A.length
  · unfold F_evened
    rw [if_pos c, if_pos c]
  · have qa := arB hA d1 (by omega)
    have qb := arB hA d3 (by omega)
    have e1 := step_ix hl hd d1 (by omega)
    have e2 := step_ix hl hd d3 (by omega)
    rw [if_pos (.inl rfl)] at e1
    rw [if_pos (.inr rfl)] at e2
    generalize F_evened A L a b = v at *
    unfold F_evened
    rw [if_neg c, e1, e2]
    generalize ix A a = x at *
    generalize ix A b = y at *
    have h0 : ((x + y : Int) : Rat) ≠ 0 := fun h => by
      have := Rat.num_eq_zero.2 h
      rw [Rat.num_intCast] at this
      omega
    have h1 : ((x + y : Int) : Rat) = (x : Rat) + (y : Rat) := Rat.intCast_add x y
    rw [h1] at h0 ⊢
    grind
theorem step_again (hA : ArOk A) (hl : L.length = A.length) (hd : DdOk A a b) : stepL A (stepL A L a b) b a = stepL A L a b := by
  have hl2 : (stepL A L a b).length = A.length := by rw [step_len, hl]
  rw [step_symm hl2 hd]
  refine ext_ix (by rw [step_len]) fun i h0 h1 => ?_
  rw [step_len, step_len] at h1
  rw [step_ix hl2 hd h0 (by omega), ev_again hA hl hd, step_ix hl hd h0 (by omega)]
  split <;> rfl
theorem mov_again (hA : ArOk A) (hl : L.length = A.length) (hd : DdOk A a b) : movR A (stepL A L a b) b a = 0 := by
  have hl2 : (stepL A L a b).length = A.length := by rw [step_len, hl]
  rw [mov_symm hA hl2 hd]
  obtain ⟨d1, d2, d3, d4, d5⟩ := id hd
  unfold movR
  rw [ev_again hA hl hd]
  have : ix (stepL A L a b) (sideOf A a b) = F_evened A L a b := by
    rw [step_ix hl hd (by unfold sideOf; split <;> omega) (by unfold sideOf; split <;> omega), if_pos (by unfold sideOf; split <;> simp)]
  rw [this]
  unfold aR
  grind
theorem step_ok (hA : ArOk A) (hD : 0 < D) (hL : LvOk A L D) (hd : DdOk A a b) : ∃ s, 1 ≤ s ∧ s ≤ 12 ∧ LvOk A (stepL A L a b) (D * s) ∧ Pt (D * s) 600 (movR A L a b) := by
  obtain ⟨s, s1, s2, hn⟩ := new_pt hA hD hL hd
  have hs : 0 < D * s := Nat.mul_pos hD (by omega)
  obtain ⟨d1, d2, d3, d4, d5⟩ := id hd
  have l := hL.n
  refine ⟨s, s1, s2, ⟨by rw [step_len, l], fun x hx => ?_⟩, ?_⟩
  · rw [step_map l hd] at hx
    obtain ⟨p, hp, rfl⟩ := List.mem_map.1 hx
    have hp := mrng.1 hp
    split
    · exact hn
    · exact (hL.b _ (ix_mem hp.1 (by omega))).mono hs ⟨s, rfl⟩ (Nat.le_refl _)
  · unfold movR
    have s0 : 0 ≤ sideOf A a b := by unfold sideOf; split <;> omega
    have sl : sideOf A a b < A.length := by unfold sideOf; split <;> omega
    have q := arB hA s0 sl
    have p := (hL.b _ (ix_mem (l := L) s0 (by omega))).mono hs ⟨s, rfl⟩ (Nat.le_refl _)
    rw [Rat.sub_eq_add_neg]
    exact ((aR_pt (hn.add hs p.neg)).muli (c := 6) _ (by omega)).mono hs (Nat.dvd_refl _) (by omega)
end
theorem q_whole : Sp_whole f_whole := t_whole
theorem q_evened : Sp_evened f_evened := fun A L a b h => by
  obtain ⟨hA, hd, D, hD, hD2, hL⟩ := h
  refine spec_of (t_evened q_whole q_plus q_times q_parted A L a b (· = F_evened A L a b) ?_)
  obtain ⟨d1, d2, d3, d4, d5⟩ := id hd
  have l := hL.n
  refine ⟨fun c => ⟨trivial, ?_⟩, fun c => ?_⟩
  · unfold F_evened
    rw [if_pos c]
    rfl
  · have qa := arB hA d1 (by omega)
    have qb := arB hA d3 (by omega)
    have pa := hL.b _ (ix_mem (l := L) d1 (by omega))
    have pb := hL.b _ (ix_mem (l := L) d3 (by omega))
    have ma := pa.muli (ix A a) (c := 6) (by omega)
    have mb := pb.muli (ix A b) (c := 6) (by omega)
    refine ⟨by omega, by omega, trivial, ⟨pa.sq hD (by omega) (by omega), sqI (by omega)⟩, by omega, by omega, trivial, ⟨pb.sq hD (by omega) (by omega), sqI (by omega)⟩, ⟨ma.sq hD (by omega) (by omega), mb.sq hD (by omega) (by omega)⟩, fun both e => ⟨by omega, by omega, trivial, ⟨?_, sqI (by omega), ?_⟩, ?_⟩⟩
    · rw [e]
      exact (ma.add hD mb).sq hD (by omega) (by omega)
    · show 0 < ix A a + ix A b
      omega
    · rw [e]
      unfold F_evened
      rw [if_neg c]
      rfl
/-! all deeds -/
theorem sum_pt {D : Nat} (hD : 0 < D) : ∀ (ms : List Rat) (x : Rat) (k : Nat), Pt D (600 * k) x → (∀ x ∈ ms, Pt D 600 x) → Pt D (600 * (k + ms.length)) (ms.foldl (· + ·) x)
  | [], x, k, h, _ => h
  | m :: ms, x, k, h, hm => by
    rw [List.foldl_cons]
    have := sum_pt hD ms (x + m) (k + 1) ((h.add hD (hm m (List.mem_cons_self ..))).mono hD (Nat.dvd_refl D) (by omega)) fun y hy => hm y (List.mem_cons_of_mem _ hy)
    rw [List.length_cons, show k + (ms.length + 1) = k + 1 + ms.length by omega]
    exact this
theorem q_summed : Sp_summed f_summed := fun l h => by
  obtain ⟨D, h1, h2, h3, h4⟩ := h
  refine spec_of (t_summed q_plus l (· = F_summed l) ?_)
  intro found hf
  refine FoI.fold (fun a b => a + b) (fun pre x post e found1 e1 => ?_) (fun f3 e3 => ?_)
  · subst hf e1 e
    have hl : pre.length + post.length + 1 ≤ 20 := by rw [List.length_append, List.length_cons] at h3; omega
    have p := sum_pt h1 pre (((0 : Int) : Int) : Rat) 0 (Pt.zero h1) fun y hy => h4 y (List.mem_append_left _ hy)
    have q := h4 x (by simp)
    have hb : 600 * (0 + pre.length) * D ≤ 600 * 20 * D := Nat.mul_le_mul_right D (by omega)
    exact ⟨⟨p.sq h1 (by omega) (by omega), q.sq h1 (by omega) (by omega)⟩, fun f2 e2 => e2⟩
  · rw [e3, hf]
    rfl
theorem size_eq (q : Rat) : V_size_of q = aR q := (abs_ok q).2
structure RnOk (A : List Int) (ds : List (Int × Int)) (L0 : List Rat) (s : List Rat × List Rat) : Prop where
  l : s.1 = (runF A L0 ds).1
  m : F_summed s.2 = (runF A L0 ds).2
  n : s.2.length = ds.length
  d : ∃ D : Nat, 0 < D ∧ D ≤ 2 * 12 ^ ds.length ∧ LvOk A s.1 D ∧ ∀ x ∈ s.2, Pt D 600 x
theorem runF_snoc (A : List Int) (L : List Rat) (ds : List (Int × Int)) (d : Int × Int) : runF A L (ds ++ [d]) = stepF A (runF A L ds) d := by
  unfold runF
  rw [List.foldl_append]
  rfl
theorem RnOk.step {A : List Int} {ds : List (Int × Int)} {L0 : List Rat} {s : List Rat × List Rat} {d : Int × Int} (hA : ArOk A) (h : RnOk A ds L0 s) (hd : DdOk A d.1 d.2) : RnOk A (ds ++ [d]) L0 (stepL A s.1 d.1 d.2, s.2 ++ [movR A s.1 d.1 d.2]) := by
  obtain ⟨h1, h2, h3, D, h4, h5, h6, h7⟩ := h
  obtain ⟨k, k1, k2, k3, k4⟩ := step_ok hA h4 h6 hd
  have hk : 0 < D * k := Nat.mul_pos h4 (by omega)
  refine ⟨?_, ?_, ?_, D * k, hk, ?_, k3, fun x hx => ?_⟩
  · rw [runF_snoc]
    show _ = stepL A _ d.1 d.2
    rw [← h1]
  · rw [runF_snoc]
    show _ = _ + movR A _ d.1 d.2
    rw [← h1, ← h2]
    unfold F_summed
    rw [List.foldl_append]
    rfl
  · rw [List.length_append, List.length_append, h3]
    rfl
  · rw [List.length_append, List.length_singleton, Nat.pow_succ]
    calc D * k ≤ (2 * 12 ^ ds.length) * 12 := Nat.mul_le_mul h5 k2
      _ = _ := by omega
  · rcases List.mem_append.1 hx with hx | hx
    · exact (h7 x hx).mono hk ⟨k, rfl⟩ (Nat.le_refl _)
    · rw [List.mem_singleton] at hx
      rw [hx]
      exact k4
theorem RnOk.zero {A : List Int} {L : List Rat} (h : LvOk A L 2) : RnOk A [] L (L, []) := ⟨rfl, rfl, rfl, 2, by omega, by simp, h, fun x hx => by cases hx⟩
theorem run_from {A : List Int} {L : List Rat} (hA : ArOk A) : ∀ (post pre : List (Int × Int)) (s : List Rat × List Rat), RnOk A pre L s → (∀ d ∈ post, DdOk A d.1 d.2) → ∃ s, RnOk A (pre ++ post) L s
  | [], pre, s, h, _ => ⟨s, by rw [List.append_nil]; exact h⟩
  | d :: post, pre, s, h, hd => by
    have := run_from hA post (pre ++ [d]) _ (h.step hA (hd d (List.mem_cons_self ..))) fun e he => hd e (List.mem_cons_of_mem _ he)
    rw [List.append_assoc] at this
    exact this
theorem run_ok {A : List Int} {L : List Rat} (hA : ArOk A) (hL : LvOk A L 2) (ds : List (Int × Int)) (h : ∀ d ∈ ds, DdOk A d.1 d.2) : ∃ s, RnOk A ds L s := run_from hA ds [] _ (RnOk.zero hL) h
theorem pow_le {n : Nat} (h : n ≤ 12) : 2 * 12 ^ n ≤ 2 * 12 ^ 12 := Nat.mul_le_mul_left 2 (Nat.pow_le_pow_right (by omega) h)
theorem neg_div (q : Rat) (x : Rat) : qAdd x (Rat.divInt (-q.num) (q.den : Int)) = x - q := by
  unfold qAdd
  rw [(neg_ok q).2, Rat.sub_eq_add_neg]
theorem neg_div0 (q : Rat) (x : Rat) : qAdd x (Rat.divInt ((0 : Int) - q.num) (q.den : Int)) = x - q := by
  rw [Int.zero_sub]
  exact neg_div q x
theorem q_level_steps : Sp_level_steps f_level_steps := fun A L ds h => by
  obtain ⟨hA, hL, hn, hd⟩ := h
  rw [List.length_map] at hn
  refine spec_of (t_level_steps q_evened q_plus t_size_of q_times q_whole q_summed A L ds (· = F_level_steps A L ds) ?_)
  intro moved hm
  subst hm
  refine ⟨fun pre s => RnOk A (pre.map fun d => d.2) L s, RnOk.zero hL, fun pre x post s e h l1 hl1 m1 hm1 => ?_, fun s h l1 hl1 m1 hm1 => ?_⟩
  · subst hl1 hm1 e
    have xd := hd x.2 (List.mem_map.2 ⟨x, by simp, rfl⟩)
    have hp : pre.length ≤ 11 := by rw [List.length_append, List.length_cons] at hn; omega
    have st := h.step hA xd
    obtain ⟨_, _, h3, D, h4, h5, h6, h7⟩ := h
    rw [List.length_map] at h5
    have h8 := pow_le (n := pre.length) (by omega)
    have h9 : (2 : Nat) * 12 ^ 12 < 2 ^ 45 := by decide
    have d50 : D < 2 ^ 45 := by omega
    refine ⟨⟨hA, xd, D, h4, by omega, h6⟩, fun new hnew side hside => ?_⟩
    have hside : side = sideOf A x.2.1 x.2.2 := hside
    obtain ⟨d1, d2, d3, d4, d5⟩ := id xd
    have s0 : 0 ≤ side := by rw [hside]; unfold sideOf; split <;> omega
    have s1 : side < A.length := by rw [hside]; unfold sideOf; split <;> omega
    have l := h6.n
    have qa := arB hA s0 s1
    have pa := h6.b _ (ix_mem (l := s.1) s0 (by omega))
    obtain ⟨k, k1, k2, pn⟩ := new_pt hA h4 h6 xd
    rw [← hnew] at pn
    have hk : 0 < D * k := Nat.mul_pos h4 (by omega)
    have hk2 : D * k < 2 ^ 49 := by
      have := Nat.mul_le_mul_left D k2
      omega
    refine ⟨by omega, (neg_ok _).1, ⟨pn.sq hk (by omega) (by omega), ?_⟩, fun rise hr => ?_⟩
    · rw [(neg_ok _).2]
      exact pa.neg.sq h4 (by omega) (by omega)
    rw [neg_div] at hr
    have pr : Pt (D * k) 96 rise := by
      rw [hr, Rat.sub_eq_add_neg]
      exact pn.add hk (pa.neg.mono hk ⟨k, rfl⟩ (Nat.le_refl _))
    have pm := pr.muli (c := 6) (ix A side) (by omega)
    refine ⟨by omega, trivial, ⟨pr.sq hk (by omega) (by omega), sqI (by omega)⟩, (abs_ok _).1, by rw [h3, List.length_map]; omega, fun m2 hm2 => ?_⟩
    have em : V_size_of (qMul rise (V_whole (ix A side))) = movR A s.1 x.2.1 x.2.2 := by
      rw [size_eq, hr, hnew]
      show aR (_ * ((ix A side : Int) : Rat)) = _
      rw [aR_mul _ _ (by omega), hside]
      rfl
    rw [em] at hm2
    refine FoI.fold (fun M (p : Int) => if p < A.length then setI M p new else M) (fun pre' p post' e' l2 hl2 => ?_) (fun l4 hl4 => ?_)
    · have hp2 : p = x.2.1 ∨ p = x.2.2 := by
        have : p ∈ [x.2.1, x.2.2] := by rw [e']; simp
        simpa using this
      subst hl2
      rw [fold_len]
      exact ⟨fun _ => by omega, fun l3 hl3 => hl3⟩
    · rw [hm2, hl4, hnew]
      show RnOk A ((pre ++ [x]).map fun d => d.2) L _
      rw [List.map_append]
      exact st
  · subst hl1 hm1
    obtain ⟨h1, h2, h3, D, h4, h5, h6, h7⟩ := h
    rw [List.length_map] at h5 h3
    have h8 := pow_le (n := ds.length) (by omega)
    have h9 : (2 : Nat) * 12 ^ 12 < 2 ^ 45 := by decide
    refine ⟨⟨D, h4, by omega, by omega, h7⟩, ?_⟩
    unfold F_level_steps
    rw [h2]
    exact Prod.ext h1 rfl
theorem q_level_run : Sp_level_run f_level_run := t_level_run q_level_steps
theorem q_water_moved : Sp_water_moved f_water_moved := t_water_moved q_level_steps
theorem q__law_told : Sp__law_told f__law_told := fun A L ds h => by
  refine spec_of (t__law_told q_water_moved q_level_run A L ds (· = F__law_told A L ds) ?_)
  have e : (ds.map fun z => (c_even, z.1, z.2)).map (fun d : PStr × Int × Int => d.2) = ds := by
    rw [List.map_map]
    exact List.map_id' ds
  have hn := h.2.2.1
  refine ⟨by omega, fun rows hr => ?_⟩
  have p : P_level_steps A L rows := by
    rw [hr]
    unfold P_level_steps
    rw [e]
    exact h
  refine ⟨p, p, ?_⟩
  unfold V_level_run V_water_moved F_level_steps F__law_told
  rw [hr, e]
theorem q__law_joined : Sp__law_joined f__law_joined := fun A L d h => by
  obtain ⟨hA, hd, D, hD, hD2, hL⟩ := h
  refine spec_of (t__law_joined q__law_sum q__law_times A L d (· = F__law_joined A L d) ?_)
  rintro z rfl
  obtain ⟨d1, d2, d3, d4, d5⟩ := id hd
  have l := hL.n
  have hA' := hA.n
  obtain ⟨k, k1, k2, pn⟩ := new_pt hA hD hL hd
  have hk : 0 < D * k := Nat.mul_pos hD (by omega)
  have hk2 : D * k < 2 ^ 49 := by
    have := Nat.mul_le_mul_left D k2
    omega
  have mem : ((A.length : Int) ∈ [d.1, d.2]) ↔ (d.1 = A.length ∨ d.2 = A.length) := by
    simp only [List.mem_cons, List.not_mem_nil, or_false]
    omega
  refine ⟨fun c => ?_, fun new hnew place hplace => ?_⟩
  · have c : ¬(d.1 = A.length ∨ d.2 = A.length) := fun h => c (mem.2 h)
    have qa := arB hA d1 (by omega)
    have qb := arB hA d3 (by omega)
    have pa := hL.b _ (ix_mem (l := L) d1 (by omega))
    have pb := hL.b _ (ix_mem (l := L) d3 (by omega))
    have ma := pa.muli (ix A d.1) (c := 6) (by omega)
    have mb := pb.muli (ix A d.2) (c := 6) (by omega)
    dsimp only
    have ok1 : QOk (1 : Int) (ix A d.1 + ix A d.2) := ⟨by omega, Nat.gcd_one_left _⟩
    refine ⟨by omega, by omega, ⟨pa.sq hD (by omega) (by omega), sqI (by omega)⟩, by omega, by omega, ⟨pb.sq hD (by omega) (by omega), sqI (by omega)⟩, ⟨ma.sq hD (by omega) (by omega), mb.sq hD (by omega) (by omega)⟩, ok1, (ma.add hD mb).sq hD (by omega) (by omega), ?_⟩
    have p1 : Pt (ix A d.1 + ix A d.2).toNat 1 (Rat.divInt (1 : Int) (ix A d.1 + ix A d.2)) := ⟨1, by rw [show (((ix A d.1 + ix A d.2).toNat : Nat) : Int) = ix A d.1 + ix A d.2 by omega], by omega⟩
    exact p1.sq (by omega) (by omega) (by omega)
  · dsimp only at hnew hplace ⊢
    have en : new = F_evened A L d.1 d.2 := by
      rw [hnew]
      unfold F_evened
      by_cases c : d.1 = A.length ∨ d.2 = A.length
      · rw [if_pos (mem.2 c), if_pos c]
        rfl
      · rw [if_neg fun h => c (mem.1 h), if_neg c, Rat.div_def]
        congr 1
        have := Rat.inv_divInt (ix A d.1 + ix A d.2) 1
        rw [← intR] at this
        exact this.symm
    have p0 : 0 ≤ place := by omega
    have p1 : place < A.length := by omega
    have qp := arB hA p0 p1
    have pp := hL.b _ (ix_mem (l := L) p0 (by omega))
    rw [← en] at pn
    refine ⟨by omega, by rw [Int.zero_sub]; exact (neg_ok _).1, ⟨pn.sq hk (by omega) (by omega), ?_⟩, fun rise hr => ?_⟩
    · rw [Int.zero_sub, (neg_ok _).2]
      exact pp.neg.sq hD (by omega) (by omega)
    rw [neg_div0] at hr
    have pr : Pt (D * k) 96 rise := by
      rw [hr, Rat.sub_eq_add_neg]
      exact pn.add hk (pp.neg.mono hk ⟨k, rfl⟩ (Nat.le_refl _))
    have ea : Rat.divInt (rise.num.natAbs : Int) (rise.den : Int) = aR rise := (abs_ok rise).2
    refine ⟨(abs_ok _).1, by omega, ⟨by rw [ea]; exact (aR_pt pr).sq hk (by omega) (by omega), sqI (by omega)⟩, fun moved hm => ?_⟩
    rw [ea] at hm
    refine ⟨RngOk.z (by omega) (by omega), fun q hq => ?_, ?_⟩
    · have hq := mrng.1 hq
      refine ⟨by omega, ?_⟩
      simp only [List.length_cons, List.length_nil]
      split <;> omega
    · refine Prod.ext ?_ ?_
      · show _ = stepL A L d.1 d.2
        rw [step_map l hd]
        apply List.map_congr_left
        intro q _
        have mq : (q ∈ [d.1, d.2]) ↔ (q = d.1 ∨ q = d.2) := by simp
        by_cases c : q = d.1 ∨ q = d.2
        · rw [if_pos c, if_pos (mq.2 c), ← en]
          rfl
        · rw [if_neg c, if_neg fun h => c (mq.1 h)]
          rfl
      · show moved = movR A L d.1 d.2
        rw [hm, hr, en]
        show aR _ * _ = _
        unfold movR sideOf
        by_cases ca : d.1 < A.length
        · rw [if_pos ca]
          rcases Int.le_total d.1 d.2 with c | c
          · rw [show place = d.1 by omega]
          · rw [show place = d.2 by omega]
            exact (mov_any hA l hd ca (by omega)).symm
        · rw [if_neg ca, show place = d.2 by omega]
theorem q__law_run : Sp__law_run f__law_run := fun A L ds h => by
  obtain ⟨hA, hL, hn, hd⟩ := h
  refine spec_of (t__law_run q__law_joined q__law_sum A L ds (· = F__law_run A L ds) ?_)
  rintro moved rfl
  refine ⟨fun pre s => s = runF A L pre, rfl, fun pre x post s e h l1 hl1 m1 hm1 => ?_, fun s h l1 hl1 m1 hm1 => ?_⟩
  · subst hl1 hm1 h e
    have hp : pre.length ≤ 11 := by rw [List.length_append, List.length_cons] at hn; omega
    obtain ⟨s, h1, h2, h3, D, h4, h5, h6, h7⟩ := run_ok hA hL pre fun d hd' => hd d (List.mem_append_left _ hd')
    have xd := hd x (by simp)
    have h8 := pow_le (n := pre.length) (by omega)
    have h9 : (2 : Nat) * 12 ^ 12 < 2 ^ 45 := by decide
    rw [h1] at h6
    refine ⟨⟨hA, xd, D, h4, by omega, h6⟩, fun z hz => ?_⟩
    obtain ⟨k, k1, k2, k3, k4⟩ := step_ok hA h4 h6 xd
    have hk : 0 < D * k := Nat.mul_pos h4 (by omega)
    have hk2 : D * k < 2 ^ 49 := by
      have := Nat.mul_le_mul_left D k2
      omega
    have ps := sum_pt h4 s.2 0 0 (Pt.zero h4) h7
    have hb : 600 * (0 + s.2.length) * D ≤ 600 * 12 * D := Nat.mul_le_mul_right D (by omega)
    refine ⟨⟨?_, ?_⟩, fun m2 hm2 => ?_⟩
    · rw [← h2]
      exact ps.sq h4 (by omega) (by omega)
    · rw [hz]
      exact k4.sq hk (by omega) (by omega)
    · show _ = runF A L (pre ++ [x])
      rw [runF_snoc, hm2, hz]
      rfl
  · rw [hl1, hm1, h]
    rfl
theorem q__law_whole : Sp__law_whole f__law_whole := fun A L h => by
  obtain ⟨hA, hn, D, hD, hD2, hL⟩ := h
  refine spec_of (t__law_whole q__law_sum q__law_times A L (· = F__law_whole A L) ?_)
  rintro total rfl
  have l := hL.n
  refine ⟨RngOk.z (by omega) (by omega), ?_⟩
  have term : ∀ k : Int, 0 ≤ k → k < A.length → Sq (ix L k) ∧ Sq ((ix A k : Int) : Rat) ∧ Pt D 600 (ix L k * ((ix A k : Int) : Rat)) := fun k h0 h1 => by
    have q := arB hA h0 h1
    have p := hL.b _ (ix_mem (l := L) h0 (by omega))
    exact ⟨p.sq hD (by omega) (by omega), sqI (by omega), (p.muli (c := 6) _ (by omega)).mono hD (Nat.dvd_refl _) (by omega)⟩
  refine FoI.fold (fun t k => t + ix L k * ((ix A k : Int) : Rat)) (fun pre x post e t1 ht1 => ?_) (fun t3 ht3 => ?_)
  · have hx : x ∈ Pl.rng 0 A.length := by rw [e]; simp
    have hx := mrng.1 hx
    have hlen : pre.length + post.length + 1 = A.length := by
      have := congrArg List.length e
      rw [rlen, List.length_append, List.length_cons] at this
      omega
    have hpre : ∀ y ∈ pre, 0 ≤ y ∧ y < A.length := fun y hy => mrng.1 (by rw [e]; exact List.mem_append_left _ hy)
    have pt : Pt D (600 * (0 + (pre.map fun k => ix L k * ((ix A k : Int) : Rat)).length)) ((pre.map fun k => ix L k * ((ix A k : Int) : Rat)).foldl (· + ·) (((0 : Int) : Int) : Rat)) := sum_pt hD _ _ 0 (Pt.zero hD) fun y hy => by
      obtain ⟨k, hk, rfl⟩ := List.mem_map.1 hy
      exact (term k (hpre k hk).1 (hpre k hk).2).2.2
    rw [List.foldl_map, List.length_map] at pt
    obtain ⟨t1', t2', t3'⟩ := term x hx.1 hx.2
    have hb : 600 * (0 + pre.length) * D ≤ 600 * 10 * D := Nat.mul_le_mul_right D (by omega)
    refine ⟨by omega, by omega, ⟨t1', t2'⟩, ⟨?_, t3'.sq hD (by omega) (by omega)⟩, fun t2 ht2 => ?_⟩
    · rw [ht1]
      exact pt.sq hD (by omega) (by omega)
    · rw [ht2, ht1]
  · rw [ht3]
    rfl
/-! the plain law -/
section
variable {A : List Int} {L : List Rat}
theorem run_cons (d : Int × Int) (ds : List (Int × Int)) (s : List Rat × Rat) : (d :: ds).foldl (stepF A) s = ds.foldl (stepF A) (stepF A s d) := rfl
theorem stepF_len (s : List Rat × Rat) (d : Int × Int) : (stepF A s d).1.length = s.1.length := step_len
theorem twice_run (hA : ArOk A) : ∀ (ds : List (Int × Int)) (s : List Rat × Rat), s.1.length = A.length → (∀ d ∈ ds, DdOk A d.1 d.2) → (ds.flatMap fun d => [d, (d.2, d.1)]).foldl (stepF A) s = ds.foldl (stepF A) s
  | [], _, _, _ => rfl
  | d :: ds, s, hs, h => by
    have hd := h d (List.mem_cons_self ..)
    rw [List.flatMap_cons, List.foldl_append, run_cons, twice_run hA ds _ (by simp only [List.foldl_cons, List.foldl_nil]; rw [stepF_len, stepF_len, hs]) fun e he => h e (List.mem_cons_of_mem _ he)]
    have e : stepF A (stepF A s d) (d.2, d.1) = stepF A s d := by
      refine Prod.ext (step_again hA hs hd) ?_
      show _ + movR A _ _ _ = _
      rw [show movR A (stepF A s d).1 d.2 d.1 = 0 from mov_again hA hs hd, Rat.add_zero]
    show ds.foldl (stepF A) (stepF A (stepF A s d) (d.2, d.1)) = ds.foldl (stepF A) (stepF A s d)
    rw [e]
theorem turned_run (hA : ArOk A) : ∀ (ds : List (Int × Int)) (s : List Rat × Rat), s.1.length = A.length → (∀ d ∈ ds, DdOk A d.1 d.2) → (ds.map fun d => (d.2, d.1)).foldl (stepF A) s = ds.foldl (stepF A) s
  | [], _, _, _ => rfl
  | d :: ds, s, hs, h => by
    have hd := h d (List.mem_cons_self ..)
    rw [List.map_cons, run_cons, run_cons]
    have e : stepF A s (d.2, d.1) = stepF A s d := Prod.ext (step_symm hs hd) (by
      show s.2 + movR A _ _ _ = s.2 + movR A _ _ _
      rw [mov_symm hA hs hd])
    rw [e]
    exact turned_run hA ds _ (by rw [stepF_len, hs]) fun e he => h e (List.mem_cons_of_mem _ he)
/-! the sum over all basins -/
def sumQ (A : List Int) (f : Int → Rat) : Rat := (Pl.rng 0 A.length).foldl (fun t k => t + f k * ((ix A k : Int) : Rat)) 0
theorem foldq_congr {f g : Int → Rat} : ∀ (l : List Int) (x : Rat), (∀ k ∈ l, f k = g k) → l.foldl (fun t k => t + f k) x = l.foldl (fun t k => t + g k) x
  | [], _, _ => rfl
  | k :: l, x, h => by
    rw [List.foldl_cons, List.foldl_cons, h k (List.mem_cons_self ..)]
    exact foldq_congr l _ fun j hj => h j (List.mem_cons_of_mem _ hj)
theorem foldq_shift {f : Int → Rat} : ∀ (l : List Int) (x y : Rat), l.foldl (fun t k => t + f k) (x + y) = l.foldl (fun t k => t + f k) x + y
  | [], _, _ => rfl
  | k :: l, x, y => by
    rw [List.foldl_cons, List.foldl_cons, show x + y + f k = (x + f k) + y by grind]
    exact foldq_shift l _ y
/-- two places change, by as much as takes itself away -/
theorem foldq_two {f g : Int → Rat} {a b : Int} (hab : a ≠ b) (hs : f a + f b = g a + g b) (ho : ∀ k, k ≠ a → k ≠ b → f k = g k) : ∀ (l : List Int) (x : Rat), l.Nodup → a ∈ l → b ∈ l → l.foldl (fun t k => t + f k) x = l.foldl (fun t k => t + g k) x := by
  have one : ∀ {f g : Int → Rat} {a : Int}, (∀ k, k ≠ a → f k = g k) → ∀ (l : List Int) (x : Rat), l.Nodup → a ∈ l → l.foldl (fun t k => t + f k) x = l.foldl (fun t k => t + g k) (x + (f a - g a)) := by
    intro f g a ho l
    induction l with
    | nil => intro x _ h; cases h
    | cons k l ih =>
      intro x nd h
      obtain ⟨n1, n2⟩ := List.nodup_cons.1 nd
      rw [List.foldl_cons, List.foldl_cons]
      by_cases e : k = a
      · subst e
        rw [foldq_congr l _ fun j hj => ho j fun e => n1 (e ▸ hj)]
        congr 1
        grind
      · rcases List.mem_cons.1 h with h | h
        · exact absurd h.symm e
        · rw [ih _ n2 h, ho k e]
          congr 1
          grind
  intro l x nd ha hb
  let m : Int → Rat := fun k => if k = a then g a else f k
  have h1 := one (f := f) (g := m) (a := a) (fun k hk => by show _ = if k = a then _ else _; rw [if_neg hk]) l x nd ha
  have h2 := one (f := m) (g := g) (a := b) (fun k hk => by
    show (if k = a then _ else _) = _
    by_cases e : k = a
    · rw [if_pos e, e]
    · rw [if_neg e, ho k e hk]) l (x + (f a - m a)) nd hb
  rw [h1, h2]
  congr 1
  show x + (f a - if a = a then g a else f a) + ((if b = a then g a else f b) - g b) = x
  rw [if_pos rfl, if_neg fun e => hab e.symm]
  grind
theorem whole_step (hA : ArOk A) (hl : L.length = A.length) {d : Int × Int} (hd : DdOk A d.1 d.2) (h1 : d.1 < A.length) (h2 : d.2 < A.length) : wholeF A (stepL A L d.1 d.2) = wholeF A L := by
  obtain ⟨d1, d2, d3, d4, d5⟩ := id hd
  unfold wholeF
  have e : ∀ (l : List Int) (x : Rat), (∀ k ∈ l, 0 ≤ k ∧ k < A.length) → l.foldl (fun t k => t + ix (stepL A L d.1 d.2) k * ((ix A k : Int) : Rat)) x = l.foldl (fun t k => t + (if k = d.1 ∨ k = d.2 then F_evened A L d.1 d.2 else ix L k) * ((ix A k : Int) : Rat)) x := fun l x h => foldq_congr (f := fun k => ix (stepL A L d.1 d.2) k * ((ix A k : Int) : Rat)) (g := fun k => (if k = d.1 ∨ k = d.2 then F_evened A L d.1 d.2 else ix L k) * ((ix A k : Int) : Rat)) l x fun k hk => by rw [step_ix hl hd (h k hk).1 (h k hk).2]
  rw [e _ _ fun k hk => mrng.1 hk]
  refine foldq_two (f := fun k => (if k = d.1 ∨ k = d.2 then F_evened A L d.1 d.2 else ix L k) * ((ix A k : Int) : Rat)) (g := fun k => ix L k * ((ix A k : Int) : Rat)) d5 ?_ (fun k ha hb => by simp only [if_neg (show ¬(k = d.1 ∨ k = d.2) by omega)]) _ _ (rng_nodup _ _) (mrng.2 ⟨d1, h1⟩) (mrng.2 ⟨d3, h2⟩)
  simp only [true_or, or_true, if_true]
  have qa := arB hA d1 h1
  have qb := arB hA d3 h2
  unfold F_evened
  rw [if_neg (by omega)]
  generalize ix L d.1 = x
  generalize ix L d.2 = y
  generalize ix A d.1 = u at *
  generalize ix A d.2 = v at *
  have h0 : ((u + v : Int) : Rat) ≠ 0 := fun h => by
    have := Rat.num_eq_zero.2 h
    rw [Rat.num_intCast] at this
    omega
  have h1 : ((u + v : Int) : Rat) = (u : Rat) + (v : Rat) := Rat.intCast_add u v
  rw [h1] at h0 ⊢
  grind
theorem inner_run (hA : ArOk A) : ∀ (ds : List (Int × Int)) (s : List Rat × Rat), s.1.length = A.length → (∀ d ∈ ds, DdOk A d.1 d.2 ∧ d.1 < A.length ∧ d.2 < A.length) → wholeF A (ds.foldl (stepF A) s).1 = wholeF A s.1
  | [], _, _, _ => rfl
  | d :: ds, s, hs, h => by
    obtain ⟨h1, h2, h3⟩ := h d (List.mem_cons_self ..)
    rw [run_cons, inner_run hA ds _ (by rw [stepF_len, hs]) fun e he => h e (List.mem_cons_of_mem _ he)]
    exact whole_step hA hs h1 h2 h3
/-! all levels so many times -/
theorem ev_scale (k : Rat) {a b : Int} (hl : L.length = A.length) (hd : DdOk A a b) : F_evened A (L.map fun x => x * k) a b = F_evened A L a b * k := by
  obtain ⟨d1, d2, d3, d4, d5⟩ := hd
  unfold F_evened
  by_cases c : a = A.length ∨ b = A.length
  · rw [if_pos c, if_pos c, Rat.zero_mul]
  · rw [if_neg c, if_neg c, ix_map _ d1 (by omega), ix_map _ d3 (by omega), Rat.div_def, Rat.div_def]
    grind
theorem aR_scale (x k : Rat) (hk : 0 < k) : aR (x * k) = aR x * k := by
  unfold aR
  by_cases c : x < 0
  · have : x * k < 0 := by
      have := Rat.mul_lt_mul_of_pos_right c hk
      grind
    rw [if_pos c, if_pos this]
    grind
  · have h0 : 0 ≤ x := by grind
    have : ¬ x * k < 0 := by
      have := Rat.mul_nonneg h0 (by grind : (0 : Rat) ≤ k)
      grind
    rw [if_neg c, if_neg this]
theorem step_scale (k : Rat) (hk : 0 < k) {d : Int × Int} (s : List Rat × Rat) (hl : s.1.length = A.length) (hd : DdOk A d.1 d.2) : stepF A (s.1.map (fun x => x * k), s.2 * k) d = ((stepF A s d).1.map (fun x => x * k), (stepF A s d).2 * k) := by
  obtain ⟨d1, d2, d3, d4, d5⟩ := id hd
  refine Prod.ext ?_ ?_
  · show stepL A (s.1.map _) d.1 d.2 = (stepL A s.1 d.1 d.2).map _
    rw [step_map (by rw [List.length_map, hl]) hd, step_map hl hd, List.map_map]
    apply List.map_congr_left
    intro p hp
    have hp := mrng.1 hp
    show _ = (if _ then _ else _) * k
    rw [ev_scale k hl hd, ix_map _ hp.1 (by omega)]
    split <;> rfl
  · show s.2 * k + movR A (s.1.map _) d.1 d.2 = (s.2 + movR A s.1 d.1 d.2) * k
    unfold movR
    have s0 : 0 ≤ sideOf A d.1 d.2 := by unfold sideOf; split <;> omega
    have s1 : sideOf A d.1 d.2 < A.length := by unfold sideOf; split <;> omega
    rw [ev_scale k hl hd, ix_map _ s0 (by omega), show ∀ x y : Rat, x * k - y * k = (x - y) * k from fun x y => by grind, aR_scale _ _ hk]
    grind
theorem scale_run (k : Rat) (hk : 0 < k) : ∀ (ds : List (Int × Int)) (s : List Rat × Rat), s.1.length = A.length → (∀ d ∈ ds, DdOk A d.1 d.2) → ds.foldl (stepF A) (s.1.map (fun x => x * k), s.2 * k) = ((ds.foldl (stepF A) s).1.map (fun x => x * k), (ds.foldl (stepF A) s).2 * k)
  | [], _, _, _ => rfl
  | d :: ds, s, hs, h => by
    rw [run_cons, run_cons, step_scale k hk s hs (h d (List.mem_cons_self ..))]
    exact scale_run k hk ds _ (by rw [stepF_len, hs]) fun e he => h e (List.mem_cons_of_mem _ he)
theorem run_len (ds : List (Int × Int)) (s : List Rat × Rat) : (ds.foldl (stepF A) s).1.length = s.1.length := by
  induction ds generalizing s with
  | nil => rfl
  | cons d ds ih => rw [run_cons, ih, stepF_len]
/-- behind a joining both levels are the same -/
theorem last_same (hl : L.length = A.length) {d : Int × Int} (hd : DdOk A d.1 d.2) : V_level_of (stepL A L d.1 d.2) d.1 = V_level_of (stepL A L d.1 d.2) d.2 := by
  obtain ⟨d1, d2, d3, d4, d5⟩ := id hd
  unfold V_level_of
  rw [step_len, hl]
  have z : V_whole 0 = 0 := rfl
  by_cases ca : d.1 < A.length <;> by_cases cb : d.2 < A.length
  · rw [if_pos ca, if_pos cb, step_ix hl hd d1 ca, step_ix hl hd d3 cb, if_pos (.inl rfl), if_pos (.inr rfl)]
  · rw [if_pos ca, if_neg cb, step_ix hl hd d1 ca, if_pos (.inl rfl), z]
    unfold F_evened
    rw [if_pos (.inr (by omega))]
  · rw [if_neg ca, if_pos cb, step_ix hl hd d3 cb, if_pos (.inr rfl), z]
    unfold F_evened
    rw [if_pos (.inl (by omega))]
  · omega
end
theorem enum_flt {A : List Rat} (g : List (Int × Int)) (P : Int × Int → Bool) : ((enumI g).filter fun z => P z.2).map (fun z => z.1) = (Pl.rng 0 g.length).filter fun k => P (ix g k) := by
  rw [enumI_eq, List.filter_map, List.map_map]
  exact List.map_id' _
theorem d_law (row : Row 34) : D_law row := by
  have B := rg_b row
  intro n hn
  have b0 := B 0
  have n0 : 2 ≤ n ∧ n ≤ 4 := by omega
  refine ⟨RngOk.z (by omega) (by omega), fun k hk => by have := mrng.1 hk; omega, fun A hAe => ?_⟩
  have Al : (A.length : Int) = n := by rw [hAe, List.length_map, rlen]; omega
  have hA : ArOk A := ⟨by omega, fun x hx => by
    rw [hAe] at hx
    obtain ⟨k, _, rfl⟩ := List.mem_map.1 hx
    have := B (1 + k)
    omega⟩
  have pw : ∀ k ∈ Pl.rng 0 n, ix [(1 : Int), 2, 4, 8] k = 1 ∨ ix [(1 : Int), 2, 4, 8] k = 2 ∨ ix [(1 : Int), 2, 4, 8] k = 4 ∨ ix [(1 : Int), 2, 4, 8] k = 8 := fun k hk => by
    have hk := mrng.1 hk
    have : k = 0 ∨ k = 1 ∨ k = 2 ∨ k = 3 := by omega
    rcases this with rfl | rfl | rfl | rfl <;> decide
  refine ⟨RngOk.z (by omega) (by omega), fun k hk => ?_, fun L hLe => ?_⟩
  · have p := pw k hk
    have hk := mrng.1 hk
    refine ⟨by omega, ?_, by omega, ?_⟩
    · simp only [List.length_cons, List.length_nil]
      omega
    · generalize rg row 9 / ix [(1 : Int), 2, 4, 8] k = y
      have h2 : (2 : Int) ^ 1 < 2 ^ 8000 := by
        have : (2 : Nat) ^ 1 < 2 ^ 8000 := Nat.pow_lt_pow_right (by omega) (by omega)
        exact_mod_cast this
      exact ⟨by omega, by omega⟩
  have Ll : L.length = A.length := by rw [hLe, hAe, List.length_map, List.length_map]
  have Lb : ∀ x ∈ L, Pt 2 12 x := fun x hx => by
    rw [hLe] at hx
    obtain ⟨k, _, rfl⟩ := List.mem_map.1 hx
    have b5 := B (5 + k)
    generalize rg row 9 / ix [(1 : Int), 2, 4, 8] k = y
    have : (1 : Int) + y % 2 = 1 ∨ (1 : Int) + y % 2 = 2 := by omega
    rcases this with h | h <;> rw [h]
    · exact Pt.mono (D := 1) (M := 12) (by omega) ⟨_, rfl, by omega⟩ ⟨2, rfl⟩ (Nat.le_refl _)
    · exact ⟨_, rfl, by omega⟩
  have hL : LvOk A L 2 := ⟨Ll, fun x hx => (Lb x hx).mono (by omega) (Nat.dvd_refl _) (by omega)⟩
  rintro _ rfl
  refine ⟨RngOk.z (by omega) (by omega), ?_⟩
  refine FoI.rn (fun i (s : List (Int × Int)) => (s.length : Int) = i ∧ ∀ d ∈ s, DdOk A d.1 d.2) (by omega) ⟨rfl, fun d hd => by cases hd⟩ (fun i h0 h1 s hs d1 hd1 => ?_) (fun s hs ds hds => ?_)
  · subst hd1
    refine ⟨by omega, by omega, fun a ha => ⟨by omega, by omega, by omega, by omega, fun d2 hd2 => ?_⟩⟩
    rw [hd2]
    refine ⟨by rw [List.length_append, List.length_singleton]; omega, fun d hd => ?_⟩
    rcases List.mem_append.1 hd with hd | hd
    · exact hs.2 d hd
    · rw [List.mem_singleton] at hd
      rw [hd]
      have q := Int.emod_nonneg (rg row (12 + 2 * i)) (show n ≠ 0 by omega)
      have q2 := Int.emod_lt_of_pos (rg row (12 + 2 * i)) (show 0 < n by omega)
      have q3 := Int.emod_nonneg (rg row (11 + 2 * i)) (show n + 1 ≠ 0 by omega)
      have q4 := Int.emod_lt_of_pos (rg row (11 + 2 * i)) (show 0 < n + 1 by omega)
      rw [← ha] at q3 q4
      generalize rg row (12 + 2 * i) % n = y at *
      have e : (a + 1 + y) % (n + 1) = if a + 1 + y < n + 1 then a + 1 + y else a + 1 + y - (n + 1) := by
        split
        · exact Int.emod_eq_of_lt (by omega) (by omega)
        · rw [← Int.sub_emod_right, Int.emod_eq_of_lt (by omega) (by omega)]
      refine ⟨q3, by show a ≤ _; omega, ?_, ?_, ?_⟩
      · show 0 ≤ (a + 1 + y) % (n + 1)
        rw [e]; split <;> omega
      · show (a + 1 + y) % (n + 1) ≤ _
        rw [e]; split <;> omega
      · show a ≠ (a + 1 + y) % (n + 1)
        rw [e]; split <;> omega
  · subst hds
    obtain ⟨hdl, hds⟩ := hs
    have dl : ds.length ≤ 6 := by omega
    have R : RunOk A L ds := ⟨hA, hL, by omega, hds⟩
    refine ⟨R, fun due hdue => ⟨R, hdue.symm, ?_, by omega, ?_⟩⟩
    · have : due.1.length = A.length := by
        rw [hdue]
        show (ds.foldl (stepF A) (L, 0)).1.length = _
        rw [run_len, Ll]
      exact ⟨⟨by omega, fun _ _ => trivial⟩, trivial⟩
    rintro _ rfl turned ht
    have dueL : due.1.length = A.length := by
      rw [hdue]
      show (ds.foldl (stepF A) (L, 0)).1.length = _
      rw [run_len, Ll]
    refine ⟨fun pre s => s = pre.flatMap fun d => [d, (d.2, d.1)], rfl, fun pre d post s e hs t1 ht1 => ?_, fun s hs t3 ht3 => ?_⟩
    · subst ht1 hs
      have hp : pre.length ≤ 6 := by rw [e, List.length_append] at dl; omega
      have fl : ∀ l : List (Int × Int), (l.flatMap fun d => [d, (d.2, d.1)]).length = 2 * l.length := fun l => by
        induction l with
        | nil => rfl
        | cons x l ih => rw [List.flatMap_cons, List.length_append, ih, List.length_cons]; simp only [List.length_cons, List.length_nil]; omega
      refine ⟨by rw [fl]; simp only [List.length_cons, List.length_nil]; omega, fun t2 ht2 => ?_⟩
      rw [ht2]
      show _ = List.flatMap _ (pre ++ [d])
      rw [List.flatMap_append]
      rfl
    · subst ht3 hs
      have fl : ∀ l : List (Int × Int), (l.flatMap fun d => [d, (d.2, d.1)]).length = 2 * l.length := fun l => by
        induction l with
        | nil => rfl
        | cons x l ih => rw [List.flatMap_cons, List.length_append, ih, List.length_cons]; simp only [List.length_cons, List.length_nil]; omega
      have R2 : RunOk A L (ds.flatMap fun d => [d, (d.2, d.1)]) := ⟨hA, hL, by rw [fl]; omega, fun d hd => by
        obtain ⟨e, he, hd⟩ := List.mem_flatMap.1 hd
        simp only [List.mem_cons, List.not_mem_nil, or_false] at hd
        rcases hd with rfl | rfl
        · exact hds _ he
        · exact (hds _ he).symm⟩
      have R3 : RunOk A L turned := ⟨hA, hL, by rw [ht, List.length_map]; omega, fun d hd => by
        rw [ht] at hd
        obtain ⟨e, he, rfl⟩ := List.mem_map.1 hd
        exact (hds _ he).symm⟩
      have lo : Lo (p2 (eT qE) qE) due := ⟨⟨by omega, fun _ _ => trivial⟩, trivial⟩
      refine ⟨R2, R3, ?_, ⟨lo, lo⟩, by omega, fun inner hi => ?_⟩
      · rw [hdue, ht]
        refine Prod.ext ?_ ?_
        · exact twice_run hA ds (L, 0) Ll hds
        · exact turned_run hA ds (L, 0) Ll hds
      have il : inner.length ≤ 6 := by rw [hi]; exact Nat.le_trans (List.length_filter_le ..) dl
      have id2 : ∀ d ∈ inner, DdOk A d.1 d.2 ∧ d.1 < A.length ∧ d.2 < A.length := fun d hd => by
        rw [hi] at hd
        obtain ⟨h1, h2⟩ := List.mem_filter.1 hd
        have h2 := of_decide_eq_true h2
        simp only [List.mem_cons, List.not_mem_nil, or_false, not_or] at h2
        have q := hds d h1
        obtain ⟨q1, q2, q3, q4, q5⟩ := id q
        exact ⟨q, by omega, by omega⟩
      have e2 : (inner.map fun z => (c_even, z.1, z.2)).map (fun d : PStr × Int × Int => d.2) = inner := by
        rw [List.map_map]
        exact List.map_id' inner
      refine ⟨by omega, ?_, fun kept hk => ?_⟩
      · show RunOk A L (List.map _ _)
        rw [e2]
        exact ⟨hA, hL, by omega, fun d hd => (id2 d hd).1⟩
      have hk : kept = (runF A L inner).1 := by
        rw [hk]
        show (runF A L (List.map _ _)).1 = _
        rw [e2]
      obtain ⟨s, h1, h2, h3, D, h4, h5, h6, h7⟩ := run_ok hA hL inner fun d hd => (id2 d hd).1
      have h8 := pow_le (n := inner.length) (by omega)
      have h9 : (2 : Nat) * 12 ^ 12 < 2 ^ 45 := by decide
      refine ⟨⟨hA, by omega, D, h4, by omega, by rw [hk, ← h1]; exact h6⟩, ⟨hA, by omega, 2, by omega, by omega, hL⟩, ?_, trivial, ?_⟩
      · rw [hk]
        exact inner_run hA inner (L, 0) Ll id2
      rintro _ rfl
      refine ⟨RngOk.z (by omega) (by omega), ?_⟩
      refine FoI.rn (fun i (s : List (Int × Int)) => (s.length : Int) ≤ 5 * i ∧ ∀ g ∈ s, 0 ≤ g.1 ∧ g.1 ≤ n ∧ 0 ≤ g.2 ∧ g.2 ≤ n) (by omega) ⟨by simp, fun d hd => by cases hd⟩ (fun i h0 h1 s hs g1 hg1 => ?_) (fun s hs g3 hg3 => ?_)
      · subst hg1
        have fl : ((Pl.rng 0 (n + 1)).filter fun b => decide (i ≠ b)).length ≤ 5 := Nat.le_trans (List.length_filter_le ..) (by rw [rlen]; omega)
        refine ⟨RngOk.z (by omega) (by omega), by rw [List.length_map]; omega, fun g2 hg2 => ?_⟩
        rw [hg2]
        refine ⟨by rw [List.length_append, List.length_map]; omega, fun g hg => ?_⟩
        rcases List.mem_append.1 hg with hg | hg
        · exact hs.2 g hg
        · obtain ⟨b, hb, rfl⟩ := List.mem_map.1 hg
          have hb := mrng.1 (List.mem_filter.1 hb).1
          exact ⟨by show 0 ≤ i; omega, by show i ≤ n; omega, by show 0 ≤ b; omega, by show b ≤ n; omega⟩
      subst hg3
      obtain ⟨gl, gb⟩ := hs
      have cl : ∀ (M : List Rat) (p : Int), M.length = A.length → 0 ≤ p → p ≤ n → C_level_of M p := fun M p hM h0 h1 => ⟨fun h => by omega, fun _ => trivial⟩
      have cm : ∀ (M : List Rat) (k : Int), M.length = A.length → 0 ≤ k → k < g3.length → C_may_open M (ix g3 k) := fun M k hM h0 h1 => by
        have q := gb _ (ix_mem h0 h1)
        exact ⟨cl _ _ hM q.1 q.2.1, cl _ _ hM q.2.2.1 q.2.2.2⟩
      have lev : ∀ (M : List Rat) (p : Int), M.length = A.length → 0 ≤ p → p ≤ n → V__law_level M p = V_level_of M p ∧ C__law_level M p := fun M p hM h0 h1 => by
        refine ⟨?_, ?_, ?_⟩
        · unfold V__law_level V_level_of
          by_cases c : p < M.length
          · rw [if_pos c, ix_nn h0, ix_nn h0, List.getD_eq_getElem?_getD, List.getElem?_append_left (by omega), List.getD_eq_getElem?_getD]
          · rw [if_neg c, ix_nn h0, List.getD_eq_getElem?_getD, List.getElem?_append_right (by omega), show p.toNat - M.length = 0 by omega]
            rfl
        · simp only [List.length_cons, List.length_nil]
          omega
        · rw [List.length_append]
          simp only [List.length_cons, List.length_nil]
          omega
      refine FoI.unit (fun M hM => ?_) ?_
      · have Ml : M.length = A.length := by
          simp only [List.mem_cons, List.not_mem_nil, or_false] at hM
          rcases hM with rfl | rfl
          · exact Ll
          · exact dueL
        refine ⟨RngOk.z (by omega) (by omega), fun k hk => ?_, fun free hf => ?_⟩
        · have hk := mrng.1 hk
          have q := gb _ (ix_mem hk.1 hk.2)
          exact ⟨by omega, (lev _ _ Ml q.1 q.2.1).2, (lev _ _ Ml q.2.2.1 q.2.2.2).2⟩
        have hfree : free = (Pl.rng 0 g3.length).filter fun k => V_may_open M (ix g3 k) := by
          rw [hf]
          apply List.filter_congr
          intro k hk
          have hk := mrng.1 hk
          have q := gb _ (ix_mem hk.1 hk.2)
          rw [(lev _ _ Ml q.1 q.2.1).1, (lev _ _ Ml q.2.2.1 q.2.2.2).1]
          rfl
        refine ⟨⟨by rw [enumI_length]; omega, fun z hz => ?_⟩, ?_, ⟨?_, fun _ _ => trivial⟩, RngOk.z (by omega) (by omega), fun k hk => ?_, trivial⟩
        · obtain ⟨z1, z2, z3⟩ := mem_enumI.1 hz
          rw [z3]
          exact cm M _ Ml z1 z2
        · rw [hfree]
          unfold V_gates_free
          simp only [Bool.decide_eq_true]
          exact enum_flt (A := []) g3 fun g => V_may_open M g
        · rw [hfree]
          exact Nat.le_trans (List.length_filter_le ..) (by rw [rlen]; omega)
        · have hk2 := mrng.1 hk
          refine ⟨by omega, cm M k Ml hk2.1 hk2.2, ?_, trivial⟩
          rw [hfree, Bool.eq_iff_iff, decide_eq_true_eq, List.mem_filter]
          exact ⟨fun h => ⟨hk, h⟩, fun h => h.2⟩
      refine ⟨fun h => ?_, fun k hk => ?_⟩
      · have hz : ds ≠ [] := fun e => by rw [e] at h; simp at h
        obtain ⟨front, d, rfl⟩ : ∃ front d, ds = front ++ [d] := ⟨ds.dropLast, ds.getLast hz, (List.dropLast_concat_getLast hz).symm⟩
        have e : ix (front ++ [d]) (((front ++ [d]).length : Int) - 1) = d := by
          rw [ix_nn (by omega), List.length_append, List.length_singleton, List.getD_eq_getElem?_getD, List.getElem?_append_right (by omega), show (((front.length + 1 : Nat) : Int) - 1).toNat - front.length = 0 by omega]
          rfl
        rw [e]
        have dd := hds d (by simp)
        obtain ⟨q1, q2, q3, q4, q5⟩ := id dd
        refine ⟨by omega, ⟨cl _ _ dueL q1 (by omega), cl _ _ dueL q3 (by omega)⟩, ?_⟩
        have : due = stepF A (runF A L front) d := by rw [hdue]; exact runF_snoc A L front d
        have fl : (runF A L front).1.length = A.length := by
          show (front.foldl (stepF A) (L, 0)).1.length = _
          rw [run_len, Ll]
        unfold V_may_open
        rw [this]
        exact decide_eq_true (last_same fl dd)
      have k0 : 1 ≤ k ∧ k ≤ 4 := by
        have := B 24
        omega
      obtain ⟨s', g1', g2', g3', D', g4', g5', g6', g7'⟩ := run_ok hA hL ds hds
      have g8' := pow_le (n := ds.length) (by omega)
      have dS : ∀ x ∈ due.1, Sq x := fun x hx => by
        rw [hdue, show F__law_run A L ds = runF A L ds from rfl, ← g1'] at hx
        exact (g6'.b x hx).sq g4' (by omega) (by omega)
      have dM : Sq due.2 := by
        have ps := sum_pt g4' s'.2 0 0 (Pt.zero g4') g7'
        have hb : 600 * (0 + s'.2.length) * D' ≤ 600 * 12 * D' := Nat.mul_le_mul_right D' (by omega)
        rw [hdue, show F__law_run A L ds = runF A L ds from rfl, ← g2']
        exact ps.sq g4' (by omega) (by omega)
      refine ⟨by omega, fun x hx => ⟨(Lb x hx).sq (by omega) (by omega) (by omega), sqI (by omega)⟩, fun wide hw => ⟨by omega, fun x hx => ⟨dS x hx, sqI (by omega)⟩, ⟨dM, sqI (by omega)⟩, fun far hfar => ?_⟩⟩
      have kq : (0 : Rat) < ((k : Int) : Rat) := by
        have : 0 < k := by omega
        exact_mod_cast this
      have hW : LvOk A wide 2 := ⟨by rw [hw, List.length_map, Ll], fun x hx => by
        rw [hw] at hx
        obtain ⟨y, hy, rfl⟩ := List.mem_map.1 hx
        exact (Lb y hy).muli (c := 4) k (by omega)⟩
      refine ⟨⟨hA, hW, by omega, hds⟩, ?_, ⟨?_, fun _ _ => trivial⟩, trivial⟩
      · rw [hfar, hdue]
        have := scale_run (A := A) ((k : Int) : Rat) kq ds (L, 0) Ll hds
        rw [Rat.zero_mul] at this
        show ds.foldl (stepF A) (wide, 0) = _
        rw [hw]
        exact this
      · rw [hfar, List.length_map]
        omega
theorem law_true : ∀ ns : List Int, ns.length ≤ 63 → f_law [.list (ns.map PyData.int)] = some (.bool true) := fun ns _ => by
  obtain ⟨row, hr⟩ := row_spec ns 34 (by decide)
  rw [← row_eq] at hr
  exact t_law (h__law_low := q__law_low) (h__law_run := q__law_run) (h__law_like := like_ok) (h__law_told := q__law_told) (h__law_whole := q__law_whole) (h_level_run := q_level_run) (h__law_level := t__law_level) (h_gates_free := t_gates_free (t_may_open (t_level_of q_whole))) (h_may_open := t_may_open (t_level_of q_whole)) (h__law_times := q__law_times) (script := _) (row := row) hr (d_law row)
end Wk

set_option maxHeartbeats 0
namespace Wk
open PySem PySem.Spec PyProof.Rows L2 Pl
def defs : List He.DefD := [⟨("divisor", none), "divisor", "divisor", defArgs s_divisor, defBody s_divisor, defScope s_divisor, [], []⟩, ⟨("lowest", none), "lowest", "lowest", defArgs s_lowest, defBody s_lowest, defScope s_lowest, [], []⟩, ⟨("plus", none), "plus", "plus", defArgs s_plus, defBody s_plus, defScope s_plus, [], []⟩, ⟨("times", none), "times", "times", defArgs s_times, defBody s_times, defScope s_times, [], []⟩, ⟨("parted", none), "parted", "parted", defArgs s_parted, defBody s_parted, defScope s_parted, [], []⟩, ⟨("whole", none), "whole", "whole", defArgs s_whole, defBody s_whole, defScope s_whole, [], []⟩, ⟨("summed", none), "summed", "summed", defArgs s_summed, defBody s_summed, defScope s_summed, [], []⟩, ⟨("size_of", none), "size_of", "size_of", defArgs s_size_of, defBody s_size_of, defScope s_size_of, [], []⟩, ⟨("level_of", none), "level_of", "level_of", defArgs s_level_of, defBody s_level_of, defScope s_level_of, [], []⟩, ⟨("may_open", none), "may_open", "may_open", defArgs s_may_open, defBody s_may_open, defScope s_may_open, [], []⟩, ⟨("gates_free", none), "gates_free", "gates_free", defArgs s_gates_free, defBody s_gates_free, defScope s_gates_free, [], []⟩, ⟨("evened", none), "evened", "evened", defArgs s_evened, defBody s_evened, defScope s_evened, [], []⟩, ⟨("level_steps", none), "level_steps", "level_steps", defArgs s_level_steps, defBody s_level_steps, defScope s_level_steps, [], []⟩, ⟨("level_run", none), "level_run", "level_run", defArgs s_level_run, defBody s_level_run, defScope s_level_run, [], []⟩, ⟨("water_moved", none), "water_moved", "water_moved", defArgs s_water_moved, defBody s_water_moved, defScope s_water_moved, [], []⟩, ⟨("_law_mixed", none), "_law_mixed", "_law_mixed", defArgs s__law_mixed, defBody s__law_mixed, defScope s__law_mixed, [], []⟩, ⟨("_law_row", none), "_law_row", "_law_row", defArgs s__law_row, defBody s__law_row, defScope s__law_row, [], []⟩, ⟨("_law_is_int", none), "_law_is_int", "_law_is_int", defArgs s__law_is_int, defBody s__law_is_int, defScope s__law_is_int, [], []⟩, ⟨("_law_like", none), "_law_like", "_law_like", defArgs s__law_like, defBody s__law_like, defScope s__law_like, [], []⟩, ⟨("_law_low", none), "_law_low", "_law_low", defArgs s__law_low, defBody s__law_low, defScope s__law_low, [], []⟩, ⟨("_law_sum", none), "_law_sum", "_law_sum", defArgs s__law_sum, defBody s__law_sum, defScope s__law_sum, [], []⟩, ⟨("_law_times", none), "_law_times", "_law_times", defArgs s__law_times, defBody s__law_times, defScope s__law_times, [], []⟩, ⟨("_law_level", none), "_law_level", "_law_level", defArgs s__law_level, defBody s__law_level, defScope s__law_level, [], []⟩, ⟨("_law_joined", none), "_law_joined", "_law_joined", defArgs s__law_joined, defBody s__law_joined, defScope s__law_joined, [], []⟩, ⟨("_law_run", none), "_law_run", "_law_run", defArgs s__law_run, defBody s__law_run, defScope s__law_run, [], []⟩, ⟨("_law_told", none), "_law_told", "_law_told", defArgs s__law_told, defBody s__law_told, defScope s__law_told, [], []⟩, ⟨("_law_whole", none), "_law_whole", "_law_whole", defArgs s__law_whole, defBody s__law_whole, defScope s__law_whole, [], []⟩, ⟨("law", none), "law", "law", defArgs s_law, defBody s_law, defScope s_law, [], []⟩]
def facts : List He.Fa := bfNames ++ [.glo "divisor", .glo "lowest", .glo "plus", .glo "times", .glo "parted", .glo "whole", .glo "summed", .glo "size_of", .glo "level_of", .glo "may_open", .glo "gates_free", .glo "evened", .glo "level_steps", .glo "level_run", .glo "water_moved", .glo "_law_mixed", .glo "_law_row", .glo "_law_is_int", .glo "_law_like", .glo "_law_low", .glo "_law_sum", .glo "_law_times", .glo "_law_level", .glo "_law_joined", .glo "_law_run", .glo "_law_told", .glo "_law_whole", .glo "law"]
abbrev R : PySem.W.OpenRow := PySem.W.OpenLaw.row PySem.Challenge.rw_dockheld_k17_whole_basins_joined_by_turn
abbrev hk : PySem.W.Hook := He.hookD 4 facts defs
def ob (s : PySem.W.SharedT) : He.AlD := He.obsDG 4 facts defs (HandSHeadRun.getT s)
theorem ob_eq (s : PySem.W.SharedT) : ob s = hk.obs s.abs := He.obsDG_eq (HandSHeadRun.getT_eq s)
def loose : List PySem.Str := ["divisor", "lowest", "plus", "times", "parted", "whole", "summed", "size_of", "level_of", "may_open", "gates_free", "evened", "level_steps", "level_run", "water_moved", "_law_mixed", "_law_row", "_law_is_int", "_law_like", "_law_low", "_law_sum", "_law_times", "_law_level", "_law_joined", "_law_run", "_law_told", "_law_whole"]
theorem run (w : World) : HandSHeadRun.RunEq R (PySem.W.view R.prog [31]) hk ob 4000 loose w := by
  intro os
  kernel_rfl
theorem all_ok {P : Program} {w : World} {K : PySem.W.Frag} {h : Heap} {mg : Str → Option Value} {f : Addr} (X : K.In h) (G : h.Ns mainGlobals mg) (c : He.SaysD facts defs K) (hfa : mg "law" = some (.ref f)) :
    ∃ fd : FuncData, (∀ (s : Shared) (v : Value), BindsTo s fd ⟨[v], []⟩ [("script", v)]) ∧ ∀ base : Heap, K.In base → base.Ns mainGlobals mg → FnOk P w K mg base CX0 11 f fd ["script"] (spP K 1 f_law) := by
  have m : BF mg := BF.of X G c
  obtain ⟨fd0, F0⟩ := c.def_ 0 rfl
  have m0 : mg "divisor" = some (.ref (He.ga K "divisor")) := He.glo_ok X G (c.fact 19 rfl)
  obtain ⟨fd1, F1⟩ := c.def_ 1 rfl
  have m1 : mg "lowest" = some (.ref (He.ga K "lowest")) := He.glo_ok X G (c.fact 20 rfl)
  obtain ⟨fd2, F2⟩ := c.def_ 2 rfl
  have m2 : mg "plus" = some (.ref (He.ga K "plus")) := He.glo_ok X G (c.fact 21 rfl)
  obtain ⟨fd3, F3⟩ := c.def_ 3 rfl
  have m3 : mg "times" = some (.ref (He.ga K "times")) := He.glo_ok X G (c.fact 22 rfl)
  obtain ⟨fd4, F4⟩ := c.def_ 4 rfl
  have m4 : mg "parted" = some (.ref (He.ga K "parted")) := He.glo_ok X G (c.fact 23 rfl)
  obtain ⟨fd5, F5⟩ := c.def_ 5 rfl
  have m5 : mg "whole" = some (.ref (He.ga K "whole")) := He.glo_ok X G (c.fact 24 rfl)
  obtain ⟨fd6, F6⟩ := c.def_ 6 rfl
  have m6 : mg "summed" = some (.ref (He.ga K "summed")) := He.glo_ok X G (c.fact 25 rfl)
  obtain ⟨fd7, F7⟩ := c.def_ 7 rfl
  have m7 : mg "size_of" = some (.ref (He.ga K "size_of")) := He.glo_ok X G (c.fact 26 rfl)
  obtain ⟨fd8, F8⟩ := c.def_ 8 rfl
  have m8 : mg "level_of" = some (.ref (He.ga K "level_of")) := He.glo_ok X G (c.fact 27 rfl)
  obtain ⟨fd9, F9⟩ := c.def_ 9 rfl
  have m9 : mg "may_open" = some (.ref (He.ga K "may_open")) := He.glo_ok X G (c.fact 28 rfl)
  obtain ⟨fd10, F10⟩ := c.def_ 10 rfl
  have m10 : mg "gates_free" = some (.ref (He.ga K "gates_free")) := He.glo_ok X G (c.fact 29 rfl)
  obtain ⟨fd11, F11⟩ := c.def_ 11 rfl
  have m11 : mg "evened" = some (.ref (He.ga K "evened")) := He.glo_ok X G (c.fact 30 rfl)
  obtain ⟨fd12, F12⟩ := c.def_ 12 rfl
  have m12 : mg "level_steps" = some (.ref (He.ga K "level_steps")) := He.glo_ok X G (c.fact 31 rfl)
  obtain ⟨fd13, F13⟩ := c.def_ 13 rfl
  have m13 : mg "level_run" = some (.ref (He.ga K "level_run")) := He.glo_ok X G (c.fact 32 rfl)
  obtain ⟨fd14, F14⟩ := c.def_ 14 rfl
  have m14 : mg "water_moved" = some (.ref (He.ga K "water_moved")) := He.glo_ok X G (c.fact 33 rfl)
  obtain ⟨fd15, F15⟩ := c.def_ 15 rfl
  have m15 : mg "_law_mixed" = some (.ref (He.ga K "_law_mixed")) := He.glo_ok X G (c.fact 34 rfl)
  obtain ⟨fd16, F16⟩ := c.def_ 16 rfl
  have m16 : mg "_law_row" = some (.ref (He.ga K "_law_row")) := He.glo_ok X G (c.fact 35 rfl)
  obtain ⟨fd17, F17⟩ := c.def_ 17 rfl
  have m17 : mg "_law_is_int" = some (.ref (He.ga K "_law_is_int")) := He.glo_ok X G (c.fact 36 rfl)
  obtain ⟨fd18, F18⟩ := c.def_ 18 rfl
  have m18 : mg "_law_like" = some (.ref (He.ga K "_law_like")) := He.glo_ok X G (c.fact 37 rfl)
  obtain ⟨fd19, F19⟩ := c.def_ 19 rfl
  have m19 : mg "_law_low" = some (.ref (He.ga K "_law_low")) := He.glo_ok X G (c.fact 38 rfl)
  obtain ⟨fd20, F20⟩ := c.def_ 20 rfl
  have m20 : mg "_law_sum" = some (.ref (He.ga K "_law_sum")) := He.glo_ok X G (c.fact 39 rfl)
  obtain ⟨fd21, F21⟩ := c.def_ 21 rfl
  have m21 : mg "_law_times" = some (.ref (He.ga K "_law_times")) := He.glo_ok X G (c.fact 40 rfl)
  obtain ⟨fd22, F22⟩ := c.def_ 22 rfl
  have m22 : mg "_law_level" = some (.ref (He.ga K "_law_level")) := He.glo_ok X G (c.fact 41 rfl)
  obtain ⟨fd23, F23⟩ := c.def_ 23 rfl
  have m23 : mg "_law_joined" = some (.ref (He.ga K "_law_joined")) := He.glo_ok X G (c.fact 42 rfl)
  obtain ⟨fd24, F24⟩ := c.def_ 24 rfl
  have m24 : mg "_law_run" = some (.ref (He.ga K "_law_run")) := He.glo_ok X G (c.fact 43 rfl)
  obtain ⟨fd25, F25⟩ := c.def_ 25 rfl
  have m25 : mg "_law_told" = some (.ref (He.ga K "_law_told")) := He.glo_ok X G (c.fact 44 rfl)
  obtain ⟨fd26, F26⟩ := c.def_ 26 rfl
  have m26 : mg "_law_whole" = some (.ref (He.ga K "_law_whole")) := He.glo_ok X G (c.fact 45 rfl)
  obtain ⟨fd27, F27⟩ := c.def_ 27 rfl
  have m27 : mg "law" = some (.ref (He.ga K "law")) := He.glo_ok X G (c.fact 46 rfl)
  have e := hfa.symm.trans m27
  cases e
  have b := FunD.bindsA (ps := ["script"]) F27 fun _ _ _ _ _ _ us hl => match us, hl with | [_], _ => rfl
  refine ⟨fd27, fun s v => b s [v] rfl, fun base _ _ => ?_⟩
  have D0 : DefOk P w K mg base 1 "divisor" 2 f_divisor := ok_divisor F0 m0 m
  have D1 : DefOk P w K mg base 2 "lowest" 2 f_lowest := ok_lowest F1 m1 m (D0.mono (by decide))
  have D2 : DefOk P w K mg base 3 "plus" 2 f_plus := ok_plus F2 m2 m (D1.mono (by decide))
  have D3 : DefOk P w K mg base 3 "times" 2 f_times := ok_times F3 m3 m (D1.mono (by decide))
  have D4 : DefOk P w K mg base 3 "parted" 2 f_parted := ok_parted F4 m4 m (D1.mono (by decide))
  have D5 : DefOk P w K mg base 1 "whole" 1 f_whole := ok_whole F5 m5 m
  have D6 : DefOk P w K mg base 4 "summed" 1 f_summed := ok_summed F6 m6 m (D2.mono (by decide))
  have D7 : DefOk P w K mg base 1 "size_of" 1 f_size_of := ok_size_of F7 m7 m
  have D8 : DefOk P w K mg base 2 "level_of" 2 f_level_of := ok_level_of F8 m8 m (D5.mono (by decide))
  have D9 : DefOk P w K mg base 3 "may_open" 2 f_may_open := ok_may_open F9 m9 m (D8.mono (by decide))
  have D10 : DefOk P w K mg base 4 "gates_free" 2 f_gates_free := ok_gates_free F10 m10 m (D9.mono (by decide))
  have D11 : DefOk P w K mg base 4 "evened" 4 f_evened := ok_evened F11 m11 m (D5.mono (by decide)) (D2.mono (by decide)) (D3.mono (by decide)) (D4.mono (by decide))
  have D12 : DefOk P w K mg base 5 "level_steps" 3 f_level_steps := ok_level_steps F12 m12 m (D11.mono (by decide)) (D2.mono (by decide)) (D7.mono (by decide)) (D3.mono (by decide)) (D5.mono (by decide)) (D6.mono (by decide))
  have D13 : DefOk P w K mg base 6 "level_run" 3 f_level_run := ok_level_run F13 m13 m (D12.mono (by decide))
  have D14 : DefOk P w K mg base 6 "water_moved" 3 f_water_moved := ok_water_moved F14 m14 m (D12.mono (by decide))
  have D15 : DefOk P w K mg base 1 "_law_mixed" 2 f__law_mixed := ok__law_mixed F15 m15 m
  have D16 : DefOk P w K mg base 2 "_law_row" 2 f__law_row := ok__law_row F16 m16 m (D15.mono (by decide))
  have D17 : DefOk P w K mg base 1 "_law_is_int" 1 f__law_is_int := ok__law_is_int F17 m17 m
  have Z18 : ∀ j, DefOk P w K mg base (2 + j) "_law_like" 2 (g__law_like j) := fun j => by
    induction j with
    | zero => exact DefOk.none' m18 F18.kp (F18.bindsN (ps := ["value", "due"]) fun _ _ _ _ _ _ us hl => match us, hl with | [_, _], _ => rfl) _
    | succ j ih => exact ok__law_like (k := 2 + j) F18 m18 m ih (D17.mono (by omega))
  have D18 : DefOk P w K mg base 10 "_law_like" 2 f__law_like := Z18 8
  have D19 : DefOk P w K mg base 1 "_law_low" 2 f__law_low := ok__law_low F19 m19 m
  have D20 : DefOk P w K mg base 2 "_law_sum" 2 f__law_sum := ok__law_sum F20 m20 m (D19.mono (by decide))
  have D21 : DefOk P w K mg base 2 "_law_times" 2 f__law_times := ok__law_times F21 m21 m (D19.mono (by decide))
  have D22 : DefOk P w K mg base 1 "_law_level" 2 f__law_level := ok__law_level F22 m22 m
  have D23 : DefOk P w K mg base 3 "_law_joined" 3 f__law_joined := ok__law_joined F23 m23 m (D20.mono (by decide)) (D21.mono (by decide))
  have D24 : DefOk P w K mg base 4 "_law_run" 3 f__law_run := ok__law_run F24 m24 m (D23.mono (by decide)) (D20.mono (by decide))
  have D25 : DefOk P w K mg base 7 "_law_told" 3 f__law_told := ok__law_told F25 m25 m (D14.mono (by decide)) (D13.mono (by decide))
  have D26 : DefOk P w K mg base 3 "_law_whole" 2 f__law_whole := ok__law_whole F26 m26 m (D20.mono (by decide)) (D21.mono (by decide))
  exact fnOk_body (k := 10) F27 sc_law fun cdv A outer s H E hr => bd_law m (D16.mono (by decide)) (D19.mono (by decide)) (D24.mono (by decide)) (D18.mono (by decide)) (D25.mono (by decide)) (D13.mono (by decide)) (D26.mono (by decide)) (D22.mono (by decide)) (D10.mono (by decide)) (D9.mono (by decide)) (D21.mono (by decide)) hr
end Wk
open PySem PySem.W PySem.Calls PyProof.Rows
set_option maxHeartbeats 0 in
theorem PySem.Challenge.cw_dockheld_k17_whole_basins_joined_by_turn_holds : PySem.Challenge.rw_dockheld_k17_whole_basins_joined_by_turn.Holds := by
  w_on; o_law
  refine HandSHeadRun.head_any (r := OpenLaw.row PySem.Challenge.rw_dockheld_k17_whole_basins_joined_by_turn) (q := view (OpenLaw.row PySem.Challenge.rw_dockheld_k17_whole_basins_joined_by_turn).prog [31]) (H := Wk.hk) (ob := Wk.ob) (M := 4000) (loose := Wk.loose) (d := HandSHeadRun.topDef (OpenLaw.row PySem.Challenge.rw_dockheld_k17_whole_basins_joined_by_turn).prog 31) (kwd := []) Wk.ob_eq
    (by kernel_rfl) (fun s => by kernel_rfl) Wk.run (by kernel_rfl) (by kernel_rfl) (by kernel_rfl) (by rfl) (by first | assumption | decide +kernel) (by decide +kernel) ⟨rfl, rfl, rfl, rfl, rfl, by decide +kernel⟩ ?hw ?hc
  case hw => w_witness2
  case hc =>
    refine Pl.law_end (l := PySem.Challenge.rw_dockheld_k17_whole_basins_joined_by_turn) (k := 11) (fa := Wk.facts) (fn := Wk.defs) rfl (by kernel_rfl) ⟨rfl, by decide, by decide⟩ (by kernel_rfl) (fun _ _ y => y) Wk.law_true ?F
    intro w K mg h KX G c f hf
    exact Wk.all_ok KX G c hf
