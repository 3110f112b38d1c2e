import PyProof.Rows.All
import HandS.ForMost
import HandS.TupAny
import HandS.TupMul
import HandS.Conv
import HandS.Flow
import HandS.Zip
import HandS.Rev
import HandS.Wide
import HandS.Style
import HandS.SortKw
import HandS.IsInst
import HandS.Deep
import KE.SortData
import KE.DataCmp
import HandS.Defaults
import HandS.HeadEnd
import HandS.HeadHook1
import HandS.HeadHook2
import KE.GoesEnum
import KE.GoesNew
import PySem.Challenge.RW_dockheld_k01_whole_fenders_and_speeds
import KE.Datum
import Wide.All
import OpenK.AllK
import Wide.FinOn
import KE.KStateDown
import HandS.Head0
import HandS.Head1
import HandS.Head2
set_option Elab.async false
set_option linter.all false
set_option maxRecDepth 100000
set_option maxHeartbeats 4000000
set_option autoImplicit false
/-! Pl: a pure layer over HandS. Values are PyData; an expression is read as a function of the slots. -/
namespace Pl
open PySem PySem.Spec PyProof.Rows L2
variable {K : PySem.W.Frag}

abbrev PV := PyData
/-- a slot: not known, a value that never changes, a list (dict) of the def's own -/
inductive Slot where
  | un | val (v : PV) | own (v : PV)
abbrev PEnv := List Slot
abbrev PF := PEnv → Option PV

/-! ### representation -/
mutual
/-- the value v stands for the data d, all of it in F -/
inductive Dr (K : PySem.W.Frag) (F : Hp) : V → PyData → Prop
  | non : Dr K F .non .none
  | bl (b : Bool) : Dr K F (.bl b) (.bool b)
  | int (i : Int) : Dr K F (.int i) (.int i)
  | str (x : Str) : Dr K F (.str x) (.str x)
  | lst {a : Addr} {xs : List V} {ds : List PyData} (h : SqL K F a xs) (g : DrAll K F xs ds) : Dr K F (.ref a) (.list ds)
  | tup {a : Addr} {xs : List V} {ds : List PyData} (h : SqT K F a xs) (g : DrAll K F xs ds) : Dr K F (.ref a) (.tuple ds)
inductive DrAll (K : PySem.W.Frag) (F : Hp) : List V → List PyData → Prop
  | nil : DrAll K F [] []
  | cons {v : V} {vs : List V} {d : PyData} {ds : List PyData} (h : Dr K F v d) (g : DrAll K F vs ds) : DrAll K F (v :: vs) (d :: ds)
end
theorem sqL_same {H H' : Hp} {a : Addr} {xs : List V} (e : Same H H') (h : SqL K H a xs) : SqL K H' a xs := e.seq h
theorem sqT_same {H H' : Hp} {a : Addr} {xs : List V} (e : Same H H') (h : SqT K H a xs) : SqT K H' a xs := by
  rcases h with (h | ⟨o, h⟩) | h
  · exact .inl (.inl (e _ _ h))
  · exact .inl (.inr ⟨o, e _ _ h⟩)
  · exact .inr h
theorem rd_same {H H' : Hp} {a : Addr} {o : HO} (e : Same H H') (h : Rd H a o) : Rd H' a o := by
  rcases h with h | ⟨u, h⟩
  · exact .inl (e _ _ h)
  · exact .inr ⟨u, e _ _ h⟩
mutual
theorem dr_same {F F' : Hp} (e : Same F F') : ∀ (d : PyData) (v : V), Dr K F v d → Dr K F' v d
  | .none, _, h => by cases h; exact .non
  | .bool b, _, h => by cases h; exact .bl b
  | .int i, _, h => by cases h; exact .int i
  | .str x, _, h => by cases h; exact .str x
  | .list ds, _, h => by
    cases h with
    | lst hs ha => exact .lst (sqL_same e hs) (drAll_same e ds _ ha)
  | .tuple ds, _, h => by
    cases h with
    | tup hs ha => exact .tup (sqT_same e hs) (drAll_same e ds _ ha)
  | .dict _, _, h => by cases h
theorem drAll_same {F F' : Hp} (e : Same F F') : ∀ (ds : List PyData) (vs : List V), DrAll K F vs ds → DrAll K F' vs ds
  | [], _, h => by cases h; exact .nil
  | d :: ds, _, h => by
    cases h with
    | cons h1 h2 => exact .cons (dr_same e d _ h1) (drAll_same e ds _ h2)
end
mutual
theorem dr_dp {F : Hp} : ∀ (d : PyData) (v : V), Dr K F v d → Dp K F v d
  | .none, _, h => by cases h; exact .non
  | .bool b, _, h => by cases h; exact .bl b
  | .int i, _, h => by cases h; exact .int i
  | .str x, _, h => by cases h; exact .str x
  | .list ds, _, h => by
    cases h with
    | lst hs ha => exact .lst hs (drAll_dp ds _ ha)
  | .tuple ds, _, h => by
    cases h with
    | tup hs ha => exact .tup hs (drAll_dp ds _ ha)
  | .dict _, _, h => by cases h
theorem drAll_dp {F : Hp} : ∀ (ds : List PyData) (vs : List V), DrAll K F vs ds → DpAll K F vs ds
  | [], _, h => by cases h; exact .nil
  | d :: ds, _, h => by
    cases h with
    | cons h1 h2 => exact .cons (dr_dp d _ h1) (drAll_dp ds _ h2)
end
theorem drAll_length {F : Hp} : ∀ {ds : List PyData} {vs : List V}, DrAll K F vs ds → vs.length = ds.length
  | [], _, h => by cases h; rfl
  | d :: ds, _, h => by
    cases h with
    | cons h1 h2 => rw [List.length_cons, List.length_cons, drAll_length h2]
theorem drAll_append {F : Hp} : ∀ {ds es : List PyData} {vs ws : List V}, DrAll K F vs ds → DrAll K F ws es → DrAll K F (vs ++ ws) (ds ++ es)
  | [], _, _, _, h, g => by cases h; exact g
  | d :: ds, _, _, _, h, g => by
    cases h with
    | cons h1 h2 => exact .cons h1 (drAll_append h2 g)
theorem drAll_get {F : Hp} : ∀ {ds : List PyData} {vs : List V} {i : Nat} {d : PyData}, DrAll K F vs ds → ds[i]? = some d → ∃ v, vs[i]? = some v ∧ Dr K F v d
  | [], _, _, _, h, e => by simp at e
  | d :: ds, _, 0, _, h, e => by
    cases h with
    | cons h1 h2 =>
      simp at e
      subst e
      exact ⟨_, rfl, h1⟩
  | d :: ds, _, i + 1, _, h, e => by
    cases h with
    | cons h1 h2 => simpa using drAll_get h2 (by simpa using e)
theorem drAll_get' {F : Hp} : ∀ {ds : List PyData} {vs : List V} {i : Nat} {v : V}, DrAll K F vs ds → vs[i]? = some v → ∃ d, ds[i]? = some d ∧ Dr K F v d
  | [], _, _, _, h, e => by cases h; simp at e
  | d :: ds, _, 0, _, h, e => by
    cases h with
    | cons h1 h2 =>
      simp at e
      subst e
      exact ⟨_, rfl, h1⟩
  | d :: ds, _, i + 1, _, h, e => by
    cases h with
    | cons h1 h2 => simpa using drAll_get' h2 (by simpa using e)
theorem drAll_drop {F : Hp} : ∀ {ds : List PyData} {vs : List V} (n : Nat), DrAll K F vs ds → DrAll K F (vs.drop n) (ds.drop n)
  | _, _, 0, h => h
  | [], _, n + 1, h => by cases h; exact .nil
  | d :: ds, _, n + 1, h => by
    cases h with
    | cons h1 h2 => exact drAll_drop n h2
theorem drAll_take {F : Hp} : ∀ {ds : List PyData} {vs : List V} (n : Nat), DrAll K F vs ds → DrAll K F (vs.take n) (ds.take n)
  | _, _, 0, h => .nil
  | [], _, n + 1, h => by cases h; exact .nil
  | d :: ds, _, n + 1, h => by
    cases h with
    | cons h1 h2 => exact .cons h1 (drAll_take n h2)
theorem drAll_set {F : Hp} {v : V} {d : PyData} (q : Dr K F v d) : ∀ {ds : List PyData} {vs : List V} (n : Nat), DrAll K F vs ds → DrAll K F (vs.set n v) (ds.set n d)
  | [], _, _, h => by cases h; exact .nil
  | _ :: ds, _, 0, h => by
    cases h with
    | cons h1 h2 => exact .cons q h2
  | _ :: ds, _, n + 1, h => by
    cases h with
    | cons h1 h2 => exact .cons h1 (drAll_set q n h2)
theorem drAll_ints {F : Hp} : ∀ {ns : List Int} {vs : List V}, DrAll K F vs (ns.map PyData.int) → vs = ns.map V.int
  | [], _, h => by cases h; rfl
  | n :: ns, _, h => by
    cases h with
    | cons h1 h2 =>
      cases h1
      rw [List.map_cons, drAll_ints h2]
theorem drAll_of_ints {F : Hp} : ∀ (ns : List Int), DrAll K F (ns.map V.int) (ns.map PyData.int)
  | [] => .nil
  | n :: ns => .cons (.int n) (drAll_of_ints ns)

/-- an object of the def's own at a, its contents in F -/
def OwnR (K : PySem.W.Frag) (F H : Hp) (a : Addr) : PV → Prop
  | .list l => ∃ xs, H a = some (.lst xs) ∧ DrAll K F xs l
  | _ => False
theorem OwnR.same {F F' H H' : Hp} {a : Addr} {v : PV} (h : OwnR K F H a v) (e : Same F F') (q : H' a = H a) : OwnR K F' H' a v := by
  cases v with
  | list l =>
    obtain ⟨xs, h1, h2⟩ := h
    exact ⟨xs, q.trans h1, drAll_same e _ _ h2⟩
  | _ => exact h.elim
theorem OwnR.some {F H : Hp} {a : Addr} {v : PV} (h : OwnR K F H a v) : ∃ o, H a = some o := by
  cases v with
  | list l =>
    obtain ⟨xs, h1, h2⟩ := h
    exact ⟨_, h1⟩
  | _ => exact h.elim
/-- what may be looked at -/
def BoR (K : PySem.W.Frag) (F H : Hp) (x : V) (v : PV) : Prop := Dr K F x v ∨ ∃ a, x = .ref a ∧ OwnR K F H a v

/-- slots and what stands for them. B: the heap at the def's entry, F0: what was known then, F: what is known now and never changes -/
structure RE (K : PySem.W.Frag) (B F0 F H : Hp) (σ : L2.St) (ρ : PEnv) : Prop where
  fh : Same F H
  bh : Same B H
  f0 : Same F0 F
  ff : ∀ a o, F a = some o → F0 a = some o ∨ B a = none
  len : σ.length = ρ.length
  val : ∀ (i : Nat) v, ρ[i]? = some (.val v) → ∃ x, σ[i]? = some (some x) ∧ Dr K F x v
  own : ∀ (i : Nat) v, ρ[i]? = some (.own v) → ∃ a, σ[i]? = some (some (.ref a)) ∧ F a = none ∧ B a = none ∧ OwnR K F H a v
  sep : ∀ (i j : Nat) v w a, ρ[i]? = some (.own v) → ρ[j]? = some (.own w) → σ[i]? = some (some (.ref a)) → σ[j]? = some (some (.ref a)) → i = j
/-- what an expression may do -/
structure Ext (F H F' H' : Hp) : Prop where
  f : Same F F'
  h : Same H H'
  n : ∀ a o, F' a = some o → F a = some o ∨ H a = none
theorem Ext.refl (F H : Hp) : Ext F H F H := ⟨Same.refl F, Same.refl H, fun _ _ h => .inl h⟩
theorem Ext.trans {F H F1 H1 F2 H2 : Hp} (a : Ext F H F1 H1) (b : Ext F1 H1 F2 H2) : Ext F H F2 H2 :=
  ⟨a.f.trans b.f, a.h.trans b.h, fun c o h => by
    rcases b.n c o h with q | q
    · exact a.n c o q
    · exact .inr (a.h.free q)⟩
theorem Ext.keepNone {F H F' H' : Hp} (e : Ext F H F' H') {a : Addr} {o : HO} (h : H a = some o) (f : F a = none) : F' a = none := by
  cases q : F' a with
  | none => rfl
  | some u =>
    rcases e.n a u q with r | r
    · rw [f] at r; cases r
    · rw [h] at r; cases r
theorem RE.ext {B F0 F H F' H' : Hp} {σ : L2.St} {ρ : PEnv} (R : RE K B F0 F H σ ρ) (e : Ext F H F' H') (fh : Same F' H') : RE K B F0 F' H' σ ρ where
  fh := fh
  bh := R.bh.trans e.h
  f0 := R.f0.trans e.f
  ff := fun a o h => by
    rcases e.n a o h with q | q
    · exact R.ff a o q
    · exact .inr (R.bh.free q)
  len := R.len
  val := fun i v h => by
    obtain ⟨x, h1, h2⟩ := R.val i v h
    exact ⟨x, h1, dr_same e.f _ _ h2⟩
  own := fun i v h => by
    obtain ⟨a, h1, h2, h3, h4⟩ := R.own i v h
    obtain ⟨o, ho⟩ := h4.some
    exact ⟨a, h1, e.keepNone ho h2, h3, h4.same e.f (by rw [e.h _ _ ho, ho])⟩
  sep := R.sep
/-- a new object is made and kept apart -/
theorem ext_new {F H : Hp} {p : Addr} {o : HO} (h : H p = none) : Ext F H F (upd H p o) := ⟨Same.refl F, fun b u e => by
  rw [upd_ne (ne_of_none e h)]
  exact e, fun _ _ h => .inl h⟩
theorem same_upd2 {F H : Hp} {p : Addr} {o : HO} (e : Same F H) (h : H p = none) : Same F (upd H p o) := fun b u q => by
  rw [upd_ne (ne_of_none (e _ _ q) h)]
  exact e _ _ q
/-- a new object that never changes -/
theorem ext_frz {F H : Hp} {p : Addr} {o : HO} (fh : Same F H) (h : H p = none) : Ext F H (upd F p o) (upd H p o) := ⟨fun b u e => by
  rw [upd_ne (ne_of_none (fh _ _ e) h)]
  exact e, fun b u e => by
  rw [upd_ne (ne_of_none e h)]
  exact e, fun a u q => by
  by_cases z : a = p
  · subst z
    exact .inr h
  · rw [upd_ne z] at q
    exact .inl q⟩
theorem same_frz {F H : Hp} {p : Addr} {o : HO} (fh : Same F H) (h : H p = none) : Same (upd F p o) (upd H p o) := fun b u e => by
  by_cases z : b = p
  · subst z
    rw [upd_same] at e ⊢
    exact e
  · rw [upd_ne z] at e ⊢
    exact fh _ _ e

/-! ### readings -/
def tP (K : PySem.W.Frag) (f : PF) : TE := fun σ H Q => ∃ B F0 F ρ v, RE K B F0 F H σ ρ ∧ f ρ = some v ∧ ∀ x H' F', RE K B F0 F' H' σ ρ → Ext F H F' H' → Dr K F' x v → Q x H'
def tF (K : PySem.W.Frag) (f : PF) : TE := fun σ H Q => ∃ B F0 F ρ v, RE K B F0 F H σ ρ ∧ f ρ = some v ∧ ∀ a H' F', RE K B F0 F' H' σ ρ → Ext F H F' H' → F' a = none → H a = none → OwnR K F' H' a v → Q (.ref a) H'
def tB (K : PySem.W.Frag) (f : PF) : TE := fun σ H Q => ∃ B F0 F ρ v, RE K B F0 F H σ ρ ∧ f ρ = some v ∧ ∀ x H' F', RE K B F0 F' H' σ ρ → Ext F H F' H' → BoR K F' H' x v → Q x H'
def tA (K : PySem.W.Frag) (f : PEnv → Option (List PV)) : TA := fun σ H Q => ∃ B F0 F ρ v, RE K B F0 F H σ ρ ∧ f ρ = some v ∧ ∀ x H' F', RE K B F0 F' H' σ ρ → Ext F H F' H' → DrAll K F' x v → Q x H'
def tT (K : PySem.W.Frag) (f : PEnv → Option Bool) : TT := fun σ H Q => ∃ B F0 F ρ v, RE K B F0 F H σ ρ ∧ f ρ = some v ∧ ∀ H' F', RE K B F0 F' H' σ ρ → Ext F H F' H' → Q v H'
/-- an expression that gives a value that never changes; one that makes an own object; one that is only looked at -/
abbrev SE (X : Cx) (e : Expr) (f : PF) : Prop := PE X e (tP X.K f)
abbrev SF (X : Cx) (e : Expr) (f : PF) : Prop := PE X e (tF X.K f)
abbrev SB (X : Cx) (e : Expr) (f : PF) : Prop := PE X e (tB X.K f)
abbrev SA (X : Cx) (es : List Expr) (f : PEnv → Option (List PV)) : Prop := PA X es (tA X.K f)
abbrev ST (X : Cx) (e : Expr) (f : PEnv → Option Bool) : Prop := PT X e (tT X.K f)
abbrev SW (X : Cx) (e : Expr) (f : PEnv → Option Bool) : Prop := PW X e (tT X.K f)

theorem PE.imp {X : Cx} {e : Expr} {t t' : TE} (h : PE X e t) (i : ∀ σ H Q, t' σ H Q → t σ H Q) : PE X e t' := ⟨fun pins s σ H Q I q => h.run pins s σ H Q I (i σ H Q q)⟩
theorem PT.imp {X : Cx} {e : Expr} {t t' : TT} (h : PT X e t) (i : ∀ σ H Q, t' σ H Q → t σ H Q) : PT X e t' := ⟨fun pins s σ H Q I q => h.run pins s σ H Q I (i σ H Q q)⟩
theorem PW.imp {X : Cx} {e : Expr} {t t' : TT} (h : PW X e t) (i : ∀ σ H Q, t' σ H Q → t σ H Q) : PW X e t' := ⟨fun wh pins s σ H Q I q => h.run wh pins s σ H Q I (i σ H Q q)⟩
theorem PA.imp {X : Cx} {e : List Expr} {t t' : TA} (h : PA X e t) (i : ∀ σ H Q, t' σ H Q → t σ H Q) : PA X e t' := ⟨fun pos pins s σ H Q I q => h.run pos pins s σ H Q I (i σ H Q q)⟩
theorem PS.imp {X : Cx} {e : Stmt} {t t' : TS} (h : PS X e t) (i : ∀ D σ H, t' D σ H → t D σ H) : PS X e t' := ⟨fun pins s σ H D I q => h.run pins s σ H D I (i D σ H q)⟩
theorem PSs.imp {X : Cx} {e : List Stmt} {t t' : TS} (h : PSs X e t) (i : ∀ D σ H, t' D σ H → t D σ H) : PSs X e t' := ⟨fun pins s σ H D I q => h.run pins s σ H D I (i D σ H q)⟩

/-! ### combinators -/
def eK (v : PV) : PF := fun _ => some v
def eV (i : Nat) : PF := fun ρ => match ρ[i]? with | some (.val v) => some v | _ => none
def eB (i : Nat) : PF := fun ρ => match ρ[i]? with | some (.val v) => some v | some (.own v) => some v | _ => none
def e1 (g : PV → Option PV) (a : PF) : PF := fun ρ => (a ρ).bind g
def e2 (g : PV → PV → Option PV) (a b : PF) : PF := fun ρ => (a ρ).bind fun x => (b ρ).bind fun y => g x y
def aNil : PEnv → Option (List PV) := fun _ => some []
def aCons (a : PF) (r : PEnv → Option (List PV)) : PEnv → Option (List PV) := fun ρ => (a ρ).bind fun x => (r ρ).bind fun l => some (x :: l)
def eCall (g : List PV → Option PV) (a : PEnv → Option (List PV)) : PF := fun ρ => (a ρ).bind g
def eIf (c : PEnv → Option Bool) (a b : PF) : PF := fun ρ => (c ρ).bind fun k => if k = true then a ρ else b ρ
def toB : PV → Option Bool | .bool b => some b | _ => none
def ofB (b : Bool) : PV := .bool b
def cB (a : PF) : PEnv → Option Bool := fun ρ => (a ρ).bind toB
def cAnd (a b : PEnv → Option Bool) : PEnv → Option Bool := fun ρ => (a ρ).bind fun k => if k = true then b ρ else some false
def cOr (a b : PEnv → Option Bool) : PEnv → Option Bool := fun ρ => (a ρ).bind fun k => if k = true then some true else b ρ
def cNot (a : PEnv → Option Bool) : PEnv → Option Bool := fun ρ => (a ρ).bind fun k => some (!k)
/-- and, or as values, where the first is a bool -/
def eAnd (a b : PF) : PF := fun ρ => (a ρ).bind fun x => (toB x).bind fun k => if k = true then b ρ else some (.bool false)
def eOr (a b : PF) : PF := fun ρ => (a ρ).bind fun x => (toB x).bind fun k => if k = true then some (.bool true) else b ρ
def eNot (a : PF) : PF := fun ρ => (a ρ).bind fun x => (toB x).bind fun k => some (.bool (!k))

section
variable {X : Cx} {a b c : Expr} {f g : PF} {pos : Pos}
theorem bind_some {α β : Type} {o : Option α} {k : α → Option β} {y : β} (h : o.bind k = some y) : ∃ x, o = some x ∧ k x = some y := by
  cases o with
  | none => cases h
  | some x => exact ⟨x, rfl, h⟩

/-! ### from one kind to another -/
theorem sb_of (h : SE X a f) : SB X a f := PE.imp h fun σ H Q ⟨B, F0, F, ρ, v, R, e, q⟩ => ⟨B, F0, F, ρ, v, R, e, fun x H' F' R' E' d => q x H' F' R' E' (.inl d)⟩
theorem sb_ofF (h : SF X a f) : SB X a f := PE.imp h fun σ H Q ⟨B, F0, F, ρ, v, R, e, q⟩ => ⟨B, F0, F, ρ, v, R, e, fun x H' F' R' E' _ _ d => q _ H' F' R' E' (.inr ⟨x, rfl, d⟩)⟩
theorem RE.freeze {B F0 F H : Hp} {σ : L2.St} {ρ : PEnv} {p : Addr} {o : HO} (R : RE K B F0 F H σ ρ) (hp : H p = some o) (fp : F p = none) (bp : B p = none)
    (no : ∀ (i : Nat) v, ρ[i]? = some (.own v) → σ[i]? ≠ some (some (.ref p))) : RE K B F0 (upd F p o) H σ ρ := by
  have ef : Same F (upd F p o) := fun b u e => by
    rw [upd_ne (ne_of_none e fp)]
    exact e
  refine ⟨fun b u e => ?_, R.bh, R.f0.trans ef, fun b u e => ?_, R.len, fun i v h => ?_, fun i v h => ?_, R.sep⟩
  · by_cases z : b = p
    · subst z
      rw [upd_same] at e
      rw [hp]
      exact e
    · rw [upd_ne z] at e
      exact R.fh _ _ e
  · by_cases z : b = p
    · subst z
      exact .inr bp
    · rw [upd_ne z] at e
      exact R.ff _ _ e
  · obtain ⟨x, h1, h2⟩ := R.val i v h
    exact ⟨x, h1, dr_same ef _ _ h2⟩
  · obtain ⟨a, h1, h2, h3, h4⟩ := R.own i v h
    have z : a ≠ p := fun z => no i v h (z ▸ h1)
    exact ⟨a, h1, by rw [upd_ne z]; exact h2, h3, h4.same ef rfl⟩
/-- an own object given up: from now on it never changes -/
theorem own_dp {F H : Hp} {a : Addr} {v : PV} (h : OwnR K F H a v) (fa : F a = none) : ∃ o, H a = some o ∧ Dr K (upd F a o) (.ref a) v := by
  cases v with
  | list l =>
    obtain ⟨xs, h1, h2⟩ := h
    refine ⟨_, h1, .lst (.inl (.inl upd_same)) (drAll_same (fun b u e => ?_) _ _ h2)⟩
    rw [upd_ne (ne_of_none e fa)]
    exact e
  | _ => exact h.elim
theorem tF_of_tP {σ : L2.St} {H : Hp} {Q : VK} (w : tP K f σ H Q) : tF K f σ H Q := by
  obtain ⟨B, F0, F, ρ, v, R, e, q⟩ := w
  exact ⟨B, F0, F, ρ, v, R, e, fun p H' F' R' E' fp hp d => by
  obtain ⟨o, ho, hd⟩ := own_dp d fp
  have bp : B p = none := R.bh.free hp
  have no : ∀ (i : Nat) v, ρ[i]? = some (.own v) → σ[i]? ≠ some (some (.ref p)) := fun i v hi z => by
    obtain ⟨a, h1, h2, h3, h4⟩ := R.own i v hi
    obtain ⟨u, hu⟩ := h4.some
    rw [z] at h1
    cases h1
    rw [hp] at hu
    cases hu
  refine q _ H' (upd F' p o) (R'.freeze ho fp bp no) ⟨fun b u z => ?_, E'.h, fun b u z => ?_⟩ hd
  · have z' := E'.f _ _ z
    rw [upd_ne (ne_of_none z' fp)]
    exact z'
  · by_cases y : b = p
    · subst y
      exact .inr hp
    · rw [upd_ne y] at z
      exact E'.n _ _ z⟩
theorem se_ofF (h : SF X a f) : SE X a f := PE.imp h fun _ _ _ w => tF_of_tP w

/-! ### names, constants -/
theorem se_const {v : PV} {x : V} (h : PE X a (tC x)) (d : ∀ F, Dr X.K F x v) : SE X a (eK v) := PE.imp h fun σ H Q ⟨B, F0, F, ρ, w, R, e, q⟩ => by
  cases e
  exact q x H F R (Ext.refl _ _) (d _)
theorem se_int {i j} : SE X (.Constant (.int i) j pos) (eK (.int i)) := se_const pe_int fun _ => .int i
theorem se_bl {i j} : SE X (.Constant (.bool i) j pos) (eK (.bool i)) := se_const pe_bl fun _ => .bl i
theorem se_non {j} : SE X (.Constant .none j pos) (eK .none) := se_const pe_non fun _ => .non
theorem se_str {i j} : SE X (.Constant (.str i) j pos) (eK (.str i)) := se_const pe_str fun _ => .str i
theorem se_var (i : Nat) (h : PE X a (tVar i)) : SE X a (eV i) := PE.imp h fun σ H Q ⟨B, F0, F, ρ, w, R, e, q⟩ => by
  unfold eV at e
  split at e
  · rename_i v hv
    cases e
    obtain ⟨x, h1, h2⟩ := R.val i _ hv
    exact ⟨x, h1, q x H F R (Ext.refl _ _) h2⟩
  · cases e
theorem sb_var (i : Nat) (h : PE X a (tVar i)) : SB X a (eB i) := PE.imp h fun σ H Q ⟨B, F0, F, ρ, w, R, e, q⟩ => by
  unfold eB at e
  split at e
  · rename_i v hv
    cases e
    obtain ⟨x, h1, h2⟩ := R.val i _ hv
    exact ⟨x, h1, q x H F R (Ext.refl _ _) (.inl h2)⟩
  · rename_i v hv
    cases e
    obtain ⟨p, h1, h2, h3, h4⟩ := R.own i _ hv
    exact ⟨_, h1, q _ H F R (Ext.refl _ _) (.inr ⟨p, rfl, h4⟩)⟩
  · cases e

/-! ### two places -/
/-- an operation on two looked-at values that gives a value without a heap -/
theorem BoR.ext {F H F' H' : Hp} {x : V} {v : PV} (h : BoR K F H x v) (e : Ext F H F' H') : BoR K F' H' x v := by
  rcases h with h | ⟨a, rfl, h⟩
  · exact .inl (dr_same e.f _ _ h)
  · obtain ⟨o, ho⟩ := h.some
    exact .inr ⟨a, rfl, h.same e.f (by rw [e.h _ _ ho, ho])⟩
/-- an operation by values: what its rule wants is had from what the values stand for -/
def Op2 (K : PySem.W.Frag) (r : R2) (g : PV → PV → Option PV) : Prop := ∀ (F H : Hp) (x y : V) (v w z : PV) (Q : VK), Same F H → BoR K F H x v → BoR K F H y w → g v w = some z →
  (∀ u H' F', Ext F H F' H' → Same F' H' → Dr K F' u z → Q u H') → r x y H Q
def Op2F (K : PySem.W.Frag) (r : R2) (g : PV → PV → Option PV) : Prop := ∀ (F H : Hp) (x y : V) (v w z : PV) (Q : VK), Same F H → BoR K F H x v → BoR K F H y w → g v w = some z →
  (∀ p H' F', Ext F H F' H' → Same F' H' → F' p = none → H p = none → OwnR K F' H' p z → Q (.ref p) H') → r x y H Q
theorem se_op2 {r : R2} {h : PV → PV → Option PV} (o : Op2 X.K r h) (ha : SB X a f) (hb : SB X b g) {e : Expr} (he : ∀ {ta tb}, PE X a ta → PE X b tb → PE X e (tOp r ta tb)) : SE X e (e2 h f g) :=
  PE.imp (he ha hb) fun σ H Q ⟨B, F0, F, ρ, z, R, e, q⟩ => by
    obtain ⟨v, e1, e⟩ := bind_some e
    obtain ⟨w, e2, e⟩ := bind_some e
    refine ⟨B, F0, F, ρ, v, R, e1, fun x H1 F1 R1 E1 d1 => ⟨B, F0, F1, ρ, w, R1, e2, fun y H2 F2 R2 E2 d2 => ?_⟩⟩
    exact o F2 H2 x y v w z Q R2.fh (d1.ext E2) d2 e fun u H3 F3 E3 s3 d3 => q u H3 F3 (R2.ext E3 s3) ((E1.trans E2).trans E3) d3
theorem sf_op2 {r : R2} {h : PV → PV → Option PV} (o : Op2F X.K r h) (ha : SB X a f) (hb : SB X b g) {e : Expr} (he : ∀ {ta tb}, PE X a ta → PE X b tb → PE X e (tOp r ta tb)) : SF X e (e2 h f g) :=
  PE.imp (he ha hb) fun σ H Q ⟨B, F0, F, ρ, z, R, e, q⟩ => by
    obtain ⟨v, e1, e⟩ := bind_some e
    obtain ⟨w, e2, e⟩ := bind_some e
    refine ⟨B, F0, F, ρ, v, R, e1, fun x H1 F1 R1 E1 d1 => ⟨B, F0, F1, ρ, w, R1, e2, fun y H2 F2 R2 E2 d2 => ?_⟩⟩
    exact o F2 H2 x y v w z Q R2.fh (d1.ext E2) d2 e fun p H3 F3 E3 s3 fp hp d3 => q p H3 F3 (R2.ext E3 s3) ((E1.trans E2).trans E3) fp ((E1.trans E2).h.free hp) d3
theorem bor_int {F H : Hp} {x : V} {i : Int} (h : BoR K F H x (.int i)) : x = .int i := by
  rcases h with h | ⟨a, rfl, h⟩
  · cases h; rfl
  · exact h.elim
theorem bor_bool {F H : Hp} {x : V} {i : Bool} (h : BoR K F H x (.bool i)) : x = .bl i := by
  rcases h with h | ⟨a, rfl, h⟩
  · cases h; rfl
  · exact h.elim
theorem bor_str {F H : Hp} {x : V} {i : Str} (h : BoR K F H x (.str i)) : x = .str i := by
  rcases h with h | ⟨a, rfl, h⟩
  · cases h; rfl
  · exact h.elim
theorem bor_none {F H : Hp} {x : V} (h : BoR K F H x .none) : x = .non := by
  rcases h with h | ⟨a, rfl, h⟩
  · cases h; rfl
  · exact h.elim
theorem bor_tup {F H : Hp} {x : V} {l : List PV} (fh : Same F H) (h : BoR K F H x (.tuple l)) : ∃ a xs, x = .ref a ∧ SqT K F a xs ∧ SqT K H a xs ∧ DrAll K F xs l := by
  rcases h with h | ⟨a, rfl, h⟩
  · cases h with
    | tup hs ha => exact ⟨_, _, rfl, hs, sqT_same fh hs, ha⟩
  · exact h.elim
theorem bor_lst {F H : Hp} {x : V} {l : List PV} (fh : Same F H) (h : BoR K F H x (.list l)) : ∃ a xs, x = .ref a ∧ SqL K H a xs ∧ DrAll K F xs l := by
  rcases h with h | ⟨a, rfl, h⟩
  · cases h with
    | lst hs ha => exact ⟨_, _, rfl, sqL_same fh hs, ha⟩
  · obtain ⟨xs, h1, h2⟩ := h
    exact ⟨a, xs, rfl, .inl (.inl h1), h2⟩
/-- what is looked at, as data of the whole heap -/
theorem bor_dp {F H : Hp} {x : V} {v : PV} (fh : Same F H) (h : BoR K F H x v) : Dp K H x v := by
  rcases h with h | ⟨a, rfl, h⟩
  · exact dr_dp _ _ (dr_same fh _ _ h)
  · cases v with
    | list l =>
      obtain ⟨xs, h1, h2⟩ := h
      exact .lst (.inl (.inl h1)) (drAll_dp _ _ (drAll_same fh _ _ h2))
    | _ => exact h.elim
end
end Pl

set_option Elab.async false
set_option linter.all false
set_option maxRecDepth 100000
set_option maxHeartbeats 4000000
set_option autoImplicit false
namespace Pl
open PySem PySem.Spec PyProof.Rows L2
open PySem.W (alike dataLt lt_data le_data gt_data ge_data)
variable {K : PySem.W.Frag}

/-! ### operations on data -/
def mulOk (i j : Int) : Bool := decide (i.natAbs < 2 ^ 63) || decide (j.natAbs < 2 ^ 63)
def divOk (j : Int) : Bool := decide (j.natAbs.log2 < 9000)
def lineOk (n : Nat) : Bool := decide (n ≤ sizeLine)
def pAdd : PV → PV → Option PV
  | .int i, .int j => some (.int (i + j))
  | .tuple a, .tuple b => if lineOk (a.length + b.length) = true then some (.tuple (a ++ b)) else none
  | _, _ => none
def pCat : PV → PV → Option PV
  | .list a, .list b => if lineOk (a.length + b.length) = true then some (.list (a ++ b)) else none
  | _, _ => none
def pSub : PV → PV → Option PV
  | .int i, .int j => some (.int (i - j))
  | _, _ => none
def pMul : PV → PV → Option PV
  | .int i, .int j => if mulOk i j = true then some (.int (i * j)) else none
  | _, _ => none
def pDiv : PV → PV → Option PV
  | .int i, .int j => if 0 < j then (if divOk j = true then some (.int (i / j)) else none) else if j < 0 ∧ -1073741824 < j then some (.int (i.fdiv j)) else none
  | _, _ => none
def pMod : PV → PV → Option PV
  | .int i, .int j => if 0 < j then some (.int (i % j)) else if j < 0 then some (.int (i.fmod j)) else none
  | _, _ => none
def pPow : PV → PV → Option PV
  | .int i, .int j => if 0 ≤ j ∧ j ≤ 1000000 ∧ i.natAbs < 2 ^ 64 then some (.int (i ^ j.toNat)) else none
  | _, _ => none
def pNeg : PV → Option PV
  | .int i => some (.int (-i))
  | _ => none
def pEq (v w : PV) : Option PV := match v, w with
  | .int i, .int j => some (.bool (decide (i = j)))
  | v, w => if SeqAt.shaped v = true ∧ SeqAt.shaped w = true then some (.bool (PyData.eqv v w)) else none
def pNe (v w : PV) : Option PV := match v, w with
  | .int i, .int j => some (.bool (!decide (i = j)))
  | v, w => if SeqAt.shaped v = true ∧ SeqAt.shaped w = true then some (.bool (!PyData.eqv v w)) else none
def notNone : PV → Bool
  | .none => false
  | _ => true
def ordOk (v w : PV) : Bool := alike v w && (notNone v && (notNone w && (decide (v.depth ≤ 64))))
def pLt (v w : PV) : Option PV := match v, w with
  | .int i, .int j => some (.bool (decide (i < j)))
  | v, w => if ordOk v w = true then some (.bool (dataLt v w)) else none
def pLe (v w : PV) : Option PV := match v, w with
  | .int i, .int j => some (.bool (decide (i ≤ j)))
  | v, w => if ordOk v w = true then some (.bool (!dataLt w v)) else none
def pGt (v w : PV) : Option PV := match v, w with
  | .int i, .int j => some (.bool (decide (j < i)))
  | v, w => if ordOk v w = true then some (.bool (dataLt w v)) else none
def pGe (v w : PV) : Option PV := match v, w with
  | .int i, .int j => some (.bool (decide (j ≤ i)))
  | v, w => if ordOk v w = true then some (.bool (!dataLt v w)) else none
def isNone : PV → Bool
  | .none => true
  | _ => false
def pIsN (v : PV) : Option PV := some (.bool (isNone v))
def pNotN (v : PV) : Option PV := some (.bool (!isNone v))
def pIn (v w : PV) : Option PV := match w with
  | .list l => if SeqAt.shaped v = true ∧ SeqAt.shaped (.list l) = true then some (.bool (l.any fun z => PyData.eqv z v)) else none
  | _ => none
def pNotIn (v w : PV) : Option PV := match w with
  | .list l => if SeqAt.shaped v = true ∧ SeqAt.shaped (.list l) = true then some (.bool (!l.any fun z => PyData.eqv z v)) else none
  | _ => none
def pTru : PV → Option Bool
  | .none => some false
  | .bool b => some b
  | .int i => some (i != 0)
  | .list l => some (!l.isEmpty)
  | .tuple l => some (!l.isEmpty)
  | _ => none
def cTru (a : PF) : PEnv → Option Bool := fun ρ => (a ρ).bind pTru
def pIx : PV → PV → Option PV
  | .list l, .int i => atI l i
  | .tuple l, .int i => atI l i
  | _, _ => none
def pLen : PV → Option PV
  | .list l => some (.int l.length)
  | .tuple l => some (.int l.length)
  | _ => none
def cutD (l : List PV) (lo hi : Option Int) : List PV := (l.drop (HT.sIx l.length 0 lo)).take (HT.sIx l.length l.length hi - HT.sIx l.length 0 lo)
def pSlT (v : PV) (lo hi : Option Int) : Option PV := match v with
  | .tuple l => some (.tuple (cutD l lo hi))
  | _ => none
def pSlL (v : PV) (lo hi : Option Int) : Option PV := match v with
  | .list l => some (.list (cutD l lo hi))
  | _ => none
def toI : PV → Option Int
  | .int i => some i
  | _ => none

section
variable {X : Cx} {a b c : Expr} {f g : PF} {pos : Pos}
theorem fin0 {F H : Hp} {z : PV} {x : V} {Q : VK} (fh : Same F H) (d : Dr K F x z) (q : ∀ u H' F', Ext F H F' H' → Same F' H' → Dr K F' u z → Q u H') : Q x H := q x H F (Ext.refl _ _) fh d
theorem finNew {F H : Hp} {z : PV} {Q : VK} {xs : List V} {l : List PV} (fh : Same F H) (d : DrAll K F xs l) (q : ∀ u H' F', Ext F H F' H' → Same F' H' → Dr K F' u (.tuple l) → Q u H') : ∀ p, H p = none → Q (.ref p) (upd H p (.tup xs)) := fun p hp => by
  have E := ext_frz (o := HO.tup xs) fh hp
  exact q _ _ _ E (same_frz fh hp) (.tup (.inl (.inl upd_same)) (drAll_same E.f _ _ d))
theorem finOwn {F H : Hp} {Q : VK} {xs : List V} {l : List PV} (fh : Same F H) (d : DrAll K F xs l) (q : ∀ p H' F', Ext F H F' H' → Same F' H' → F' p = none → H p = none → OwnR K F' H' p (.list l) → Q (.ref p) H') : ∀ p, H p = none → Q (.ref p) (upd H p (.lst xs)) := fun p hp => by
  have fp : F p = none := fh.free hp
  exact q _ _ F (ext_new hp) (same_upd2 fh hp) fp hp ⟨xs, upd_same, d⟩

theorem Op2.ii {g : PV → PV → Option PV} {r : R2} (h : ∀ (F H : Hp) (v w z : PV) (Q : VK), g v w = some z → (∀ i j, v = .int i → w = .int j → (∀ x, Dr K F x z → Q x H) → r (.int i) (.int j) H Q)) (hg : ∀ v w z, g v w = some z → ∃ i j, v = .int i ∧ w = .int j) : Op2 K r g := fun F H x y v w z Q fh dx dy e q => by
  obtain ⟨i, j, rfl, rfl⟩ := hg v w z e
  obtain rfl := bor_int dx
  obtain rfl := bor_int dy
  exact h F H _ _ z Q e i j rfl rfl fun x d => fin0 fh d q

def rAddX : R2 := fun x y H Q => rI0 (fun i j => .int (i + j)) x y H Q
theorem op2_add : Op2 K (fun x y H Q => rI0 (fun i j => .int (i + j)) x y H Q ∨ rCatA K x y H Q) pAdd := fun F H x y v w z Q fh dx dy e q => by
  unfold pAdd at e
  split at e
  · cases e
    obtain rfl := bor_int dx
    obtain rfl := bor_int dy
    exact .inl ⟨_, _, rfl, rfl, fin0 fh (.int _) q⟩
  · rename_i l m
    split at e
    · rename_i hz
      cases e
      obtain ⟨p, xs, rfl, f1, h1, d1⟩ := bor_tup fh dx
      obtain ⟨p2, ys, rfl, f2, h2, d2⟩ := bor_tup fh dy
      have l1 := drAll_length d1
      have l2 := drAll_length d2
      have hz' : l.length + m.length ≤ sizeLine := of_decide_eq_true hz
      refine .inr ⟨p, p2, xs, ys, rfl, rfl, h1, h2, by omega, fun e0 => ?_, fun _ e0 => ?_, fun _ _ => ?_⟩
      · subst e0
        cases d1
        exact fin0 fh (.tup f2 d2) q
      · subst e0
        cases d2
        rw [List.append_nil] at q
        exact fin0 fh (.tup f1 d1) q
      · exact finNew (z := .none) fh (drAll_append d1 d2) q
    · cases e
  · cases e
theorem se_add (ha : SB X a f) (hb : SB X b g) : SE X (.BinOp a .Add b pos) (e2 pAdd f g) := se_op2 op2_add ha hb fun h1 h2 => pe_op (OpR.or op_add op_catA) h1 h2
theorem se_sub (ha : SB X a f) (hb : SB X b g) : SE X (.BinOp a .Sub b pos) (e2 pSub f g) :=
  se_op2 (.ii (fun F H v w z Q e i j hv hw q => by subst hv hw; cases e; exact ⟨i, j, rfl, rfl, q _ (.int _)⟩) fun v w z e => by unfold pSub at e; split at e; exact ⟨_, _, rfl, rfl⟩; cases e) ha hb fun h1 h2 => pe_op op_sub h1 h2
theorem mulOk_c {i j : Int} (h : mulOk i j = true) : CMul i j := by
  unfold mulOk at h
  rcases Bool.or_eq_true_iff.mp h with h | h
  · have := of_decide_eq_true h
    exact .inl ⟨by omega, by omega⟩
  · have := of_decide_eq_true h
    exact .inr ⟨by omega, by omega⟩
theorem se_mul (ha : SB X a f) (hb : SB X b g) : SE X (.BinOp a .Mult b pos) (e2 pMul f g) :=
  se_op2 (.ii (fun F H v w z Q e i j hv hw q => by
      subst hv hw
      unfold pMul at e
      dsimp only at e
      split at e
      · rename_i hc
        cases e
        exact ⟨i, j, rfl, rfl, mulOk_c hc, q _ (.int _)⟩
      · cases e) fun v w z e => by unfold pMul at e; split at e; exact ⟨_, _, rfl, rfl⟩; cases e) ha hb fun h1 h2 => pe_op op_mul h1 h2
theorem se_div (ha : SB X a f) (hb : SB X b g) : SE X (.BinOp a .FloorDiv b pos) (e2 pDiv f g) :=
  se_op2 (r := fun x y H Q => rI CDivW (fun i j => .int (i / j)) x y H Q ∨ rI CDivN (fun i j => .int (i.fdiv j)) x y H Q) (.ii (fun F H v w z Q e i j hv hw q => by
      subst hv hw
      unfold pDiv at e
      dsimp only at e
      split at e
      · rename_i h0
        split at e
        · rename_i hc
          cases e
          exact .inl ⟨i, j, rfl, rfl, ⟨h0, of_decide_eq_true hc⟩, q _ (.int _)⟩
        · cases e
      · split at e
        · rename_i hc
          cases e
          exact .inr ⟨i, j, rfl, rfl, ⟨by omega, by omega⟩, q _ (.int _)⟩
        · cases e) fun v w z e => by unfold pDiv at e; split at e; exact ⟨_, _, rfl, rfl⟩; cases e) ha hb fun h1 h2 => pe_op (OpR.or op_fdivW op_fdivN) h1 h2
theorem se_mod (ha : SB X a f) (hb : SB X b g) : SE X (.BinOp a .Mod b pos) (e2 pMod f g) :=
  se_op2 (r := fun x y H Q => rI (fun _ j => 0 < j) (fun i j => .int (i % j)) x y H Q ∨ rI (fun _ j => j ≠ 0) (fun i j => .int (i.fmod j)) x y H Q) (.ii (fun F H v w z Q e i j hv hw q => by
      subst hv hw
      unfold pMod at e
      dsimp only at e
      split at e
      · rename_i h0
        cases e
        exact .inl ⟨i, j, rfl, rfl, h0, q _ (.int _)⟩
      · split at e
        · rename_i hc
          cases e
          exact .inr ⟨i, j, rfl, rfl, (by omega : j ≠ 0), q _ (.int _)⟩
        · cases e) fun v w z e => by unfold pMod at e; split at e; exact ⟨_, _, rfl, rfl⟩; cases e) ha hb fun h1 h2 => pe_op (OpR.or op_mod op_modN) h1 h2
theorem se_pow (ha : SB X a f) (hb : SB X b g) : SE X (.BinOp a .Pow b pos) (e2 pPow f g) :=
  se_op2 (.ii (fun F H v w z Q e i j hv hw q => by
      subst hv hw
      unfold pPow at e
      dsimp only at e
      split at e
      · rename_i hc
        cases e
        exact ⟨i, j, rfl, rfl, hc, q _ (.int _)⟩
      · cases e) fun v w z e => by unfold pPow at e; split at e; exact ⟨_, _, rfl, rfl⟩; cases e) ha hb fun h1 h2 => pe_op op_pow h1 h2
theorem se_neg (ha : SB X a f) : SE X (.UnaryOp .USub a pos) (e1 pNeg f) := PE.imp (pe_un un_neg ha) fun σ H Q ⟨B, F0, F, ρ, z, R, e, q⟩ => by
  obtain ⟨v, e1, e⟩ := bind_some e
  refine ⟨B, F0, F, ρ, v, R, e1, fun x H1 F1 R1 E1 d1 => ?_⟩
  unfold pNeg at e
  split at e
  · cases e
    obtain rfl := bor_int d1
    exact ⟨_, rfl, q _ _ _ R1 E1 (.int _)⟩
  · cases e

/-! list + list -/
def rCatR (K : PySem.W.Frag) : R2 := fun x y H Q => ∃ a1 a2 us ws, x = .ref a1 ∧ y = .ref a2 ∧ SqL K H a1 us ∧ SqL K H a2 ws ∧ us.length + ws.length ≤ sizeLine ∧ ∀ p, H p = none → Q (.ref p) (upd H p (.lst (us ++ ws)))
theorem op_catR : OpR X (binaryOp .Add) (rCatR X.K) := by
  intro pins s σ H x y v u Q I rx ry ⟨a1, a2, us, ws, e1, e2, r1, r2, hz, q⟩
  subst e1 e2
  cases rx
  cases ry
  obtain ⟨i1, v1, ⟨⟨c1, d1, t1, l1⟩, n1, g1, hc1, hd1, ht1⟩, z1⟩ := I.list r1
  obtain ⟨i2, v2, ⟨⟨c2, d2, t2, l2⟩, n2, g2, hc2, hd2, ht2⟩, z2⟩ := I.list r2
  have k1 := v1.length
  have k2 := v2.length
  dsimp only at hc1 hd1 ht1 hc2 hd2 ht2
  subst hc1 hd1 ht1 hc2 hd2 ht2
  have J := I.lnew (ys := us ++ ws) (its := i1 ++ i2) (t' := s.toks) (v1.append v2) (by rw [List.length_append]; exact hz)
  have w := list_addW a1 a2 i1.toArray i2.toArray n1 n2 none none l1 l2 (by simp only [List.size_toArray]; omega)
  refine concat_meets ⟨_, g1, rfl⟩ ⟨_, g2, rfl⟩ noFill_list_add seq_list_add PySem.F.slot_list_add PySem.F.entry_list_add (PySem.F.args_list_add_2 _ _) w ⟨g1, g2, ?_⟩
  rw [show i1.toArray ++ i2.toArray = (i1 ++ i2).toArray by simp]
  exact ⟨.ref _, _, J, rfl, q _ I.fresh⟩
theorem op2_cat : Op2F K (rCatR K) pCat := fun F H x y v w z Q fh dx dy e q => by
  unfold pCat at e
  split at e
  · rename_i l m
    split at e
    · rename_i hz
      cases e
      obtain ⟨p, xs, rfl, h1, d1⟩ := bor_lst fh dx
      obtain ⟨p2, ys, rfl, h2, d2⟩ := bor_lst fh dy
      have l1 := drAll_length d1
      have l2 := drAll_length d2
      have hz' : l.length + m.length ≤ sizeLine := of_decide_eq_true hz
      exact ⟨p, p2, xs, ys, rfl, rfl, h1, h2, by omega, finOwn fh (drAll_append d1 d2) q⟩
    · cases e
  · cases e
theorem sf_cat (ha : SB X a f) (hb : SB X b g) : SF X (.BinOp a .Add b pos) (e2 pCat f g) := sf_op2 op2_cat ha hb fun h1 h2 => pe_op op_catR h1 h2

/-! ### comparisons -/
def rEqX (K : PySem.W.Frag) : R2 := fun x y H Q => rI0 (fun i j => .bl (decide (i = j))) x y H Q ∨ rEqD K x y H Q
def rNeX (K : PySem.W.Frag) : R2 := fun x y H Q => rI0 (fun i j => .bl (!decide (i = j))) x y H Q ∨ rNeD K x y H Q
theorem op_eqI : OpR X (compareOp .Eq) (rI0 fun i j => .bl (decide (i = j))) := opB0 fun i j _ _ _ _ _ q => eq_int (by rw [Bool.beq_eq_decide_eq]; exact q)
theorem op_neI : OpR X (compareOp .NotEq) (rI0 fun i j => .bl (!decide (i = j))) := opB0 fun i j _ _ _ _ _ q => ne_int (by rw [bne, Bool.beq_eq_decide_eq]; exact q)
theorem op2_eq : Op2 K (rEqX K) pEq := fun F H x y v w z Q fh dx dy e q => by
  unfold pEq at e
  split at e
  · cases e
    obtain rfl := bor_int dx
    obtain rfl := bor_int dy
    exact .inl ⟨_, _, rfl, rfl, fin0 fh (.bl _) q⟩
  · split at e
    · rename_i hs
      cases e
      exact .inr ⟨v, w, bor_dp fh dx, bor_dp fh dy, hs.1, hs.2, fin0 fh (.bl _) q⟩
    · cases e
theorem op2_ne : Op2 K (rNeX K) pNe := fun F H x y v w z Q fh dx dy e q => by
  unfold pNe at e
  split at e
  · cases e
    obtain rfl := bor_int dx
    obtain rfl := bor_int dy
    exact .inl ⟨_, _, rfl, rfl, fin0 fh (.bl _) q⟩
  · split at e
    · rename_i hs
      cases e
      exact .inr ⟨v, w, bor_dp fh dx, bor_dp fh dy, hs.1, hs.2, fin0 fh (.bl _) q⟩
    · cases e
/-- order of data -/
def rOrd (K : PySem.W.Frag) (k : PV → PV → Bool) : R2 := fun x y H Q => ∃ d e, Dp K H x d ∧ Dp K H y e ∧ ordOk d e = true ∧ Q (.bl (k d e)) H
theorem ordOk_iff {v w : PV} (h : ordOk v w = true) : alike v w = true ∧ v ≠ .none ∧ w ≠ .none ∧ v.depth ≤ 64 := by
  unfold ordOk at h
  simp only [Bool.and_eq_true, decide_eq_true_eq] at h
  refine ⟨h.1, ?_, ?_, h.2.2.2⟩
  · rintro rfl
    exact Bool.noConfusion h.2.1
  · rintro rfl
    exact Bool.noConfusion h.2.2.1
theorem op_ord {op : CmpOp} {k : PV → PV → Bool} (hu : X.A.units + 64 < cLine)
    (rule : ∀ {s : Shared} {va vb : Value} {da db : PyData} {as bs : List Addr} {Q : Value → Shared → Prop}, Reads s.heap va da as → Reads s.heap vb db bs → alike da db = true → da ≠ .none → X.A.units + min da.depth db.depth < cLine → Q (.bool (k da db)) s →
      wpAny (model X.prog X.w) X.A (compareOp op va vb) Q X.xe s) : OpR X (compareOp op) (rOrd X.K k) := by
  intro pins s σ H x y v u Q I rx ry ⟨d, e, hd, he, ok, q⟩
  obtain ⟨o1, o2, o3, o4⟩ := ordOk_iff ok
  obtain ⟨as, r1⟩ := Dp.reads I d x v hd rx
  obtain ⟨bs, r2⟩ := Dp.reads I e y u he ry
  refine rule r1 r2 o1 o2 ?_ ⟨.bl _, H, I, rfl, q⟩
  have := Nat.min_le_left d.depth e.depth
  omega
theorem op2_ord {p : Int → Int → Bool} {k : PV → PV → Bool} {g : PV → PV → Option PV} (hg : ∀ v w z, g v w = some z → (∃ i j, v = .int i ∧ w = .int j ∧ z = .bool (p i j)) ∨ (ordOk v w = true ∧ z = .bool (k v w))) :
    Op2 K (fun x y H Q => rI0 (fun i j => .bl (p i j)) x y H Q ∨ rOrd K k x y H Q) g := fun F H x y v w z Q fh dx dy e q => by
  rcases hg v w z e with ⟨i, j, rfl, rfl, rfl⟩ | ⟨ok, rfl⟩
  · obtain rfl := bor_int dx
    obtain rfl := bor_int dy
    exact .inl ⟨_, _, rfl, rfl, fin0 fh (.bl _) q⟩
  · exact .inr ⟨v, w, bor_dp fh dx, bor_dp fh dy, ok, fin0 fh (.bl _) q⟩
theorem lt_cases : ∀ v w z, pLt v w = some z → (∃ i j, v = .int i ∧ w = .int j ∧ z = .bool (decide (i < j))) ∨ (ordOk v w = true ∧ z = .bool (dataLt v w)) := fun v w z e => by
  unfold pLt at e
  split at e
  · cases e; exact .inl ⟨_, _, rfl, rfl, rfl⟩
  · split at e
    · cases e; exact .inr ⟨by assumption, rfl⟩
    · cases e
theorem le_cases : ∀ v w z, pLe v w = some z → (∃ i j, v = .int i ∧ w = .int j ∧ z = .bool (decide (i ≤ j))) ∨ (ordOk v w = true ∧ z = .bool (!dataLt w v)) := fun v w z e => by
  unfold pLe at e
  split at e
  · cases e; exact .inl ⟨_, _, rfl, rfl, rfl⟩
  · split at e
    · cases e; exact .inr ⟨by assumption, rfl⟩
    · cases e
theorem gt_cases : ∀ v w z, pGt v w = some z → (∃ i j, v = .int i ∧ w = .int j ∧ z = .bool (decide (j < i))) ∨ (ordOk v w = true ∧ z = .bool (dataLt w v)) := fun v w z e => by
  unfold pGt at e
  split at e
  · cases e; exact .inl ⟨_, _, rfl, rfl, rfl⟩
  · split at e
    · cases e; exact .inr ⟨by assumption, rfl⟩
    · cases e
theorem ge_cases : ∀ v w z, pGe v w = some z → (∃ i j, v = .int i ∧ w = .int j ∧ z = .bool (decide (j ≤ i))) ∨ (ordOk v w = true ∧ z = .bool (!dataLt v w)) := fun v w z e => by
  unfold pGe at e
  split at e
  · cases e; exact .inl ⟨_, _, rfl, rfl, rfl⟩
  · split at e
    · cases e; exact .inr ⟨by assumption, rfl⟩
    · cases e
/-- a comparison known: its operation with its reading -/
structure CmpK (X : Cx) (op : CmpOp) (g : PV → PV → Option PV) (r : R2) : Prop where
  o : OpR X (compareOp op) r
  d : Op2 X.K r g
theorem ck_eq (hu : X.A.units + 64 < cLine) : CmpK X .Eq pEq (rEqX X.K) := ⟨OpR.or op_eqI (op_eqD hu), op2_eq⟩
theorem ck_ne (hu : X.A.units + 64 < cLine) : CmpK X .NotEq pNe (rNeX X.K) := ⟨OpR.or op_neI (op_neD hu), op2_ne⟩
theorem ck_lt (hu : X.A.units + 64 < cLine) : CmpK X .Lt pLt (fun x y H Q => rI0 (fun i j => .bl (decide (i < j))) x y H Q ∨ rOrd X.K dataLt x y H Q) := ⟨OpR.or op_lt (op_ord hu lt_data), op2_ord lt_cases⟩
theorem ck_le (hu : X.A.units + 64 < cLine) : CmpK X .LtE pLe (fun x y H Q => rI0 (fun i j => .bl (decide (i ≤ j))) x y H Q ∨ rOrd X.K (fun v w => !dataLt w v) x y H Q) := ⟨OpR.or op_le (op_ord hu le_data), op2_ord le_cases⟩
theorem ck_gt (hu : X.A.units + 64 < cLine) : CmpK X .Gt pGt (fun x y H Q => rI0 (fun i j => .bl (decide (j < i))) x y H Q ∨ rOrd X.K (fun v w => dataLt w v) x y H Q) := ⟨OpR.or op_gt (op_ord hu gt_data), op2_ord gt_cases⟩
theorem ck_ge (hu : X.A.units + 64 < cLine) : CmpK X .GtE pGe (fun x y H Q => rI0 (fun i j => .bl (decide (j ≤ i))) x y H Q ∨ rOrd X.K (fun v w => !dataLt v w) x y H Q) := ⟨OpR.or op_ge (op_ord hu ge_data), op2_ord ge_cases⟩
def rInX (K : PySem.W.Frag) : R2 := rInD K
theorem ck_in (hu : X.A.units + 65 < cLine) : CmpK X .In pIn (rInX X.K) := ⟨op_inD hu, fun F H x y v w z Q fh dx dy e q => by
  unfold pIn at e
  split at e
  · split at e
    · rename_i hs
      cases e
      exact ⟨v, _, bor_dp fh dx, bor_dp fh dy, hs.1, hs.2, fin0 fh (.bl _) q⟩
    · cases e
  · cases e⟩
theorem ck_notIn (hu : X.A.units + 65 < cLine) : CmpK X .NotIn pNotIn (rNotInD X.K) := ⟨op_notInD hu, fun F H x y v w z Q fh dx dy e q => by
  unfold pNotIn at e
  split at e
  · split at e
    · rename_i hs
      cases e
      exact ⟨v, _, bor_dp fh dx, bor_dp fh dy, hs.1, hs.2, fin0 fh (.bl _) q⟩
    · cases e
  · cases e⟩
theorem se_cmp {op : CmpOp} {h : PV → PV → Option PV} {r : R2} (k : CmpK X op h r) (ha : SB X a f) (hb : SB X b g) (hm : behindInMarks op b = false) : SE X (.Compare a [op] [b] pos) (e2 h f g) := se_op2 k.d ha hb fun h1 h2 => pe_cmpR k.o h1 h2 hm
theorem dr_bool {F : Hp} {x : V} {b : Bool} (h : Dr K F x (.bool b)) : x = .bl b := by cases h; rfl
theorem toB_some {v : PV} {k : Bool} (h : toB v = some k) : v = .bool k := by
  cases v <;> first | (cases h; rfl) | cases h
theorem st_cmp {op : CmpOp} {h : PV → PV → Option PV} {r : R2} (k : CmpK X op h r) (ha : SB X a f) (hb : SB X b g) (hm : behindInMarks op b = false) : ST X (.Compare a [op] [b] pos) (cB (e2 h f g)) :=
  PT.imp (pt_cmpR k.o ha hb hm) fun σ H Q ⟨B, F0, F, ρ, z, R, e, q⟩ => by
    obtain ⟨v0, e0, e⟩ := bind_some e
    obtain ⟨v, e1, e0⟩ := bind_some e0
    obtain ⟨w, e2, e0⟩ := bind_some e0
    refine ⟨B, F0, F, ρ, v, R, e1, fun x H1 F1 R1 E1 d1 => ⟨B, F0, F1, ρ, w, R1, e2, fun y H2 F2 R2 E2 d2 => ?_⟩⟩
    refine k.d F2 H2 x y v w v0 _ R2.fh (d1.ext E2) d2 e0 fun u H3 F3 E3 s3 d3 => ?_
    obtain rfl := toB_some e
    obtain rfl := dr_bool d3
    exact ⟨_, rfl, q _ _ (R2.ext E3 s3) ((E1.trans E2).trans E3)⟩
theorem se_isN {j pos'} (ha : SB X a f) : SE X (.Compare a [.Is] [.Constant .none j pos'] pos) (e1 pIsN f) := PE.imp (pe_cmp (pc_isN ha)) fun σ H Q ⟨B, F0, F, ρ, z, R, e, q⟩ => by
  obtain ⟨v, e1, e⟩ := bind_some e
  refine ⟨B, F0, F, ρ, v, R, e1, fun x H1 F1 R1 E1 d1 => ?_⟩
  cases e
  have : decide (x = .non) = isNone v := by
    rcases d1 with d1 | ⟨p, rfl, d1⟩
    · cases d1 <;> rfl
    · cases v <;> first | exact d1.elim | rfl
  rw [this]
  exact q _ _ _ R1 E1 (.bl _)
theorem se_notN {j pos'} (ha : SB X a f) : SE X (.Compare a [.IsNot] [.Constant .none j pos'] pos) (e1 pNotN f) := PE.imp (pe_cmp (pc_notN ha)) fun σ H Q ⟨B, F0, F, ρ, z, R, e, q⟩ => by
  obtain ⟨v, e1, e⟩ := bind_some e
  refine ⟨B, F0, F, ρ, v, R, e1, fun x H1 F1 R1 E1 d1 => ?_⟩
  cases e
  have : decide (x = .non) = isNone v := by
    rcases d1 with d1 | ⟨p, rfl, d1⟩
    · cases d1 <;> rfl
    · cases v <;> first | exact d1.elim | rfl
  rw [this]
  exact q _ _ _ R1 E1 (.bl _)
theorem st_isN {j pos'} (ha : SB X a f) : ST X (.Compare a [.Is] [.Constant .none j pos'] pos) (cB (e1 pIsN f)) := PT.imp (pt_cmp (pc_isN ha)) fun σ H Q ⟨B, F0, F, ρ, z, R, e, q⟩ => by
  obtain ⟨v0, e0, e⟩ := bind_some e
  obtain ⟨v, e1, e0⟩ := bind_some e0
  refine ⟨B, F0, F, ρ, v, R, e1, fun x H1 F1 R1 E1 d1 => ?_⟩
  cases e0
  cases e
  have : decide (x = .non) = isNone v := by
    rcases d1 with d1 | ⟨p, rfl, d1⟩
    · cases d1 <;> rfl
    · cases v <;> first | exact d1.elim | rfl
  rw [this]
  exact ⟨_, rfl, q _ _ R1 E1⟩
theorem st_notN {j pos'} (ha : SB X a f) : ST X (.Compare a [.IsNot] [.Constant .none j pos'] pos) (cB (e1 pNotN f)) := PT.imp (pt_cmp (pc_notN ha)) fun σ H Q ⟨B, F0, F, ρ, z, R, e, q⟩ => by
  obtain ⟨v0, e0, e⟩ := bind_some e
  obtain ⟨v, e1, e0⟩ := bind_some e0
  refine ⟨B, F0, F, ρ, v, R, e1, fun x H1 F1 R1 E1 d1 => ?_⟩
  cases e0
  cases e
  have : decide (x = .non) = isNone v := by
    rcases d1 with d1 | ⟨p, rfl, d1⟩
    · cases d1 <;> rfl
    · cases v <;> first | exact d1.elim | rfl
  rw [this]
  exact ⟨_, rfl, q _ _ R1 E1⟩

/-! chains a op b op' c -/
def e3c (h h' : PV → PV → Option PV) (f g k : PF) : PF := fun ρ => (f ρ).bind fun x => (g ρ).bind fun y => (h x y).bind fun z => (toB z).bind fun t => if t = true then (k ρ).bind fun w => h' y w else some (.bool false)
theorem se_chain {op op' : CmpOp} {h h' : PV → PV → Option PV} {r r' : R2} {k : PF} (k1 : CmpK X op h r) (k2 : CmpK X op' h' r') (ha : SB X a f) (hb : SB X b g) (hc : SB X c k) (hm : lastMarks [op, op'] [b, c] = false := by with_unfolding_all rfl) :
    SE X (.Compare a [op, op'] [b, c] pos) (e3c h h' f g k) := PE.imp (pe_chain k1.o k2.o ha hb hc hm) fun σ H Q ⟨B, F0, F, ρ, z, R, e, q⟩ => by
  obtain ⟨v, q1, ea⟩ := bind_some e
  obtain ⟨w, q2, eb⟩ := bind_some ea
  obtain ⟨t0, q3, ec⟩ := bind_some eb
  obtain ⟨t, q4, ed⟩ := bind_some ec
  obtain rfl := toB_some q4
  refine ⟨B, F0, F, ρ, v, R, q1, fun x H1 F1 R1 E1 d1 => ⟨B, F0, F1, ρ, w, R1, q2, fun y H2 F2 R2 E2 d2 => ?_⟩⟩
  refine k1.d F2 H2 x y v w _ _ R2.fh (d1.ext E2) d2 q3 fun u H3 F3 E3 s3 d3 => ?_
  obtain rfl := dr_bool d3
  refine ⟨t, rfl, ?_⟩
  have R3 := R2.ext E3 s3
  cases t with
  | false =>
    rw [if_neg Bool.false_ne_true]
    rw [if_neg Bool.false_ne_true] at ed
    cases ed
    exact q _ _ _ R3 ((E1.trans E2).trans E3) (.bl _)
  | true =>
    rw [if_pos rfl]
    rw [if_pos rfl] at ed
    obtain ⟨m, q5, ee⟩ := bind_some ed
    refine ⟨B, F0, F3, ρ, m, R3, q5, fun y2 H4 F4 R4 E4 d4 => ?_⟩
    refine k2.d F4 H4 y y2 w m z _ R4.fh ((d2.ext E3).ext E4) d4 ee fun u H5 F5 E5 s5 d5 => ?_
    exact q _ _ _ (R4.ext E5 s5) ((((E1.trans E2).trans E3).trans E4).trans E5) d5
theorem st_chain {op op' : CmpOp} {h h' : PV → PV → Option PV} {r r' : R2} {k : PF} (k1 : CmpK X op h r) (k2 : CmpK X op' h' r') (ha : SB X a f) (hb : SB X b g) (hc : SB X c k) (hm : lastMarks [op, op'] [b, c] = false := by with_unfolding_all rfl) :
    ST X (.Compare a [op, op'] [b, c] pos) (cB (e3c h h' f g k)) := PT.imp (pt_chain k1.o k2.o ha hb hc hm) fun σ H Q ⟨B, F0, F, ρ, z, R, e, q⟩ => by
  obtain ⟨v00, e, q6⟩ := bind_some e
  obtain ⟨v, q1, ea⟩ := bind_some e
  obtain ⟨w, q2, eb⟩ := bind_some ea
  obtain ⟨t0, q3, ec⟩ := bind_some eb
  obtain ⟨t, q4, ed⟩ := bind_some ec
  obtain rfl := toB_some q4
  obtain rfl := toB_some q6
  refine ⟨B, F0, F, ρ, v, R, q1, fun x H1 F1 R1 E1 d1 => ⟨B, F0, F1, ρ, w, R1, q2, fun y H2 F2 R2 E2 d2 => ?_⟩⟩
  refine k1.d F2 H2 x y v w _ _ R2.fh (d1.ext E2) d2 q3 fun u H3 F3 E3 s3 d3 => ?_
  obtain rfl := dr_bool d3
  refine ⟨t, rfl, ?_⟩
  have R3 := R2.ext E3 s3
  cases t with
  | false =>
    rw [if_neg Bool.false_ne_true]
    rw [if_neg Bool.false_ne_true] at ed
    cases ed
    exact ⟨_, rfl, q _ _ R3 ((E1.trans E2).trans E3)⟩
  | true =>
    rw [if_pos rfl]
    rw [if_pos rfl] at ed
    obtain ⟨m, q5, ee⟩ := bind_some ed
    refine ⟨B, F0, F3, ρ, m, R3, q5, fun y2 H4 F4 R4 E4 d4 => ?_⟩
    refine k2.d F4 H4 y y2 w m _ _ R4.fh ((d2.ext E3).ext E4) d4 ee fun u H5 F5 E5 s5 d5 => ?_
    obtain rfl := dr_bool d5
    exact ⟨_, rfl, q _ _ (R4.ext E5 s5) ((((E1.trans E2).trans E3).trans E4).trans E5)⟩
end
end Pl

set_option Elab.async false
set_option linter.all false
set_option maxRecDepth 100000
set_option maxHeartbeats 4000000
set_option autoImplicit false
namespace Pl
open PySem PySem.Spec PyProof.Rows L2
open PySem.W (alike dataLt lt_data le_data gt_data ge_data)
variable {K : PySem.W.Frag}

/-! ### tests, and, or, if -/
section
variable {X : Cx} {a b c : Expr} {f g : PF} {pos : Pos} {k l : PEnv → Option Bool} {rest : List Expr}
theorem tru_of {F H : Hp} {x : V} {v : PV} {b : Bool} (fh : Same F H) (d : BoR K F H x v) (h : pTru v = some b) : TruV K x H b := by
  unfold pTru at h
  split at h
  · cases h
    obtain rfl := bor_none d
    exact rfl
  · cases h
    obtain rfl := bor_bool d
    exact rfl
  · cases h
    obtain rfl := bor_int d
    exact rfl
  · rename_i l
    cases h
    obtain ⟨p, xs, rfl, h1, d1⟩ := bor_lst fh d
    refine .inl ⟨xs, h1, ?_⟩
    cases d1 <;> rfl
  · rename_i l
    cases h
    obtain ⟨p, xs, rfl, f1, h1, d1⟩ := bor_tup fh d
    refine .inr (.inl ⟨xs, h1, ?_⟩)
    cases d1 <;> rfl
  · cases h
theorem st_tru (ha : SB X a f) (he : ∀ whole, isTrue a X.env whole = (do let v ← whole; standAt a.pos; holding [v] (truthy v)) := by intro _; rfl) : ST X a (cTru f) := PT.imp (pt_truth ha he) fun σ H Q ⟨B, F0, F, ρ, z, R, e, q⟩ => by
  obtain ⟨v, e1, e⟩ := bind_some e
  exact ⟨B, F0, F, ρ, v, R, e1, fun x H1 F1 R1 E1 d1 => ⟨z, tru_of R1.fh d1 e, q _ _ R1 E1⟩⟩
theorem st_not (ha : ST X a k) : ST X (.UnaryOp .Not a pos) (cNot k) := PT.imp (pt_not ha) fun σ H Q ⟨B, F0, F, ρ, z, R, e, q⟩ => by
  obtain ⟨v, e1, e⟩ := bind_some e
  cases e
  exact ⟨B, F0, F, ρ, v, R, e1, fun H1 F1 R1 E1 => q _ _ R1 E1⟩
theorem sw_and1 (ha : ST X a k) : SW X (.BoolOp .And [a] pos) k := pw_and1 ha
theorem sw_or1 (ha : ST X a k) : SW X (.BoolOp .Or [a] pos) k := pw_or1 ha
theorem sw_and (ha : ST X a k) (hb : SW X (.BoolOp .And (b :: rest) pos) l) : SW X (.BoolOp .And (a :: b :: rest) pos) (cAnd k l) := PW.imp (pw_and ha hb) fun σ H Q ⟨B, F0, F, ρ, z, R, e, q⟩ => by
  obtain ⟨v, e1, e⟩ := bind_some e
  refine ⟨B, F0, F, ρ, v, R, e1, fun H1 F1 R1 E1 => ?_⟩
  cases v with
  | true => exact ⟨B, F0, F1, ρ, z, R1, e, fun H2 F2 R2 E2 => q _ _ R2 (E1.trans E2)⟩
  | false =>
    cases e
    exact q _ _ R1 E1
theorem sw_or (ha : ST X a k) (hb : SW X (.BoolOp .Or (b :: rest) pos) l) : SW X (.BoolOp .Or (a :: b :: rest) pos) (cOr k l) := PW.imp (pw_or ha hb) fun σ H Q ⟨B, F0, F, ρ, z, R, e, q⟩ => by
  obtain ⟨v, e1, e⟩ := bind_some e
  refine ⟨B, F0, F, ρ, v, R, e1, fun H1 F1 R1 E1 => ?_⟩
  cases v with
  | false => exact ⟨B, F0, F1, ρ, z, R1, e, fun H2 F2 R2 E2 => q _ _ R2 (E1.trans E2)⟩
  | true =>
    cases e
    exact q _ _ R1 E1
theorem st_w (h : SW X a k) : ST X a k := h.pt
theorem se_one {op} (h : SE X a f) : SE X (.BoolOp op [a] pos) f := pe_one h
theorem se_and (ha : SE X a f) (hb : SE X (.BoolOp .And (b :: rest) pos) g) : SE X (.BoolOp .And (a :: b :: rest) pos) (eAnd f g) := PE.imp (pe_and ha hb) fun σ H Q ⟨B, F0, F, ρ, z, R, e, q⟩ => by
  obtain ⟨v, e1, e2⟩ := bind_some e
  obtain ⟨t, e3, e4⟩ := bind_some e2
  obtain rfl := toB_some e3
  refine ⟨B, F0, F, ρ, _, R, e1, fun x H1 F1 R1 E1 d1 => ?_⟩
  obtain rfl := dr_bool d1
  refine ⟨t, rfl, ?_⟩
  cases t with
  | true => exact ⟨B, F0, F1, ρ, z, R1, e4, fun x2 H2 F2 R2 E2 d2 => q _ _ _ R2 (E1.trans E2) d2⟩
  | false =>
    rw [if_neg Bool.false_ne_true]
    rw [if_neg Bool.false_ne_true] at e4
    cases e4
    exact q _ _ _ R1 E1 (.bl _)
theorem se_or (ha : SE X a f) (hb : SE X (.BoolOp .Or (b :: rest) pos) g) : SE X (.BoolOp .Or (a :: b :: rest) pos) (eOr f g) := PE.imp (pe_or ha hb) fun σ H Q ⟨B, F0, F, ρ, z, R, e, q⟩ => by
  obtain ⟨v, e1, e2⟩ := bind_some e
  obtain ⟨t, e3, e4⟩ := bind_some e2
  obtain rfl := toB_some e3
  refine ⟨B, F0, F, ρ, _, R, e1, fun x H1 F1 R1 E1 d1 => ?_⟩
  obtain rfl := dr_bool d1
  refine ⟨t, rfl, ?_⟩
  cases t with
  | false => exact ⟨B, F0, F1, ρ, z, R1, e4, fun x2 H2 F2 R2 E2 d2 => q _ _ _ R2 (E1.trans E2) d2⟩
  | true =>
    rw [if_pos rfl]
    rw [if_pos rfl] at e4
    cases e4
    exact q _ _ _ R1 E1 (.bl _)
theorem se_not (ha : SE X a f) : SE X (.UnaryOp .Not a pos) (eNot f) := PE.imp (pe_not ha) fun σ H Q ⟨B, F0, F, ρ, z, R, e, q⟩ => by
  obtain ⟨v, e1, e2⟩ := bind_some e
  obtain ⟨t, e3, e4⟩ := bind_some e2
  obtain rfl := toB_some e3
  cases e4
  refine ⟨B, F0, F, ρ, _, R, e1, fun x H1 F1 R1 E1 d1 => ?_⟩
  obtain rfl := dr_bool d1
  exact ⟨t, rfl, q _ _ _ R1 E1 (.bl _)⟩
/-- not of any value, by its truth -/
def eNotT (k : PEnv → Option Bool) : PF := fun ρ => (k ρ).bind fun t => some (.bool (!t))
theorem se_if (hc : ST X c k) (ha : SE X a f) (hb : SE X b g) : SE X (.IfExp c a b pos) (eIf k f g) := PE.imp (pe_ifExp hc ha hb) fun σ H Q ⟨B, F0, F, ρ, z, R, e, q⟩ => by
  obtain ⟨v, e1, e⟩ := bind_some e
  refine ⟨B, F0, F, ρ, v, R, e1, fun H1 F1 R1 E1 => ?_⟩
  cases v with
  | true => exact ⟨B, F0, F1, ρ, z, R1, e, fun x2 H2 F2 R2 E2 d2 => q _ _ _ R2 (E1.trans E2) d2⟩
  | false => exact ⟨B, F0, F1, ρ, z, R1, e, fun x2 H2 F2 R2 E2 d2 => q _ _ _ R2 (E1.trans E2) d2⟩

/-! ### arguments, displays -/
variable {es : List Expr} {r : PEnv → Option (List PV)}
theorem sa_nil : SA X [] aNil := PA.imp pa_nil fun σ H Q ⟨B, F0, F, ρ, z, R, e, q⟩ => by
  cases e
  exact q _ _ _ R (Ext.refl _ _) .nil
theorem sa_cons (ha : SE X a f) (hr : SA X es r) (hs : starEach (a :: es) X.env = (false, eval a X.env) :: starEach es X.env := by rfl) : SA X (a :: es) (aCons f r) := PA.imp (pa_cons ha hr hs) fun σ H Q ⟨B, F0, F, ρ, z, R, e, q⟩ => by
  obtain ⟨v, e1, e2⟩ := bind_some e
  obtain ⟨l, e3, e4⟩ := bind_some e2
  cases e4
  refine ⟨B, F0, F, ρ, v, R, e1, fun x H1 F1 R1 E1 d1 => ⟨B, F0, F1, ρ, l, R1, e3, fun xs H2 F2 R2 E2 d2 => ?_⟩⟩
  exact q _ _ _ R2 (E1.trans E2) (.cons (dr_same E2.f _ _ d1) d2)
def pTup (l : List PV) : Option PV := if lineOk l.length = true then some (.tuple l) else none
def pLst (l : List PV) : Option PV := if lineOk l.length = true then some (.list l) else none
theorem se_tup {x1} (h : SA X es r) : SE X (.Tuple es x1 pos) (eCall pTup r) := PE.imp (pe_tup h) fun σ H Q ⟨B, F0, F, ρ, z, R, e, q⟩ => by
  obtain ⟨l, e1, e2⟩ := bind_some e
  unfold pTup at e2
  split at e2
  · rename_i hz
    cases e2
    refine ⟨B, F0, F, ρ, l, R, e1, fun xs H1 F1 R1 E1 d1 => ⟨?_, ?_⟩⟩
    · rw [drAll_length d1]
      exact of_decide_eq_true hz
    · exact finNew (z := .none) R1.fh d1 fun u H2 F2 E2 s2 d2 => q _ _ _ (R1.ext E2 s2) (E1.trans E2) d2
  · cases e2
theorem sf_lst (h : SA X es r) : SF X (.List es pos) (eCall pLst r) := PE.imp (pe_lst h) fun σ H Q ⟨B, F0, F, ρ, z, R, e, q⟩ => by
  obtain ⟨l, e1, e2⟩ := bind_some e
  unfold pLst at e2
  split at e2
  · rename_i hz
    cases e2
    refine ⟨B, F0, F, ρ, l, R, e1, fun xs H1 F1 R1 E1 d1 => ⟨?_, ?_⟩⟩
    · rw [drAll_length d1]
      exact of_decide_eq_true hz
    · exact finOwn R1.fh d1 fun p H2 F2 E2 s2 fp hp d2 => q _ _ _ (R1.ext E2 s2) (E1.trans E2) fp (E1.h.free hp) d2
  · cases e2

/-! ### items, slices -/
theorem atI_map {F : Hp} {xs : List V} {l : List PV} {i : Int} {z : PV} (d : DrAll K F xs l) (h : atI l i = some z) : ∃ x, atI xs i = some x ∧ Dr K F x z := by
  unfold atI at h ⊢
  rw [drAll_length d]
  cases q : ixN l.length i with
  | none => rw [q] at h; cases h
  | some j =>
    rw [q] at h
    exact drAll_get d h
theorem op2_ix : Op2 K (fun x y H Q => rIxL K x y H Q ∨ rIxT K x y H Q) pIx := fun F H x y v w z Q fh dx dy e q => by
  unfold pIx at e
  split at e
  · obtain rfl := bor_int dy
    rcases dx with dx | ⟨p, rfl, dx⟩
    · cases dx with
      | lst hs ha =>
        obtain ⟨u, h1, h2⟩ := atI_map ha e
        exact .inl ⟨_, _, _, u, rfl, rfl, sqL_same fh hs, h1, fin0 fh h2 q⟩
    · obtain ⟨xs, h1, h2⟩ := dx
      obtain ⟨u, h3, h4⟩ := atI_map h2 e
      exact .inl ⟨_, _, _, u, rfl, rfl, .inl (.inl h1), h3, fin0 fh h4 q⟩
  · obtain rfl := bor_int dy
    obtain ⟨p, xs, rfl, f1, h1, d1⟩ := bor_tup fh dx
    obtain ⟨u, h3, h4⟩ := atI_map d1 e
    exact .inr ⟨_, _, _, u, rfl, rfl, h1, h3, fin0 fh h4 q⟩
  · cases e
theorem se_ix (ha : SB X a f) (hb : SB X b g) (hs : PlainIx b) : SE X (.Subscript a b pos) (e2 pIx f g) := se_op2 op2_ix ha hb fun h1 h2 => pe_ix (IxR.or ix_list ix_tup) h1 h2 hs
/-- a part of a slice -/
def tO (K : PySem.W.Frag) (p : PEnv → Option (Option Int)) : TO := fun σ H Q => ∃ B F0 F ρ v, RE K B F0 F H σ ρ ∧ p ρ = some v ∧ ∀ H' F', RE K B F0 F' H' σ ρ → Ext F H F' H' → Q v H'
abbrev SO (X : Cx) (e : Option Expr) (p : PEnv → Option (Option Int)) : Prop := PO X e (tO X.K p)
theorem PO.imp {e : Option Expr} {t t' : TO} (h : PO X e t) (i : ∀ σ H Q, t' σ H Q → t σ H Q) : PO X e t' := ⟨fun pins s σ H Q I q => h.run pins s σ H Q I (i σ H Q q)⟩
def oNone : PEnv → Option (Option Int) := fun _ => some none
def oSome (f : PF) : PEnv → Option (Option Int) := fun ρ => (f ρ).bind fun v => (toI v).bind fun i => some (some i)
theorem so_none : SO X none oNone := PO.imp po_none fun σ H Q ⟨B, F0, F, ρ, z, R, e, q⟩ => by
  cases e
  exact q _ _ R (Ext.refl _ _)
theorem toI_some {v : PV} {i : Int} (h : toI v = some i) : v = .int i := by
  cases v <;> first | (cases h; rfl) | cases h
theorem so_some (h : SB X a f) : SO X (some a) (oSome f) := PO.imp (po_some h) fun σ H Q ⟨B, F0, F, ρ, z, R, e, q⟩ => by
  obtain ⟨v, e1, e2⟩ := bind_some e
  obtain ⟨i, e3, e4⟩ := bind_some e2
  obtain rfl := toI_some e3
  cases e4
  refine ⟨B, F0, F, ρ, _, R, e1, fun x H1 F1 R1 E1 d1 => ?_⟩
  exact ⟨i, bor_int d1, q _ _ R1 E1⟩
theorem drAll_cut {F : Hp} {xs : List V} {l : List PV} (d : DrAll K F xs l) (lo hi : Option Int) : DrAll K F (cutV xs lo hi) (cutD l lo hi) := by
  unfold cutV cutD
  rw [drAll_length d]
  exact drAll_take _ (drAll_drop _ d)
def pSl (v : PV) (lo hi : Option Int) : Option PV := match v with
  | .tuple l => some (.tuple (cutD l lo hi))
  | .list l => some (.list (cutD l lo hi))
  | _ => none
def eSl (f : PF) (p q : PEnv → Option (Option Int)) : PF := fun ρ => (f ρ).bind fun v => (p ρ).bind fun lo => (q ρ).bind fun hi => pSl v lo hi
def eSlL (f : PF) (p q : PEnv → Option (Option Int)) : PF := fun ρ => (f ρ).bind fun v => (p ρ).bind fun lo => (q ρ).bind fun hi => pSlL v lo hi
theorem finFrz {F H : Hp} {Q : VK} {xs : List V} {l : List PV} (fh : Same F H) (d : DrAll K F xs l) (q : ∀ u H' F', Ext F H F' H' → Same F' H' → Dr K F' u (.list l) → Q u H') : ∀ p, H p = none → Q (.ref p) (upd H p (.lst xs)) := fun p hp => by
  have E := ext_frz (o := HO.lst xs) fh hp
  exact q _ _ _ E (same_frz fh hp) (.lst (.inl (.inl upd_same)) (drAll_same E.f _ _ d))
theorem se_sl {lo hi : Option Expr} {p2 : Pos} {p q : PEnv → Option (Option Int)} (ha : SB X a f) (hl : SO X lo p) (hh : SO X hi q) : SE X (.Subscript a (.Slice lo hi none p2) pos) (eSl f p q) :=
  PE.imp (pe_slice (SlR.or sl_list sl_tupA) ha hl hh) fun σ H Q ⟨B, F0, F, ρ, z, R, e, k⟩ => by
    obtain ⟨v, e1, e2⟩ := bind_some e
    obtain ⟨i, e3, e4⟩ := bind_some e2
    obtain ⟨j, e5, e6⟩ := bind_some e4
    refine ⟨B, F0, F, ρ, v, R, e1, fun x H1 F1 R1 E1 d1 => ⟨B, F0, F1, ρ, i, R1, e3, fun H2 F2 R2 E2 => ⟨B, F0, F2, ρ, j, R2, e5, fun H3 F3 R3 E3 => ?_⟩⟩⟩
    have d3 := (d1.ext E2).ext E3
    have k3 : ∀ u H' F', Ext F3 H3 F' H' → Same F' H' → Dr X.K F' u z → Q u H' := fun u H4 F4 E4 s4 d4 => k _ _ _ (R3.ext E4 s4) (((E1.trans E2).trans E3).trans E4) d4
    unfold pSl at e6
    split at e6
    · rename_i l
      cases e6
      obtain ⟨a1, xs, rfl, f1, h1, d1⟩ := bor_tup R3.fh d3
      refine .inr ⟨a1, xs, rfl, h1, fun hw => ?_, fun hw => finNew (z := .none) R3.fh (drAll_cut d1 _ _) k3⟩
      have : cutD l i j = l := by
        unfold cutD
        rw [← drAll_length d1, hw.1, hw.2]
        simp [drAll_length d1]
      rw [this] at k3
      exact fin0 R3.fh (.tup f1 d1) k3
    · rename_i l
      cases e6
      obtain ⟨a1, xs, rfl, h1, d1⟩ := bor_lst R3.fh d3
      exact .inl ⟨a1, xs, rfl, h1, finFrz R3.fh (drAll_cut d1 _ _) k3⟩
    · cases e6
theorem sf_sl {lo hi : Option Expr} {p2 : Pos} {p q : PEnv → Option (Option Int)} (ha : SB X a f) (hl : SO X lo p) (hh : SO X hi q) : SF X (.Subscript a (.Slice lo hi none p2) pos) (eSlL f p q) :=
  PE.imp (pe_slice sl_list ha hl hh) fun σ H Q ⟨B, F0, F, ρ, z, R, e, k⟩ => by
    obtain ⟨v, e1, e2⟩ := bind_some e
    obtain ⟨i, e3, e4⟩ := bind_some e2
    obtain ⟨j, e5, e6⟩ := bind_some e4
    refine ⟨B, F0, F, ρ, v, R, e1, fun x H1 F1 R1 E1 d1 => ⟨B, F0, F1, ρ, i, R1, e3, fun H2 F2 R2 E2 => ⟨B, F0, F2, ρ, j, R2, e5, fun H3 F3 R3 E3 => ?_⟩⟩⟩
    have d3 := (d1.ext E2).ext E3
    unfold pSlL at e6
    split at e6
    · rename_i l
      cases e6
      obtain ⟨a1, xs, rfl, h1, d1⟩ := bor_lst R3.fh d3
      exact ⟨a1, xs, rfl, h1, finOwn R3.fh (drAll_cut d1 _ _) fun u H4 F4 E4 s4 fp hp d4 => k _ _ _ (R3.ext E4 s4) (((E1.trans E2).trans E3).trans E4) fp (((E1.trans E2).trans E3).h.free hp) d4⟩
    · cases e6

/-! ### + of any two: ints, tuples, lists (a new list that is not changed) -/
def pPlus (v w : PV) : Option PV := match v, w with
  | .int i, .int j => some (.int (i + j))
  | .tuple a, .tuple b => if lineOk (a.length + b.length) = true then some (.tuple (a ++ b)) else none
  | .list a, .list b => if lineOk (a.length + b.length) = true then some (.list (a ++ b)) else none
  | _, _ => none
theorem op2_plus : Op2 K (fun x y H Q => (rI0 (fun i j => .int (i + j)) x y H Q ∨ rCatA K x y H Q) ∨ rCatR K x y H Q) pPlus := fun F H x y v w z Q fh dx dy e q => by
  unfold pPlus at e
  split at e
  · exact .inl (op2_add F H x y _ _ z Q fh dx dy e q)
  · exact .inl (op2_add F H x y _ _ z Q fh dx dy e q)
  · rename_i l m
    split at e
    · rename_i hz
      cases e
      obtain ⟨p, xs, rfl, h1, d1⟩ := bor_lst fh dx
      obtain ⟨p2, ys, rfl, h2, d2⟩ := bor_lst fh dy
      have l1 := drAll_length d1
      have l2 := drAll_length d2
      have hz' : l.length + m.length ≤ sizeLine := of_decide_eq_true hz
      exact .inr ⟨p, p2, xs, ys, rfl, rfl, h1, h2, by omega, finFrz fh (drAll_append d1 d2) q⟩
    · cases e
  · cases e
theorem se_plus (ha : SB X a f) (hb : SB X b g) : SE X (.BinOp a .Add b pos) (e2 pPlus f g) := se_op2 op2_plus ha hb fun h1 h2 => pe_op (OpR.or (OpR.or op_add op_catA) op_catR) h1 h2
end
end Pl

set_option Elab.async false
set_option linter.all false
set_option maxRecDepth 100000
set_option maxHeartbeats 4000000
set_option autoImplicit false
namespace Pl
open PySem PySem.Spec PyProof.Rows L2
open PySem.W (alike dataLt lt_data le_data gt_data ge_data)
variable {K : PySem.W.Frag}

/-! ### built-in functions of one and two values -/
def Un1 (K : PySem.W.Frag) (r : List V → Hp → VK → Prop) (g : PV → Option PV) : Prop := ∀ (F H : Hp) (x : V) (v z : PV) (Q : VK), Same F H → BoR K F H x v → g v = some z → (∀ u H' F', Ext F H F' H' → Same F' H' → Dr K F' u z → Q u H') → r [x] H Q
def Un1F (K : PySem.W.Frag) (r : List V → Hp → VK → Prop) (g : PV → Option PV) : Prop := ∀ (F H : Hp) (x : V) (v z : PV) (Q : VK), Same F H → BoR K F H x v → g v = some z → (∀ p H' F', Ext F H F' H' → Same F' H' → F' p = none → H p = none → OwnR K F' H' p z → Q (.ref p) H') → r [x] H Q
def Un2 (K : PySem.W.Frag) (r : List V → Hp → VK → Prop) (g : PV → PV → Option PV) : Prop := ∀ (F H : Hp) (x y : V) (v w z : PV) (Q : VK), Same F H → BoR K F H x v → BoR K F H y w → g v w = some z → (∀ u H' F', Ext F H F' H' → Same F' H' → Dr K F' u z → Q u H') → r [x, y] H Q
/-- no star -/
def NS (a : Expr) : Prop := ∀ env es, starEach (a :: es) env = (false, eval a env) :: starEach es env
theorem NS.one {b : Expr} (h : NS b) (pos : Pos) (env : Env) : (backTo pos (starEach [b] env)).any (·.1) = false := by
  rw [h]
  rfl
section
variable {X : Cx} {a b c e : Expr} {f g : PF} {pos p : Pos} {x : Str}
theorem se_un1 {r : List V → Hp → VK → Prop} {h : PV → Option PV} (o : Un1 X.K r h) (ha : SB X a f) (he : ∀ {t}, PA X [a] t → PE X e (tCB r t)) (na : NS a) : SE X e (e1 h f) :=
  PE.imp (he (pa_cons ha pa_nil (na _ _))) fun σ H Q ⟨B, F0, F, ρ, z, R, e, q⟩ => by
    obtain ⟨v, e1, e2⟩ := bind_some e
    refine ⟨B, F0, F, ρ, v, R, e1, fun x H1 F1 R1 E1 d1 => ?_⟩
    exact o F1 H1 x v z Q R1.fh d1 e2 fun u H2 F2 E2 s2 d2 => q _ _ _ (R1.ext E2 s2) (E1.trans E2) d2
theorem sf_un1 {r : List V → Hp → VK → Prop} {h : PV → Option PV} (o : Un1F X.K r h) (ha : SB X a f) (he : ∀ {t}, PA X [a] t → PE X e (tCB r t)) (na : NS a) : SF X e (e1 h f) :=
  PE.imp (he (pa_cons ha pa_nil (na _ _))) fun σ H Q ⟨B, F0, F, ρ, z, R, e, q⟩ => by
    obtain ⟨v, e1, e2⟩ := bind_some e
    refine ⟨B, F0, F, ρ, v, R, e1, fun x H1 F1 R1 E1 d1 => ?_⟩
    exact o F1 H1 x v z Q R1.fh d1 e2 fun u H2 F2 E2 s2 fp hp d2 => q _ _ _ (R1.ext E2 s2) (E1.trans E2) fp (E1.h.free hp) d2
theorem se_un2 {r : List V → Hp → VK → Prop} {h : PV → PV → Option PV} (o : Un2 X.K r h) (ha : SB X a f) (hb : SB X b g) (he : ∀ {t}, PA X [a, b] t → PE X e (tCB r t)) (na : NS a) (nb : NS b) : SE X e (e2 h f g) :=
  PE.imp (he (pa_cons ha (pa_cons hb pa_nil (nb _ _)) (na _ _))) fun σ H Q ⟨B, F0, F, ρ, z, R, e, q⟩ => by
    obtain ⟨v, e1, e2⟩ := bind_some e
    obtain ⟨w, e3, e4⟩ := bind_some e2
    refine ⟨B, F0, F, ρ, v, R, e1, fun x H1 F1 R1 E1 d1 => ⟨B, F0, F1, ρ, w, R1, e3, fun y H2 F2 R2 E2 d2 => ?_⟩⟩
    exact o F2 H2 x y v w z Q R2.fh (d1.ext E2) d2 e4 fun u H3 F3 E3 s3 d3 => q _ _ _ (R2.ext E3 s3) ((E1.trans E2).trans E3) d3

theorem un_len : Un1 K (fun xs H Q => ∃ p ys, xs = [.ref p] ∧ (SqL K H p ys ∨ SqT K H p ys) ∧ Q (.int ys.length) H) pLen := fun F H x v z Q fh d e q => by
  unfold pLen at e
  split at e
  · cases e
    obtain ⟨p, xs, rfl, h1, d1⟩ := bor_lst fh d
    refine ⟨p, xs, rfl, .inl h1, ?_⟩
    rw [drAll_length d1]
    exact fin0 fh (.int _) q
  · cases e
    obtain ⟨p, xs, rfl, f1, h1, d1⟩ := bor_tup fh d
    refine ⟨p, xs, rfl, .inr h1, ?_⟩
    rw [drAll_length d1]
    exact fin0 fh (.int _) q
  · cases e
theorem se_len (hg : Gl X "len") (hm : X.mg "len" = none) (ha : SB X a f) (na : NS a := by intro _ _; rfl) : SE X (.Call (.Name "len" p) [a] [] pos) (e1 pLen f) := se_un1 un_len ha (fun h => pe_callB call_len_seq hg hm PySem.boot_len h (he := na _ _)) na
def pInt : PV → Option PV
  | .int i => some (.int i)
  | .bool b => some (.int (if b = true then 1 else 0))
  | _ => none
theorem un_int : Un1 K (fun xs H Q => (∃ i, xs = [.int i] ∧ Q (.int i) H) ∨ ∃ k, xs = [.bl k] ∧ Q (.int (if k then 1 else 0)) H) pInt := fun F H x v z Q fh d e q => by
  unfold pInt at e
  split at e
  · cases e
    obtain rfl := bor_int d
    exact .inl ⟨_, rfl, fin0 fh (.int _) q⟩
  · cases e
    obtain rfl := bor_bool d
    exact .inr ⟨_, rfl, fin0 fh (.int _) q⟩
  · cases e
theorem boot_int' : bootBuiltins "int" = some (.type "int") := by decide +kernel
theorem boot_abs' : bootBuiltins "abs" = some (.builtin "abs") := by decide +kernel
theorem boot_tuple' : bootBuiltins "tuple" = some (.type "tuple") := by decide +kernel
theorem boot_list' : bootBuiltins "list" = some (.type "list") := by decide +kernel
theorem boot_sum' : bootBuiltins "sum" = some (.builtin "sum") := by decide +kernel
theorem boot_all' : bootBuiltins "all" = some (.builtin "all") := by decide +kernel
theorem boot_any' : bootBuiltins "any" = some (.builtin "any") := by decide +kernel
theorem boot_min' : bootBuiltins "min" = some (.builtin "min") := by decide +kernel
theorem boot_max' : bootBuiltins "max" = some (.builtin "max") := by decide +kernel
theorem boot_sorted' : bootBuiltins "sorted" = some (.builtin "sorted") := by decide +kernel
theorem boot_isi' : bootBuiltins "isinstance" = some (.builtin "isinstance") := by decide +kernel
theorem boot_bool' : bootBuiltins "bool" = some (.type "bool") := by decide +kernel
theorem boot_str' : bootBuiltins "str" = some (.type "str") := by decide +kernel
theorem se_intc (hg : Gl X "int") (hm : X.mg "int" = none) (ha : SB X a f) (na : NS a := by intro _ _; rfl) : SE X (.Call (.Name "int" p) [a] [] pos) (e1 pInt f) := se_un1 un_int ha (fun h => pe_callTy call_int1 hg hm boot_int' h (he := na _ _)) na
def pAbs : PV → Option PV
  | .int i => some (.int (if i < 0 then -i else i))
  | _ => none
theorem un_abs : Un1 K (fun xs H Q => ∃ i, xs = [.int i] ∧ Q (.int (if i < 0 then -i else i)) H) pAbs := fun F H x v z Q fh d e q => by
  unfold pAbs at e
  split at e
  · cases e
    obtain rfl := bor_int d
    exact ⟨_, rfl, fin0 fh (.int _) q⟩
  · cases e
theorem se_abs (hg : Gl X "abs") (hm : X.mg "abs" = none) (ha : SB X a f) (na : NS a := by intro _ _; rfl) : SE X (.Call (.Name "abs" p) [a] [] pos) (e1 pAbs f) := se_un1 un_abs ha (fun h => pe_callB call_abs hg hm boot_abs' h (he := na _ _)) na
def pTuple : PV → Option PV
  | .list l => some (.tuple l)
  | .tuple l => some (.tuple l)
  | _ => none
theorem un_tuple : Un1 K (fun xs H Q => ∃ p ys, xs = [.ref p] ∧ ((SqL K H p ys ∧ ∀ l, H l = none → Q (.ref l) (upd H l (.tup ys))) ∨ (SqT K H p ys ∧ Q (.ref p) H))) pTuple := fun F H x v z Q fh d e q => by
  unfold pTuple at e
  split at e
  · cases e
    obtain ⟨p, xs, rfl, h1, d1⟩ := bor_lst fh d
    exact ⟨p, xs, rfl, .inl ⟨h1, finNew (z := .none) fh d1 q⟩⟩
  · cases e
    obtain ⟨p, xs, rfl, f1, h1, d1⟩ := bor_tup fh d
    exact ⟨p, xs, rfl, .inr ⟨h1, fin0 fh (.tup f1 d1) q⟩⟩
  · cases e
theorem se_tuple (hg : Gl X "tuple") (hm : X.mg "tuple" = none) (ha : SB X a f) (na : NS a := by intro _ _; rfl) : SE X (.Call (.Name "tuple" p) [a] [] pos) (e1 pTuple f) := se_un1 un_tuple ha (fun h => pe_callTy call_tuple_of hg hm boot_tuple' h (he := na _ _)) na
def pList : PV → Option PV
  | .list l => some (.list l)
  | .tuple l => some (.list l)
  | _ => none
theorem un_list : Un1F K (fun xs H Q => ∃ p ys, xs = [.ref p] ∧ (SqL K H p ys ∨ SqT K H p ys) ∧ ∀ l, H l = none → Q (.ref l) (upd H l (.lst ys))) pList := fun F H x v z Q fh d e q => by
  unfold pList at e
  split at e
  · cases e
    obtain ⟨p, xs, rfl, h1, d1⟩ := bor_lst fh d
    exact ⟨p, xs, rfl, .inl h1, finOwn fh d1 q⟩
  · cases e
    obtain ⟨p, xs, rfl, f1, h1, d1⟩ := bor_tup fh d
    exact ⟨p, xs, rfl, .inr h1, finOwn fh d1 q⟩
  · cases e
theorem sf_list (hg : Gl X "list") (hm : X.mg "list" = none) (ha : SB X a f) (na : NS a := by intro _ _; rfl) : SF X (.Call (.Name "list" p) [a] [] pos) (e1 pList f) := sf_un1 un_list ha (fun h => pe_callTy call_list_of hg hm boot_list' h (he := na _ _)) na
/-! lists of ints, of bools -/
def toIs : List PV → Option (List Int)
  | [] => some []
  | d :: r => (toI d).bind fun i => (toIs r).bind fun l => some (i :: l)
def toBs : List PV → Option (List Bool)
  | [] => some []
  | d :: r => (toB d).bind fun i => (toBs r).bind fun l => some (i :: l)
theorem toIs_some : ∀ {l : List PV} {is : List Int}, toIs l = some is → l = is.map PyData.int
  | [], _, h => by cases h; rfl
  | d :: r, _, h => by
    obtain ⟨i, h1, h2⟩ := bind_some h
    obtain ⟨m, h3, h4⟩ := bind_some h2
    cases h4
    rw [toI_some h1, toIs_some h3]
    rfl
theorem toBs_some : ∀ {l : List PV} {is : List Bool}, toBs l = some is → l = is.map PyData.bool
  | [], _, h => by cases h; rfl
  | d :: r, _, h => by
    obtain ⟨i, h1, h2⟩ := bind_some h
    obtain ⟨m, h3, h4⟩ := bind_some h2
    cases h4
    rw [toB_some h1, toBs_some h3]
    rfl
theorem toIs_map (is : List Int) : toIs (is.map PyData.int) = some is := by
  induction is with
  | nil => rfl
  | cons i r ih => simp [toIs, toI, ih]
theorem toBs_map (is : List Bool) : toBs (is.map PyData.bool) = some is := by
  induction is with
  | nil => rfl
  | cons i r ih => simp [toBs, toB, ih]
theorem drAll_bools {F : Hp} : ∀ {bs : List Bool} {vs : List V}, DrAll K F vs (bs.map PyData.bool) → vs = bs.map V.bl
  | [], _, h => by cases h; rfl
  | n :: ns, _, h => by
    cases h with
    | cons h1 h2 =>
      cases h1
      rw [List.map_cons, drAll_bools h2]
def pSumL : PV → Option PV
  | .list l => (toIs l).bind fun is => some (.int is.sum)
  | _ => none
theorem un_sum : Un1 K (rSum K) pSumL := fun F H x v z Q fh d e q => by
  unfold pSumL at e
  split at e
  · obtain ⟨is, e1, e2⟩ := bind_some e
    cases e2
    obtain rfl := toIs_some e1
    obtain ⟨p, xs, rfl, h1, d1⟩ := bor_lst fh d
    obtain rfl := drAll_ints d1
    exact ⟨p, is, rfl, h1, fin0 fh (.int _) q⟩
  · cases e
theorem se_sum (hc : X.calm = true) (hg : Gl X "sum") (hm : X.mg "sum" = none) (ha : SB X a f) (na : NS a := by intro _ _; rfl) : SE X (.Call (.Name "sum" p) [a] [] pos) (e1 pSumL f) := se_un1 un_sum ha (fun h => pe_callB (cr_sum hc) hg hm boot_sum' h (he := na _ _)) na
def pAll : PV → Option PV
  | .list l => (toBs l).bind fun is => some (.bool (is.all id))
  | _ => none
def pAny : PV → Option PV
  | .list l => (toBs l).bind fun is => some (.bool (is.any id))
  | _ => none
theorem un_all : Un1 K (rAll K) pAll := fun F H x v z Q fh d e q => by
  unfold pAll at e
  split at e
  · obtain ⟨is, e1, e2⟩ := bind_some e
    cases e2
    obtain rfl := toBs_some e1
    obtain ⟨p, xs, rfl, h1, d1⟩ := bor_lst fh d
    obtain rfl := drAll_bools d1
    exact ⟨p, is, rfl, h1, fin0 fh (.bl _) q⟩
  · cases e
theorem un_any : Un1 K (rAny K) pAny := fun F H x v z Q fh d e q => by
  unfold pAny at e
  split at e
  · obtain ⟨is, e1, e2⟩ := bind_some e
    cases e2
    obtain rfl := toBs_some e1
    obtain ⟨p, xs, rfl, h1, d1⟩ := bor_lst fh d
    obtain rfl := drAll_bools d1
    exact ⟨p, is, rfl, h1, fin0 fh (.bl _) q⟩
  · cases e
theorem se_all (hc : X.calm = true) (hg : Gl X "all") (hm : X.mg "all" = none) (ha : SB X a f) (na : NS a := by intro _ _; rfl) : SE X (.Call (.Name "all" p) [a] [] pos) (e1 pAll f) := se_un1 un_all ha (fun h => pe_callB (cr_all hc) hg hm boot_all' h (he := na _ _)) na
theorem se_any (hc : X.calm = true) (hg : Gl X "any") (hm : X.mg "any" = none) (ha : SB X a f) (na : NS a := by intro _ _; rfl) : SE X (.Call (.Name "any" p) [a] [] pos) (e1 pAny f) := se_un1 un_any ha (fun h => pe_callB (cr_any hc) hg hm boot_any' h (he := na _ _)) na
def pMin2 : PV → PV → Option PV
  | .int i, .int j => some (.int (if j < i then j else i))
  | _, _ => none
def pMax2 : PV → PV → Option PV
  | .int i, .int j => some (.int (if i < j then j else i))
  | _, _ => none
theorem se_min2 (hc : X.calm = true) (hg : Gl X "min") (hm : X.mg "min" = none) (ha : SB X a f) (hb : SB X b g) (na : NS a := by intro _ _; rfl) (nb : NS b := by intro _ _; rfl) : SE X (.Call (.Name "min" p) [a, b] [] pos) (e2 pMin2 f g) :=
  se_un2 (fun F H x y v w z Q fh d1 d2 e q => by
    unfold pMin2 at e
    split at e
    · cases e
      obtain rfl := bor_int d1
      obtain rfl := bor_int d2
      exact ⟨_, _, rfl, fin0 fh (.int _) q⟩
    · cases e) ha hb (fun h => pe_callB (call_min2 hc) hg hm boot_min' h (he := na _ _) (hpl := nb.one _ _)) na nb
theorem se_max2 (hc : X.calm = true) (hg : Gl X "max") (hm : X.mg "max" = none) (ha : SB X a f) (hb : SB X b g) (na : NS a := by intro _ _; rfl) (nb : NS b := by intro _ _; rfl) : SE X (.Call (.Name "max" p) [a, b] [] pos) (e2 pMax2 f g) :=
  se_un2 (fun F H x y v w z Q fh d1 d2 e q => by
    unfold pMax2 at e
    split at e
    · cases e
      obtain rfl := bor_int d1
      obtain rfl := bor_int d2
      exact ⟨_, _, rfl, fin0 fh (.int _) q⟩
    · cases e) ha hb (fun h => pe_callB (call_max2 hc) hg hm boot_max' h (he := na _ _) (hpl := nb.one _ _)) na nb

/-! isinstance -/
def tyName : PV → Option String
  | .none => some "NoneType"
  | .bool _ => some "bool"
  | .int _ => some "int"
  | .str _ => some "str"
  | .list _ => some "list"
  | .tuple _ => some "tuple"
  | .dict _ => none
theorem ty_of {F H : Hp} {x : V} {v : PV} {t : String} (fh : Same F H) (d : BoR K F H x v) (h : tyName v = some t) : TyX K H x (.type t) := by
  cases v with
  | none => cases h; obtain rfl := bor_none d; exact .base .non
  | bool b => cases h; obtain rfl := bor_bool d; exact .base (.bl b)
  | int i => cases h; obtain rfl := bor_int d; exact .base (.int i)
  | str i => cases h; obtain rfl := bor_str d; exact .base (.str i)
  | list l =>
    cases h
    obtain ⟨p, xs, rfl, h1, d1⟩ := bor_lst fh d
    rcases h1 with (h1 | ⟨o, h1⟩) | ⟨o, is, m, h1, hc, _⟩
    · exact .base (.lst h1)
    · exact .base (.frz h1)
    · exact .kList h1 hc
  | tuple l =>
    cases h
    obtain ⟨p, xs, rfl, f1, h1, d1⟩ := bor_tup fh d
    rcases h1 with (h1 | ⟨o, h1⟩) | ⟨o, is, m, h1, hc, _⟩
    · exact .base (.tup h1)
    · exact .fTuple h1
    · exact .kTuple h1 hc
  | dict l => cases h
def pIsi (T : String) (v : PV) : Option PV := (tyName v).bind fun t => (kitB t T).bind fun b => some (.bool b)
/-- isinstance(a, T), T a built-in class by its name -/
theorem se_isi {T : Str} {n : String} {pT : Pos} (hg : Gl X "isinstance") (hm : X.mg "isinstance" = none) (ha : SB X a f) (hT : PE X (.Name T pT) (tC (.ty n))) (na : NS a := by intro _ _; rfl) : SE X (.Call (.Name "isinstance" p) [a, .Name T pT] [] pos) (e1 (pIsi n) f) :=
  PE.imp (pe_callB call_isi hg hm boot_isi' (pa_cons ha (pa_cons hT pa_nil) (na _ _)) (he := na _ _)) fun σ H Q ⟨B, F0, F, ρ, z, R, e, q⟩ => by
    obtain ⟨v, e1, e2⟩ := bind_some e
    refine ⟨B, F0, F, ρ, v, R, e1, fun x H1 F1 R1 E1 d1 => ?_⟩
    obtain ⟨t, e3, e4⟩ := bind_some e2
    obtain ⟨k, e5, e6⟩ := bind_some e4
    cases e6
    exact ⟨x, .ty n, .type t, .type n, k, rfl, .ty n, ty_of R1.fh d1 e3, kit_ty e5, q _ _ _ R1 E1 (.bl _)⟩
theorem kit_vals : kitB "NoneType" "int" = some false ∧ kitB "bool" "int" = some true ∧ kitB "int" "int" = some true ∧ kitB "str" "int" = some false ∧ kitB "list" "int" = some false ∧ kitB "tuple" "int" = some false ∧
    kitB "NoneType" "bool" = some false ∧ kitB "bool" "bool" = some true ∧ kitB "int" "bool" = some false ∧ kitB "str" "bool" = some false ∧ kitB "list" "bool" = some false ∧ kitB "tuple" "bool" = some false ∧
    kitB "NoneType" "tuple" = some false ∧ kitB "bool" "tuple" = some false ∧ kitB "int" "tuple" = some false ∧ kitB "str" "tuple" = some false ∧ kitB "list" "tuple" = some false ∧ kitB "tuple" "tuple" = some true ∧
    kitB "NoneType" "str" = some false ∧ kitB "bool" "str" = some false ∧ kitB "int" "str" = some false ∧ kitB "str" "str" = some true ∧ kitB "list" "str" = some false ∧ kitB "tuple" "str" = some false := by decide +kernel
end
end Pl

set_option Elab.async false
set_option linter.all false
set_option maxRecDepth 100000
set_option maxHeartbeats 4000000
set_option autoImplicit false
namespace Pl
open PySem PySem.Spec PyProof.Rows L2
open PySem.W (alike dataLt lt_data le_data gt_data ge_data)
variable {K : PySem.W.Frag}

/-! ### what is walked -/
/-- the iterator J yields the items l while all of G stands; each item stands in F, or is a new tuple of such -/
structure Yl (K : PySem.W.Frag) (J : It) (l : List PV) (F G : Hp) : Prop where
  go : ∀ (i : Nat) (H : Hp), Same G H → i < l.length → J.go i H
  stop : ∀ (i : Nat) (H : Hp), Same G H → l.length = i → J.stop i H
  yld : ∀ (i : Nat) (H : Hp) (x : V) (H' : Hp), Same G H → i < l.length → J.yld i H x H' → ∃ d, l[i]? = some d ∧ ((H' = H ∧ Dr K F x d) ∨ ∃ T xs ds, x = .ref T ∧ H T = none ∧ H' = upd H T (.tup xs) ∧ DrAll K F xs ds ∧ d = .tuple ds)
abbrev LF := PEnv → Option (List PV)
/-- for a loop: what is walked never changes -/
def tI (K : PySem.W.Frag) (L : LF) : TI := fun σ H R => ∃ B F0 F ρ l, RE K B F0 F H σ ρ ∧ L ρ = some l ∧ ∀ J H' F', RE K B F0 F' H' σ ρ → Ext F H F' H' → Yl K J l F' F' → R J H'
/-- for a comprehension: an own list may be walked too -/
def tIB (K : PySem.W.Frag) (L : LF) : TI := fun σ H R => ∃ B F0 F ρ l, RE K B F0 F H σ ρ ∧ L ρ = some l ∧ ∀ J H' F' G, RE K B F0 F' H' σ ρ → Ext F H F' H' → Same F' G → Same G H' → Yl K J l F' G → R J H'
abbrev SI (X : Cx) (tg e : Expr) (L : LF) : Prop := PI X tg e (tI X.K L)
abbrev SIB (X : Cx) (tg e : Expr) (L : LF) : Prop := PI X tg e (tIB X.K L)
section
variable {X : Cx} {tg a b c e : Expr} {f g : PF} {pos p : Pos} {x : Str}
theorem PI.imp {t t' : TI} (h : PI X tg e t) (i : ∀ σ H Q, t' σ H Q → t σ H Q) : PI X tg e t' := ⟨fun pins s σ H Q I q => h.run pins s σ H Q I (i σ H Q q)⟩
theorem sib_of {L : LF} (h : SI X tg e L) : SIB X tg e L := PI.imp h fun σ H R ⟨B, F0, F, ρ, l, R1, e, q⟩ => ⟨B, F0, F, ρ, l, R1, e, fun J H' F' R' E' y => q J H' F' F' R' E' (Same.refl _) R'.fh y⟩
/-- a list or a tuple, whichever it is -/
def iSeq (K : PySem.W.Frag) (tl : TE) : TI := fun σ H R => tl σ H fun x H1 => ∃ a, x = .ref a ∧ (((∃ xs, SqL K H1 a xs) ∧ R (Itl K a) H1) ∨ ((∃ xs, SqT K H1 a xs) ∧ R (Itt K a) H1))
theorem pi_seq {tl : TE} (hl : PE X e tl) : PI X tg e (iSeq X.K tl) := by
  refine ⟨fun pins s σ H R I h => thn (hl.run pins s σ H _ I h) fun v s1 ⟨y, H1, I1, ry, q1⟩ => ?_⟩
  obtain ⟨ad, ey, q2⟩ := q1
  subst ey
  cases ry
  have fp : ∀ b ∈ [s1.heap.objs.size], FpOk X pins H1 b := fun b hb => by
    rw [List.mem_singleton.mp hb]
    exact I1.fpOk (Nat.le_refl _) I1.fresh
  have kp : ∀ o : Obj, Inv X pins σ H1 { s1 with heap := s1.heap.push o } := fun o => I1.kept (t' := s1.toks) fun _ _ z => Heap.get?_push_of_some _ z
  rcases q2 with ⟨⟨xs, hq⟩, r⟩ | ⟨⟨xs, hq⟩, r⟩
  · obtain ⟨its, rv, pl, hz⟩ := I1.list hq
    exact wpAny_pyIter_list pl.isList ⟨_, _, _, _, H1, rfl, kp _, turn_list ad _, ⟨_, Heap.get?_push_size _ rfl, rfl, rfl⟩, fp, r⟩
  · obtain ⟨its, rv, pl, hz⟩ := I1.tuple hq
    exact wpAny_pyIter_tuple (show s1.heap.IsTuple ad its.toArray from pl) ⟨_, _, _, _, H1, rfl, kp _, turn_tuple ad _, ⟨_, Heap.get?_push_size _ rfl, rfl, rfl⟩, fp, r⟩
def toL : PV → Option (List PV)
  | .list l => some l
  | .tuple l => some l
  | _ => none
def lSeq (f : PF) : LF := fun ρ => (f ρ).bind toL
theorem yl_list {a : Addr} {xs : List V} {l : List PV} {F G : Hp} (h : SqL K G a xs) (d : DrAll K F xs l) : Yl K (Itl K a) l F G where
  go := fun i H s hi => by
    obtain ⟨v, h1, h2⟩ := drAll_get d (List.getElem?_eq_getElem hi)
    exact ⟨xs, v, sqL_same s h, h1⟩
  stop := fun i H s hi => ⟨xs, sqL_same s h, by rw [drAll_length d]; exact Nat.le_of_eq hi⟩
  yld := fun i H x H' s hi y => by
    obtain ⟨e1, e2⟩ := y
    obtain ⟨dd, h1, h2⟩ := drAll_get' d (e2 xs (sqL_same s h))
    exact ⟨dd, h1, .inl ⟨e1, h2⟩⟩
theorem yl_tup {a : Addr} {xs : List V} {l : List PV} {F G : Hp} (h : SqT K G a xs) (d : DrAll K F xs l) : Yl K (Itt K a) l F G where
  go := fun i H s hi => by
    obtain ⟨v, h1, h2⟩ := drAll_get d (List.getElem?_eq_getElem hi)
    exact ⟨xs, v, sqT_same s h, h1⟩
  stop := fun i H s hi => ⟨xs, sqT_same s h, by rw [drAll_length d]; exact Nat.le_of_eq hi⟩
  yld := fun i H x H' s hi y => by
    obtain ⟨e1, e2⟩ := y
    obtain ⟨dd, h1, h2⟩ := drAll_get' d (e2 xs (sqT_same s h))
    exact ⟨dd, h1, .inl ⟨e1, h2⟩⟩
theorem si_seq (ha : SE X a f) : SI X tg a (lSeq f) := PI.imp (pi_seq ha) fun σ H R ⟨B, F0, F, ρ, l, R1, e, q⟩ => by
  obtain ⟨v, e1, e2⟩ := bind_some e
  refine ⟨B, F0, F, ρ, v, R1, e1, fun x H1 F1 R2 E1 d1 => ?_⟩
  unfold toL at e2
  split at e2
  · cases e2
    cases d1 with
    | lst hs ha => exact ⟨_, rfl, .inl ⟨⟨_, sqL_same R2.fh hs⟩, q _ _ _ R2 E1 (yl_list hs ha)⟩⟩
  · cases e2
    cases d1 with
    | tup hs ha => exact ⟨_, rfl, .inr ⟨⟨_, sqT_same R2.fh hs⟩, q _ _ _ R2 E1 (yl_tup hs ha)⟩⟩
  · cases e2
theorem same_add {F H : Hp} {a : Addr} {o : HO} (fh : Same F H) (h : H a = some o) : Same F (upd F a o) ∧ Same (upd F a o) H := ⟨fun b u e => by
  by_cases z : b = a
  · subst z
    rw [upd_same, ← h, fh _ _ e]
  · rw [upd_ne z]
    exact e, fun b u e => by
  by_cases z : b = a
  · subst z
    rw [upd_same] at e
    rw [h]
    exact e
  · rw [upd_ne z] at e
    exact fh _ _ e⟩
theorem sib_seq (ha : SB X a f) : SIB X tg a (lSeq f) := PI.imp (pi_seq ha) fun σ H R ⟨B, F0, F, ρ, l, R1, e, q⟩ => by
  obtain ⟨v, e1, e2⟩ := bind_some e
  refine ⟨B, F0, F, ρ, v, R1, e1, fun x H1 F1 R2 E1 d1 => ?_⟩
  unfold toL at e2
  split at e2
  · cases e2
    rcases d1 with d1 | ⟨p, rfl, xs, h1, h2⟩
    · cases d1 with
      | lst hs ha => exact ⟨_, rfl, .inl ⟨⟨_, sqL_same R2.fh hs⟩, q _ _ _ _ R2 E1 (Same.refl _) R2.fh (yl_list hs ha)⟩⟩
    · obtain ⟨s1, s2⟩ := same_add R2.fh h1
      exact ⟨p, rfl, .inl ⟨⟨_, .inl (.inl h1)⟩, q _ _ _ _ R2 E1 s1 s2 (yl_list (.inl (.inl upd_same)) h2)⟩⟩
  · cases e2
    obtain ⟨p, xs, rfl, f1, h1, d1⟩ := bor_tup R2.fh d1
    exact ⟨p, rfl, .inr ⟨⟨_, h1⟩, q _ _ _ _ R2 E1 (Same.refl _) R2.fh (yl_tup f1 d1)⟩⟩
  · cases e2
/-- a, a + 1, .. b - 1 -/
def rng (a b : Int) : List Int := (List.range (b - a).toNat).map fun i => a + ((i : Nat) : Int)
theorem rng_length (a b : Int) : (rng a b).length = (b - a).toNat := by unfold rng; rw [List.length_map, List.length_range]
theorem rng_get (a b : Int) (i : Nat) (h : i < (b - a).toNat) : (rng a b)[i]? = some (a + (i : Int)) := by
  unfold rng
  rw [List.getElem?_map, List.getElem?_range h]
  rfl
theorem yl_rng (a b : Int) (F G : Hp) : Yl K (Itr a (b - a).toNat) ((rng a b).map PyData.int) F G where
  go := fun i H s hi => by
    rw [List.length_map, rng_length] at hi
    exact hi
  stop := fun i H s hi => by
    rw [List.length_map, rng_length] at hi
    exact Nat.le_of_eq hi
  yld := fun i H x H' s hi y => by
    obtain ⟨e1, e2⟩ := y
    subst e1 e2
    rw [List.length_map, rng_length] at hi
    refine ⟨.int (a + (i : Int)), ?_, .inl ⟨rfl, .int _⟩⟩
    rw [List.getElem?_map, rng_get a b i hi]
    rfl
def rOk (a b : Int) : Bool := decide (-(2 ^ 62) ≤ a) && (decide (a < 2 ^ 62) && (decide (-(2 ^ 62) ≤ b) && decide (b < 2 ^ 62)))
theorem rOk_iff {a b : Int} (h : rOk a b = true) : -(2 ^ 62) ≤ a ∧ a < 2 ^ 62 ∧ -(2 ^ 62) ≤ b ∧ b < 2 ^ 62 := by
  unfold rOk at h
  simp only [Bool.and_eq_true, decide_eq_true_eq] at h
  exact h
def pRng (v w : PV) : Option (List PV) := (toI v).bind fun i => (toI w).bind fun j => if rOk i j = true then some ((rng i j).map PyData.int) else none
def lRng1 (f : PF) : LF := fun ρ => (f ρ).bind fun v => pRng (.int 0) v
def lRng2 (f g : PF) : LF := fun ρ => (f ρ).bind fun v => (g ρ).bind fun w => pRng v w
theorem pRng_some {v w : PV} {l : List PV} (h : pRng v w = some l) : ∃ i j, v = .int i ∧ w = .int j ∧ (-(2 ^ 62) ≤ i ∧ i < 2 ^ 62 ∧ -(2 ^ 62) ≤ j ∧ j < 2 ^ 62) ∧ l = (rng i j).map PyData.int := by
  obtain ⟨i, h1, h2⟩ := bind_some h
  obtain ⟨j, h3, h4⟩ := bind_some h2
  split at h4
  · rename_i ok
    cases h4
    exact ⟨i, j, toI_some h1, toI_some h3, rOk_iff ok, rfl⟩
  · cases h4
theorem si_rng1 (hg : Gl X "range") (hm : X.mg "range" = none) (ha : SB X a f) (na : NS a := by intro _ _; rfl) : SI X tg (.Call (.Name "range" p) [a] [] pos) (lRng1 f) := PI.imp (pi_range1 hg hm (pa_cons ha pa_nil (na _ _)) (na _ _)) fun σ H R ⟨B, F0, F, ρ, l, R1, e, q⟩ => by
  obtain ⟨v, e1, e2⟩ := bind_some e
  obtain ⟨i, j, hi, rfl, ok, rfl⟩ := pRng_some e2
  cases hi
  refine ⟨B, F0, F, ρ, _, R1, e1, fun x H1 F1 R2 E1 d1 => ?_⟩
  obtain rfl := bor_int d1
  refine ⟨j, rfl, ok.2.2.1, ok.2.2.2, q _ _ _ R2 E1 ?_⟩
  have := yl_rng (K := X.K) 0 j F1 F1
  rw [Int.sub_zero] at this
  exact this
theorem si_rng2 (hg : Gl X "range") (hm : X.mg "range" = none) (ha : SB X a f) (hb : SB X b g) (na : NS a := by intro _ _; rfl) (nb : NS b := by intro _ _; rfl) : SI X tg (.Call (.Name "range" p) [a, b] [] pos) (lRng2 f g) :=
  PI.imp (pi_range2 hg hm (pa_cons ha (pa_cons hb pa_nil (nb _ _)) (na _ _)) (by rw [na, nb]; rfl) (nb _ _)) fun σ H R ⟨B, F0, F, ρ, l, R1, e, q⟩ => by
  obtain ⟨v, e1, e2⟩ := bind_some e
  obtain ⟨w, e3, e4⟩ := bind_some e2
  obtain ⟨i, j, rfl, rfl, ok, rfl⟩ := pRng_some e4
  refine ⟨B, F0, F, ρ, _, R1, e1, fun x H1 F1 R2 E1 d1 => ⟨B, F0, F1, ρ, _, R2, e3, fun y H2 F2 R3 E2 d2 => ?_⟩⟩
  obtain rfl := bor_int d1
  obtain rfl := bor_int d2
  exact ⟨i, j, rfl, ok, q _ _ _ R3 (E1.trans E2) (yl_rng i j F2 F2)⟩

/-! ### targets -/
abbrev GF := PV → PEnv → Option PEnv
def tG (K : PySem.W.Frag) (h : GF) (ts : List Nat) : TG := fun x σ H Q => ∃ B F0 F ρ d ρ', RE K B F0 F H σ ρ ∧ Dr K F x d ∧ h d ρ = some ρ' ∧ ∀ σ', RE K B F0 F H σ' ρ' → (∀ vs : List Nat, (∀ i ∈ ts, i ∈ vs) → wipe σ' vs = wipe σ vs) → (∀ (i : Nat) v, ρ'[i]? = some (.own v) → ρ[i]? = some (.own v) ∧ σ'[i]? = σ[i]?) → Q σ' H
abbrev SG (X : Cx) (tg : Expr) (h : GF) (ts : List Nat) : Prop := PG X tg (tG X.K h ts)
theorem PG.imp {t t' : TG} (h : PG X tg t) (i : ∀ x σ H Q, t' x σ H Q → t x σ H Q) : PG X tg t' := ⟨fun pins s σ H v u Q I r q => h.run pins s σ H v u Q I r (i v σ H Q q)⟩
def gN (i : Nat) : GF := fun d ρ => if i < ρ.length then some (ρ.set i (.val d)) else none
theorem RE.setVal {B F0 F H : Hp} {σ : L2.St} {ρ : PEnv} {i : Nat} {v : V} {d : PV} (R : RE K B F0 F H σ ρ) (hd : Dr K F v d) : RE K B F0 F H (σ.set i (some v)) (ρ.set i (.val d)) := by
  refine ⟨R.fh, R.bh, R.f0, R.ff, by rw [List.length_set, List.length_set]; exact R.len, fun j w h => ?_, fun j w h => ?_, fun j k w w' ad h1 h2 h3 h4 => ?_⟩
  · by_cases z : i = j
    · subst z
      by_cases hi : i < ρ.length
      · rw [List.getElem?_set_self hi] at h
        cases h
        exact ⟨v, List.getElem?_set_self (by rw [R.len]; exact hi), hd⟩
      · rw [List.getElem?_eq_none (by rw [List.length_set]; omega)] at h
        cases h
    · rw [List.getElem?_set_ne z] at h ⊢
      exact R.val j w h
  · by_cases z : i = j
    · subst z
      by_cases hi : i < ρ.length
      · rw [List.getElem?_set_self hi] at h
        cases h
      · rw [List.getElem?_eq_none (by rw [List.length_set]; omega)] at h
        cases h
    · rw [List.getElem?_set_ne z] at h ⊢
      exact R.own j w h
  · have f : ∀ m u, (ρ.set i (.val d))[m]? = some (.own u) → i ≠ m ∧ ρ[m]? = some (.own u) := fun m u h => by
      by_cases z : i = m
      · subst z
        by_cases hi : i < ρ.length
        · rw [List.getElem?_set_self hi] at h
          cases h
        · rw [List.getElem?_eq_none (by rw [List.length_set]; omega)] at h
          cases h
      · rw [List.getElem?_set_ne z] at h
        exact ⟨z, h⟩
    obtain ⟨z1, g1⟩ := f j w h1
    obtain ⟨z2, g2⟩ := f k w' h2
    rw [List.getElem?_set_ne z1] at h3
    rw [List.getElem?_set_ne z2] at h4
    exact R.sep j k w w' ad g1 g2 h3 h4
theorem wipe_set {σ : L2.St} {i : Nat} {o : Option V} : ∀ {vs : List Nat}, i ∈ vs → wipe (σ.set i o) vs = wipe σ vs
  | [], h => by cases h
  | v :: vs, h => by
    unfold wipe
    by_cases z : i = v
    · subst z
      by_cases hv : i ∈ vs
      · rw [wipe_set hv]
      · have : ∀ vs : List Nat, i ∉ vs → wipe (σ.set i o) vs = (wipe σ vs).set i o := fun vs => by
          induction vs with
          | nil => intro _; rfl
          | cons w ws ih =>
            intro h
            simp only [List.mem_cons, not_or] at h
            unfold wipe
            rw [ih h.2, List.set_comm _ _ h.1]
        rw [this vs hv, List.set_set]
    · have : i ∈ vs := by
        rcases List.mem_cons.mp h with h | h
        · exact absurd h z
        · exact h
      rw [wipe_set this]
theorem sg_name {i : Nat} {pos' : Pos} (hN : X.N.Nodup) (hi : X.N[i]? = some x) (hx : Loc X.env.scope x) (hf : X.fn x = true ∨ X.env.scope.names.lookup x = some .local := by first | exact .inl rfl | exact .inr rfl | assumption) : SG X (.Name x pos') (gN i) [i] :=
  PG.imp (pg_name hN hi hx hf) fun y σ H Q ⟨B, F0, F, ρ, d, ρ', R, dr, e, q⟩ => by
    unfold gN at e
    split at e
    · cases e
      refine q _ (R.setVal dr) (fun vs h => wipe_set (h i (by simp))) fun j w h => ?_
      by_cases z : i = j
      · subst z
        rw [List.getElem?_set_self (by assumption)] at h
        cases h
      · rw [List.getElem?_set_ne z] at h ⊢
        exact ⟨h, rfl⟩
    · cases e
/-! several -/
abbrev GFs := List PV → PEnv → Option PEnv
def tGs (K : PySem.W.Frag) (h : GFs) (ts : List Nat) : TGs := fun xs σ H Q => ∃ B F0 F ρ d ρ', RE K B F0 F H σ ρ ∧ DrAll K F xs d ∧ h d ρ = some ρ' ∧ ∀ σ', RE K B F0 F H σ' ρ' → (∀ vs : List Nat, (∀ i ∈ ts, i ∈ vs) → wipe σ' vs = wipe σ vs) → (∀ (i : Nat) v, ρ'[i]? = some (.own v) → ρ[i]? = some (.own v) ∧ σ'[i]? = σ[i]?) → Q σ' H
abbrev SGs (X : Cx) (tgs : List Expr) (h : GFs) (ts : List Nat) : Prop := PGs X tgs (tGs X.K h ts)
theorem PGs.imp {es : List Expr} {t t' : TGs} (h : PGs X es t) (i : ∀ x σ H Q, t' x σ H Q → t x σ H Q) : PGs X es t' := ⟨fun pins s σ H v u Q I r q => h.run pins s σ H v u Q I r (i v σ H Q q)⟩
def gNil' : GFs := fun ds ρ => match ds with
  | [] => some ρ
  | _ => none
def gCons' (h : GF) (r : GFs) : GFs := fun ds ρ => match ds with
  | [] => none
  | d :: t => (h d ρ).bind fun ρ1 => r t ρ1
def gT (h : GFs) : GF := fun d ρ => match d with
  | .tuple l => h l ρ
  | _ => none
theorem sgs_nil : SGs X [] gNil' [] := PGs.imp pgs_nil fun xs σ H Q ⟨B, F0, F, ρ, d, ρ', R, dr, e, q⟩ => by
  unfold gNil' at e
  split at e
  · cases e
    cases dr
    exact ⟨rfl, q _ R (fun vs _ => rfl) fun _ _ h => ⟨h, rfl⟩⟩
  · cases e
theorem sgs_cons {es : List Expr} {h : GF} {r : GFs} {t1 t2 : List Nat} (h1 : SG X e h t1) (h2 : SGs X es r t2) (hs : (assignEach (e :: es) X.env).map (·.2) = assign e X.env :: (assignEach es X.env).map (·.2) := by rfl) : SGs X (e :: es) (gCons' h r) (t1 ++ t2) :=
  PGs.imp (pgs_cons h1 h2 hs) fun xs σ H Q ⟨B, F0, F, ρ, d, ρ', R, dr, e, q⟩ => by
    unfold gCons' at e
    split at e
    · cases e
    · rename_i d0 t
      cases dr with
      | cons g1 g2 =>
        obtain ⟨ρ1, e1, e2⟩ := bind_some e
        refine ⟨_, _, rfl, B, F0, F, ρ, d0, ρ1, R, g1, e1, fun σ1 R1 w1 o1 => ⟨B, F0, F, ρ1, t, ρ', R1, g2, e2, fun σ2 R2 w2 o2 => q _ R2 (fun vs hv => ?_) fun i v h => ?_⟩⟩
        · rw [w2 vs fun i hi => hv i (List.mem_append_right _ hi), w1 vs fun i hi => hv i (List.mem_append_left _ hi)]
        · obtain ⟨h1, h2⟩ := o2 i v h
          obtain ⟨h3, h4⟩ := o1 i v h1
          exact ⟨h3, h2.trans h4⟩
theorem sg_tup {es : List Expr} {k n : Nat} {h : GFs} {ts : List Nat} (hc : X.calm = true) (hs : SGs X es h ts) (hn : (assignEach es X.env).length = n := by rfl) (hst : (assignEach es X.env).findIdx? (·.1) = none := by rfl) (hl : ∀ ds ρ ρ', h ds ρ = some ρ' → ds.length = n) : SG X (.Tuple es k pos) (gT h) ts :=
  PG.imp (pg_tup hc hs hn hst) fun y σ H Q ⟨B, F0, F, ρ, d, ρ', R, dr, e, q⟩ => by
    unfold gT at e
    split at e
    · rename_i l
      cases dr with
      | tup hs ha =>
        exact ⟨_, _, rfl, sqT_same R.fh hs, by rw [drAll_length ha]; exact hl _ _ _ e, B, F0, F, ρ, l, ρ', R, ha, e, q⟩
    · cases e
theorem gNil_len : ∀ ds ρ ρ', gNil' ds ρ = some ρ' → ds.length = 0 := fun ds ρ ρ' h => by
  unfold gNil' at h
  split at h
  · rfl
  · cases h
theorem gCons_len {h : GF} {r : GFs} {n : Nat} (hr : ∀ ds ρ ρ', r ds ρ = some ρ' → ds.length = n) : ∀ ds ρ ρ', gCons' h r ds ρ = some ρ' → ds.length = n + 1 := fun ds ρ ρ' e => by
  unfold gCons' at e
  split at e
  · cases e
  · obtain ⟨ρ1, e1, e2⟩ := bind_some e
    rw [List.length_cons, hr _ _ _ e2]

/-! ### comprehensions -/
def wipeE (ρ : PEnv) : List Nat → PEnv
  | [] => ρ
  | v :: vs => (wipeE ρ vs).set v .un
theorem RE.setUn {B F0 F H : Hp} {σ : L2.St} {ρ : PEnv} {i : Nat} {o : Option V} (R : RE K B F0 F H σ ρ) : RE K B F0 F H (σ.set i o) (ρ.set i .un) := by
  have f : ∀ m s, (ρ.set i .un)[m]? = some s → s ≠ .un → i ≠ m ∧ ρ[m]? = some s := fun m s h n => by
    by_cases z : i = m
    · subst z
      by_cases hi : i < ρ.length
      · rw [List.getElem?_set_self hi] at h
        cases h
        exact absurd rfl n
      · rw [List.getElem?_eq_none (by rw [List.length_set]; omega)] at h
        cases h
    · rw [List.getElem?_set_ne z] at h
      exact ⟨z, h⟩
  refine ⟨R.fh, R.bh, R.f0, R.ff, by rw [List.length_set, List.length_set]; exact R.len, fun j w h => ?_, fun j w h => ?_, fun j k w w' ad h1 h2 h3 h4 => ?_⟩
  · obtain ⟨z, g⟩ := f j _ h (fun q => by cases q)
    rw [List.getElem?_set_ne z]
    exact R.val j w g
  · obtain ⟨z, g⟩ := f j _ h (fun q => by cases q)
    rw [List.getElem?_set_ne z]
    exact R.own j w g
  · obtain ⟨z1, g1⟩ := f j _ h1 (fun q => by cases q)
    obtain ⟨z2, g2⟩ := f k _ h2 (fun q => by cases q)
    rw [List.getElem?_set_ne z1] at h3
    rw [List.getElem?_set_ne z2] at h4
    exact R.sep j k w w' ad g1 g2 h3 h4
theorem RE.wiped {B F0 F H : Hp} {σ : L2.St} {ρ : PEnv} (R : RE K B F0 F H σ ρ) : ∀ vs : List Nat, RE K B F0 F H (wipe σ vs) (wipeE ρ vs)
  | [] => R
  | v :: vs => (R.wiped vs).setUn
def compL (h : GF) (c : PEnv → Option Bool) (e : PF) (ρ : PEnv) : List PV → Option (List PV)
  | [] => some []
  | x :: r => (h x ρ).bind fun ρ1 => (c ρ1).bind fun b => if b = true then (e ρ1).bind fun y => (compL h c e ρ r).bind fun ys => some (y :: ys) else compL h c e ρ r
def eComp (L : LF) (vs : List Nat) (h : GF) (c : PEnv → Option Bool) (e : PF) : PF := fun ρ => (L ρ).bind fun l => (compL h c e (wipeE ρ vs) l).bind pLst
def cYes : PEnv → Option Bool := fun _ => some true
/-- the tests of a clause -/
structure STs (X : Cx) (ifs : List Expr) (c : PEnv → Option Bool) : Prop where
  h : PTs X ifs (tT X.K c)
theorem PTs.imp {ifs : List Expr} {t t' : TT} (h : PTs X ifs t) (i : ∀ σ H Q, t' σ H Q → t σ H Q) : PTs X ifs t' := ⟨fun pins s σ H Q I q => h.run pins s σ H Q I (i σ H Q q)⟩
theorem sts_nil : PTs X [] (tT X.K cYes) := PTs.imp pts_nil fun σ H Q ⟨B, F0, F, ρ, z, R, e, q⟩ => by
  cases e
  exact q _ _ R (Ext.refl _ _)
theorem sts_one {k : PEnv → Option Bool} (h : ST X c k) : PTs X [c] (tT X.K k) := pts_one h
end
end Pl

set_option Elab.async false
set_option linter.all false
set_option maxRecDepth 100000
set_option maxHeartbeats 4000000
set_option autoImplicit false
namespace Pl
open PySem PySem.Spec PyProof.Rows L2
open PySem.W (alike dataLt lt_data le_data gt_data ge_data)
variable {K : PySem.W.Frag}

theorem RE.updOther {B F0 F H : Hp} {σ : L2.St} {ρ : PEnv} {D : Addr} {o : HO} (R : RE K B F0 F H σ ρ) (fd : F D = none) (bd : B D = none) (no : ∀ (i : Nat) v, ρ[i]? = some (.own v) → σ[i]? ≠ some (some (.ref D))) : RE K B F0 F (upd H D o) σ ρ := by
  refine ⟨fun b u e => ?_, fun b u e => ?_, R.f0, R.ff, R.len, R.val, fun i v h => ?_, R.sep⟩
  · rw [upd_ne (ne_of_none e fd)]
    exact R.fh _ _ e
  · rw [upd_ne (ne_of_none e bd)]
    exact R.bh _ _ e
  · obtain ⟨a, h1, h2, h3, h4⟩ := R.own i v h
    have z : a ≠ D := fun z => no i v h (z ▸ h1)
    exact ⟨a, h1, h2, h3, h4.same (Same.refl _) (upd_ne z)⟩
theorem RE.notOwn {B F0 F H : Hp} {σ : L2.St} {ρ : PEnv} {D : Addr} (R : RE K B F0 F H σ ρ) (h : H D = none) : ∀ (i : Nat) v, ρ[i]? = some (.own v) → σ[i]? ≠ some (some (.ref D)) := fun i v hi z => by
  obtain ⟨a, h1, h2, h3, h4⟩ := R.own i v hi
  obtain ⟨u, hu⟩ := h4.some
  rw [z] at h1
  cases h1
  rw [h] at hu
  cases hu
/-- a comprehension under way: D is the new list, got what it holds; rs: the slots that are kept -/
structure LcI (K : PySem.W.Frag) (B F0 F1 H1 G : Hp) (rs : List (L2.St × PEnv)) (D : Addr) (got : List PV) (Fc Hc : Hp) (acc : List V) : Prop where
  re : ∀ p ∈ rs, RE K B F0 Fc Hc p.1 p.2
  no : ∀ p ∈ rs, ∀ (i : Nat) v, p.2[i]? = some (.own v) → p.1[i]? ≠ some (some (.ref D))
  f : Same F1 Fc
  fh : Same Fc Hc
  g : Same G Hc
  h : Same H1 Hc
  n : ∀ a o, Fc a = some o → F1 a = some o ∨ H1 a = none
  fd : Fc D = none
  bd : B D = none
  gd : G D = none
  d1 : H1 D = none
  hd : Hc D = some (.lst acc)
  dr : DrAll K Fc acc got
theorem LcI.ext {B F0 F1 H1 G : Hp} {rs : List (L2.St × PEnv)} {D : Addr} {got : List PV} {Fc Hc F2 H2 : Hp} {acc : List V} (I : LcI K B F0 F1 H1 G rs D got Fc Hc acc) (E : Ext Fc Hc F2 H2) (s : Same F2 H2) : LcI K B F0 F1 H1 G rs D got F2 H2 acc where
  re := fun p hp => (I.re p hp).ext E s
  no := I.no
  f := I.f.trans E.f
  fh := s
  g := I.g.trans E.h
  h := I.h.trans E.h
  n := fun a o q => by
    rcases E.n a o q with z | z
    · exact I.n a o z
    · exact .inr (I.h.free z)
  fd := E.keepNone I.hd I.fd
  bd := I.bd
  gd := I.gd
  d1 := I.d1
  hd := E.h _ _ I.hd
  dr := drAll_same E.f _ _ I.dr
theorem LcI.push {B F0 F1 H1 G : Hp} {rs : List (L2.St × PEnv)} {D : Addr} {got : List PV} {Fc Hc : Hp} {acc : List V} {y : V} {d : PV} (I : LcI K B F0 F1 H1 G rs D got Fc Hc acc) (q : Dr K Fc y d) : LcI K B F0 F1 H1 G rs D (got ++ [d]) Fc (upd Hc D (.lst (acc ++ [y]))) (acc ++ [y]) where
  re := fun p hp => (I.re p hp).updOther I.fd I.bd (I.no p hp)
  no := I.no
  f := I.f
  fh := fun b u e => by
    rw [upd_ne (ne_of_none e I.fd)]
    exact I.fh _ _ e
  g := fun b u e => by
    rw [upd_ne (ne_of_none e I.gd)]
    exact I.g _ _ e
  h := fun b u e => by
    rw [upd_ne (ne_of_none e I.d1)]
    exact I.h _ _ e
  n := I.n
  fd := I.fd
  bd := I.bd
  gd := I.gd
  d1 := I.d1
  hd := upd_same
  dr := drAll_append I.dr (.cons q .nil)
theorem LcI.addRe {B F0 F1 H1 G : Hp} {rs : List (L2.St × PEnv)} {D : Addr} {got : List PV} {Fc Hc : Hp} {acc : List V} {σ : L2.St} {ρ : PEnv} (I : LcI K B F0 F1 H1 G rs D got Fc Hc acc) (R : RE K B F0 Fc Hc σ ρ) (no : ∀ (i : Nat) v, ρ[i]? = some (.own v) → σ[i]? ≠ some (some (.ref D))) : LcI K B F0 F1 H1 G ((σ, ρ) :: rs) D got Fc Hc acc where
  re := fun p hp => by
    rcases List.mem_cons.mp hp with rfl | hp
    · exact R
    · exact I.re p hp
  no := fun p hp => by
    rcases List.mem_cons.mp hp with rfl | hp
    · exact no
    · exact I.no p hp
  f := I.f
  fh := I.fh
  g := I.g
  h := I.h
  n := I.n
  fd := I.fd
  bd := I.bd
  gd := I.gd
  d1 := I.d1
  hd := I.hd
  dr := I.dr
theorem LcI.lessRe {B F0 F1 H1 G : Hp} {rs rs' : List (L2.St × PEnv)} {D : Addr} {got : List PV} {Fc Hc : Hp} {acc : List V} (I : LcI K B F0 F1 H1 G rs D got Fc Hc acc) (s : ∀ p ∈ rs', p ∈ rs) : LcI K B F0 F1 H1 G rs' D got Fc Hc acc :=
  ⟨fun p hp => I.re p (s p hp), fun p hp => I.no p (s p hp), I.f, I.fh, I.g, I.h, I.n, I.fd, I.bd, I.gd, I.d1, I.hd, I.dr⟩
/-- what an iterator yields, with what is known then -/
theorem Yl.item {J : It} {l : List PV} {F1 G Fc Hc H' : Hp} {i : Nat} {x : V} (Y : Yl K J l F1 G) (f : Same F1 Fc) (fh : Same Fc Hc) (g : Same G Hc) (hi : i < l.length) (y : J.yld i Hc x H') : ∃ d F', l[i]? = some d ∧ Ext Fc Hc F' H' ∧ Same F' H' ∧ Dr K F' x d := by
  obtain ⟨d, h1, h2⟩ := Y.yld i Hc x H' g hi y
  rcases h2 with ⟨rfl, h2⟩ | ⟨T, xs, ds, rfl, hT, rfl, h2, rfl⟩
  · exact ⟨d, Fc, h1, Ext.refl _ _, fh, dr_same f _ _ h2⟩
  · have E := ext_frz (o := HO.tup xs) fh hT
    exact ⟨_, _, h1, E, same_frz fh hT, .tup (.inl (.inl upd_same)) (drAll_same (f.trans E.f) _ _ h2)⟩
theorem wipeE_own {σ : L2.St} {ρ : PEnv} {D : Addr} (h : ∀ (i : Nat) v, ρ[i]? = some (.own v) → σ[i]? ≠ some (some (.ref D))) : ∀ (vs : List Nat) (i : Nat) v, (wipeE ρ vs)[i]? = some (.own v) → (wipe σ vs)[i]? ≠ some (some (.ref D))
  | [], i, v, q => h i v q
  | w :: vs, i, v, q => by
    unfold wipeE at q
    unfold wipe
    by_cases z : w = i
    · subst z
      by_cases hw : w < (wipeE ρ vs).length
      · rw [List.getElem?_set_self hw] at q
        cases q
      · rw [List.getElem?_eq_none (by rw [List.length_set]; omega)] at q
        cases q
    · rw [List.getElem?_set_ne z] at q ⊢
      exact wipeE_own h vs i v q

theorem wipe_out' {σ : L2.St} {w : Nat} : ∀ {vs : List Nat}, w ∉ vs → wipe (σ.set w none) vs = (wipe σ vs).set w none
  | [], _ => rfl
  | v :: vs, h => by
    simp only [List.mem_cons, not_or] at h
    unfold wipe
    rw [wipe_out' h.2, List.set_comm _ _ h.1]
theorem wipe_wipe (σ : L2.St) : ∀ vs : List Nat, wipe (wipe σ vs) vs = wipe σ vs
  | [] => rfl
  | v :: vs => by
    show (wipe ((wipe σ vs).set v none) vs).set v none = (wipe σ vs).set v none
    by_cases h : v ∈ vs
    · rw [wipe_set h, wipe_wipe σ vs]
    · rw [wipe_out' h, wipe_wipe σ vs, List.set_set]

section
variable {X : Cx} {tg a b c e : Expr} {f g : PF} {pos p : Pos} {x : Str}
/-- the loop of one clause, from any point of a comprehension -/
theorem lc_loop {B F0 F1 H1 G : Hp} {rs : List (L2.St × PEnv)} {D : Addr} {σ : L2.St} {ρ : PEnv} {vs ts : List Nat} {J : It} {l : List PV} {FJ GJ : Hp} {h : GF} {k : PEnv → Option Bool} {el : PF} {ys got0 : List PV} {Hs Fs : Hp} {accs : List V} {Qd : Hp → Prop}
    (Y : Yl K J l FJ GJ) (hts : ∀ i ∈ ts, i ∈ vs) (hc : compL h k el (wipeE ρ vs) l = some ys) (hz : (got0 ++ ys).length ≤ sizeLine) (gD : GJ D = none)
    (I0 : LcI K B F0 F1 H1 G rs D got0 Fs Hs accs) (hm : (σ, ρ) ∈ rs) (fj : Same FJ Fs) (gj : Same GJ Hs)
    (hd : ∀ Fc Hc acc, LcI K B F0 F1 H1 G rs D (got0 ++ ys) Fc Hc acc → Qd Hc) :
    ∃ W : Nat → Nat → Hp → Prop, (∃ m, W 0 m Hs) ∧ ∀ i m H, W i m H →
      (J.stop i H ∧ Qd H) ∨ (J.go i H ∧ ∃ Nx : Hp → Prop, (∀ H', Nx H' → ∃ m', m' < m ∧ W (i + 1) m' H') ∧ ∀ x H', J.yld i H x H' → tG K h ts x (wipe σ vs) H' fun σ2 H2 => wipe σ2 vs = wipe σ vs ∧ tT K k σ2 H2 fun b H3 =>
        if b = true then tP K el σ2 H3 fun y H4 => ∃ acc, H4 D = some (.lst acc) ∧ acc.length < sizeLine ∧ Nx (upd H4 D (.lst (acc ++ [y]))) else Nx H3) := by
  let Z : Nat → Hp → Prop := fun i H => i ≤ l.length ∧ ∃ Fc acc got rest, LcI K B F0 F1 H1 G rs D got Fc H acc ∧ Same FJ Fc ∧ Same GJ H ∧ compL h k el (wipeE ρ vs) (l.drop i) = some rest ∧ got ++ rest = got0 ++ ys
  refine ⟨fun i m H => m = l.length - i ∧ Z i H, ⟨l.length, by simp, Nat.zero_le _, Fs, accs, got0, ys, I0, fj, gj, hc, rfl⟩, ?_⟩
  rintro i m H ⟨rfl, hi, Fc, acc, got, rest, I, fc, gc, hr, ht⟩
  by_cases hlt : i < l.length
  · refine .inr ⟨Y.go i H gc hlt, fun H' => Z (i + 1) H', fun H' z => ⟨l.length - (i + 1), by omega, rfl, z⟩, fun x H' y => ?_⟩
    obtain ⟨d, F', h1, E1, s1, dx⟩ := Y.item fc I.fh gc hlt y
    have ed : l.drop i = d :: l.drop (i + 1) := by
      rw [List.drop_eq_getElem_cons hlt]
      rw [List.getElem?_eq_getElem hlt] at h1
      cases h1
      rfl
    rw [ed] at hr
    unfold compL at hr
    obtain ⟨ρ1, q1, hr1⟩ := bind_some hr
    obtain ⟨t, q2, hr2⟩ := bind_some hr1
    have I1 := I.ext E1 s1
    refine ⟨B, F0, F', wipeE ρ vs, d, ρ1, ((I1.re _ hm)).wiped vs, dx, q1, fun σ2 R2 w2 o2 => ⟨(w2 vs hts).trans (wipe_wipe σ vs), B, F0, F', ρ1, t, R2, q2, fun H3 F3 R3 E3 => ?_⟩⟩
    have I3 := I1.ext E3 R3.fh
    have fj3 : Same FJ F3 := (fc.trans E1.f).trans E3.f
    have gj3 : Same GJ H3 := (gc.trans E1.h).trans E3.h
    cases t with
    | true =>
      rw [if_pos rfl] at hr2
      obtain ⟨yd, q3, hr3⟩ := bind_some hr2
      obtain ⟨zs, q4, hr4⟩ := bind_some hr3
      cases hr4
      refine L2.iteT ⟨B, F0, F3, ρ1, yd, R3, q3, fun y4 H4 F4 R4 E4 dy => ?_⟩
      have I4 := I3.ext E4 R4.fh
      have lz : got.length + (yd :: zs).length ≤ sizeLine := by
        rw [← ht, List.length_append] at hz
        exact hz
      refine ⟨acc, I4.hd, ?_, by omega, F4, acc ++ [y4], got ++ [yd], zs, I4.push dy, fj3.trans E4.f, fun b u q => ?_, q4, ?_⟩
      · have := drAll_length I4.dr
        rw [List.length_cons] at lz
        omega
      · rw [upd_ne (ne_of_none q gD)]
        exact (gj3.trans E4.h) _ _ q
      · rw [← ht, List.append_assoc]
        rfl
    | false =>
      rw [if_neg Bool.false_ne_true] at hr2
      exact L2.iteF ⟨by omega, F3, acc, got, rest, I3, fj3, gj3, hr2, ht⟩
  · have e : i = l.length := by omega
    subst e
    refine .inl ⟨Y.stop _ H gc rfl, ?_⟩
    rw [List.drop_length] at hr
    cases hr
    rw [List.append_nil] at ht
    rw [ht] at I
    exact hd Fc H acc I
theorem pLst_some {l : List PV} {z : PV} (h : pLst l = some z) : l.length ≤ sizeLine ∧ z = .list l := by
  unfold pLst at h
  split at h
  · cases h
    exact ⟨of_decide_eq_true (by assumption), rfl⟩
  · cases h
theorem LcI.start {B F0 F1 H1 G : Hp} {σ : L2.St} {ρ : PEnv} {D : Addr} (R : RE K B F0 F1 H1 σ ρ) (sG : Same F1 G) (gH : Same G H1) (hD : H1 D = none) : LcI K B F0 F1 H1 G [(σ, ρ)] D [] F1 (upd H1 D (.lst [])) [] := by
  have E : Ext F1 H1 F1 (upd H1 D (.lst [])) := ext_new hD
  refine ⟨fun p hp => ?_, fun p hp => ?_, Same.refl _, same_upd2 R.fh hD, same_upd2 gH hD, E.h, fun _ _ q => .inl q, R.fh.free hD, R.bh.free hD, gH.free hD, hD, upd_same, .nil⟩
  · rw [List.mem_singleton.mp hp]
    exact R.ext E (same_upd2 R.fh hD)
  · rw [List.mem_singleton.mp hp]
    exact R.notOwn hD
theorem lc_imp {L : LF} {h : GF} {ts vs : List Nat} {k : PEnv → Option Bool} {el : PF} (hts : ∀ i ∈ ts, i ∈ vs) {σ : L2.St} {H : Hp} {Q : VK} (w : tF K (eComp L vs h k el) σ H Q) : tLc (tIB K L) (tG K h ts) (tT K k) (tP K el) vs σ H Q := by
  obtain ⟨B, F0, F, ρ, z, R, e, q⟩ := w
  obtain ⟨l, e1, e2⟩ := bind_some e
  obtain ⟨ys, e3, e4⟩ := bind_some e2
  obtain ⟨lz, rfl⟩ := pLst_some e4
  refine ⟨B, F0, F, ρ, l, R, e1, fun J H1 F1 G R1 E1 sG gH Y D hD => ?_⟩
  refine lc_loop (got0 := []) (ys := ys) (rs := [(σ, ρ)]) Y hts e3 (by simpa using lz) (gH.free hD) (LcI.start R1 sG gH hD) (by simp) (Same.refl _) (same_upd2 gH hD) fun Fc Hc acc I => ?_
  exact q D Hc Fc (I.re (σ, ρ) (by simp)) (E1.trans ⟨I.f, I.h, I.n⟩) I.fd (E1.h.free hD) ⟨acc, I.hd, I.dr⟩

theorem sf_lc {elt iter : Expr} {ifs : List Expr} {scope : Scope} {own : List (Str × Nat)} {vs : List Nat} {L : LF} {h : GF} {ts : List Nat} {k : PEnv → Option Bool} {el : PF} (hc : X.calm = true) (hN : X.N.Nodup) (hi : SIB X tg iter L) (ok : BlkOk X.N X.env.scope scope own)
    (hg : ∀ (s : Shared) (H : Hp) (C : Addr) (cl : List (Str × Addr)) (fp : List Addr), SG (X.blk s H scope (compEnvC scope cl C X.env) fp) tg h ts)
    (ht : ∀ (s : Shared) (H : Hp) (C : Addr) (cl : List (Str × Addr)) (fp : List Addr), PTs (X.blk s H scope (compEnvC scope cl C X.env) fp) ifs (tT X.K k))
    (he : ∀ (s : Shared) (H : Hp) (C : Addr) (cl : List (Str × Addr)) (fp : List Addr), SE (X.blk s H scope (compEnvC scope cl C X.env) fp) elt el)
    (hts : ∀ i ∈ ts, i ∈ vs) (hvs : own.map (·.2) = vs := by rfl) (hs : ∀ x, foldedSetIterable iter X.env x = pure x := by intro _; rfl) :
    SF X (.ListComp elt [⟨tg, iter, ifs, 0⟩] scope pos) (eComp L vs h k el) := by
  subst hvs
  exact PE.imp (pe_lc hc hN hi ok hg ht he hs) fun _ _ _ w => lc_imp hts w

/-! two clauses -/
def compL2 (h : GF) (k : PEnv → Option Bool) (L1 : LF) (vs1 : List Nat) (h1 : GF) (k1 : PEnv → Option Bool) (el : PF) (ρ : PEnv) : List PV → Option (List PV)
  | [] => some []
  | x :: r => (h x ρ).bind fun ρ1 => (k ρ1).bind fun b => if b = true then (L1 ρ1).bind fun l1 => (compL h1 k1 el (wipeE ρ1 vs1) l1).bind fun ys => (compL2 h k L1 vs1 h1 k1 el ρ r).bind fun zs => some (ys ++ zs) else compL2 h k L1 vs1 h1 k1 el ρ r
def eComp2 (L : LF) (vs : List Nat) (h : GF) (k : PEnv → Option Bool) (L1 : LF) (vs1 : List Nat) (h1 : GF) (k1 : PEnv → Option Bool) (el : PF) : PF := fun ρ => (L ρ).bind fun l => (compL2 h k L1 vs1 h1 k1 el (wipeE ρ vs) l).bind pLst
theorem lc2_imp {L L1 : LF} {h h1 : GF} {ts ts1 vs vs1 : List Nat} {k k1 : PEnv → Option Bool} {el : PF} (hts : ∀ i ∈ ts, i ∈ vs) (hts1 : ∀ i ∈ ts1, i ∈ vs1) {σ : L2.St} {H : Hp} {Q : VK} (w : tF K (eComp2 L vs h k L1 vs1 h1 k1 el) σ H Q) : tLc2 (tIB K L) (tG K h ts) (tT K k) (tI K L1) (tG K h1 ts1) (tT K k1) (tP K el) vs vs1 σ H Q := by
  obtain ⟨B, F0, F, ρ, z, R, e, q⟩ := w
  obtain ⟨l, e1, e2⟩ := bind_some e
  obtain ⟨tot, e3, e4⟩ := bind_some e2
  obtain ⟨lz, rfl⟩ := pLst_some e4
  refine ⟨B, F0, F, ρ, l, R, e1, fun J H1 F1 G R1 E1 sG gH Y D hD => ?_⟩
  let Z : Nat → Hp → Prop := fun i H => i ≤ l.length ∧ ∃ Fc acc got rest, LcI K B F0 F1 H1 G [(σ, ρ)] D got Fc H acc ∧ compL2 h k L1 vs1 h1 k1 el (wipeE ρ vs) (l.drop i) = some rest ∧ got ++ rest = tot
  refine ⟨fun i m H => m = l.length - i ∧ Z i H, ⟨l.length, by simp, Nat.zero_le _, F1, [], [], tot, LcI.start R1 sG gH hD, e3, rfl⟩, ?_⟩
  rintro i m H ⟨rfl, hi, Fc, acc, got, rest, I, hr, ht⟩
  by_cases hlt : i < l.length
  · refine .inr ⟨Y.go i H I.g hlt, fun H' => Z (i + 1) H', fun H' z => ⟨l.length - (i + 1), by omega, rfl, z⟩, fun x H' y => ?_⟩
    obtain ⟨d, F', g1, E2, s2, dx⟩ := Y.item I.f I.fh I.g hlt y
    have ed : l.drop i = d :: l.drop (i + 1) := by
      rw [List.drop_eq_getElem_cons hlt]
      rw [List.getElem?_eq_getElem hlt] at g1
      cases g1
      rfl
    rw [ed] at hr
    unfold compL2 at hr
    obtain ⟨ρ1, q1, hr1⟩ := bind_some hr
    obtain ⟨t, q2, hr2⟩ := bind_some hr1
    have I1 := I.ext E2 s2
    refine ⟨B, F0, F', _, d, ρ1, (I1.re (σ, ρ) (by simp)).wiped _, dx, q1, fun σ2 R2 w2 o2 => ⟨(w2 _ hts).trans (wipe_wipe σ _), B, F0, F', ρ1, t, R2, q2, fun H3 F3 R3 E3 => ?_⟩⟩
    have I3 := I1.ext E3 R3.fh
    cases t with
    | true =>
      rw [if_pos rfl] at hr2
      obtain ⟨l1, q3, hr3⟩ := bind_some hr2
      obtain ⟨ys, q4, hr4⟩ := bind_some hr3
      obtain ⟨zs, q5, hr5⟩ := bind_some hr4
      cases hr5
      refine L2.iteT ⟨B, F0, F3, ρ1, l1, R3, q3, fun J1 H4 F4 R4 E4 Y1 => ?_⟩
      have I4 := I3.ext E4 R4.fh
      have no4 : ∀ (i : Nat) v, ρ1[i]? = some (.own v) → σ2[i]? ≠ some (some (.ref D)) := fun i v hv z => by
        obtain ⟨u1, u2⟩ := o2 i v hv
        rw [u2] at z
        exact wipeE_own (I1.no (σ, ρ) (by simp)) _ i v u1 z
      refine lc_loop (got0 := got) (ys := ys) (rs := (σ2, ρ1) :: [(σ, ρ)]) Y1 hts1 q4 ?_ I4.fd (I4.addRe R4 no4) (by simp) (Same.refl _) I4.fh fun F5 H5 acc5 I5 => ?_
      · rw [← ht, ← List.append_assoc, List.length_append] at lz
        omega
      · refine ⟨by omega, F5, acc5, got ++ ys, zs, I5.lessRe (fun p hp => List.mem_cons_of_mem _ hp), q5, ?_⟩
        rw [← ht, List.append_assoc]
    | false =>
      rw [if_neg Bool.false_ne_true] at hr2
      exact L2.iteF ⟨by omega, F3, acc, got, rest, I3, hr2, ht⟩
  · have ei : i = l.length := by omega
    subst ei
    refine .inl ⟨Y.stop _ H I.g rfl, ?_⟩
    rw [List.drop_length] at hr
    cases hr
    rw [List.append_nil] at ht
    rw [ht] at I
    exact q D H Fc (I.re (σ, ρ) (by simp)) (E1.trans ⟨I.f, I.h, I.n⟩) I.fd (E1.h.free hD) ⟨acc, I.hd, I.dr⟩
theorem sf_lc2 {elt iter tg1 iter1 : Expr} {ifs ifs1 : List Expr} {scope : Scope} {own : List (Str × Nat)} {vs vs1 : List Nat} {L L1 : LF} {h h1 : GF} {ts ts1 : List Nat} {k k1 : PEnv → Option Bool} {el : PF} (hc : X.calm = true) (hN : X.N.Nodup) (hi : SIB X tg iter L) (ok : BlkOk X.N X.env.scope scope own) (hv : ∀ i ∈ vs1, i ∈ vs)
    (hg : ∀ (s : Shared) (H : Hp) (C : Addr) (cl : List (Str × Addr)) (fp : List Addr), SG (X.blk s H scope (compEnvC scope cl C X.env) fp) tg h ts)
    (ht : ∀ (s : Shared) (H : Hp) (C : Addr) (cl : List (Str × Addr)) (fp : List Addr), PTs (X.blk s H scope (compEnvC scope cl C X.env) fp) ifs (tT X.K k))
    (hi1 : ∀ (s : Shared) (H : Hp) (C : Addr) (cl : List (Str × Addr)) (fp : List Addr), SI (X.blk s H scope (compEnvC scope cl C X.env) fp) tg1 iter1 L1)
    (hg1 : ∀ (s : Shared) (H : Hp) (C : Addr) (cl : List (Str × Addr)) (fp : List Addr), SG (X.blk s H scope (compEnvC scope cl C X.env) fp) tg1 h1 ts1)
    (ht1 : ∀ (s : Shared) (H : Hp) (C : Addr) (cl : List (Str × Addr)) (fp : List Addr), PTs (X.blk s H scope (compEnvC scope cl C X.env) fp) ifs1 (tT X.K k1))
    (he : ∀ (s : Shared) (H : Hp) (C : Addr) (cl : List (Str × Addr)) (fp : List Addr), SE (X.blk s H scope (compEnvC scope cl C X.env) fp) elt el)
    (hts : ∀ i ∈ ts, i ∈ vs) (hts1 : ∀ i ∈ ts1, i ∈ vs1) (hvs : own.map (·.2) = vs := by rfl) (hs : ∀ x, foldedSetIterable iter X.env x = pure x := by intro _; rfl) (hs1 : ∀ env x, foldedSetIterable iter1 env x = pure x := by intro _ _; rfl) :
    SF X (.ListComp elt [⟨tg, iter, ifs, 0⟩, ⟨tg1, iter1, ifs1, 0⟩] scope pos) (eComp2 L vs h k L1 vs1 h1 k1 el) := by
  subst hvs
  exact PE.imp (pe_lc2 hc hN hi ok hv hg ht hi1 hg1 ht1 he hs hs1) fun _ _ _ w => lc2_imp hts hts1 w
end
end Pl

set_option Elab.async false
set_option linter.all false
set_option maxRecDepth 100000
set_option maxHeartbeats 4000000
set_option autoImplicit false
namespace Pl
open PySem PySem.Spec PyProof.Rows L2
open PySem.W (alike dataLt lt_data le_data gt_data ge_data)
variable {K : PySem.W.Frag}

/-! ### statements -/
inductive Fl where
  | nx (ρ : PEnv) | ret (v : PV) | brk (ρ : PEnv) | cnt (ρ : PEnv)
abbrev PSt := PEnv → Option Fl
/-- what is to be shown behind -/
def FlP (K : PySem.W.Frag) (B F0 F : Hp) (D : Ends) : Fl → Prop
  | .nx ρ => ∀ σ' H' F', RE K B F0 F' H' σ' ρ → Same F F' → D.nx σ' H'
  | .brk ρ => ∀ σ' H' F', RE K B F0 F' H' σ' ρ → Same F F' → D.bk σ' H'
  | .cnt ρ => ∀ σ' H' F', RE K B F0 F' H' σ' ρ → Same F F' → D.ct σ' H'
  | .ret v => ∀ x H' F', Same B H' → Same F0 F' → Same F' H' → (∀ a o, F' a = some o → F0 a = some o ∨ B a = none) → Dr K F' x v → D.rt x H'
def tS (K : PySem.W.Frag) (s : PSt) : TS := fun D σ H => ∃ B F0 F ρ r, RE K B F0 F H σ ρ ∧ s ρ = some r ∧ FlP K B F0 F D r
abbrev SS (X : Cx) (st : Stmt) (s : PSt) : Prop := PS X st (tS X.K s)
abbrev SSs (X : Cx) (st : List Stmt) (s : PSt) : Prop := PSs X st (tS X.K s)
def sNil : PSt := fun ρ => some (.nx ρ)
def thenF (s : PSt) : Fl → Option Fl
  | .nx ρ => s ρ
  | r => some r
def sSeq (a b : PSt) : PSt := fun ρ => (a ρ).bind (thenF b)
theorem FlP.mono {B F0 F F' : Hp} {D : Ends} {r : Fl} (h : FlP K B F0 F D r) (s : Same F F') : FlP K B F0 F' D r := by
  cases r with
  | nx ρ => exact fun σ' H' F2 R s2 => h σ' H' F2 R (s.trans s2)
  | brk ρ => exact fun σ' H' F2 R s2 => h σ' H' F2 R (s.trans s2)
  | cnt ρ => exact fun σ' H' F2 R s2 => h σ' H' F2 R (s.trans s2)
  | ret v => exact h
section
variable {X : Cx} {st : Stmt} {rest : List Stmt} {s t : PSt} {tg a b c e : Expr} {f g : PF} {pos p : Pos} {x : Str}
theorem ss_nil : SSs X [] sNil := PSs.imp pss_nil fun D σ H ⟨B, F0, F, ρ, r, R, e, q⟩ => by
  cases e
  exact q σ H F R (Same.refl _)
theorem ss_cons (h1 : SS X st s) (h2 : SSs X rest t) : SSs X (st :: rest) (sSeq s t) := PSs.imp (pss_cons h1 h2) fun D σ H ⟨B, F0, F, ρ, r, R, e, q⟩ => by
  obtain ⟨u, e1, e2⟩ := bind_some e
  refine ⟨B, F0, F, ρ, u, R, e1, ?_⟩
  cases u with
  | nx ρ' => exact fun σ' H' F' R' s' => ⟨B, F0, F', ρ', r, R', e2, q.mono s'⟩
  | brk ρ' =>
    cases e2
    exact q
  | cnt ρ' =>
    cases e2
    exact q
  | ret v =>
    cases e2
    exact q
theorem ss_one (h1 : SS X st s) : SSs X [st] s := pss_one h1
/-- an own list is given up (nothing of the text stands for this) -/
def sFz (i : Nat) : PSt := fun ρ => match ρ[i]? with
  | some (.own v) => some (.nx (ρ.set i (.val v)))
  | _ => some (.nx ρ)
theorem RE.fz {B F0 F H : Hp} {σ : L2.St} {ρ : PEnv} {i : Nat} {v : PV} (R : RE K B F0 F H σ ρ) (h : ρ[i]? = some (.own v)) : ∃ F', RE K B F0 F' H σ (ρ.set i (.val v)) ∧ Same F F' := by
  obtain ⟨a, h1, h2, h3, h4⟩ := R.own i v h
  obtain ⟨o, ho, hd⟩ := own_dp h4 h2
  have hi : i < ρ.length := (List.getElem?_eq_some_iff.mp h).1
  have ef : Same F (upd F a o) := fun b u e => by
    rw [upd_ne (ne_of_none e h2)]
    exact e
  have f : ∀ m s, (ρ.set i (.val v))[m]? = some s → i ≠ m → ρ[m]? = some s := fun m s h n => by
    rw [List.getElem?_set_ne n] at h
    exact h
  have fo : ∀ m w, (ρ.set i (.val v))[m]? = some (.own w) → i ≠ m := fun m w h z => by
    subst z
    rw [List.getElem?_set_self hi] at h
    cases h
  refine ⟨upd F a o, ⟨fun b u e => ?_, R.bh, R.f0.trans ef, fun b u e => ?_, by rw [List.length_set]; exact R.len, fun j w hj => ?_, fun j w hj => ?_, fun j k w w' ad j1 j2 j3 j4 => ?_⟩, ef⟩
  · by_cases z : b = a
    · subst z
      rw [upd_same] at e
      rw [ho]
      exact e
    · rw [upd_ne z] at e
      exact R.fh _ _ e
  · by_cases z : b = a
    · subst z
      exact .inr h3
    · rw [upd_ne z] at e
      exact R.ff _ _ e
  · by_cases z : i = j
    · subst z
      rw [List.getElem?_set_self hi] at hj
      cases hj
      exact ⟨_, h1, hd⟩
    · obtain ⟨y, y1, y2⟩ := R.val j w (f j _ hj z)
      exact ⟨y, y1, dr_same ef _ _ y2⟩
  · have z := fo j w hj
    have hj' := f j _ hj z
    obtain ⟨ad, y1, y2, y3, y4⟩ := R.own j w hj'
    have na : ad ≠ a := fun q => z (R.sep i j v w a h hj' h1 (q ▸ y1))
    exact ⟨ad, y1, by rw [upd_ne na]; exact y2, y3, y4.same ef rfl⟩
  · exact R.sep j k w w' ad (f j _ j1 (fo j w j1)) (f k _ j2 (fo k w' j2)) j3 j4
theorem ss_fz (i : Nat) (h : SSs X rest t) : SSs X rest (sSeq (sFz i) t) := PSs.imp h fun D σ H ⟨B, F0, F, ρ, r, R, e, q⟩ => by
  obtain ⟨u, e1, e2⟩ := bind_some e
  unfold sFz at e1
  split at e1
  · rename_i v hv
    cases e1
    obtain ⟨F', R', s'⟩ := R.fz hv
    exact ⟨B, F0, F', _, r, R', e2, q.mono s'⟩
  · cases e1
    exact ⟨B, F0, F, _, r, R, e2, q⟩

/-! return, break, continue, pass, if -/
def sRet (f : PF) : PSt := fun ρ => (f ρ).bind fun v => some (.ret v)
theorem ss_ret (h : SE X e f) : SS X (.Return (some e) pos) (sRet f) := PS.imp (ps_ret h) fun D σ H ⟨B, F0, F, ρ, r, R, e, q⟩ => by
  obtain ⟨v, e1, e2⟩ := bind_some e
  cases e2
  exact ⟨B, F0, F, ρ, v, R, e1, fun x H' F' R' E' d => q x H' F' R'.bh R'.f0 R'.fh R'.ff d⟩
def sBrk : PSt := fun ρ => some (.brk ρ)
def sCnt : PSt := fun ρ => some (.cnt ρ)
theorem ss_brk : SS X (.Break pos) sBrk := PS.imp ps_break fun D σ H ⟨B, F0, F, ρ, r, R, e, q⟩ => by
  cases e
  exact q σ H F R (Same.refl _)
theorem ss_cnt : SS X (.Continue pos) sCnt := PS.imp ps_continue fun D σ H ⟨B, F0, F, ρ, r, R, e, q⟩ => by
  cases e
  exact q σ H F R (Same.refl _)
theorem ss_pass : SS X (.Pass pos) sNil := PS.imp ps_pass fun D σ H ⟨B, F0, F, ρ, r, R, e, q⟩ => by
  cases e
  exact q σ H F R (Same.refl _)
def sIf (c : PEnv → Option Bool) (s t : PSt) : PSt := fun ρ => (c ρ).bind fun b => if b = true then s ρ else t ρ
theorem ss_if {k : PEnv → Option Bool} {l1 l2 : List Stmt} (hc : ST X c k) (h1 : SSs X l1 s) (h2 : SSs X l2 t) : SS X (.If c l1 l2 pos) (sIf k s t) := PS.imp (ps_if hc h1 h2) fun D σ H ⟨B, F0, F, ρ, r, R, e, q⟩ => by
  obtain ⟨v, e1, e2⟩ := bind_some e
  refine ⟨B, F0, F, ρ, v, R, e1, fun H1 F1 R1 E1 => ?_⟩
  cases v with
  | true => exact ⟨B, F0, F1, ρ, r, R1, e2, q.mono E1.f⟩
  | false => exact ⟨B, F0, F1, ρ, r, R1, e2, q.mono E1.f⟩

/-! names stored -/
def sAsg (f : PF) (h : GF) : PSt := fun ρ => (f ρ).bind fun v => (h v ρ).bind fun ρ' => some (.nx ρ')
theorem ss_asg {h : GF} {ts : List Nat} (he : SE X e f) (hg : SG X tg h ts) (hs : swapsWithSole [tg] e pos.line X.env = pure false := by rfl) (hw : swappedStores [tg] e X.env = pure none := by rfl) (h1 : (assignEach [tg] X.env).map (·.2) = [assign tg X.env] := by rfl) :
    SS X (.Assign [tg] e pos) (sAsg f h) := PS.imp (ps_asg he hg hs hw h1) fun D σ H ⟨B, F0, F, ρ, r, R, e, q⟩ => by
  obtain ⟨v, e1, e2⟩ := bind_some e
  obtain ⟨ρ', e3, e4⟩ := bind_some e2
  cases e4
  refine ⟨B, F0, F, ρ, v, R, e1, fun x H1 F1 R1 E1 d1 => ⟨B, F0, F1, ρ, v, ρ', R1, d1, e3, fun σ' R2 _ _ => q σ' H1 F1 R2 E1.f⟩⟩
theorem ss_set {i : Nat} {pos' : Pos} (hN : X.N.Nodup) (hi : X.N[i]? = some x) (hx : Loc X.env.scope x) (he : SE X e f) (hs : swapsWith e (some (.Name x pos')) pos.line X.env = pure false := by rfl) (hf : X.fn x = true ∨ X.env.scope.names.lookup x = some .local := by first | exact .inl rfl | exact .inr rfl | assumption) :
    SS X (.Assign [.Name x pos'] e pos) (sAsg f (gN i)) := PS.imp (ps_set hN hi hx he hs hf) fun D σ H ⟨B, F0, F, ρ, r, R, e, q⟩ => by
  obtain ⟨v, e1, e2⟩ := bind_some e
  obtain ⟨ρ', e3, e4⟩ := bind_some e2
  cases e4
  unfold gN at e3
  split at e3
  · cases e3
    exact ⟨B, F0, F, ρ, v, R, e1, fun x H1 F1 R1 E1 d1 => q _ H1 F1 (R1.setVal d1) E1.f⟩
  · cases e3
theorem RE.setOwn {B F0 F H : Hp} {σ : L2.St} {ρ : PEnv} {i : Nat} {a : Addr} {d : PV} (R : RE K B F0 F H σ ρ) (fa : F a = none) (ba : B a = none) (ho : OwnR K F H a d) (no : ∀ (j : Nat) v, ρ[j]? = some (.own v) → σ[j]? ≠ some (some (.ref a))) : RE K B F0 F H (σ.set i (some (.ref a))) (ρ.set i (.own d)) := by
  have g : ∀ m s, (ρ.set i (.own d))[m]? = some s → (i = m ∧ s = .own d ∧ i < ρ.length) ∨ (i ≠ m ∧ ρ[m]? = some s) := fun m s h => by
    by_cases z : i = m
    · subst z
      by_cases hi : i < ρ.length
      · rw [List.getElem?_set_self hi] at h
        exact .inl ⟨rfl, (Option.some.inj h).symm, hi⟩
      · rw [List.getElem?_eq_none (by rw [List.length_set]; omega)] at h
        cases h
    · rw [List.getElem?_set_ne z] at h
      exact .inr ⟨z, h⟩
  refine ⟨R.fh, R.bh, R.f0, R.ff, by rw [List.length_set, List.length_set]; exact R.len, fun j w h => ?_, fun j w h => ?_, fun j k w w' ad h1 h2 h3 h4 => ?_⟩
  · rcases g j _ h with ⟨z, q, hi⟩ | ⟨z, q⟩
    · cases q
    · rw [List.getElem?_set_ne z]
      exact R.val j w q
  · rcases g j _ h with ⟨z, q, hi⟩ | ⟨z, q⟩
    · subst z
      cases q
      exact ⟨a, List.getElem?_set_self (by rw [R.len]; exact hi), fa, ba, ho⟩
    · rw [List.getElem?_set_ne z]
      exact R.own j w q
  · rcases g j _ h1 with ⟨z, q, hi⟩ | ⟨z, q⟩
    · subst z
      rcases g k _ h2 with ⟨z2, q2, hi2⟩ | ⟨z2, q2⟩
      · exact z2
      · rw [List.getElem?_set_self (by rw [R.len]; exact hi)] at h3
        cases h3
        rw [List.getElem?_set_ne z2] at h4
        exact absurd h4 (no k w' q2)
    · rcases g k _ h2 with ⟨z2, q2, hi2⟩ | ⟨z2, q2⟩
      · subst z2
        rw [List.getElem?_set_self (by rw [R.len]; exact hi2)] at h4
        cases h4
        rw [List.getElem?_set_ne z] at h3
        exact absurd h3 (no j w q)
      · rw [List.getElem?_set_ne z] at h3
        rw [List.getElem?_set_ne z2] at h4
        exact R.sep j k w w' ad q q2 h3 h4
def sOwn (i : Nat) (f : PF) : PSt := fun ρ => (f ρ).bind fun v => some (.nx (ρ.set i (.own v)))
theorem ss_own {i : Nat} {pos' : Pos} (hN : X.N.Nodup) (hi : X.N[i]? = some x) (hx : Loc X.env.scope x) (he : SF X e f) (hs : swapsWith e (some (.Name x pos')) pos.line X.env = pure false := by rfl) (hf : X.fn x = true ∨ X.env.scope.names.lookup x = some .local := by first | exact .inl rfl | exact .inr rfl | assumption) :
    SS X (.Assign [.Name x pos'] e pos) (sOwn i f) := PS.imp (ps_set hN hi hx he hs hf) fun D σ H ⟨B, F0, F, ρ, r, R, e, q⟩ => by
  obtain ⟨v, e1, e2⟩ := bind_some e
  cases e2
  exact ⟨B, F0, F, ρ, v, R, e1, fun a H1 F1 R1 E1 fa ha d1 => q _ H1 F1 (R1.setOwn fa (R.bh.free ha) d1 (fun j w hj => R.notOwn ha j w hj)) E1.f⟩
end
end Pl

set_option Elab.async false
set_option linter.all false
set_option maxRecDepth 100000
set_option maxHeartbeats 4000000
set_option autoImplicit false
namespace Pl
open PySem PySem.Spec PyProof.Rows L2
open PySem.W (alike dataLt lt_data le_data gt_data ge_data)
variable {K : PySem.W.Frag}

section
variable {X : Cx} {st : Stmt} {rest : List Stmt} {s t : PSt} {tg a b c e : Expr} {f g : PF} {pos p : Pos} {x : Str}

/-! ### name = [..] on one line -/
theorem own_of {i : Nat} {te : TE} {D : Ends} {σ : L2.St} {H : Hp} (w : tS K (sOwn i f) D σ H) (h : ∀ Q, tF K f σ H Q → te σ H Q) : tAsg te (gName i) D σ H := by
  obtain ⟨B, F0, F, ρ, r, R, e, q⟩ := w
  obtain ⟨v, e1, e2⟩ := bind_some e
  cases e2
  exact h _ ⟨B, F0, F, ρ, v, R, e1, fun a H1 F1 R1 E1 fa ha d1 => q _ H1 F1 (R1.setOwn fa (R.bh.free ha) d1 (fun j w hj => R.notOwn ha j w hj)) E1.f⟩
theorem set_of {i : Nat} {te : TE} {D : Ends} {σ : L2.St} {H : Hp} (w : tS K (sAsg f (gN i)) D σ H) (h : ∀ Q, tF K f σ H Q → te σ H Q) : tAsg te (gName i) D σ H := by
  obtain ⟨B, F0, F, ρ, r, R, e, q⟩ := w
  obtain ⟨v, e1, e2⟩ := bind_some e
  obtain ⟨ρ', e3, e4⟩ := bind_some e2
  cases e4
  unfold gN at e3
  split at e3
  · cases e3
    exact h _ (tF_of_tP ⟨B, F0, F, ρ, v, R, e1, fun x H1 F1 R1 E1 d1 => q _ H1 F1 (R1.setVal d1) E1.f⟩)
  · cases e3
theorem ss_lc {te : TE} {s : PSt} {i : Nat} (h : PS X st (tAsg te (gName i))) (k : ∀ D σ H, tS X.K s D σ H → tAsg te (gName i) D σ H) : SS X st s := PS.imp h k

/-! ### name op= e -/
def sAug (i : Nat) (h : PV → PV → Option PV) (f : PF) : PSt := fun ρ => (eV i ρ).bind fun v => (f ρ).bind fun w => (h v w).bind fun z => some (.nx (ρ.set i (.val z)))
theorem ss_aug {i : Nat} {op : Operator} {pos' : Pos} {r : R2} {h : PV → PV → Option PV} (hN : X.N.Nodup) (hi : X.N[i]? = some x) (hx : Loc X.env.scope x) (o : OpR X (inplaceOp op) r) (k : Op2 X.K r h) (he : SE X e f) (hf : X.fn x = true ∨ X.env.scope.names.lookup x = some .local := by first | exact .inl rfl | exact .inr rfl | assumption) :
    SS X (.AugAssign (.Name x pos') op e pos) (sAug i h f) := PS.imp (ps_aug hN hi hx he (fun pins s σ H x y v u Q I r1 r2 w => o pins s σ H x y v u Q I r1 r2 w) hf) fun D σ H ⟨B, F0, F, ρ, r, R, e, q⟩ => by
  obtain ⟨v, e1, e2⟩ := bind_some e
  obtain ⟨w, e3, e4⟩ := bind_some e2
  obtain ⟨z, e5, e6⟩ := bind_some e4
  cases e6
  unfold eV at e1
  split at e1
  · rename_i v' hv
    cases e1
    obtain ⟨x, h1, h2⟩ := R.val i _ hv
    refine ⟨x, h1, B, F0, F, ρ, w, R, e3, fun y H1 F1 R1 E1 d1 => ?_⟩
    exact k F1 H1 x y v w z _ R1.fh (.inl (dr_same E1.f _ _ h2)) (.inl d1) e5 fun u H2 F2 E2 s2 d2 => q _ _ _ ((R1.ext E2 s2).setVal d2) (E1.f.trans E2.f)
  · cases e1
def pAddI : PV → PV → Option PV
  | .int i, .int j => some (.int (i + j))
  | _, _ => none
theorem op2_addI : Op2 K (rI0 fun i j => .int (i + j)) pAddI := .ii (fun F H v w z Q e i j hv hw q => by subst hv hw; cases e; exact ⟨i, j, rfl, rfl, q _ (.int _)⟩) fun v w z e => by unfold pAddI at e; split at e; exact ⟨_, _, rfl, rfl⟩; cases e
theorem op2_subI : Op2 K (rI0 fun i j => .int (i - j)) pSub := .ii (fun F H v w z Q e i j hv hw q => by subst hv hw; cases e; exact ⟨i, j, rfl, rfl, q _ (.int _)⟩) fun v w z e => by unfold pSub at e; split at e; exact ⟨_, _, rfl, rfl⟩; cases e
theorem op2_mulI : Op2 K (rI CMul fun i j => .int (i * j)) pMul := .ii (fun F H v w z Q e i j hv hw q => by
      subst hv hw
      unfold pMul at e
      dsimp only at e
      split at e
      · rename_i hc
        cases e
        exact ⟨i, j, rfl, rfl, mulOk_c hc, q _ (.int _)⟩
      · cases e) fun v w z e => by unfold pMul at e; split at e; exact ⟨_, _, rfl, rfl⟩; cases e

/-! ### own lists changed -/
theorem RE.updOwn {B F0 F H : Hp} {σ : L2.St} {ρ : PEnv} {i : Nat} {v w : PV} {ad : Addr} {o : HO} (R : RE K B F0 F H σ ρ) (h : ρ[i]? = some (.own v)) (h1 : σ[i]? = some (some (.ref ad))) (fa : F ad = none) (ba : B ad = none) (ho : OwnR K F (upd H ad o) ad w) : RE K B F0 F (upd H ad o) σ (ρ.set i (.own w)) := by
  have hi : i < ρ.length := (List.getElem?_eq_some_iff.mp h).1
  have g : ∀ m s, (ρ.set i (.own w))[m]? = some s → (i = m ∧ s = .own w) ∨ (i ≠ m ∧ ρ[m]? = some s) := fun m s h => by
    by_cases z : i = m
    · subst z
      rw [List.getElem?_set_self hi] at h
      exact .inl ⟨rfl, (Option.some.inj h).symm⟩
    · rw [List.getElem?_set_ne z] at h
      exact .inr ⟨z, h⟩
  refine ⟨fun b u q => ?_, fun b u q => ?_, R.f0, R.ff, by rw [List.length_set]; exact R.len, fun j u q => ?_, fun j u q => ?_, fun j k u u' a' j1 j2 j3 j4 => ?_⟩
  · rw [upd_ne (ne_of_none q fa)]
    exact R.fh _ _ q
  · rw [upd_ne (ne_of_none q ba)]
    exact R.bh _ _ q
  · rcases g j _ q with ⟨z, z2⟩ | ⟨z, z2⟩
    · cases z2
    · exact R.val j u z2
  · rcases g j _ q with ⟨z, z2⟩ | ⟨z, z2⟩
    · cases z2
      subst z
      exact ⟨ad, h1, fa, ba, ho⟩
    · obtain ⟨a', y1, y2, y3, y4⟩ := R.own j u z2
      have na : a' ≠ ad := fun q => z (R.sep i j v u ad h z2 h1 (q ▸ y1))
      exact ⟨a', y1, y2, y3, y4.same (Same.refl _) (upd_ne na)⟩
  · rcases g j _ j1 with ⟨z, z2⟩ | ⟨z, z2⟩
    · rcases g k _ j2 with ⟨y, y2⟩ | ⟨y, y2⟩
      · exact z.symm.trans y
      · subst z
        exact R.sep i k v u' a' h y2 j3 j4
    · rcases g k _ j2 with ⟨y, y2⟩ | ⟨y, y2⟩
      · subst y
        exact R.sep j i u v a' z2 h j3 j4
      · exact R.sep j k u u' a' z2 y2 j3 j4
def ownL (ρ : PEnv) (i : Nat) : Option (List PV) := match ρ[i]? with
  | some (.own (.list l)) => some l
  | _ => none
theorem ownL_some {ρ : PEnv} {i : Nat} {l : List PV} (h : ownL ρ i = some l) : ρ[i]? = some (.own (.list l)) := by
  unfold ownL at h
  split at h
  · cases h
    assumption
  · cases h
/-- xs.append(e) -/
def sApp (i : Nat) (f : PF) : PSt := fun ρ => (f ρ).bind fun v => (ownL ρ i).bind fun l => if l.length < sizeLine then some (.nx (ρ.set i (.own (.list (l ++ [v]))))) else none
theorem ss_app {i : Nat} {o : Expr} {apos cpos : Pos} (ho : PE X o (tVar i)) (he : SE X e f) (na : NS e := by intro _ _; rfl)
    (hbase : attributeBase o "append" X.env (eval o X.env) = eval o X.env := by rfl) (hline : (apos.endLine == cpos.line) = true := by rfl)
    (hs : swapsWith (.Call (.Attribute o "append" apos) [e] [] cpos) none pos.line X.env = pure false := by rfl) (hfew : ((backTo cpos (starEach [e] X.env)).all (fun x => !x.1) && (backToKw cpos (keywordEach [] X.env)).all (fun x => x.1.isSome)
      && decide ([e].length + ([] : List Keyword).length + (if ([] : List Keyword).isEmpty then 0 else 1) < 30)) = true := by rfl) :
    SS X (.Expr (.Call (.Attribute o "append" apos) [e] [] cpos) pos) (sApp i f) :=
  PS.imp (ps_expr (pe_bm PySem.F.plainAttrs_list PySem.F.slot_list_append PySem.F.type_list_append mt_append ho (pa_cons he pa_nil (na _ _)) hbase hfew hline (na _ _)) hs) fun D σ H ⟨B, F0, F, ρ, r, R, e, q⟩ => by
    obtain ⟨v, e1, e2⟩ := bind_some e
    obtain ⟨l, e3, e4⟩ := bind_some e2
    split at e4
    · rename_i hz
      cases e4
      have hl := ownL_some e3
      obtain ⟨ad, h1, h2, h3, xs, h4, h5⟩ := R.own i _ hl
      refine ⟨_, h1, .inl ⟨rfl, xs, .inl (.inl h4)⟩, B, F0, F, ρ, v, R, e1, fun y H1 F1 R1 E1 d1 => ?_⟩
      have h6 := E1.h _ _ h4
      have f1 : F1 ad = none := E1.keepNone h4 h2
      refine ⟨ad, xs, y, rfl, rfl, h6, by rw [drAll_length h5]; exact hz, q _ _ F1 (R1.updOwn hl h1 f1 h3 ?_) E1.f⟩
      exact ⟨_, upd_same, drAll_append (drAll_same E1.f _ _ h5) (.cons d1 .nil)⟩
    · cases e4
/-- xs[k] = v -/
def sSetI (i : Nat) (g f : PF) : PSt := fun ρ => (f ρ).bind fun v => (g ρ).bind fun k => (toI k).bind fun j => (ownL ρ i).bind fun l => (ixN l.length j).bind fun m => some (.nx (ρ.set i (.own (.list (l.set m v)))))
theorem ss_setI {i : Nat} {o : Expr} {spos : Pos} (ho : PE X o (tVar i)) (hk : SB X a g) (he : SE X e f)
    (ha : ∀ v, assign (.Subscript o a spos) X.env v = (do
      let ov ← holding [v] (eval o X.env)
      let iv ← holding [v, ov] (eval a X.env)
      standAt spos
      holding [v, ov, iv] (setItem ov iv v)
      release [v, ov, iv] []) := by intro _; rfl)
    (hs : swapsWithSole [.Subscript o a spos] e pos.line X.env = pure false := by rfl) (hw : swappedStores [.Subscript o a spos] e X.env = pure none := by rfl)
    (h1 : (assignEach [.Subscript o a spos] X.env).map (·.2) = [assign (.Subscript o a spos) X.env] := by rfl) : SS X (.Assign [.Subscript o a spos] e pos) (sSetI i g f) :=
  PS.imp (ps_asg he (pg_sub ho hk set_list ha) hs hw h1) fun D σ H ⟨B, F0, F, ρ, r, R, e, q⟩ => by
    obtain ⟨v, e1, e2⟩ := bind_some e
    obtain ⟨k, e3, e4⟩ := bind_some e2
    obtain ⟨j, e5, e6⟩ := bind_some e4
    obtain ⟨l, e7, e8⟩ := bind_some e6
    obtain ⟨m, e9, e10⟩ := bind_some e8
    cases e10
    obtain rfl := toI_some e5
    have hl := ownL_some e7
    refine ⟨B, F0, F, ρ, v, R, e1, fun y H1 F1 R1 E1 d1 => ?_⟩
    obtain ⟨ad, h1, h2, h3, xs, h4, h5⟩ := R1.own i _ hl
    refine ⟨_, h1, B, F0, F1, ρ, _, R1, e3, fun z H2 F2 R2 E2 d2 => ?_⟩
    obtain rfl := bor_int d2
    have h6 := E2.h _ _ h4
    have f2 : F2 ad = none := E2.keepNone h4 h2
    refine ⟨ad, xs, j, m, rfl, rfl, h6, by rw [drAll_length h5]; exact e9, q _ _ F2 (R2.updOwn hl h1 f2 h3 ?_) (E1.f.trans E2.f)⟩
    exact ⟨_, upd_same, drAll_set (dr_same E2.f _ _ d1) m (drAll_same E2.f _ _ h5)⟩

/-! ### several names at once -/
abbrev MF := PEnv → Option (List (Bool × PV))
/-- values of two kinds: given (false), new own objects (true), these all apart -/
def MixR (K : PySem.W.Frag) (F H H' : Hp) : List V → List (Bool × PV) → Prop
  | [], [] => True
  | x :: xs, (false, d) :: r => Dr K F x d ∧ MixR K F H H' xs r
  | x :: xs, (true, d) :: r => (∃ a, x = .ref a ∧ F a = none ∧ H a = none ∧ OwnR K F H' a d ∧ V.ref a ∉ ownsOf xs r) ∧ MixR K F H H' xs r
  | _, _ => False
where ownsOf : List V → List (Bool × PV) → List V
  | x :: xs, (true, _) :: r => x :: ownsOf xs r
  | _ :: xs, (false, _) :: r => ownsOf xs r
  | _, _ => []
def tM (K : PySem.W.Frag) (f : MF) : TA := fun σ H Q => ∃ B F0 F ρ v, RE K B F0 F H σ ρ ∧ f ρ = some v ∧ ∀ xs H' F', RE K B F0 F' H' σ ρ → Ext F H F' H' → MixR K F' H H' xs v → Q xs H'
abbrev SM (X : Cx) (es : List Expr) (f : MF) : Prop := PA X es (tM X.K f)
def mNil : MF := fun _ => some []
def mVal (f : PF) (r : MF) : MF := fun ρ => (f ρ).bind fun v => (r ρ).bind fun l => some ((false, v) :: l)
def mOwn (f : PF) (r : MF) : MF := fun ρ => (f ρ).bind fun v => (r ρ).bind fun l => some ((true, v) :: l)
theorem MixR.pre {F H0 H H' : Hp} (s : Same H0 H) : ∀ {xs : List V} {l : List (Bool × PV)}, MixR K F H H' xs l → MixR K F H0 H' xs l
  | [], [], _ => trivial
  | x :: xs, (false, d) :: r, ⟨h1, h2⟩ => ⟨h1, MixR.pre s h2⟩
  | x :: xs, (true, d) :: r, ⟨⟨a, h1, h2, h3, h4, h5⟩, h6⟩ => ⟨⟨a, h1, h2, s.free h3, h4, h5⟩, MixR.pre s h6⟩
theorem MixR.owns {F H H' : Hp} : ∀ {xs : List V} {l : List (Bool × PV)} {a : Addr}, MixR K F H H' xs l → V.ref a ∈ MixR.ownsOf xs l → H a = none
  | x :: xs, (false, d) :: r, a, ⟨h1, h2⟩, h => MixR.owns h2 h
  | x :: xs, (true, d) :: r, a, ⟨⟨a', h1, h2, h3, h4, h5⟩, h6⟩, h => by
    unfold MixR.ownsOf at h
    rcases List.mem_cons.mp h with h | h
    · subst h1
      cases h
      exact h3
    · exact MixR.owns h6 h
theorem sm_nil : SM X [] mNil := PA.imp pa_nil fun σ H Q ⟨B, F0, F, ρ, z, R, e, q⟩ => by
  cases e
  exact q _ _ _ R (Ext.refl _ _) trivial
theorem sm_val {es : List Expr} {r : MF} (ha : SE X a f) (hr : SM X es r) (hs : starEach (a :: es) X.env = (false, eval a X.env) :: starEach es X.env := by rfl) : SM X (a :: es) (mVal f r) := PA.imp (pa_cons ha hr hs) fun σ H Q ⟨B, F0, F, ρ, z, R, e, q⟩ => by
  obtain ⟨v, e1, e2⟩ := bind_some e
  obtain ⟨l, e3, e4⟩ := bind_some e2
  cases e4
  refine ⟨B, F0, F, ρ, v, R, e1, fun x H1 F1 R1 E1 d1 => ⟨B, F0, F1, ρ, l, R1, e3, fun xs H2 F2 R2 E2 d2 => ?_⟩⟩
  exact q _ _ _ R2 (E1.trans E2) ⟨dr_same E2.f _ _ d1, d2.pre E1.h⟩
theorem sm_own {es : List Expr} {r : MF} (ha : SF X a f) (hr : SM X es r) (hs : starEach (a :: es) X.env = (false, eval a X.env) :: starEach es X.env := by rfl) : SM X (a :: es) (mOwn f r) := PA.imp (pa_cons ha hr hs) fun σ H Q ⟨B, F0, F, ρ, z, R, e, q⟩ => by
  obtain ⟨v, e1, e2⟩ := bind_some e
  obtain ⟨l, e3, e4⟩ := bind_some e2
  cases e4
  refine ⟨B, F0, F, ρ, v, R, e1, fun a H1 F1 R1 E1 fa ha d1 => ⟨B, F0, F1, ρ, l, R1, e3, fun xs H2 F2 R2 E2 d2 => ?_⟩⟩
  obtain ⟨o, ho⟩ := d1.some
  refine q _ _ _ R2 (E1.trans E2) ⟨⟨a, rfl, E2.keepNone ho fa, ha, d1.same E2.f (by rw [E2.h _ _ ho, ho]), fun m => ?_⟩, d2.pre E1.h⟩
  have := d2.owns m
  rw [ho] at this
  cases this
def setAll (σ : L2.St) : List Nat → List V → L2.St
  | i :: is, x :: xs => setAll (σ.set i (some x)) is xs
  | _, _ => σ
def setAllE (ρ : PEnv) : List Nat → List (Bool × PV) → PEnv
  | i :: is, (k, d) :: r => setAllE (ρ.set i (if k = true then .own d else .val d)) is r
  | _, _ => ρ
theorem RE.setMix {B F0 F H0 H : Hp} : ∀ {is : List Nat} {xs : List V} {l : List (Bool × PV)} {σ : L2.St} {ρ : PEnv}, RE K B F0 F H σ ρ → MixR K F H0 H xs l → Same B H0 → (∀ (j : Nat) v a, ρ[j]? = some (.own v) → σ[j]? = some (some (.ref a)) → V.ref a ∉ MixR.ownsOf xs l) → RE K B F0 F H (setAll σ is xs) (setAllE ρ is l)
  | [], _, _, _, _, R, _, _, _ => R
  | i :: is, [], [], _, _, R, _, _, _ => R
  | i :: is, [], _ :: _, _, _, R, h, _, _ => h.elim
  | i :: is, _ :: _, [], _, _, R, h, _, _ => h.elim
  | i :: is, x :: xs, (false, d) :: r, σ, ρ, R, ⟨h1, h2⟩, hb, no => by
    show RE K B F0 F H (setAll (σ.set i (some x)) is xs) (setAllE (ρ.set i (.val d)) is r)
    refine RE.setMix (R.setVal h1) h2 hb fun j v a e1 e2 m => ?_
    by_cases z : i = j
    · subst z
      by_cases hi : i < ρ.length
      · rw [List.getElem?_set_self hi] at e1
        cases e1
      · rw [List.getElem?_eq_none (by rw [List.length_set]; omega)] at e1
        cases e1
    · rw [List.getElem?_set_ne z] at e1 e2
      exact no j v a e1 e2 m
  | i :: is, x :: xs, (true, d) :: r, σ, ρ, R, ⟨⟨a, h1, h2, h3, h4, h5⟩, h6⟩, hb, no => by
    subst h1
    show RE K B F0 F H (setAll (σ.set i (some (.ref a))) is xs) (setAllE (ρ.set i (.own d)) is r)
    refine RE.setMix (R.setOwn h2 (hb.free h3) h4 fun j v e1 e2 => no j v a e1 e2 (by unfold MixR.ownsOf; exact List.mem_cons_self)) h6 hb fun j v a' e1 e2 m => ?_
    by_cases z : i = j
    · subst z
      by_cases hi : i < ρ.length
      · rw [List.getElem?_set_self (by rw [R.len]; exact hi)] at e2
        cases e2
        exact h5 m
      · rw [List.getElem?_eq_none (by rw [List.length_set]; omega)] at e1
        cases e1
    · rw [List.getElem?_set_ne z] at e1 e2
      exact no j v a' e1 e2 (by unfold MixR.ownsOf; exact List.mem_cons_of_mem _ m)
def sPar (is : List Nat) (f : MF) : PSt := fun ρ => (f ρ).bind fun l => if l.length = is.length then some (.nx (setAllE ρ is l)) else none
theorem MixR.length {F H H' : Hp} : ∀ {xs : List V} {l : List (Bool × PV)}, MixR K F H H' xs l → xs.length = l.length
  | [], [], _ => rfl
  | [], _ :: _, h => h.elim
  | _ :: _, [], h => h.elim
  | x :: xs, (false, d) :: r, ⟨h1, h2⟩ => by rw [List.length_cons, List.length_cons, MixR.length h2]
  | x :: xs, (true, d) :: r, ⟨h1, h2⟩ => by rw [List.length_cons, List.length_cons, MixR.length h2]
theorem par_end {B F0 F H F1 H1 : Hp} {is : List Nat} {xs : List V} {l : List (Bool × PV)} {σ : L2.St} {ρ : PEnv} (R : RE K B F0 F H σ ρ) (R1 : RE K B F0 F1 H1 σ ρ) (m : MixR K F1 H H1 xs l) : RE K B F0 F1 H1 (setAll σ is xs) (setAllE ρ is l) :=
  RE.setMix R1 m R.bh fun j v a e1 e2 q => R.notOwn (m.owns q) j v e1 e2
theorem ss_par2 {i j : Nat} {x y : Str} {px py pt : Pos} {kt k2 pt2} {f : MF} (hc : X.calm = true) (hN : X.N.Nodup) (hi : X.N[i]? = some x) (hj : X.N[j]? = some y) (hij : i ≠ j)
    (hx : X.env.scope.names.lookup x = some .local) (hy : X.env.scope.names.lookup y = some .local) (ha : SM X [a, b] f)
    (hw : swappedStores [.Tuple [.Name x px, .Name y py] kt pt] (.Tuple [a, b] k2 pt2) X.env = pure (some [x, y]))
    (hs : swapsWithSole [.Tuple [.Name x px, .Name y py] kt pt] (.Tuple [a, b] k2 pt2) pos.line X.env = pure false := by rfl) :
    SS X (.Assign [.Tuple [.Name x px, .Name y py] kt pt] (.Tuple [a, b] k2 pt2) pos) (sPar [i, j] f) := PS.imp (ps_par hc hN hi hj hij hx hy ha hw hs) fun D σ H ⟨B, F0, F, ρ, r, R, e, q⟩ => by
  obtain ⟨l, e1, e2⟩ := bind_some e
  split at e2
  · rename_i hl
    cases e2
    refine ⟨B, F0, F, ρ, l, R, e1, fun xs H1 F1 R1 E1 m => ?_⟩
    have hx := m.length
    rw [hl] at hx
    match xs, hx with
    | [u, w], _ => exact ⟨u, w, rfl, q _ _ _ (par_end (is := [i, j]) R R1 m) E1.f⟩
  · cases e2
theorem ss_par3 {i j k : Nat} {x y z : Str} {px py pz pt : Pos} {kt k2 pt2} {f : MF} (hc : X.calm = true) (hN : X.N.Nodup) (hi : X.N[i]? = some x) (hj : X.N[j]? = some y) (hk : X.N[k]? = some z) (hij : i ≠ j) (hik : i ≠ k) (hjk : j ≠ k)
    (hx : X.env.scope.names.lookup x = some .local) (hy : X.env.scope.names.lookup y = some .local) (hz : X.env.scope.names.lookup z = some .local) (ha : SM X [a, b, c] f)
    (hw : swappedStores [.Tuple [.Name x px, .Name y py, .Name z pz] kt pt] (.Tuple [a, b, c] k2 pt2) X.env = pure (some [x, y, z]))
    (hs : swapsWithSole [.Tuple [.Name x px, .Name y py, .Name z pz] kt pt] (.Tuple [a, b, c] k2 pt2) pos.line X.env = pure false := by rfl) :
    SS X (.Assign [.Tuple [.Name x px, .Name y py, .Name z pz] kt pt] (.Tuple [a, b, c] k2 pt2) pos) (sPar [i, j, k] f) := PS.imp (L2.ps_par3 hc hN hi hj hk hij hik hjk hx hy hz ha hw hs) fun D σ H ⟨B, F0, F, ρ, r, R, e, q⟩ => by
  obtain ⟨l, e1, e2⟩ := bind_some e
  split at e2
  · rename_i hl
    cases e2
    refine ⟨B, F0, F, ρ, l, R, e1, fun xs H1 F1 R1 E1 m => ?_⟩
    have hx := m.length
    rw [hl] at hx
    match xs, hx with
    | [u, w, v], _ => exact ⟨u, w, v, rfl, q _ _ _ (par_end (is := [i, j, k]) R R1 m) E1.f⟩
  · cases e2
/-- names stored one behind the other -/
def tNs (is : List Nat) : TGs := fun xs σ H Q => xs.length = is.length ∧ Q (setAll σ is xs) H
theorem pns_nil : PGs X [] (tNs []) := PGs.imp pgs_nil fun xs σ H Q ⟨h, q⟩ => by
  cases xs with
  | nil => exact ⟨rfl, q⟩
  | cons u us => cases h
theorem pns_cons {es : List Expr} {i : Nat} {is : List Nat} (h1 : PG X e (gName i)) (h2 : PGs X es (tNs is)) (hs : (assignEach (e :: es) X.env).map (·.2) = assign e X.env :: (assignEach es X.env).map (·.2) := by rfl) : PGs X (e :: es) (tNs (i :: is)) :=
  PGs.imp (pgs_cons h1 h2 hs) fun xs σ H Q ⟨h, q⟩ => by
    cases xs with
    | nil => cases h
    | cons u us => exact ⟨u, us, rfl, Nat.succ.inj h, q⟩
/-- a, b, .. = x, y, .. where the tuple is made (names of cells, four and more, constants) -/
theorem ss_parT {is : List Nat} {es ts : List Expr} {k k2 n : Nat} {p2 : Pos} {f : MF} (hc : X.calm = true) (ha : SM X es f) (hg : PGs X ts (tNs is)) (hn : (assignEach ts X.env).length = n := by rfl) (hst : (assignEach ts X.env).findIdx? (·.1) = none := by rfl) (hnl : is.length = n := by rfl) (hl : is.length ≤ 1000 := by decide)
    (hs : swapsWithSole [.Tuple ts k p] (.Tuple es k2 p2) pos.line X.env = pure false := by rfl) (hw : swappedStores [.Tuple ts k p] (.Tuple es k2 p2) X.env = pure none := by rfl) (h1 : (assignEach [.Tuple ts k p] X.env).map (·.2) = [assign (.Tuple ts k p) X.env] := by rfl) :
    SS X (.Assign [.Tuple ts k p] (.Tuple es k2 p2) pos) (sPar is f) := PS.imp (ps_asg (pe_tup ha) (pg_tup hc hg hn hst) hs hw h1) fun D σ H ⟨B, F0, F, ρ, r, R, e, q⟩ => by
  obtain ⟨l, e1, e2⟩ := bind_some e
  split at e2
  · rename_i hll
    cases e2
    refine ⟨B, F0, F, ρ, l, R, e1, fun xs H1 F1 R1 E1 m => ?_⟩
    have hx := m.length
    have hz : xs.length = n := by rw [hx, hll, hnl]
    refine ⟨by rw [hz]; exact Nat.le_of_lt (L2.small1000 (hnl ▸ hl)), fun p hp => ⟨p, xs, rfl, .inl (.inl upd_same), hz, by rw [hz, hnl], ?_⟩⟩
    have R2 := par_end (is := is) R R1 m
    have E2 : Ext F1 H1 F1 (upd H1 p (.tup xs)) := ext_new hp
    exact q _ _ _ (R2.ext E2 (same_upd2 R1.fh hp)) E1.f
  · cases e2

/-! ### loops -/
def loopF (h : GF) (body : PSt) : List PV → PEnv → Option Fl
  | [], ρ => some (.nx ρ)
  | x :: r, ρ => (h x ρ).bind fun ρ1 => (body ρ1).bind fun fl => match fl with
    | .nx ρ' => loopF h body r ρ'
    | .cnt ρ' => loopF h body r ρ'
    | .brk ρ' => some (.nx ρ')
    | .ret v => some (.ret v)
def sFor (L : LF) (h : GF) (body : PSt) : PSt := fun ρ => (L ρ).bind fun l => loopF h body l ρ
theorem ss_for {iter : Expr} {body : List Stmt} {L : LF} {h : GF} {ts : List Nat} (hp : PassesOwn (model X.prog X.w) X.A X.env X.xe) (hc : X.calm = true) (hi : SI X tg iter L) (hg : SG X tg h ts) (hb : SSs X body s) (hs : ∀ x, foldedSetIterable iter X.env x = pure x := by intro _; rfl) :
    SS X (.For tg iter body [] pos) (sFor L h s) := PS.imp (ps_for hp hc hi hg hb hs) fun D σ H ⟨B, F0, F, ρ, r, R, e, q⟩ => by
  obtain ⟨l, e1, e2⟩ := bind_some e
  refine ⟨B, F0, F, ρ, l, R, e1, fun J H1 F1 R1 E1 Y => ?_⟩
  refine ⟨fun i m σ' H' => m = l.length - i ∧ i ≤ l.length ∧ ∃ Fc ρc, RE X.K B F0 Fc H' σ' ρc ∧ Same F1 Fc ∧ loopF h s (l.drop i) ρc = some r, ⟨l.length, by simp, Nat.zero_le _, F1, ρ, R1, Same.refl _, e2⟩, ?_⟩
  rintro i m σ' H' ⟨rfl, hi, Fc, ρc, Rc, sc, hr⟩
  by_cases hlt : i < l.length
  · refine .inr ⟨Y.go i H' (sc.trans Rc.fh) hlt, fun σ2 H2 => i + 1 ≤ l.length ∧ ∃ Fc ρc, RE X.K B F0 Fc H2 σ2 ρc ∧ Same F1 Fc ∧ loopF h s (l.drop (i + 1)) ρc = some r, fun σ2 H2 z => ⟨l.length - (i + 1), by omega, rfl, z⟩, fun x H2 y => ?_⟩
    obtain ⟨d, F2, g1, E2, s2, dx⟩ := Y.item sc Rc.fh (sc.trans Rc.fh) hlt y
    have ed : l.drop i = d :: l.drop (i + 1) := by
      rw [List.drop_eq_getElem_cons hlt]
      rw [List.getElem?_eq_getElem hlt] at g1
      cases g1
      rfl
    rw [ed] at hr
    unfold loopF at hr
    obtain ⟨ρ1, q1, hr1⟩ := bind_some hr
    obtain ⟨fl, q2, hr2⟩ := bind_some hr1
    refine ⟨B, F0, F2, ρc, d, ρ1, Rc.ext E2 s2, dx, q1, fun σ3 R3 _ _ => ⟨B, F0, F2, ρ1, fl, R3, q2, ?_⟩⟩
    have s3 : Same F1 F2 := sc.trans E2.f
    cases fl with
    | nx ρ' => exact fun σ4 H4 F4 R4 s4 => ⟨by omega, F4, ρ', R4, s3.trans s4, hr2⟩
    | cnt ρ' => exact fun σ4 H4 F4 R4 s4 => ⟨by omega, F4, ρ', R4, s3.trans s4, hr2⟩
    | brk ρ' =>
      cases hr2
      exact fun σ4 H4 F4 R4 s4 => q σ4 H4 F4 R4 (E1.f.trans (s3.trans s4))
    | ret v =>
      cases hr2
      exact q
  · have ei : i = l.length := by omega
    subst ei
    rw [List.drop_length] at hr
    cases hr
    exact .inl ⟨Y.stop _ H' (sc.trans Rc.fh) rfl, q σ' H' Fc Rc (E1.f.trans sc)⟩
def loopW (c : PEnv → Option Bool) (body : PSt) : Nat → PEnv → Option Fl
  | 0, _ => none
  | n + 1, ρ => (c ρ).bind fun b => if b = true then (body ρ).bind fun fl => match fl with
      | .nx ρ' => loopW c body n ρ'
      | .cnt ρ' => loopW c body n ρ'
      | .brk ρ' => some (.nx ρ')
      | .ret v => some (.ret v)
    else some (.nx ρ)
/-- n: a bound of the turns -/
def sWhile (n : Nat) (c : PEnv → Option Bool) (body : PSt) : PSt := loopW c body n
theorem ss_while {c : Expr} {body : List Stmt} {k : PEnv → Option Bool} (n : Nat) (hp : PassesOwn (model X.prog X.w) X.A X.env X.xe) (hc : ST X c k) (hb : SSs X body s) : SS X (.While c body [] pos) (sWhile n k s) := PS.imp (ps_while hp hc hb) fun D σ H ⟨B, F0, F, ρ, r, R, e, q⟩ => by
  refine ⟨fun m σ' H' => ∃ Fc ρc, RE X.K B F0 Fc H' σ' ρc ∧ Same F Fc ∧ loopW k s m ρc = some r, ⟨n, F, ρ, R, Same.refl _, e⟩, ?_⟩
  rintro m σ' H' ⟨Fc, ρc, Rc, sc, hr⟩
  cases m with
  | zero => cases hr
  | succ m =>
    unfold loopW at hr
    obtain ⟨b, q1, hr1⟩ := bind_some hr
    refine ⟨B, F0, Fc, ρc, b, Rc, q1, fun H1 F1 R1 E1 => ?_⟩
    have s1 := sc.trans E1.f
    cases b with
    | true =>
      rw [if_pos rfl] at hr1
      obtain ⟨fl, q2, hr2⟩ := bind_some hr1
      refine L2.iteT ⟨fun σ2 H2 => ∃ Fc ρc, RE X.K B F0 Fc H2 σ2 ρc ∧ Same F Fc ∧ loopW k s m ρc = some r, fun σ2 H2 z => ⟨m, by omega, z⟩, B, F0, F1, ρc, fl, R1, q2, ?_⟩
      cases fl with
      | nx ρ' => exact fun σ4 H4 F4 R4 s4 => ⟨F4, ρ', R4, s1.trans s4, hr2⟩
      | cnt ρ' => exact fun σ4 H4 F4 R4 s4 => ⟨F4, ρ', R4, s1.trans s4, hr2⟩
      | brk ρ' =>
        cases hr2
        exact fun σ4 H4 F4 R4 s4 => q σ4 H4 F4 R4 (s1.trans s4)
      | ret v =>
        cases hr2
        exact q
    | false =>
      rw [if_neg Bool.false_ne_true] at hr1
      cases hr1
      exact L2.iteF (q σ' H1 F1 R1 s1)
end
end Pl

set_option Elab.async false
set_option linter.all false
set_option maxRecDepth 100000
set_option maxHeartbeats 4000000
set_option autoImplicit false
namespace Pl
open PySem PySem.Spec PyProof.Rows L2
variable {K : PySem.W.Frag}

/-! ### defs -/
/-- what a def promises: n values in, the value of fn out -/
def spP (K : PySem.W.Frag) (n : Nat) (fn : List PV → Option PV) : Sp := fun vs H Q _ => ∃ F l r, Same F H ∧ DrAll K F vs l ∧ l.length = n ∧ fn l = some r ∧
  ∀ x H' F', Same H H' → Same F F' → Same F' H' → (∀ a o, F' a = some o → F a = some o ∨ H a = none) → Dr K F' x r → Q x H'
def startE (n : Nat) (l : List PV) : PEnv := l.map Slot.val ++ List.replicate (n - l.length) Slot.un
def outF : Fl → Option PV
  | .ret v => some v
  | .nx _ => some .none
  | _ => none
/-- a def with n slots -/
def fnDef (n : Nat) (body : PSt) : List PV → Option PV := fun l => (body (startE n l)).bind outF
theorem re_start {F H : Hp} {N : List Str} {vs : List V} {l : List PV} (fh : Same F H) (d : DrAll K F vs l) (hl : l.length ≤ N.length) : RE K H F F H (L2.start N vs) (startE N.length l) := by
  have lv := drAll_length d
  refine ⟨fh, Same.refl _, Same.refl _, fun a o h => .inl h, ?_, fun i v h => ?_, fun i v h => ?_, fun i j v w a h1 => ?_⟩
  · unfold L2.start startE
    simp only [List.length_append, List.length_map, List.length_replicate]
    omega
  · unfold startE at h
    unfold L2.start
    by_cases hi : i < l.length
    · rw [List.getElem?_append_left (by simpa using hi), List.getElem?_map, List.getElem?_eq_getElem hi] at h
      cases h
      obtain ⟨x, h1, h2⟩ := drAll_get d (List.getElem?_eq_getElem hi)
      refine ⟨x, ?_, h2⟩
      rw [List.getElem?_append_left (by rw [List.length_map, lv]; exact hi), List.getElem?_map, h1]
      rfl
    · rw [List.getElem?_append_right (by simpa using hi), List.getElem?_replicate] at h
      split at h <;> cases h
  · unfold startE at h
    by_cases hi : i < l.length
    · rw [List.getElem?_append_left (by simpa using hi), List.getElem?_map, List.getElem?_eq_getElem hi] at h
      cases h
    · rw [List.getElem?_append_right (by simpa using hi), List.getElem?_replicate] at h
      split at h <;> cases h
  · unfold startE at h1
    by_cases hi : i < l.length
    · rw [List.getElem?_append_left (by simpa using hi), List.getElem?_map, List.getElem?_eq_getElem hi] at h1
      cases h1
    · rw [List.getElem?_append_right (by simpa using hi), List.getElem?_replicate] at h1
      split at h1 <;> cases h1
/-- a def of the module that keeps the promise -/
structure DefOk (P : Program) (w : World) (K : PySem.W.Frag) (mg : Str → Option Value) (base : Heap) (k : Nat) (x : Str) (n : Nat) (fn : List PV → Option PV) : Prop where
  ex : ∃ (f : Addr) (fd : FuncData) (ps : List Str), mg x = some (.ref f) ∧ PySem.W.keepIn K (.ref f) = true ∧ Binds K fd ps [] ∧ FnOk P w K mg base CX0 k f fd ps (spP K n fn)
theorem DefOk.mono {P : Program} {w : World} {mg : Str → Option Value} {base : Heap} {j k : Nat} {x : Str} {n : Nat} {fn : List PV → Option PV} (D : DefOk P w K mg base j x n fn) (h : j ≤ k) : DefOk P w K mg base k x n fn := by
  obtain ⟨f, fd, ps, h1, h2, h3, h4⟩ := D.ex
  exact ⟨f, fd, ps, h1, h2, h3, h4.mono h⟩
/-- the promise follows from another function's -/
theorem DefOk.imp {P : Program} {w : World} {mg : Str → Option Value} {base : Heap} {k : Nat} {x : Str} {n : Nat} {fn fn' : List PV → Option PV} (D : DefOk P w K mg base k x n fn) (h : ∀ l r, fn' l = some r → fn l = some r) : DefOk P w K mg base k x n fn' := by
  obtain ⟨f, fd, ps, h1, h2, h3, h4⟩ := D.ex
  refine ⟨f, fd, ps, h1, h2, h3, h4.imp fun vs H Q E ⟨F, l, r, q1, q2, q3, q4, q5⟩ => ⟨F, l, r, q1, q2, q3, h _ _ q4, q5⟩⟩
theorem fnOk_body {P : Program} {w : World} {mg : Str → Option Value} {base : Heap} {k : Nat} {x : Str} {st : Stmt} {f : Addr} {fd : FuncData} {N ps : List Str} {b : PSt} (F : FunD K x x (defArgs st) (defBody st) (defScope st) [] [] f fd) (S : FnScope N ps (defScope st))
    (body : ∀ (cdv : Value) (A : Around) (outer : List Env) (s : Shared) (H : Hp) (E : XK), Room k (A.deeper (envOfC x (defScope st) s.heap.objs.size f cdv)) → SSs (cxOf CX0 P w K mg base N x (defScope st) f cdv A outer s H E).nox (defBody st) b) :
    FnOk P w K mg base CX0 (k + 1) f fd ps (spP K ps.length (fnDef N.length b)) := by
  have hpl : ps.length ≤ N.length := by
    have := congrArg List.length S.pre
    rw [List.length_take] at this
    omega
  refine F.ok S (fun vs H Q E ⟨F, l, r, q1, q2, q3, q4, q5⟩ => (drAll_length q2).trans q3) fun cdv A outer s H vs Q E hr ⟨F, l, r, q1, q2, q3, q4, q5⟩ => ⟨_, (body cdv A outer s H E hr).nox, ?_⟩
  obtain ⟨fl, e1, e2⟩ := bind_some q4
  refine ⟨H, F, F, startE N.length l, fl, re_start q1 q2 (by omega), e1, ?_⟩
  cases fl with
  | ret v =>
    cases e2
    exact fun y H' F' h1 h2 h3 h4 h5 => q5 y H' F' h1 h2 h3 h4 h5
  | nx ρ =>
    cases e2
    exact fun σ' H' F' R _ => q5 .non H' F' R.bh R.f0 R.fh R.ff .non
  | brk ρ => cases e2
  | cnt ρ => cases e2
theorem DefOk.mk' {P : Program} {w : World} {mg : Str → Option Value} {base : Heap} {k : Nat} {x : Str} {st : Stmt} {f : Addr} {fd : FuncData} {N ps : List Str} {b : PSt} {n m : Nat} (F : FunD K x x (defArgs st) (defBody st) (defScope st) [] [] f fd) (hm : mg x = some (.ref f)) (S : FnScope N ps (defScope st))
    (hb : ∀ (kV doc pm : Value) (an : Option Addr) (cdv ct : Value) (us : List Value), us.length = ps.length → bindArgs (PySem.W.fnOf x x (defArgs st) (defBody st) (defScope st) .none kV doc pm an cdv ct) ⟨us, []⟩ = pure (ps.zip us))
    (hn : ps.length = n) (hN : N.length = m)
    (body : ∀ (cdv : Value) (A : Around) (outer : List Env) (s : Shared) (H : Hp) (E : XK), Room k (A.deeper (envOfC x (defScope st) s.heap.objs.size f cdv)) → SSs (cxOf CX0 P w K mg base N x (defScope st) f cdv A outer s H E).nox (defBody st) b) :
    DefOk P w K mg base (k + 1) x n (fnDef m b) := by
  subst hn hN
  exact ⟨f, fd, ps, hm, F.kp, F.bindsN hb, fnOk_body F S body⟩
section
variable {X : Cx} {a b c e : Expr} {f g : PF} {pos p : Pos} {x : Str} {es : List Expr} {r : PEnv → Option (List PV)}
theorem se_call {k n : Nat} {fn : List PV → Option PV} (D : DefOk X.prog X.w X.K X.mg X.base k x n fn) (hr : Room k X.A) (hg : Gl X x) (ha : SA X (e :: es) r) (hn : (e :: es).length = n := by rfl)
    (hdb : (x == ("__debug__" : Str)) = false := by decide) (he : starEach (e :: es) X.env = (false, eval e X.env) :: starEach es X.env := by rfl) (hpl : (backTo pos (starEach es X.env)).any (·.1) = false := by rfl) (hlen : ∀ ρ l, r ρ = some l → l.length = n) :
    SE X (.Call (.Name x p) (e :: es) [] pos) (eCall fn r) := by
  obtain ⟨f, fd, ps, h1, h2, h3, h4⟩ := D.ex
  refine PE.imp (pe_call h4 hr hg h1 h2 h3 .nil pass0 ha hdb he hpl) fun σ H Q ⟨B, F0, F, ρ, z, R, e, q⟩ => ?_
  obtain ⟨l, e1, e2⟩ := bind_some e
  refine ⟨B, F0, F, ρ, l, R, e1, fun xs H1 F1 R1 E1 d1 => ?_⟩
  show spP X.K n fn (xs ++ []) H1 Q E0
  rw [List.append_nil]
  refine ⟨F1, l, z, R1.fh, d1, hlen _ _ e1, e2, fun y H2 F2 s1 s2 s3 s4 d2 => ?_⟩
  have E2 : Ext F1 H1 F2 H2 := ⟨s2, s1, s4⟩
  exact q _ _ _ (R1.ext E2 s3) (E1.trans E2) d2
theorem aNil_len : ∀ ρ l, aNil ρ = some l → l.length = 0 := fun ρ l h => by cases h; rfl
theorem aCons_len {f : PF} {r : PEnv → Option (List PV)} {n : Nat} (h : ∀ ρ l, r ρ = some l → l.length = n) : ∀ ρ l, aCons f r ρ = some l → l.length = n + 1 := fun ρ l e => by
  obtain ⟨v, e1, e2⟩ := bind_some e
  obtain ⟨m, e3, e4⟩ := bind_some e2
  cases e4
  rw [List.length_cons, h _ _ e3]
end

/-! ### the end: a law -/
theorem law_end {l : PySem.W.OpenLaw} {k : Nat} {q : Program} {loose : List Str} {XP : (Str → Option Value) → Heap → Prop} {d : DefRec} {fa : List He.Fa} {fn : List He.DefD} {YP : World → Heap → Prop}
    (hn : l.most = some 63) (hdf : d.params.defaults = []) (hr : Room k callerA) (hd : d.name = "law") (hY : ∀ w h, YP w h → ∃ K : PySem.W.Frag, K.In h ∧ He.SaysD fa fn K) {law : List PV → Option PV} (hlaw : ∀ ns : List Int, ns.length ≤ 63 → law [.list (ns.map PyData.int)] = some (.bool true))
    (F : ∀ (w : World) (K : PySem.W.Frag) (mg : Str → Option Value) (h : Heap), K.In h → h.Ns mainGlobals mg → He.SaysD fa fn K →
      (∀ (f : Addr), mg "law" = some (.ref f) → ∃ fd : FuncData, (∀ (s : Shared) (u : Value), BindsTo s fd ⟨[u], []⟩ [("script", u)]) ∧ ∀ base : Heap, K.In base → base.Ns mainGlobals mg → FnOk l.prog w K mg base CX0 k f fd ["script"] (spP K 1 law))) :
    PySem.W.WalkO q loose XP YP l.row.toRowW d [] (fun f vs => PySem.call f vs) := by
  refine L2.walk_ofE (l := l) (n := 63) (k := k) (x := "script") (CX := CX0) hn (by decide) hdf hr (fun w mg f h Y G hmg => ?_) fun _ _ _ _ z => z
  obtain ⟨K, KX, c⟩ := hY w h Y
  rw [hd] at hmg
  obtain ⟨fd, hb, hF⟩ := F w K mg h KX G c f hmg
  refine ⟨K, fd, spP K 1 law, KX, hb, fun H a ns hl _ hS => ?_, hF⟩
  refine ⟨H, [.list (ns.map PyData.int)], .bool true, Same.refl _, .cons (.lst hS (drAll_of_ints ns)) .nil, rfl, hlaw ns hl, fun x H' F' _ _ _ _ d => ?_⟩
  cases d
  rfl
end Pl

set_option Elab.async false
set_option linter.all false
set_option maxRecDepth 100000
set_option maxHeartbeats 4000000
set_option autoImplicit false
namespace Pl
open PySem PySem.Spec PyProof.Rows L2
variable {K : PySem.W.Frag}

/-! ### enumerate and zip of lists and tuples, in any mix -/
structure SrcK where
  It : Heap → Addr → Addr → Nat → Prop
  Ob : Heap → Addr → Array Value → Prop
  sq : PySem.W.Frag → Hp → Addr → List V → Prop
  o0 : Addr → Obj
  draws : ∀ (prog : Program) (w : World) (A : Around), A.handled = none → ∀ (it l : Addr), l ≠ it → ∀ items : Array Value, Draws prog w A it [it, l] items.size (fun i v => items[i]? = some v) (fun i h => It h it l i ∧ Ob h l items)
  itAt : ∀ {h h' : Heap} {it a : Addr} {i : Nat}, It h it a i → (∀ o, h.get? it = some o → h'.get? it = some o) → It h' it a i
  obj : ∀ {h : Heap} {it a : Addr} {i : Nat}, It h it a i → ∃ o, h.get? it = some o ∧ ∀ v, o.data ≠ .cell v
  apart : ∀ {h : Heap} {it a : Addr} {i : Nat} {items : Array Value}, It h it a i → Ob h a items → a ≠ it
  ob : ∀ {h : Heap} {a : Addr} {items : Array Value}, Ob h a items → ∃ o, h.get? a = some o ∧ o.cls ≠ .type "enumerate" ∧ o.cls ≠ .type "zip"
  read : ∀ {X : Cx} {pins : List (Addr × Obj)} {σ : L2.St} {H : Hp} {s : Shared} {a : Addr} {xs : List V}, Inv X pins σ H s → sq X.K H a xs → ∃ its : List Value, Vals xs its ∧ Ob s.heap a its.toArray
  inj : ∀ {X : Cx} {pins : List (Addr × Obj)} {σ : L2.St} {H : Hp} {s : Shared} {a : Addr} {xs ys : List V}, Inv X pins σ H s → sq X.K H a xs → sq X.K H a ys → xs = ys
  same : ∀ {K : PySem.W.Frag} {H H' : Hp} {a : Addr} {xs : List V}, Same H H' → sq K H a xs → sq K H' a xs
  begins : ∀ (a : Addr) (items : Array Value), Begins (.ref a) (o0 a) fun h => Ob h a items
  start : ∀ {h : Heap} {it a : Addr}, h.get? it = some (o0 a) → It h it a 0
theorem cls_ne {o : Obj} {a b : String} (h : o.cls = .type a) (n : a ≠ b) : o.cls ≠ .type b := fun z => by
  rw [h] at z
  injection z with z
  exact n z
def kL : SrcK where
  It := fun h it a i => h.IsListIter it a i
  Ob := fun h a items => h.IsList a items
  sq := SqL
  o0 := fun a => { cls := .type "list_iterator", data := .fields #[.ref a, .int 0 0] }
  draws := fun _ _ _ hh it l hne items => Draws.list hh it l hne items
  itAt := fun h k => h.at k
  obj := fun ⟨o, e, c, d⟩ => ⟨o, e, fun v z => by rw [d] at z; cases z⟩
  apart := fun ⟨o, e, c, d⟩ ⟨o', e', c', d'⟩ z => by
    subst z
    rw [e] at e'
    cases e'
    rw [c] at c'
    exact absurd c' (by decide)
  ob := fun ⟨o, e, c, d⟩ => ⟨o, e, cls_ne c (by decide), cls_ne c (by decide)⟩
  read := fun I h => by
    obtain ⟨its, r, p, _⟩ := I.list h
    exact ⟨its, r, p.isList⟩
  inj := fun I h h' => I.list_inj h h'
  same := fun e h => e.seq h
  begins := fun a items => begins_list a items
  start := fun h => ⟨_, h, rfl, rfl⟩
def kT : SrcK where
  It := fun h it a i => h.IsTupleIter it a i
  Ob := fun h a items => h.IsTuple a items
  sq := SqT
  o0 := fun a => { cls := .type "tuple_iterator", data := .fields #[.ref a, .int 0 0] }
  draws := fun _ _ _ hh it l hne items => Draws.tuple hh it l hne items
  itAt := fun h k => h.at k
  obj := fun ⟨o, e, c, d⟩ => ⟨o, e, fun v z => by rw [d] at z; cases z⟩
  apart := fun ⟨o, e, c, d⟩ ⟨o', e', c', d'⟩ z => by
    subst z
    rw [e] at e'
    cases e'
    rw [c] at c'
    exact absurd c' (by decide)
  ob := fun ⟨o, e, c, d⟩ => ⟨o, e, cls_ne c (by decide), cls_ne c (by decide)⟩
  read := fun I h => by
    obtain ⟨its, r, p, _⟩ := I.tuple h
    exact ⟨its, r, p⟩
  inj := fun I h h' => I.tuple_inj h h'
  same := fun e h => sqT_same e h
  begins := fun a items => begins_tuple a items
  start := fun h => ⟨_, h, rfl, rfl⟩
def IteG (K : PySem.W.Frag) (κ : SrcK) (a : Addr) : It :=
  ⟨fun i H => ∃ xs x, κ.sq K H a xs ∧ xs[i]? = some x, fun i H v H' => ∃ T x, v = .ref T ∧ H T = none ∧ H' = upd H T (.tup [.int (i : Nat), x]) ∧ ∀ xs, κ.sq K H a xs → xs[i]? = some x, fun i H => ∃ xs, κ.sq K H a xs ∧ xs.length = i⟩
theorem enum_ne {κ : SrcK} {h : Heap} {e it a : Addr} {c : Int} {old : Value} {items : Array Value} (he : IsEnum h e it c old) (ob : κ.Ob h a items) : e ≠ a := fun z => by
  obtain ⟨o, e1, n, _⟩ := κ.ob ob
  subst z
  have he' : h.get? e = some _ := he
  rw [e1] at he'
  have := congrArg Obj.cls (Option.some.inj he')
  exact n this
theorem turn_enumG {P : Program} {w : World} {elts : List Expr} {kk : Nat} {tpos : Pos} (κ : SrcK) (a e it : Addr) :
    Turn P w K (.Tuple elts kk tpos) (IteG K κ a) [e, it] e (fun i h => (∃ old, IsEnum h e it ((i : Nat) : Int) old) ∧ κ.It h it a i ∧ e ≠ it) where
  mem := by simp
  obj := fun i h ⟨⟨old, he⟩, hit, _⟩ b hb => by
    rcases List.mem_cons.mp hb with z | z
    · rw [z]
      exact ⟨_, he, fun v q => nomatch q⟩
    · rw [List.mem_singleton.mp z]
      exact κ.obj hit
  keep := fun i h h' ⟨⟨old, he⟩, hit, hne⟩ k => ⟨⟨old, k e (by simp) _ he⟩, κ.itAt hit (fun o q => k it (by simp) o q), hne⟩
  item := fun X hP hw hK hc i pins s σ H E I hf ⟨⟨old, he⟩, hit, hne⟩ ⟨xs, x, hq, hx⟩ => by
    subst hP hw hK
    obtain ⟨its, rv, ob⟩ := κ.read I hq
    obtain ⟨u, hu, ru⟩ := rv.get hx
    have hae := enum_ne he ob
    have hai := κ.apart hit ob
    have el : e < s.heap.objs.size := Heap.lt_size he
    obtain ⟨oi, gi, _⟩ := κ.obj hit
    have il : it < s.heap.objs.size := Heap.lt_size gi
    have hlt : i < its.toArray.size := by
      have := (List.getElem?_eq_some_iff.mp hx).1
      rw [List.size_toArray, ← rv.length]
      exact this
    have D := κ.draws X.prog X.w X.A.in1 (I.ok.hd hc) it a hai its.toArray
    refine wpAny_pyNext_enum_itemC D he ⟨hit, ob⟩ hlt hne (by simp [hne, hae]) fun y h1 tk hy ho st1 hT hsz hk => ?_
    have ey : y = u := by
      have hy' : its.toArray[i]? = some y := hy
      rw [List.getElem?_toArray, hu] at hy'
      exact (Option.some.inj hy').symm
    subst ey
    refine ⟨_, rfl, wpAny_letOwnedTupleGo_enum (s := { s with heap := h1, toks := tk + 1 }) ho fun h2 he2 sb => ?_⟩
    have g2 : h2.get? s.heap.objs.size = some { cls := .type "tuple", data := .seq #[.int i tk, y] } := (sb.2 _ (Nat.ne_of_gt el)).trans hT
    have fr : H s.heap.objs.size = none := I.fresh
    have J : Inv X pins σ (upd H s.heap.objs.size (.tup [.int (i : Nat), x])) { s with heap := h2, toks := tk + 1 } := by
      refine I.turnedNew (ch := [e, it]) (fun b o hb q => ?_) hf (Nat.le_refl _) ⟨by show 2 ≤ sizeLine; decide, [.int i tk, y], .cons ⟨_, rfl⟩ (.cons ru .nil), ⟨_, g2, rfl, _, rfl⟩⟩
      simp only [List.mem_cons, List.mem_nil_iff, or_false, not_or] at hb
      exact (sb.2 b hb.1).trans (hk b o hb.1 hb.2 q)
    refine ⟨.ref s.heap.objs.size, _, J, rfl, ⟨_, x, rfl, fr, rfl, fun ys hy2 => by rw [κ.inj I hy2 hq]; exact hx⟩, ⟨⟨y, ?_⟩, κ.itAt st1.1 (fun o q => (sb.2 it (Ne.symm hne)).trans q), hne⟩, fun b hb => ?_⟩
    · rw [show ((i + 1 : Nat) : Int) = (i : Int) + 1 by omega]
      exact he2
    · have bl : b < s.heap.objs.size := by
        rcases List.mem_cons.mp hb with z | z
        · rw [z]
          exact el
        · rw [List.mem_singleton.mp z]
          exact il
      rw [upd_ne (Nat.ne_of_lt bl)]
      exact (hf b hb).1
  done := fun X hP hw hK hc i pins s σ H E I hf ⟨⟨old, he⟩, hit, hne⟩ ⟨xs, hq, hx⟩ => by
    subst hP hw hK
    obtain ⟨its, rv, ob⟩ := κ.read I hq
    have hai := κ.apart hit ob
    have D := κ.draws X.prog X.w X.A.in1 (I.ok.hd hc) it a hai its.toArray
    have en : its.toArray.size = i := by rw [List.size_toArray, ← rv.length, hx]
    refine wpAny_pyNext_enum_endD D he (by rw [en]; exact ⟨hit, ob⟩) fun h1 hk => ⟨rfl, I.turnedL (t' := s.toks) (ch := [e, it]) (fun b o hb q => ?_) hf⟩
    simp only [List.mem_cons, List.mem_nil_iff, or_false, not_or] at hb
    exact hk b o hb.2 q
  self := fun A i s Q E ⟨⟨old, he⟩, _⟩ h => wpAny_pyIter_enum he h
end Pl

set_option Elab.async false
set_option linter.all false
set_option maxRecDepth 100000
set_option maxHeartbeats 4000000
set_option autoImplicit false
namespace Pl
open PySem PySem.Spec PyProof.Rows L2
variable {K : PySem.W.Frag}

theorem meets_enum1B {v : Value} {o : Obj} {Hv : Heap → Prop} (B : Begins v o Hv) :
    Meets (Builtin.«enumerate.__new__» ⟨[.type "enumerate", v], []⟩) (fun _ R s => Hv s.heap ∧
      R (.ok (.ret (.ref (s.heap.push o).objs.size))) { s with heap := (s.heap.push o).push { cls := .type "enumerate", data := .fields #[.none, .bool false, .ref s.heap.objs.size, rawInt 0, .none, .none] } }) :=
  .of_wp fun prog w A R s h => by
    obtain ⟨hp, gs, dr, tks, oss⟩ := s
    obtain ⟨hv, h⟩ := h
    have f1 := sub_enumerate
    have it1 : ∀ {A' : Around} {E : Value → Shared → Prop} {Q : Value → Shared → Prop}, Q (.ref hp.objs.size) ⟨hp.push o, gs, dr, tks, oss⟩ → wpAny (model prog w) A' (pyIter v) Q E ⟨hp, gs, dr, tks, oss⟩ :=
      fun q => B.iter prog w _ _ ⟨hp, gs, dr, tks, oss⟩ _ hv q
    wp_walk using it1
    refine wpAny_stack_any fun stk => wpAny_pure ?_
    split
    · rename_i c _ _ _ _ _
      cases (c == Value.type "enumerate")
      · wp_walk using it1
        exact ⟨_, rfl, h⟩
      · wp_walk using it1
        exact ⟨_, rfl, h⟩
    · wp_walk using it1
      exact ⟨_, rfl, h⟩
theorem enum1_begins {prog : Program} {w : World} {A : Around} {E : Value → Shared → Prop} {s : Shared} {v : Value} {o : Obj} {Hv : Heap → Prop} {Q : Value → Shared → Prop} (B : Begins v o Hv) (h1 : Hv s.heap)
    (h : ∀ h', IsEnum h' (s.heap.objs.size + 1) s.heap.objs.size 0 .none → h'.get? s.heap.objs.size = some o → (∀ b u, s.heap.get? b = some u → h'.get? b = some u) → Q (.ref (s.heap.objs.size + 1)) { s with heap := h' }) :
    wpAny (model prog w) A (call (.type "enumerate") [v]) Q E s := by
  have hz : (s.heap.push o).objs.size = s.heap.objs.size + 1 := Heap.size_push ..
  have he := Heap.get?_push_size (s.heap.push o) (o := { cls := .type "enumerate", data := .fields #[.none, .bool false, .ref s.heap.objs.size, rawInt 0, .none, .none] }) rfl
  rw [hz] at he
  refine callType_new F.called_enumerate (by decide) (F.typeCall_enumerate_1 v) (F.newCall_enumerate_1 v) (fun obj => F.args_object_init_2 obj v) F.entry_enumerate_new (meets_enum1B B) ⟨h1, ?_⟩
  show _ ∧ _
  rw [hz]
  exact ⟨⟨_, he, rfl⟩, h _ he (Heap.get?_push_of_some _ (Heap.get?_push_size _ B.free)) fun b u q => Heap.get?_push_of_some _ (Heap.get?_push_of_some _ q)⟩

section
variable {X : Cx} {tg a b c e : Expr} {f g : PF} {pos p : Pos} {x : Str}
def enumL (l : List PV) : List PV := l.mapIdx fun i d => .tuple [.int (i : Nat), d]
def lEnum (f : PF) : LF := fun ρ => (f ρ).bind fun v => (toL v).bind fun l => some (enumL l)
theorem enumL_length (l : List PV) : (enumL l).length = l.length := by
  unfold enumL
  rw [List.length_mapIdx]
theorem enumL_get (l : List PV) (i : Nat) (d : PV) (h : l[i]? = some d) : (enumL l)[i]? = some (.tuple [.int (i : Nat), d]) := by
  unfold enumL
  rw [List.getElem?_mapIdx, h]
  rfl
theorem yl_enum {κ : SrcK} {ad : Addr} {xs : List V} {l : List PV} {F G : Hp} (h : κ.sq K G ad xs) (d : DrAll K F xs l) : Yl K (IteG K κ ad) (enumL l) F G where
  go := fun i H s hi => by
    rw [enumL_length] at hi
    obtain ⟨v, h1, h2⟩ := drAll_get d (List.getElem?_eq_getElem hi)
    exact ⟨xs, v, κ.same s h, h1⟩
  stop := fun i H s hi => ⟨xs, κ.same s h, by rw [drAll_length d, ← enumL_length]; exact hi⟩
  yld := fun i H x H' s hi y => by
    obtain ⟨T, u, e1, e2, e3, e4⟩ := y
    obtain ⟨dd, h1, h2⟩ := drAll_get' d (e4 xs (κ.same s h))
    exact ⟨_, enumL_get l i dd h1, .inr ⟨T, _, _, e1, e2, e3, .cons (.int _) (.cons h2 .nil), rfl⟩⟩
/-- the address of a list or a tuple that is looked at -/
theorem bor_src {F H : Hp} {v : V} {d : PV} {l : List PV} (fh : Same F H) (h : BoR K F H v d) (e : toL d = some l) : ∃ (κ : SrcK) (ad : Addr) (xs : List V) (G : Hp), v = .ref ad ∧ κ.sq K H ad xs ∧ DrAll K F xs l ∧ κ.sq K G ad xs ∧ Same F G ∧ Same G H := by
  unfold toL at e
  split at e
  · cases e
    rcases h with h | ⟨p, rfl, xs, h1, h2⟩
    · cases h with
      | lst hs ha => exact ⟨kL, _, _, F, rfl, sqL_same fh hs, ha, hs, Same.refl _, fh⟩
    · obtain ⟨s1, s2⟩ := same_add fh h1
      exact ⟨kL, p, xs, _, rfl, .inl (.inl h1), h2, .inl (.inl upd_same), s1, s2⟩
  · cases e
    obtain ⟨p, xs, rfl, f1, h1, d1⟩ := bor_tup fh h
    exact ⟨kT, p, xs, F, rfl, h1, d1, f1, Same.refl _, fh⟩
  · cases e
theorem se_src {F H : Hp} {v : V} {d : PV} {l : List PV} (fh : Same F H) (h : Dr K F v d) (e : toL d = some l) : ∃ (κ : SrcK) (ad : Addr) (xs : List V), v = .ref ad ∧ κ.sq K H ad xs ∧ DrAll K F xs l ∧ κ.sq K F ad xs := by
  unfold toL at e
  split at e
  · cases e
    cases h with
    | lst hs ha => exact ⟨kL, _, _, rfl, sqL_same fh hs, ha, hs⟩
  · cases e
    cases h with
    | tup hs ha => exact ⟨kT, _, _, rfl, sqT_same fh hs, ha, hs⟩
  · cases e
def iEnumG (K : PySem.W.Frag) (ta : TA) : TI := fun σ H R => ta σ H fun vs H1 => ∃ (κ : SrcK) (ad : Addr) (xs : List V), vs = [.ref ad] ∧ κ.sq K H1 ad xs ∧ R (IteG K κ ad) H1
theorem pi_enumG {ta : TA} {tpos : Pos} {elts : List Expr} {kk : Nat} (hg : Gl X "enumerate") (hm : X.mg "enumerate" = none) (ha : PA X [e] ta) (hs : starEach [e] X.env = [(false, eval e X.env)]) :
    PI X (.Tuple elts kk tpos) (.Call (.Name "enumerate" p) [e] [] pos) (iEnumG X.K ta) := by
  refine ⟨fun pins s σ H R I h => ?_⟩
  refine Call_ (ld_blt I hg hm boot_enumerate (PyProof.Rows.callWith_type1 (thn (ha.run pos pins s σ H _ I h) fun us s1 ⟨vs, H1, I1, r1, κ, ad, xs, ev, hq, q⟩ => ?_) hs rfl))
  subst ev
  obtain ⟨u, rfl, ru⟩ := vals1 r1
  cases ru
  obtain ⟨its, rv, ob⟩ := κ.read I1 hq
  refine enum1_begins (κ.begins ad its.toArray) ob fun h' he hit hk => wpAny_pyIter_enum he ?_
  refine ⟨s1.heap.objs.size + 1, [s1.heap.objs.size + 1, s1.heap.objs.size], _, _, H1, rfl, I1.kept (t' := s1.toks) hk, turn_enumG κ ad (s1.heap.objs.size + 1) s1.heap.objs.size, ⟨⟨_, he⟩, κ.start hit, Nat.succ_ne_self _⟩, fun b hb => ?_, q⟩
  have hl : s1.heap.objs.size ≤ b := by
    rcases List.mem_cons.mp hb with z | z
    · rw [z]
      exact Nat.le_add_right _ _
    · rw [List.mem_singleton.mp z]
      exact Nat.le_refl _
  exact I1.fpOk hl (I1.hok.fresh hl)
theorem si_enum {tpos : Pos} {elts : List Expr} {kk : Nat} (hg : Gl X "enumerate") (hm : X.mg "enumerate" = none) (ha : SE X a f) (na : NS a := by intro _ _; rfl) : SI X (.Tuple elts kk tpos) (.Call (.Name "enumerate" p) [a] [] pos) (lEnum f) :=
  PI.imp (pi_enumG hg hm (pa_cons ha pa_nil (na _ _)) (na _ _)) fun σ H R ⟨B, F0, F, ρ, l, R1, e, q⟩ => by
    obtain ⟨v, e1, e2⟩ := bind_some e
    obtain ⟨m, e3, e4⟩ := bind_some e2
    cases e4
    refine ⟨B, F0, F, ρ, v, R1, e1, fun x H1 F1 R2 E1 d1 => ?_⟩
    obtain ⟨κ, ad, xs, rfl, h1, h2, h3⟩ := se_src R2.fh d1 e3
    exact ⟨κ, ad, xs, rfl, h1, q _ _ _ R2 E1 (yl_enum h3 h2)⟩
theorem sib_enum {tpos : Pos} {elts : List Expr} {kk : Nat} (hg : Gl X "enumerate") (hm : X.mg "enumerate" = none) (ha : SB X a f) (na : NS a := by intro _ _; rfl) : SIB X (.Tuple elts kk tpos) (.Call (.Name "enumerate" p) [a] [] pos) (lEnum f) :=
  PI.imp (pi_enumG hg hm (pa_cons ha pa_nil (na _ _)) (na _ _)) fun σ H R ⟨B, F0, F, ρ, l, R1, e, q⟩ => by
    obtain ⟨v, e1, e2⟩ := bind_some e
    obtain ⟨m, e3, e4⟩ := bind_some e2
    cases e4
    refine ⟨B, F0, F, ρ, v, R1, e1, fun x H1 F1 R2 E1 d1 => ?_⟩
    obtain ⟨κ, ad, xs, G, rfl, h1, h2, h3, h4, h5⟩ := bor_src R2.fh d1 e3
    exact ⟨κ, ad, xs, rfl, h1, q _ _ _ G R2 E1 h4 h5 (yl_enum h3 h2)⟩
end
end Pl

set_option Elab.async false
set_option linter.all false
set_option maxRecDepth 100000
set_option maxHeartbeats 4000000
set_option autoImplicit false
namespace Pl
open PySem PySem.Spec PyProof.Rows L2
open PySem.W (alike dataLt lt_data le_data gt_data ge_data)
variable {K : PySem.W.Frag}

/-- the built-in names that the module does not bind -/
structure BF (mg : Str → Option Value) : Prop where
  len : mg "len" = none
  range : mg "range" = none
  tuple : mg "tuple" = none
  int : mg "int" = none
  abs : mg "abs" = none
  list : mg "list" = none
  sum : mg "sum" = none
  all : mg "all" = none
  any : mg "any" = none
  min : mg "min" = none
  max : mg "max" = none
  sorted : mg "sorted" = none
  isinstance : mg "isinstance" = none
  enumerate : mg "enumerate" = none
  zip : mg "zip" = none
  set : mg "set" = none
  reversed : mg "reversed" = none
  bool : mg "bool" = none
  str : mg "str" = none
def bfNames : List He.Fa := [.free "len", .free "range", .free "tuple", .free "int", .free "abs", .free "list", .free "sum", .free "all", .free "any", .free "min", .free "max", .free "sorted", .free "isinstance", .free "enumerate", .free "zip", .free "set", .free "reversed", .free "bool", .free "str"]
theorem BF.of {K : PySem.W.Frag} {h : Heap} {mg : Str → Option Value} {fa : List He.Fa} {fn : List He.DefD} (X : K.In h) (G : h.Ns mainGlobals mg) (c : He.SaysD (bfNames ++ fa) fn K) : BF mg :=
  ⟨He.free_ok X G (c.fact 0 rfl), He.free_ok X G (c.fact 1 rfl), He.free_ok X G (c.fact 2 rfl), He.free_ok X G (c.fact 3 rfl), He.free_ok X G (c.fact 4 rfl), He.free_ok X G (c.fact 5 rfl), He.free_ok X G (c.fact 6 rfl), He.free_ok X G (c.fact 7 rfl), He.free_ok X G (c.fact 8 rfl), He.free_ok X G (c.fact 9 rfl), He.free_ok X G (c.fact 10 rfl), He.free_ok X G (c.fact 11 rfl), He.free_ok X G (c.fact 12 rfl), He.free_ok X G (c.fact 13 rfl), He.free_ok X G (c.fact 14 rfl), He.free_ok X G (c.fact 15 rfl), He.free_ok X G (c.fact 16 rfl), He.free_ok X G (c.fact 17 rfl), He.free_ok X G (c.fact 18 rfl)⟩
theorem u65 {k : Nat} {A : Around} (hr : Room k A) : A.units + 65 < cLine := by
  have := hr.un
  omega
theorem rm {k : Nat} {A : Around} (hr : Room k A) : Room k A := hr
/-- a bound of the turns of any while loop -/
def wfuel : Nat := 1000000
section
variable {X : Cx} {tg a b c e : Expr} {f g : PF} {pos p : Pos} {x : Str}
theorem ss_ownLc {i : Nat} {y : Str} {py spos : Pos} {elt iter : Expr} {ifs : List Expr} {scope : Scope} {own : List (Str × Nat)} {vs : List Nat} {L : LF} {h : GF} {ts : List Nat} {k : PEnv → Option Bool} {el : PF} (hc : X.calm = true) (hyl : X.env.scope.names.lookup y = some .local)
    (hsw : swapsWith (.ListComp elt [⟨tg, iter, ifs, 0⟩] scope pos) (some (.Name y py)) spos.line X.env = pure true) (hN : X.N.Nodup) (hi : SIB X tg iter L) (ok : BlkOk X.N X.env.scope scope own)
    (hg : ∀ (s : Shared) (H : Hp) (C : Addr) (cl : List (Str × Addr)) (fp : List Addr), SG (X.blk s H scope (compEnvC scope cl C X.env) fp) tg h ts)
    (ht : ∀ (s : Shared) (H : Hp) (C : Addr) (cl : List (Str × Addr)) (fp : List Addr), PTs (X.blk s H scope (compEnvC scope cl C X.env) fp) ifs (tT X.K k))
    (he : ∀ (s : Shared) (H : Hp) (C : Addr) (cl : List (Str × Addr)) (fp : List Addr), SE (X.blk s H scope (compEnvC scope cl C X.env) fp) elt el)
    (hts : ∀ i ∈ ts, i ∈ vs) (hvs : own.map (·.2) = vs := by rfl) (hy : X.N[i]? = some y := by rfl) (hs : ∀ x, foldedSetIterable iter X.env x = pure x := by intro _; rfl) :
    SS X (.Assign [.Name y py] (.ListComp elt [⟨tg, iter, ifs, 0⟩] scope pos) spos) (sOwn i (eComp L vs h k el)) := by
  subst hvs
  exact ss_lc (ps_setLc hc hN hy hyl hsw hi ok hg ht he hs) fun _ _ _ w => own_of w fun _ w => lc_imp hts w
theorem ss_setLc {i : Nat} {y : Str} {py spos : Pos} {elt iter : Expr} {ifs : List Expr} {scope : Scope} {own : List (Str × Nat)} {vs : List Nat} {L : LF} {h : GF} {ts : List Nat} {k : PEnv → Option Bool} {el : PF} (hc : X.calm = true) (hyl : X.env.scope.names.lookup y = some .local)
    (hsw : swapsWith (.ListComp elt [⟨tg, iter, ifs, 0⟩] scope pos) (some (.Name y py)) spos.line X.env = pure true) (hN : X.N.Nodup) (hi : SIB X tg iter L) (ok : BlkOk X.N X.env.scope scope own)
    (hg : ∀ (s : Shared) (H : Hp) (C : Addr) (cl : List (Str × Addr)) (fp : List Addr), SG (X.blk s H scope (compEnvC scope cl C X.env) fp) tg h ts)
    (ht : ∀ (s : Shared) (H : Hp) (C : Addr) (cl : List (Str × Addr)) (fp : List Addr), PTs (X.blk s H scope (compEnvC scope cl C X.env) fp) ifs (tT X.K k))
    (he : ∀ (s : Shared) (H : Hp) (C : Addr) (cl : List (Str × Addr)) (fp : List Addr), SE (X.blk s H scope (compEnvC scope cl C X.env) fp) elt el)
    (hts : ∀ i ∈ ts, i ∈ vs) (hvs : own.map (·.2) = vs := by rfl) (hy : X.N[i]? = some y := by rfl) (hs : ∀ x, foldedSetIterable iter X.env x = pure x := by intro _; rfl) :
    SS X (.Assign [.Name y py] (.ListComp elt [⟨tg, iter, ifs, 0⟩] scope pos) spos) (sAsg (eComp L vs h k el) (gN i)) := by
  subst hvs
  exact ss_lc (ps_setLc hc hN hy hyl hsw hi ok hg ht he hs) fun _ _ _ w => set_of w fun _ w => lc_imp hts w
theorem ss_ownLc2 {i : Nat} {y : Str} {py spos : Pos} {elt iter tg1 iter1 : Expr} {ifs ifs1 : List Expr} {scope : Scope} {own : List (Str × Nat)} {vs vs1 : List Nat} {L L1 : LF} {h h1 : GF} {ts ts1 : List Nat} {k k1 : PEnv → Option Bool} {el : PF} (hc : X.calm = true) (hyl : X.env.scope.names.lookup y = some .local)
    (hsw : swapsWith (.ListComp elt [⟨tg, iter, ifs, 0⟩, ⟨tg1, iter1, ifs1, 0⟩] scope pos) (some (.Name y py)) spos.line X.env = pure true) (hN : X.N.Nodup) (hi : SIB X tg iter L) (ok : BlkOk X.N X.env.scope scope own) (hv : ∀ i ∈ vs1, i ∈ vs)
    (hg : ∀ (s : Shared) (H : Hp) (C : Addr) (cl : List (Str × Addr)) (fp : List Addr), SG (X.blk s H scope (compEnvC scope cl C X.env) fp) tg h ts)
    (ht : ∀ (s : Shared) (H : Hp) (C : Addr) (cl : List (Str × Addr)) (fp : List Addr), PTs (X.blk s H scope (compEnvC scope cl C X.env) fp) ifs (tT X.K k))
    (hi1 : ∀ (s : Shared) (H : Hp) (C : Addr) (cl : List (Str × Addr)) (fp : List Addr), SI (X.blk s H scope (compEnvC scope cl C X.env) fp) tg1 iter1 L1)
    (hg1 : ∀ (s : Shared) (H : Hp) (C : Addr) (cl : List (Str × Addr)) (fp : List Addr), SG (X.blk s H scope (compEnvC scope cl C X.env) fp) tg1 h1 ts1)
    (ht1 : ∀ (s : Shared) (H : Hp) (C : Addr) (cl : List (Str × Addr)) (fp : List Addr), PTs (X.blk s H scope (compEnvC scope cl C X.env) fp) ifs1 (tT X.K k1))
    (he : ∀ (s : Shared) (H : Hp) (C : Addr) (cl : List (Str × Addr)) (fp : List Addr), SE (X.blk s H scope (compEnvC scope cl C X.env) fp) elt el)
    (hts : ∀ i ∈ ts, i ∈ vs) (hts1 : ∀ i ∈ ts1, i ∈ vs1) (hvs : own.map (·.2) = vs := by rfl) (hy : X.N[i]? = some y := by rfl) (hs : ∀ x, foldedSetIterable iter X.env x = pure x := by intro _; rfl) (hs1 : ∀ env x, foldedSetIterable iter1 env x = pure x := by intro _ _; rfl) :
    SS X (.Assign [.Name y py] (.ListComp elt [⟨tg, iter, ifs, 0⟩, ⟨tg1, iter1, ifs1, 0⟩] scope pos) spos) (sOwn i (eComp2 L vs h k L1 vs1 h1 k1 el)) := by
  subst hvs
  exact ss_lc (ps_setLc2 hc hN hy hyl hsw hi ok hv hg ht hi1 hg1 ht1 he hs hs1) fun _ _ _ w => own_of w fun _ w => lc2_imp hts hts1 w
theorem ss_setLc2 {i : Nat} {y : Str} {py spos : Pos} {elt iter tg1 iter1 : Expr} {ifs ifs1 : List Expr} {scope : Scope} {own : List (Str × Nat)} {vs vs1 : List Nat} {L L1 : LF} {h h1 : GF} {ts ts1 : List Nat} {k k1 : PEnv → Option Bool} {el : PF} (hc : X.calm = true) (hyl : X.env.scope.names.lookup y = some .local)
    (hsw : swapsWith (.ListComp elt [⟨tg, iter, ifs, 0⟩, ⟨tg1, iter1, ifs1, 0⟩] scope pos) (some (.Name y py)) spos.line X.env = pure true) (hN : X.N.Nodup) (hi : SIB X tg iter L) (ok : BlkOk X.N X.env.scope scope own) (hv : ∀ i ∈ vs1, i ∈ vs)
    (hg : ∀ (s : Shared) (H : Hp) (C : Addr) (cl : List (Str × Addr)) (fp : List Addr), SG (X.blk s H scope (compEnvC scope cl C X.env) fp) tg h ts)
    (ht : ∀ (s : Shared) (H : Hp) (C : Addr) (cl : List (Str × Addr)) (fp : List Addr), PTs (X.blk s H scope (compEnvC scope cl C X.env) fp) ifs (tT X.K k))
    (hi1 : ∀ (s : Shared) (H : Hp) (C : Addr) (cl : List (Str × Addr)) (fp : List Addr), SI (X.blk s H scope (compEnvC scope cl C X.env) fp) tg1 iter1 L1)
    (hg1 : ∀ (s : Shared) (H : Hp) (C : Addr) (cl : List (Str × Addr)) (fp : List Addr), SG (X.blk s H scope (compEnvC scope cl C X.env) fp) tg1 h1 ts1)
    (ht1 : ∀ (s : Shared) (H : Hp) (C : Addr) (cl : List (Str × Addr)) (fp : List Addr), PTs (X.blk s H scope (compEnvC scope cl C X.env) fp) ifs1 (tT X.K k1))
    (he : ∀ (s : Shared) (H : Hp) (C : Addr) (cl : List (Str × Addr)) (fp : List Addr), SE (X.blk s H scope (compEnvC scope cl C X.env) fp) elt el)
    (hts : ∀ i ∈ ts, i ∈ vs) (hts1 : ∀ i ∈ ts1, i ∈ vs1) (hvs : own.map (·.2) = vs := by rfl) (hy : X.N[i]? = some y := by rfl) (hs : ∀ x, foldedSetIterable iter X.env x = pure x := by intro _; rfl) (hs1 : ∀ env x, foldedSetIterable iter1 env x = pure x := by intro _ _; rfl) :
    SS X (.Assign [.Name y py] (.ListComp elt [⟨tg, iter, ifs, 0⟩, ⟨tg1, iter1, ifs1, 0⟩] scope pos) spos) (sAsg (eComp2 L vs h k L1 vs1 h1 k1 el) (gN i)) := by
  subst hvs
  exact ss_lc (ps_setLc2 hc hN hy hyl hsw hi ok hv hg ht hi1 hg1 ht1 he hs hs1) fun _ _ _ w => set_of w fun _ w => lc2_imp hts hts1 w
end
/-- a def that calls itself: nothing is promised at depth 0 -/
theorem DefOk.zero {P : Program} {w : World} {mg : Str → Option Value} {base : Heap} {k : Nat} {x : Str} {n : Nat} {fn : List PV → Option PV} (D : DefOk P w K mg base k x n fn) (j : Nat) : DefOk P w K mg base j x n (fun _ => none) := by
  obtain ⟨f, fd, ps, h1, h2, h3, h4⟩ := D.ex
  exact ⟨f, fd, ps, h1, h2, h3, ⟨fun vs H Q E ⟨F, l, r, q1, q2, q3, q4, q5⟩ => (by cases q4), fun A outer s H args us vs Q E _ _ _ _ ⟨F, l, r, q1, q2, q3, q4, q5⟩ => (by cases q4)⟩⟩
theorem DefOk.none' {P : Program} {w : World} {mg : Str → Option Value} {base : Heap} {x : Str} {n : Nat} {f : Addr} {fd : FuncData} {ps : List Str} (hm : mg x = some (.ref f)) (kp : PySem.W.keepIn K (.ref f) = true) (hb : Binds K fd ps []) (j : Nat) : DefOk P w K mg base j x n (fun _ => none) :=
  ⟨f, fd, ps, hm, kp, hb, ⟨fun vs H Q E ⟨F, l, r, q1, q2, q3, q4, q5⟩ => (by cases q4), fun A outer s H args us vs Q E _ _ _ _ ⟨F, l, r, q1, q2, q3, q4, q5⟩ => (by cases q4)⟩⟩
end Pl

set_option Elab.async false
set_option linter.all false
set_option maxRecDepth 100000
set_option maxHeartbeats 4000000
namespace Wk
open PySem PySem.Spec PyProof.Rows L2 Pl
def top (i : Nat) : Stmt := PySem.Challenge.pw_dockheld_k01_whole_fenders_and_speeds.main.body.getD i (.Pass ⟨0, 0, 0, 0⟩)
/-! fender_stop -/
abbrev s_fender_stop : Stmt := top 1
abbrev N_fender_stop : List Str := ["table", "count", "weight", "speed", "press", "taken"]
theorem sc_fender_stop : FnScope N_fender_stop ["table", "count", "weight", "speed"] (defScope s_fender_stop) := ⟨rfl, rfl, rfl, by decide +kernel, rfl, by decide +kernel, by decide +kernel⟩
abbrev b_fender_stop : PSt := (sSeq (sFor (lEnum (eV 0)) (gT (gCons' (gN 4) (gCons' (gN 5) gNil'))) (sIf (cB (e2 pGe (e2 pMul (e2 pMul (eK (.int 2)) (eB 1)) (eB 5)) (e2 pMul (e2 pMul (eB 2) (eB 3)) (eB 3)))) (sRet (eV 4)) sNil)) (sRet (eK .none)))
theorem ok_fender_stop {P : Program} {w : World} {K : PySem.W.Frag} {mg : Str → Option Value} {base : Heap} {k : Nat} {f : Addr} {fd : FuncData} (F : FunD K "fender_stop" "fender_stop" (defArgs s_fender_stop) (defBody s_fender_stop) (defScope s_fender_stop) [] [] f fd) (hm : mg "fender_stop" = some (.ref f)) (m : BF mg) :
    DefOk P w K mg base (k + 1) "fender_stop" 4 (fnDef 6 (b_fender_stop)) :=
  have sc := sc_fender_stop
  DefOk.mk' F hm sc (fun _ _ _ _ _ _ us hl => match us, hl with | [_, _, _, _], _ => rfl) rfl rfl fun cdv A outer s H E hr =>
    (ss_cons (ss_for PassesOwn.never rfl (si_enum (by rfl) m.enumerate (se_var 0 (pv 0))) (sg_tup rfl (sgs_cons (sg_name (i := 4) sc.nd rfl (by first | exact .inl rfl | exact .inr rfl)) (sgs_cons (sg_name (i := 5) sc.nd rfl (by first | exact .inl rfl | exact .inr rfl)) sgs_nil)) (hl := (gCons_len (gCons_len gNil_len)))) (ss_one (ss_if (st_cmp (ck_ge hr.units) (sb_of (se_mul (sb_of (se_mul (sb_of se_int) (sb_var 1 (pv 1)))) (sb_var 5 (pv 5)))) (sb_of (se_mul (sb_of (se_mul (sb_var 2 (pv 2)) (sb_var 3 (pv 3)))) (sb_var 3 (pv 3)))) (nomark _)) (ss_one (ss_ret (se_var 4 (pv 4)))) ss_nil))) (ss_one (ss_ret se_non)))
/-! fenders_needed -/
abbrev s_fenders_needed : Stmt := top 2
abbrev N_fenders_needed : List Str := ["table", "press", "weight", "speed", "need", "taken"]
theorem sc_fenders_needed : FnScope N_fenders_needed ["table", "press", "weight", "speed"] (defScope s_fenders_needed) := ⟨rfl, rfl, rfl, by decide +kernel, rfl, by decide +kernel, by decide +kernel⟩
abbrev b_fenders_needed : PSt := (sSeq (sPar [4, 5] (mVal (e2 pMul (e2 pMul (eB 2) (eB 3)) (eB 3)) (mVal (e2 pIx (eB 0) (e2 pMin2 (eB 1) (e2 pSub (e1 pLen (eB 0)) (eK (.int 1))))) mNil))) (sSeq (sIf (cB (e2 pEq (eB 4) (eK (.int 0)))) (sRet (eK (.int 0))) sNil) (sRet (eIf (cB (e2 pEq (eB 5) (eK (.int 0)))) (eK .none) (e2 pDiv (e2 pSub (e2 pPlus (eB 4) (e2 pMul (eK (.int 2)) (eB 5))) (eK (.int 1))) (e2 pMul (eK (.int 2)) (eB 5)))))))
theorem ok_fenders_needed {P : Program} {w : World} {K : PySem.W.Frag} {mg : Str → Option Value} {base : Heap} {k : Nat} {f : Addr} {fd : FuncData} (F : FunD K "fenders_needed" "fenders_needed" (defArgs s_fenders_needed) (defBody s_fenders_needed) (defScope s_fenders_needed) [] [] f fd) (hm : mg "fenders_needed" = some (.ref f)) (m : BF mg) :
    DefOk P w K mg base (k + 1) "fenders_needed" 4 (fnDef 6 (b_fenders_needed)) :=
  have sc := sc_fenders_needed
  DefOk.mk' F hm sc (fun _ _ _ _ _ _ us hl => match us, hl with | [_, _, _, _], _ => rfl) rfl rfl fun cdv A outer s H E hr =>
    (ss_cons (ss_par2 (i := 4) (j := 5) rfl sc.nd rfl rfl (by decide) rfl rfl (sm_val (se_mul (sb_of (se_mul (sb_var 2 (pv 2)) (sb_var 3 (pv 3)))) (sb_var 3 (pv 3))) (sm_val (se_ix (sb_var 0 (pv 0)) (sb_of (se_min2 rfl (by rfl) m.min (sb_var 1 (pv 1)) (sb_of (se_sub (sb_of (se_len (by rfl) m.len (sb_var 0 (pv 0)))) (sb_of se_int))))) (fun _ _ => rfl)) sm_nil)) (by rfl)) (ss_cons (ss_if (st_cmp (ck_eq hr.units) (sb_var 4 (pv 4)) (sb_of se_int) (nomark _)) (ss_one (ss_ret se_int)) ss_nil) (ss_one (ss_ret (se_if (st_cmp (ck_eq hr.units) (sb_var 5 (pv 5)) (sb_of se_int) (nomark _)) se_non (se_div (sb_of (se_sub (sb_of (se_plus (sb_var 4 (pv 4)) (sb_of (se_mul (sb_of se_int) (sb_var 5 (pv 5)))))) (sb_of se_int))) (sb_of (se_mul (sb_of se_int) (sb_var 5 (pv 5))))))))))
/-! speed_most -/
abbrev s_speed_most : Stmt := top 3
abbrev N_speed_most : List Str := ["table", "count", "weight", "speed"]
theorem sc_speed_most : FnScope N_speed_most ["table", "count", "weight"] (defScope s_speed_most) := ⟨rfl, rfl, rfl, by decide +kernel, rfl, by decide +kernel, by decide +kernel⟩
abbrev b_speed_most : PSt := (sSeq (sAsg (eK (.int 0)) (gN 3)) (sSeq (sWhile wfuel (cB (e2 pLe (e2 pMul (e2 pMul (eB 2) (e2 pPlus (eB 3) (eK (.int 1)))) (e2 pPlus (eB 3) (eK (.int 1)))) (e2 pMul (e2 pMul (eK (.int 2)) (eB 1)) (e2 pIx (eB 0) (e1 pNeg (eK (.int 1))))))) (sAug 3 pAddI (eK (.int 1)))) (sRet (eV 3))))
theorem ok_speed_most {P : Program} {w : World} {K : PySem.W.Frag} {mg : Str → Option Value} {base : Heap} {k : Nat} {f : Addr} {fd : FuncData} (F : FunD K "speed_most" "speed_most" (defArgs s_speed_most) (defBody s_speed_most) (defScope s_speed_most) [] [] f fd) (hm : mg "speed_most" = some (.ref f)) (m : BF mg) :
    DefOk P w K mg base (k + 1) "speed_most" 3 (fnDef 4 (b_speed_most)) :=
  have sc := sc_speed_most
  DefOk.mk' F hm sc (fun _ _ _ _ _ _ us hl => match us, hl with | [_, _, _], _ => rfl) rfl rfl fun cdv A outer s H E hr =>
    (ss_cons (ss_set (i := 3) sc.nd rfl (.inl rfl) se_int) (ss_cons (ss_while wfuel PassesOwn.never (st_cmp (ck_le hr.units) (sb_of (se_mul (sb_of (se_mul (sb_var 2 (pv 2)) (sb_of (se_plus (sb_var 3 (pv 3)) (sb_of se_int))))) (sb_of (se_plus (sb_var 3 (pv 3)) (sb_of se_int))))) (sb_of (se_mul (sb_of (se_mul (sb_of se_int) (sb_var 1 (pv 1)))) (sb_of (se_ix (sb_var 0 (pv 0)) (sb_of (se_neg (sb_of se_int))) (fun _ _ => rfl))))) (nomark _)) (ss_one (ss_aug (i := 3) sc.nd rfl (.inl rfl) iop_add op2_addI se_int))) (ss_one (ss_ret (se_var 3 (pv 3))))))
/-! press_row -/
abbrev s_press_row : Stmt := top 4
abbrev N_press_row : List Str := ["table", "count", "weight", "speed"]
theorem sc_press_row : FnScope N_press_row ["table", "count", "weight"] (defScope s_press_row) := ⟨rfl, rfl, rfl, by decide +kernel, rfl, by decide +kernel, by decide +kernel⟩
abbrev b_press_row (fn_speed_most : List PV → Option PV) (fn_fender_stop : List PV → Option PV) : PSt := (sRet (e1 pTuple (eComp (lRng1 (e2 pPlus (eCall fn_speed_most (aCons (eV 0) (aCons (eV 1) (aCons (eV 2) aNil)))) (eK (.int 1)))) [3] (gN 3) cYes (eCall fn_fender_stop (aCons (eV 0) (aCons (eV 1) (aCons (eV 2) (aCons (eV 3) aNil))))))))
theorem ok_press_row {P : Program} {w : World} {K : PySem.W.Frag} {mg : Str → Option Value} {base : Heap} {k : Nat} {f : Addr} {fd : FuncData} {fn_speed_most : List PV → Option PV} {fn_fender_stop : List PV → Option PV} (F : FunD K "press_row" "press_row" (defArgs s_press_row) (defBody s_press_row) (defScope s_press_row) [] [] f fd) (hm : mg "press_row" = some (.ref f)) (m : BF mg) (d_speed_most : DefOk P w K mg base k "speed_most" 3 fn_speed_most) (d_fender_stop : DefOk P w K mg base k "fender_stop" 4 fn_fender_stop) :
    DefOk P w K mg base (k + 1) "press_row" 3 (fnDef 4 (b_press_row fn_speed_most fn_fender_stop)) :=
  have sc := sc_press_row
  DefOk.mk' F hm sc (fun _ _ _ _ _ _ us hl => match us, hl with | [_, _, _], _ => rfl) rfl rfl fun cdv A outer s H E hr =>
    (ss_one (ss_ret (se_tuple (by rfl) m.tuple (sb_ofF (sf_lc rfl sc.nd (sib_of (si_rng1 (by rfl) m.range (sb_of (se_plus (sb_of (se_call d_speed_most (rm hr) (by rfl) (sa_cons (se_var 0 (pv 0)) (sa_cons (se_var 1 (pv 1)) (sa_cons (se_var 2 (pv 2)) sa_nil))) (hlen := (aCons_len (aCons_len (aCons_len aNil_len)))))) (sb_of se_int))))) (blkOk_by (N := N_press_row) (sc := defScope s_press_row) (own := [("speed", 3)]) (by decide +kernel)) (fun _ _ _ _ _ => (sg_name (i := 3) sc.nd rfl (by first | exact .inl rfl | exact .inr rfl))) (fun _ _ _ _ _ => sts_nil) (fun _ _ _ _ _ => (se_call d_fender_stop (rm hr) (by rfl) (sa_cons (se_var 0 (pv 0)) (sa_cons (se_var 1 (pv 1)) (sa_cons (se_var 2 (pv 2)) (sa_cons (se_var 3 (pv 3)) sa_nil)))) (hlen := (aCons_len (aCons_len (aCons_len (aCons_len aNil_len))))))) (by decide))))))
/-! _law_mixed -/
abbrev s__law_mixed : Stmt := top 6
abbrev N__law_mixed : List Str := ["script", "k", "cell", "first", "second", "third"]
theorem sc__law_mixed : FnScope N__law_mixed ["script", "k"] (defScope s__law_mixed) := ⟨rfl, rfl, rfl, by decide +kernel, rfl, by decide +kernel, by decide +kernel⟩
abbrev b__law_mixed : PSt := (sSeq (sAsg (eK (.int 0)) (gN 2)) (sSeq (sIf (cB (e2 pGt (e1 pLen (eB 0)) (eK (.int 0)))) (sAsg (e2 pIx (eB 0) (e2 pMod (eB 1) (e1 pLen (eB 0)))) (gN 2)) sNil) (sSeq (sAsg (e2 pMod (e1 pInt (e2 pPlus (e2 pPlus (e2 pMul (eB 2) (eK (.int 48271))) (e2 pMul (eB 1) (eK (.int 69621)))) (eK (.int 8191)))) (eK (.int 2147483647))) (gN 3)) (sSeq (sAsg (e2 pMod (e1 pInt (e2 pPlus (e2 pPlus (e2 pMul (eB 3) (eB 3)) (e2 pDiv (eB 3) (eK (.int 7)))) (e2 pMul (eB 1) (eK (.int 16807))))) (eK (.int 2147483629))) (gN 4)) (sSeq (sAsg (e2 pMod (e1 pInt (e2 pPlus (e2 pPlus (e2 pMul (eB 4) (eB 4)) (e2 pDiv (eB 4) (eK (.int 11)))) (eK (.int 40692)))) (eK (.int 2147483563))) (gN 5)) (sRet (e2 pMod (e2 pDiv (eB 5) (eK (.int 5))) (eK (.int 1000003)))))))))
theorem ok__law_mixed {P : Program} {w : World} {K : PySem.W.Frag} {mg : Str → Option Value} {base : Heap} {k : Nat} {f : Addr} {fd : FuncData} (F : FunD K "_law_mixed" "_law_mixed" (defArgs s__law_mixed) (defBody s__law_mixed) (defScope s__law_mixed) [] [] f fd) (hm : mg "_law_mixed" = some (.ref f)) (m : BF mg) :
    DefOk P w K mg base (k + 1) "_law_mixed" 2 (fnDef 6 (b__law_mixed)) :=
  have sc := sc__law_mixed
  DefOk.mk' F hm sc (fun _ _ _ _ _ _ us hl => match us, hl with | [_, _], _ => rfl) rfl rfl fun cdv A outer s H E hr =>
    (ss_cons (ss_set (i := 2) sc.nd rfl (.inl rfl) se_int) (ss_cons (ss_if (st_cmp (ck_gt hr.units) (sb_of (se_len (by rfl) m.len (sb_var 0 (pv 0)))) (sb_of se_int) (nomark _)) (ss_one (ss_set (i := 2) sc.nd rfl (.inl rfl) (se_ix (sb_var 0 (pv 0)) (sb_of (se_mod (sb_var 1 (pv 1)) (sb_of (se_len (by rfl) m.len (sb_var 0 (pv 0)))))) (fun _ _ => rfl)))) ss_nil) (ss_cons (ss_set (i := 3) sc.nd rfl (.inl rfl) (se_mod (sb_of (se_intc (by rfl) m.int (sb_of (se_plus (sb_of (se_plus (sb_of (se_mul (sb_var 2 (pv 2)) (sb_of se_int))) (sb_of (se_mul (sb_var 1 (pv 1)) (sb_of se_int))))) (sb_of se_int))))) (sb_of se_int))) (ss_cons (ss_set (i := 4) sc.nd rfl (.inl rfl) (se_mod (sb_of (se_intc (by rfl) m.int (sb_of (se_plus (sb_of (se_plus (sb_of (se_mul (sb_var 3 (pv 3)) (sb_var 3 (pv 3)))) (sb_of (se_div (sb_var 3 (pv 3)) (sb_of se_int))))) (sb_of (se_mul (sb_var 1 (pv 1)) (sb_of se_int))))))) (sb_of se_int))) (ss_cons (ss_set (i := 5) sc.nd rfl (.inl rfl) (se_mod (sb_of (se_intc (by rfl) m.int (sb_of (se_plus (sb_of (se_plus (sb_of (se_mul (sb_var 4 (pv 4)) (sb_var 4 (pv 4)))) (sb_of (se_div (sb_var 4 (pv 4)) (sb_of se_int))))) (sb_of se_int))))) (sb_of se_int))) (ss_one (ss_ret (se_mod (sb_of (se_div (sb_var 5 (pv 5)) (sb_of se_int))) (sb_of se_int)))))))))
/-! _law_row -/
abbrev s__law_row : Stmt := top 7
abbrev N__law_row : List Str := ["script", "many", "big", "row", "k"]
theorem sc__law_row : FnScope N__law_row ["script", "many"] (defScope s__law_row) := ⟨rfl, rfl, rfl, by decide +kernel, rfl, by decide +kernel, by decide +kernel⟩
abbrev b__law_row (fn__law_mixed : List PV → Option PV) : PSt := (sSeq (sAsg (eK (.int 0)) (gN 2)) (sSeq (sIf (cAnd (cB (e2 pGt (e1 pLen (eB 0)) (eK (.int 0)))) (cB (e2 pGe (e2 pIx (eB 0) (eK (.int 0))) (e2 pPow (eK (.int 10)) (eK (.int 18)))))) (sAsg (e2 pIx (eB 0) (eK (.int 0))) (gN 2)) sNil) (sSeq (sOwn 3 (eCall pLst aNil)) (sSeq (sFor (lRng1 (eB 1)) (gN 4) (sIf (cB (e2 pGt (eB 2) (eK (.int 0)))) (sSeq (sApp 3 (e2 pMod (e1 pInt (eB 2)) (eK (.int 1000)))) (sAsg (e2 pDiv (eB 2) (eK (.int 1000))) (gN 2))) (sApp 3 (eCall fn__law_mixed (aCons (eV 0) (aCons (eV 4) aNil)))))) (sSeq (sFz 3) (sSeq (sRet (eV 3)) sNil))))))
theorem ok__law_row {P : Program} {w : World} {K : PySem.W.Frag} {mg : Str → Option Value} {base : Heap} {k : Nat} {f : Addr} {fd : FuncData} {fn__law_mixed : List PV → Option PV} (F : FunD K "_law_row" "_law_row" (defArgs s__law_row) (defBody s__law_row) (defScope s__law_row) [] [] f fd) (hm : mg "_law_row" = some (.ref f)) (m : BF mg) (d__law_mixed : DefOk P w K mg base k "_law_mixed" 2 fn__law_mixed) :
    DefOk P w K mg base (k + 1) "_law_row" 2 (fnDef 5 (b__law_row fn__law_mixed)) :=
  have sc := sc__law_row
  DefOk.mk' F hm sc (fun _ _ _ _ _ _ us hl => match us, hl with | [_, _], _ => rfl) rfl rfl fun cdv A outer s H E hr =>
    (ss_cons (ss_set (i := 2) sc.nd rfl (.inl rfl) se_int) (ss_cons (ss_if (st_w (sw_and (st_cmp (ck_gt hr.units) (sb_of (se_len (by rfl) m.len (sb_var 0 (pv 0)))) (sb_of se_int) (nomark _)) (sw_and1 (st_cmp (ck_ge hr.units) (sb_of (se_ix (sb_var 0 (pv 0)) (sb_of se_int) (fun _ _ => rfl))) (sb_of (se_pow (sb_of se_int) (sb_of se_int))) (nomark _))))) (ss_one (ss_set (i := 2) sc.nd rfl (.inl rfl) (se_ix (sb_var 0 (pv 0)) (sb_of se_int) (fun _ _ => rfl)))) ss_nil) (ss_cons (ss_own (i := 3) sc.nd rfl (.inl rfl) (sf_lst sa_nil)) (ss_cons (ss_for PassesOwn.never rfl (si_rng1 (by rfl) m.range (sb_var 1 (pv 1))) (sg_name (i := 4) sc.nd rfl (by first | exact .inl rfl | exact .inr rfl)) (ss_one (ss_if (st_cmp (ck_gt hr.units) (sb_var 2 (pv 2)) (sb_of se_int) (nomark _)) (ss_cons (ss_app (pv 3) (se_mod (sb_of (se_intc (by rfl) m.int (sb_var 2 (pv 2)))) (sb_of se_int))) (ss_one (ss_set (i := 2) sc.nd rfl (.inl rfl) (se_div (sb_var 2 (pv 2)) (sb_of se_int))))) (ss_one (ss_app (pv 3) (se_call d__law_mixed (rm hr) (by rfl) (sa_cons (se_var 0 (pv 0)) (sa_cons (se_var 4 (pv 4)) sa_nil)) (hlen := (aCons_len (aCons_len aNil_len))))))))) (ss_fz 3 (ss_cons (ss_ret (se_var 3 (pv 3))) ss_nil))))))
/-! _law_is_int -/
abbrev s__law_is_int : Stmt := top 8
abbrev N__law_is_int : List Str := ["value"]
theorem sc__law_is_int : FnScope N__law_is_int ["value"] (defScope s__law_is_int) := ⟨rfl, rfl, rfl, by decide +kernel, rfl, by decide +kernel, by decide +kernel⟩
abbrev b__law_is_int : PSt := (sRet (eAnd (e1 (pIsi "int") (eB 0)) (eNot (e1 (pIsi "bool") (eB 0)))))
theorem ok__law_is_int {P : Program} {w : World} {K : PySem.W.Frag} {mg : Str → Option Value} {base : Heap} {k : Nat} {f : Addr} {fd : FuncData} (F : FunD K "_law_is_int" "_law_is_int" (defArgs s__law_is_int) (defBody s__law_is_int) (defScope s__law_is_int) [] [] f fd) (hm : mg "_law_is_int" = some (.ref f)) (m : BF mg) :
    DefOk P w K mg base (k + 1) "_law_is_int" 1 (fnDef 1 (b__law_is_int)) :=
  have sc := sc__law_is_int
  DefOk.mk' F hm sc (fun _ _ _ _ _ _ us hl => match us, hl with | [_], _ => rfl) rfl rfl fun cdv A outer s H E hr =>
    (ss_one (ss_ret (se_and (se_isi (by rfl) m.isinstance (sb_var 0 (pv 0)) (pe_bltn (by rfl) m.int boot_int' rfl)) (se_one (se_not (se_isi (by rfl) m.isinstance (sb_var 0 (pv 0)) (pe_bltn (by rfl) m.bool boot_bool' rfl)))))))
/-! _law_like -/
abbrev s__law_like : Stmt := top 9
abbrev N__law_like : List Str := ["value", "due", "k"]
theorem sc__law_like : FnScope N__law_like ["value", "due"] (defScope s__law_like) := ⟨rfl, rfl, rfl, by decide +kernel, rfl, by decide +kernel, by decide +kernel⟩
abbrev b__law_like (fn__law_like : List PV → Option PV) (fn__law_is_int : List PV → Option PV) : PSt := (sSeq (sIf (cB (e1 pIsN (eB 1))) (sRet (e1 pIsN (eB 0))) sNil) (sSeq (sIf (cTru (e1 (pIsi "bool") (eB 1))) (sRet (eAnd (e1 (pIsi "bool") (eB 0)) (e2 pEq (eB 0) (eB 1)))) sNil) (sSeq (sIf (cTru (e1 (pIsi "tuple") (eB 1))) (sSeq (sIf (cOr (cNot (cTru (e1 (pIsi "tuple") (eB 0)))) (cB (e2 pNe (e1 pLen (eB 0)) (e1 pLen (eB 1))))) (sRet (eK (.bool false))) sNil) (sRet (e1 pAll (eComp (lRng1 (e1 pLen (eB 1))) [2] (gN 2) cYes (eCall fn__law_like (aCons (e2 pIx (eB 0) (eB 2)) (aCons (e2 pIx (eB 1) (eB 2)) aNil))))))) sNil) (sSeq (sIf (cTru (e1 (pIsi "str") (eB 1))) (sRet (eAnd (e1 (pIsi "str") (eB 0)) (e2 pEq (eB 0) (eB 1)))) sNil) (sRet (eAnd (eCall fn__law_is_int (aCons (eV 0) aNil)) (e2 pEq (eB 0) (eB 1))))))))
theorem ok__law_like {P : Program} {w : World} {K : PySem.W.Frag} {mg : Str → Option Value} {base : Heap} {k : Nat} {f : Addr} {fd : FuncData} {fn__law_like : List PV → Option PV} {fn__law_is_int : List PV → Option PV} (F : FunD K "_law_like" "_law_like" (defArgs s__law_like) (defBody s__law_like) (defScope s__law_like) [] [] f fd) (hm : mg "_law_like" = some (.ref f)) (m : BF mg) (d__law_like : DefOk P w K mg base k "_law_like" 2 fn__law_like) (d__law_is_int : DefOk P w K mg base k "_law_is_int" 1 fn__law_is_int) :
    DefOk P w K mg base (k + 1) "_law_like" 2 (fnDef 3 (b__law_like fn__law_like fn__law_is_int)) :=
  have sc := sc__law_like
  DefOk.mk' F hm sc (fun _ _ _ _ _ _ us hl => match us, hl with | [_, _], _ => rfl) rfl rfl fun cdv A outer s H E hr =>
    (ss_cons (ss_if (st_isN (sb_var 1 (pv 1))) (ss_one (ss_ret (se_isN (sb_var 0 (pv 0))))) ss_nil) (ss_cons (ss_if (st_tru (sb_of (se_isi (by rfl) m.isinstance (sb_var 1 (pv 1)) (pe_bltn (by rfl) m.bool boot_bool' rfl)))) (ss_one (ss_ret (se_and (se_isi (by rfl) m.isinstance (sb_var 0 (pv 0)) (pe_bltn (by rfl) m.bool boot_bool' rfl)) (se_one (se_cmp (ck_eq hr.units) (sb_var 0 (pv 0)) (sb_var 1 (pv 1)) (nomark _)))))) ss_nil) (ss_cons (ss_if (st_tru (sb_of (se_isi (by rfl) m.isinstance (sb_var 1 (pv 1)) (pe_bltn (by rfl) m.tuple boot_tuple' rfl)))) (ss_cons (ss_if (st_w (sw_or (st_not (st_tru (sb_of (se_isi (by rfl) m.isinstance (sb_var 0 (pv 0)) (pe_bltn (by rfl) m.tuple boot_tuple' rfl))))) (sw_or1 (st_cmp (ck_ne hr.units) (sb_of (se_len (by rfl) m.len (sb_var 0 (pv 0)))) (sb_of (se_len (by rfl) m.len (sb_var 1 (pv 1)))) (nomark _))))) (ss_one (ss_ret se_bl)) ss_nil) (ss_one (ss_ret (se_all rfl (by rfl) m.all (sb_ofF (sf_lc rfl sc.nd (sib_of (si_rng1 (by rfl) m.range (sb_of (se_len (by rfl) m.len (sb_var 1 (pv 1)))))) (blkOk_by (N := N__law_like) (sc := defScope s__law_like) (own := [("k", 2)]) (by decide +kernel)) (fun _ _ _ _ _ => (sg_name (i := 2) sc.nd rfl (by first | exact .inl rfl | exact .inr rfl))) (fun _ _ _ _ _ => sts_nil) (fun _ _ _ _ _ => (se_call d__law_like (rm hr) (by rfl) (sa_cons (se_ix (sb_var 0 (pv 0)) (sb_var 2 (pv 2)) (fun _ _ => rfl)) (sa_cons (se_ix (sb_var 1 (pv 1)) (sb_var 2 (pv 2)) (fun _ _ => rfl)) sa_nil)) (hlen := (aCons_len (aCons_len aNil_len))))) (by decide))))))) ss_nil) (ss_cons (ss_if (st_tru (sb_of (se_isi (by rfl) m.isinstance (sb_var 1 (pv 1)) (pe_bltn (by rfl) m.str boot_str' rfl)))) (ss_one (ss_ret (se_and (se_isi (by rfl) m.isinstance (sb_var 0 (pv 0)) (pe_bltn (by rfl) m.str boot_str' rfl)) (se_one (se_cmp (ck_eq hr.units) (sb_var 0 (pv 0)) (sb_var 1 (pv 1)) (nomark _)))))) ss_nil) (ss_one (ss_ret (se_and (se_call d__law_is_int (rm hr) (by rfl) (sa_cons (se_var 0 (pv 0)) sa_nil) (hlen := (aCons_len aNil_len))) (se_one (se_cmp (ck_eq hr.units) (sb_var 0 (pv 0)) (sb_var 1 (pv 1)) (nomark _))))))))))
/-! _law_stops -/
abbrev s__law_stops : Stmt := top 10
abbrev N__law_stops : List Str := ["taken", "count", "weight", "speed"]
theorem sc__law_stops : FnScope N__law_stops ["taken", "count", "weight", "speed"] (defScope s__law_stops) := ⟨rfl, rfl, rfl, by decide +kernel, rfl, by decide +kernel, by decide +kernel⟩
abbrev b__law_stops : PSt := (sRet (e2 pGe (e2 pMul (e2 pMul (eK (.int 2)) (eB 1)) (eB 0)) (e2 pMul (e2 pMul (eB 2) (eB 3)) (eB 3))))
theorem ok__law_stops {P : Program} {w : World} {K : PySem.W.Frag} {mg : Str → Option Value} {base : Heap} {k : Nat} {f : Addr} {fd : FuncData} (F : FunD K "_law_stops" "_law_stops" (defArgs s__law_stops) (defBody s__law_stops) (defScope s__law_stops) [] [] f fd) (hm : mg "_law_stops" = some (.ref f)) (m : BF mg) :
    DefOk P w K mg base (k + 1) "_law_stops" 4 (fnDef 4 (b__law_stops)) :=
  have sc := sc__law_stops
  DefOk.mk' F hm sc (fun _ _ _ _ _ _ us hl => match us, hl with | [_, _, _, _], _ => rfl) rfl rfl fun cdv A outer s H E hr =>
    (ss_one (ss_ret (se_cmp (ck_ge hr.units) (sb_of (se_mul (sb_of (se_mul (sb_of se_int) (sb_var 1 (pv 1)))) (sb_var 0 (pv 0)))) (sb_of (se_mul (sb_of (se_mul (sb_var 2 (pv 2)) (sb_var 3 (pv 3)))) (sb_var 3 (pv 3)))) (nomark _))))
/-! _law_press -/
abbrev s__law_press : Stmt := top 11
abbrev N__law_press : List Str := ["table", "count", "weight", "speed", "press"]
theorem sc__law_press : FnScope N__law_press ["table", "count", "weight", "speed"] (defScope s__law_press) := ⟨rfl, rfl, rfl, by decide +kernel, rfl, by decide +kernel, by decide +kernel⟩
abbrev b__law_press (fn__law_stops : List PV → Option PV) : PSt := (sSeq (sFor (lRng1 (e1 pLen (eB 0))) (gN 4) (sIf (cTru (eCall fn__law_stops (aCons (e2 pIx (eB 0) (eB 4)) (aCons (eV 1) (aCons (eV 2) (aCons (eV 3) aNil)))))) (sRet (eV 4)) sNil)) (sRet (eK .none)))
theorem ok__law_press {P : Program} {w : World} {K : PySem.W.Frag} {mg : Str → Option Value} {base : Heap} {k : Nat} {f : Addr} {fd : FuncData} {fn__law_stops : List PV → Option PV} (F : FunD K "_law_press" "_law_press" (defArgs s__law_press) (defBody s__law_press) (defScope s__law_press) [] [] f fd) (hm : mg "_law_press" = some (.ref f)) (m : BF mg) (d__law_stops : DefOk P w K mg base k "_law_stops" 4 fn__law_stops) :
    DefOk P w K mg base (k + 1) "_law_press" 4 (fnDef 5 (b__law_press fn__law_stops)) :=
  have sc := sc__law_press
  DefOk.mk' F hm sc (fun _ _ _ _ _ _ us hl => match us, hl with | [_, _, _, _], _ => rfl) rfl rfl fun cdv A outer s H E hr =>
    (ss_cons (ss_for PassesOwn.never rfl (si_rng1 (by rfl) m.range (sb_of (se_len (by rfl) m.len (sb_var 0 (pv 0))))) (sg_name (i := 4) sc.nd rfl (by first | exact .inl rfl | exact .inr rfl)) (ss_one (ss_if (st_tru (sb_of (se_call d__law_stops (rm hr) (by rfl) (sa_cons (se_ix (sb_var 0 (pv 0)) (sb_var 4 (pv 4)) (fun _ _ => rfl)) (sa_cons (se_var 1 (pv 1)) (sa_cons (se_var 2 (pv 2)) (sa_cons (se_var 3 (pv 3)) sa_nil)))) (hlen := (aCons_len (aCons_len (aCons_len (aCons_len aNil_len)))))))) (ss_one (ss_ret (se_var 4 (pv 4)))) ss_nil))) (ss_one (ss_ret se_non)))
/-! _law_needed -/
abbrev s__law_needed : Stmt := top 12
abbrev N__law_needed : List Str := ["taken", "weight", "speed", "many"]
theorem sc__law_needed : FnScope N__law_needed ["taken", "weight", "speed"] (defScope s__law_needed) := ⟨rfl, rfl, rfl, by decide +kernel, rfl, by decide +kernel, by decide +kernel⟩
abbrev b__law_needed (fn__law_stops : List PV → Option PV) : PSt := (sSeq (sIf (cB (e2 pEq (eB 2) (eK (.int 0)))) (sRet (eK (.int 0))) sNil) (sSeq (sIf (cB (e2 pEq (eB 0) (eK (.int 0)))) (sRet (eK .none)) sNil) (sSeq (sAsg (e2 pDiv (e2 pMul (e2 pMul (eB 1) (eB 2)) (eB 2)) (e2 pMul (eK (.int 2)) (eB 0))) (gN 3)) (sRet (e2 pPlus (eB 3) (e1 pInt (eNot (eCall fn__law_stops (aCons (eV 0) (aCons (eV 3) (aCons (eV 1) (aCons (eV 2) aNil))))))))))))
theorem ok__law_needed {P : Program} {w : World} {K : PySem.W.Frag} {mg : Str → Option Value} {base : Heap} {k : Nat} {f : Addr} {fd : FuncData} {fn__law_stops : List PV → Option PV} (F : FunD K "_law_needed" "_law_needed" (defArgs s__law_needed) (defBody s__law_needed) (defScope s__law_needed) [] [] f fd) (hm : mg "_law_needed" = some (.ref f)) (m : BF mg) (d__law_stops : DefOk P w K mg base k "_law_stops" 4 fn__law_stops) :
    DefOk P w K mg base (k + 1) "_law_needed" 3 (fnDef 4 (b__law_needed fn__law_stops)) :=
  have sc := sc__law_needed
  DefOk.mk' F hm sc (fun _ _ _ _ _ _ us hl => match us, hl with | [_, _, _], _ => rfl) rfl rfl fun cdv A outer s H E hr =>
    (ss_cons (ss_if (st_cmp (ck_eq hr.units) (sb_var 2 (pv 2)) (sb_of se_int) (nomark _)) (ss_one (ss_ret se_int)) ss_nil) (ss_cons (ss_if (st_cmp (ck_eq hr.units) (sb_var 0 (pv 0)) (sb_of se_int) (nomark _)) (ss_one (ss_ret se_non)) ss_nil) (ss_cons (ss_set (i := 3) sc.nd rfl (.inl rfl) (se_div (sb_of (se_mul (sb_of (se_mul (sb_var 1 (pv 1)) (sb_var 2 (pv 2)))) (sb_var 2 (pv 2)))) (sb_of (se_mul (sb_of se_int) (sb_var 0 (pv 0)))))) (ss_one (ss_ret (se_plus (sb_var 3 (pv 3)) (sb_of (se_intc (by rfl) m.int (sb_of (se_not (se_call d__law_stops (rm hr) (by rfl) (sa_cons (se_var 0 (pv 0)) (sa_cons (se_var 3 (pv 3)) (sa_cons (se_var 1 (pv 1)) (sa_cons (se_var 2 (pv 2)) sa_nil)))) (hlen := (aCons_len (aCons_len (aCons_len (aCons_len aNil_len))))))))))))))))
/-! law -/
abbrev s_law : Stmt := top 13
abbrev N_law : List Str := ["script", "row", "table", "now", "k", "count", "weight", "speed", "press", "most", "due", "rows", "need", "times", "faster"]
theorem sc_law : FnScope N_law ["script"] (defScope s_law) := ⟨rfl, rfl, rfl, by decide +kernel, rfl, by decide +kernel, by decide +kernel⟩
abbrev b_law (fn__law_row : List PV → Option PV) (fn__law_stops : List PV → Option PV) (fn__law_press : List PV → Option PV) (fn__law_like : List PV → Option PV) (fn_speed_most : List PV → Option PV) (fn_fender_stop : List PV → Option PV) (fn_press_row : List PV → Option PV) (fn__law_needed : List PV → Option PV) (fn_fenders_needed : List PV → Option PV) : PSt := (sSeq (sAsg (eCall fn__law_row (aCons (eV 0) (aCons (eK (.int 26)) aNil))) (gN 1)) (sSeq (sPar [2, 3] (mOwn (eCall pLst aNil) (mVal (e2 pMod (e1 pInt (e2 pIx (eB 1) (eK (.int 0)))) (eK (.int 5))) mNil))) (sSeq (sFor (lRng1 (e2 pPlus (eK (.int 2)) (e2 pMod (e1 pInt (e2 pIx (eB 1) (eK (.int 24)))) (eK (.int 8))))) (gN 4) (sSeq (sApp 2 (eV 3)) (sAsg (e2 pPlus (eB 3) (e2 pMod (e1 pInt (e2 pIx (eB 1) (e2 pPlus (eK (.int 2)) (eB 4)))) (e2 pIx (eCall pTup (aCons (eK (.int 4)) (aCons (eK (.int 30)) aNil))) (e2 pMod (e1 pInt (e2 pIx (eB 1) (eK (.int 11)))) (eK (.int 2)))))) (gN 3)))) (sSeq (sPar [2, 5, 6, 7] (mVal (e1 pTuple (eB 2)) (mVal (e2 pPlus (eK (.int 1)) (e2 pMod (e1 pInt (e2 pIx (eB 1) (eK (.int 12)))) (eK (.int 6)))) (mVal (e2 pPlus (eK (.int 1)) (e2 pMod (e1 pInt (e2 pIx (eB 1) (eK (.int 13)))) (eK (.int 9)))) (mVal (e2 pMod (e1 pInt (e2 pIx (eB 1) (eK (.int 14)))) (eK (.int 31))) mNil))))) (sSeq (sPar [8, 9] (mVal (e2 pMod (e1 pInt (e2 pIx (eB 1) (eK (.int 15)))) (e1 pLen (eB 2))) (mVal (eK (.int 0)) mNil))) (sSeq (sFor (lRng2 (eK (.int 1)) (eK (.int 80))) (gN 4) (sIf (cTru (eCall fn__law_stops (aCons (e2 pIx (eB 2) (e1 pNeg (eK (.int 1)))) (aCons (eV 5) (aCons (eV 6) (aCons (eV 4) aNil)))))) (sAsg (eV 4) (gN 9)) sNil)) (sSeq (sFz 2) (sSeq (sAsg (eCall fn__law_press (aCons (eV 2) (aCons (eV 5) (aCons (eV 6) (aCons (eV 7) aNil))))) (gN 10)) (sSeq (sFz 2) (sSeq (sIf (cNot (cTru (eCall fn__law_like (aCons (eCall pTup (aCons (eCall fn_fender_stop (aCons (eV 2) (aCons (eV 5) (aCons (eV 6) (aCons (eV 7) aNil))))) (aCons (eCall fn_speed_most (aCons (eV 2) (aCons (eV 5) (aCons (eV 6) aNil)))) aNil))) (aCons (eCall pTup (aCons (eV 10) (aCons (eV 9) aNil))) aNil))))) (sRet (eK (.bool false))) sNil) (sSeq (sFz 2) (sSeq (sAsg (e1 pTuple (eComp (lRng1 (e2 pPlus (eB 9) (eK (.int 1)))) [4] (gN 4) cYes (eCall fn__law_press (aCons (eV 2) (aCons (eV 5) (aCons (eV 6) (aCons (eV 4) aNil))))))) (gN 11)) (sSeq (sFz 2) (sSeq (sIf (cNot (cTru (eCall fn__law_like (aCons (eCall fn_press_row (aCons (eV 2) (aCons (eV 5) (aCons (eV 6) aNil)))) (aCons (eV 11) aNil))))) (sRet (eK (.bool false))) sNil) (sSeq (sAsg (eCall fn__law_needed (aCons (e2 pIx (eB 2) (eB 8)) (aCons (eV 6) (aCons (eV 7) aNil)))) (gN 12)) (sSeq (sFz 2) (sSeq (sIf (cNot (cTru (eCall fn__law_like (aCons (eCall fn_fenders_needed (aCons (eV 2) (aCons (eV 8) (aCons (eV 6) (aCons (eV 7) aNil))))) (aCons (eV 12) aNil))))) (sRet (eK (.bool false))) sNil) (sSeq (sIf (cAnd (cB (e1 pNotN (eB 12))) (cAnd (cB (e2 pGt (eB 12) (eK (.int 0)))) (cTru (eCall fn__law_stops (aCons (e2 pIx (eB 2) (eB 8)) (aCons (e2 pSub (eB 12) (eK (.int 1))) (aCons (eV 6) (aCons (eV 7) aNil)))))))) (sRet (eK (.bool false))) sNil) (sSeq (sFz 2) (sSeq (sIf (cNot (cTru (eCall fn__law_like (aCons (eCall fn_fenders_needed (aCons (eV 2) (aCons (eV 8) (aCons (eV 6) (aCons (eK (.int 0)) aNil))))) (aCons (eK (.int 0)) aNil))))) (sRet (eK (.bool false))) sNil) (sSeq (sFz 2) (sSeq (sIf (cNot (cTru (eCall fn__law_like (aCons (eCall fn_fender_stop (aCons (eV 2) (aCons (eV 5) (aCons (e2 pMul (eK (.int 4)) (eB 6)) (aCons (eV 7) aNil))))) (aCons (eCall fn__law_press (aCons (eV 2) (aCons (eV 5) (aCons (eV 6) (aCons (e2 pMul (eK (.int 2)) (eB 7)) aNil))))) aNil))))) (sRet (eK (.bool false))) sNil) (sSeq (sAsg (e2 pPlus (eK (.int 2)) (e2 pMod (e1 pInt (e2 pIx (eB 1) (eK (.int 16)))) (eK (.int 3)))) (gN 13)) (sSeq (sFz 2) (sSeq (sIf (cNot (cTru (eCall fn__law_like (aCons (eCall fn_fender_stop (aCons (eV 2) (aCons (e2 pMul (eB 13) (eB 5)) (aCons (e2 pMul (eB 13) (eB 6)) (aCons (eV 7) aNil))))) (aCons (eV 10) aNil))))) (sRet (eK (.bool false))) sNil) (sSeq (sFz 2) (sSeq (sIf (cNot (cTru (eCall fn__law_like (aCons (eCall fn_press_row (aCons (eV 2) (aCons (e2 pMul (eB 13) (eB 5)) (aCons (e2 pMul (eB 13) (eB 6)) aNil)))) (aCons (eV 11) aNil))))) (sRet (eK (.bool false))) sNil) (sSeq (sAsg (e2 pPlus (e2 pMul (eK (.int 2)) (eB 9)) (e1 pInt (eCall fn__law_stops (aCons (e2 pIx (eB 2) (e1 pNeg (eK (.int 1)))) (aCons (e2 pMul (eK (.int 4)) (eB 5)) (aCons (eV 6) (aCons (e2 pPlus (e2 pMul (eK (.int 2)) (eB 9)) (eK (.int 1))) aNil))))))) (gN 14)) (sSeq (sFz 2) (sSeq (sIf (cNot (cTru (eCall fn__law_like (aCons (eCall fn_speed_most (aCons (eV 2) (aCons (e2 pMul (eK (.int 4)) (eB 5)) (aCons (eV 6) aNil)))) (aCons (eV 14) aNil))))) (sRet (eK (.bool false))) sNil) (sSeq (sIf (cOr (cB (e1 pIsN (eB 12))) (cB (e2 pEq (eB 12) (eK (.int 0))))) (sRet (eOr (e2 pEq (eB 12) (eK (.int 0))) (eOr (e1 pIsN (eB 10)) (e2 pGt (eB 10) (eB 8))))) sNil) (sRet (e2 pEq (e2 pGe (eB 5) (eB 12)) (eAnd (e1 pNotN (eB 10)) (e2 pLe (eB 10) (eB 8))))))))))))))))))))))))))))))))))))
theorem bd_law {P : Program} {w : World} {K : PySem.W.Frag} {mg : Str → Option Value} {base : Heap} {k : Nat} {f : Addr} {fn__law_row : List PV → Option PV} {fn__law_stops : List PV → Option PV} {fn__law_press : List PV → Option PV} {fn__law_like : List PV → Option PV} {fn_speed_most : List PV → Option PV} {fn_fender_stop : List PV → Option PV} {fn_press_row : List PV → Option PV} {fn__law_needed : List PV → Option PV} {fn_fenders_needed : List PV → Option PV} (m : BF mg) (d__law_row : DefOk P w K mg base k "_law_row" 2 fn__law_row) (d__law_stops : DefOk P w K mg base k "_law_stops" 4 fn__law_stops) (d__law_press : DefOk P w K mg base k "_law_press" 4 fn__law_press) (d__law_like : DefOk P w K mg base k "_law_like" 2 fn__law_like) (d_speed_most : DefOk P w K mg base k "speed_most" 3 fn_speed_most) (d_fender_stop : DefOk P w K mg base k "fender_stop" 4 fn_fender_stop) (d_press_row : DefOk P w K mg base k "press_row" 3 fn_press_row) (d__law_needed : DefOk P w K mg base k "_law_needed" 3 fn__law_needed) (d_fenders_needed : DefOk P w K mg base k "fenders_needed" 4 fn_fenders_needed) {cdv : Value} {A : Around} {outer : List Env} {s : Shared} {H : Hp} {E : XK} (hr : Room k (A.deeper (envOfC "law" (defScope s_law) s.heap.objs.size f cdv))) :
    SSs (cxOf CX0 P w K mg base N_law "law" (defScope s_law) f cdv A outer s H E).nox (defBody s_law) (b_law fn__law_row fn__law_stops fn__law_press fn__law_like fn_speed_most fn_fender_stop fn_press_row fn__law_needed fn_fenders_needed) :=
  have sc := sc_law
  (ss_cons (ss_set (i := 1) sc.nd rfl (.inl rfl) (se_call d__law_row (rm hr) (by rfl) (sa_cons (se_var 0 (pv 0)) (sa_cons se_int sa_nil)) (hlen := (aCons_len (aCons_len aNil_len))))) (ss_cons (ss_parT rfl (sm_own (sf_lst sa_nil) (sm_val (se_mod (sb_of (se_intc (by rfl) m.int (sb_of (se_ix (sb_var 1 (pv 1)) (sb_of se_int) (fun _ _ => rfl))))) (sb_of se_int)) sm_nil)) (pns_cons (pg_name (i := 2) sc.nd rfl (.inr rfl)) (pns_cons (pg_name (i := 3) sc.nd rfl (.inl rfl)) pns_nil))) (ss_cons (ss_for PassesOwn.never rfl (si_rng1 (by rfl) m.range (sb_of (se_plus (sb_of se_int) (sb_of (se_mod (sb_of (se_intc (by rfl) m.int (sb_of (se_ix (sb_var 1 (pv 1)) (sb_of se_int) (fun _ _ => rfl))))) (sb_of se_int)))))) (sg_name (i := 4) sc.nd rfl (by first | exact .inl rfl | exact .inr rfl)) (ss_cons (ss_app (pv 2) (se_var 3 (pv 3))) (ss_one (ss_set (i := 3) sc.nd rfl (.inl rfl) (se_plus (sb_var 3 (pv 3)) (sb_of (se_mod (sb_of (se_intc (by rfl) m.int (sb_of (se_ix (sb_var 1 (pv 1)) (sb_of (se_plus (sb_of se_int) (sb_var 4 (pv 4)))) (fun _ _ => rfl))))) (sb_of (se_ix (sb_of (se_tup (sa_cons se_int (sa_cons se_int sa_nil)))) (sb_of (se_mod (sb_of (se_intc (by rfl) m.int (sb_of (se_ix (sb_var 1 (pv 1)) (sb_of se_int) (fun _ _ => rfl))))) (sb_of se_int))) (fun _ _ => rfl)))))))))) (ss_cons (ss_parT rfl (sm_val (se_tuple (by rfl) m.tuple (sb_var 2 (pv 2))) (sm_val (se_plus (sb_of se_int) (sb_of (se_mod (sb_of (se_intc (by rfl) m.int (sb_of (se_ix (sb_var 1 (pv 1)) (sb_of se_int) (fun _ _ => rfl))))) (sb_of se_int)))) (sm_val (se_plus (sb_of se_int) (sb_of (se_mod (sb_of (se_intc (by rfl) m.int (sb_of (se_ix (sb_var 1 (pv 1)) (sb_of se_int) (fun _ _ => rfl))))) (sb_of se_int)))) (sm_val (se_mod (sb_of (se_intc (by rfl) m.int (sb_of (se_ix (sb_var 1 (pv 1)) (sb_of se_int) (fun _ _ => rfl))))) (sb_of se_int)) sm_nil)))) (pns_cons (pg_name (i := 2) sc.nd rfl (.inr rfl)) (pns_cons (pg_name (i := 5) sc.nd rfl (.inr rfl)) (pns_cons (pg_name (i := 6) sc.nd rfl (.inr rfl)) (pns_cons (pg_name (i := 7) sc.nd rfl (.inl rfl)) pns_nil))))) (ss_cons (ss_par2 (i := 8) (j := 9) rfl sc.nd rfl rfl (by decide) rfl rfl (sm_val (se_mod (sb_of (se_intc (by rfl) m.int (sb_of (se_ix (sb_var 1 (pv 1)) (sb_of se_int) (fun _ _ => rfl))))) (sb_of (se_len (by rfl) m.len (sb_var 2 (pv 2))))) (sm_val se_int sm_nil)) (by rfl)) (ss_cons (ss_for PassesOwn.never rfl (si_rng2 (by rfl) m.range (sb_of se_int) (sb_of se_int)) (sg_name (i := 4) sc.nd rfl (by first | exact .inl rfl | exact .inr rfl)) (ss_one (ss_if (st_tru (sb_of (se_call d__law_stops (rm hr) (by rfl) (sa_cons (se_ix (sb_var 2 (pv 2)) (sb_of (se_neg (sb_of se_int))) (fun _ _ => rfl)) (sa_cons (se_var 5 (pv 5)) (sa_cons (se_var 6 (pv 6)) (sa_cons (se_var 4 (pv 4)) sa_nil)))) (hlen := (aCons_len (aCons_len (aCons_len (aCons_len aNil_len)))))))) (ss_one (ss_set (i := 9) sc.nd rfl (.inl rfl) (se_var 4 (pv 4)))) ss_nil))) (ss_fz 2 (ss_cons (ss_set (i := 10) sc.nd rfl (.inl rfl) (se_call d__law_press (rm hr) (by rfl) (sa_cons (se_var 2 (pv 2)) (sa_cons (se_var 5 (pv 5)) (sa_cons (se_var 6 (pv 6)) (sa_cons (se_var 7 (pv 7)) sa_nil)))) (hlen := (aCons_len (aCons_len (aCons_len (aCons_len aNil_len))))))) (ss_fz 2 (ss_cons (ss_if (st_not (st_tru (sb_of (se_call d__law_like (rm hr) (by rfl) (sa_cons (se_tup (sa_cons (se_call d_fender_stop (rm hr) (by rfl) (sa_cons (se_var 2 (pv 2)) (sa_cons (se_var 5 (pv 5)) (sa_cons (se_var 6 (pv 6)) (sa_cons (se_var 7 (pv 7)) sa_nil)))) (hlen := (aCons_len (aCons_len (aCons_len (aCons_len aNil_len)))))) (sa_cons (se_call d_speed_most (rm hr) (by rfl) (sa_cons (se_var 2 (pv 2)) (sa_cons (se_var 5 (pv 5)) (sa_cons (se_var 6 (pv 6)) sa_nil))) (hlen := (aCons_len (aCons_len (aCons_len aNil_len))))) sa_nil))) (sa_cons (se_tup (sa_cons (se_var 10 (pv 10)) (sa_cons (se_var 9 (pv 9)) sa_nil))) sa_nil)) (hlen := (aCons_len (aCons_len aNil_len))))))) (ss_one (ss_ret se_bl)) ss_nil) (ss_fz 2 (ss_cons (ss_set (i := 11) sc.nd rfl (.inl rfl) (se_tuple (by rfl) m.tuple (sb_ofF (sf_lc rfl sc.nd (sib_of (si_rng1 (by rfl) m.range (sb_of (se_plus (sb_var 9 (pv 9)) (sb_of se_int))))) (blkOk_by (N := N_law) (sc := defScope s_law) (own := [("k", 4)]) (by decide +kernel)) (fun _ _ _ _ _ => (sg_name (i := 4) sc.nd rfl (by first | exact .inl rfl | exact .inr rfl))) (fun _ _ _ _ _ => sts_nil) (fun _ _ _ _ _ => (se_call d__law_press (rm hr) (by rfl) (sa_cons (se_var 2 (pv 2)) (sa_cons (se_var 5 (pv 5)) (sa_cons (se_var 6 (pv 6)) (sa_cons (se_var 4 (pv 4)) sa_nil)))) (hlen := (aCons_len (aCons_len (aCons_len (aCons_len aNil_len))))))) (by decide))))) (ss_fz 2 (ss_cons (ss_if (st_not (st_tru (sb_of (se_call d__law_like (rm hr) (by rfl) (sa_cons (se_call d_press_row (rm hr) (by rfl) (sa_cons (se_var 2 (pv 2)) (sa_cons (se_var 5 (pv 5)) (sa_cons (se_var 6 (pv 6)) sa_nil))) (hlen := (aCons_len (aCons_len (aCons_len aNil_len))))) (sa_cons (se_var 11 (pv 11)) sa_nil)) (hlen := (aCons_len (aCons_len aNil_len))))))) (ss_one (ss_ret se_bl)) ss_nil) (ss_cons (ss_set (i := 12) sc.nd rfl (.inl rfl) (se_call d__law_needed (rm hr) (by rfl) (sa_cons (se_ix (sb_var 2 (pv 2)) (sb_var 8 (pv 8)) (fun _ _ => rfl)) (sa_cons (se_var 6 (pv 6)) (sa_cons (se_var 7 (pv 7)) sa_nil))) (hlen := (aCons_len (aCons_len (aCons_len aNil_len)))))) (ss_fz 2 (ss_cons (ss_if (st_not (st_tru (sb_of (se_call d__law_like (rm hr) (by rfl) (sa_cons (se_call d_fenders_needed (rm hr) (by rfl) (sa_cons (se_var 2 (pv 2)) (sa_cons (se_var 8 (pv 8)) (sa_cons (se_var 6 (pv 6)) (sa_cons (se_var 7 (pv 7)) sa_nil)))) (hlen := (aCons_len (aCons_len (aCons_len (aCons_len aNil_len)))))) (sa_cons (se_var 12 (pv 12)) sa_nil)) (hlen := (aCons_len (aCons_len aNil_len))))))) (ss_one (ss_ret se_bl)) ss_nil) (ss_cons (ss_if (st_w (sw_and (st_notN (sb_var 12 (pv 12))) (sw_and (st_cmp (ck_gt hr.units) (sb_var 12 (pv 12)) (sb_of se_int) (nomark _)) (sw_and1 (st_tru (sb_of (se_call d__law_stops (rm hr) (by rfl) (sa_cons (se_ix (sb_var 2 (pv 2)) (sb_var 8 (pv 8)) (fun _ _ => rfl)) (sa_cons (se_sub (sb_var 12 (pv 12)) (sb_of se_int)) (sa_cons (se_var 6 (pv 6)) (sa_cons (se_var 7 (pv 7)) sa_nil)))) (hlen := (aCons_len (aCons_len (aCons_len (aCons_len aNil_len)))))))))))) (ss_one (ss_ret se_bl)) ss_nil) (ss_fz 2 (ss_cons (ss_if (st_not (st_tru (sb_of (se_call d__law_like (rm hr) (by rfl) (sa_cons (se_call d_fenders_needed (rm hr) (by rfl) (sa_cons (se_var 2 (pv 2)) (sa_cons (se_var 8 (pv 8)) (sa_cons (se_var 6 (pv 6)) (sa_cons se_int sa_nil)))) (hlen := (aCons_len (aCons_len (aCons_len (aCons_len aNil_len)))))) (sa_cons se_int sa_nil)) (hlen := (aCons_len (aCons_len aNil_len))))))) (ss_one (ss_ret se_bl)) ss_nil) (ss_fz 2 (ss_cons (ss_if (st_not (st_tru (sb_of (se_call d__law_like (rm hr) (by rfl) (sa_cons (se_call d_fender_stop (rm hr) (by rfl) (sa_cons (se_var 2 (pv 2)) (sa_cons (se_var 5 (pv 5)) (sa_cons (se_mul (sb_of se_int) (sb_var 6 (pv 6))) (sa_cons (se_var 7 (pv 7)) sa_nil)))) (hlen := (aCons_len (aCons_len (aCons_len (aCons_len aNil_len)))))) (sa_cons (se_call d__law_press (rm hr) (by rfl) (sa_cons (se_var 2 (pv 2)) (sa_cons (se_var 5 (pv 5)) (sa_cons (se_var 6 (pv 6)) (sa_cons (se_mul (sb_of se_int) (sb_var 7 (pv 7))) sa_nil)))) (hlen := (aCons_len (aCons_len (aCons_len (aCons_len aNil_len)))))) sa_nil)) (hlen := (aCons_len (aCons_len aNil_len))))))) (ss_one (ss_ret se_bl)) ss_nil) (ss_cons (ss_set (i := 13) sc.nd rfl (.inl rfl) (se_plus (sb_of se_int) (sb_of (se_mod (sb_of (se_intc (by rfl) m.int (sb_of (se_ix (sb_var 1 (pv 1)) (sb_of se_int) (fun _ _ => rfl))))) (sb_of se_int))))) (ss_fz 2 (ss_cons (ss_if (st_not (st_tru (sb_of (se_call d__law_like (rm hr) (by rfl) (sa_cons (se_call d_fender_stop (rm hr) (by rfl) (sa_cons (se_var 2 (pv 2)) (sa_cons (se_mul (sb_var 13 (pv 13)) (sb_var 5 (pv 5))) (sa_cons (se_mul (sb_var 13 (pv 13)) (sb_var 6 (pv 6))) (sa_cons (se_var 7 (pv 7)) sa_nil)))) (hlen := (aCons_len (aCons_len (aCons_len (aCons_len aNil_len)))))) (sa_cons (se_var 10 (pv 10)) sa_nil)) (hlen := (aCons_len (aCons_len aNil_len))))))) (ss_one (ss_ret se_bl)) ss_nil) (ss_fz 2 (ss_cons (ss_if (st_not (st_tru (sb_of (se_call d__law_like (rm hr) (by rfl) (sa_cons (se_call d_press_row (rm hr) (by rfl) (sa_cons (se_var 2 (pv 2)) (sa_cons (se_mul (sb_var 13 (pv 13)) (sb_var 5 (pv 5))) (sa_cons (se_mul (sb_var 13 (pv 13)) (sb_var 6 (pv 6))) sa_nil))) (hlen := (aCons_len (aCons_len (aCons_len aNil_len))))) (sa_cons (se_var 11 (pv 11)) sa_nil)) (hlen := (aCons_len (aCons_len aNil_len))))))) (ss_one (ss_ret se_bl)) ss_nil) (ss_cons (ss_set (i := 14) sc.nd rfl (.inl rfl) (se_plus (sb_of (se_mul (sb_of se_int) (sb_var 9 (pv 9)))) (sb_of (se_intc (by rfl) m.int (sb_of (se_call d__law_stops (rm hr) (by rfl) (sa_cons (se_ix (sb_var 2 (pv 2)) (sb_of (se_neg (sb_of se_int))) (fun _ _ => rfl)) (sa_cons (se_mul (sb_of se_int) (sb_var 5 (pv 5))) (sa_cons (se_var 6 (pv 6)) (sa_cons (se_plus (sb_of (se_mul (sb_of se_int) (sb_var 9 (pv 9)))) (sb_of se_int)) sa_nil)))) (hlen := (aCons_len (aCons_len (aCons_len (aCons_len aNil_len))))))))))) (ss_fz 2 (ss_cons (ss_if (st_not (st_tru (sb_of (se_call d__law_like (rm hr) (by rfl) (sa_cons (se_call d_speed_most (rm hr) (by rfl) (sa_cons (se_var 2 (pv 2)) (sa_cons (se_mul (sb_of se_int) (sb_var 5 (pv 5))) (sa_cons (se_var 6 (pv 6)) sa_nil))) (hlen := (aCons_len (aCons_len (aCons_len aNil_len))))) (sa_cons (se_var 14 (pv 14)) sa_nil)) (hlen := (aCons_len (aCons_len aNil_len))))))) (ss_one (ss_ret se_bl)) ss_nil) (ss_cons (ss_if (st_w (sw_or (st_isN (sb_var 12 (pv 12))) (sw_or1 (st_cmp (ck_eq hr.units) (sb_var 12 (pv 12)) (sb_of se_int) (nomark _))))) (ss_one (ss_ret (se_or (se_cmp (ck_eq hr.units) (sb_var 12 (pv 12)) (sb_of se_int) (nomark _)) (se_or (se_isN (sb_var 10 (pv 10))) (se_one (se_cmp (ck_gt hr.units) (sb_var 10 (pv 10)) (sb_var 8 (pv 8)) (nomark _))))))) ss_nil) (ss_one (ss_ret (se_cmp (ck_eq hr.units) (sb_of (se_cmp (ck_ge hr.units) (sb_var 5 (pv 5)) (sb_var 12 (pv 12)) (nomark _))) (sb_of (se_and (se_notN (sb_var 10 (pv 10))) (se_one (se_cmp (ck_le hr.units) (sb_var 10 (pv 10)) (sb_var 8 (pv 8)) (nomark _))))) (nomark _)))))))))))))))))))))))))))))))))))
end Wk

set_option Elab.async false
set_option linter.all false
set_option maxRecDepth 100000
namespace Wk
open PySem PySem.Spec PyProof.Rows L2 Pl
def f_fender_stop : List PV → Option PV := fnDef 6 (b_fender_stop)
def f_fenders_needed : List PV → Option PV := fnDef 6 (b_fenders_needed)
def f_speed_most : List PV → Option PV := fnDef 4 (b_speed_most)
def f_press_row : List PV → Option PV := fnDef 4 (b_press_row f_speed_most f_fender_stop)
def f__law_mixed : List PV → Option PV := fnDef 6 (b__law_mixed)
def f__law_row : List PV → Option PV := fnDef 5 (b__law_row f__law_mixed)
def f__law_is_int : List PV → Option PV := fnDef 1 (b__law_is_int)
def g__law_like : Nat → List PV → Option PV
  | 0 => fun _ => none
  | d + 1 => fnDef 3 (b__law_like (g__law_like d) f__law_is_int)
abbrev f__law_like : List PV → Option PV := g__law_like 8
def f__law_stops : List PV → Option PV := fnDef 4 (b__law_stops)
def f__law_press : List PV → Option PV := fnDef 5 (b__law_press f__law_stops)
def f__law_needed : List PV → Option PV := fnDef 4 (b__law_needed f__law_stops)
def f_law : List PV → Option PV := fnDef 15 (b_law f__law_row f__law_stops f__law_press f__law_like f_speed_most f_fender_stop f_press_row f__law_needed f_fenders_needed)
end Wk

set_option Elab.async false
set_option linter.all false
set_option maxRecDepth 100000
set_option autoImplicit false
namespace Cm
open PySem PySem.Spec PyProof.Rows L2 Pl
/-! ### operations at ints -/
theorem mulOk_l {i j : Int} (h : i.natAbs < 2 ^ 63) : mulOk i j = true := by
  unfold mulOk
  rw [decide_eq_true h]
  rfl
theorem mulOk_r {i j : Int} (h : j.natAbs < 2 ^ 63) : mulOk i j = true := by
  unfold mulOk
  rw [decide_eq_true h, Bool.or_true]
theorem divOk_of {j : Int} (h : j.natAbs < 2 ^ 63) : divOk j = true := by
  unfold divOk
  apply decide_eq_true
  rcases Nat.eq_zero_or_pos j.natAbs with h0 | h0
  · rw [h0]; decide
  · have := (Nat.log2_lt (by omega)).2 h
    omega
theorem pPlus_i (i j : Int) : pPlus (.int i) (.int j) = some (.int (i + j)) := rfl
theorem pMul_i {i j : Int} (h : mulOk i j = true) : pMul (.int i) (.int j) = some (.int (i * j)) := if_pos h
theorem pDiv_i {i j : Int} (h : 0 < j) (h2 : j.natAbs < 2 ^ 63) : pDiv (.int i) (.int j) = some (.int (i / j)) := by
  unfold pDiv
  simp only [if_pos h, if_pos (divOk_of h2)]
theorem pMod_i {i j : Int} (h : 0 < j) : pMod (.int i) (.int j) = some (.int (i % j)) := if_pos h
theorem pEq_i (i j : Int) : pEq (.int i) (.int j) = some (.bool (decide (i = j))) := rfl
theorem pNe_i (i j : Int) : pNe (.int i) (.int j) = some (.bool (!decide (i = j))) := rfl
theorem pLt_i (i j : Int) : pLt (.int i) (.int j) = some (.bool (decide (i < j))) := rfl
theorem pLe_i (i j : Int) : pLe (.int i) (.int j) = some (.bool (decide (i ≤ j))) := rfl
theorem pGt_i (i j : Int) : pGt (.int i) (.int j) = some (.bool (decide (j < i))) := rfl
theorem pGe_i (i j : Int) : pGe (.int i) (.int j) = some (.bool (decide (j ≤ i))) := rfl
theorem szl : sizeLine = 16777216 := by decide
theorem pTup_s {l : List PV} (h : l.length ≤ 16777216) : pTup l = some (.tuple l) := if_pos (decide_eq_true (by rw [szl]; exact h))
theorem pLst_s {l : List PV} (h : l.length ≤ 16777216) : pLst l = some (.list l) := if_pos (decide_eq_true (by rw [szl]; exact h))
/-! equality of typed data -/
theorem pEq_sh {v w : PV} (hv : SeqAt.shaped v = true) (hw : SeqAt.shaped w = true) : pEq v w = some (.bool (PyData.eqv v w)) := by
  unfold pEq
  split
  · simp only [PyData.eqv]
    rw [PySem.W.beq_decide]
  · rw [if_pos ⟨hv, hw⟩]
theorem pNe_sh {v w : PV} (hv : SeqAt.shaped v = true) (hw : SeqAt.shaped w = true) : pNe v w = some (.bool (!PyData.eqv v w)) := by
  unfold pNe
  split
  · simp only [PyData.eqv]
    rw [PySem.W.beq_decide]
  · rw [if_pos ⟨hv, hw⟩]
class Dc (α : Type) [DecidableEq α] [PySem.W.Datum α] where
  can : ∀ a : α, (PySem.W.Datum.toD a).canLay0 = true
instance : Dc Int := ⟨fun _ => rfl⟩
instance : Dc Bool := ⟨fun _ => rfl⟩
instance : Dc Unit := ⟨fun _ => rfl⟩
section
variable {α β : Type} [DecidableEq α] [PySem.W.Datum α] [Dc α] [DecidableEq β] [PySem.W.Datum β] [Dc β]
theorem can_all : ∀ l : List α, PyData.canLayAll0 (l.map PySem.W.Datum.toD) = true
  | [] => rfl
  | x :: l => by rw [List.map_cons, PyData.canLayAll0, Dc.can, can_all l]; rfl
instance : Dc (List α) := ⟨fun l => by show PyData.canLay0 (.list _) = true; rw [PyData.canLay0]; exact can_all l⟩
instance : Dc (PySem.W.Tup α) := ⟨fun l => by show PyData.canLay0 (.tuple _) = true; rw [PyData.canLay0]; exact can_all l.items⟩
instance : Dc (α × β) := ⟨fun l => by show PyData.canLay0 (.tuple [_, _]) = true; simp only [PyData.canLay0, PyData.canLayAll0, Dc.can]; rfl⟩
theorem sh_D (a : α) (h : PySem.W.Datum.depth α ≤ 64) : SeqAt.shaped (PySem.W.Datum.toD a) = true := by
  unfold SeqAt.shaped
  rw [Dc.can, Bool.true_and]
  exact decide_eq_true (Nat.le_trans (PySem.W.Datum.depth_le a) h)
theorem pEq_D (a b : α) (h : PySem.W.Datum.depth α ≤ 64) : pEq (PySem.W.Datum.toD a) (PySem.W.Datum.toD b) = some (.bool (decide (a = b))) := by
  rw [pEq_sh (sh_D a h) (sh_D b h), PySem.W.Datum.eqv]
theorem pNe_D (a b : α) (h : PySem.W.Datum.depth α ≤ 64) : pNe (PySem.W.Datum.toD a) (PySem.W.Datum.toD b) = some (.bool (!decide (a = b))) := by
  rw [pNe_sh (sh_D a h) (sh_D b h), PySem.W.Datum.eqv]
end
theorem sh_str {s : Str} (h : PyData.strOk s = true) : SeqAt.shaped (.str s) = true := by
  unfold SeqAt.shaped
  rw [PyData.canLay0, h, Bool.true_and]
  exact decide_eq_true (Nat.le_trans (PySem.W.Datum.depth_le s) (Nat.zero_le _))
theorem pEq_str {s t : Str} (h : PyData.strOk s = true) (h' : PyData.strOk t = true) : pEq (.str s) (.str t) = some (.bool (decide (s = t))) := (pEq_sh (sh_str h) (sh_str h')).trans (congrArg (fun b => some (PyData.bool b)) (PySem.W.Datum.eqv s t))
theorem pEq_bool (a b : Bool) : pEq (.bool a) (.bool b) = some (.bool (decide (a = b))) := pEq_D a b (Nat.zero_le _)
theorem pNe_bool (a b : Bool) : pNe (.bool a) (.bool b) = some (.bool (!decide (a = b))) := pNe_D a b (Nat.zero_le _)
/-! lists of ints -/
abbrev iL (l : List Int) : PV := .list (l.map PyData.int)
abbrev iT (l : List Int) : PV := .tuple (l.map PyData.int)
theorem atI_nat {α : Type} {l : List α} {i : Int} {x : α} (h0 : 0 ≤ i) (h : l[i.toNat]? = some x) : atI l i = some x := by
  obtain ⟨n, rfl⟩ := Int.eq_ofNat_of_zero_le h0
  have hn : n < l.length := by
    rcases Nat.lt_or_ge n l.length with h' | h'
    · exact h'
    · rw [Int.toNat_natCast, List.getElem?_eq_none h'] at h; cases h
  rw [Int.toNat_natCast] at h
  unfold atI ixN
  simp only [hn, Int.natCast_nonneg]
  first
  | (simp only [if_pos (show ((n : Int) < (l.length : Int)) by omega)]; simpa using h)
  | (simp; exact h)
theorem atI_neg1 {α : Type} {l : List α} {x : α} (h : l.getLast? = some x) : atI l (-1) = some x := by
  have hl : l ≠ [] := fun e => by rw [e] at h; cases h
  have hp : 0 < l.length := List.length_pos_iff.2 hl
  unfold atI ixN
  rw [if_neg (by decide), if_pos (by omega)]
  rw [List.getLast?_eq_getElem?] at h
  show l[((-1 : Int) + l.length).toNat]? = some x
  rw [show ((-1 : Int) + l.length).toNat = l.length - 1 by omega]
  exact h
theorem ix_t {l : List Int} {i : Int} (h0 : 0 ≤ i) (h1 : i < l.length) : pIx (iT l) (.int i) = some (.int (l.getD i.toNat 0)) := by
  have e : i.toNat < l.length := by omega
  refine atI_nat h0 ?_
  rw [List.getElem?_map, List.getElem?_eq_getElem e, List.getD_eq_getElem?_getD, List.getElem?_eq_getElem e]
  rfl
theorem ix_l {l : List Int} {i : Int} (h0 : 0 ≤ i) (h1 : i < l.length) : pIx (iL l) (.int i) = some (.int (l.getD i.toNat 0)) := ix_t (l := l) h0 h1
theorem ix_t1 {l : List Int} (h : l ≠ []) : pIx (iT l) (.int (-1)) = some (.int (l.getLastD 0)) := by
  refine atI_neg1 ?_
  rw [List.getLast?_map]
  cases l with
  | nil => exact absurd rfl h
  | cons a r => rw [List.getLast?_cons, List.getLastD_cons, List.getLastD_eq_getLast?]; rfl
theorem ix_l1 {l : List Int} (h : l ≠ []) : pIx (iL l) (.int (-1)) = some (.int (l.getLastD 0)) := ix_t1 h
/-! ### statements -/
theorem sq_nx {a b : PSt} {ρ ρ' : PEnv} {r : Option Fl} (h : a ρ = some (.nx ρ')) (h2 : b ρ' = r) : sSeq a b ρ = r := by
  unfold sSeq
  rw [h]
  exact h2
theorem sq_rt {a b : PSt} {ρ : PEnv} {v : PV} (h : a ρ = some (.ret v)) : sSeq a b ρ = some (.ret v) := by
  unfold sSeq
  rw [h]
  rfl
theorem if_t {c : PEnv → Option Bool} {a b : PSt} {ρ : PEnv} {r : Option Fl} (h : c ρ = some true) (h2 : a ρ = r) : sIf c a b ρ = r := by
  unfold sIf
  rw [h]
  exact h2
theorem if_f {c : PEnv → Option Bool} {a b : PSt} {ρ : PEnv} {r : Option Fl} (h : c ρ = some false) (h2 : b ρ = r) : sIf c a b ρ = r := by
  unfold sIf
  rw [h]
  exact h2
theorem fn_rt {n : Nat} {b : PSt} {l : List PV} {v : PV} (h : b (startE n l) = some (.ret v)) : fnDef n b l = some v := by
  unfold fnDef
  rw [h]
  rfl
/-! loops -/
theorem lp_inv {α β : Type} {h : GF} {b : PSt} (enc : α → PV) (f : β → α → β) (Inv : β → PEnv → Prop) : ∀ (l : List α), (∀ a ∈ l, ∀ s ρ, Inv s ρ → ∃ ρ1 ρ2, h (enc a) ρ = some ρ1 ∧ b ρ1 = some (.nx ρ2) ∧ Inv (f s a) ρ2) → ∀ (s : β) (ρ : PEnv), Inv s ρ → ∃ ρ', loopF h b (l.map enc) ρ = some (.nx ρ') ∧ Inv (l.foldl f s) ρ'
  | [], _, s, ρ, i => ⟨ρ, rfl, i⟩
  | a :: l, st, s, ρ, i => by
    obtain ⟨ρ1, ρ2, e1, e2, i2⟩ := st a (List.mem_cons_self ..) s ρ i
    obtain ⟨ρ', e, i'⟩ := lp_inv enc f Inv l (fun a ha => st a (List.mem_cons_of_mem _ ha)) _ _ i2
    refine ⟨ρ', ?_, i'⟩
    rw [List.map_cons, loopF, e1, Option.bind_some, e2, Option.bind_some]
    exact e
/-- a loop that gives an answer at the first place of P -/
theorem lp_find {α : Type} {h : GF} {b : PSt} (enc : α → PV) (P : α → Bool) (g : α → PV) (Inv : PEnv → Prop) : ∀ (l : List α), (∀ a ∈ l, ∀ ρ, Inv ρ → ∃ ρ1, h (enc a) ρ = some ρ1 ∧ if P a = true then b ρ1 = some (.ret (g a)) else ∃ ρ2, b ρ1 = some (.nx ρ2) ∧ Inv ρ2) → ∀ (ρ : PEnv), Inv ρ → (∃ a, l.find? P = some a ∧ loopF h b (l.map enc) ρ = some (.ret (g a))) ∨ (l.find? P = none ∧ ∃ ρ', loopF h b (l.map enc) ρ = some (.nx ρ') ∧ Inv ρ')
  | [], _, ρ, i => .inr ⟨rfl, ρ, rfl, i⟩
  | a :: l, st, ρ, i => by
    obtain ⟨ρ1, e1, e2⟩ := st a (List.mem_cons_self ..) ρ i
    by_cases hp : P a = true
    · rw [if_pos hp] at e2
      refine .inl ⟨a, List.find?_cons_of_pos hp, ?_⟩
      rw [List.map_cons, loopF, e1, Option.bind_some, e2]
      rfl
    · rw [if_neg hp] at e2
      obtain ⟨ρ2, e2, i2⟩ := e2
      have q : loopF h b ((a :: l).map enc) ρ = loopF h b (l.map enc) ρ2 := by
        rw [List.map_cons, loopF, e1, Option.bind_some, e2]
        rfl
      rw [q, List.find?_cons_of_neg hp]
      exact lp_find enc P g Inv l (fun a ha => st a (List.mem_cons_of_mem _ ha)) _ i2
theorem lw_inv {c : PEnv → Option Bool} {b : PSt} {β : Type} (Inv : β → PEnv → Prop) (f : β → β) (P : β → Bool) (st : ∀ s ρ, Inv s ρ → c ρ = some (P s) ∧ (P s = true → ∃ ρ', b ρ = some (.nx ρ') ∧ Inv (f s) ρ')) : ∀ (k n : Nat) (s : β) (ρ : PEnv), (∀ j, j < k → P (Nat.repeat f j s) = true) → P (Nat.repeat f k s) = false → k < n → Inv s ρ → ∃ ρ', loopW c b n ρ = some (.nx ρ') ∧ Inv (Nat.repeat f k s) ρ' := by
  intro k
  induction k with
  | zero =>
    intro n s ρ _ hf hn i
    obtain ⟨n, rfl⟩ : ∃ m, n = m + 1 := ⟨n - 1, by omega⟩
    refine ⟨ρ, ?_, i⟩
    rw [loopW, (st s ρ i).1]
    change P s = false at hf
    rw [hf]
    rfl
  | succ k ih =>
    intro n s ρ ht hf hn i
    obtain ⟨n, rfl⟩ : ∃ m, n = m + 1 := ⟨n - 1, by omega⟩
    have sh : ∀ j, Nat.repeat f (j + 1) s = Nat.repeat f j (f s) := fun j => by
      induction j with
      | zero => rfl
      | succ j ih2 => rw [Nat.repeat, ih2, Nat.repeat]
    have h0 : P s = true := ht 0 (by omega)
    obtain ⟨ρ2, e2, i2⟩ := (st s ρ i).2 h0
    obtain ⟨ρ', e, i'⟩ := ih n (f s) ρ2 (fun j hj => by rw [← sh]; exact ht (j + 1) (by omega)) (by rw [← sh]; exact hf) (by omega) i2
    refine ⟨ρ', ?_, by rw [sh]; exact i'⟩
    rw [loopW, (st s ρ i).1, h0, Option.bind_some, if_pos rfl, e2]
    exact e
/-! comprehensions -/
theorem cp_map {α : Type} {h : GF} {c : PEnv → Option Bool} {e : PF} {ρ : PEnv} (enc : α → PV) (f : α → PV) : ∀ (l : List α), (∀ a ∈ l, ∃ ρ1, h (enc a) ρ = some ρ1 ∧ c ρ1 = some true ∧ e ρ1 = some (f a)) → compL h c e ρ (l.map enc) = some (l.map f)
  | [], _ => rfl
  | a :: l, st => by
    obtain ⟨ρ1, e1, e2, e3⟩ := st a (List.mem_cons_self ..)
    rw [List.map_cons, compL, e1, Option.bind_some, e2, Option.bind_some, if_pos rfl, e3, Option.bind_some, cp_map enc f l (fun a ha => st a (List.mem_cons_of_mem _ ha))]
    rfl
theorem cp_flt {α : Type} {h : GF} {c : PEnv → Option Bool} {e : PF} {ρ : PEnv} (enc : α → PV) (P : α → Bool) (f : α → PV) : ∀ (l : List α), (∀ a ∈ l, ∃ ρ1, h (enc a) ρ = some ρ1 ∧ c ρ1 = some (P a) ∧ (P a = true → e ρ1 = some (f a))) → compL h c e ρ (l.map enc) = some ((l.filter P).map f)
  | [], _ => rfl
  | a :: l, st => by
    obtain ⟨ρ1, e1, e2, e3⟩ := st a (List.mem_cons_self ..)
    have ih := cp_flt enc P f l (fun a ha => st a (List.mem_cons_of_mem _ ha))
    rw [List.map_cons, compL, e1, Option.bind_some, e2, Option.bind_some]
    by_cases hp : P a = true
    · rw [hp, if_pos rfl, e3 hp, Option.bind_some, ih, List.filter_cons_of_pos hp]
      rfl
    · rw [if_neg hp, ih, List.filter_cons_of_neg hp]
/-- [f(a) for a in L] -/
theorem ec_map {α : Type} {L : LF} {vs : List Nat} {h : GF} {c : PEnv → Option Bool} {e : PF} {ρ : PEnv} (enc : α → PV) (f : α → PV) {l : List α} (hL : L ρ = some (l.map enc)) (hn : l.length ≤ 16777216) (st : ∀ a ∈ l, ∃ ρ1, h (enc a) (wipeE ρ vs) = some ρ1 ∧ c ρ1 = some true ∧ e ρ1 = some (f a)) : eComp L vs h c e ρ = some (.list (l.map f)) := by
  unfold eComp
  rw [hL, Option.bind_some, cp_map enc f l st]
  exact pLst_s (by rw [List.length_map]; exact hn)
theorem ec_flt {α : Type} {L : LF} {vs : List Nat} {h : GF} {c : PEnv → Option Bool} {e : PF} {ρ : PEnv} (enc : α → PV) (P : α → Bool) (f : α → PV) {l : List α} (hL : L ρ = some (l.map enc)) (hn : l.length ≤ 16777216) (st : ∀ a ∈ l, ∃ ρ1, h (enc a) (wipeE ρ vs) = some ρ1 ∧ c ρ1 = some (P a) ∧ (P a = true → e ρ1 = some (f a))) : eComp L vs h c e ρ = some (.list ((l.filter P).map f)) := by
  unfold eComp
  rw [hL, Option.bind_some, cp_flt enc P f l st]
  exact pLst_s (by rw [List.length_map]; exact Nat.le_trans (List.length_filter_le ..) hn)
/-! ranges: over natural numbers -/
abbrev nI (n : Nat) : PV := .int n
theorem rg_1 {f : PF} {ρ : PEnv} {n : Int} (h : f ρ = some (.int n)) (h1 : n < 2 ^ 62) (h0 : -(2 ^ 62) ≤ n) : lRng1 f ρ = some ((List.range n.toNat).map nI) := by
  unfold lRng1
  rw [h, Option.bind_some]
  unfold pRng
  have ok : rOk 0 n = true := by
    unfold rOk
    simp only [Bool.and_eq_true, decide_eq_true_eq]
    omega
  simp only [toI, Option.bind_some, if_pos ok]
  unfold rng
  rw [List.map_map, Int.sub_zero]
  congr 1
  apply List.map_congr_left
  intro k _
  show PyData.int (0 + (k : Int)) = PyData.int k
  rw [Int.zero_add]
theorem rg_2 {f g : PF} {ρ : PEnv} {a b : Int} (h : f ρ = some (.int a)) (h' : g ρ = some (.int b)) (h0 : -(2 ^ 62) ≤ a) (h1 : a < 2 ^ 62) (h2 : -(2 ^ 62) ≤ b) (h3 : b < 2 ^ 62) : lRng2 f g ρ = some ((rng a b).map PyData.int) := by
  unfold lRng2
  rw [h, Option.bind_some, h', Option.bind_some]
  unfold pRng
  have ok : rOk a b = true := by
    unfold rOk
    simp only [Bool.and_eq_true, decide_eq_true_eq]
    omega
  simp only [toI, Option.bind_some, if_pos ok]
theorem mem_rng {a b x : Int} : x ∈ rng a b ↔ a ≤ x ∧ x < b := by
  unfold rng
  rw [List.mem_map]
  constructor
  · rintro ⟨k, hk, rfl⟩
    have := List.mem_range.1 hk
    omega
  · intro h
    exact ⟨(x - a).toNat, List.mem_range.2 (by omega), by omega⟩
/-! ### the row -/
abbrev b_mixed : PSt := (sSeq (sAsg (eK (.int 0)) (gN 2)) (sSeq (sIf (cB (e2 pGt (e1 pLen (eB 0)) (eK (.int 0)))) (sAsg (e2 pIx (eB 0) (e2 pMod (eB 1) (e1 pLen (eB 0)))) (gN 2)) sNil) (sSeq (sAsg (e2 pMod (e1 pInt (e2 pPlus (e2 pPlus (e2 pMul (eB 2) (eK (.int 48271))) (e2 pMul (eB 1) (eK (.int 69621)))) (eK (.int 8191)))) (eK (.int 2147483647))) (gN 3)) (sSeq (sAsg (e2 pMod (e1 pInt (e2 pPlus (e2 pPlus (e2 pMul (eB 3) (eB 3)) (e2 pDiv (eB 3) (eK (.int 7)))) (e2 pMul (eB 1) (eK (.int 16807))))) (eK (.int 2147483629))) (gN 4)) (sSeq (sAsg (e2 pMod (e1 pInt (e2 pPlus (e2 pPlus (e2 pMul (eB 4) (eB 4)) (e2 pDiv (eB 4) (eK (.int 11)))) (eK (.int 40692)))) (eK (.int 2147483563))) (gN 5)) (sRet (e2 pMod (e2 pDiv (eB 5) (eK (.int 5))) (eK (.int 1000003)))))))))
def f_mixed : List PV → Option PV := fnDef 6 b_mixed
theorem mixed_is (ns : List Int) (k : Nat) : ∃ r : Int, f_mixed [iL ns, nI k] = some (.int r) ∧ 0 ≤ r ∧ r < 1000003 := by
  suffices h : ∃ r : Int, b_mixed (startE 6 [iL ns, nI k]) = some (.ret (.int r)) ∧ 0 ≤ r ∧ r < 1000003 by
    obtain ⟨r, h1, h2⟩ := h
    exact ⟨r, fn_rt h1, h2⟩
  have rest : ∀ cell : Int, ∃ r : Int, (sSeq (sAsg (e2 pMod (e1 pInt (e2 pPlus (e2 pPlus (e2 pMul (eB 2) (eK (.int 48271))) (e2 pMul (eB 1) (eK (.int 69621)))) (eK (.int 8191)))) (eK (.int 2147483647))) (gN 3)) (sSeq (sAsg (e2 pMod (e1 pInt (e2 pPlus (e2 pPlus (e2 pMul (eB 3) (eB 3)) (e2 pDiv (eB 3) (eK (.int 7)))) (e2 pMul (eB 1) (eK (.int 16807))))) (eK (.int 2147483629))) (gN 4)) (sSeq (sAsg (e2 pMod (e1 pInt (e2 pPlus (e2 pPlus (e2 pMul (eB 4) (eB 4)) (e2 pDiv (eB 4) (eK (.int 11)))) (eK (.int 40692)))) (eK (.int 2147483563))) (gN 5)) (sRet (e2 pMod (e2 pDiv (eB 5) (eK (.int 5))) (eK (.int 1000003))))))) [.val (iL ns), .val (nI k), .val (.int cell), .un, .un, .un] = some (.ret (.int r)) ∧ 0 ≤ r ∧ r < 1000003 := by
    intro cell
    have m1 : ∀ j : Int, mulOk j 48271 = true := fun j => mulOk_r (by decide)
    have m2 : ∀ j : Int, mulOk j 69621 = true := fun j => mulOk_r (by decide)
    have m3 : ∀ j : Int, mulOk j 16807 = true := fun j => mulOk_r (by decide)
    have b1 : ∀ x : Int, (x % 2147483647).natAbs < 2 ^ 63 := fun x => by omega
    have b2 : ∀ x : Int, (x % 2147483629).natAbs < 2 ^ 63 := fun x => by omega
    refine ⟨_, by
      refine sq_nx (by simp only [eK, eV, eB, e1, e2, aNil, aCons, eCall, eIf, cB, cAnd, cOr, cNot, cYes, cTru, eAnd, eOr, eNot, eNotT, e3c, eSl, eSlL, oNone, oSome, toB, toI, toL, pTru, pIsN, pNotN, isNone, gN, gT, gCons', gNil', sNil, thenF, sRet, sBrk, sCnt, sAsg, sOwn, sAug, sApp, sFz, sPar, mVal, mOwn, mNil, setAllE, ownL, sIf, sSetI, lSeq, lRng1, lRng2, lEnum, wipeE, pLen, pInt, pAbs, pTuple, pList, pNeg, pSub, pAddI, pPlus_i, pMul_i, pDiv_i, pMod_i, pEq_i, pNe_i, pLt_i, pLe_i, pGt_i, pGe_i, pMin2, pMax2, pTup_s, pLst_s, outF, Option.bind_some, Option.bind_none, List.getElem?_cons_succ, List.getElem?_cons_zero, List.length_cons, List.length_nil, List.set_cons_succ, List.set_cons_zero, Nat.reduceAdd, Nat.reduceLT, Nat.reduceSub, Nat.lt_irrefl, if_true, if_false, ite_true, ite_false, reduceIte, ↓reduceIte, Bool.not_true, Bool.not_false, Bool.false_eq_true, decide_true, not_true_eq_false, not_false_eq_true, decide_false, decide_eq_true_eq, Bool.not_eq_true', decide_eq_false_iff_not, Bool.not_eq_eq_eq_not, m1, m2, (by decide : (0:Int) < 2147483647)]; rfl) ?_
      refine sq_nx (by simp only [eK, eV, eB, e1, e2, aNil, aCons, eCall, eIf, cB, cAnd, cOr, cNot, cYes, cTru, eAnd, eOr, eNot, eNotT, e3c, eSl, eSlL, oNone, oSome, toB, toI, toL, pTru, pIsN, pNotN, isNone, gN, gT, gCons', gNil', sNil, thenF, sRet, sBrk, sCnt, sAsg, sOwn, sAug, sApp, sFz, sPar, mVal, mOwn, mNil, setAllE, ownL, sIf, sSetI, lSeq, lRng1, lRng2, lEnum, wipeE, pLen, pInt, pAbs, pTuple, pList, pNeg, pSub, pAddI, pPlus_i, pMul_i, pDiv_i, pMod_i, pEq_i, pNe_i, pLt_i, pLe_i, pGt_i, pGe_i, pMin2, pMax2, pTup_s, pLst_s, outF, Option.bind_some, Option.bind_none, List.getElem?_cons_succ, List.getElem?_cons_zero, List.length_cons, List.length_nil, List.set_cons_succ, List.set_cons_zero, Nat.reduceAdd, Nat.reduceLT, Nat.reduceSub, Nat.lt_irrefl, if_true, if_false, ite_true, ite_false, reduceIte, ↓reduceIte, Bool.not_true, Bool.not_false, Bool.false_eq_true, decide_true, not_true_eq_false, not_false_eq_true, decide_false, decide_eq_true_eq, Bool.not_eq_true', decide_eq_false_iff_not, Bool.not_eq_eq_eq_not, m3, mulOk_l (b1 _), (by decide : (0:Int) < 2147483629), (by decide : (0:Int) < 7), (by decide : (7:Int).natAbs < 2^63)]; rfl) ?_
      refine sq_nx (by simp only [eK, eV, eB, e1, e2, aNil, aCons, eCall, eIf, cB, cAnd, cOr, cNot, cYes, cTru, eAnd, eOr, eNot, eNotT, e3c, eSl, eSlL, oNone, oSome, toB, toI, toL, pTru, pIsN, pNotN, isNone, gN, gT, gCons', gNil', sNil, thenF, sRet, sBrk, sCnt, sAsg, sOwn, sAug, sApp, sFz, sPar, mVal, mOwn, mNil, setAllE, ownL, sIf, sSetI, lSeq, lRng1, lRng2, lEnum, wipeE, pLen, pInt, pAbs, pTuple, pList, pNeg, pSub, pAddI, pPlus_i, pMul_i, pDiv_i, pMod_i, pEq_i, pNe_i, pLt_i, pLe_i, pGt_i, pGe_i, pMin2, pMax2, pTup_s, pLst_s, outF, Option.bind_some, Option.bind_none, List.getElem?_cons_succ, List.getElem?_cons_zero, List.length_cons, List.length_nil, List.set_cons_succ, List.set_cons_zero, Nat.reduceAdd, Nat.reduceLT, Nat.reduceSub, Nat.lt_irrefl, if_true, if_false, ite_true, ite_false, reduceIte, ↓reduceIte, Bool.not_true, Bool.not_false, Bool.false_eq_true, decide_true, not_true_eq_false, not_false_eq_true, decide_false, decide_eq_true_eq, Bool.not_eq_true', decide_eq_false_iff_not, Bool.not_eq_eq_eq_not, mulOk_l (b2 _), (by decide : (0:Int) < 2147483563), (by decide : (0:Int) < 11), (by decide : (11:Int).natAbs < 2^63)]; rfl) ?_
      simp only [eK, eV, eB, e1, e2, aNil, aCons, eCall, eIf, cB, cAnd, cOr, cNot, cYes, cTru, eAnd, eOr, eNot, eNotT, e3c, eSl, eSlL, oNone, oSome, toB, toI, toL, pTru, pIsN, pNotN, isNone, gN, gT, gCons', gNil', sNil, thenF, sRet, sBrk, sCnt, sAsg, sOwn, sAug, sApp, sFz, sPar, mVal, mOwn, mNil, setAllE, ownL, sIf, sSetI, lSeq, lRng1, lRng2, lEnum, wipeE, pLen, pInt, pAbs, pTuple, pList, pNeg, pSub, pAddI, pPlus_i, pMul_i, pDiv_i, pMod_i, pEq_i, pNe_i, pLt_i, pLe_i, pGt_i, pGe_i, pMin2, pMax2, pTup_s, pLst_s, outF, Option.bind_some, Option.bind_none, List.getElem?_cons_succ, List.getElem?_cons_zero, List.length_cons, List.length_nil, List.set_cons_succ, List.set_cons_zero, Nat.reduceAdd, Nat.reduceLT, Nat.reduceSub, Nat.lt_irrefl, if_true, if_false, ite_true, ite_false, reduceIte, ↓reduceIte, Bool.not_true, Bool.not_false, Bool.false_eq_true, decide_true, not_true_eq_false, not_false_eq_true, decide_false, decide_eq_true_eq, Bool.not_eq_true', decide_eq_false_iff_not, Bool.not_eq_eq_eq_not, (by decide : (0:Int) < 5), (by decide : (5:Int).natAbs < 2^63), (by decide : (0:Int) < 1000003)]; rfl, ?_⟩
    omega
  rcases Nat.eq_zero_or_pos ns.length with h0 | h0
  · obtain ⟨r, hr⟩ := rest 0
    refine ⟨r, ?_, hr.2⟩
    refine sq_nx (ρ' := [.val (iL ns), .val (nI k), .val (.int 0), .un, .un, .un]) rfl (sq_nx (if_f ?_ rfl) hr.1)
    simp [eK, eV, eB, e1, e2, aNil, aCons, eCall, eIf, cB, cAnd, cOr, cNot, cYes, cTru, eAnd, eOr, eNot, eNotT, e3c, eSl, eSlL, oNone, oSome, toB, toI, toL, pTru, pIsN, pNotN, isNone, gN, gT, gCons', gNil', sNil, thenF, sRet, sBrk, sCnt, sAsg, sOwn, sAug, sApp, sFz, sPar, mVal, mOwn, mNil, setAllE, ownL, sIf, sSetI, lSeq, lRng1, lRng2, lEnum, wipeE, pLen, pInt, pAbs, pTuple, pList, pNeg, pSub, pAddI, pPlus_i, pMul_i, pDiv_i, pMod_i, pEq_i, pNe_i, pLt_i, pLe_i, pGt_i, pGe_i, pMin2, pMax2, pTup_s, pLst_s, outF, Option.bind_some, Option.bind_none, List.getElem?_cons_succ, List.getElem?_cons_zero, List.length_cons, List.length_nil, List.set_cons_succ, List.set_cons_zero, Nat.reduceAdd, Nat.reduceLT, Nat.reduceSub, Nat.lt_irrefl, if_true, if_false, ite_true, ite_false, reduceIte, ↓reduceIte, Bool.not_true, Bool.not_false, Bool.false_eq_true, decide_true, not_true_eq_false, not_false_eq_true, decide_false, decide_eq_true_eq, Bool.not_eq_true', decide_eq_false_iff_not, Bool.not_eq_eq_eq_not, h0]
  · obtain ⟨r, hr⟩ := rest (ns.getD (k % ns.length) 0)
    refine ⟨r, ?_, hr.2⟩
    refine sq_nx (ρ' := [.val (iL ns), .val (nI k), .val (.int 0), .un, .un, .un]) rfl (sq_nx (if_t ?_ (r := some (.nx [.val (iL ns), .val (nI k), .val (.int (ns.getD (k % ns.length) 0)), .un, .un, .un])) ?_) hr.1)
    · simp [eK, eV, eB, e1, e2, aNil, aCons, eCall, eIf, cB, cAnd, cOr, cNot, cYes, cTru, eAnd, eOr, eNot, eNotT, e3c, eSl, eSlL, oNone, oSome, toB, toI, toL, pTru, pIsN, pNotN, isNone, gN, gT, gCons', gNil', sNil, thenF, sRet, sBrk, sCnt, sAsg, sOwn, sAug, sApp, sFz, sPar, mVal, mOwn, mNil, setAllE, ownL, sIf, sSetI, lSeq, lRng1, lRng2, lEnum, wipeE, pLen, pInt, pAbs, pTuple, pList, pNeg, pSub, pAddI, pPlus_i, pMul_i, pDiv_i, pMod_i, pEq_i, pNe_i, pLt_i, pLe_i, pGt_i, pGe_i, pMin2, pMax2, pTup_s, pLst_s, outF, Option.bind_some, Option.bind_none, List.getElem?_cons_succ, List.getElem?_cons_zero, List.length_cons, List.length_nil, List.set_cons_succ, List.set_cons_zero, Nat.reduceAdd, Nat.reduceLT, Nat.reduceSub, Nat.lt_irrefl, if_true, if_false, ite_true, ite_false, reduceIte, ↓reduceIte, Bool.not_true, Bool.not_false, Bool.false_eq_true, decide_true, not_true_eq_false, not_false_eq_true, decide_false, decide_eq_true_eq, Bool.not_eq_true', decide_eq_false_iff_not, Bool.not_eq_eq_eq_not, h0]
    · have hm : 0 < (ns.length : Int) := by omega
      have e : ((k : Int) % (ns.length : Int)) = ((k % ns.length : Nat) : Int) := (Int.natCast_emod k ns.length).symm
      have := ix_l (l := ns) (i := ((k % ns.length : Nat) : Int)) (by omega) (by have := Nat.mod_lt k h0; omega)
      rw [Int.toNat_natCast] at this
      simp only [eK, eV, eB, e1, e2, aNil, aCons, eCall, eIf, cB, cAnd, cOr, cNot, cYes, cTru, eAnd, eOr, eNot, eNotT, e3c, eSl, eSlL, oNone, oSome, toB, toI, toL, pTru, pIsN, pNotN, isNone, gN, gT, gCons', gNil', sNil, thenF, sRet, sBrk, sCnt, sAsg, sOwn, sAug, sApp, sFz, sPar, mVal, mOwn, mNil, setAllE, ownL, sIf, sSetI, lSeq, lRng1, lRng2, lEnum, wipeE, pLen, pInt, pAbs, pTuple, pList, pNeg, pSub, pAddI, pPlus_i, pMul_i, pDiv_i, pMod_i, pEq_i, pNe_i, pLt_i, pLe_i, pGt_i, pGe_i, pMin2, pMax2, pTup_s, pLst_s, outF, Option.bind_some, Option.bind_none, List.getElem?_cons_succ, List.getElem?_cons_zero, List.length_cons, List.length_nil, List.set_cons_succ, List.set_cons_zero, Nat.reduceAdd, Nat.reduceLT, Nat.reduceSub, Nat.lt_irrefl, if_true, if_false, ite_true, ite_false, reduceIte, ↓reduceIte, Bool.not_true, Bool.not_false, Bool.false_eq_true, decide_true, not_true_eq_false, not_false_eq_true, decide_false, decide_eq_true_eq, Bool.not_eq_true', decide_eq_false_iff_not, Bool.not_eq_eq_eq_not, List.length_map, hm, e, this]
abbrev b_row (fn__law_mixed : List PV → Option PV) : PSt := (sSeq (sAsg (eK (.int 0)) (gN 2)) (sSeq (sIf (cAnd (cB (e2 pGt (e1 pLen (eB 0)) (eK (.int 0)))) (cB (e2 pGe (e2 pIx (eB 0) (eK (.int 0))) (e2 pPow (eK (.int 10)) (eK (.int 18)))))) (sAsg (e2 pIx (eB 0) (eK (.int 0))) (gN 2)) sNil) (sSeq (sOwn 3 (eCall pLst aNil)) (sSeq (sFor (lRng1 (eB 1)) (gN 4) (sIf (cB (e2 pGt (eB 2) (eK (.int 0)))) (sSeq (sApp 3 (e2 pMod (e1 pInt (eB 2)) (eK (.int 1000)))) (sAsg (e2 pDiv (eB 2) (eK (.int 1000))) (gN 2))) (sApp 3 (eCall fn__law_mixed (aCons (eV 0) (aCons (eV 4) aNil)))))) (sSeq (sFz 3) (sSeq (sRet (eV 3)) sNil))))))
def f_row : List PV → Option PV := fnDef 5 (b_row f_mixed)
/-- all below the row's bound -/
def Rw (r : List Int) : Prop := ∀ x ∈ r, 0 ≤ x ∧ x < 1000003
def RwI (ns : List Int) (m : Nat) (k : Nat) (ρ : PEnv) : Prop := ∃ (big : Int) (r : List Int) (s : Slot), ρ = [.val (iL ns), .val (nI m), .val (.int big), .own (iL r), s] ∧ r.length = k ∧ Rw r
theorem row_rest (ns : List Int) (m : Nat) (hm : m ≤ 1000) (big : Int) : ∃ r : List Int, (sSeq (sOwn 3 (eCall pLst aNil)) (sSeq (sFor (lRng1 (eB 1)) (gN 4) (sIf (cB (e2 pGt (eB 2) (eK (.int 0)))) (sSeq (sApp 3 (e2 pMod (e1 pInt (eB 2)) (eK (.int 1000)))) (sAsg (e2 pDiv (eB 2) (eK (.int 1000))) (gN 2))) (sApp 3 (eCall f_mixed (aCons (eV 0) (aCons (eV 4) aNil)))))) (sSeq (sFz 3) (sSeq (sRet (eV 3)) sNil)))) [.val (iL ns), .val (nI m), .val (.int big), .un, .un] = some (.ret (iL r)) ∧ r.length = m ∧ Rw r := by
  have lp2 : ∀ (l : List Nat) (k : Nat) (ρ : PEnv), RwI ns m k ρ → k + l.length ≤ m → ∃ ρ', loopF (gN 4) (sIf (cB (e2 pGt (eB 2) (eK (.int 0)))) (sSeq (sApp 3 (e2 pMod (e1 pInt (eB 2)) (eK (.int 1000)))) (sAsg (e2 pDiv (eB 2) (eK (.int 1000))) (gN 2))) (sApp 3 (eCall f_mixed (aCons (eV 0) (aCons (eV 4) aNil))))) (l.map nI) ρ = some (.nx ρ') ∧ RwI ns m (k + l.length) ρ' := by
    intro l
    induction l with
    | nil => exact fun k ρ h _ => ⟨ρ, rfl, h⟩
    | cons a l ih =>
      rintro k ρ ⟨big, r, s, rfl, hr, hw⟩ hk
      rw [List.length_cons] at hk
      have hl : (r.length < sizeLine) = True := eq_true (by rw [szl]; omega)
      have st : ∃ ρ2, (sIf (cB (e2 pGt (eB 2) (eK (.int 0)))) (sSeq (sApp 3 (e2 pMod (e1 pInt (eB 2)) (eK (.int 1000)))) (sAsg (e2 pDiv (eB 2) (eK (.int 1000))) (gN 2))) (sApp 3 (eCall f_mixed (aCons (eV 0) (aCons (eV 4) aNil))))) [.val (iL ns), .val (nI m), .val (.int big), .own (iL r), .val (nI a)] = some (.nx ρ2) ∧ RwI ns m (k + 1) ρ2 := by
        by_cases hb : 0 < big
        · refine ⟨[.val (iL ns), .val (nI m), .val (.int (big / 1000)), .own (iL (r ++ [big % 1000])), .val (nI a)], ?_, _, _, _, rfl, ?_, ?_⟩
          · refine if_t (by simp only [eK, eV, eB, e1, e2, aNil, aCons, eCall, eIf, cB, cAnd, cOr, cNot, cYes, cTru, eAnd, eOr, eNot, eNotT, e3c, eSl, eSlL, oNone, oSome, toB, toI, toL, pTru, pIsN, pNotN, isNone, gN, gT, gCons', gNil', sNil, thenF, sRet, sBrk, sCnt, sAsg, sOwn, sAug, sApp, sFz, sPar, mVal, mOwn, mNil, setAllE, ownL, sIf, sSetI, lSeq, lRng1, lRng2, lEnum, wipeE, pLen, pInt, pAbs, pTuple, pList, pNeg, pSub, pAddI, pPlus_i, pMul_i, pDiv_i, pMod_i, pEq_i, pNe_i, pLt_i, pLe_i, pGt_i, pGe_i, pMin2, pMax2, pTup_s, pLst_s, outF, Option.bind_some, Option.bind_none, List.getElem?_cons_succ, List.getElem?_cons_zero, List.length_cons, List.length_nil, List.set_cons_succ, List.set_cons_zero, Nat.reduceAdd, Nat.reduceLT, Nat.reduceSub, Nat.lt_irrefl, if_true, if_false, ite_true, ite_false, reduceIte, ↓reduceIte, Bool.not_true, Bool.not_false, Bool.false_eq_true, decide_true, not_true_eq_false, not_false_eq_true, decide_false, decide_eq_true_eq, Bool.not_eq_true', decide_eq_false_iff_not, Bool.not_eq_eq_eq_not, hb]) (sq_nx (ρ' := [.val (iL ns), .val (nI m), .val (.int big), .own (iL (r ++ [big % 1000])), .val (nI a)]) ?_ ?_)
            · simp only [eK, eV, eB, e1, e2, aNil, aCons, eCall, eIf, cB, cAnd, cOr, cNot, cYes, cTru, eAnd, eOr, eNot, eNotT, e3c, eSl, eSlL, oNone, oSome, toB, toI, toL, pTru, pIsN, pNotN, isNone, gN, gT, gCons', gNil', sNil, thenF, sRet, sBrk, sCnt, sAsg, sOwn, sAug, sApp, sFz, sPar, mVal, mOwn, mNil, setAllE, ownL, sIf, sSetI, lSeq, lRng1, lRng2, lEnum, wipeE, pLen, pInt, pAbs, pTuple, pList, pNeg, pSub, pAddI, pPlus_i, pMul_i, pDiv_i, pMod_i, pEq_i, pNe_i, pLt_i, pLe_i, pGt_i, pGe_i, pMin2, pMax2, pTup_s, pLst_s, outF, Option.bind_some, Option.bind_none, List.getElem?_cons_succ, List.getElem?_cons_zero, List.length_cons, List.length_nil, List.set_cons_succ, List.set_cons_zero, Nat.reduceAdd, Nat.reduceLT, Nat.reduceSub, Nat.lt_irrefl, if_true, if_false, ite_true, ite_false, reduceIte, ↓reduceIte, Bool.not_true, Bool.not_false, Bool.false_eq_true, decide_true, not_true_eq_false, not_false_eq_true, decide_false, decide_eq_true_eq, Bool.not_eq_true', decide_eq_false_iff_not, Bool.not_eq_eq_eq_not, (by decide : (0:Int) < 1000), iL, List.length_map, hl, List.map_append, List.map_cons, List.map_nil]
            · simp only [eK, eV, eB, e1, e2, aNil, aCons, eCall, eIf, cB, cAnd, cOr, cNot, cYes, cTru, eAnd, eOr, eNot, eNotT, e3c, eSl, eSlL, oNone, oSome, toB, toI, toL, pTru, pIsN, pNotN, isNone, gN, gT, gCons', gNil', sNil, thenF, sRet, sBrk, sCnt, sAsg, sOwn, sAug, sApp, sFz, sPar, mVal, mOwn, mNil, setAllE, ownL, sIf, sSetI, lSeq, lRng1, lRng2, lEnum, wipeE, pLen, pInt, pAbs, pTuple, pList, pNeg, pSub, pAddI, pPlus_i, pMul_i, pDiv_i, pMod_i, pEq_i, pNe_i, pLt_i, pLe_i, pGt_i, pGe_i, pMin2, pMax2, pTup_s, pLst_s, outF, Option.bind_some, Option.bind_none, List.getElem?_cons_succ, List.getElem?_cons_zero, List.length_cons, List.length_nil, List.set_cons_succ, List.set_cons_zero, Nat.reduceAdd, Nat.reduceLT, Nat.reduceSub, Nat.lt_irrefl, if_true, if_false, ite_true, ite_false, reduceIte, ↓reduceIte, Bool.not_true, Bool.not_false, Bool.false_eq_true, decide_true, not_true_eq_false, not_false_eq_true, decide_false, decide_eq_true_eq, Bool.not_eq_true', decide_eq_false_iff_not, Bool.not_eq_eq_eq_not, (by decide : (0:Int) < 1000), (by decide : (1000:Int).natAbs < 2^63)]
          · rw [List.length_append, hr]; rfl
          · intro x hx
            rcases List.mem_append.1 hx with hx | hx
            · exact hw x hx
            · rw [List.mem_singleton] at hx
              omega
        · obtain ⟨v, hv, hv1, hv2⟩ := mixed_is ns a
          refine ⟨[.val (iL ns), .val (nI m), .val (.int big), .own (iL (r ++ [v])), .val (nI a)], ?_, _, _, _, rfl, ?_, ?_⟩
          · refine if_f (by simp only [eK, eV, eB, e1, e2, aNil, aCons, eCall, eIf, cB, cAnd, cOr, cNot, cYes, cTru, eAnd, eOr, eNot, eNotT, e3c, eSl, eSlL, oNone, oSome, toB, toI, toL, pTru, pIsN, pNotN, isNone, gN, gT, gCons', gNil', sNil, thenF, sRet, sBrk, sCnt, sAsg, sOwn, sAug, sApp, sFz, sPar, mVal, mOwn, mNil, setAllE, ownL, sIf, sSetI, lSeq, lRng1, lRng2, lEnum, wipeE, pLen, pInt, pAbs, pTuple, pList, pNeg, pSub, pAddI, pPlus_i, pMul_i, pDiv_i, pMod_i, pEq_i, pNe_i, pLt_i, pLe_i, pGt_i, pGe_i, pMin2, pMax2, pTup_s, pLst_s, outF, Option.bind_some, Option.bind_none, List.getElem?_cons_succ, List.getElem?_cons_zero, List.length_cons, List.length_nil, List.set_cons_succ, List.set_cons_zero, Nat.reduceAdd, Nat.reduceLT, Nat.reduceSub, Nat.lt_irrefl, if_true, if_false, ite_true, ite_false, reduceIte, ↓reduceIte, Bool.not_true, Bool.not_false, Bool.false_eq_true, decide_true, not_true_eq_false, not_false_eq_true, decide_false, decide_eq_true_eq, Bool.not_eq_true', decide_eq_false_iff_not, Bool.not_eq_eq_eq_not, hb]) ?_
            simp only [eK, eV, eB, e1, e2, aNil, aCons, eCall, eIf, cB, cAnd, cOr, cNot, cYes, cTru, eAnd, eOr, eNot, eNotT, e3c, eSl, eSlL, oNone, oSome, toB, toI, toL, pTru, pIsN, pNotN, isNone, gN, gT, gCons', gNil', sNil, thenF, sRet, sBrk, sCnt, sAsg, sOwn, sAug, sApp, sFz, sPar, mVal, mOwn, mNil, setAllE, ownL, sIf, sSetI, lSeq, lRng1, lRng2, lEnum, wipeE, pLen, pInt, pAbs, pTuple, pList, pNeg, pSub, pAddI, pPlus_i, pMul_i, pDiv_i, pMod_i, pEq_i, pNe_i, pLt_i, pLe_i, pGt_i, pGe_i, pMin2, pMax2, pTup_s, pLst_s, outF, Option.bind_some, Option.bind_none, List.getElem?_cons_succ, List.getElem?_cons_zero, List.length_cons, List.length_nil, List.set_cons_succ, List.set_cons_zero, Nat.reduceAdd, Nat.reduceLT, Nat.reduceSub, Nat.lt_irrefl, if_true, if_false, ite_true, ite_false, reduceIte, ↓reduceIte, Bool.not_true, Bool.not_false, Bool.false_eq_true, decide_true, not_true_eq_false, not_false_eq_true, decide_false, decide_eq_true_eq, Bool.not_eq_true', decide_eq_false_iff_not, Bool.not_eq_eq_eq_not, hv, iL, List.length_map, hl, List.map_append, List.map_cons, List.map_nil]
          · rw [List.length_append, hr]; rfl
          · intro x hx
            rcases List.mem_append.1 hx with hx | hx
            · exact hw x hx
            · rw [List.mem_singleton] at hx
              omega
      obtain ⟨ρ2, e2, i2⟩ := st
      obtain ⟨ρ', e', i'⟩ := ih (k + 1) ρ2 i2 (by omega)
      refine ⟨ρ', ?_, by rw [List.length_cons, show k + (l.length + 1) = k + 1 + l.length by omega]; exact i'⟩
      rw [List.map_cons, loopF]
      show (Option.bind (some [Slot.val (iL ns), .val (nI m), .val (.int big), .own (iL r), .val (nI a)]) _) = _
      rw [Option.bind_some, e2, Option.bind_some]
      exact e'
  obtain ⟨ρ', e', ⟨big', r, s, rfl, hr, hw⟩⟩ := lp2 (List.range m) 0 [.val (iL ns), .val (nI m), .val (.int big), .own (iL []), .un] ⟨big, [], .un, rfl, rfl, fun x hx => by cases hx⟩ (by rw [List.length_range]; omega)
  rw [List.length_range, Nat.zero_add] at hr
  refine ⟨r, ?_, hr, hw⟩
  refine sq_nx (ρ' := [.val (iL ns), .val (nI m), .val (.int big), .own (iL []), .un]) (by simp only [eK, eV, eB, e1, e2, aNil, aCons, eCall, eIf, cB, cAnd, cOr, cNot, cYes, cTru, eAnd, eOr, eNot, eNotT, e3c, eSl, eSlL, oNone, oSome, toB, toI, toL, pTru, pIsN, pNotN, isNone, gN, gT, gCons', gNil', sNil, thenF, sRet, sBrk, sCnt, sAsg, sOwn, sAug, sApp, sFz, sPar, mVal, mOwn, mNil, setAllE, ownL, sIf, sSetI, lSeq, lRng1, lRng2, lEnum, wipeE, pLen, pInt, pAbs, pTuple, pList, pNeg, pSub, pAddI, pPlus_i, pMul_i, pDiv_i, pMod_i, pEq_i, pNe_i, pLt_i, pLe_i, pGt_i, pGe_i, pMin2, pMax2, pTup_s, pLst_s, outF, Option.bind_some, Option.bind_none, List.getElem?_cons_succ, List.getElem?_cons_zero, List.length_cons, List.length_nil, List.set_cons_succ, List.set_cons_zero, Nat.reduceAdd, Nat.reduceLT, Nat.reduceSub, Nat.lt_irrefl, if_true, if_false, ite_true, ite_false, reduceIte, ↓reduceIte, Bool.not_true, Bool.not_false, Bool.false_eq_true, decide_true, not_true_eq_false, not_false_eq_true, decide_false, decide_eq_true_eq, Bool.not_eq_true', decide_eq_false_iff_not, Bool.not_eq_eq_eq_not, (by decide : (0 ≤ 16777216) = True), List.map_nil] <;> rfl) (sq_nx ?_ rfl (ρ' := [.val (iL ns), .val (nI m), .val (.int big'), .own (iL r), s]))
  unfold sFor
  rw [rg_1 (n := m) rfl (by omega) (by omega), Option.bind_some, Int.toNat_natCast]
  exact e'
theorem row_is (ns : List Int) (m : Nat) (hm : m ≤ 1000) : ∃ r : List Int, f_row [iL ns, nI m] = some (iL r) ∧ r.length = m ∧ Rw r := by
  suffices h : ∃ r : List Int, b_row f_mixed (startE 5 [iL ns, nI m]) = some (.ret (iL r)) ∧ r.length = m ∧ Rw r by
    obtain ⟨r, h1, h2⟩ := h
    exact ⟨r, fn_rt h1, h2⟩
  have st : ∃ big : Int, ∀ t, (sSeq (sIf (cAnd (cB (e2 pGt (e1 pLen (eB 0)) (eK (.int 0)))) (cB (e2 pGe (e2 pIx (eB 0) (eK (.int 0))) (e2 pPow (eK (.int 10)) (eK (.int 18)))))) (sAsg (e2 pIx (eB 0) (eK (.int 0))) (gN 2)) sNil) t) [.val (iL ns), .val (nI m), .val (.int 0), .un, .un] = t [.val (iL ns), .val (nI m), .val (.int big), .un, .un] := by
    cases ns with
    | nil => exact ⟨0, fun t => sq_nx (if_f rfl rfl) rfl⟩
    | cons n ns =>
      have p : pPow (.int 10) (.int 18) = some (.int 1000000000000000000)  := by simp [pPow]
      have hx : pIx (iL (n :: ns)) (.int 0) = some (.int n) := ix_l (l := n :: ns) (i := 0) (by decide) (by rw [List.length_cons]; omega)
      by_cases hn : (1000000000000000000 : Int) ≤ n
      · refine ⟨n, fun t => sq_nx (if_t ?_ (r := some (.nx [.val (iL (n :: ns)), .val (nI m), .val (.int n), .un, .un])) ?_) rfl⟩
        · simp only [eK, eV, eB, e1, e2, aNil, aCons, eCall, eIf, cB, cAnd, cOr, cNot, cYes, cTru, eAnd, eOr, eNot, eNotT, e3c, eSl, eSlL, oNone, oSome, toB, toI, toL, pTru, pIsN, pNotN, isNone, gN, gT, gCons', gNil', sNil, thenF, sRet, sBrk, sCnt, sAsg, sOwn, sAug, sApp, sFz, sPar, mVal, mOwn, mNil, setAllE, ownL, sIf, sSetI, lSeq, lRng1, lRng2, lEnum, wipeE, pLen, pInt, pAbs, pTuple, pList, pNeg, pSub, pAddI, pPlus_i, pMul_i, pDiv_i, pMod_i, pEq_i, pNe_i, pLt_i, pLe_i, pGt_i, pGe_i, pMin2, pMax2, pTup_s, pLst_s, outF, Option.bind_some, Option.bind_none, List.getElem?_cons_succ, List.getElem?_cons_zero, List.length_cons, List.length_nil, List.set_cons_succ, List.set_cons_zero, Nat.reduceAdd, Nat.reduceLT, Nat.reduceSub, Nat.lt_irrefl, if_true, if_false, ite_true, ite_false, reduceIte, ↓reduceIte, Bool.not_true, Bool.not_false, Bool.false_eq_true, decide_true, not_true_eq_false, not_false_eq_true, decide_false, decide_eq_true_eq, Bool.not_eq_true', decide_eq_false_iff_not, Bool.not_eq_eq_eq_not, hx, p, hn, List.length_map]
          simp <;> omega
        · simp only [eK, eV, eB, e1, e2, aNil, aCons, eCall, eIf, cB, cAnd, cOr, cNot, cYes, cTru, eAnd, eOr, eNot, eNotT, e3c, eSl, eSlL, oNone, oSome, toB, toI, toL, pTru, pIsN, pNotN, isNone, gN, gT, gCons', gNil', sNil, thenF, sRet, sBrk, sCnt, sAsg, sOwn, sAug, sApp, sFz, sPar, mVal, mOwn, mNil, setAllE, ownL, sIf, sSetI, lSeq, lRng1, lRng2, lEnum, wipeE, pLen, pInt, pAbs, pTuple, pList, pNeg, pSub, pAddI, pPlus_i, pMul_i, pDiv_i, pMod_i, pEq_i, pNe_i, pLt_i, pLe_i, pGt_i, pGe_i, pMin2, pMax2, pTup_s, pLst_s, outF, Option.bind_some, Option.bind_none, List.getElem?_cons_succ, List.getElem?_cons_zero, List.length_cons, List.length_nil, List.set_cons_succ, List.set_cons_zero, Nat.reduceAdd, Nat.reduceLT, Nat.reduceSub, Nat.lt_irrefl, if_true, if_false, ite_true, ite_false, reduceIte, ↓reduceIte, Bool.not_true, Bool.not_false, Bool.false_eq_true, decide_true, not_true_eq_false, not_false_eq_true, decide_false, decide_eq_true_eq, Bool.not_eq_true', decide_eq_false_iff_not, Bool.not_eq_eq_eq_not, hx]
      · refine ⟨0, fun t => sq_nx (if_f ?_ rfl) rfl⟩
        simp only [eK, eV, eB, e1, e2, aNil, aCons, eCall, eIf, cB, cAnd, cOr, cNot, cYes, cTru, eAnd, eOr, eNot, eNotT, e3c, eSl, eSlL, oNone, oSome, toB, toI, toL, pTru, pIsN, pNotN, isNone, gN, gT, gCons', gNil', sNil, thenF, sRet, sBrk, sCnt, sAsg, sOwn, sAug, sApp, sFz, sPar, mVal, mOwn, mNil, setAllE, ownL, sIf, sSetI, lSeq, lRng1, lRng2, lEnum, wipeE, pLen, pInt, pAbs, pTuple, pList, pNeg, pSub, pAddI, pPlus_i, pMul_i, pDiv_i, pMod_i, pEq_i, pNe_i, pLt_i, pLe_i, pGt_i, pGe_i, pMin2, pMax2, pTup_s, pLst_s, outF, Option.bind_some, Option.bind_none, List.getElem?_cons_succ, List.getElem?_cons_zero, List.length_cons, List.length_nil, List.set_cons_succ, List.set_cons_zero, Nat.reduceAdd, Nat.reduceLT, Nat.reduceSub, Nat.lt_irrefl, if_true, if_false, ite_true, ite_false, reduceIte, ↓reduceIte, Bool.not_true, Bool.not_false, Bool.false_eq_true, decide_true, not_true_eq_false, not_false_eq_true, decide_false, decide_eq_true_eq, Bool.not_eq_true', decide_eq_false_iff_not, Bool.not_eq_eq_eq_not, hx, p, hn, List.length_map]
        simp <;> omega
  obtain ⟨big, hb⟩ := st
  obtain ⟨r, h1, h2⟩ := row_rest ns m hm big
  exact ⟨r, sq_nx (ρ' := [.val (iL ns), .val (nI m), .val (.int 0), .un, .un]) rfl ((hb _).trans h1), h2⟩
/-! ### _law_like -/
abbrev b_isint : PSt := (sRet (eAnd (e1 (pIsi "int") (eB 0)) (eNot (e1 (pIsi "bool") (eB 0)))))
def f_isint : List PV → Option PV := fnDef 1 b_isint
abbrev b_like (fn__law_like : List PV → Option PV) (fn__law_is_int : List PV → Option PV) : PSt := (sSeq (sIf (cB (e1 pIsN (eB 1))) (sRet (e1 pIsN (eB 0))) sNil) (sSeq (sIf (cTru (e1 (pIsi "bool") (eB 1))) (sRet (eAnd (e1 (pIsi "bool") (eB 0)) (e2 pEq (eB 0) (eB 1)))) sNil) (sSeq (sIf (cTru (e1 (pIsi "tuple") (eB 1))) (sSeq (sIf (cOr (cNot (cTru (e1 (pIsi "tuple") (eB 0)))) (cB (e2 pNe (e1 pLen (eB 0)) (e1 pLen (eB 1))))) (sRet (eK (.bool false))) sNil) (sRet (e1 pAll (eComp (lRng1 (e1 pLen (eB 1))) [2] (gN 2) cYes (eCall fn__law_like (aCons (e2 pIx (eB 0) (eB 2)) (aCons (e2 pIx (eB 1) (eB 2)) aNil))))))) sNil) (sSeq (sIf (cTru (e1 (pIsi "str") (eB 1))) (sRet (eAnd (e1 (pIsi "str") (eB 0)) (e2 pEq (eB 0) (eB 1)))) sNil) (sRet (eAnd (eCall fn__law_is_int (aCons (eV 0) aNil)) (e2 pEq (eB 0) (eB 1))))))))
def g_like : Nat → List PV → Option PV
  | 0 => fun _ => none
  | d + 1 => fnDef 3 (b_like (g_like d) f_isint)
/-- a due value at depth d -/
inductive Lk : Nat → PV → Prop
  | non {d} : Lk (d + 1) .none
  | bl {d} (b : Bool) : Lk (d + 1) (.bool b)
  | int {d} (i : Int) : Lk (d + 1) (.int i)
  | str {d} (s : Str) (h : PyData.strOk s = true) : Lk (d + 1) (.str s)
  | tup {d} (l : List PV) (h : ∀ v ∈ l, Lk d v) (hl : l.length ≤ 16777216) : Lk (d + 1) (.tuple l)
theorem is_none_ (T : String) : pIsi T .none = (kitB "NoneType" T).bind fun b => some (.bool b) := rfl
theorem is_bool_ (T : String) (b : Bool) : pIsi T (.bool b) = (kitB "bool" T).bind fun b => some (.bool b) := rfl
theorem is_int_ (T : String) (b : Int) : pIsi T (.int b) = (kitB "int" T).bind fun b => some (.bool b) := rfl
theorem is_str_ (T : String) (b : Str) : pIsi T (.str b) = (kitB "str" T).bind fun b => some (.bool b) := rfl
theorem is_tup_ (T : String) (b : List PV) : pIsi T (.tuple b) = (kitB "tuple" T).bind fun b => some (.bool b) := rfl
theorem is_lst_ (T : String) (b : List PV) : pIsi T (.list b) = (kitB "list" T).bind fun b => some (.bool b) := rfl
theorem k_bb : kitB "bool" "bool" = some true := by decide +kernel
theorem k_bi : kitB "bool" "int" = some true := by decide +kernel
theorem k_bt : kitB "bool" "tuple" = some false := by decide +kernel
theorem k_bs : kitB "bool" "str" = some false := by decide +kernel
theorem k_ib : kitB "int" "bool" = some false := by decide +kernel
theorem k_ii : kitB "int" "int" = some true := by decide +kernel
theorem k_it : kitB "int" "tuple" = some false := by decide +kernel
theorem k_is : kitB "int" "str" = some false := by decide +kernel
theorem k_tb : kitB "tuple" "bool" = some false := by decide +kernel
theorem k_ti : kitB "tuple" "int" = some false := by decide +kernel
theorem k_tt : kitB "tuple" "tuple" = some true := by decide +kernel
theorem k_ts : kitB "tuple" "str" = some false := by decide +kernel
theorem k_sb : kitB "str" "bool" = some false := by decide +kernel
theorem k_si : kitB "str" "int" = some false := by decide +kernel
theorem k_st : kitB "str" "tuple" = some false := by decide +kernel
theorem k_ss : kitB "str" "str" = some true := by decide +kernel
theorem like_refl : ∀ (d : Nat) (v : PV), Lk d v → g_like d [v, v] = some (.bool true) := by
  intro d
  induction d with
  | zero => intro v h; cases h
  | succ d ih =>
    intro v h
    refine fn_rt ?_
    cases h with
    | non => exact sq_rt (if_t rfl rfl)
    | bl b =>
      refine sq_nx (if_f rfl rfl) (sq_rt (if_t ?_ ?_))
      · show (Option.bind (Option.bind (kitB "bool" "bool") fun b => some (.bool b)) pTru) = some true
        rw [k_bb]; rfl
      · simp only [eK, eV, eB, e1, e2, aNil, aCons, eCall, eIf, cB, cAnd, cOr, cNot, cYes, cTru, eAnd, eOr, eNot, eNotT, e3c, eSl, eSlL, oNone, oSome, toB, toI, toL, pTru, pIsN, pNotN, isNone, gN, gT, gCons', gNil', sNil, thenF, sRet, sBrk, sCnt, sAsg, sOwn, sAug, sApp, sFz, sPar, mVal, mOwn, mNil, setAllE, ownL, sIf, sSetI, lSeq, lRng1, lRng2, lEnum, wipeE, pLen, pInt, pAbs, pTuple, pList, pNeg, pSub, pAddI, pPlus_i, pMul_i, pDiv_i, pMod_i, pEq_i, pNe_i, pLt_i, pLe_i, pGt_i, pGe_i, pMin2, pMax2, pTup_s, pLst_s, outF, Option.bind_some, Option.bind_none, List.getElem?_cons_succ, List.getElem?_cons_zero, List.length_cons, List.length_nil, List.set_cons_succ, List.set_cons_zero, Nat.reduceAdd, Nat.reduceLT, Nat.reduceSub, Nat.lt_irrefl, if_true, if_false, ite_true, ite_false, reduceIte, ↓reduceIte, Bool.not_true, Bool.not_false, Bool.false_eq_true, decide_true, not_true_eq_false, not_false_eq_true, decide_false, decide_eq_true_eq, Bool.not_eq_true', decide_eq_false_iff_not, Bool.not_eq_eq_eq_not, startE, List.map_cons, List.map_nil, List.cons_append, is_bool_, k_bb]
        rw [pEq_bool, Option.bind_some, decide_eq_true rfl]
    | int i =>
      refine sq_nx (if_f rfl rfl) (sq_nx (if_f ?_ rfl) (sq_nx (if_f ?_ rfl) (sq_nx (if_f ?_ rfl) ?_)))
      · simp only [eK, eV, eB, e1, e2, aNil, aCons, eCall, eIf, cB, cAnd, cOr, cNot, cYes, cTru, eAnd, eOr, eNot, eNotT, e3c, eSl, eSlL, oNone, oSome, toB, toI, toL, pTru, pIsN, pNotN, isNone, gN, gT, gCons', gNil', sNil, thenF, sRet, sBrk, sCnt, sAsg, sOwn, sAug, sApp, sFz, sPar, mVal, mOwn, mNil, setAllE, ownL, sIf, sSetI, lSeq, lRng1, lRng2, lEnum, wipeE, pLen, pInt, pAbs, pTuple, pList, pNeg, pSub, pAddI, pPlus_i, pMul_i, pDiv_i, pMod_i, pEq_i, pNe_i, pLt_i, pLe_i, pGt_i, pGe_i, pMin2, pMax2, pTup_s, pLst_s, outF, Option.bind_some, Option.bind_none, List.getElem?_cons_succ, List.getElem?_cons_zero, List.length_cons, List.length_nil, List.set_cons_succ, List.set_cons_zero, Nat.reduceAdd, Nat.reduceLT, Nat.reduceSub, Nat.lt_irrefl, if_true, if_false, ite_true, ite_false, reduceIte, ↓reduceIte, Bool.not_true, Bool.not_false, Bool.false_eq_true, decide_true, not_true_eq_false, not_false_eq_true, decide_false, decide_eq_true_eq, Bool.not_eq_true', decide_eq_false_iff_not, Bool.not_eq_eq_eq_not, startE, List.map_cons, List.map_nil, List.cons_append, is_int_, k_ib]
      · simp only [eK, eV, eB, e1, e2, aNil, aCons, eCall, eIf, cB, cAnd, cOr, cNot, cYes, cTru, eAnd, eOr, eNot, eNotT, e3c, eSl, eSlL, oNone, oSome, toB, toI, toL, pTru, pIsN, pNotN, isNone, gN, gT, gCons', gNil', sNil, thenF, sRet, sBrk, sCnt, sAsg, sOwn, sAug, sApp, sFz, sPar, mVal, mOwn, mNil, setAllE, ownL, sIf, sSetI, lSeq, lRng1, lRng2, lEnum, wipeE, pLen, pInt, pAbs, pTuple, pList, pNeg, pSub, pAddI, pPlus_i, pMul_i, pDiv_i, pMod_i, pEq_i, pNe_i, pLt_i, pLe_i, pGt_i, pGe_i, pMin2, pMax2, pTup_s, pLst_s, outF, Option.bind_some, Option.bind_none, List.getElem?_cons_succ, List.getElem?_cons_zero, List.length_cons, List.length_nil, List.set_cons_succ, List.set_cons_zero, Nat.reduceAdd, Nat.reduceLT, Nat.reduceSub, Nat.lt_irrefl, if_true, if_false, ite_true, ite_false, reduceIte, ↓reduceIte, Bool.not_true, Bool.not_false, Bool.false_eq_true, decide_true, not_true_eq_false, not_false_eq_true, decide_false, decide_eq_true_eq, Bool.not_eq_true', decide_eq_false_iff_not, Bool.not_eq_eq_eq_not, startE, List.map_cons, List.map_nil, List.cons_append, is_int_, k_it]
      · simp only [eK, eV, eB, e1, e2, aNil, aCons, eCall, eIf, cB, cAnd, cOr, cNot, cYes, cTru, eAnd, eOr, eNot, eNotT, e3c, eSl, eSlL, oNone, oSome, toB, toI, toL, pTru, pIsN, pNotN, isNone, gN, gT, gCons', gNil', sNil, thenF, sRet, sBrk, sCnt, sAsg, sOwn, sAug, sApp, sFz, sPar, mVal, mOwn, mNil, setAllE, ownL, sIf, sSetI, lSeq, lRng1, lRng2, lEnum, wipeE, pLen, pInt, pAbs, pTuple, pList, pNeg, pSub, pAddI, pPlus_i, pMul_i, pDiv_i, pMod_i, pEq_i, pNe_i, pLt_i, pLe_i, pGt_i, pGe_i, pMin2, pMax2, pTup_s, pLst_s, outF, Option.bind_some, Option.bind_none, List.getElem?_cons_succ, List.getElem?_cons_zero, List.length_cons, List.length_nil, List.set_cons_succ, List.set_cons_zero, Nat.reduceAdd, Nat.reduceLT, Nat.reduceSub, Nat.lt_irrefl, if_true, if_false, ite_true, ite_false, reduceIte, ↓reduceIte, Bool.not_true, Bool.not_false, Bool.false_eq_true, decide_true, not_true_eq_false, not_false_eq_true, decide_false, decide_eq_true_eq, Bool.not_eq_true', decide_eq_false_iff_not, Bool.not_eq_eq_eq_not, startE, List.map_cons, List.map_nil, List.cons_append, is_int_, k_is]
      · have q : f_isint [.int i] = some (.bool true) := fn_rt (by simp only [eK, eV, eB, e1, e2, aNil, aCons, eCall, eIf, cB, cAnd, cOr, cNot, cYes, cTru, eAnd, eOr, eNot, eNotT, e3c, eSl, eSlL, oNone, oSome, toB, toI, toL, pTru, pIsN, pNotN, isNone, gN, gT, gCons', gNil', sNil, thenF, sRet, sBrk, sCnt, sAsg, sOwn, sAug, sApp, sFz, sPar, mVal, mOwn, mNil, setAllE, ownL, sIf, sSetI, lSeq, lRng1, lRng2, lEnum, wipeE, pLen, pInt, pAbs, pTuple, pList, pNeg, pSub, pAddI, pPlus_i, pMul_i, pDiv_i, pMod_i, pEq_i, pNe_i, pLt_i, pLe_i, pGt_i, pGe_i, pMin2, pMax2, pTup_s, pLst_s, outF, Option.bind_some, Option.bind_none, List.getElem?_cons_succ, List.getElem?_cons_zero, List.length_cons, List.length_nil, List.set_cons_succ, List.set_cons_zero, Nat.reduceAdd, Nat.reduceLT, Nat.reduceSub, Nat.lt_irrefl, if_true, if_false, ite_true, ite_false, reduceIte, ↓reduceIte, Bool.not_true, Bool.not_false, Bool.false_eq_true, decide_true, not_true_eq_false, not_false_eq_true, decide_false, decide_eq_true_eq, Bool.not_eq_true', decide_eq_false_iff_not, Bool.not_eq_eq_eq_not, startE, List.map_cons, List.map_nil, List.cons_append, is_int_, k_ii, k_ib])
        simp only [eK, eV, eB, e1, e2, aNil, aCons, eCall, eIf, cB, cAnd, cOr, cNot, cYes, cTru, eAnd, eOr, eNot, eNotT, e3c, eSl, eSlL, oNone, oSome, toB, toI, toL, pTru, pIsN, pNotN, isNone, gN, gT, gCons', gNil', sNil, thenF, sRet, sBrk, sCnt, sAsg, sOwn, sAug, sApp, sFz, sPar, mVal, mOwn, mNil, setAllE, ownL, sIf, sSetI, lSeq, lRng1, lRng2, lEnum, wipeE, pLen, pInt, pAbs, pTuple, pList, pNeg, pSub, pAddI, pPlus_i, pMul_i, pDiv_i, pMod_i, pEq_i, pNe_i, pLt_i, pLe_i, pGt_i, pGe_i, pMin2, pMax2, pTup_s, pLst_s, outF, Option.bind_some, Option.bind_none, List.getElem?_cons_succ, List.getElem?_cons_zero, List.length_cons, List.length_nil, List.set_cons_succ, List.set_cons_zero, Nat.reduceAdd, Nat.reduceLT, Nat.reduceSub, Nat.lt_irrefl, if_true, if_false, ite_true, ite_false, reduceIte, ↓reduceIte, Bool.not_true, Bool.not_false, Bool.false_eq_true, decide_true, not_true_eq_false, not_false_eq_true, decide_false, decide_eq_true_eq, Bool.not_eq_true', decide_eq_false_iff_not, Bool.not_eq_eq_eq_not, startE, List.map_cons, List.map_nil, List.cons_append, q]
    | str s hs =>
      refine sq_nx (if_f rfl rfl) (sq_nx (if_f ?_ rfl) (sq_nx (if_f ?_ rfl) (sq_rt (if_t ?_ ?_))))
      · simp only [eK, eV, eB, e1, e2, aNil, aCons, eCall, eIf, cB, cAnd, cOr, cNot, cYes, cTru, eAnd, eOr, eNot, eNotT, e3c, eSl, eSlL, oNone, oSome, toB, toI, toL, pTru, pIsN, pNotN, isNone, gN, gT, gCons', gNil', sNil, thenF, sRet, sBrk, sCnt, sAsg, sOwn, sAug, sApp, sFz, sPar, mVal, mOwn, mNil, setAllE, ownL, sIf, sSetI, lSeq, lRng1, lRng2, lEnum, wipeE, pLen, pInt, pAbs, pTuple, pList, pNeg, pSub, pAddI, pPlus_i, pMul_i, pDiv_i, pMod_i, pEq_i, pNe_i, pLt_i, pLe_i, pGt_i, pGe_i, pMin2, pMax2, pTup_s, pLst_s, outF, Option.bind_some, Option.bind_none, List.getElem?_cons_succ, List.getElem?_cons_zero, List.length_cons, List.length_nil, List.set_cons_succ, List.set_cons_zero, Nat.reduceAdd, Nat.reduceLT, Nat.reduceSub, Nat.lt_irrefl, if_true, if_false, ite_true, ite_false, reduceIte, ↓reduceIte, Bool.not_true, Bool.not_false, Bool.false_eq_true, decide_true, not_true_eq_false, not_false_eq_true, decide_false, decide_eq_true_eq, Bool.not_eq_true', decide_eq_false_iff_not, Bool.not_eq_eq_eq_not, startE, List.map_cons, List.map_nil, List.cons_append, is_str_, k_sb]
      · simp only [eK, eV, eB, e1, e2, aNil, aCons, eCall, eIf, cB, cAnd, cOr, cNot, cYes, cTru, eAnd, eOr, eNot, eNotT, e3c, eSl, eSlL, oNone, oSome, toB, toI, toL, pTru, pIsN, pNotN, isNone, gN, gT, gCons', gNil', sNil, thenF, sRet, sBrk, sCnt, sAsg, sOwn, sAug, sApp, sFz, sPar, mVal, mOwn, mNil, setAllE, ownL, sIf, sSetI, lSeq, lRng1, lRng2, lEnum, wipeE, pLen, pInt, pAbs, pTuple, pList, pNeg, pSub, pAddI, pPlus_i, pMul_i, pDiv_i, pMod_i, pEq_i, pNe_i, pLt_i, pLe_i, pGt_i, pGe_i, pMin2, pMax2, pTup_s, pLst_s, outF, Option.bind_some, Option.bind_none, List.getElem?_cons_succ, List.getElem?_cons_zero, List.length_cons, List.length_nil, List.set_cons_succ, List.set_cons_zero, Nat.reduceAdd, Nat.reduceLT, Nat.reduceSub, Nat.lt_irrefl, if_true, if_false, ite_true, ite_false, reduceIte, ↓reduceIte, Bool.not_true, Bool.not_false, Bool.false_eq_true, decide_true, not_true_eq_false, not_false_eq_true, decide_false, decide_eq_true_eq, Bool.not_eq_true', decide_eq_false_iff_not, Bool.not_eq_eq_eq_not, startE, List.map_cons, List.map_nil, List.cons_append, is_str_, k_st]
      · simp only [eK, eV, eB, e1, e2, aNil, aCons, eCall, eIf, cB, cAnd, cOr, cNot, cYes, cTru, eAnd, eOr, eNot, eNotT, e3c, eSl, eSlL, oNone, oSome, toB, toI, toL, pTru, pIsN, pNotN, isNone, gN, gT, gCons', gNil', sNil, thenF, sRet, sBrk, sCnt, sAsg, sOwn, sAug, sApp, sFz, sPar, mVal, mOwn, mNil, setAllE, ownL, sIf, sSetI, lSeq, lRng1, lRng2, lEnum, wipeE, pLen, pInt, pAbs, pTuple, pList, pNeg, pSub, pAddI, pPlus_i, pMul_i, pDiv_i, pMod_i, pEq_i, pNe_i, pLt_i, pLe_i, pGt_i, pGe_i, pMin2, pMax2, pTup_s, pLst_s, outF, Option.bind_some, Option.bind_none, List.getElem?_cons_succ, List.getElem?_cons_zero, List.length_cons, List.length_nil, List.set_cons_succ, List.set_cons_zero, Nat.reduceAdd, Nat.reduceLT, Nat.reduceSub, Nat.lt_irrefl, if_true, if_false, ite_true, ite_false, reduceIte, ↓reduceIte, Bool.not_true, Bool.not_false, Bool.false_eq_true, decide_true, not_true_eq_false, not_false_eq_true, decide_false, decide_eq_true_eq, Bool.not_eq_true', decide_eq_false_iff_not, Bool.not_eq_eq_eq_not, startE, List.map_cons, List.map_nil, List.cons_append, is_str_, k_ss]
      · simp only [eK, eV, eB, e1, e2, aNil, aCons, eCall, eIf, cB, cAnd, cOr, cNot, cYes, cTru, eAnd, eOr, eNot, eNotT, e3c, eSl, eSlL, oNone, oSome, toB, toI, toL, pTru, pIsN, pNotN, isNone, gN, gT, gCons', gNil', sNil, thenF, sRet, sBrk, sCnt, sAsg, sOwn, sAug, sApp, sFz, sPar, mVal, mOwn, mNil, setAllE, ownL, sIf, sSetI, lSeq, lRng1, lRng2, lEnum, wipeE, pLen, pInt, pAbs, pTuple, pList, pNeg, pSub, pAddI, pPlus_i, pMul_i, pDiv_i, pMod_i, pEq_i, pNe_i, pLt_i, pLe_i, pGt_i, pGe_i, pMin2, pMax2, pTup_s, pLst_s, outF, Option.bind_some, Option.bind_none, List.getElem?_cons_succ, List.getElem?_cons_zero, List.length_cons, List.length_nil, List.set_cons_succ, List.set_cons_zero, Nat.reduceAdd, Nat.reduceLT, Nat.reduceSub, Nat.lt_irrefl, if_true, if_false, ite_true, ite_false, reduceIte, ↓reduceIte, Bool.not_true, Bool.not_false, Bool.false_eq_true, decide_true, not_true_eq_false, not_false_eq_true, decide_false, decide_eq_true_eq, Bool.not_eq_true', decide_eq_false_iff_not, Bool.not_eq_eq_eq_not, startE, List.map_cons, List.map_nil, List.cons_append, is_str_, k_ss]
        rw [pEq_str hs hs, Option.bind_some, decide_eq_true rfl]
    | tup l h hl =>
      refine sq_nx (if_f rfl rfl) (sq_nx (if_f ?_ rfl) (sq_rt (if_t ?_ (sq_nx (if_f ?_ rfl) ?_))))
      · simp only [eK, eV, eB, e1, e2, aNil, aCons, eCall, eIf, cB, cAnd, cOr, cNot, cYes, cTru, eAnd, eOr, eNot, eNotT, e3c, eSl, eSlL, oNone, oSome, toB, toI, toL, pTru, pIsN, pNotN, isNone, gN, gT, gCons', gNil', sNil, thenF, sRet, sBrk, sCnt, sAsg, sOwn, sAug, sApp, sFz, sPar, mVal, mOwn, mNil, setAllE, ownL, sIf, sSetI, lSeq, lRng1, lRng2, lEnum, wipeE, pLen, pInt, pAbs, pTuple, pList, pNeg, pSub, pAddI, pPlus_i, pMul_i, pDiv_i, pMod_i, pEq_i, pNe_i, pLt_i, pLe_i, pGt_i, pGe_i, pMin2, pMax2, pTup_s, pLst_s, outF, Option.bind_some, Option.bind_none, List.getElem?_cons_succ, List.getElem?_cons_zero, List.length_cons, List.length_nil, List.set_cons_succ, List.set_cons_zero, Nat.reduceAdd, Nat.reduceLT, Nat.reduceSub, Nat.lt_irrefl, if_true, if_false, ite_true, ite_false, reduceIte, ↓reduceIte, Bool.not_true, Bool.not_false, Bool.false_eq_true, decide_true, not_true_eq_false, not_false_eq_true, decide_false, decide_eq_true_eq, Bool.not_eq_true', decide_eq_false_iff_not, Bool.not_eq_eq_eq_not, startE, List.map_cons, List.map_nil, List.cons_append, is_tup_, k_tb]
      · simp only [eK, eV, eB, e1, e2, aNil, aCons, eCall, eIf, cB, cAnd, cOr, cNot, cYes, cTru, eAnd, eOr, eNot, eNotT, e3c, eSl, eSlL, oNone, oSome, toB, toI, toL, pTru, pIsN, pNotN, isNone, gN, gT, gCons', gNil', sNil, thenF, sRet, sBrk, sCnt, sAsg, sOwn, sAug, sApp, sFz, sPar, mVal, mOwn, mNil, setAllE, ownL, sIf, sSetI, lSeq, lRng1, lRng2, lEnum, wipeE, pLen, pInt, pAbs, pTuple, pList, pNeg, pSub, pAddI, pPlus_i, pMul_i, pDiv_i, pMod_i, pEq_i, pNe_i, pLt_i, pLe_i, pGt_i, pGe_i, pMin2, pMax2, pTup_s, pLst_s, outF, Option.bind_some, Option.bind_none, List.getElem?_cons_succ, List.getElem?_cons_zero, List.length_cons, List.length_nil, List.set_cons_succ, List.set_cons_zero, Nat.reduceAdd, Nat.reduceLT, Nat.reduceSub, Nat.lt_irrefl, if_true, if_false, ite_true, ite_false, reduceIte, ↓reduceIte, Bool.not_true, Bool.not_false, Bool.false_eq_true, decide_true, not_true_eq_false, not_false_eq_true, decide_false, decide_eq_true_eq, Bool.not_eq_true', decide_eq_false_iff_not, Bool.not_eq_eq_eq_not, startE, List.map_cons, List.map_nil, List.cons_append, is_tup_, k_tt]
      · simp only [eK, eV, eB, e1, e2, aNil, aCons, eCall, eIf, cB, cAnd, cOr, cNot, cYes, cTru, eAnd, eOr, eNot, eNotT, e3c, eSl, eSlL, oNone, oSome, toB, toI, toL, pTru, pIsN, pNotN, isNone, gN, gT, gCons', gNil', sNil, thenF, sRet, sBrk, sCnt, sAsg, sOwn, sAug, sApp, sFz, sPar, mVal, mOwn, mNil, setAllE, ownL, sIf, sSetI, lSeq, lRng1, lRng2, lEnum, wipeE, pLen, pInt, pAbs, pTuple, pList, pNeg, pSub, pAddI, pPlus_i, pMul_i, pDiv_i, pMod_i, pEq_i, pNe_i, pLt_i, pLe_i, pGt_i, pGe_i, pMin2, pMax2, pTup_s, pLst_s, outF, Option.bind_some, Option.bind_none, List.getElem?_cons_succ, List.getElem?_cons_zero, List.length_cons, List.length_nil, List.set_cons_succ, List.set_cons_zero, Nat.reduceAdd, Nat.reduceLT, Nat.reduceSub, Nat.lt_irrefl, if_true, if_false, ite_true, ite_false, reduceIte, ↓reduceIte, Bool.not_true, Bool.not_false, Bool.false_eq_true, decide_true, not_true_eq_false, not_false_eq_true, decide_false, decide_eq_true_eq, Bool.not_eq_true', decide_eq_false_iff_not, Bool.not_eq_eq_eq_not, startE, List.map_cons, List.map_nil, List.cons_append, is_tup_, k_tt]
      · have ec := ec_map (L := lRng1 (e1 pLen (eB 1))) (vs := [2]) (h := gN 2) (c := cYes) (e := eCall (g_like d) (aCons (e2 pIx (eB 0) (eB 2)) (aCons (e2 pIx (eB 1) (eB 2)) aNil))) (ρ := [.val (.tuple l), .val (.tuple l), .un]) nI (fun _ => .bool true) (l := List.range l.length) (rg_1 (n := l.length) rfl (by omega) (by omega)) (by rw [List.length_range]; exact hl) fun k hk => ⟨_, rfl, rfl, by
          have hk := List.mem_range.1 hk
          have x : pIx (.tuple l) (nI k) = some l[k] := atI_nat (by omega) (by rw [Int.toNat_natCast]; exact List.getElem?_eq_getElem hk)
          simp only [eK, eV, eB, e1, e2, aNil, aCons, eCall, eIf, cB, cAnd, cOr, cNot, cYes, cTru, eAnd, eOr, eNot, eNotT, e3c, eSl, eSlL, oNone, oSome, toB, toI, toL, pTru, pIsN, pNotN, isNone, gN, gT, gCons', gNil', sNil, thenF, sRet, sBrk, sCnt, sAsg, sOwn, sAug, sApp, sFz, sPar, mVal, mOwn, mNil, setAllE, ownL, sIf, sSetI, lSeq, lRng1, lRng2, lEnum, wipeE, pLen, pInt, pAbs, pTuple, pList, pNeg, pSub, pAddI, pPlus_i, pMul_i, pDiv_i, pMod_i, pEq_i, pNe_i, pLt_i, pLe_i, pGt_i, pGe_i, pMin2, pMax2, pTup_s, pLst_s, outF, Option.bind_some, Option.bind_none, List.getElem?_cons_succ, List.getElem?_cons_zero, List.length_cons, List.length_nil, List.set_cons_succ, List.set_cons_zero, Nat.reduceAdd, Nat.reduceLT, Nat.reduceSub, Nat.lt_irrefl, if_true, if_false, ite_true, ite_false, reduceIte, ↓reduceIte, Bool.not_true, Bool.not_false, Bool.false_eq_true, decide_true, not_true_eq_false, not_false_eq_true, decide_false, decide_eq_true_eq, Bool.not_eq_true', decide_eq_false_iff_not, Bool.not_eq_eq_eq_not, x, ih _ (h _ (List.getElem_mem hk))]⟩
        show Option.bind (Option.bind (eComp _ _ _ _ _ [.val (.tuple l), .val (.tuple l), .un]) pAll) _ = _
        rw [ec]
        have : ∀ n : List Nat, toBs (n.map fun _ => PyData.bool true) = some (n.map fun _ => true) := fun n => by
          induction n with
          | nil => rfl
          | cons a n ih => rw [List.map_cons, toBs, ih]; rfl
        simp only [pAll, Option.bind_some, this]
        have : ((List.range l.length).map fun _ => true).all id = true := by
          rw [List.all_eq_true]
          intro x hx
          obtain ⟨_, _, rfl⟩ := List.mem_map.1 hx
          rfl
        rw [this]
theorem if_like {like : List PV → Option PV} {a b : PF} {s : PSt} {ρ : PEnv} {d : Nat} {v : PV} (H : ∀ v, Lk d v → like [v, v] = some (.bool true)) (h1 : a ρ = some v) (h2 : b ρ = some v) (hl : Lk d v) : sIf (cNot (cTru (eCall like (aCons a (aCons b aNil))))) s sNil ρ = some (.nx ρ) := by
  refine if_f ?_ rfl
  simp only [eK, eV, eB, e1, e2, aNil, aCons, eCall, eIf, cB, cAnd, cOr, cNot, cYes, cTru, eAnd, eOr, eNot, eNotT, e3c, eSl, eSlL, oNone, oSome, toB, toI, toL, pTru, pIsN, pNotN, isNone, gN, gT, gCons', gNil', sNil, thenF, sRet, sBrk, sCnt, sAsg, sOwn, sAug, sApp, sFz, sPar, mVal, mOwn, mNil, setAllE, ownL, sIf, sSetI, lSeq, lRng1, lRng2, lEnum, wipeE, pLen, pInt, pAbs, pTuple, pList, pNeg, pSub, pAddI, pPlus_i, pMul_i, pDiv_i, pMod_i, pEq_i, pNe_i, pLt_i, pLe_i, pGt_i, pGe_i, pMin2, pMax2, pTup_s, pLst_s, outF, Option.bind_some, Option.bind_none, List.getElem?_cons_succ, List.getElem?_cons_zero, List.length_cons, List.length_nil, List.set_cons_succ, List.set_cons_zero, Nat.reduceAdd, Nat.reduceLT, Nat.reduceSub, Nat.lt_irrefl, if_true, if_false, ite_true, ite_false, reduceIte, ↓reduceIte, Bool.not_true, Bool.not_false, Bool.false_eq_true, decide_true, not_true_eq_false, not_false_eq_true, decide_false, decide_eq_true_eq, Bool.not_eq_true', decide_eq_false_iff_not, Bool.not_eq_eq_eq_not, h1, h2, H v hl]
theorem fz_val {ρ : PEnv} {i : Nat} {v : PV} (h : ρ[i]? = some (.val v)) : sFz i ρ = some (.nx ρ) := by
  unfold sFz
  rw [h]
/-! ### enumerate -/
theorem enumL_int (t : List Int) : enumL (t.map PyData.int) = (List.range t.length).map fun (k : Nat) => PyData.tuple [.int k, .int (t.getD k 0)] := by
  apply List.ext_getElem?
  intro i
  unfold enumL
  rw [List.getElem?_mapIdx, List.getElem?_map, List.getElem?_map]
  rcases Nat.lt_or_ge i t.length with h | h
  · rw [List.getElem?_eq_getElem h, List.getElem?_eq_getElem (by rw [List.length_range]; exact h), List.getElem_range, Option.map_some, Option.map_some, Option.map_some, List.getD_eq_getElem?_getD, List.getElem?_eq_getElem h]
    rfl
  · rw [List.getElem?_eq_none h, List.getElem?_eq_none (by rw [List.length_range]; exact h)]
    rfl
/-- the first n where P is false -/
theorem first_not {P : Nat → Bool} : ∀ n : Nat, P n = false → ∃ k, k ≤ n ∧ (∀ j, j < k → P j = true) ∧ P k = false := by
  intro n h
  induction n using Nat.strongRecOn with
  | _ n ih =>
    by_cases c : ∃ m, m < n ∧ P m = false
    · obtain ⟨m, hm, e⟩ := c
      obtain ⟨k, hk, r⟩ := ih m hm e
      exact ⟨k, by omega, r⟩
    · refine ⟨n, Nat.le_refl _, fun j hj => ?_, h⟩
      cases e : P j with
      | true => rfl
      | false => exact absurd ⟨j, hj, e⟩ c
theorem rep_succ (k : Nat) (n : Nat) : Nat.repeat (fun x => x + 1) k n = n + k := by
  induction k with
  | zero => rfl
  | succ k ih => rw [Nat.repeat, ih]; rfl
theorem lastD_mem {t : List Int} (h : t ≠ []) : t.getLastD 0 ∈ t := by
  rw [List.getLastD_eq_getLast?, List.getLast?_eq_some_getLast h]
  exact List.getLast_mem h
theorem gd_mem {t : List Int} {k : Nat} (h : k < t.length) : t.getD k 0 ∈ t := by
  rw [List.getD_eq_getElem?_getD, List.getElem?_eq_getElem h]
  exact List.getElem_mem h
/-! loops over ranges, by place -/
theorem lp_ix {α : Type} {h : GF} {b : PSt} (enc : α → PV) (Inv : Nat → PEnv → Prop) : ∀ (l : List α) (m : Nat), (∀ (i : Nat) (hi : i < l.length) (ρ : PEnv), Inv (m + i) ρ → ∃ ρ1 ρ2, h (enc l[i]) ρ = some ρ1 ∧ b ρ1 = some (.nx ρ2) ∧ Inv (m + i + 1) ρ2) → ∀ ρ, Inv m ρ → ∃ ρ', loopF h b (l.map enc) ρ = some (.nx ρ') ∧ Inv (m + l.length) ρ'
  | [], m, _, ρ, i => ⟨ρ, rfl, i⟩
  | a :: l, m, st, ρ, i => by
    obtain ⟨ρ1, ρ2, e1, e2, i2⟩ := st 0 (by rw [List.length_cons]; omega) ρ i
    obtain ⟨ρ', e, i'⟩ := lp_ix enc Inv l (m + 1) (fun j hj ρ i => by
      have := st (j + 1) (by rw [List.length_cons]; omega) ρ (by rw [show m + (j + 1) = m + 1 + j by omega]; exact i)
      rw [show m + (j + 1) = m + 1 + j by omega] at this
      exact this) ρ2 i2
    refine ⟨ρ', ?_, by rw [List.length_cons, show m + (l.length + 1) = m + 1 + l.length by omega]; exact i'⟩
    rw [List.map_cons, loopF, show h (enc a) ρ = some ρ1 from e1, Option.bind_some, e2, Option.bind_some]
    exact e
theorem lp_range {h : GF} {b : PSt} (Inv : Nat → PEnv → Prop) (n : Nat) (st : ∀ i, i < n → ∀ ρ, Inv i ρ → ∃ ρ1 ρ2, h (nI i) ρ = some ρ1 ∧ b ρ1 = some (.nx ρ2) ∧ Inv (i + 1) ρ2) (ρ : PEnv) (h0 : Inv 0 ρ) : ∃ ρ', loopF h b ((List.range n).map nI) ρ = some (.nx ρ') ∧ Inv n ρ' := by
  have := lp_ix (h := h) (b := b) nI Inv (List.range n) 0 (fun i hi ρ j => by
    rw [Nat.zero_add] at j ⊢
    rw [List.getElem_range]
    exact st i (by rw [List.length_range] at hi; exact hi) ρ j) ρ h0
  rw [List.length_range, Nat.zero_add] at this
  exact this
theorem lp_rng {h : GF} {b : PSt} (Inv : Int → PEnv → Prop) (x y : Int) (hxy : x ≤ y) (st : ∀ i, x ≤ i → i < y → ∀ ρ, Inv i ρ → ∃ ρ1 ρ2, h (.int i) ρ = some ρ1 ∧ b ρ1 = some (.nx ρ2) ∧ Inv (i + 1) ρ2) (ρ : PEnv) (h0 : Inv x ρ) : ∃ ρ', loopF h b ((rng x y).map PyData.int) ρ = some (.nx ρ') ∧ Inv y ρ' := by
  have := lp_ix (h := h) (b := b) PyData.int (fun i => Inv (x + i)) (rng x y) 0 (fun i hi ρ j => by
    rw [Nat.zero_add] at j ⊢
    rw [rng_length] at hi
    have e : (rng x y)[i]'(by rw [rng_length]; exact hi) = x + i := by
      have := rng_get x y i hi
      rw [List.getElem?_eq_getElem (by rw [rng_length]; exact hi)] at this
      exact Option.some.inj this
    rw [e, show x + ((i + 1 : Nat) : Int) = x + i + 1 by omega]
    exact st (x + i) (by omega) (by omega) ρ j) ρ (by rw [show x + ((0 : Nat) : Int) = x by omega]; exact h0)
  rw [rng_length, Nat.zero_add, show x + ((y - x).toNat : Int) = y by omega] at this
  exact this
/-- a cell of the row -/
def gR (r : List Int) (k : Int) : Int := r.getD k.toNat 0
theorem gR_b {r : List Int} (h : Rw r) (k : Int) : 0 ≤ gR r k ∧ gR r k < 1000003 := by
  unfold gR
  rcases Nat.lt_or_ge k.toNat r.length with h' | h'
  · exact h _ (gd_mem h')
  · rw [List.getD_eq_getElem?_getD, List.getElem?_eq_none h']
    exact ⟨by decide, by decide⟩
theorem rx {r : List Int} {n : Nat} (hr : r.length = n) (k : Int) (h0 : 0 ≤ k := by decide) (h1 : k < (n : Int) := by decide) : pIx (iL r) (.int k) = some (.int (gR r k)) := ix_l h0 (by omega)
end Cm

set_option Elab.async false
set_option linter.all false
set_option maxRecDepth 100000
set_option maxHeartbeats 4000000
set_option autoImplicit false
namespace Wk
open PySem PySem.Spec PyProof.Rows L2 Pl Cm
theorem mixed_eq : f__law_mixed = f_mixed := rfl
theorem row_eq : f__law_row = f_row := rfl
theorem like_eq : ∀ d, g__law_like d = g_like d
  | 0 => rfl
  | d + 1 => by
    show fnDef 3 (b__law_like (g__law_like d) f__law_is_int) = fnDef 3 (b_like (g_like d) f_isint)
    rw [like_eq d]
    rfl
/-- a number that no multiplication minds -/
def Sm (i : Int) : Prop := i.natAbs < 2 ^ 63
def stp (t c w s : Int) : Bool := decide (w * s * s ≤ 2 * c * t)
def prs (t : List Int) (c w s : Int) : Option Nat := (List.range t.length).find? fun k => stp (t.getD k 0) c w s
def pO : Option Nat → PV
  | some k => nI k
  | none => .none
theorem m2 (c : Int) : mulOk 2 c = true := mulOk_l (by decide)
theorem st_stops {t c w s : Int} (hc : Sm c) (hw : Sm w) (hs : Sm s) (ht : Sm t) : f__law_stops [.int t, .int c, .int w, .int s] = some (.bool (stp t c w s)) := by
  refine fn_rt ?_
  simp only [eK, eV, eB, e1, e2, aNil, aCons, eCall, eIf, cB, cAnd, cOr, cNot, cYes, cTru, eAnd, eOr, eNot, eNotT, e3c, eSl, eSlL, oNone, oSome, toB, toI, toL, pTru, pIsN, pNotN, isNone, gN, gT, gCons', gNil', sNil, thenF, sRet, sBrk, sCnt, sAsg, sOwn, sAug, sApp, sFz, sPar, mVal, mOwn, mNil, setAllE, ownL, sIf, sSetI, lSeq, lRng1, lRng2, lEnum, wipeE, pLen, pInt, pAbs, pTuple, pList, pNeg, pSub, pAddI, pPlus_i, pMul_i, pDiv_i, pMod_i, pEq_i, pNe_i, pLt_i, pLe_i, pGt_i, pGe_i, pMin2, pMax2, pTup_s, pLst_s, outF, Option.bind_some, Option.bind_none, List.getElem?_cons_succ, List.getElem?_cons_zero, List.length_cons, List.length_nil, List.set_cons_succ, List.set_cons_zero, Nat.reduceAdd, Nat.reduceLT, Nat.reduceSub, Nat.lt_irrefl, if_true, if_false, ite_true, ite_false, reduceIte, ↓reduceIte, Bool.not_true, Bool.not_false, Bool.false_eq_true, decide_true, not_true_eq_false, not_false_eq_true, decide_false, decide_eq_true_eq, Bool.not_eq_true', decide_eq_false_iff_not, Bool.not_eq_eq_eq_not, startE, List.map_cons, List.map_nil, List.cons_append, m2, mulOk_r ht, mulOk_r hs]
  rfl
theorem st_press {t : List Int} {c w s : Int} (hn : t.length ≤ 1000) (hc : Sm c) (hw : Sm w) (hs : Sm s) (ht : ∀ x ∈ t, Sm x) : f__law_press [iT t, .int c, .int w, .int s] = some (pO (prs t c w s)) := by
  refine fn_rt ?_
  have st := lp_find (h := gN 4) (b := sIf (cTru (eCall f__law_stops (aCons (e2 pIx (eB 0) (eB 4)) (aCons (eV 1) (aCons (eV 2) (aCons (eV 3) aNil)))))) (sRet (eV 4)) sNil) nI (fun k => stp (t.getD k 0) c w s) nI (fun ρ => ∃ x, ρ = [.val (iT t), .val (.int c), .val (.int w), .val (.int s), x]) (List.range t.length) (by
    rintro k hk _ ⟨x, rfl⟩
    have hk := List.mem_range.1 hk
    refine ⟨[.val (iT t), .val (.int c), .val (.int w), .val (.int s), .val (nI k)], rfl, ?_⟩
    have hm : Sm (t.getD k 0) := by
      rw [List.getD_eq_getElem?_getD, List.getElem?_eq_getElem hk]
      exact ht _ (List.getElem_mem hk)
    have e : (cTru (eCall f__law_stops (aCons (e2 pIx (eB 0) (eB 4)) (aCons (eV 1) (aCons (eV 2) (aCons (eV 3) aNil)))))) [.val (iT t), .val (.int c), .val (.int w), .val (.int s), .val (nI k)] = some (stp (t.getD k 0) c w s) := by
      have x := ix_t (l := t) (i := k) (by omega) (by omega)
      rw [Int.toNat_natCast] at x
      simp only [eK, eV, eB, e1, e2, aNil, aCons, eCall, eIf, cB, cAnd, cOr, cNot, cYes, cTru, eAnd, eOr, eNot, eNotT, e3c, eSl, eSlL, oNone, oSome, toB, toI, toL, pTru, pIsN, pNotN, isNone, gN, gT, gCons', gNil', sNil, thenF, sRet, sBrk, sCnt, sAsg, sOwn, sAug, sApp, sFz, sPar, mVal, mOwn, mNil, setAllE, ownL, sIf, sSetI, lSeq, lRng1, lRng2, lEnum, wipeE, pLen, pInt, pAbs, pTuple, pList, pNeg, pSub, pAddI, pPlus_i, pMul_i, pDiv_i, pMod_i, pEq_i, pNe_i, pLt_i, pLe_i, pGt_i, pGe_i, pMin2, pMax2, pTup_s, pLst_s, outF, Option.bind_some, Option.bind_none, List.getElem?_cons_succ, List.getElem?_cons_zero, List.length_cons, List.length_nil, List.set_cons_succ, List.set_cons_zero, Nat.reduceAdd, Nat.reduceLT, Nat.reduceSub, Nat.lt_irrefl, if_true, if_false, ite_true, ite_false, reduceIte, ↓reduceIte, Bool.not_true, Bool.not_false, Bool.false_eq_true, decide_true, not_true_eq_false, not_false_eq_true, decide_false, decide_eq_true_eq, Bool.not_eq_true', decide_eq_false_iff_not, Bool.not_eq_eq_eq_not, x, st_stops hc hw hs hm]
    split
    · rename_i h
      exact if_t (e.trans (congrArg some h)) rfl
    · rename_i h
      exact ⟨_, if_f (e.trans (congrArg some (Bool.not_eq_true _ ▸ h))) rfl, _, rfl⟩) [.val (iT t), .val (.int c), .val (.int w), .val (.int s), .un] ⟨_, rfl⟩
  have L : (lRng1 (e1 pLen (eB 0))) [.val (iT t), .val (.int c), .val (.int w), .val (.int s), .un] = some ((List.range t.length).map nI) := rg_1 (n := t.length) (by simp only [eK, eV, eB, e1, e2, aNil, aCons, eCall, eIf, cB, cAnd, cOr, cNot, cYes, cTru, eAnd, eOr, eNot, eNotT, e3c, eSl, eSlL, oNone, oSome, toB, toI, toL, pTru, pIsN, pNotN, isNone, gN, gT, gCons', gNil', sNil, thenF, sRet, sBrk, sCnt, sAsg, sOwn, sAug, sApp, sFz, sPar, mVal, mOwn, mNil, setAllE, ownL, sIf, sSetI, lSeq, lRng1, lRng2, lEnum, wipeE, pLen, pInt, pAbs, pTuple, pList, pNeg, pSub, pAddI, pPlus_i, pMul_i, pDiv_i, pMod_i, pEq_i, pNe_i, pLt_i, pLe_i, pGt_i, pGe_i, pMin2, pMax2, pTup_s, pLst_s, outF, Option.bind_some, Option.bind_none, List.getElem?_cons_succ, List.getElem?_cons_zero, List.length_cons, List.length_nil, List.set_cons_succ, List.set_cons_zero, Nat.reduceAdd, Nat.reduceLT, Nat.reduceSub, Nat.lt_irrefl, if_true, if_false, ite_true, ite_false, reduceIte, ↓reduceIte, Bool.not_true, Bool.not_false, Bool.false_eq_true, decide_true, not_true_eq_false, not_false_eq_true, decide_false, decide_eq_true_eq, Bool.not_eq_true', decide_eq_false_iff_not, Bool.not_eq_eq_eq_not, List.length_map]) (by omega) (by omega)
  rcases st with ⟨a, h1, h2⟩ | ⟨h1, ρ', h2, x, rfl⟩
  · unfold prs
    rw [h1]
    refine sq_rt ?_
    exact (congrArg (fun l => Option.bind l _) L).trans h2
  · unfold prs
    rw [h1]
    refine sq_nx ((congrArg (fun l => Option.bind l _) L).trans h2) rfl
theorem st_stop {t : List Int} {c w s : Int} (hn : t.length ≤ 1000) (hc : Sm c) (hw : Sm w) (hs : Sm s) (ht : ∀ x ∈ t, Sm x) : f_fender_stop [iT t, .int c, .int w, .int s] = some (pO (prs t c w s)) := by
  refine fn_rt ?_
  have st := lp_find (h := (gT (gCons' (gN 4) (gCons' (gN 5) gNil')))) (b := sIf (cB (e2 pGe (e2 pMul (e2 pMul (eK (.int 2)) (eB 1)) (eB 5)) (e2 pMul (e2 pMul (eB 2) (eB 3)) (eB 3)))) (sRet (eV 4)) sNil) (fun (k : Nat) => PyData.tuple [.int k, .int (t.getD k 0)]) (fun k => stp (t.getD k 0) c w s) nI (fun ρ => ∃ x y, ρ = [.val (iT t), .val (.int c), .val (.int w), .val (.int s), x, y]) (List.range t.length) (by
    rintro k hk _ ⟨x, y, rfl⟩
    have hk := List.mem_range.1 hk
    refine ⟨[.val (iT t), .val (.int c), .val (.int w), .val (.int s), .val (nI k), .val (.int (t.getD k 0))], rfl, ?_⟩
    have hm : Sm (t.getD k 0) := by
      rw [List.getD_eq_getElem?_getD, List.getElem?_eq_getElem hk]
      exact ht _ (List.getElem_mem hk)
    have e : (cB (e2 pGe (e2 pMul (e2 pMul (eK (.int 2)) (eB 1)) (eB 5)) (e2 pMul (e2 pMul (eB 2) (eB 3)) (eB 3)))) [.val (iT t), .val (.int c), .val (.int w), .val (.int s), .val (nI k), .val (.int (t.getD k 0))] = some (stp (t.getD k 0) c w s) := by
      simp only [eK, eV, eB, e1, e2, aNil, aCons, eCall, eIf, cB, cAnd, cOr, cNot, cYes, cTru, eAnd, eOr, eNot, eNotT, e3c, eSl, eSlL, oNone, oSome, toB, toI, toL, pTru, pIsN, pNotN, isNone, gN, gT, gCons', gNil', sNil, thenF, sRet, sBrk, sCnt, sAsg, sOwn, sAug, sApp, sFz, sPar, mVal, mOwn, mNil, setAllE, ownL, sIf, sSetI, lSeq, lRng1, lRng2, lEnum, wipeE, pLen, pInt, pAbs, pTuple, pList, pNeg, pSub, pAddI, pPlus_i, pMul_i, pDiv_i, pMod_i, pEq_i, pNe_i, pLt_i, pLe_i, pGt_i, pGe_i, pMin2, pMax2, pTup_s, pLst_s, outF, Option.bind_some, Option.bind_none, List.getElem?_cons_succ, List.getElem?_cons_zero, List.length_cons, List.length_nil, List.set_cons_succ, List.set_cons_zero, Nat.reduceAdd, Nat.reduceLT, Nat.reduceSub, Nat.lt_irrefl, if_true, if_false, ite_true, ite_false, reduceIte, ↓reduceIte, Bool.not_true, Bool.not_false, Bool.false_eq_true, decide_true, not_true_eq_false, not_false_eq_true, decide_false, decide_eq_true_eq, Bool.not_eq_true', decide_eq_false_iff_not, Bool.not_eq_eq_eq_not, m2, mulOk_r hm, mulOk_r hs]
      rfl
    split
    · rename_i h
      exact if_t (e.trans (congrArg some h)) rfl
    · rename_i h
      exact ⟨_, if_f (e.trans (congrArg some (Bool.not_eq_true _ ▸ h))) rfl, _, _, rfl⟩) [.val (iT t), .val (.int c), .val (.int w), .val (.int s), .un, .un] ⟨_, _, rfl⟩
  have L : (lEnum (eV 0)) [.val (iT t), .val (.int c), .val (.int w), .val (.int s), .un, .un] = some ((List.range t.length).map fun (k : Nat) => PyData.tuple [.int k, .int (t.getD k 0)]) := by
    rw [← enumL_int]
    rfl
  rcases st with ⟨a, h1, h2⟩ | ⟨h1, ρ', h2, x, y, rfl⟩
  · unfold prs
    rw [h1]
    refine sq_rt ?_
    exact (congrArg (fun l => Option.bind l _) L).trans h2
  · unfold prs
    rw [h1]
    refine sq_nx ((congrArg (fun l => Option.bind l _) L).trans h2) rfl
/-- k: the greatest speed -/
def Sp (w M : Int) (k : Nat) : Prop := (∀ j : Nat, j < k → w * (j + 1) * (j + 1) ≤ M) ∧ M < w * (k + 1) * (k + 1)
theorem st_speed {t : List Int} {c w : Int} {k : Nat} (ht : t ≠ []) (hm : Sm (t.getLastD 0)) (hw : Sm w) (hk : k ≤ 1000) (h : Sp w (2 * c * t.getLastD 0) k) : f_speed_most [iT t, .int c, .int w] = some (nI k) := by
  refine fn_rt ?_
  have hf : ¬ (w * ((k : Int) + 1) * ((k : Int) + 1) ≤ 2 * c * t.getLastD 0) := by have := h.2; omega
  have st := lw_inv (c := (cB (e2 pLe (e2 pMul (e2 pMul (eB 2) (e2 pPlus (eB 3) (eK (.int 1)))) (e2 pPlus (eB 3) (eK (.int 1)))) (e2 pMul (e2 pMul (eK (.int 2)) (eB 1)) (e2 pIx (eB 0) (e1 pNeg (eK (.int 1)))))))) (b := (sAug 3 pAddI (eK (.int 1)))) (β := Nat) (fun n ρ => n ≤ k ∧ ρ = [.val (iT t), .val (.int c), .val (.int w), .val (nI n)]) (fun n => n + 1) (fun n => decide (w * ((n : Int) + 1) * ((n : Int) + 1) ≤ 2 * c * t.getLastD 0)) (by
    rintro n _ ⟨hn, rfl⟩
    have hs : Sm ((n : Int) + 1) := by unfold Sm; omega
    constructor
    · simp only [eK, eV, eB, e1, e2, aNil, aCons, eCall, eIf, cB, cAnd, cOr, cNot, cYes, cTru, eAnd, eOr, eNot, eNotT, e3c, eSl, eSlL, oNone, oSome, toB, toI, toL, pTru, pIsN, pNotN, isNone, gN, gT, gCons', gNil', sNil, thenF, sRet, sBrk, sCnt, sAsg, sOwn, sAug, sApp, sFz, sPar, mVal, mOwn, mNil, setAllE, ownL, sIf, sSetI, lSeq, lRng1, lRng2, lEnum, wipeE, pLen, pInt, pAbs, pTuple, pList, pNeg, pSub, pAddI, pPlus_i, pMul_i, pDiv_i, pMod_i, pEq_i, pNe_i, pLt_i, pLe_i, pGt_i, pGe_i, pMin2, pMax2, pTup_s, pLst_s, outF, Option.bind_some, Option.bind_none, List.getElem?_cons_succ, List.getElem?_cons_zero, List.length_cons, List.length_nil, List.set_cons_succ, List.set_cons_zero, Nat.reduceAdd, Nat.reduceLT, Nat.reduceSub, Nat.lt_irrefl, if_true, if_false, ite_true, ite_false, reduceIte, ↓reduceIte, Bool.not_true, Bool.not_false, Bool.false_eq_true, decide_true, not_true_eq_false, not_false_eq_true, decide_false, decide_eq_true_eq, Bool.not_eq_true', decide_eq_false_iff_not, Bool.not_eq_eq_eq_not, m2, mulOk_r hm, mulOk_r hs, ix_t1 ht]
    · intro hp
      have hp := of_decide_eq_true hp
      refine ⟨_, rfl, ?_, rfl⟩
      rcases Nat.lt_or_ge n k with h' | h'
      · exact h'
      · have : n = k := by omega
        subst this
        exact absurd hp hf) k wfuel 0 [.val (iT t), .val (.int c), .val (.int w), .val (nI 0)] (fun j hj => by rw [rep_succ, Nat.zero_add]; exact decide_eq_true (h.1 j hj)) (by rw [rep_succ, Nat.zero_add]; exact decide_eq_false hf) (by unfold wfuel; omega) ⟨Nat.zero_le _, rfl⟩
  obtain ⟨ρ', e, _, rfl⟩ := st
  rw [rep_succ, Nat.zero_add] at e
  exact sq_nx rfl (sq_nx e rfl)
theorem Sp.of {w M : Int} (hw : 0 < w) (n : Nat) (hM : M < w * (n + 1) * (n + 1)) : ∃ k, k ≤ n ∧ Sp w M k := by
  obtain ⟨k, hk, h1, h2⟩ := first_not (P := fun n : Nat => decide (w * ((n : Int) + 1) * ((n : Int) + 1) ≤ M)) n (decide_eq_false (by omega))
  exact ⟨k, hk, fun j hj => of_decide_eq_true (h1 j hj), by have := of_decide_eq_false h2; omega⟩
/-- squares grow -/
theorem sq_mono {w : Int} (hw : 0 < w) {a b : Int} (h0 : 0 ≤ a) (h : a ≤ b) : w * a * a ≤ w * b * b := by
  rw [Int.mul_assoc, Int.mul_assoc]
  exact Int.mul_le_mul_of_nonneg_left (Int.mul_le_mul h h h0 (by omega)) (by omega)
theorem Sp.stp {w M : Int} {k : Nat} (hw : 0 < w) (hM : 0 ≤ M) (h : Sp w M k) (s : Int) (h0 : 0 ≤ s) : w * s * s ≤ M ↔ s ≤ k := by
  constructor
  · intro hs
    rcases Int.lt_or_le (k : Int) s with g | g
    · have := sq_mono hw (a := (k : Int) + 1) (b := s) (by omega) (by omega)
      have := h.2
      omega
    · exact g
  · intro hs
    cases k with
    | zero =>
      have : s = 0 := by omega
      rw [this, Int.mul_zero]
      exact hM
    | succ k =>
      have h1 := h.1 k (by omega)
      have h2 := sq_mono hw (a := s) (b := (k : Int) + 1) h0 (by omega)
      omega
theorem Sp.of_stp {w M : Int} {k : Nat} (h : ∀ s : Int, 0 ≤ s → (w * s * s ≤ M ↔ s ≤ k)) : Sp w M k := ⟨fun j hj => (h (j + 1) (by omega)).2 (by omega), by
  have := (h (k + 1) (by omega)).1
  omega⟩
theorem st_row {t : List Int} {c w : Int} {k : Nat} (ht : t ≠ []) (hn : t.length ≤ 1000) (hx : ∀ x ∈ t, Sm x) (hc : Sm c) (hw : Sm w) (hk : k ≤ 1000) (h : Sp w (2 * c * t.getLastD 0) k) : f_press_row [iT t, .int c, .int w] = some (.tuple ((List.range (k + 1)).map fun (s : Nat) => pO (prs t c w s))) := by
  refine fn_rt ?_
  have hm : Sm (t.getLastD 0) := hx _ (lastD_mem ht)
  have ec := ec_map (L := (lRng1 (e2 pPlus (eCall f_speed_most (aCons (eV 0) (aCons (eV 1) (aCons (eV 2) aNil)))) (eK (.int 1))))) (vs := [3]) (h := gN 3) (c := cYes) (e := (eCall f_fender_stop (aCons (eV 0) (aCons (eV 1) (aCons (eV 2) (aCons (eV 3) aNil)))))) (ρ := [.val (iT t), .val (.int c), .val (.int w), .un]) nI (fun s => pO (prs t c w s)) (l := List.range (k + 1)) (rg_1 (n := (k : Int) + 1) (by simp only [eK, eV, eB, e1, e2, aNil, aCons, eCall, eIf, cB, cAnd, cOr, cNot, cYes, cTru, eAnd, eOr, eNot, eNotT, e3c, eSl, eSlL, oNone, oSome, toB, toI, toL, pTru, pIsN, pNotN, isNone, gN, gT, gCons', gNil', sNil, thenF, sRet, sBrk, sCnt, sAsg, sOwn, sAug, sApp, sFz, sPar, mVal, mOwn, mNil, setAllE, ownL, sIf, sSetI, lSeq, lRng1, lRng2, lEnum, wipeE, pLen, pInt, pAbs, pTuple, pList, pNeg, pSub, pAddI, pPlus_i, pMul_i, pDiv_i, pMod_i, pEq_i, pNe_i, pLt_i, pLe_i, pGt_i, pGe_i, pMin2, pMax2, pTup_s, pLst_s, outF, Option.bind_some, Option.bind_none, List.getElem?_cons_succ, List.getElem?_cons_zero, List.length_cons, List.length_nil, List.set_cons_succ, List.set_cons_zero, Nat.reduceAdd, Nat.reduceLT, Nat.reduceSub, Nat.lt_irrefl, if_true, if_false, ite_true, ite_false, reduceIte, ↓reduceIte, Bool.not_true, Bool.not_false, Bool.false_eq_true, decide_true, not_true_eq_false, not_false_eq_true, decide_false, decide_eq_true_eq, Bool.not_eq_true', decide_eq_false_iff_not, Bool.not_eq_eq_eq_not, st_speed ht hm hw hk h]) (by omega) (by omega)) (by rw [List.length_range]; omega) fun s hs => ⟨_, rfl, rfl, by
    have hs := List.mem_range.1 hs
    have hS : Sm (s : Int) := by unfold Sm; omega
    simp only [eK, eV, eB, e1, e2, aNil, aCons, eCall, eIf, cB, cAnd, cOr, cNot, cYes, cTru, eAnd, eOr, eNot, eNotT, e3c, eSl, eSlL, oNone, oSome, toB, toI, toL, pTru, pIsN, pNotN, isNone, gN, gT, gCons', gNil', sNil, thenF, sRet, sBrk, sCnt, sAsg, sOwn, sAug, sApp, sFz, sPar, mVal, mOwn, mNil, setAllE, ownL, sIf, sSetI, lSeq, lRng1, lRng2, lEnum, wipeE, pLen, pInt, pAbs, pTuple, pList, pNeg, pSub, pAddI, pPlus_i, pMul_i, pDiv_i, pMod_i, pEq_i, pNe_i, pLt_i, pLe_i, pGt_i, pGe_i, pMin2, pMax2, pTup_s, pLst_s, outF, Option.bind_some, Option.bind_none, List.getElem?_cons_succ, List.getElem?_cons_zero, List.length_cons, List.length_nil, List.set_cons_succ, List.set_cons_zero, Nat.reduceAdd, Nat.reduceLT, Nat.reduceSub, Nat.lt_irrefl, if_true, if_false, ite_true, ite_false, reduceIte, ↓reduceIte, Bool.not_true, Bool.not_false, Bool.false_eq_true, decide_true, not_true_eq_false, not_false_eq_true, decide_false, decide_eq_true_eq, Bool.not_eq_true', decide_eq_false_iff_not, Bool.not_eq_eq_eq_not, st_stop hn hc hw hS hx]⟩
  show Option.bind (Option.bind (eComp _ _ _ _ _ [.val (iT t), .val (.int c), .val (.int w), .un]) pTuple) _ = _
  rw [ec]
  rfl
/-! fenders needed -/
def ndd (t w s : Int) : Option Int := if w * s * s = 0 then some 0 else if t = 0 then none else some ((w * s * s + 2 * t - 1) / (2 * t))
def pI : Option Int → PV
  | some k => .int k
  | none => .none
theorem ceil_eq (N t : Int) (ht : 0 < t) : (N + 2 * t - 1) / (2 * t) = N / (2 * t) + (if N ≤ 2 * (N / (2 * t)) * t then 0 else 1) := by
  have e := Int.emod_add_ediv_mul N (2 * t)
  have h0 := Int.emod_nonneg N (show 2 * t ≠ 0 by omega)
  have h1 := Int.emod_lt_of_pos N (show 0 < 2 * t by omega)
  generalize hq : N / (2 * t) = q at *
  generalize hr : N % (2 * t) = r at *
  have e2 : 2 * q * t = q * (2 * t) := by rw [Int.mul_comm 2 q, Int.mul_assoc]
  rw [e2]
  split
  · have : r = 0 := by omega
    rw [show N + 2 * t - 1 = (2 * t - 1) + q * (2 * t) by omega, Int.add_mul_ediv_right _ _ (by omega), Int.ediv_eq_zero_of_lt (by omega) (by omega)]
    omega
  · rw [show N + 2 * t - 1 = (r - 1) + (q + 1) * (2 * t) by rw [Int.add_mul]; omega, Int.add_mul_ediv_right _ _ (by omega), Int.ediv_eq_zero_of_lt (by omega) (by omega)]
    omega
theorem st_need {t w s : Int} (hw : Sm w) (hs : Sm s) (ht : 0 ≤ t) (ht2 : t < 2 ^ 60) (hw0 : 0 < w) (hq : Sm (w * s * s / (2 * t))) : f__law_needed [.int t, .int w, .int s] = some (pI (ndd t w s)) := by
  refine fn_rt ?_
  have hN : w * s * s = 0 ↔ s = 0 := by
    constructor
    · intro h
      rcases Int.mul_eq_zero.1 h with h | h
      · rcases Int.mul_eq_zero.1 h with h | h
        · omega
        · exact h
      · exact h
    · rintro rfl
      rw [Int.mul_zero]
  by_cases h0 : s = 0
  · unfold ndd
    rw [if_pos (hN.2 h0)]
    exact sq_rt (if_t (by simp only [eK, eV, eB, e1, e2, aNil, aCons, eCall, eIf, cB, cAnd, cOr, cNot, cYes, cTru, eAnd, eOr, eNot, eNotT, e3c, eSl, eSlL, oNone, oSome, toB, toI, toL, pTru, pIsN, pNotN, isNone, gN, gT, gCons', gNil', sNil, thenF, sRet, sBrk, sCnt, sAsg, sOwn, sAug, sApp, sFz, sPar, mVal, mOwn, mNil, setAllE, ownL, sIf, sSetI, lSeq, lRng1, lRng2, lEnum, wipeE, pLen, pInt, pAbs, pTuple, pList, pNeg, pSub, pAddI, pPlus_i, pMul_i, pDiv_i, pMod_i, pEq_i, pNe_i, pLt_i, pLe_i, pGt_i, pGe_i, pMin2, pMax2, pTup_s, pLst_s, outF, Option.bind_some, Option.bind_none, List.getElem?_cons_succ, List.getElem?_cons_zero, List.length_cons, List.length_nil, List.set_cons_succ, List.set_cons_zero, Nat.reduceAdd, Nat.reduceLT, Nat.reduceSub, Nat.lt_irrefl, if_true, if_false, ite_true, ite_false, reduceIte, ↓reduceIte, Bool.not_true, Bool.not_false, Bool.false_eq_true, decide_true, not_true_eq_false, not_false_eq_true, decide_false, decide_eq_true_eq, Bool.not_eq_true', decide_eq_false_iff_not, Bool.not_eq_eq_eq_not, startE, List.map_cons, List.map_nil, List.cons_append, h0]) rfl)
  · refine sq_nx (if_f (by simp only [eK, eV, eB, e1, e2, aNil, aCons, eCall, eIf, cB, cAnd, cOr, cNot, cYes, cTru, eAnd, eOr, eNot, eNotT, e3c, eSl, eSlL, oNone, oSome, toB, toI, toL, pTru, pIsN, pNotN, isNone, gN, gT, gCons', gNil', sNil, thenF, sRet, sBrk, sCnt, sAsg, sOwn, sAug, sApp, sFz, sPar, mVal, mOwn, mNil, setAllE, ownL, sIf, sSetI, lSeq, lRng1, lRng2, lEnum, wipeE, pLen, pInt, pAbs, pTuple, pList, pNeg, pSub, pAddI, pPlus_i, pMul_i, pDiv_i, pMod_i, pEq_i, pNe_i, pLt_i, pLe_i, pGt_i, pGe_i, pMin2, pMax2, pTup_s, pLst_s, outF, Option.bind_some, Option.bind_none, List.getElem?_cons_succ, List.getElem?_cons_zero, List.length_cons, List.length_nil, List.set_cons_succ, List.set_cons_zero, Nat.reduceAdd, Nat.reduceLT, Nat.reduceSub, Nat.lt_irrefl, if_true, if_false, ite_true, ite_false, reduceIte, ↓reduceIte, Bool.not_true, Bool.not_false, Bool.false_eq_true, decide_true, not_true_eq_false, not_false_eq_true, decide_false, decide_eq_true_eq, Bool.not_eq_true', decide_eq_false_iff_not, Bool.not_eq_eq_eq_not, startE, List.map_cons, List.map_nil, List.cons_append, h0]) rfl) ?_
    unfold ndd
    rw [if_neg (fun h => h0 (hN.1 h))]
    by_cases h1 : t = 0
    · rw [if_pos h1]
      exact sq_rt (if_t (by simp only [eK, eV, eB, e1, e2, aNil, aCons, eCall, eIf, cB, cAnd, cOr, cNot, cYes, cTru, eAnd, eOr, eNot, eNotT, e3c, eSl, eSlL, oNone, oSome, toB, toI, toL, pTru, pIsN, pNotN, isNone, gN, gT, gCons', gNil', sNil, thenF, sRet, sBrk, sCnt, sAsg, sOwn, sAug, sApp, sFz, sPar, mVal, mOwn, mNil, setAllE, ownL, sIf, sSetI, lSeq, lRng1, lRng2, lEnum, wipeE, pLen, pInt, pAbs, pTuple, pList, pNeg, pSub, pAddI, pPlus_i, pMul_i, pDiv_i, pMod_i, pEq_i, pNe_i, pLt_i, pLe_i, pGt_i, pGe_i, pMin2, pMax2, pTup_s, pLst_s, outF, Option.bind_some, Option.bind_none, List.getElem?_cons_succ, List.getElem?_cons_zero, List.length_cons, List.length_nil, List.set_cons_succ, List.set_cons_zero, Nat.reduceAdd, Nat.reduceLT, Nat.reduceSub, Nat.lt_irrefl, if_true, if_false, ite_true, ite_false, reduceIte, ↓reduceIte, Bool.not_true, Bool.not_false, Bool.false_eq_true, decide_true, not_true_eq_false, not_false_eq_true, decide_false, decide_eq_true_eq, Bool.not_eq_true', decide_eq_false_iff_not, Bool.not_eq_eq_eq_not, startE, List.map_cons, List.map_nil, List.cons_append, h1]) rfl)
    · refine sq_nx (if_f (by simp only [eK, eV, eB, e1, e2, aNil, aCons, eCall, eIf, cB, cAnd, cOr, cNot, cYes, cTru, eAnd, eOr, eNot, eNotT, e3c, eSl, eSlL, oNone, oSome, toB, toI, toL, pTru, pIsN, pNotN, isNone, gN, gT, gCons', gNil', sNil, thenF, sRet, sBrk, sCnt, sAsg, sOwn, sAug, sApp, sFz, sPar, mVal, mOwn, mNil, setAllE, ownL, sIf, sSetI, lSeq, lRng1, lRng2, lEnum, wipeE, pLen, pInt, pAbs, pTuple, pList, pNeg, pSub, pAddI, pPlus_i, pMul_i, pDiv_i, pMod_i, pEq_i, pNe_i, pLt_i, pLe_i, pGt_i, pGe_i, pMin2, pMax2, pTup_s, pLst_s, outF, Option.bind_some, Option.bind_none, List.getElem?_cons_succ, List.getElem?_cons_zero, List.length_cons, List.length_nil, List.set_cons_succ, List.set_cons_zero, Nat.reduceAdd, Nat.reduceLT, Nat.reduceSub, Nat.lt_irrefl, if_true, if_false, ite_true, ite_false, reduceIte, ↓reduceIte, Bool.not_true, Bool.not_false, Bool.false_eq_true, decide_true, not_true_eq_false, not_false_eq_true, decide_false, decide_eq_true_eq, Bool.not_eq_true', decide_eq_false_iff_not, Bool.not_eq_eq_eq_not, startE, List.map_cons, List.map_nil, List.cons_append, h1]) rfl) ?_
      rw [if_neg h1, ceil_eq _ _ (by omega)]
      refine sq_nx (ρ' := [.val (.int t), .val (.int w), .val (.int s), .val (.int (w * s * s / (2 * t)))]) ?_ ?_
      · simp only [eK, eV, eB, e1, e2, aNil, aCons, eCall, eIf, cB, cAnd, cOr, cNot, cYes, cTru, eAnd, eOr, eNot, eNotT, e3c, eSl, eSlL, oNone, oSome, toB, toI, toL, pTru, pIsN, pNotN, isNone, gN, gT, gCons', gNil', sNil, thenF, sRet, sBrk, sCnt, sAsg, sOwn, sAug, sApp, sFz, sPar, mVal, mOwn, mNil, setAllE, ownL, sIf, sSetI, lSeq, lRng1, lRng2, lEnum, wipeE, pLen, pInt, pAbs, pTuple, pList, pNeg, pSub, pAddI, pPlus_i, pMul_i, pDiv_i, pMod_i, pEq_i, pNe_i, pLt_i, pLe_i, pGt_i, pGe_i, pMin2, pMax2, pTup_s, pLst_s, outF, Option.bind_some, Option.bind_none, List.getElem?_cons_succ, List.getElem?_cons_zero, List.length_cons, List.length_nil, List.set_cons_succ, List.set_cons_zero, Nat.reduceAdd, Nat.reduceLT, Nat.reduceSub, Nat.lt_irrefl, if_true, if_false, ite_true, ite_false, reduceIte, ↓reduceIte, Bool.not_true, Bool.not_false, Bool.false_eq_true, decide_true, not_true_eq_false, not_false_eq_true, decide_false, decide_eq_true_eq, Bool.not_eq_true', decide_eq_false_iff_not, Bool.not_eq_eq_eq_not, startE, List.map_cons, List.map_nil, List.cons_append, m2, mulOk_r hs, (show 0 < 2 * t by omega), (show (2 * t).natAbs < 2 ^ 63 by omega)]
        rfl
      · simp only [eK, eV, eB, e1, e2, aNil, aCons, eCall, eIf, cB, cAnd, cOr, cNot, cYes, cTru, eAnd, eOr, eNot, eNotT, e3c, eSl, eSlL, oNone, oSome, toB, toI, toL, pTru, pIsN, pNotN, isNone, gN, gT, gCons', gNil', sNil, thenF, sRet, sBrk, sCnt, sAsg, sOwn, sAug, sApp, sFz, sPar, mVal, mOwn, mNil, setAllE, ownL, sIf, sSetI, lSeq, lRng1, lRng2, lEnum, wipeE, pLen, pInt, pAbs, pTuple, pList, pNeg, pSub, pAddI, pPlus_i, pMul_i, pDiv_i, pMod_i, pEq_i, pNe_i, pLt_i, pLe_i, pGt_i, pGe_i, pMin2, pMax2, pTup_s, pLst_s, outF, Option.bind_some, Option.bind_none, List.getElem?_cons_succ, List.getElem?_cons_zero, List.length_cons, List.length_nil, List.set_cons_succ, List.set_cons_zero, Nat.reduceAdd, Nat.reduceLT, Nat.reduceSub, Nat.lt_irrefl, if_true, if_false, ite_true, ite_false, reduceIte, ↓reduceIte, Bool.not_true, Bool.not_false, Bool.false_eq_true, decide_true, not_true_eq_false, not_false_eq_true, decide_false, decide_eq_true_eq, Bool.not_eq_true', decide_eq_false_iff_not, Bool.not_eq_eq_eq_not, st_stops hq hw hs (show Sm t by unfold Sm; omega), stp]
        unfold pI
        by_cases c : w * s * s ≤ 2 * (w * s * s / (2 * t)) * t
        · simp only [c, eK, eV, eB, e1, e2, aNil, aCons, eCall, eIf, cB, cAnd, cOr, cNot, cYes, cTru, eAnd, eOr, eNot, eNotT, e3c, eSl, eSlL, oNone, oSome, toB, toI, toL, pTru, pIsN, pNotN, isNone, gN, gT, gCons', gNil', sNil, thenF, sRet, sBrk, sCnt, sAsg, sOwn, sAug, sApp, sFz, sPar, mVal, mOwn, mNil, setAllE, ownL, sIf, sSetI, lSeq, lRng1, lRng2, lEnum, wipeE, pLen, pInt, pAbs, pTuple, pList, pNeg, pSub, pAddI, pPlus_i, pMul_i, pDiv_i, pMod_i, pEq_i, pNe_i, pLt_i, pLe_i, pGt_i, pGe_i, pMin2, pMax2, pTup_s, pLst_s, outF, Option.bind_some, Option.bind_none, List.getElem?_cons_succ, List.getElem?_cons_zero, List.length_cons, List.length_nil, List.set_cons_succ, List.set_cons_zero, Nat.reduceAdd, Nat.reduceLT, Nat.reduceSub, Nat.lt_irrefl, if_true, if_false, ite_true, ite_false, reduceIte, ↓reduceIte, Bool.not_true, Bool.not_false, Bool.false_eq_true, decide_true, not_true_eq_false, not_false_eq_true, decide_false, decide_eq_true_eq, Bool.not_eq_true', decide_eq_false_iff_not, Bool.not_eq_eq_eq_not]
        · simp only [c, eK, eV, eB, e1, e2, aNil, aCons, eCall, eIf, cB, cAnd, cOr, cNot, cYes, cTru, eAnd, eOr, eNot, eNotT, e3c, eSl, eSlL, oNone, oSome, toB, toI, toL, pTru, pIsN, pNotN, isNone, gN, gT, gCons', gNil', sNil, thenF, sRet, sBrk, sCnt, sAsg, sOwn, sAug, sApp, sFz, sPar, mVal, mOwn, mNil, setAllE, ownL, sIf, sSetI, lSeq, lRng1, lRng2, lEnum, wipeE, pLen, pInt, pAbs, pTuple, pList, pNeg, pSub, pAddI, pPlus_i, pMul_i, pDiv_i, pMod_i, pEq_i, pNe_i, pLt_i, pLe_i, pGt_i, pGe_i, pMin2, pMax2, pTup_s, pLst_s, outF, Option.bind_some, Option.bind_none, List.getElem?_cons_succ, List.getElem?_cons_zero, List.length_cons, List.length_nil, List.set_cons_succ, List.set_cons_zero, Nat.reduceAdd, Nat.reduceLT, Nat.reduceSub, Nat.lt_irrefl, if_true, if_false, ite_true, ite_false, reduceIte, ↓reduceIte, Bool.not_true, Bool.not_false, Bool.false_eq_true, decide_true, not_true_eq_false, not_false_eq_true, decide_false, decide_eq_true_eq, Bool.not_eq_true', decide_eq_false_iff_not, Bool.not_eq_eq_eq_not]
theorem st_fneed {t : List Int} {p w s : Int} (hw : Sm w) (hs : Sm s) (ht : ∀ x ∈ t, 0 ≤ x ∧ x < 2 ^ 60) (hp : 0 ≤ p) (hp2 : p < t.length) : f_fenders_needed [iT t, .int p, .int w, .int s] = some (pI (ndd (t.getD p.toNat 0) w s)) := by
  refine fn_rt ?_
  have hx := ht _ (gd_mem (t := t) (k := p.toNat) (by omega))
  have x := ix_t hp hp2
  have mn : (if (t.length : Int) - 1 < p then (t.length : Int) - 1 else p) = p := if_neg (by omega)
  generalize t.getD p.toNat 0 = T at *
  refine sq_nx (ρ' := [.val (iT t), .val (.int p), .val (.int w), .val (.int s), .val (.int (w * s * s)), .val (.int T)]) ?_ ?_
  · simp only [eK, eV, eB, e1, e2, aNil, aCons, eCall, eIf, cB, cAnd, cOr, cNot, cYes, cTru, eAnd, eOr, eNot, eNotT, e3c, eSl, eSlL, oNone, oSome, toB, toI, toL, pTru, pIsN, pNotN, isNone, gN, gT, gCons', gNil', sNil, thenF, sRet, sBrk, sCnt, sAsg, sOwn, sAug, sApp, sFz, sPar, mVal, mOwn, mNil, setAllE, ownL, sIf, sSetI, lSeq, lRng1, lRng2, lEnum, wipeE, pLen, pInt, pAbs, pTuple, pList, pNeg, pSub, pAddI, pPlus_i, pMul_i, pDiv_i, pMod_i, pEq_i, pNe_i, pLt_i, pLe_i, pGt_i, pGe_i, pMin2, pMax2, pTup_s, pLst_s, outF, Option.bind_some, Option.bind_none, List.getElem?_cons_succ, List.getElem?_cons_zero, List.length_cons, List.length_nil, List.set_cons_succ, List.set_cons_zero, Nat.reduceAdd, Nat.reduceLT, Nat.reduceSub, Nat.lt_irrefl, if_true, if_false, ite_true, ite_false, reduceIte, ↓reduceIte, Bool.not_true, Bool.not_false, Bool.false_eq_true, decide_true, not_true_eq_false, not_false_eq_true, decide_false, decide_eq_true_eq, Bool.not_eq_true', decide_eq_false_iff_not, Bool.not_eq_eq_eq_not, startE, List.map_cons, List.map_nil, List.cons_append, List.length_map, mulOk_r hs, mn, x]
    rfl
  · unfold ndd
    by_cases h0 : w * s * s = 0
    · rw [if_pos h0]
      exact sq_rt (if_t (by simp only [eK, eV, eB, e1, e2, aNil, aCons, eCall, eIf, cB, cAnd, cOr, cNot, cYes, cTru, eAnd, eOr, eNot, eNotT, e3c, eSl, eSlL, oNone, oSome, toB, toI, toL, pTru, pIsN, pNotN, isNone, gN, gT, gCons', gNil', sNil, thenF, sRet, sBrk, sCnt, sAsg, sOwn, sAug, sApp, sFz, sPar, mVal, mOwn, mNil, setAllE, ownL, sIf, sSetI, lSeq, lRng1, lRng2, lEnum, wipeE, pLen, pInt, pAbs, pTuple, pList, pNeg, pSub, pAddI, pPlus_i, pMul_i, pDiv_i, pMod_i, pEq_i, pNe_i, pLt_i, pLe_i, pGt_i, pGe_i, pMin2, pMax2, pTup_s, pLst_s, outF, Option.bind_some, Option.bind_none, List.getElem?_cons_succ, List.getElem?_cons_zero, List.length_cons, List.length_nil, List.set_cons_succ, List.set_cons_zero, Nat.reduceAdd, Nat.reduceLT, Nat.reduceSub, Nat.lt_irrefl, if_true, if_false, ite_true, ite_false, reduceIte, ↓reduceIte, Bool.not_true, Bool.not_false, Bool.false_eq_true, decide_true, not_true_eq_false, not_false_eq_true, decide_false, decide_eq_true_eq, Bool.not_eq_true', decide_eq_false_iff_not, Bool.not_eq_eq_eq_not, h0]) rfl)
    · rw [if_neg h0]
      refine sq_nx (if_f (by simp only [eK, eV, eB, e1, e2, aNil, aCons, eCall, eIf, cB, cAnd, cOr, cNot, cYes, cTru, eAnd, eOr, eNot, eNotT, e3c, eSl, eSlL, oNone, oSome, toB, toI, toL, pTru, pIsN, pNotN, isNone, gN, gT, gCons', gNil', sNil, thenF, sRet, sBrk, sCnt, sAsg, sOwn, sAug, sApp, sFz, sPar, mVal, mOwn, mNil, setAllE, ownL, sIf, sSetI, lSeq, lRng1, lRng2, lEnum, wipeE, pLen, pInt, pAbs, pTuple, pList, pNeg, pSub, pAddI, pPlus_i, pMul_i, pDiv_i, pMod_i, pEq_i, pNe_i, pLt_i, pLe_i, pGt_i, pGe_i, pMin2, pMax2, pTup_s, pLst_s, outF, Option.bind_some, Option.bind_none, List.getElem?_cons_succ, List.getElem?_cons_zero, List.length_cons, List.length_nil, List.set_cons_succ, List.set_cons_zero, Nat.reduceAdd, Nat.reduceLT, Nat.reduceSub, Nat.lt_irrefl, if_true, if_false, ite_true, ite_false, reduceIte, ↓reduceIte, Bool.not_true, Bool.not_false, Bool.false_eq_true, decide_true, not_true_eq_false, not_false_eq_true, decide_false, decide_eq_true_eq, Bool.not_eq_true', decide_eq_false_iff_not, Bool.not_eq_eq_eq_not, h0]) rfl) ?_
      by_cases h1 : T = 0
      · rw [if_pos h1]
        simp only [eK, eV, eB, e1, e2, aNil, aCons, eCall, eIf, cB, cAnd, cOr, cNot, cYes, cTru, eAnd, eOr, eNot, eNotT, e3c, eSl, eSlL, oNone, oSome, toB, toI, toL, pTru, pIsN, pNotN, isNone, gN, gT, gCons', gNil', sNil, thenF, sRet, sBrk, sCnt, sAsg, sOwn, sAug, sApp, sFz, sPar, mVal, mOwn, mNil, setAllE, ownL, sIf, sSetI, lSeq, lRng1, lRng2, lEnum, wipeE, pLen, pInt, pAbs, pTuple, pList, pNeg, pSub, pAddI, pPlus_i, pMul_i, pDiv_i, pMod_i, pEq_i, pNe_i, pLt_i, pLe_i, pGt_i, pGe_i, pMin2, pMax2, pTup_s, pLst_s, outF, Option.bind_some, Option.bind_none, List.getElem?_cons_succ, List.getElem?_cons_zero, List.length_cons, List.length_nil, List.set_cons_succ, List.set_cons_zero, Nat.reduceAdd, Nat.reduceLT, Nat.reduceSub, Nat.lt_irrefl, if_true, if_false, ite_true, ite_false, reduceIte, ↓reduceIte, Bool.not_true, Bool.not_false, Bool.false_eq_true, decide_true, not_true_eq_false, not_false_eq_true, decide_false, decide_eq_true_eq, Bool.not_eq_true', decide_eq_false_iff_not, Bool.not_eq_eq_eq_not, h1, pI]
      · rw [if_neg h1]
        simp only [eK, eV, eB, e1, e2, aNil, aCons, eCall, eIf, cB, cAnd, cOr, cNot, cYes, cTru, eAnd, eOr, eNot, eNotT, e3c, eSl, eSlL, oNone, oSome, toB, toI, toL, pTru, pIsN, pNotN, isNone, gN, gT, gCons', gNil', sNil, thenF, sRet, sBrk, sCnt, sAsg, sOwn, sAug, sApp, sFz, sPar, mVal, mOwn, mNil, setAllE, ownL, sIf, sSetI, lSeq, lRng1, lRng2, lEnum, wipeE, pLen, pInt, pAbs, pTuple, pList, pNeg, pSub, pAddI, pPlus_i, pMul_i, pDiv_i, pMod_i, pEq_i, pNe_i, pLt_i, pLe_i, pGt_i, pGe_i, pMin2, pMax2, pTup_s, pLst_s, outF, Option.bind_some, Option.bind_none, List.getElem?_cons_succ, List.getElem?_cons_zero, List.length_cons, List.length_nil, List.set_cons_succ, List.set_cons_zero, Nat.reduceAdd, Nat.reduceLT, Nat.reduceSub, Nat.lt_irrefl, if_true, if_false, ite_true, ite_false, reduceIte, ↓reduceIte, Bool.not_true, Bool.not_false, Bool.false_eq_true, decide_true, not_true_eq_false, not_false_eq_true, decide_false, decide_eq_true_eq, Bool.not_eq_true', decide_eq_false_iff_not, Bool.not_eq_eq_eq_not, h1, pI, m2, (show 0 < 2 * T by omega), (show (2 * T).natAbs < 2 ^ 63 by omega)]
/-! the table -/
/-- what the loop keeps -/
structure Tb (k : Nat) (t : List Int) (now : Int) : Prop where
  len : t.length = k
  low : ∀ x ∈ t, 0 ≤ x ∧ x ≤ now
  mono : t.Pairwise (· ≤ ·)
  n0 : 0 ≤ now
  n1 : now ≤ 4 + 29 * k
theorem Tb.next {k : Nat} {t : List Int} {now x : Int} (h : Tb k t now) (h0 : 0 ≤ x) (h1 : x ≤ 29) : Tb (k + 1) (t ++ [now]) (now + x) := by
  have n0 := h.n0
  have n1 := h.n1
  refine ⟨by rw [List.length_append, h.len]; rfl, fun y hy => ?_, ?_, by omega, by omega⟩
  · rcases List.mem_append.1 hy with hy | hy
    · have := h.low y hy
      omega
    · rw [List.mem_singleton] at hy
      omega
  · rw [List.pairwise_append]
    refine ⟨h.mono, List.pairwise_singleton .., fun a ha b hb => ?_⟩
    rw [List.mem_singleton] at hb
    have := h.low a ha
    omega
def SpRow (g : List PV → Option PV) : Prop := ∀ ns : List Int, ∃ r : List Int, g [iL ns, .int 26] = some (iL r) ∧ r.length = 26 ∧ Rw r
def SpLike (g : List PV → Option PV) : Prop := ∀ v, Lk 8 v → g [v, v] = some (.bool true)
def SpStops (g : List PV → Option PV) : Prop := ∀ {t c w s : Int}, Sm c → Sm w → Sm s → Sm t → g [.int t, .int c, .int w, .int s] = some (.bool (stp t c w s))
def SpPress (g : List PV → Option PV) : Prop := ∀ {t : List Int} {c w s : Int}, t.length ≤ 1000 → Sm c → Sm w → Sm s → (∀ x ∈ t, Sm x) → g [iT t, .int c, .int w, .int s] = some (pO (prs t c w s))
def SpSpeed (g : List PV → Option PV) : Prop := ∀ {t : List Int} {c w : Int} {k : Nat}, t ≠ [] → Sm (t.getLastD 0) → Sm w → k ≤ 1000 → Sp w (2 * c * t.getLastD 0) k → g [iT t, .int c, .int w] = some (nI k)
def SpPRow (g : List PV → Option PV) : Prop := ∀ {t : List Int} {c w : Int} {k : Nat}, t ≠ [] → t.length ≤ 1000 → (∀ x ∈ t, Sm x) → Sm c → Sm w → k ≤ 1000 → Sp w (2 * c * t.getLastD 0) k → g [iT t, .int c, .int w] = some (.tuple ((List.range (k + 1)).map fun (s : Nat) => pO (prs t c w s)))
def SpNeed (g : List PV → Option PV) : Prop := ∀ {t w s : Int}, Sm w → Sm s → 0 ≤ t → t < 2 ^ 60 → 0 < w → Sm (w * s * s / (2 * t)) → g [.int t, .int w, .int s] = some (pI (ndd t w s))
def SpFNeed (g : List PV → Option PV) : Prop := ∀ {t : List Int} {p w s : Int}, Sm w → Sm s → (∀ x ∈ t, 0 ≤ x ∧ x < 2 ^ 60) → 0 ≤ p → p < t.length → g [iT t, .int p, .int w, .int s] = some (pI (ndd (t.getD p.toNat 0) w s))
theorem law_core {g1 g2 g3 g4 g5 g6 g7 g8 g9 : List PV → Option PV} (hrow : SpRow g1) (hstops : SpStops g2) (hpress : SpPress g3) (hlike : SpLike g4) (hspeed : SpSpeed g5) (hstop : SpPress g6) (hprow : SpPRow g7) (hneed : SpNeed g8) (hfneed : SpFNeed g9) (ns : List Int) : b_law g1 g2 g3 g4 g5 g6 g7 g8 g9 (startE 15 [iL ns]) = some (.ret (.bool true)) := by
  obtain ⟨r, hr, hl, hw⟩ := hrow ns
  have B := gR_b hw
  refine sq_nx (ρ' := [.val (iL ns), .val (iL r), .un, .un, .un, .un, .un, .un, .un, .un, .un, .un, .un, .un, .un]) ?_ ?_
  · simp only [eK, eV, eB, e1, e2, aNil, aCons, eCall, eIf, cB, cAnd, cOr, cNot, cYes, cTru, eAnd, eOr, eNot, eNotT, e3c, eSl, eSlL, oNone, oSome, toB, toI, toL, pTru, pIsN, pNotN, isNone, gN, gT, gCons', gNil', sNil, thenF, sRet, sBrk, sCnt, sAsg, sOwn, sAug, sApp, sFz, sPar, mVal, mOwn, mNil, setAllE, ownL, sIf, sSetI, lSeq, lRng1, lRng2, lEnum, wipeE, pLen, pInt, pAbs, pTuple, pList, pNeg, pSub, pAddI, pPlus_i, pMul_i, pDiv_i, pMod_i, pEq_i, pNe_i, pLt_i, pLe_i, pGt_i, pGe_i, pMin2, pMax2, pTup_s, pLst_s, outF, Option.bind_some, Option.bind_none, List.getElem?_cons_succ, List.getElem?_cons_zero, List.length_cons, List.length_nil, List.set_cons_succ, List.set_cons_zero, Nat.reduceAdd, Nat.reduceLT, Nat.reduceSub, Nat.lt_irrefl, if_true, if_false, ite_true, ite_false, reduceIte, ↓reduceIte, Bool.not_true, Bool.not_false, Bool.false_eq_true, decide_true, not_true_eq_false, not_false_eq_true, decide_false, decide_eq_true_eq, Bool.not_eq_true', decide_eq_false_iff_not, Bool.not_eq_eq_eq_not, startE, List.map_cons, List.map_nil, List.cons_append, hr]
    rfl
  refine sq_nx (ρ' := [.val (iL ns), .val (iL r), .own (iL []), .val (.int (gR r 0 % 5)), .un, .un, .un, .un, .un, .un, .un, .un, .un, .un, .un]) ?_ ?_
  · simp only [eK, eV, eB, e1, e2, aNil, aCons, eCall, eIf, cB, cAnd, cOr, cNot, cYes, cTru, eAnd, eOr, eNot, eNotT, e3c, eSl, eSlL, oNone, oSome, toB, toI, toL, pTru, pIsN, pNotN, isNone, gN, gT, gCons', gNil', sNil, thenF, sRet, sBrk, sCnt, sAsg, sOwn, sAug, sApp, sFz, sPar, mVal, mOwn, mNil, setAllE, ownL, sIf, sSetI, lSeq, lRng1, lRng2, lEnum, wipeE, pLen, pInt, pAbs, pTuple, pList, pNeg, pSub, pAddI, pPlus_i, pMul_i, pDiv_i, pMod_i, pEq_i, pNe_i, pLt_i, pLe_i, pGt_i, pGe_i, pMin2, pMax2, pTup_s, pLst_s, outF, Option.bind_some, Option.bind_none, List.getElem?_cons_succ, List.getElem?_cons_zero, List.length_cons, List.length_nil, List.set_cons_succ, List.set_cons_zero, Nat.reduceAdd, Nat.reduceLT, Nat.reduceSub, Nat.lt_irrefl, if_true, if_false, ite_true, ite_false, reduceIte, ↓reduceIte, Bool.not_true, Bool.not_false, Bool.false_eq_true, decide_true, not_true_eq_false, not_false_eq_true, decide_false, decide_eq_true_eq, Bool.not_eq_true', decide_eq_false_iff_not, Bool.not_eq_eq_eq_not, rx hl 0, (by decide : (0:Int) < 5), (by decide : (0 ≤ 16777216) = True), List.map_nil]
    rfl
  -- the table
  obtain ⟨D, hD, hD0, hD1⟩ : ∃ D : Int, pIx (.tuple [.int 4, .int 30]) (.int (gR r 11 % 2)) = some (.int D) ∧ 0 < D ∧ D ≤ 30 := by
    rcases (by omega : gR r 11 % 2 = 0 ∨ gR r 11 % 2 = 1) with h | h
    · exact ⟨4, by rw [h]; rfl, by decide, by decide⟩
    · exact ⟨30, by rw [h]; rfl, by decide, by decide⟩
  obtain ⟨n, hn⟩ : ∃ n : Nat, 2 + gR r 24 % 8 = n := ⟨(2 + gR r 24 % 8).toNat, by have := B 24; omega⟩
  have hn1 : 2 ≤ n ∧ n ≤ 9 := by have := B 24; omega
  have lp := lp_range (h := gN 4) (b := (sSeq (sApp 2 (eV 3)) (sAsg (e2 pPlus (eB 3) (e2 pMod (e1 pInt (e2 pIx (eB 1) (e2 pPlus (eK (.int 2)) (eB 4)))) (e2 pIx (eCall pTup (aCons (eK (.int 4)) (aCons (eK (.int 30)) aNil))) (e2 pMod (e1 pInt (e2 pIx (eB 1) (eK (.int 11)))) (eK (.int 2)))))) (gN 3)))) (fun k ρ => ∃ t now x, ρ = [.val (iL ns), .val (iL r), .own (iL t), .val (.int now), x, .un, .un, .un, .un, .un, .un, .un, .un, .un, .un] ∧ Tb k t now) n (by
    rintro k hk _ ⟨t, now, x, rfl, T⟩
    refine ⟨_, [.val (iL ns), .val (iL r), .own (iL (t ++ [now])), .val (.int (now + gR r (2 + k) % D)), .val (nI k), .un, .un, .un, .un, .un, .un, .un, .un, .un, .un], rfl, sq_nx (ρ' := [.val (iL ns), .val (iL r), .own (iL (t ++ [now])), .val (.int now), .val (nI k), .un, .un, .un, .un, .un, .un, .un, .un, .un, .un]) ?_ ?_, _, _, _, rfl, T.next (Int.emod_nonneg _ (by omega)) (by have := Int.emod_lt_of_pos (gR r (2 + k)) hD0; omega)⟩
    · have tl : (t.length < sizeLine) = True := eq_true (by rw [szl, T.len]; omega)
      simp only [eK, eV, eB, e1, e2, aNil, aCons, eCall, eIf, cB, cAnd, cOr, cNot, cYes, cTru, eAnd, eOr, eNot, eNotT, e3c, eSl, eSlL, oNone, oSome, toB, toI, toL, pTru, pIsN, pNotN, isNone, gN, gT, gCons', gNil', sNil, thenF, sRet, sBrk, sCnt, sAsg, sOwn, sAug, sApp, sFz, sPar, mVal, mOwn, mNil, setAllE, ownL, sIf, sSetI, lSeq, lRng1, lRng2, lEnum, wipeE, pLen, pInt, pAbs, pTuple, pList, pNeg, pSub, pAddI, pPlus_i, pMul_i, pDiv_i, pMod_i, pEq_i, pNe_i, pLt_i, pLe_i, pGt_i, pGe_i, pMin2, pMax2, pTup_s, pLst_s, outF, Option.bind_some, Option.bind_none, List.getElem?_cons_succ, List.getElem?_cons_zero, List.length_cons, List.length_nil, List.set_cons_succ, List.set_cons_zero, Nat.reduceAdd, Nat.reduceLT, Nat.reduceSub, Nat.lt_irrefl, if_true, if_false, ite_true, ite_false, reduceIte, ↓reduceIte, Bool.not_true, Bool.not_false, Bool.false_eq_true, decide_true, not_true_eq_false, not_false_eq_true, decide_false, decide_eq_true_eq, Bool.not_eq_true', decide_eq_false_iff_not, Bool.not_eq_eq_eq_not, iL, List.length_map, tl, List.map_append, List.map_cons, List.map_nil]
    · simp only [eK, eV, eB, e1, e2, aNil, aCons, eCall, eIf, cB, cAnd, cOr, cNot, cYes, cTru, eAnd, eOr, eNot, eNotT, e3c, eSl, eSlL, oNone, oSome, toB, toI, toL, pTru, pIsN, pNotN, isNone, gN, gT, gCons', gNil', sNil, thenF, sRet, sBrk, sCnt, sAsg, sOwn, sAug, sApp, sFz, sPar, mVal, mOwn, mNil, setAllE, ownL, sIf, sSetI, lSeq, lRng1, lRng2, lEnum, wipeE, pLen, pInt, pAbs, pTuple, pList, pNeg, pSub, pAddI, pPlus_i, pMul_i, pDiv_i, pMod_i, pEq_i, pNe_i, pLt_i, pLe_i, pGt_i, pGe_i, pMin2, pMax2, pTup_s, pLst_s, outF, Option.bind_some, Option.bind_none, List.getElem?_cons_succ, List.getElem?_cons_zero, List.length_cons, List.length_nil, List.set_cons_succ, List.set_cons_zero, Nat.reduceAdd, Nat.reduceLT, Nat.reduceSub, Nat.lt_irrefl, if_true, if_false, ite_true, ite_false, reduceIte, ↓reduceIte, Bool.not_true, Bool.not_false, Bool.false_eq_true, decide_true, not_true_eq_false, not_false_eq_true, decide_false, decide_eq_true_eq, Bool.not_eq_true', decide_eq_false_iff_not, Bool.not_eq_eq_eq_not, rx hl 11, rx hl (2 + k) (by omega) (by omega), (by decide : (0:Int) < 2), hD, hD0, List.length_cons, (by decide : (2 ≤ 16777216) = True)]) [.val (iL ns), .val (iL r), .own (iL []), .val (.int (gR r 0 % 5)), .un, .un, .un, .un, .un, .un, .un, .un, .un, .un, .un] ⟨[], _, .un, rfl, ⟨rfl, fun x hx => (by cases hx), List.Pairwise.nil, by have := B 0; omega, by have := B 0; omega⟩⟩
  obtain ⟨ρ', e, t, now, x, rfl, T'⟩ := lp
  refine sq_nx (ρ' := [.val (iL ns), .val (iL r), .own (iL t), .val (.int now), x, .un, .un, .un, .un, .un, .un, .un, .un, .un, .un]) ?_ ?_
  · refine (congrArg (fun l => Option.bind l _) (rg_1 (n := n) ?_ (by omega) (by omega))).trans ?_
    · simp only [eK, eV, eB, e1, e2, aNil, aCons, eCall, eIf, cB, cAnd, cOr, cNot, cYes, cTru, eAnd, eOr, eNot, eNotT, e3c, eSl, eSlL, oNone, oSome, toB, toI, toL, pTru, pIsN, pNotN, isNone, gN, gT, gCons', gNil', sNil, thenF, sRet, sBrk, sCnt, sAsg, sOwn, sAug, sApp, sFz, sPar, mVal, mOwn, mNil, setAllE, ownL, sIf, sSetI, lSeq, lRng1, lRng2, lEnum, wipeE, pLen, pInt, pAbs, pTuple, pList, pNeg, pSub, pAddI, pPlus_i, pMul_i, pDiv_i, pMod_i, pEq_i, pNe_i, pLt_i, pLe_i, pGt_i, pGe_i, pMin2, pMax2, pTup_s, pLst_s, outF, Option.bind_some, Option.bind_none, List.getElem?_cons_succ, List.getElem?_cons_zero, List.length_cons, List.length_nil, List.set_cons_succ, List.set_cons_zero, Nat.reduceAdd, Nat.reduceLT, Nat.reduceSub, Nat.lt_irrefl, if_true, if_false, ite_true, ite_false, reduceIte, ↓reduceIte, Bool.not_true, Bool.not_false, Bool.false_eq_true, decide_true, not_true_eq_false, not_false_eq_true, decide_false, decide_eq_true_eq, Bool.not_eq_true', decide_eq_false_iff_not, Bool.not_eq_eq_eq_not, rx hl 24, (by decide : (0:Int) < 8), hn]
    · exact e
  have tp : 0 < t.length := by have := T'.len; omega
  have tn : t ≠ [] := List.length_pos_iff.1 tp
  have tL : t.length = n := T'.len
  have tb : ∀ x ∈ t, 0 ≤ x ∧ x < 2 ^ 60 := fun x hx => by have := T'.low x hx; have := T'.n1; omega
  have ts : ∀ x ∈ t, Sm x := fun x hx => by have := tb x hx; unfold Sm; omega
  have tlast := tb _ (lastD_mem tn)
  have tlast2 : t.getLastD 0 ≤ 270 := by have := T'.low _ (lastD_mem tn); have := T'.n1; omega
  obtain ⟨C, hC⟩ : ∃ C, 1 + gR r 12 % 6 = C := ⟨_, rfl⟩
  have C0 : 1 ≤ C ∧ C ≤ 6 := by have := B 12; omega
  obtain ⟨W, hW⟩ : ∃ W, 1 + gR r 13 % 9 = W := ⟨_, rfl⟩
  have W0 : 1 ≤ W ∧ W ≤ 9 := by have := B 13; omega
  obtain ⟨S, hS⟩ : ∃ S, gR r 14 % 31 = S := ⟨_, rfl⟩
  have S0 : 0 ≤ S ∧ S ≤ 30 := by have := B 14; omega
  have sC : Sm C := by unfold Sm; omega
  have sW : Sm W := by unfold Sm; omega
  have sS : Sm S := by unfold Sm; omega
  refine sq_nx (ρ' := [.val (iL ns), .val (iL r), .val (iT t), .val (.int now), x, .val (.int C), .val (.int W), .val (.int S), .un, .un, .un, .un, .un, .un, .un]) (by simp only [eK, eV, eB, e1, e2, aNil, aCons, eCall, eIf, cB, cAnd, cOr, cNot, cYes, cTru, eAnd, eOr, eNot, eNotT, e3c, eSl, eSlL, oNone, oSome, toB, toI, toL, pTru, pIsN, pNotN, isNone, gN, gT, gCons', gNil', sNil, thenF, sRet, sBrk, sCnt, sAsg, sOwn, sAug, sApp, sFz, sPar, mVal, mOwn, mNil, setAllE, ownL, sIf, sSetI, lSeq, lRng1, lRng2, lEnum, wipeE, pLen, pInt, pAbs, pTuple, pList, pNeg, pSub, pAddI, pPlus_i, pMul_i, pDiv_i, pMod_i, pEq_i, pNe_i, pLt_i, pLe_i, pGt_i, pGe_i, pMin2, pMax2, pTup_s, pLst_s, outF, Option.bind_some, Option.bind_none, List.getElem?_cons_succ, List.getElem?_cons_zero, List.length_cons, List.length_nil, List.set_cons_succ, List.set_cons_zero, Nat.reduceAdd, Nat.reduceLT, Nat.reduceSub, Nat.lt_irrefl, if_true, if_false, ite_true, ite_false, reduceIte, ↓reduceIte, Bool.not_true, Bool.not_false, Bool.false_eq_true, decide_true, not_true_eq_false, not_false_eq_true, decide_false, decide_eq_true_eq, Bool.not_eq_true', decide_eq_false_iff_not, Bool.not_eq_eq_eq_not, rx hl 12, rx hl 13, rx hl 14, (by decide : (0:Int) < 6), (by decide : (0:Int) < 9), (by decide : (0:Int) < 31), hC, hW, hS] <;> rfl) ?_
  obtain ⟨p, hp⟩ : ∃ p, gR r 15 % (t.length : Int) = p := ⟨_, rfl⟩
  have p0 : 0 ≤ p ∧ p < t.length := by rw [← hp]; exact ⟨Int.emod_nonneg _ (by omega), Int.emod_lt_of_pos _ (by omega)⟩
  refine sq_nx (ρ' := [.val (iL ns), .val (iL r), .val (iT t), .val (.int now), x, .val (.int C), .val (.int W), .val (.int S), .val (.int p), .val (.int 0), .un, .un, .un, .un, .un]) (by simp only [eK, eV, eB, e1, e2, aNil, aCons, eCall, eIf, cB, cAnd, cOr, cNot, cYes, cTru, eAnd, eOr, eNot, eNotT, e3c, eSl, eSlL, oNone, oSome, toB, toI, toL, pTru, pIsN, pNotN, isNone, gN, gT, gCons', gNil', sNil, thenF, sRet, sBrk, sCnt, sAsg, sOwn, sAug, sApp, sFz, sPar, mVal, mOwn, mNil, setAllE, ownL, sIf, sSetI, lSeq, lRng1, lRng2, lEnum, wipeE, pLen, pInt, pAbs, pTuple, pList, pNeg, pSub, pAddI, pPlus_i, pMul_i, pDiv_i, pMod_i, pEq_i, pNe_i, pLt_i, pLe_i, pGt_i, pGe_i, pMin2, pMax2, pTup_s, pLst_s, outF, Option.bind_some, Option.bind_none, List.getElem?_cons_succ, List.getElem?_cons_zero, List.length_cons, List.length_nil, List.set_cons_succ, List.set_cons_zero, Nat.reduceAdd, Nat.reduceLT, Nat.reduceSub, Nat.lt_irrefl, if_true, if_false, ite_true, ite_false, reduceIte, ↓reduceIte, Bool.not_true, Bool.not_false, Bool.false_eq_true, decide_true, not_true_eq_false, not_false_eq_true, decide_false, decide_eq_true_eq, Bool.not_eq_true', decide_eq_false_iff_not, Bool.not_eq_eq_eq_not, rx hl 15, List.length_map, (by omega : (0:Int) < (t.length : Int)), hp] <;> rfl) ?_
  obtain ⟨k, hk, sp⟩ := Sp.of (w := W) (M := 2 * C * t.getLastD 0) (by omega) 79 (by
    have h1 : C * t.getLastD 0 ≤ 6 * 270 := Int.mul_le_mul C0.2 tlast2 tlast.1 (by omega)
    rw [Int.mul_assoc 2]
    omega)
  have M0 : 0 ≤ 2 * C * t.getLastD 0 := Int.mul_nonneg (by omega) tlast.1
  have stK : ∀ s : Int, 0 ≤ s → stp (t.getLastD 0) C W s = decide (s ≤ k) := fun s h => decide_eq_decide.2 (sp.stp (by omega) M0 s h)
  have lp := lp_rng (h := gN 4) (b := (sIf (cTru (eCall g2 (aCons (e2 pIx (eB 2) (e1 pNeg (eK (.int 1)))) (aCons (eV 5) (aCons (eV 6) (aCons (eV 4) aNil)))))) (sAsg (eV 4) (gN 9)) sNil)) (fun i ρ => ∃ y m, ρ = [.val (iL ns), .val (iL r), .val (iT t), .val (.int now), y, .val (.int C), .val (.int W), .val (.int S), .val (.int p), .val (.int m), .un, .un, .un, .un, .un] ∧ m = min (i - 1) (k : Int)) 1 80 (by decide) (by
    rintro i h1 h2 _ ⟨y, m, rfl, hm⟩
    have cd : (cTru (eCall g2 (aCons (e2 pIx (eB 2) (e1 pNeg (eK (.int 1)))) (aCons (eV 5) (aCons (eV 6) (aCons (eV 4) aNil)))))) [.val (iL ns), .val (iL r), .val (iT t), .val (.int now), .val (.int i), .val (.int C), .val (.int W), .val (.int S), .val (.int p), .val (.int m), .un, .un, .un, .un, .un] = some (decide (i ≤ k)) := by
      simp only [eK, eV, eB, e1, e2, aNil, aCons, eCall, eIf, cB, cAnd, cOr, cNot, cYes, cTru, eAnd, eOr, eNot, eNotT, e3c, eSl, eSlL, oNone, oSome, toB, toI, toL, pTru, pIsN, pNotN, isNone, gN, gT, gCons', gNil', sNil, thenF, sRet, sBrk, sCnt, sAsg, sOwn, sAug, sApp, sFz, sPar, mVal, mOwn, mNil, setAllE, ownL, sIf, sSetI, lSeq, lRng1, lRng2, lEnum, wipeE, pLen, pInt, pAbs, pTuple, pList, pNeg, pSub, pAddI, pPlus_i, pMul_i, pDiv_i, pMod_i, pEq_i, pNe_i, pLt_i, pLe_i, pGt_i, pGe_i, pMin2, pMax2, pTup_s, pLst_s, outF, Option.bind_some, Option.bind_none, List.getElem?_cons_succ, List.getElem?_cons_zero, List.length_cons, List.length_nil, List.set_cons_succ, List.set_cons_zero, Nat.reduceAdd, Nat.reduceLT, Nat.reduceSub, Nat.lt_irrefl, if_true, if_false, ite_true, ite_false, reduceIte, ↓reduceIte, Bool.not_true, Bool.not_false, Bool.false_eq_true, decide_true, not_true_eq_false, not_false_eq_true, decide_false, decide_eq_true_eq, Bool.not_eq_true', decide_eq_false_iff_not, Bool.not_eq_eq_eq_not, ix_t1 tn, hstops sC sW (show Sm i by unfold Sm; omega) (ts _ (lastD_mem tn)), stK i (by omega)]
    by_cases c : i ≤ k
    · exact ⟨_, _, rfl, if_t (cd.trans (congrArg some (decide_eq_true c))) rfl, _, _, rfl, by omega⟩
    · exact ⟨_, _, rfl, if_f (cd.trans (congrArg some (decide_eq_false c))) rfl, _, _, rfl, by omega⟩) [.val (iL ns), .val (iL r), .val (iT t), .val (.int now), x, .val (.int C), .val (.int W), .val (.int S), .val (.int p), .val (.int 0), .un, .un, .un, .un, .un] ⟨_, _, rfl, by omega⟩
  obtain ⟨ρ', e, y, m, rfl, hm⟩ := lp
  have hm : m = (k : Int) := by omega
  subst hm
  refine sq_nx (ρ' := [.val (iL ns), .val (iL r), .val (iT t), .val (.int now), y, .val (.int C), .val (.int W), .val (.int S), .val (.int p), .val (nI k), .un, .un, .un, .un, .un]) ((congrArg (fun l => Option.bind l _) (rg_2 (a := 1) (b := 80) rfl rfl (by decide) (by decide) (by decide) (by decide))).trans e) ?_
  refine sq_nx (fz_val rfl) ?_
  have hn1k : t.length ≤ 1000 := by omega
  refine sq_nx (ρ' := [.val (iL ns), .val (iL r), .val (iT t), .val (.int now), y, .val (.int C), .val (.int W), .val (.int S), .val (.int p), .val (nI k), .val (pO (prs t C W S)), .un, .un, .un, .un]) (by simp only [eK, eV, eB, e1, e2, aNil, aCons, eCall, eIf, cB, cAnd, cOr, cNot, cYes, cTru, eAnd, eOr, eNot, eNotT, e3c, eSl, eSlL, oNone, oSome, toB, toI, toL, pTru, pIsN, pNotN, isNone, gN, gT, gCons', gNil', sNil, thenF, sRet, sBrk, sCnt, sAsg, sOwn, sAug, sApp, sFz, sPar, mVal, mOwn, mNil, setAllE, ownL, sIf, sSetI, lSeq, lRng1, lRng2, lEnum, wipeE, pLen, pInt, pAbs, pTuple, pList, pNeg, pSub, pAddI, pPlus_i, pMul_i, pDiv_i, pMod_i, pEq_i, pNe_i, pLt_i, pLe_i, pGt_i, pGe_i, pMin2, pMax2, pTup_s, pLst_s, outF, Option.bind_some, Option.bind_none, List.getElem?_cons_succ, List.getElem?_cons_zero, List.length_cons, List.length_nil, List.set_cons_succ, List.set_cons_zero, Nat.reduceAdd, Nat.reduceLT, Nat.reduceSub, Nat.lt_irrefl, if_true, if_false, ite_true, ite_false, reduceIte, ↓reduceIte, Bool.not_true, Bool.not_false, Bool.false_eq_true, decide_true, not_true_eq_false, not_false_eq_true, decide_false, decide_eq_true_eq, Bool.not_eq_true', decide_eq_false_iff_not, Bool.not_eq_eq_eq_not, hpress hn1k sC sW sS ts]) ?_
  refine sq_nx (fz_val rfl) ?_
  have lkO : ∀ d o, Lk (d + 1) (pO o) := fun d o => by cases o with | none => exact .non | some a => exact .int _
  have lkI : ∀ d o, Lk (d + 1) (pI o) := fun d o => by cases o with | none => exact .non | some a => exact .int _
  have c2 : (2 ≤ 16777216) = True := by decide
  refine sq_nx (if_like hlike (v := .tuple [pO (prs t C W S), nI k]) (by simp only [eK, eV, eB, e1, e2, aNil, aCons, eCall, eIf, cB, cAnd, cOr, cNot, cYes, cTru, eAnd, eOr, eNot, eNotT, e3c, eSl, eSlL, oNone, oSome, toB, toI, toL, pTru, pIsN, pNotN, isNone, gN, gT, gCons', gNil', sNil, thenF, sRet, sBrk, sCnt, sAsg, sOwn, sAug, sApp, sFz, sPar, mVal, mOwn, mNil, setAllE, ownL, sIf, sSetI, lSeq, lRng1, lRng2, lEnum, wipeE, pLen, pInt, pAbs, pTuple, pList, pNeg, pSub, pAddI, pPlus_i, pMul_i, pDiv_i, pMod_i, pEq_i, pNe_i, pLt_i, pLe_i, pGt_i, pGe_i, pMin2, pMax2, pTup_s, pLst_s, outF, Option.bind_some, Option.bind_none, List.getElem?_cons_succ, List.getElem?_cons_zero, List.length_cons, List.length_nil, List.set_cons_succ, List.set_cons_zero, Nat.reduceAdd, Nat.reduceLT, Nat.reduceSub, Nat.lt_irrefl, if_true, if_false, ite_true, ite_false, reduceIte, ↓reduceIte, Bool.not_true, Bool.not_false, Bool.false_eq_true, decide_true, not_true_eq_false, not_false_eq_true, decide_false, decide_eq_true_eq, Bool.not_eq_true', decide_eq_false_iff_not, Bool.not_eq_eq_eq_not, hstop hn1k sC sW sS ts, hspeed tn (ts _ (lastD_mem tn)) sW (by omega) sp, c2]) (by simp only [eK, eV, eB, e1, e2, aNil, aCons, eCall, eIf, cB, cAnd, cOr, cNot, cYes, cTru, eAnd, eOr, eNot, eNotT, e3c, eSl, eSlL, oNone, oSome, toB, toI, toL, pTru, pIsN, pNotN, isNone, gN, gT, gCons', gNil', sNil, thenF, sRet, sBrk, sCnt, sAsg, sOwn, sAug, sApp, sFz, sPar, mVal, mOwn, mNil, setAllE, ownL, sIf, sSetI, lSeq, lRng1, lRng2, lEnum, wipeE, pLen, pInt, pAbs, pTuple, pList, pNeg, pSub, pAddI, pPlus_i, pMul_i, pDiv_i, pMod_i, pEq_i, pNe_i, pLt_i, pLe_i, pGt_i, pGe_i, pMin2, pMax2, pTup_s, pLst_s, outF, Option.bind_some, Option.bind_none, List.getElem?_cons_succ, List.getElem?_cons_zero, List.length_cons, List.length_nil, List.set_cons_succ, List.set_cons_zero, Nat.reduceAdd, Nat.reduceLT, Nat.reduceSub, Nat.lt_irrefl, if_true, if_false, ite_true, ite_false, reduceIte, ↓reduceIte, Bool.not_true, Bool.not_false, Bool.false_eq_true, decide_true, not_true_eq_false, not_false_eq_true, decide_false, decide_eq_true_eq, Bool.not_eq_true', decide_eq_false_iff_not, Bool.not_eq_eq_eq_not, c2]) (.tup _ (fun v hv => by
    rcases List.mem_cons.1 hv with rfl | hv
    · exact lkO _ _
    · rw [List.mem_singleton] at hv
      subst hv
      exact .int _) (Nat.le_of_ble_eq_true rfl))) ?_
  refine sq_nx (fz_val rfl) ?_
  obtain ⟨rows, hrows⟩ : ∃ rows : List PV, ((List.range (k + 1)).map fun (s : Nat) => pO (prs t C W s)) = rows := ⟨_, rfl⟩
  have lkR : Lk 8 (.tuple rows) := .tup _ (fun v hv => by
    rw [← hrows] at hv
    obtain ⟨_, _, rfl⟩ := List.mem_map.1 hv
    exact lkO _ _) (by rw [← hrows, List.length_map, List.length_range]; omega)
  refine sq_nx (ρ' := [.val (iL ns), .val (iL r), .val (iT t), .val (.int now), y, .val (.int C), .val (.int W), .val (.int S), .val (.int p), .val (nI k), .val (pO (prs t C W S)), .val (.tuple rows), .un, .un, .un]) ?_ ?_
  · have ec := ec_map (L := (lRng1 (e2 pPlus (eB 9) (eK (.int 1))))) (vs := [4]) (h := gN 4) (c := cYes) (e := (eCall g3 (aCons (eV 2) (aCons (eV 5) (aCons (eV 6) (aCons (eV 4) aNil)))))) (ρ := [.val (iL ns), .val (iL r), .val (iT t), .val (.int now), y, .val (.int C), .val (.int W), .val (.int S), .val (.int p), .val (nI k), .val (pO (prs t C W S)), .un, .un, .un, .un]) nI (fun s => pO (prs t C W s)) (l := List.range (k + 1)) (rg_1 (n := (k : Int) + 1) (by simp only [eK, eV, eB, e1, e2, aNil, aCons, eCall, eIf, cB, cAnd, cOr, cNot, cYes, cTru, eAnd, eOr, eNot, eNotT, e3c, eSl, eSlL, oNone, oSome, toB, toI, toL, pTru, pIsN, pNotN, isNone, gN, gT, gCons', gNil', sNil, thenF, sRet, sBrk, sCnt, sAsg, sOwn, sAug, sApp, sFz, sPar, mVal, mOwn, mNil, setAllE, ownL, sIf, sSetI, lSeq, lRng1, lRng2, lEnum, wipeE, pLen, pInt, pAbs, pTuple, pList, pNeg, pSub, pAddI, pPlus_i, pMul_i, pDiv_i, pMod_i, pEq_i, pNe_i, pLt_i, pLe_i, pGt_i, pGe_i, pMin2, pMax2, pTup_s, pLst_s, outF, Option.bind_some, Option.bind_none, List.getElem?_cons_succ, List.getElem?_cons_zero, List.length_cons, List.length_nil, List.set_cons_succ, List.set_cons_zero, Nat.reduceAdd, Nat.reduceLT, Nat.reduceSub, Nat.lt_irrefl, if_true, if_false, ite_true, ite_false, reduceIte, ↓reduceIte, Bool.not_true, Bool.not_false, Bool.false_eq_true, decide_true, not_true_eq_false, not_false_eq_true, decide_false, decide_eq_true_eq, Bool.not_eq_true', decide_eq_false_iff_not, Bool.not_eq_eq_eq_not]) (by omega) (by omega)) (by rw [List.length_range]; omega) fun s hs => ⟨_, rfl, rfl, by
      have hs := List.mem_range.1 hs
      simp only [eK, eV, eB, e1, e2, aNil, aCons, eCall, eIf, cB, cAnd, cOr, cNot, cYes, cTru, eAnd, eOr, eNot, eNotT, e3c, eSl, eSlL, oNone, oSome, toB, toI, toL, pTru, pIsN, pNotN, isNone, gN, gT, gCons', gNil', sNil, thenF, sRet, sBrk, sCnt, sAsg, sOwn, sAug, sApp, sFz, sPar, mVal, mOwn, mNil, setAllE, ownL, sIf, sSetI, lSeq, lRng1, lRng2, lEnum, wipeE, pLen, pInt, pAbs, pTuple, pList, pNeg, pSub, pAddI, pPlus_i, pMul_i, pDiv_i, pMod_i, pEq_i, pNe_i, pLt_i, pLe_i, pGt_i, pGe_i, pMin2, pMax2, pTup_s, pLst_s, outF, Option.bind_some, Option.bind_none, List.getElem?_cons_succ, List.getElem?_cons_zero, List.length_cons, List.length_nil, List.set_cons_succ, List.set_cons_zero, Nat.reduceAdd, Nat.reduceLT, Nat.reduceSub, Nat.lt_irrefl, if_true, if_false, ite_true, ite_false, reduceIte, ↓reduceIte, Bool.not_true, Bool.not_false, Bool.false_eq_true, decide_true, not_true_eq_false, not_false_eq_true, decide_false, decide_eq_true_eq, Bool.not_eq_true', decide_eq_false_iff_not, Bool.not_eq_eq_eq_not, hpress hn1k sC sW (show Sm (s : Int) by unfold Sm; omega) ts]⟩
    rw [hrows] at ec
    simp only [sAsg, e1, ec, Option.bind_some, pTuple]
    rfl
  refine sq_nx (fz_val rfl) ?_
  refine sq_nx (if_like hlike (v := .tuple rows) (by simp only [eK, eV, eB, e1, e2, aNil, aCons, eCall, eIf, cB, cAnd, cOr, cNot, cYes, cTru, eAnd, eOr, eNot, eNotT, e3c, eSl, eSlL, oNone, oSome, toB, toI, toL, pTru, pIsN, pNotN, isNone, gN, gT, gCons', gNil', sNil, thenF, sRet, sBrk, sCnt, sAsg, sOwn, sAug, sApp, sFz, sPar, mVal, mOwn, mNil, setAllE, ownL, sIf, sSetI, lSeq, lRng1, lRng2, lEnum, wipeE, pLen, pInt, pAbs, pTuple, pList, pNeg, pSub, pAddI, pPlus_i, pMul_i, pDiv_i, pMod_i, pEq_i, pNe_i, pLt_i, pLe_i, pGt_i, pGe_i, pMin2, pMax2, pTup_s, pLst_s, outF, Option.bind_some, Option.bind_none, List.getElem?_cons_succ, List.getElem?_cons_zero, List.length_cons, List.length_nil, List.set_cons_succ, List.set_cons_zero, Nat.reduceAdd, Nat.reduceLT, Nat.reduceSub, Nat.lt_irrefl, if_true, if_false, ite_true, ite_false, reduceIte, ↓reduceIte, Bool.not_true, Bool.not_false, Bool.false_eq_true, decide_true, not_true_eq_false, not_false_eq_true, decide_false, decide_eq_true_eq, Bool.not_eq_true', decide_eq_false_iff_not, Bool.not_eq_eq_eq_not, hprow tn hn1k ts sC sW (by omega) sp, hrows]) (by simp only [eK, eV, eB, e1, e2, aNil, aCons, eCall, eIf, cB, cAnd, cOr, cNot, cYes, cTru, eAnd, eOr, eNot, eNotT, e3c, eSl, eSlL, oNone, oSome, toB, toI, toL, pTru, pIsN, pNotN, isNone, gN, gT, gCons', gNil', sNil, thenF, sRet, sBrk, sCnt, sAsg, sOwn, sAug, sApp, sFz, sPar, mVal, mOwn, mNil, setAllE, ownL, sIf, sSetI, lSeq, lRng1, lRng2, lEnum, wipeE, pLen, pInt, pAbs, pTuple, pList, pNeg, pSub, pAddI, pPlus_i, pMul_i, pDiv_i, pMod_i, pEq_i, pNe_i, pLt_i, pLe_i, pGt_i, pGe_i, pMin2, pMax2, pTup_s, pLst_s, outF, Option.bind_some, Option.bind_none, List.getElem?_cons_succ, List.getElem?_cons_zero, List.length_cons, List.length_nil, List.set_cons_succ, List.set_cons_zero, Nat.reduceAdd, Nat.reduceLT, Nat.reduceSub, Nat.lt_irrefl, if_true, if_false, ite_true, ite_false, reduceIte, ↓reduceIte, Bool.not_true, Bool.not_false, Bool.false_eq_true, decide_true, not_true_eq_false, not_false_eq_true, decide_false, decide_eq_true_eq, Bool.not_eq_true', decide_eq_false_iff_not, Bool.not_eq_eq_eq_not]) lkR) ?_
  obtain ⟨T, hT⟩ : ∃ T, t.getD p.toNat 0 = T := ⟨_, rfl⟩
  have Tm : T ∈ t := by rw [← hT]; exact gd_mem (by omega)
  have T0 := tb _ Tm
  have ixp := ix_t (l := t) p0.1 p0.2
  rw [hT] at ixp
  have NN : 0 ≤ W * S * S ∧ W * S * S ≤ 8100 := by
    have h1 : 0 ≤ W * S := Int.mul_nonneg (by omega) (by omega)
    have h2 : W * S ≤ 9 * 30 := Int.mul_le_mul W0.2 S0.2 (by omega) (by omega)
    have h3 : W * S * S ≤ 9 * 30 * 30 := Int.mul_le_mul h2 S0.2 (by omega) (by omega)
    exact ⟨Int.mul_nonneg h1 (by omega), by omega⟩
  have sq2 : 0 ≤ W * S * S / (2 * T) ∧ W * S * S / (2 * T) ≤ 8100 := by
    have h1 := Int.ediv_le_self (2 * T) NN.1
    have h2 : 0 ≤ W * S * S / (2 * T) := Int.ediv_nonneg NN.1 (by omega)
    generalize W * S * S / (2 * T) = Z at *
    omega
  have sq : Sm (W * S * S / (2 * T)) := by
    unfold Sm
    generalize W * S * S / (2 * T) = Z at *
    omega
  obtain ⟨nd, hnd⟩ : ∃ nd, ndd T W S = nd := ⟨_, rfl⟩
  refine sq_nx (ρ' := [.val (iL ns), .val (iL r), .val (iT t), .val (.int now), y, .val (.int C), .val (.int W), .val (.int S), .val (.int p), .val (nI k), .val (pO (prs t C W S)), .val (.tuple rows), .val (pI nd), .un, .un]) (by simp only [eK, eV, eB, e1, e2, aNil, aCons, eCall, eIf, cB, cAnd, cOr, cNot, cYes, cTru, eAnd, eOr, eNot, eNotT, e3c, eSl, eSlL, oNone, oSome, toB, toI, toL, pTru, pIsN, pNotN, isNone, gN, gT, gCons', gNil', sNil, thenF, sRet, sBrk, sCnt, sAsg, sOwn, sAug, sApp, sFz, sPar, mVal, mOwn, mNil, setAllE, ownL, sIf, sSetI, lSeq, lRng1, lRng2, lEnum, wipeE, pLen, pInt, pAbs, pTuple, pList, pNeg, pSub, pAddI, pPlus_i, pMul_i, pDiv_i, pMod_i, pEq_i, pNe_i, pLt_i, pLe_i, pGt_i, pGe_i, pMin2, pMax2, pTup_s, pLst_s, outF, Option.bind_some, Option.bind_none, List.getElem?_cons_succ, List.getElem?_cons_zero, List.length_cons, List.length_nil, List.set_cons_succ, List.set_cons_zero, Nat.reduceAdd, Nat.reduceLT, Nat.reduceSub, Nat.lt_irrefl, if_true, if_false, ite_true, ite_false, reduceIte, ↓reduceIte, Bool.not_true, Bool.not_false, Bool.false_eq_true, decide_true, not_true_eq_false, not_false_eq_true, decide_false, decide_eq_true_eq, Bool.not_eq_true', decide_eq_false_iff_not, Bool.not_eq_eq_eq_not, ixp, hneed sW sS T0.1 T0.2 (by omega) sq, hnd]) ?_
  refine sq_nx (fz_val rfl) ?_
  have hf := fun s hs => hfneed (t := t) (p := p) (w := W) (s := s) sW hs tb p0.1 p0.2
  rw [hT] at hf
  refine sq_nx (if_like hlike (v := pI nd) (by simp only [eK, eV, eB, e1, e2, aNil, aCons, eCall, eIf, cB, cAnd, cOr, cNot, cYes, cTru, eAnd, eOr, eNot, eNotT, e3c, eSl, eSlL, oNone, oSome, toB, toI, toL, pTru, pIsN, pNotN, isNone, gN, gT, gCons', gNil', sNil, thenF, sRet, sBrk, sCnt, sAsg, sOwn, sAug, sApp, sFz, sPar, mVal, mOwn, mNil, setAllE, ownL, sIf, sSetI, lSeq, lRng1, lRng2, lEnum, wipeE, pLen, pInt, pAbs, pTuple, pList, pNeg, pSub, pAddI, pPlus_i, pMul_i, pDiv_i, pMod_i, pEq_i, pNe_i, pLt_i, pLe_i, pGt_i, pGe_i, pMin2, pMax2, pTup_s, pLst_s, outF, Option.bind_some, Option.bind_none, List.getElem?_cons_succ, List.getElem?_cons_zero, List.length_cons, List.length_nil, List.set_cons_succ, List.set_cons_zero, Nat.reduceAdd, Nat.reduceLT, Nat.reduceSub, Nat.lt_irrefl, if_true, if_false, ite_true, ite_false, reduceIte, ↓reduceIte, Bool.not_true, Bool.not_false, Bool.false_eq_true, decide_true, not_true_eq_false, not_false_eq_true, decide_false, decide_eq_true_eq, Bool.not_eq_true', decide_eq_false_iff_not, Bool.not_eq_eq_eq_not, hf S sS, hnd]) (by simp only [eK, eV, eB, e1, e2, aNil, aCons, eCall, eIf, cB, cAnd, cOr, cNot, cYes, cTru, eAnd, eOr, eNot, eNotT, e3c, eSl, eSlL, oNone, oSome, toB, toI, toL, pTru, pIsN, pNotN, isNone, gN, gT, gCons', gNil', sNil, thenF, sRet, sBrk, sCnt, sAsg, sOwn, sAug, sApp, sFz, sPar, mVal, mOwn, mNil, setAllE, ownL, sIf, sSetI, lSeq, lRng1, lRng2, lEnum, wipeE, pLen, pInt, pAbs, pTuple, pList, pNeg, pSub, pAddI, pPlus_i, pMul_i, pDiv_i, pMod_i, pEq_i, pNe_i, pLt_i, pLe_i, pGt_i, pGe_i, pMin2, pMax2, pTup_s, pLst_s, outF, Option.bind_some, Option.bind_none, List.getElem?_cons_succ, List.getElem?_cons_zero, List.length_cons, List.length_nil, List.set_cons_succ, List.set_cons_zero, Nat.reduceAdd, Nat.reduceLT, Nat.reduceSub, Nat.lt_irrefl, if_true, if_false, ite_true, ite_false, reduceIte, ↓reduceIte, Bool.not_true, Bool.not_false, Bool.false_eq_true, decide_true, not_true_eq_false, not_false_eq_true, decide_false, decide_eq_true_eq, Bool.not_eq_true', decide_eq_false_iff_not, Bool.not_eq_eq_eq_not]) (lkI _ _)) ?_
  have Ns : W * S * S ≤ 0 → S = 0 := fun h => by
    have h0 : W * S * S = 0 := by omega
    rcases Int.mul_eq_zero.1 h0 with h | h
    · rcases Int.mul_eq_zero.1 h with h | h
      · omega
      · exact h
    · exact h
  have pos : ∀ q, nd = some q → 0 < q → 0 < T ∧ (∀ c, q ≤ c ↔ W * S * S ≤ 2 * c * T) ∧ Sm q := fun q e hq => by
    rw [← hnd] at e
    unfold ndd at e
    split at e
    · cases e
      omega
    · split at e
      · cases e
      · rename_i z1 z2
        have e := (Option.some.inj e).symm
        have Tp : 0 < T := by omega
        refine ⟨Tp, fun c => ?_, ?_⟩
        · rw [e]
          have := Int.ediv_lt_iff_lt_mul (a := W * S * S + 2 * T - 1) (b := c + 1) (show 0 < 2 * T by omega)
          rw [show (c + 1) * (2 * T) = 2 * c * T + 2 * T by rw [Int.add_mul, Int.one_mul, Int.mul_comm 2 c, Int.mul_assoc]] at this
          omega
        · rw [ceil_eq _ _ Tp] at e
          unfold Sm
          generalize W * S * S / (2 * T) = Z at *
          split at e <;> omega
  have zer : nd = none → T = 0 ∧ S ≠ 0 := fun e => by
    rw [← hnd] at e
    unfold ndd at e
    split at e
    · cases e
    · split at e
      · rename_i z1 z2
        exact ⟨z2, fun h => z1 (by rw [h, Int.mul_zero])⟩
      · cases e
  have n0 : ∀ q, nd = some q → 0 ≤ q := fun q e => by
    rw [← hnd] at e
    unfold ndd at e
    split at e
    · cases e
      omega
    · split at e
      · cases e
      · rw [← Option.some.inj e]
        exact Int.ediv_nonneg (by omega) (by omega)
  have sT : Sm T := by unfold Sm; omega
  refine sq_nx (if_f ?_ rfl) ?_
  · cases hq : nd with
    | none => rfl
    | some q =>
      by_cases q0 : 0 < q
      · have P := pos q hq q0
        have st := hstops (t := T) (c := q - 1) (w := W) (s := S) (by have := P.2.2; unfold Sm at this ⊢; omega) sW sS sT
        rw [show stp T (q - 1) W S = false from decide_eq_false (fun h => by have := (P.2.1 (q - 1)).2 h; omega)] at st
        simp only [eK, eV, eB, e1, e2, aNil, aCons, eCall, eIf, cB, cAnd, cOr, cNot, cYes, cTru, eAnd, eOr, eNot, eNotT, e3c, eSl, eSlL, oNone, oSome, toB, toI, toL, pTru, pIsN, pNotN, isNone, gN, gT, gCons', gNil', sNil, thenF, sRet, sBrk, sCnt, sAsg, sOwn, sAug, sApp, sFz, sPar, mVal, mOwn, mNil, setAllE, ownL, sIf, sSetI, lSeq, lRng1, lRng2, lEnum, wipeE, pLen, pInt, pAbs, pTuple, pList, pNeg, pSub, pAddI, pPlus_i, pMul_i, pDiv_i, pMod_i, pEq_i, pNe_i, pLt_i, pLe_i, pGt_i, pGe_i, pMin2, pMax2, pTup_s, pLst_s, outF, Option.bind_some, Option.bind_none, List.getElem?_cons_succ, List.getElem?_cons_zero, List.length_cons, List.length_nil, List.set_cons_succ, List.set_cons_zero, Nat.reduceAdd, Nat.reduceLT, Nat.reduceSub, Nat.lt_irrefl, if_true, if_false, ite_true, ite_false, reduceIte, ↓reduceIte, Bool.not_true, Bool.not_false, Bool.false_eq_true, decide_true, not_true_eq_false, not_false_eq_true, decide_false, decide_eq_true_eq, Bool.not_eq_true', decide_eq_false_iff_not, Bool.not_eq_eq_eq_not, ixp, pI, pNotN, q0, st]
      · simp only [eK, eV, eB, e1, e2, aNil, aCons, eCall, eIf, cB, cAnd, cOr, cNot, cYes, cTru, eAnd, eOr, eNot, eNotT, e3c, eSl, eSlL, oNone, oSome, toB, toI, toL, pTru, pIsN, pNotN, isNone, gN, gT, gCons', gNil', sNil, thenF, sRet, sBrk, sCnt, sAsg, sOwn, sAug, sApp, sFz, sPar, mVal, mOwn, mNil, setAllE, ownL, sIf, sSetI, lSeq, lRng1, lRng2, lEnum, wipeE, pLen, pInt, pAbs, pTuple, pList, pNeg, pSub, pAddI, pPlus_i, pMul_i, pDiv_i, pMod_i, pEq_i, pNe_i, pLt_i, pLe_i, pGt_i, pGe_i, pMin2, pMax2, pTup_s, pLst_s, outF, Option.bind_some, Option.bind_none, List.getElem?_cons_succ, List.getElem?_cons_zero, List.length_cons, List.length_nil, List.set_cons_succ, List.set_cons_zero, Nat.reduceAdd, Nat.reduceLT, Nat.reduceSub, Nat.lt_irrefl, if_true, if_false, ite_true, ite_false, reduceIte, ↓reduceIte, Bool.not_true, Bool.not_false, Bool.false_eq_true, decide_true, not_true_eq_false, not_false_eq_true, decide_false, decide_eq_true_eq, Bool.not_eq_true', decide_eq_false_iff_not, Bool.not_eq_eq_eq_not, pI, pNotN, q0]
  refine sq_nx (fz_val rfl) ?_
  have ndd0 : ndd T W 0 = some 0 := by unfold ndd; rw [Int.mul_zero, if_pos rfl]
  refine sq_nx (if_like hlike (v := .int 0) (by simp only [eK, eV, eB, e1, e2, aNil, aCons, eCall, eIf, cB, cAnd, cOr, cNot, cYes, cTru, eAnd, eOr, eNot, eNotT, e3c, eSl, eSlL, oNone, oSome, toB, toI, toL, pTru, pIsN, pNotN, isNone, gN, gT, gCons', gNil', sNil, thenF, sRet, sBrk, sCnt, sAsg, sOwn, sAug, sApp, sFz, sPar, mVal, mOwn, mNil, setAllE, ownL, sIf, sSetI, lSeq, lRng1, lRng2, lEnum, wipeE, pLen, pInt, pAbs, pTuple, pList, pNeg, pSub, pAddI, pPlus_i, pMul_i, pDiv_i, pMod_i, pEq_i, pNe_i, pLt_i, pLe_i, pGt_i, pGe_i, pMin2, pMax2, pTup_s, pLst_s, outF, Option.bind_some, Option.bind_none, List.getElem?_cons_succ, List.getElem?_cons_zero, List.length_cons, List.length_nil, List.set_cons_succ, List.set_cons_zero, Nat.reduceAdd, Nat.reduceLT, Nat.reduceSub, Nat.lt_irrefl, if_true, if_false, ite_true, ite_false, reduceIte, ↓reduceIte, Bool.not_true, Bool.not_false, Bool.false_eq_true, decide_true, not_true_eq_false, not_false_eq_true, decide_false, decide_eq_true_eq, Bool.not_eq_true', decide_eq_false_iff_not, Bool.not_eq_eq_eq_not, hf 0 (by unfold Sm; omega), ndd0, pI]) (by simp only [eK, eV, eB, e1, e2, aNil, aCons, eCall, eIf, cB, cAnd, cOr, cNot, cYes, cTru, eAnd, eOr, eNot, eNotT, e3c, eSl, eSlL, oNone, oSome, toB, toI, toL, pTru, pIsN, pNotN, isNone, gN, gT, gCons', gNil', sNil, thenF, sRet, sBrk, sCnt, sAsg, sOwn, sAug, sApp, sFz, sPar, mVal, mOwn, mNil, setAllE, ownL, sIf, sSetI, lSeq, lRng1, lRng2, lEnum, wipeE, pLen, pInt, pAbs, pTuple, pList, pNeg, pSub, pAddI, pPlus_i, pMul_i, pDiv_i, pMod_i, pEq_i, pNe_i, pLt_i, pLe_i, pGt_i, pGe_i, pMin2, pMax2, pTup_s, pLst_s, outF, Option.bind_some, Option.bind_none, List.getElem?_cons_succ, List.getElem?_cons_zero, List.length_cons, List.length_nil, List.set_cons_succ, List.set_cons_zero, Nat.reduceAdd, Nat.reduceLT, Nat.reduceSub, Nat.lt_irrefl, if_true, if_false, ite_true, ite_false, reduceIte, ↓reduceIte, Bool.not_true, Bool.not_false, Bool.false_eq_true, decide_true, not_true_eq_false, not_false_eq_true, decide_false, decide_eq_true_eq, Bool.not_eq_true', decide_eq_false_iff_not, Bool.not_eq_eq_eq_not]) (.int 0)) ?_
  refine sq_nx (fz_val rfl) ?_
  have ee : prs t C (4 * W) S = prs t C W (2 * S) := by
    unfold prs stp
    rw [show 4 * W * S * S = W * (2 * S) * (2 * S) by
      rw [Int.mul_left_comm W 2 S, Int.mul_assoc 2 (W * S), Int.mul_left_comm (W * S) 2 S, Int.mul_assoc 4, Int.mul_assoc 4]
      omega]
  have m4 : mulOk 4 W = true := mulOk_l (by decide)
  have m4' : mulOk 4 C = true := mulOk_l (by decide)
  refine sq_nx (if_like hlike (v := pO (prs t C W (2 * S))) (by simp only [eK, eV, eB, e1, e2, aNil, aCons, eCall, eIf, cB, cAnd, cOr, cNot, cYes, cTru, eAnd, eOr, eNot, eNotT, e3c, eSl, eSlL, oNone, oSome, toB, toI, toL, pTru, pIsN, pNotN, isNone, gN, gT, gCons', gNil', sNil, thenF, sRet, sBrk, sCnt, sAsg, sOwn, sAug, sApp, sFz, sPar, mVal, mOwn, mNil, setAllE, ownL, sIf, sSetI, lSeq, lRng1, lRng2, lEnum, wipeE, pLen, pInt, pAbs, pTuple, pList, pNeg, pSub, pAddI, pPlus_i, pMul_i, pDiv_i, pMod_i, pEq_i, pNe_i, pLt_i, pLe_i, pGt_i, pGe_i, pMin2, pMax2, pTup_s, pLst_s, outF, Option.bind_some, Option.bind_none, List.getElem?_cons_succ, List.getElem?_cons_zero, List.length_cons, List.length_nil, List.set_cons_succ, List.set_cons_zero, Nat.reduceAdd, Nat.reduceLT, Nat.reduceSub, Nat.lt_irrefl, if_true, if_false, ite_true, ite_false, reduceIte, ↓reduceIte, Bool.not_true, Bool.not_false, Bool.false_eq_true, decide_true, not_true_eq_false, not_false_eq_true, decide_false, decide_eq_true_eq, Bool.not_eq_true', decide_eq_false_iff_not, Bool.not_eq_eq_eq_not, m4, hstop hn1k sC (show Sm (4 * W) by unfold Sm; omega) sS ts, ee]) (by simp only [eK, eV, eB, e1, e2, aNil, aCons, eCall, eIf, cB, cAnd, cOr, cNot, cYes, cTru, eAnd, eOr, eNot, eNotT, e3c, eSl, eSlL, oNone, oSome, toB, toI, toL, pTru, pIsN, pNotN, isNone, gN, gT, gCons', gNil', sNil, thenF, sRet, sBrk, sCnt, sAsg, sOwn, sAug, sApp, sFz, sPar, mVal, mOwn, mNil, setAllE, ownL, sIf, sSetI, lSeq, lRng1, lRng2, lEnum, wipeE, pLen, pInt, pAbs, pTuple, pList, pNeg, pSub, pAddI, pPlus_i, pMul_i, pDiv_i, pMod_i, pEq_i, pNe_i, pLt_i, pLe_i, pGt_i, pGe_i, pMin2, pMax2, pTup_s, pLst_s, outF, Option.bind_some, Option.bind_none, List.getElem?_cons_succ, List.getElem?_cons_zero, List.length_cons, List.length_nil, List.set_cons_succ, List.set_cons_zero, Nat.reduceAdd, Nat.reduceLT, Nat.reduceSub, Nat.lt_irrefl, if_true, if_false, ite_true, ite_false, reduceIte, ↓reduceIte, Bool.not_true, Bool.not_false, Bool.false_eq_true, decide_true, not_true_eq_false, not_false_eq_true, decide_false, decide_eq_true_eq, Bool.not_eq_true', decide_eq_false_iff_not, Bool.not_eq_eq_eq_not, m2, hpress hn1k sC sW (show Sm (2 * S) by unfold Sm; omega) ts]) (lkO _ _)) ?_
  obtain ⟨M, hM⟩ : ∃ M, 2 + gR r 16 % 3 = M := ⟨_, rfl⟩
  have M0' : 2 ≤ M ∧ M ≤ 4 := by have := B 16; omega
  refine sq_nx (ρ' := [.val (iL ns), .val (iL r), .val (iT t), .val (.int now), y, .val (.int C), .val (.int W), .val (.int S), .val (.int p), .val (nI k), .val (pO (prs t C W S)), .val (.tuple rows), .val (pI nd), .val (.int M), .un]) (by simp only [eK, eV, eB, e1, e2, aNil, aCons, eCall, eIf, cB, cAnd, cOr, cNot, cYes, cTru, eAnd, eOr, eNot, eNotT, e3c, eSl, eSlL, oNone, oSome, toB, toI, toL, pTru, pIsN, pNotN, isNone, gN, gT, gCons', gNil', sNil, thenF, sRet, sBrk, sCnt, sAsg, sOwn, sAug, sApp, sFz, sPar, mVal, mOwn, mNil, setAllE, ownL, sIf, sSetI, lSeq, lRng1, lRng2, lEnum, wipeE, pLen, pInt, pAbs, pTuple, pList, pNeg, pSub, pAddI, pPlus_i, pMul_i, pDiv_i, pMod_i, pEq_i, pNe_i, pLt_i, pLe_i, pGt_i, pGe_i, pMin2, pMax2, pTup_s, pLst_s, outF, Option.bind_some, Option.bind_none, List.getElem?_cons_succ, List.getElem?_cons_zero, List.length_cons, List.length_nil, List.set_cons_succ, List.set_cons_zero, Nat.reduceAdd, Nat.reduceLT, Nat.reduceSub, Nat.lt_irrefl, if_true, if_false, ite_true, ite_false, reduceIte, ↓reduceIte, Bool.not_true, Bool.not_false, Bool.false_eq_true, decide_true, not_true_eq_false, not_false_eq_true, decide_false, decide_eq_true_eq, Bool.not_eq_true', decide_eq_false_iff_not, Bool.not_eq_eq_eq_not, rx hl 16, (by decide : (0:Int) < 3), hM]) ?_
  refine sq_nx (fz_val rfl) ?_
  have sc : ∀ T s, stp T (M * C) (M * W) s = stp T C W s := fun T s => by
    unfold stp
    refine decide_eq_decide.2 ?_
    rw [show M * W * s * s = M * (W * s * s) by rw [Int.mul_assoc M, Int.mul_assoc M], show 2 * (M * C) * T = M * (2 * C * T) by rw [Int.mul_left_comm 2 M C, Int.mul_assoc M]]
    exact Int.mul_le_mul_left (by omega)
  have scP : ∀ s, prs t (M * C) (M * W) s = prs t C W s := fun s => by unfold prs; simp only [sc]
  have mM : ∀ i, mulOk M i = true := fun i => mulOk_l (by omega)
  have MC : 0 ≤ M * C ∧ M * C ≤ 4 * 6 := ⟨Int.mul_nonneg (by omega) (by omega), Int.mul_le_mul M0'.2 C0.2 (by omega) (by omega)⟩
  have MW : 0 < M * W ∧ M * W ≤ 4 * 9 := ⟨Int.mul_pos (by omega) (by omega), Int.mul_le_mul M0'.2 W0.2 (by omega) (by omega)⟩
  have sMC : Sm (M * C) := by unfold Sm; omega
  have sMW : Sm (M * W) := by unfold Sm; omega
  refine sq_nx (if_like hlike (v := pO (prs t C W S)) (by simp only [eK, eV, eB, e1, e2, aNil, aCons, eCall, eIf, cB, cAnd, cOr, cNot, cYes, cTru, eAnd, eOr, eNot, eNotT, e3c, eSl, eSlL, oNone, oSome, toB, toI, toL, pTru, pIsN, pNotN, isNone, gN, gT, gCons', gNil', sNil, thenF, sRet, sBrk, sCnt, sAsg, sOwn, sAug, sApp, sFz, sPar, mVal, mOwn, mNil, setAllE, ownL, sIf, sSetI, lSeq, lRng1, lRng2, lEnum, wipeE, pLen, pInt, pAbs, pTuple, pList, pNeg, pSub, pAddI, pPlus_i, pMul_i, pDiv_i, pMod_i, pEq_i, pNe_i, pLt_i, pLe_i, pGt_i, pGe_i, pMin2, pMax2, pTup_s, pLst_s, outF, Option.bind_some, Option.bind_none, List.getElem?_cons_succ, List.getElem?_cons_zero, List.length_cons, List.length_nil, List.set_cons_succ, List.set_cons_zero, Nat.reduceAdd, Nat.reduceLT, Nat.reduceSub, Nat.lt_irrefl, if_true, if_false, ite_true, ite_false, reduceIte, ↓reduceIte, Bool.not_true, Bool.not_false, Bool.false_eq_true, decide_true, not_true_eq_false, not_false_eq_true, decide_false, decide_eq_true_eq, Bool.not_eq_true', decide_eq_false_iff_not, Bool.not_eq_eq_eq_not, mM, hstop hn1k sMC sMW sS ts, scP]) (by simp only [eK, eV, eB, e1, e2, aNil, aCons, eCall, eIf, cB, cAnd, cOr, cNot, cYes, cTru, eAnd, eOr, eNot, eNotT, e3c, eSl, eSlL, oNone, oSome, toB, toI, toL, pTru, pIsN, pNotN, isNone, gN, gT, gCons', gNil', sNil, thenF, sRet, sBrk, sCnt, sAsg, sOwn, sAug, sApp, sFz, sPar, mVal, mOwn, mNil, setAllE, ownL, sIf, sSetI, lSeq, lRng1, lRng2, lEnum, wipeE, pLen, pInt, pAbs, pTuple, pList, pNeg, pSub, pAddI, pPlus_i, pMul_i, pDiv_i, pMod_i, pEq_i, pNe_i, pLt_i, pLe_i, pGt_i, pGe_i, pMin2, pMax2, pTup_s, pLst_s, outF, Option.bind_some, Option.bind_none, List.getElem?_cons_succ, List.getElem?_cons_zero, List.length_cons, List.length_nil, List.set_cons_succ, List.set_cons_zero, Nat.reduceAdd, Nat.reduceLT, Nat.reduceSub, Nat.lt_irrefl, if_true, if_false, ite_true, ite_false, reduceIte, ↓reduceIte, Bool.not_true, Bool.not_false, Bool.false_eq_true, decide_true, not_true_eq_false, not_false_eq_true, decide_false, decide_eq_true_eq, Bool.not_eq_true', decide_eq_false_iff_not, Bool.not_eq_eq_eq_not]) (lkO _ _)) ?_
  refine sq_nx (fz_val rfl) ?_
  have spM : Sp (M * W) (2 * (M * C) * t.getLastD 0) k := Sp.of_stp fun s hs => by
    have h1 := sc (t.getLastD 0) s
    rw [stK s hs] at h1
    exact decide_eq_decide.1 h1
  refine sq_nx (if_like hlike (v := .tuple rows) (by simp only [eK, eV, eB, e1, e2, aNil, aCons, eCall, eIf, cB, cAnd, cOr, cNot, cYes, cTru, eAnd, eOr, eNot, eNotT, e3c, eSl, eSlL, oNone, oSome, toB, toI, toL, pTru, pIsN, pNotN, isNone, gN, gT, gCons', gNil', sNil, thenF, sRet, sBrk, sCnt, sAsg, sOwn, sAug, sApp, sFz, sPar, mVal, mOwn, mNil, setAllE, ownL, sIf, sSetI, lSeq, lRng1, lRng2, lEnum, wipeE, pLen, pInt, pAbs, pTuple, pList, pNeg, pSub, pAddI, pPlus_i, pMul_i, pDiv_i, pMod_i, pEq_i, pNe_i, pLt_i, pLe_i, pGt_i, pGe_i, pMin2, pMax2, pTup_s, pLst_s, outF, Option.bind_some, Option.bind_none, List.getElem?_cons_succ, List.getElem?_cons_zero, List.length_cons, List.length_nil, List.set_cons_succ, List.set_cons_zero, Nat.reduceAdd, Nat.reduceLT, Nat.reduceSub, Nat.lt_irrefl, if_true, if_false, ite_true, ite_false, reduceIte, ↓reduceIte, Bool.not_true, Bool.not_false, Bool.false_eq_true, decide_true, not_true_eq_false, not_false_eq_true, decide_false, decide_eq_true_eq, Bool.not_eq_true', decide_eq_false_iff_not, Bool.not_eq_eq_eq_not, mM, hprow tn hn1k ts sMC sMW (by omega) spM, scP, hrows]) (by simp only [eK, eV, eB, e1, e2, aNil, aCons, eCall, eIf, cB, cAnd, cOr, cNot, cYes, cTru, eAnd, eOr, eNot, eNotT, e3c, eSl, eSlL, oNone, oSome, toB, toI, toL, pTru, pIsN, pNotN, isNone, gN, gT, gCons', gNil', sNil, thenF, sRet, sBrk, sCnt, sAsg, sOwn, sAug, sApp, sFz, sPar, mVal, mOwn, mNil, setAllE, ownL, sIf, sSetI, lSeq, lRng1, lRng2, lEnum, wipeE, pLen, pInt, pAbs, pTuple, pList, pNeg, pSub, pAddI, pPlus_i, pMul_i, pDiv_i, pMod_i, pEq_i, pNe_i, pLt_i, pLe_i, pGt_i, pGe_i, pMin2, pMax2, pTup_s, pLst_s, outF, Option.bind_some, Option.bind_none, List.getElem?_cons_succ, List.getElem?_cons_zero, List.length_cons, List.length_nil, List.set_cons_succ, List.set_cons_zero, Nat.reduceAdd, Nat.reduceLT, Nat.reduceSub, Nat.lt_irrefl, if_true, if_false, ite_true, ite_false, reduceIte, ↓reduceIte, Bool.not_true, Bool.not_false, Bool.false_eq_true, decide_true, not_true_eq_false, not_false_eq_true, decide_false, decide_eq_true_eq, Bool.not_eq_true', decide_eq_false_iff_not, Bool.not_eq_eq_eq_not]) lkR) ?_
  obtain ⟨b, hb⟩ : ∃ b, stp (t.getLastD 0) (4 * C) W (2 * k + 1) = b := ⟨_, rfl⟩
  obtain ⟨F, hF⟩ : ∃ F : Nat, F = 2 * k + (if b = true then 1 else 0) := ⟨_, rfl⟩
  have hF2 : ((F : Nat) : Int) = 2 * (k : Int) + (if b = true then 1 else 0) := by rw [hF]; split <;> omega
  have sk : Sm (2 * (k : Int) + 1) := by unfold Sm; omega
  have slast := ts _ (lastD_mem tn)
  refine sq_nx (ρ' := [.val (iL ns), .val (iL r), .val (iT t), .val (.int now), y, .val (.int C), .val (.int W), .val (.int S), .val (.int p), .val (nI k), .val (pO (prs t C W S)), .val (.tuple rows), .val (pI nd), .val (.int M), .val (nI F)]) (by simp only [eK, eV, eB, e1, e2, aNil, aCons, eCall, eIf, cB, cAnd, cOr, cNot, cYes, cTru, eAnd, eOr, eNot, eNotT, e3c, eSl, eSlL, oNone, oSome, toB, toI, toL, pTru, pIsN, pNotN, isNone, gN, gT, gCons', gNil', sNil, thenF, sRet, sBrk, sCnt, sAsg, sOwn, sAug, sApp, sFz, sPar, mVal, mOwn, mNil, setAllE, ownL, sIf, sSetI, lSeq, lRng1, lRng2, lEnum, wipeE, pLen, pInt, pAbs, pTuple, pList, pNeg, pSub, pAddI, pPlus_i, pMul_i, pDiv_i, pMod_i, pEq_i, pNe_i, pLt_i, pLe_i, pGt_i, pGe_i, pMin2, pMax2, pTup_s, pLst_s, outF, Option.bind_some, Option.bind_none, List.getElem?_cons_succ, List.getElem?_cons_zero, List.length_cons, List.length_nil, List.set_cons_succ, List.set_cons_zero, Nat.reduceAdd, Nat.reduceLT, Nat.reduceSub, Nat.lt_irrefl, if_true, if_false, ite_true, ite_false, reduceIte, ↓reduceIte, Bool.not_true, Bool.not_false, Bool.false_eq_true, decide_true, not_true_eq_false, not_false_eq_true, decide_false, decide_eq_true_eq, Bool.not_eq_true', decide_eq_false_iff_not, Bool.not_eq_eq_eq_not, m2, m4', ix_t1 tn, hstops (show Sm (4 * C) by unfold Sm; omega) sW sk slast, hb, ← hF2]) ?_
  refine sq_nx (fz_val rfl) ?_
  have Q4 : ∀ s : Int, W * (2 * s) * (2 * s) ≤ 2 * (4 * C) * t.getLastD 0 ↔ W * s * s ≤ 2 * C * t.getLastD 0 := fun s => by
    rw [show W * (2 * s) * (2 * s) = 4 * (W * s * s) by rw [Int.mul_left_comm W 2 s, Int.mul_assoc 2 (W * s), Int.mul_left_comm (W * s) 2 s]; omega, show 2 * (4 * C) * t.getLastD 0 = 4 * (2 * C * t.getLastD 0) by rw [Int.mul_left_comm 2 4 C, Int.mul_assoc 4]]
    omega
  have Wp : 0 < W := by omega
  have spF : Sp W (2 * (4 * C) * t.getLastD 0) F := by
    have a1 := (Q4 k).2 ((sp.stp Wp M0 k (by omega)).2 (Int.le_refl _))
    have a2 := fun h => (sp.stp Wp M0 (k + 1) (by omega)).1 ((Q4 (k + 1)).1 h)
    cases b with
    | true =>
      have hb := of_decide_eq_true hb
      rw [if_pos rfl] at hF
      refine ⟨fun j hj => Int.le_trans (sq_mono Wp (by omega) (show (j : Int) + 1 ≤ 2 * k + 1 by omega)) hb, ?_⟩
      rw [hF, show ((2 * k + 1 : Nat) : Int) + 1 = 2 * ((k : Int) + 1) by omega]
      rcases Int.lt_or_le (2 * (4 * C) * t.getLastD 0) (W * (2 * ((k : Int) + 1)) * (2 * ((k : Int) + 1))) with h | h
      · exact h
      · have := a2 h
        omega
    | false =>
      have hb := of_decide_eq_false hb
      rw [if_neg (by decide)] at hF
      refine ⟨fun j hj => Int.le_trans (sq_mono Wp (by omega) (show (j : Int) + 1 ≤ 2 * k by omega)) a1, ?_⟩
      rw [hF, show ((2 * k + 0 : Nat) : Int) + 1 = 2 * (k : Int) + 1 by omega]
      omega
  refine sq_nx (if_like hlike (v := nI F) (by simp only [eK, eV, eB, e1, e2, aNil, aCons, eCall, eIf, cB, cAnd, cOr, cNot, cYes, cTru, eAnd, eOr, eNot, eNotT, e3c, eSl, eSlL, oNone, oSome, toB, toI, toL, pTru, pIsN, pNotN, isNone, gN, gT, gCons', gNil', sNil, thenF, sRet, sBrk, sCnt, sAsg, sOwn, sAug, sApp, sFz, sPar, mVal, mOwn, mNil, setAllE, ownL, sIf, sSetI, lSeq, lRng1, lRng2, lEnum, wipeE, pLen, pInt, pAbs, pTuple, pList, pNeg, pSub, pAddI, pPlus_i, pMul_i, pDiv_i, pMod_i, pEq_i, pNe_i, pLt_i, pLe_i, pGt_i, pGe_i, pMin2, pMax2, pTup_s, pLst_s, outF, Option.bind_some, Option.bind_none, List.getElem?_cons_succ, List.getElem?_cons_zero, List.length_cons, List.length_nil, List.set_cons_succ, List.set_cons_zero, Nat.reduceAdd, Nat.reduceLT, Nat.reduceSub, Nat.lt_irrefl, if_true, if_false, ite_true, ite_false, reduceIte, ↓reduceIte, Bool.not_true, Bool.not_false, Bool.false_eq_true, decide_true, not_true_eq_false, not_false_eq_true, decide_false, decide_eq_true_eq, Bool.not_eq_true', decide_eq_false_iff_not, Bool.not_eq_eq_eq_not, m4', hspeed tn slast sW (by split at hF <;> omega) spF]) (by simp only [eK, eV, eB, e1, e2, aNil, aCons, eCall, eIf, cB, cAnd, cOr, cNot, cYes, cTru, eAnd, eOr, eNot, eNotT, e3c, eSl, eSlL, oNone, oSome, toB, toI, toL, pTru, pIsN, pNotN, isNone, gN, gT, gCons', gNil', sNil, thenF, sRet, sBrk, sCnt, sAsg, sOwn, sAug, sApp, sFz, sPar, mVal, mOwn, mNil, setAllE, ownL, sIf, sSetI, lSeq, lRng1, lRng2, lEnum, wipeE, pLen, pInt, pAbs, pTuple, pList, pNeg, pSub, pAddI, pPlus_i, pMul_i, pDiv_i, pMod_i, pEq_i, pNe_i, pLt_i, pLe_i, pGt_i, pGe_i, pMin2, pMax2, pTup_s, pLst_s, outF, Option.bind_some, Option.bind_none, List.getElem?_cons_succ, List.getElem?_cons_zero, List.length_cons, List.length_nil, List.set_cons_succ, List.set_cons_zero, Nat.reduceAdd, Nat.reduceLT, Nat.reduceSub, Nat.lt_irrefl, if_true, if_false, ite_true, ite_false, reduceIte, ↓reduceIte, Bool.not_true, Bool.not_false, Bool.false_eq_true, decide_true, not_true_eq_false, not_false_eq_true, decide_false, decide_eq_true_eq, Bool.not_eq_true', decide_eq_false_iff_not, Bool.not_eq_eq_eq_not]) (.int _)) ?_
  have key : stp T C W S = (match prs t C W S with | none => false | some a => decide ((a : Int) ≤ p)) := by
    have pr : p.toNat ∈ List.range t.length := List.mem_range.2 (by omega)
    cases hd : prs t C W S with
    | none =>
      have := List.find?_eq_none.1 hd _ pr
      rw [hT] at this
      exact Bool.eq_false_iff.2 this
    | some a =>
      obtain ⟨h1, h2, h3⟩ := List.find?_range_eq_some.1 hd
      have h2 := List.mem_range.1 h2
      show stp T C W S = decide ((a : Int) ≤ p)
      by_cases c : (a : Int) ≤ p
      · rw [show decide ((a : Int) ≤ p) = true from decide_eq_true c]
        have mo : t.getD a 0 ≤ T := by
          rw [← hT]
          rcases Nat.lt_or_ge a p.toNat with g | g
          · have := List.pairwise_iff_getElem.1 T'.mono a p.toNat h2 (by omega) g
            rw [List.getD_eq_getElem?_getD, List.getElem?_eq_getElem h2, List.getD_eq_getElem?_getD, List.getElem?_eq_getElem (by omega : p.toNat < t.length)]
            exact this
          · rw [show a = p.toNat by omega]
            exact Int.le_refl _
        have h1 := of_decide_eq_true h1
        exact decide_eq_true (Int.le_trans h1 (Int.mul_le_mul_of_nonneg_left mo (by omega)))
      · rw [show decide ((a : Int) ≤ p) = false from decide_eq_false c]
        have := h3 p.toNat (by omega)
        rw [hT] at this
        cases hs : stp T C W S with
        | false => rfl
        | true => rw [hs] at this; cases this
  cases hq : nd with
  | none =>
    obtain ⟨Tz, Sz⟩ := zer hq
    refine sq_rt (if_t rfl ?_)
    have pn : pEq .none (.int 0) = some (.bool false) := by rw [pEq_sh rfl rfl]; simp [PyData.eqv]
    cases hd : prs t C W S with
    | none => simp only [eK, eV, eB, e1, e2, aNil, aCons, eCall, eIf, cB, cAnd, cOr, cNot, cYes, cTru, eAnd, eOr, eNot, eNotT, e3c, eSl, eSlL, oNone, oSome, toB, toI, toL, pTru, pIsN, pNotN, isNone, gN, gT, gCons', gNil', sNil, thenF, sRet, sBrk, sCnt, sAsg, sOwn, sAug, sApp, sFz, sPar, mVal, mOwn, mNil, setAllE, ownL, sIf, sSetI, lSeq, lRng1, lRng2, lEnum, wipeE, pLen, pInt, pAbs, pTuple, pList, pNeg, pSub, pAddI, pPlus_i, pMul_i, pDiv_i, pMod_i, pEq_i, pNe_i, pLt_i, pLe_i, pGt_i, pGe_i, pMin2, pMax2, pTup_s, pLst_s, outF, Option.bind_some, Option.bind_none, List.getElem?_cons_succ, List.getElem?_cons_zero, List.length_cons, List.length_nil, List.set_cons_succ, List.set_cons_zero, Nat.reduceAdd, Nat.reduceLT, Nat.reduceSub, Nat.lt_irrefl, if_true, if_false, ite_true, ite_false, reduceIte, ↓reduceIte, Bool.not_true, Bool.not_false, Bool.false_eq_true, decide_true, not_true_eq_false, not_false_eq_true, decide_false, decide_eq_true_eq, Bool.not_eq_true', decide_eq_false_iff_not, Bool.not_eq_eq_eq_not, pI, pO, pn]
    | some a =>
      have sz : stp T C W S = false := decide_eq_false (fun h => by rw [Tz, Int.mul_zero] at h; exact Sz (Ns h))
      rw [sz, hd] at key
      have := of_decide_eq_false key.symm
      simp only [eK, eV, eB, e1, e2, aNil, aCons, eCall, eIf, cB, cAnd, cOr, cNot, cYes, cTru, eAnd, eOr, eNot, eNotT, e3c, eSl, eSlL, oNone, oSome, toB, toI, toL, pTru, pIsN, pNotN, isNone, gN, gT, gCons', gNil', sNil, thenF, sRet, sBrk, sCnt, sAsg, sOwn, sAug, sApp, sFz, sPar, mVal, mOwn, mNil, setAllE, ownL, sIf, sSetI, lSeq, lRng1, lRng2, lEnum, wipeE, pLen, pInt, pAbs, pTuple, pList, pNeg, pSub, pAddI, pPlus_i, pMul_i, pDiv_i, pMod_i, pEq_i, pNe_i, pLt_i, pLe_i, pGt_i, pGe_i, pMin2, pMax2, pTup_s, pLst_s, outF, Option.bind_some, Option.bind_none, List.getElem?_cons_succ, List.getElem?_cons_zero, List.length_cons, List.length_nil, List.set_cons_succ, List.set_cons_zero, Nat.reduceAdd, Nat.reduceLT, Nat.reduceSub, Nat.lt_irrefl, if_true, if_false, ite_true, ite_false, reduceIte, ↓reduceIte, Bool.not_true, Bool.not_false, Bool.false_eq_true, decide_true, not_true_eq_false, not_false_eq_true, decide_false, decide_eq_true_eq, Bool.not_eq_true', decide_eq_false_iff_not, Bool.not_eq_eq_eq_not, pI, pO, pn, (by omega : p < (a : Int))]
  | some q =>
    by_cases q0 : q = 0
    · exact sq_rt (if_t (by simp only [eK, eV, eB, e1, e2, aNil, aCons, eCall, eIf, cB, cAnd, cOr, cNot, cYes, cTru, eAnd, eOr, eNot, eNotT, e3c, eSl, eSlL, oNone, oSome, toB, toI, toL, pTru, pIsN, pNotN, isNone, gN, gT, gCons', gNil', sNil, thenF, sRet, sBrk, sCnt, sAsg, sOwn, sAug, sApp, sFz, sPar, mVal, mOwn, mNil, setAllE, ownL, sIf, sSetI, lSeq, lRng1, lRng2, lEnum, wipeE, pLen, pInt, pAbs, pTuple, pList, pNeg, pSub, pAddI, pPlus_i, pMul_i, pDiv_i, pMod_i, pEq_i, pNe_i, pLt_i, pLe_i, pGt_i, pGe_i, pMin2, pMax2, pTup_s, pLst_s, outF, Option.bind_some, Option.bind_none, List.getElem?_cons_succ, List.getElem?_cons_zero, List.length_cons, List.length_nil, List.set_cons_succ, List.set_cons_zero, Nat.reduceAdd, Nat.reduceLT, Nat.reduceSub, Nat.lt_irrefl, if_true, if_false, ite_true, ite_false, reduceIte, ↓reduceIte, Bool.not_true, Bool.not_false, Bool.false_eq_true, decide_true, not_true_eq_false, not_false_eq_true, decide_false, decide_eq_true_eq, Bool.not_eq_true', decide_eq_false_iff_not, Bool.not_eq_eq_eq_not, pI, q0]) (by simp only [eK, eV, eB, e1, e2, aNil, aCons, eCall, eIf, cB, cAnd, cOr, cNot, cYes, cTru, eAnd, eOr, eNot, eNotT, e3c, eSl, eSlL, oNone, oSome, toB, toI, toL, pTru, pIsN, pNotN, isNone, gN, gT, gCons', gNil', sNil, thenF, sRet, sBrk, sCnt, sAsg, sOwn, sAug, sApp, sFz, sPar, mVal, mOwn, mNil, setAllE, ownL, sIf, sSetI, lSeq, lRng1, lRng2, lEnum, wipeE, pLen, pInt, pAbs, pTuple, pList, pNeg, pSub, pAddI, pPlus_i, pMul_i, pDiv_i, pMod_i, pEq_i, pNe_i, pLt_i, pLe_i, pGt_i, pGe_i, pMin2, pMax2, pTup_s, pLst_s, outF, Option.bind_some, Option.bind_none, List.getElem?_cons_succ, List.getElem?_cons_zero, List.length_cons, List.length_nil, List.set_cons_succ, List.set_cons_zero, Nat.reduceAdd, Nat.reduceLT, Nat.reduceSub, Nat.lt_irrefl, if_true, if_false, ite_true, ite_false, reduceIte, ↓reduceIte, Bool.not_true, Bool.not_false, Bool.false_eq_true, decide_true, not_true_eq_false, not_false_eq_true, decide_false, decide_eq_true_eq, Bool.not_eq_true', decide_eq_false_iff_not, Bool.not_eq_eq_eq_not, pI, q0]))
    · have P := (pos q hq (by have := n0 q hq; omega)).2.1 C
      refine sq_nx (if_f (by simp only [eK, eV, eB, e1, e2, aNil, aCons, eCall, eIf, cB, cAnd, cOr, cNot, cYes, cTru, eAnd, eOr, eNot, eNotT, e3c, eSl, eSlL, oNone, oSome, toB, toI, toL, pTru, pIsN, pNotN, isNone, gN, gT, gCons', gNil', sNil, thenF, sRet, sBrk, sCnt, sAsg, sOwn, sAug, sApp, sFz, sPar, mVal, mOwn, mNil, setAllE, ownL, sIf, sSetI, lSeq, lRng1, lRng2, lEnum, wipeE, pLen, pInt, pAbs, pTuple, pList, pNeg, pSub, pAddI, pPlus_i, pMul_i, pDiv_i, pMod_i, pEq_i, pNe_i, pLt_i, pLe_i, pGt_i, pGe_i, pMin2, pMax2, pTup_s, pLst_s, outF, Option.bind_some, Option.bind_none, List.getElem?_cons_succ, List.getElem?_cons_zero, List.length_cons, List.length_nil, List.set_cons_succ, List.set_cons_zero, Nat.reduceAdd, Nat.reduceLT, Nat.reduceSub, Nat.lt_irrefl, if_true, if_false, ite_true, ite_false, reduceIte, ↓reduceIte, Bool.not_true, Bool.not_false, Bool.false_eq_true, decide_true, not_true_eq_false, not_false_eq_true, decide_false, decide_eq_true_eq, Bool.not_eq_true', decide_eq_false_iff_not, Bool.not_eq_eq_eq_not, pI, q0]) rfl) ?_
      have qs : decide (q ≤ C) = stp T C W S := decide_eq_decide.2 P
      cases hd : prs t C W S with
      | none =>
        rw [hd] at key
        simp only [eK, eV, eB, e1, e2, aNil, aCons, eCall, eIf, cB, cAnd, cOr, cNot, cYes, cTru, eAnd, eOr, eNot, eNotT, e3c, eSl, eSlL, oNone, oSome, toB, toI, toL, pTru, pIsN, pNotN, isNone, gN, gT, gCons', gNil', sNil, thenF, sRet, sBrk, sCnt, sAsg, sOwn, sAug, sApp, sFz, sPar, mVal, mOwn, mNil, setAllE, ownL, sIf, sSetI, lSeq, lRng1, lRng2, lEnum, wipeE, pLen, pInt, pAbs, pTuple, pList, pNeg, pSub, pAddI, pPlus_i, pMul_i, pDiv_i, pMod_i, pEq_i, pNe_i, pLt_i, pLe_i, pGt_i, pGe_i, pMin2, pMax2, pTup_s, pLst_s, outF, Option.bind_some, Option.bind_none, List.getElem?_cons_succ, List.getElem?_cons_zero, List.length_cons, List.length_nil, List.set_cons_succ, List.set_cons_zero, Nat.reduceAdd, Nat.reduceLT, Nat.reduceSub, Nat.lt_irrefl, if_true, if_false, ite_true, ite_false, reduceIte, ↓reduceIte, Bool.not_true, Bool.not_false, Bool.false_eq_true, decide_true, not_true_eq_false, not_false_eq_true, decide_false, decide_eq_true_eq, Bool.not_eq_true', decide_eq_false_iff_not, Bool.not_eq_eq_eq_not, pI, pO, pNotN, qs, key, pEq_bool]
      | some a =>
        rw [hd] at key
        simp only [eK, eV, eB, e1, e2, aNil, aCons, eCall, eIf, cB, cAnd, cOr, cNot, cYes, cTru, eAnd, eOr, eNot, eNotT, e3c, eSl, eSlL, oNone, oSome, toB, toI, toL, pTru, pIsN, pNotN, isNone, gN, gT, gCons', gNil', sNil, thenF, sRet, sBrk, sCnt, sAsg, sOwn, sAug, sApp, sFz, sPar, mVal, mOwn, mNil, setAllE, ownL, sIf, sSetI, lSeq, lRng1, lRng2, lEnum, wipeE, pLen, pInt, pAbs, pTuple, pList, pNeg, pSub, pAddI, pPlus_i, pMul_i, pDiv_i, pMod_i, pEq_i, pNe_i, pLt_i, pLe_i, pGt_i, pGe_i, pMin2, pMax2, pTup_s, pLst_s, outF, Option.bind_some, Option.bind_none, List.getElem?_cons_succ, List.getElem?_cons_zero, List.length_cons, List.length_nil, List.set_cons_succ, List.set_cons_zero, Nat.reduceAdd, Nat.reduceLT, Nat.reduceSub, Nat.lt_irrefl, if_true, if_false, ite_true, ite_false, reduceIte, ↓reduceIte, Bool.not_true, Bool.not_false, Bool.false_eq_true, decide_true, not_true_eq_false, not_false_eq_true, decide_false, decide_eq_true_eq, Bool.not_eq_true', decide_eq_false_iff_not, Bool.not_eq_eq_eq_not, pI, pO, pNotN, qs, key, pEq_bool]
theorem law_true : ∀ ns : List Int, ns.length ≤ 63 → f_law [.list (ns.map PyData.int)] = some (.bool true) := fun ns _ =>
  fn_rt (law_core (fun ns => by rw [row_eq]; exact row_is ns 26 (by decide)) @st_stops @st_press (fun v h => by rw [show f__law_like = g_like 8 from like_eq 8]; exact like_refl 8 v h) @st_speed @st_stop @st_row @st_need @st_fneed ns)
end Wk

set_option maxHeartbeats 0
namespace Wk
open PySem PySem.Spec PyProof.Rows L2 Pl
def defs : List He.DefD := [⟨("fender_stop", none), "fender_stop", "fender_stop", defArgs s_fender_stop, defBody s_fender_stop, defScope s_fender_stop, [], []⟩, ⟨("fenders_needed", none), "fenders_needed", "fenders_needed", defArgs s_fenders_needed, defBody s_fenders_needed, defScope s_fenders_needed, [], []⟩, ⟨("speed_most", none), "speed_most", "speed_most", defArgs s_speed_most, defBody s_speed_most, defScope s_speed_most, [], []⟩, ⟨("press_row", none), "press_row", "press_row", defArgs s_press_row, defBody s_press_row, defScope s_press_row, [], []⟩, ⟨("_law_mixed", none), "_law_mixed", "_law_mixed", defArgs s__law_mixed, defBody s__law_mixed, defScope s__law_mixed, [], []⟩, ⟨("_law_row", none), "_law_row", "_law_row", defArgs s__law_row, defBody s__law_row, defScope s__law_row, [], []⟩, ⟨("_law_is_int", none), "_law_is_int", "_law_is_int", defArgs s__law_is_int, defBody s__law_is_int, defScope s__law_is_int, [], []⟩, ⟨("_law_like", none), "_law_like", "_law_like", defArgs s__law_like, defBody s__law_like, defScope s__law_like, [], []⟩, ⟨("_law_stops", none), "_law_stops", "_law_stops", defArgs s__law_stops, defBody s__law_stops, defScope s__law_stops, [], []⟩, ⟨("_law_press", none), "_law_press", "_law_press", defArgs s__law_press, defBody s__law_press, defScope s__law_press, [], []⟩, ⟨("_law_needed", none), "_law_needed", "_law_needed", defArgs s__law_needed, defBody s__law_needed, defScope s__law_needed, [], []⟩, ⟨("law", none), "law", "law", defArgs s_law, defBody s_law, defScope s_law, [], []⟩]
def facts : List He.Fa := bfNames ++ [.glo "fender_stop", .glo "fenders_needed", .glo "speed_most", .glo "press_row", .glo "_law_mixed", .glo "_law_row", .glo "_law_is_int", .glo "_law_like", .glo "_law_stops", .glo "_law_press", .glo "_law_needed", .glo "law"]
abbrev R : PySem.W.OpenRow := PySem.W.OpenLaw.row PySem.Challenge.rw_dockheld_k01_whole_fenders_and_speeds
abbrev hk : PySem.W.Hook := He.hookD 4 facts defs
def ob (s : PySem.W.SharedT) : He.AlD := He.obsDG 4 facts defs (HandSHeadRun.getT s)
theorem ob_eq (s : PySem.W.SharedT) : ob s = hk.obs s.abs := He.obsDG_eq (HandSHeadRun.getT_eq s)
def loose : List PySem.Str := ["fender_stop", "fenders_needed", "speed_most", "press_row", "_law_mixed", "_law_row", "_law_is_int", "_law_like", "_law_stops", "_law_press", "_law_needed"]
theorem run (w : World) : HandSHeadRun.RunEq R (PySem.W.view R.prog [13]) hk ob 4000 loose w := by
  intro os
  kernel_rfl
theorem all_ok {P : Program} {w : World} {K : PySem.W.Frag} {h : Heap} {mg : Str → Option Value} {f : Addr} (X : K.In h) (G : h.Ns mainGlobals mg) (c : He.SaysD facts defs K) (hfa : mg "law" = some (.ref f)) :
    ∃ fd : FuncData, (∀ (s : Shared) (v : Value), BindsTo s fd ⟨[v], []⟩ [("script", v)]) ∧ ∀ base : Heap, K.In base → base.Ns mainGlobals mg → FnOk P w K mg base CX0 11 f fd ["script"] (spP K 1 f_law) := by
  have m : BF mg := BF.of X G c
  obtain ⟨fd0, F0⟩ := c.def_ 0 rfl
  have m0 : mg "fender_stop" = some (.ref (He.ga K "fender_stop")) := He.glo_ok X G (c.fact 19 rfl)
  obtain ⟨fd1, F1⟩ := c.def_ 1 rfl
  have m1 : mg "fenders_needed" = some (.ref (He.ga K "fenders_needed")) := He.glo_ok X G (c.fact 20 rfl)
  obtain ⟨fd2, F2⟩ := c.def_ 2 rfl
  have m2 : mg "speed_most" = some (.ref (He.ga K "speed_most")) := He.glo_ok X G (c.fact 21 rfl)
  obtain ⟨fd3, F3⟩ := c.def_ 3 rfl
  have m3 : mg "press_row" = some (.ref (He.ga K "press_row")) := He.glo_ok X G (c.fact 22 rfl)
  obtain ⟨fd4, F4⟩ := c.def_ 4 rfl
  have m4 : mg "_law_mixed" = some (.ref (He.ga K "_law_mixed")) := He.glo_ok X G (c.fact 23 rfl)
  obtain ⟨fd5, F5⟩ := c.def_ 5 rfl
  have m5 : mg "_law_row" = some (.ref (He.ga K "_law_row")) := He.glo_ok X G (c.fact 24 rfl)
  obtain ⟨fd6, F6⟩ := c.def_ 6 rfl
  have m6 : mg "_law_is_int" = some (.ref (He.ga K "_law_is_int")) := He.glo_ok X G (c.fact 25 rfl)
  obtain ⟨fd7, F7⟩ := c.def_ 7 rfl
  have m7 : mg "_law_like" = some (.ref (He.ga K "_law_like")) := He.glo_ok X G (c.fact 26 rfl)
  obtain ⟨fd8, F8⟩ := c.def_ 8 rfl
  have m8 : mg "_law_stops" = some (.ref (He.ga K "_law_stops")) := He.glo_ok X G (c.fact 27 rfl)
  obtain ⟨fd9, F9⟩ := c.def_ 9 rfl
  have m9 : mg "_law_press" = some (.ref (He.ga K "_law_press")) := He.glo_ok X G (c.fact 28 rfl)
  obtain ⟨fd10, F10⟩ := c.def_ 10 rfl
  have m10 : mg "_law_needed" = some (.ref (He.ga K "_law_needed")) := He.glo_ok X G (c.fact 29 rfl)
  obtain ⟨fd11, F11⟩ := c.def_ 11 rfl
  have m11 : mg "law" = some (.ref (He.ga K "law")) := He.glo_ok X G (c.fact 30 rfl)
  have e := hfa.symm.trans m11
  cases e
  have b := FunD.bindsA (ps := ["script"]) F11 fun _ _ _ _ _ _ us hl => match us, hl with | [_], _ => rfl
  refine ⟨fd11, fun s v => b s [v] rfl, fun base _ _ => ?_⟩
  have D0 : DefOk P w K mg base 1 "fender_stop" 4 f_fender_stop := ok_fender_stop F0 m0 m
  have D1 : DefOk P w K mg base 1 "fenders_needed" 4 f_fenders_needed := ok_fenders_needed F1 m1 m
  have D2 : DefOk P w K mg base 1 "speed_most" 3 f_speed_most := ok_speed_most F2 m2 m
  have D3 : DefOk P w K mg base 2 "press_row" 3 f_press_row := ok_press_row F3 m3 m (D2.mono (by decide)) (D0.mono (by decide))
  have D4 : DefOk P w K mg base 1 "_law_mixed" 2 f__law_mixed := ok__law_mixed F4 m4 m
  have D5 : DefOk P w K mg base 2 "_law_row" 2 f__law_row := ok__law_row F5 m5 m (D4.mono (by decide))
  have D6 : DefOk P w K mg base 1 "_law_is_int" 1 f__law_is_int := ok__law_is_int F6 m6 m
  have Z7 : ∀ j, DefOk P w K mg base (2 + j) "_law_like" 2 (g__law_like j) := fun j => by
    induction j with
    | zero => exact DefOk.none' m7 F7.kp (F7.bindsN (ps := ["value", "due"]) fun _ _ _ _ _ _ us hl => match us, hl with | [_, _], _ => rfl) _
    | succ j ih => exact ok__law_like (k := 2 + j) F7 m7 m ih (D6.mono (by omega))
  have D7 : DefOk P w K mg base 10 "_law_like" 2 f__law_like := Z7 8
  have D8 : DefOk P w K mg base 1 "_law_stops" 4 f__law_stops := ok__law_stops F8 m8 m
  have D9 : DefOk P w K mg base 2 "_law_press" 4 f__law_press := ok__law_press F9 m9 m (D8.mono (by decide))
  have D10 : DefOk P w K mg base 2 "_law_needed" 3 f__law_needed := ok__law_needed F10 m10 m (D8.mono (by decide))
  exact fnOk_body (k := 10) F11 sc_law fun cdv A outer s H E hr => bd_law m (D5.mono (by decide)) (D8.mono (by decide)) (D9.mono (by decide)) (D7.mono (by decide)) (D2.mono (by decide)) (D0.mono (by decide)) (D3.mono (by decide)) (D10.mono (by decide)) (D1.mono (by decide)) hr
end Wk
open PySem PySem.W PySem.Calls PyProof.Rows
set_option maxHeartbeats 0 in
theorem PySem.Challenge.cw_dockheld_k01_whole_fenders_and_speeds_holds : PySem.Challenge.rw_dockheld_k01_whole_fenders_and_speeds.Holds := by
  w_on; o_law
  refine HandSHeadRun.head_any (r := OpenLaw.row PySem.Challenge.rw_dockheld_k01_whole_fenders_and_speeds) (q := view (OpenLaw.row PySem.Challenge.rw_dockheld_k01_whole_fenders_and_speeds).prog [13]) (H := Wk.hk) (ob := Wk.ob) (M := 4000) (loose := Wk.loose) (d := HandSHeadRun.topDef (OpenLaw.row PySem.Challenge.rw_dockheld_k01_whole_fenders_and_speeds).prog 13) (kwd := []) Wk.ob_eq
    (by kernel_rfl) (fun s => by kernel_rfl) Wk.run (by kernel_rfl) (by kernel_rfl) (by kernel_rfl) (by rfl) (by first | assumption | decide +kernel) (by decide +kernel) ⟨rfl, rfl, rfl, rfl, rfl, by decide +kernel⟩ ?hw ?hc
  case hw => w_witness2
  case hc =>
    refine Pl.law_end (l := PySem.Challenge.rw_dockheld_k01_whole_fenders_and_speeds) (k := 11) (fa := Wk.facts) (fn := Wk.defs) rfl (by kernel_rfl) ⟨rfl, by decide, by decide⟩ (by kernel_rfl) (fun _ _ y => y) Wk.law_true ?F
    intro w K mg h KX G c f hf
    exact Wk.all_ok KX G c hf
