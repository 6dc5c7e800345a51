import PyProof.Rows.All
import Wide.All
import OpenK.AllK
import Wide.FinOn
import HandS.ForMost
import HandS.Deep
import HandS.IsInst
import HandS.Wide
import HandS.Gcd
import HandS.Zip
import HandS.SortInts
import HandS.TupSets
import HandS.Flow
import HandS.NoneIn
import HandS.Style
import KE.DataCmp
import KE.DataMinMax
import KE.SortData
import HandS.RevRange
import HandS.TryOnly
import KE.DatumOrd
import HandS.SetBool
import HandS.DictComp
import HandS.Strs
import HandS.Conv
import HandS.Flt
import PyProof.ReprRoads
import PyProof.ReprLen
import KE.DatumMoreOrd
import PySem.Challenge.RW_spotincommon_k64_whole_roads_that_touch
set_option Elab.async false
set_option linter.all false
set_option maxRecDepth 100000
set_option Elab.async false
set_option linter.all false
set_option maxRecDepth 100000
namespace PV
open PySem PySem.Spec L2
set_option autoImplicit false
/-! ### deep values, outcomes -/
abbrev D := PyData
inductive Res (α : Type) where
  | ok (a : α)
  | exc (c : Str)
  | bad
def Res.bind {α β : Type} (r : Res α) (f : α → Res β) : Res β := match r with
  | .ok a => f a
  | .exc c => .exc c
  | .bad => .bad
@[simp] theorem Res.bind_ok {α β : Type} (a : α) (f : α → Res β) : (Res.ok a).bind f = f a := Eq.trans rfl rfl
@[simp] theorem Res.bind_bad {α β : Type} (f : α → Res β) : (Res.bad : Res α).bind f = .bad := Eq.trans rfl rfl
@[simp] theorem Res.bind_exc {α β : Type} (c : Str) (f : α → Res β) : (Res.exc c : Res α).bind f = .exc c := Eq.trans rfl rfl
theorem Res.bind_eq {α β : Type} {r : Res α} {f : α → Res β} {b : β} (h : r.bind f = .ok b) : ∃ a, r = .ok a ∧ f a = .ok b := by
  cases r with
  | ok a => exact ⟨a, rfl, h⟩
  | exc c => cases h
  | bad => cases h
/-- a value; whether it is a list that nobody else has -/
structure RV where
  d : D
  fr : Bool
/-- a slot: nothing told, a value that stays as it is, a list of its own -/
inductive Sl where
  | no
  | fz (d : D)
  | own (ds : List D)
abbrev Env := List Sl

/-! ### what stands -/
section
variable {K : PySem.W.Frag} {H H' H1 H2 Z Z' Z1 Z2 H0 Z0 : Hp} {a p : Addr} {vs : List V} {v : V} {d : D} {ds : List D}
theorem seqT (e : Same H H') (h : SqT K H a vs) : SqT K H' a vs := by
  rcases h with (h | ⟨o, h⟩) | h
  · exact .inl (.inl (e _ _ h))
  · exact .inl (.inr ⟨o, e _ _ h⟩)
  · exact .inr h
mutual
theorem dp_mono (e : Same H H') : ∀ {v : V} {d : D}, Dp K H v d → Dp K H' v d
  | _, _, .non => .non
  | _, _, .bl b => .bl b
  | _, _, .int i => .int i
  | _, _, .str x => .str x
  | _, _, .lst h1 h2 => .lst (e.seq h1) (dps_mono e h2)
  | _, _, .tup h1 h2 => .tup (seqT e h1) (dps_mono e h2)
theorem dps_mono (e : Same H H') : ∀ {vs : List V} {ds : List D}, DpAll K H vs ds → DpAll K H' vs ds
  | _, _, .nil => .nil
  | _, _, .cons h1 h2 => .cons (dp_mono e h1) (dps_mono e h2)
end
theorem dps_length : ∀ {vs : List V} {ds : List D}, DpAll K H vs ds → vs.length = ds.length
  | _, _, .nil => rfl
  | _, _, .cons _ h => congrArg (· + 1) (dps_length h)
theorem dps_get : ∀ {vs : List V} {ds : List D} {i : Nat} {d : D}, DpAll K H vs ds → ds[i]? = some d → ∃ v, vs[i]? = some v ∧ Dp K H v d
  | _, _, _, _, .nil, e => by simp at e
  | _, _, 0, _, .cons h _, e => by simp at e; subst e; exact ⟨_, rfl, h⟩
  | _, _, i + 1, d, .cons _ h, e => by
    obtain ⟨v, h1, h2⟩ := dps_get (i := i) (d := d) h (by simpa using e)
    exact ⟨v, by simpa using h1, h2⟩
theorem dps_get' : ∀ {vs : List V} {ds : List D} {i : Nat} {v : V}, DpAll K H vs ds → vs[i]? = some v → ∃ d, ds[i]? = some d ∧ Dp K H v d
  | _, _, _, _, .nil, e => by simp at e
  | _, _, 0, _, .cons h _, e => by simp at e; subst e; exact ⟨_, rfl, h⟩
  | _, _, i + 1, d, .cons _ h, e => by
    obtain ⟨v, h1, h2⟩ := dps_get' (i := i) (v := d) h (by simpa using e)
    exact ⟨v, by simpa using h1, h2⟩
theorem dps_append : ∀ {vs ws : List V} {ds es : List D}, DpAll K H vs ds → DpAll K H ws es → DpAll K H (vs ++ ws) (ds ++ es)
  | _, _, _, _, .nil, h => h
  | _, _, _, _, .cons h1 h2, h => .cons h1 (dps_append h2 h)
theorem dps_set : ∀ {vs : List V} {ds : List D} (i : Nat) {v : V} {d : D}, DpAll K H vs ds → Dp K H v d → DpAll K H (vs.set i v) (ds.set i d)
  | _, _, _, _, _, .nil, _ => .nil
  | _, _, 0, _, _, .cons _ h2, h => .cons h h2
  | _, _, i + 1, _, _, .cons h1 h2, h => .cons h1 (dps_set i h2 h)
theorem dps_take : ∀ {vs : List V} {ds : List D} (n : Nat), DpAll K H vs ds → DpAll K H (vs.take n) (ds.take n)
  | _, _, 0, _ => .nil
  | _, _, _ + 1, .nil => .nil
  | _, _, n + 1, .cons h1 h2 => .cons h1 (dps_take n h2)
theorem dps_drop : ∀ {vs : List V} {ds : List D} (n : Nat), DpAll K H vs ds → DpAll K H (vs.drop n) (ds.drop n)
  | _, _, 0, h => h
  | _, _, _ + 1, .nil => .nil
  | _, _, n + 1, .cons _ h2 => dps_drop n h2
theorem dps_ints : ∀ {ns : List Int} {vs : List V}, DpAll K H vs (ns.map PyData.int) → vs = ns.map V.int
  | [], _, .nil => rfl
  | n :: r, _, .cons h1 h2 => by cases h1; rw [dps_ints h2]; rfl
theorem ints_dps : ∀ (ns : List Int), DpAll K H (ns.map V.int) (ns.map PyData.int)
  | [] => .nil
  | n :: r => .cons (.int n) (ints_dps r)
theorem dps_bools : ∀ {bs : List Bool} {vs : List V}, DpAll K H vs (bs.map PyData.bool) → vs = bs.map V.bl
  | [], _, .nil => rfl
  | n :: r, _, .cons h1 h2 => by cases h1; rw [dps_bools h2]; rfl
theorem same_upd {o : HO} (h : H p = none) : Same H (upd H p o) := fun b x e => by
  rw [upd_ne (ne_of_none e h)]
  exact e
theorem same_updR {o : HO} (h : Z p = none) (s : Same Z H) : Same Z (upd H p o) := fun b x e => by
  rw [upd_ne (ne_of_none e h)]
  exact s b x e

/-- the frozen part Z and the heap H have grown -/
structure Ext (Z H Z' H' : Hp) : Prop where
  hh : Same H H'
  zz : Same Z Z'
  zh : Same Z' H'
  no : ∀ a, H a ≠ none → Z a = none → Z' a = none
theorem Ext.refl (h : Same Z H) : Ext Z H Z H := ⟨Same.refl _, Same.refl _, h, fun _ _ e => e⟩
theorem not_none {a : Addr} (s : Same H H') (h : H a ≠ none) : H' a ≠ none := fun e => h (s.free e)
theorem Ext.trans (a : Ext Z H Z1 H1) (b : Ext Z1 H1 Z2 H2) : Ext Z H Z2 H2 :=
  ⟨a.hh.trans b.hh, a.zz.trans b.zz, b.zh, fun c h e => b.no c (not_none a.hh h) (a.no c h e)⟩
/-- a new object, frozen at once -/
theorem Ext.new {o : HO} (h : Same Z H) (hp : H p = none) : Ext Z H (upd Z p o) (upd H p o) := by
  have zp : Z p = none := h.free hp
  refine ⟨same_upd hp, same_upd zp, fun b x e => ?_, fun a ha e => ?_⟩
  · by_cases hb : b = p
    · subst hb; rw [upd_same] at e ⊢; exact e
    · rw [upd_ne hb] at e ⊢; exact h b x e
  · have : a ≠ p := fun q => ha (q ▸ hp)
    rw [upd_ne this]; exact e
/-- a new object, not frozen -/
theorem Ext.made {o : HO} (h : Same Z H) (hp : H p = none) : Ext Z H Z (upd H p o) :=
  ⟨same_upd hp, Same.refl _, same_updR (h.free hp) h, fun _ _ e => e⟩
/-- a list of one's own is frozen -/
theorem Ext.freeze {o : HO} (e : Ext Z H Z' H') (hp : H p = none) (hp' : H' p = some o) (zp : Z' p = none) : Ext Z H (upd Z' p o) H' := by
  refine ⟨e.hh, e.zz.trans (same_upd zp), fun b x q => ?_, fun a ha q => ?_⟩
  · by_cases hb : b = p
    · subst hb; rw [upd_same] at q; rw [hp']; exact q
    · rw [upd_ne hb] at q; exact e.zh b x q
  · have : a ≠ p := fun z => ha (z ▸ hp)
    rw [upd_ne this]; exact e.no a ha q

/-- a value that may be a list of one's own at its top -/
def DpP (K : PySem.W.Frag) (Z H : Hp) (v : V) (d : D) : Prop := Dp K Z v d ∨ ∃ p vs ds, v = .ref p ∧ d = .list ds ∧ H p = some (.lst vs) ∧ DpAll K Z vs ds
theorem DpP.ext (h : DpP K Z H v d) (e : Ext Z H Z' H') : DpP K Z' H' v d := by
  rcases h with h | ⟨p, vs, ds, h1, h2, h3, h4⟩
  · exact .inl (dp_mono e.zz h)
  · exact .inr ⟨p, vs, ds, h1, h2, e.hh _ _ h3, dps_mono e.zz h4⟩
theorem DpP.cur (h : DpP K Z H v d) (s : Same Z H) : Dp K H v d := by
  rcases h with h | ⟨p, vs, ds, rfl, rfl, h3, h4⟩
  · exact dp_mono s h
  · exact .lst (.of h3) (dps_mono s h4)
/-- a list that is read -/
theorem DpP.list (h : DpP K Z H v (.list ds)) (s : Same Z H) : ∃ p vs, v = .ref p ∧ SqL K H p vs ∧ DpAll K Z vs ds := by
  rcases h with h | ⟨p, vs, ds', rfl, e, h3, h4⟩
  · cases h with
    | lst h1 h2 => exact ⟨_, _, rfl, s.seq h1, h2⟩
  · cases e
    exact ⟨p, vs, rfl, .of h3, h4⟩
theorem DpP.tup (h : DpP K Z H v (.tuple ds)) (s : Same Z H) : ∃ p vs, v = .ref p ∧ SqT K H p vs ∧ DpAll K Z vs ds := by
  rcases h with h | ⟨p, vs, ds', rfl, e, h3, h4⟩
  · cases h with
    | tup h1 h2 => exact ⟨_, _, rfl, seqT s h1, h2⟩
  · cases e
theorem DpP.int {i : Int} (h : DpP K Z H v (.int i)) : v = .int i := by
  rcases h with h | ⟨p, vs, ds', rfl, e, h3, h4⟩
  · cases h; rfl
  · cases e
theorem DpP.bool {i : Bool} (h : DpP K Z H v (.bool i)) : v = .bl i := by
  rcases h with h | ⟨p, vs, ds', rfl, e, h3, h4⟩
  · cases h; rfl
  · cases e
theorem DpP.str {i : Str} (h : DpP K Z H v (.str i)) : v = .str i := by
  rcases h with h | ⟨p, vs, ds', rfl, e, h3, h4⟩
  · cases h; rfl
  · cases e
theorem DpP.none (h : DpP K Z H v .none) : v = .non := by
  rcases h with h | ⟨p, vs, ds', rfl, e, h3, h4⟩
  · cases h; rfl
  · cases e
abbrev DpPs (K : PySem.W.Frag) (Z H : Hp) : List V → List D → Prop := Paired (DpP K Z H)
theorem DpPs.ext : ∀ {vs : List V} {ds : List D}, DpPs K Z H vs ds → Ext Z H Z' H' → DpPs K Z' H' vs ds
  | _, _, .nil, _ => .nil
  | _, _, .cons a b, e => .cons (a.ext e) (DpPs.ext b e)

/-- a value that has come: a new list of one's own, or a frozen value -/
def RepV (K : PySem.W.Frag) (H Z' H' : Hp) (v : V) (r : RV) : Prop :=
  if r.fr = true then ∃ p vs ds, v = .ref p ∧ r.d = .list ds ∧ H p = none ∧ Z' p = none ∧ H' p = some (.lst vs) ∧ DpAll K Z' vs ds else Dp K Z' v r.d
/-- .. freeze it -/
theorem RepV.frozen {r : RV} (h : RepV K H Z' H' v r) (e : Ext Z H Z' H') : ∃ Z2, Ext Z H Z2 H' ∧ Dp K Z2 v r.d := by
  unfold RepV at h
  split at h
  · obtain ⟨p, vs, ds, rfl, e1, h1, h2, h3, h4⟩ := h
    refine ⟨_, e.freeze (o := .lst vs) h1 h3 h2, ?_⟩
    rw [e1]
    exact .lst (.of upd_same) (dps_mono (same_upd h2) h4)
  · exact ⟨Z', e, h⟩
theorem RepV.peek {r : RV} (h : RepV K H Z' H' v r) : DpP K Z' H' v r.d := by
  unfold RepV at h
  split at h
  · obtain ⟨p, vs, ds, rfl, e1, h1, h2, h3, h4⟩ := h
    exact .inr ⟨p, vs, ds, rfl, e1, h3, h4⟩
  · exact .inl h

def SlOk (K : PySem.W.Frag) (H0 Z H : Hp) : Sl → Option V → Prop
  | .no, _ => True
  | .fz d, o => ∃ v, o = some v ∧ Dp K Z v d
  | .own ds, o => ∃ p vs, o = some (.ref p) ∧ H p = some (.lst vs) ∧ Z p = none ∧ H0 p = none ∧ DpAll K Z vs ds
structure EnvOk (K : PySem.W.Frag) (H0 Z0 Z H : Hp) (σ : St) (env : Env) : Prop where
  sz : Same Z H
  s0 : Same H0 H
  z0 : Same Z0 Z
  no : ∀ a, H0 a ≠ none → Z0 a = none → Z a = none
  len : σ.length = env.length
  at_ : ∀ (i : Nat) (s : Sl), env[i]? = some s → ∃ o, σ[i]? = some o ∧ SlOk K H0 Z H s o
  sep : ∀ (i j : Nat) (p : Addr) (ds es : List D), i ≠ j → env[i]? = some (.own ds) → env[j]? = some (.own es) → σ[i]? = some (some (.ref p)) → σ[j]? = some (some (.ref p)) → False
variable {σ : St} {env : Env}
theorem SlOk.ext {s : Sl} {o : Option V} (h : SlOk K H0 Z H s o) (e : Ext Z H Z' H') : SlOk K H0 Z' H' s o := by
  cases s with
  | no => exact True.intro
  | fz d => obtain ⟨v, h1, h2⟩ := h; exact ⟨v, h1, dp_mono e.zz h2⟩
  | own ds =>
    obtain ⟨p, vs, h1, h2, h3, h4, h5⟩ := h
    exact ⟨p, vs, h1, e.hh _ _ h2, e.no p (by rw [h2]; exact fun z => nomatch z) h3, h4, dps_mono e.zz h5⟩
theorem EnvOk.ext (h : EnvOk K H0 Z0 Z H σ env) (e : Ext Z H Z' H') : EnvOk K H0 Z0 Z' H' σ env :=
  ⟨e.zh, h.s0.trans e.hh, h.z0.trans e.zz, fun a h1 h2 => e.no a (not_none h.s0 h1) (h.no a h1 h2), h.len, fun i s q => let ⟨o, h1, h2⟩ := h.at_ i s q; ⟨o, h1, h2.ext e⟩, h.sep⟩
/-- the entry told anew: the frozen part as it stands -/
theorem EnvOk.rebase (h : EnvOk K H0 Z0 Z H σ env) : EnvOk K H0 Z Z H σ env :=
  ⟨h.sz, h.s0, Same.refl _, fun _ _ e => e, h.len, h.at_, h.sep⟩
theorem EnvOk.unbase {env' : Env} {σ' : St} (h : EnvOk K H0 Z0 Z H σ env) (h' : EnvOk K H0 Z Z' H' σ' env') : EnvOk K H0 Z0 Z' H' σ' env' :=
  ⟨h'.sz, h'.s0, h.z0.trans h'.z0, fun a h1 h2 => h'.no a h1 (h.no a h1 h2), h'.len, h'.at_, h'.sep⟩
end
end PV

set_option Elab.async false
set_option linter.all false
set_option maxRecDepth 100000
namespace PV
open PySem PySem.Spec L2
set_option autoImplicit false
/-! ### readings -/
def tE (K : PySem.W.Frag) (f : Env → Res D) : TE := fun σ H Q => ∃ H0 Z0 Z env d, EnvOk K H0 Z0 Z H σ env ∧ f env = .ok d ∧ ∀ v H' Z', Ext Z H Z' H' → Dp K Z' v d → Q v H'
def tP (K : PySem.W.Frag) (f : Env → Res D) : TE := fun σ H Q => ∃ H0 Z0 Z env d, EnvOk K H0 Z0 Z H σ env ∧ f env = .ok d ∧ ∀ v H' Z', Ext Z H Z' H' → DpP K Z' H' v d → Q v H'
def tV (K : PySem.W.Frag) (f : Env → Res RV) : TE := fun σ H Q => ∃ H0 Z0 Z env r, EnvOk K H0 Z0 Z H σ env ∧ f env = .ok r ∧ ∀ v H' Z', Ext Z H Z' H' → RepV K H Z' H' v r → Q v H'
def tA (K : PySem.W.Frag) (f : Env → Res (List D)) : TA := fun σ H Q => ∃ H0 Z0 Z env ds, EnvOk K H0 Z0 Z H σ env ∧ f env = .ok ds ∧ ∀ vs H' Z', Ext Z H Z' H' → DpAll K Z' vs ds → Q vs H'
def tAp (K : PySem.W.Frag) (f : Env → Res (List D)) : TA := fun σ H Q => ∃ H0 Z0 Z env ds, EnvOk K H0 Z0 Z H σ env ∧ f env = .ok ds ∧ ∀ vs H' Z', Ext Z H Z' H' → DpPs K Z' H' vs ds → Q vs H'
def tT (K : PySem.W.Frag) (f : Env → Res Bool) : TT := fun σ H Q => ∃ H0 Z0 Z env b, EnvOk K H0 Z0 Z H σ env ∧ f env = .ok b ∧ ∀ H' Z', Ext Z H Z' H' → Q b H'
section
variable {X : Cx} {e a b : Expr} {es : List Expr} {pos p : Pos} {op : Operator} {t t' : TE} {fa fb f : Env → Res D} {fv : Env → Res RV} {K : PySem.W.Frag}
theorem pe_mono (h : PE X e t) (k : ∀ σ H Q, t' σ H Q → t σ H Q) : PE X e t' := ⟨fun pins s σ H Q I q => h.run pins s σ H Q I (k σ H Q q)⟩
theorem pt_mono {c c' : TT} (h : PT X e c) (k : ∀ σ H Q, c' σ H Q → c σ H Q) : PT X e c' := ⟨fun pins s σ H Q I q => h.run pins s σ H Q I (k σ H Q q)⟩
theorem pw_mono {c c' : TT} (h : PW X e c) (k : ∀ σ H Q, c' σ H Q → c σ H Q) : PW X e c' := ⟨fun wh pins s σ H Q I q => h.run wh pins s σ H Q I (k σ H Q q)⟩
theorem pa_mono {c c' : TA} (h : PA X es c) (k : ∀ σ H Q, c' σ H Q → c σ H Q) : PA X es c' := ⟨fun wh pins s σ H Q I q => h.run wh pins s σ H Q I (k σ H Q q)⟩
theorem ps_mono {st : Stmt} {c c' : TS} (h : PS X st c) (k : ∀ D σ H, c' D σ H → c D σ H) : PS X st c' := ⟨fun pins s σ H D I q => h.run pins s σ H D I (k D σ H q)⟩
theorem pss_mono {st : List Stmt} {c c' : TS} (h : PSs X st c) (k : ∀ D σ H, c' D σ H → c D σ H) : PSs X st c' := ⟨fun pins s σ H D I q => h.run pins s σ H D I (k D σ H q)⟩

/-! ### from one reading to another -/
def eV (f : Env → Res RV) : Env → Res D := fun env => (f env).bind fun r => .ok r.d
def eE (f : Env → Res D) : Env → Res RV := fun env => (f env).bind fun d => .ok ⟨d, false⟩
theorem E_v (h : PE X e (tV X.K fv)) : PE X e (tE X.K (eV fv)) := pe_mono h fun σ H Q ⟨H0, Z0, Z, env, d, hE, hf, q⟩ => by
  obtain ⟨r, h1, h2⟩ := Res.bind_eq hf
  cases h2
  exact ⟨H0, Z0, Z, env, r, hE, h1, fun v H' Z' e hr => let ⟨Z2, e2, h2⟩ := hr.frozen e; q v H' Z2 e2 h2⟩
theorem P_v (h : PE X e (tV X.K fv)) : PE X e (tP X.K (eV fv)) := pe_mono h fun σ H Q ⟨H0, Z0, Z, env, d, hE, hf, q⟩ => by
  obtain ⟨r, h1, h2⟩ := Res.bind_eq hf
  cases h2
  exact ⟨H0, Z0, Z, env, r, hE, h1, fun v H' Z' e hr => q v H' Z' e hr.peek⟩
theorem P_e (h : PE X e (tE X.K f)) : PE X e (tP X.K f) := pe_mono h fun σ H Q ⟨H0, Z0, Z, env, d, hE, hf, q⟩ => ⟨H0, Z0, Z, env, d, hE, hf, fun v H' Z' e hr => q v H' Z' e (.inl hr)⟩
theorem V_e (h : PE X e (tE X.K f)) : PE X e (tV X.K (eE f)) := pe_mono h fun σ H Q ⟨H0, Z0, Z, env, d, hE, hf, q⟩ => by
  obtain ⟨r, h1, h2⟩ := Res.bind_eq hf
  cases h2
  exact ⟨H0, Z0, Z, env, r, hE, h1, fun v H' Z' e hr => q v H' Z' e hr⟩

/-! ### names, constants -/
def eVar (i : Nat) : Env → Res D := fun env => match env[i]? with
  | some (.fz d) => .ok d
  | _ => .bad
def ePk (i : Nat) : Env → Res D := fun env => match env[i]? with
  | some (.fz d) => .ok d
  | some (.own ds) => .ok (.list ds)
  | _ => .bad
def eC (d : D) : Env → Res D := fun _ => .ok d
theorem eVar_eq {i : Nat} {env : Env} {d : D} (h : eVar i env = .ok d) : env[i]? = some (.fz d) := by
  unfold eVar at h
  split at h
  · rename_i x e; cases h; exact e
  · cases h
theorem ePk_eq {i : Nat} {env : Env} {d : D} (h : ePk i env = .ok d) : env[i]? = some (.fz d) ∨ ∃ ds, env[i]? = some (.own ds) ∧ d = .list ds := by
  unfold ePk at h
  split at h
  · rename_i x e; cases h; exact .inl e
  · rename_i x e; cases h; exact .inr ⟨_, e, rfl⟩
  · cases h
theorem E_var (i : Nat) {x : Str} (hN : X.N[i]? = some x := by rfl) (hv : Vis X.env.scope x := by first | exact Or.inl rfl | exact Or.inr (Or.inl rfl) | exact Or.inr (Or.inr rfl)) (hd : (x == ("__debug__" : Str)) = false := by decide)
    (hcd : (x == ("__classdict__" : Str)) = false := by decide) : PE X (.Name x pos) (tE X.K (eVar i)) := pe_mono (pe_var hN hv hd hcd) fun σ H Q ⟨H0, Z0, Z, env, d, hE, hf, q⟩ => by
  obtain ⟨o, h1, v, h2, h3⟩ := hE.at_ i _ (eVar_eq hf)
  subst h2
  exact ⟨v, h1, q v H Z (.refl hE.sz) h3⟩
theorem P_var (i : Nat) {x : Str} (hN : X.N[i]? = some x := by rfl) (hv : Vis X.env.scope x := by first | exact Or.inl rfl | exact Or.inr (Or.inl rfl) | exact Or.inr (Or.inr rfl)) (hd : (x == ("__debug__" : Str)) = false := by decide)
    (hcd : (x == ("__classdict__" : Str)) = false := by decide) : PE X (.Name x pos) (tP X.K (ePk i)) := pe_mono (pe_var hN hv hd hcd) fun σ H Q ⟨H0, Z0, Z, env, d, hE, hf, q⟩ => by
  rcases ePk_eq hf with he | ⟨ds, he, rfl⟩
  · obtain ⟨o, h1, v, h2, h3⟩ := hE.at_ i _ he
    subst h2
    exact ⟨v, h1, q v H Z (.refl hE.sz) (.inl h3)⟩
  · obtain ⟨o, h1, p, vs, h2, h3, h4, h5, h6⟩ := hE.at_ i _ he
    subst h2
    exact ⟨_, h1, q _ H Z (.refl hE.sz) (.inr ⟨p, vs, ds, rfl, rfl, h3, h6⟩)⟩
theorem E_c {v : V} {d : D} (h : PE X e (tC v)) (hd : ∀ Z, Dp X.K Z v d) : PE X e (tE X.K (eC d)) := pe_mono h fun σ H Q ⟨H0, Z0, Z, env, d', hE, hf, q⟩ => by
  cases hf
  exact q v H Z (.refl hE.sz) (hd Z)
theorem E_int {i : Int} {j} : PE X (.Constant (.int i) j pos) (tE X.K (eC (.int i))) := E_c pe_int fun _ => .int i
theorem E_bl {i : Bool} {j} : PE X (.Constant (.bool i) j pos) (tE X.K (eC (.bool i))) := E_c pe_bl fun _ => .bl i
theorem E_non {j} : PE X (.Constant .none j pos) (tE X.K (eC .none)) := E_c pe_non fun _ => .non
theorem E_str {i : Str} {j} : PE X (.Constant (.str i) j pos) (tE X.K (eC (.str i))) := E_c pe_str fun _ => .str i

/-! ### two values -/
def eOp2 {α : Type} (g : D → D → Res α) (fa fb : Env → Res D) : Env → Res α := fun env => (fa env).bind fun x => (fb env).bind fun y => g x y
def eOp1 {α : Type} (g : D → Res α) (fa : Env → Res D) : Env → Res α := fun env => (fa env).bind g
/-- what an operator's rule asks, over deep values -/
def OpD (K : PySem.W.Frag) (r : R2) (g : D → D → Res D) : Prop := ∀ (Z H : Hp) (v w : V) (x y d : D) (Q : VK), Same Z H → DpP K Z H v x → DpP K Z H w y → g x y = .ok d → (∀ u H' Z', Ext Z H Z' H' → Dp K Z' u d → Q u H') → r v w H Q
def OpV (K : PySem.W.Frag) (r : R2) (g : D → D → Res RV) : Prop := ∀ (Z H : Hp) (v w : V) (x y : D) (d : RV) (Q : VK), Same Z H → DpP K Z H v x → DpP K Z H w y → g x y = .ok d → (∀ u H' Z', Ext Z H Z' H' → RepV K H Z' H' u d → Q u H') → r v w H Q
theorem op2_red {ta tb : TE} {r : R2} {g : D → D → Res D} (hg : OpD K r g) (ha : ∀ σ H Q, tP K fa σ H Q → ta σ H Q) (hb : ∀ σ H Q, tP K fb σ H Q → tb σ H Q) (σ : L2.St) (H : Hp) (Q : VK) (h : tE K (eOp2 g fa fb) σ H Q) : tOp r ta tb σ H Q := by
  obtain ⟨H0, Z0, Z, env, d, hE, hf, q⟩ := h
  obtain ⟨x, h1, hf⟩ := Res.bind_eq hf
  obtain ⟨y, h2, hf⟩ := Res.bind_eq hf
  refine ha _ _ _ ⟨H0, Z0, Z, env, x, hE, h1, fun v H1 Z1 e1 d1 => hb _ _ _ ⟨H0, Z0, Z1, env, y, hE.ext e1, h2, fun w H2 Z2 e2 d2 => ?_⟩⟩
  exact hg Z2 H2 v w x y d Q e2.zh (d1.ext e2) d2 hf fun u H' Z' e3 h3 => q u H' Z' ((e1.trans e2).trans e3) h3
theorem RepV.pre {r : RV} {H Hm Z' H' : Hp} {v : V} (h : RepV K Hm Z' H' v r) (s : Same H Hm) : RepV K H Z' H' v r := by
  unfold RepV at h ⊢
  split at h
  · obtain ⟨p, vs, ds, h1, h2, h3, h4⟩ := h
    rename_i hc
    rw [if_pos hc]
    exact ⟨p, vs, ds, h1, h2, s.free h3, h4⟩
  · rename_i hc
    rw [if_neg hc]
    exact h
theorem opV_red {ta tb : TE} {r : R2} {g : D → D → Res RV} (hg : OpV K r g) (ha : ∀ σ H Q, tP K fa σ H Q → ta σ H Q) (hb : ∀ σ H Q, tP K fb σ H Q → tb σ H Q) (σ : L2.St) (H : Hp) (Q : VK) (h : tV K (eOp2 g fa fb) σ H Q) : tOp r ta tb σ H Q := by
  obtain ⟨H0, Z0, Z, env, d, hE, hf, q⟩ := h
  obtain ⟨x, h1, hf⟩ := Res.bind_eq hf
  obtain ⟨y, h2, hf⟩ := Res.bind_eq hf
  refine ha _ _ _ ⟨H0, Z0, Z, env, x, hE, h1, fun v H1 Z1 e1 d1 => hb _ _ _ ⟨H0, Z0, Z1, env, y, hE.ext e1, h2, fun w H2 Z2 e2 d2 => ?_⟩⟩
  exact hg Z2 H2 v w x y d Q e2.zh (d1.ext e2) d2 hf fun u H' Z' e3 h3 => q u H' Z' ((e1.trans e2).trans e3) (h3.pre ((e1.trans e2).hh))
theorem E_op2 {r : R2} {g : D → D → Res D} (ho : OpR X (binaryOp op) r) (hg : OpD X.K r g) (ha : PE X a (tP X.K fa)) (hb : PE X b (tP X.K fb)) : PE X (.BinOp a op b pos) (tE X.K (eOp2 g fa fb)) :=
  pe_mono (pe_op ho ha hb) (op2_red hg (fun _ _ _ h => h) fun _ _ _ h => h)
theorem V_op2 {r : R2} {g : D → D → Res RV} (ho : OpR X (binaryOp op) r) (hg : OpV X.K r g) (ha : PE X a (tP X.K fa)) (hb : PE X b (tP X.K fb)) : PE X (.BinOp a op b pos) (tV X.K (eOp2 g fa fb)) :=
  pe_mono (pe_op ho ha hb) (opV_red hg (fun _ _ _ h => h) fun _ _ _ h => h)
theorem E_cmp {op : CmpOp} {r : R2} {g : D → D → Res D} (ho : OpR X (compareOp op) r) (hg : OpD X.K r g) (ha : PE X a (tP X.K fa)) (hb : PE X b (tP X.K fb)) (hm : behindInMarks op b = false) : PE X (.Compare a [op] [b] pos) (tE X.K (eOp2 g fa fb)) :=
  pe_mono (pe_cmpR ho ha hb hm) (op2_red hg (fun _ _ _ h => h) fun _ _ _ h => h)
/-- a bool's truth -/
def toB (d : D) : Res Bool := match d with
  | .bool b => .ok b
  | _ => .bad
def eB (f : Env → Res D) : Env → Res Bool := fun env => (f env).bind toB
theorem toB_eq {d : D} {b : Bool} (h : toB d = .ok b) : d = .bool b := by
  unfold toB at h
  split at h
  · cases h; rfl
  · cases h
theorem T_cmp {op : CmpOp} {r : R2} {g : D → D → Res D} (ho : OpR X (compareOp op) r) (hg : OpD X.K r g) (ha : PE X a (tP X.K fa)) (hb : PE X b (tP X.K fb)) (hm : behindInMarks op b = false) : PT X (.Compare a [op] [b] pos) (tT X.K (eB (eOp2 g fa fb))) :=
  pt_mono (pt_cmpR ho ha hb hm) fun σ H Q ⟨H0, Z0, Z, env, b, hE, hf, q⟩ => by
    obtain ⟨d, h1, h2⟩ := Res.bind_eq hf
    have := toB_eq h2
    subst this
    refine op2_red hg (fun _ _ _ h => h) (fun _ _ _ h => h) σ H _ ⟨H0, Z0, Z, env, _, hE, h1, fun v H' Z' e hd => ?_⟩
    cases hd
    exact ⟨b, rfl, q H' Z' e⟩
/-- a bool as a test -/
theorem T_val (h : PE X e (tE X.K f)) (he : ∀ whole, isTrue e X.env whole = (do let v ← whole; standAt e.pos; holding [v] (truthy v)) := by intro _; rfl) : PT X e (tT X.K (eB f)) :=
  pt_mono (pt_val h he) fun σ H Q ⟨H0, Z0, Z, env, b, hE, hf, q⟩ => by
    obtain ⟨d, h1, h2⟩ := Res.bind_eq hf
    have := toB_eq h2
    subst this
    refine ⟨H0, Z0, Z, env, _, hE, h1, fun v H' Z' e hd => ?_⟩
    cases hd
    exact ⟨b, rfl, q H' Z' e⟩
/-- any value's truth -/
def truD (d : D) : Res Bool := match d with
  | .none => .ok false
  | .bool b => .ok b
  | .int i => .ok (i != 0)
  | .list xs => .ok (!xs.isEmpty)
  | .tuple xs => .ok (!xs.isEmpty)
  | _ => .bad
def eTr (f : Env → Res D) : Env → Res Bool := fun env => (f env).bind truD
theorem dps_empty {Z : Hp} {vs : List V} {ds : List D} (h : DpAll K Z vs ds) : vs.isEmpty = ds.isEmpty := by cases h <;> rfl
theorem T_tru (h : PE X e (tP X.K f)) (he : ∀ whole, isTrue e X.env whole = (do let v ← whole; standAt e.pos; holding [v] (truthy v)) := by intro _; rfl) : PT X e (tT X.K (eTr f)) :=
  pt_mono (pt_truth h he) fun σ H Q ⟨H0, Z0, Z, env, b, hE, hf, q⟩ => by
    obtain ⟨d, h1, h2⟩ := Res.bind_eq hf
    refine ⟨H0, Z0, Z, env, _, hE, h1, fun v H' Z' e hd => ?_⟩
    unfold truD at h2
    split at h2 <;> (try cases h2)
    · have := hd.none; subst this; exact ⟨false, rfl, q H' Z' e⟩
    · have := hd.bool; subst this; exact ⟨_, rfl, q H' Z' e⟩
    · have := hd.int; subst this; exact ⟨_, rfl, q H' Z' e⟩
    · obtain ⟨p, vs, rfl, h3, h4⟩ := hd.list e.zh
      exact ⟨_, .inl ⟨vs, h3, by rw [dps_empty h4]⟩, q H' Z' e⟩
    · obtain ⟨p, vs, rfl, h3, h4⟩ := hd.tup e.zh
      exact ⟨_, .inr (.inl ⟨vs, h3, by rw [dps_empty h4]⟩), q H' Z' e⟩
/-! ### and, or, not, if -/
def bAnd (f g : Env → Res Bool) : Env → Res Bool := fun env => (f env).bind fun b => if b = true then g env else .ok false
def bOr (f g : Env → Res Bool) : Env → Res Bool := fun env => (f env).bind fun b => if b = true then .ok true else g env
def bNot (f : Env → Res Bool) : Env → Res Bool := fun env => (f env).bind fun b => .ok (!b)
variable {ta tb : Env → Res Bool} {rest : List Expr}
theorem W_and1 (ha : PT X a (tT X.K ta)) : PW X (.BoolOp .And [a] pos) (tT X.K ta) := pw_and1 ha
theorem W_or1 (ha : PT X a (tT X.K ta)) : PW X (.BoolOp .Or [a] pos) (tT X.K ta) := pw_or1 ha
theorem W_and (ha : PT X a (tT X.K ta)) (hb : PW X (.BoolOp .And (b :: rest) pos) (tT X.K tb)) : PW X (.BoolOp .And (a :: b :: rest) pos) (tT X.K (bAnd ta tb)) := pw_mono (pw_and ha hb) fun σ H Q ⟨H0, Z0, Z, env, r, hE, hf, q⟩ => by
  obtain ⟨c, h1, h2⟩ := Res.bind_eq hf
  refine ⟨H0, Z0, Z, env, c, hE, h1, fun H1 Z1 e1 => ?_⟩
  cases c with
  | true =>
    rw [if_pos rfl] at h2 ⊢
    exact ⟨H0, Z0, Z1, env, r, hE.ext e1, h2, fun H2 Z2 e2 => q H2 Z2 (e1.trans e2)⟩
  | false =>
    rw [if_neg Bool.false_ne_true] at h2 ⊢
    cases h2
    exact q H1 Z1 e1
theorem W_or (ha : PT X a (tT X.K ta)) (hb : PW X (.BoolOp .Or (b :: rest) pos) (tT X.K tb)) : PW X (.BoolOp .Or (a :: b :: rest) pos) (tT X.K (bOr ta tb)) := pw_mono (pw_or ha hb) fun σ H Q ⟨H0, Z0, Z, env, r, hE, hf, q⟩ => by
  obtain ⟨c, h1, h2⟩ := Res.bind_eq hf
  refine ⟨H0, Z0, Z, env, c, hE, h1, fun H1 Z1 e1 => ?_⟩
  cases c with
  | true =>
    rw [if_pos rfl] at h2 ⊢
    cases h2
    exact q H1 Z1 e1
  | false =>
    rw [if_neg Bool.false_ne_true] at h2 ⊢
    exact ⟨H0, Z0, Z1, env, r, hE.ext e1, h2, fun H2 Z2 e2 => q H2 Z2 (e1.trans e2)⟩
theorem T_w (h : PW X e (tT X.K ta)) : PT X e (tT X.K ta) := h.pt
theorem T_not (ha : PT X a (tT X.K ta)) : PT X (.UnaryOp .Not a pos) (tT X.K (bNot ta)) := pt_mono (pt_not ha) fun σ H Q ⟨H0, Z0, Z, env, r, hE, hf, q⟩ => by
  obtain ⟨c, h1, h2⟩ := Res.bind_eq hf
  cases h2
  exact ⟨H0, Z0, Z, env, c, hE, h1, fun H1 Z1 e1 => q H1 Z1 e1⟩
/-- .. as values -/
def eAnd (f g : Env → Res D) : Env → Res D := fun env => ((f env).bind toB).bind fun b => if b = true then g env else .ok (.bool false)
def eOr (f g : Env → Res D) : Env → Res D := fun env => ((f env).bind toB).bind fun b => if b = true then .ok (.bool true) else g env
def eNot (f : Env → Res D) : Env → Res D := fun env => ((f env).bind toB).bind fun b => .ok (.bool (!b))
theorem E_one {o : BoolOp} (h : PE X a (tE X.K f)) : PE X (.BoolOp o [a] pos) (tE X.K f) := pe_one h
theorem E_and (ha : PE X a (tE X.K fa)) (hb : PE X (.BoolOp .And (b :: rest) pos) (tE X.K fb)) : PE X (.BoolOp .And (a :: b :: rest) pos) (tE X.K (eAnd fa fb)) := pe_mono (pe_and ha hb) fun σ H Q ⟨H0, Z0, Z, env, r, hE, hf, q⟩ => by
  obtain ⟨c, h1, h2⟩ := Res.bind_eq hf
  obtain ⟨d, h0, h1⟩ := Res.bind_eq h1
  have := toB_eq h1
  subst this
  refine ⟨H0, Z0, Z, env, _, hE, h0, fun v H1 Z1 e1 hd => ?_⟩
  cases hd
  refine ⟨c, rfl, ?_⟩
  cases c with
  | true =>
    rw [if_pos rfl] at h2 ⊢
    exact ⟨H0, Z0, Z1, env, r, hE.ext e1, h2, fun v H2 Z2 e2 => q v H2 Z2 (e1.trans e2)⟩
  | false =>
    rw [if_neg Bool.false_ne_true] at h2 ⊢
    cases h2
    exact q _ H1 Z1 e1 (.bl false)
theorem E_or (ha : PE X a (tE X.K fa)) (hb : PE X (.BoolOp .Or (b :: rest) pos) (tE X.K fb)) : PE X (.BoolOp .Or (a :: b :: rest) pos) (tE X.K (eOr fa fb)) := pe_mono (pe_or ha hb) fun σ H Q ⟨H0, Z0, Z, env, r, hE, hf, q⟩ => by
  obtain ⟨c, h1, h2⟩ := Res.bind_eq hf
  obtain ⟨d, h0, h1⟩ := Res.bind_eq h1
  have := toB_eq h1
  subst this
  refine ⟨H0, Z0, Z, env, _, hE, h0, fun v H1 Z1 e1 hd => ?_⟩
  cases hd
  refine ⟨c, rfl, ?_⟩
  cases c with
  | true =>
    rw [if_pos rfl] at h2 ⊢
    cases h2
    exact q _ H1 Z1 e1 (.bl true)
  | false =>
    rw [if_neg Bool.false_ne_true] at h2 ⊢
    exact ⟨H0, Z0, Z1, env, r, hE.ext e1, h2, fun v H2 Z2 e2 => q v H2 Z2 (e1.trans e2)⟩
theorem E_not (ha : PE X a (tE X.K fa)) : PE X (.UnaryOp .Not a pos) (tE X.K (eNot fa)) := pe_mono (pe_not ha) fun σ H Q ⟨H0, Z0, Z, env, r, hE, hf, q⟩ => by
  obtain ⟨c, h1, h2⟩ := Res.bind_eq hf
  obtain ⟨d, h0, h1⟩ := Res.bind_eq h1
  have := toB_eq h1
  subst this
  cases h2
  refine ⟨H0, Z0, Z, env, _, hE, h0, fun v H1 Z1 e1 hd => ?_⟩
  cases hd
  exact ⟨c, rfl, q _ H1 Z1 e1 (.bl _)⟩
def eIf {α : Type} (c : Env → Res Bool) (f g : Env → Res α) : Env → Res α := fun env => (c env).bind fun b => if b = true then f env else g env
theorem E_if {c : Expr} {fc : Env → Res Bool} (hc : PT X c (tT X.K fc)) (ha : PE X a (tE X.K fa)) (hb : PE X b (tE X.K fb)) : PE X (.IfExp c a b pos) (tE X.K (eIf fc fa fb)) := pe_mono (pe_ifExp hc ha hb) fun σ H Q ⟨H0, Z0, Z, env, r, hE, hf, q⟩ => by
  obtain ⟨c, h1, h2⟩ := Res.bind_eq hf
  refine ⟨H0, Z0, Z, env, c, hE, h1, fun H1 Z1 e1 => ?_⟩
  cases c with
  | true =>
    rw [if_pos rfl] at h2 ⊢
    exact ⟨H0, Z0, Z1, env, r, hE.ext e1, h2, fun v H2 Z2 e2 => q v H2 Z2 (e1.trans e2)⟩
  | false =>
    rw [if_neg Bool.false_ne_true] at h2 ⊢
    exact ⟨H0, Z0, Z1, env, r, hE.ext e1, h2, fun v H2 Z2 e2 => q v H2 Z2 (e1.trans e2)⟩
theorem V_if {c : Expr} {fc : Env → Res Bool} {fv gv : Env → Res RV} (hc : PT X c (tT X.K fc)) (ha : PE X a (tV X.K fv)) (hb : PE X b (tV X.K gv)) : PE X (.IfExp c a b pos) (tV X.K (eIf fc fv gv)) := pe_mono (pe_ifExp hc ha hb) fun σ H Q ⟨H0, Z0, Z, env, r, hE, hf, q⟩ => by
  obtain ⟨c, h1, h2⟩ := Res.bind_eq hf
  refine ⟨H0, Z0, Z, env, c, hE, h1, fun H1 Z1 e1 => ?_⟩
  cases c with
  | true =>
    rw [if_pos rfl] at h2 ⊢
    exact ⟨H0, Z0, Z1, env, r, hE.ext e1, h2, fun v H2 Z2 e2 h3 => q v H2 Z2 (e1.trans e2) (h3.pre e1.hh)⟩
  | false =>
    rw [if_neg Bool.false_ne_true] at h2 ⊢
    exact ⟨H0, Z0, Z1, env, r, hE.ext e1, h2, fun v H2 Z2 e2 h3 => q v H2 Z2 (e1.trans e2) (h3.pre e1.hh)⟩
theorem P_if {c : Expr} {fc : Env → Res Bool} (hc : PT X c (tT X.K fc)) (ha : PE X a (tP X.K fa)) (hb : PE X b (tP X.K fb)) : PE X (.IfExp c a b pos) (tP X.K (eIf fc fa fb)) := pe_mono (pe_ifExp hc ha hb) fun σ H Q ⟨H0, Z0, Z, env, r, hE, hf, q⟩ => by
  obtain ⟨c, h1, h2⟩ := Res.bind_eq hf
  refine ⟨H0, Z0, Z, env, c, hE, h1, fun H1 Z1 e1 => ?_⟩
  cases c with
  | true =>
    rw [if_pos rfl] at h2 ⊢
    exact ⟨H0, Z0, Z1, env, r, hE.ext e1, h2, fun v H2 Z2 e2 => q v H2 Z2 (e1.trans e2)⟩
  | false =>
    rw [if_neg Bool.false_ne_true] at h2 ⊢
    exact ⟨H0, Z0, Z1, env, r, hE.ext e1, h2, fun v H2 Z2 e2 => q v H2 Z2 (e1.trans e2)⟩
/-! ### arguments, displays -/
def aNil : Env → Res (List D) := fun _ => .ok []
def aCons (f : Env → Res D) (g : Env → Res (List D)) : Env → Res (List D) := fun env => (f env).bind fun d => (g env).bind fun ds => .ok (d :: ds)
variable {fs : Env → Res (List D)}
theorem A_nil : PA X [] (tA X.K aNil) := pa_mono pa_nil fun σ H Q ⟨H0, Z0, Z, env, r, hE, hf, q⟩ => by
  cases hf
  exact q [] H Z (.refl hE.sz) .nil
theorem Ap_nil : PA X [] (tAp X.K aNil) := pa_mono pa_nil fun σ H Q ⟨H0, Z0, Z, env, r, hE, hf, q⟩ => by
  cases hf
  exact q [] H Z (.refl hE.sz) .nil
theorem A_cons (ha : PE X e (tE X.K f)) (hr : PA X es (tA X.K fs)) (hs : starEach (e :: es) X.env = (false, eval e X.env) :: starEach es X.env := by rfl) : PA X (e :: es) (tA X.K (aCons f fs)) := pa_mono (pa_cons ha hr hs) fun σ H Q ⟨H0, Z0, Z, env, r, hE, hf, q⟩ => by
  obtain ⟨d, h1, h0⟩ := Res.bind_eq hf
  obtain ⟨ds, h2, h3⟩ := Res.bind_eq h0
  cases h3
  exact ⟨H0, Z0, Z, env, d, hE, h1, fun v H1 Z1 e1 d1 => ⟨H0, Z0, Z1, env, ds, hE.ext e1, h2, fun vs H2 Z2 e2 d2 => q _ H2 Z2 (e1.trans e2) (.cons (dp_mono e2.zz d1) d2)⟩⟩
theorem Ap_cons (ha : PE X e (tP X.K f)) (hr : PA X es (tAp X.K fs)) (hs : starEach (e :: es) X.env = (false, eval e X.env) :: starEach es X.env := by rfl) : PA X (e :: es) (tAp X.K (aCons f fs)) := pa_mono (pa_cons ha hr hs) fun σ H Q ⟨H0, Z0, Z, env, r, hE, hf, q⟩ => by
  obtain ⟨d, h1, h0⟩ := Res.bind_eq hf
  obtain ⟨ds, h2, h3⟩ := Res.bind_eq h0
  cases h3
  exact ⟨H0, Z0, Z, env, d, hE, h1, fun v H1 Z1 e1 d1 => ⟨H0, Z0, Z1, env, ds, hE.ext e1, h2, fun vs H2 Z2 e2 d2 => q _ H2 Z2 (e1.trans e2) (.cons (d1.ext e2) d2)⟩⟩
def eTup (fs : Env → Res (List D)) : Env → Res D := fun env => (fs env).bind fun ds => if ds.length < 1000000 then .ok (.tuple ds) else .bad
def eLst (fs : Env → Res (List D)) : Env → Res RV := fun env => (fs env).bind fun ds => if ds.length < 1000000 then .ok ⟨.list ds, true⟩ else .bad
theorem lim_ok {n : Nat} (h : n < 1000000) : n < sizeLine := by rw [sizeLine_eq]; omega
theorem ite_ok {α : Type} {c : Prop} [Decidable c] {x : Res α} {y : α} (h : (if c then x else .bad) = .ok y) : c ∧ x = .ok y := by
  by_cases hc : c
  · rw [if_pos hc] at h; exact ⟨hc, h⟩
  · rw [if_neg hc] at h; cases h
theorem E_tup {x1} (h : PA X es (tA X.K fs)) : PE X (.Tuple es x1 pos) (tE X.K (eTup fs)) := pe_mono (pe_tup h) fun σ H Q ⟨H0, Z0, Z, env, r, hE, hf, q⟩ => by
  obtain ⟨ds, h1, h0⟩ := Res.bind_eq hf
  obtain ⟨h2, h3⟩ := ite_ok h0
  cases h3
  refine ⟨H0, Z0, Z, env, ds, hE, h1, fun vs H1 Z1 e1 d1 => ⟨?_, fun p hp => ?_⟩⟩
  · rw [dps_length d1]; exact Nat.le_of_lt (lim_ok h2)
  · exact q _ _ _ (e1.trans (Ext.new e1.zh hp)) (.tup (.of upd_same) (dps_mono (same_upd (e1.zh.free hp)) d1))
theorem V_lst (h : PA X es (tA X.K fs)) : PE X (.List es pos) (tV X.K (eLst fs)) := pe_mono (pe_lst h) fun σ H Q ⟨H0, Z0, Z, env, r, hE, hf, q⟩ => by
  obtain ⟨ds, h1, h0⟩ := Res.bind_eq hf
  obtain ⟨h2, h3⟩ := ite_ok h0
  cases h3
  refine ⟨H0, Z0, Z, env, ds, hE, h1, fun vs H1 Z1 e1 d1 => ⟨?_, fun p hp => ?_⟩⟩
  · rw [dps_length d1]; exact Nat.le_of_lt (lim_ok h2)
  · exact q _ _ _ (e1.trans (Ext.made e1.zh hp)) ⟨p, vs, ds, rfl, rfl, e1.hh.free hp, e1.zh.free hp, upd_same, d1⟩
end
end PV

set_option Elab.async false
set_option linter.all false
set_option maxRecDepth 100000
namespace PV
open PySem PySem.Spec L2
set_option autoImplicit false
/-! ### rules of the library over data -/
section
variable {X : Cx}
theorem op_catG : OpR X (binaryOp .Add) (fun x y H Q => ∃ l b xs zs, x = .ref l ∧ y = .ref b ∧ SqL X.K H l xs ∧ SqL X.K H b zs ∧ xs.length + zs.length ≤ sizeLine ∧ ∀ p, H p = none → Q (.ref p) (upd H p (.lst (xs ++ zs)))) := by
  intro pins s σ H x y v u Q I rx ry h
  obtain ⟨l, b, xs, zs, rfl, rfl, hH, hB, hz, q⟩ := h
  cases rx
  cases ry
  obtain ⟨its, r, ⟨⟨cls, dd, data, sl⟩, n, e, e1, e2, e3⟩, z1⟩ := I.list hH
  obtain ⟨its2, r2, ⟨⟨cls', dd', data', sl'⟩, n2, f, f1, f2, f3⟩, z2⟩ := I.list hB
  simp only at e1 e2 e3 f1 f2 f3
  subst e1 e2 e3 f1 f2 f3
  have h1 := r.length
  have h2 := r2.length
  refine concat_meets ⟨_, e, rfl⟩ ⟨_, f, rfl⟩ noFill_list_add seq_list_add PySem.F.slot_list_add PySem.F.entry_list_add (PySem.F.args_list_add_2 _ _) (PyProof.Rows.list_addW l b its.toArray its2.toArray n n2 none none sl sl' (by simp; omega)) ⟨e, f, ?_⟩
  have ea : its.toArray ++ its2.toArray = (its ++ its2).toArray := by simp
  rw [ea]
  exact ⟨.ref _, _, I.lnew (t' := s.toks) (r.append r2) (by rw [List.length_append]; omega), rfl, q _ I.fresh⟩
def ltOk (d e : D) : Bool := PySem.W.alike d e && (match d with | .none => false | _ => true) && decide (min d.depth e.depth ≤ 64)
def rOrd (K : PySem.W.Frag) (g : D → D → Bool) : R2 := fun x y H Q => ∃ d e, Dp K H x d ∧ Dp K H y e ∧ ltOk d e = true ∧ Q (.bl (g d e)) H
theorem ltOk_ok {d e : D} (h : ltOk d e = true) : PySem.W.alike d e = true ∧ d ≠ .none ∧ min d.depth e.depth ≤ 64 := by
  unfold ltOk at h
  simp only [Bool.and_eq_true, decide_eq_true_eq] at h
  refine ⟨h.1.1, fun z => ?_, h.2⟩
  subst z
  exact Bool.noConfusion h.1.2
theorem op_ltD (hu : X.A.units + 64 < cLine) : OpR X (compareOp .Lt) (rOrd X.K fun d e => PySem.W.dataLt d e) := by
  intro pins s σ H x y v u Q I rx ry h
  obtain ⟨d, e, hd, he, hk, q⟩ := h
  obtain ⟨as, r1⟩ := Dp.reads I d x v hd rx
  obtain ⟨bs, r2⟩ := Dp.reads I e y u he ry
  obtain ⟨k1, k2, k3⟩ := ltOk_ok hk
  exact PySem.W.lt_data r1 r2 k1 k2 (by omega) ⟨.bl _, H, I, rfl, q⟩
theorem op_gtD (hu : X.A.units + 64 < cLine) : OpR X (compareOp .Gt) (rOrd X.K fun d e => PySem.W.dataLt e d) := by
  intro pins s σ H x y v u Q I rx ry h
  obtain ⟨d, e, hd, he, hk, q⟩ := h
  obtain ⟨as, r1⟩ := Dp.reads I d x v hd rx
  obtain ⟨bs, r2⟩ := Dp.reads I e y u he ry
  obtain ⟨k1, k2, k3⟩ := ltOk_ok hk
  exact PySem.W.gt_data r1 r2 k1 k2 (by omega) ⟨.bl _, H, I, rfl, q⟩
theorem op_leD (hu : X.A.units + 64 < cLine) : OpR X (compareOp .LtE) (rOrd X.K fun d e => !PySem.W.dataLt e d) := by
  intro pins s σ H x y v u Q I rx ry h
  obtain ⟨d, e, hd, he, hk, q⟩ := h
  obtain ⟨as, r1⟩ := Dp.reads I d x v hd rx
  obtain ⟨bs, r2⟩ := Dp.reads I e y u he ry
  obtain ⟨k1, k2, k3⟩ := ltOk_ok hk
  exact PySem.W.le_data r1 r2 k1 k2 (by omega) ⟨.bl _, H, I, rfl, q⟩
theorem op_geD (hu : X.A.units + 64 < cLine) : OpR X (compareOp .GtE) (rOrd X.K fun d e => !PySem.W.dataLt d e) := by
  intro pins s σ H x y v u Q I rx ry h
  obtain ⟨d, e, hd, he, hk, q⟩ := h
  obtain ⟨as, r1⟩ := Dp.reads I d x v hd rx
  obtain ⟨bs, r2⟩ := Dp.reads I e y u he ry
  obtain ⟨k1, k2, k3⟩ := ltOk_ok hk
  exact PySem.W.ge_data r1 r2 k1 k2 (by omega) ⟨.bl _, H, I, rfl, q⟩
/-- x in t, data of any depth -/
theorem op_inTD (hu : X.A.units + 65 < cLine) : OpR X (compareOp .In) (fun x y H Q => ∃ d ds, Dp X.K H x d ∧ Dp X.K H y (.tuple ds) ∧ SeqAt.shaped d = true ∧ SeqAt.shaped (.tuple ds) = true ∧ Q (.bl (ds.any fun z => PyData.eqv z d)) H) := by
  intro pins s σ H x y v u Q I rx ry h
  obtain ⟨d, ds, hd, he, sd, se, q⟩ := h
  obtain ⟨as, r1⟩ := Dp.reads I d x v hd rx
  obtain ⟨bs, r2⟩ := Dp.reads I (.tuple ds) y u he ry
  exact SeqAt.in_tuple_reads r2 r1 (SeqAt.canLay_of_shaped se) (SeqAt.canLay_of_shaped sd) (PyProof.Rows.room_in_shaped sd hu) ⟨.bl _, H, I, rfl, q⟩
theorem op_notInTD (hu : X.A.units + 65 < cLine) : OpR X (compareOp .NotIn) (fun x y H Q => ∃ d ds, Dp X.K H x d ∧ Dp X.K H y (.tuple ds) ∧ SeqAt.shaped d = true ∧ SeqAt.shaped (.tuple ds) = true ∧ Q (.bl (!ds.any fun z => PyData.eqv z d)) H) := by
  intro pins s σ H x y v u Q I rx ry h
  obtain ⟨d, ds, hd, he, sd, se, q⟩ := h
  obtain ⟨as, r1⟩ := Dp.reads I d x v hd rx
  obtain ⟨bs, r2⟩ := Dp.reads I (.tuple ds) y u he ry
  exact SeqAt.notIn_tuple_reads r2 r1 (SeqAt.canLay_of_shaped se) (SeqAt.canLay_of_shaped sd) (PyProof.Rows.room_in_shaped sd hu) ⟨.bl _, H, I, rfl, q⟩
end
/-! ### operators over deep values -/
section
variable {K : PySem.W.Frag} {Z H Z' H' : Hp}
theorem fin_e {Q : VK} {u : V} {d : D} (s : Same Z H) (q : ∀ u H' Z', Ext Z H Z' H' → Dp K Z' u d → Q u H') (h : Dp K Z u d) : Q u H := q u H Z (.refl s) h
theorem fin_v {Q : VK} {u : V} {r : RV} (s : Same Z H) (q : ∀ u H' Z', Ext Z H Z' H' → RepV K H Z' H' u r → Q u H') (hr : r.fr = false) (h : Dp K Z u r.d) : Q u H := q u H Z (.refl s) (by
  unfold RepV
  rw [hr]
  exact h)
theorem fin_new {Q : VK} {vs : List V} {ds : List D} {p : Addr} (s : Same Z H) (q : ∀ u H' Z', Ext Z H Z' H' → RepV K H Z' H' u ⟨.list ds, true⟩ → Q u H') (hp : H p = none) (h : DpAll K Z vs ds) : Q (.ref p) (upd H p (.lst vs)) :=
  q _ _ _ (.made s hp) ⟨p, vs, ds, rfl, rfl, hp, s.free hp, upd_same, h⟩
theorem fin_tup {Q : VK} {vs : List V} {ds : List D} {p : Addr} (s : Same Z H) (q : ∀ u H' Z', Ext Z H Z' H' → Dp K Z' u (.tuple ds) → Q u H') (hp : H p = none) (h : DpAll K Z vs ds) : Q (.ref p) (upd H p (.tup vs)) :=
  q _ _ _ (.new s hp) (.tup (.of upd_same) (dps_mono (same_upd (s.free hp)) h))
theorem fin_tupV {Q : VK} {vs : List V} {ds : List D} {p : Addr} (s : Same Z H) (q : ∀ u H' Z', Ext Z H Z' H' → RepV K H Z' H' u ⟨.tuple ds, false⟩ → Q u H') (hp : H p = none) (h : DpAll K Z vs ds) : Q (.ref p) (upd H p (.tup vs)) :=
  q _ _ _ (.new s hp) (show Dp K (upd Z p (.tup vs)) (.ref p) (.tuple ds) from .tup (.of upd_same) (dps_mono (same_upd (s.free hp)) h))

def gAdd : D → D → Res RV
  | .int i, .int j => .ok ⟨.int (i + j), false⟩
  | .str x, .str y => if x.length + y.length < 1000000 then .ok ⟨.str (x ++ y), false⟩ else .bad
  | .list xs, .list ys => if xs.length + ys.length < 1000000 then .ok ⟨.list (xs ++ ys), true⟩ else .bad
  | .tuple xs, .tuple ys => if xs ≠ [] ∧ ys ≠ [] ∧ xs.length + ys.length < 1000000 then .ok ⟨.tuple (xs ++ ys), false⟩ else .bad
  | _, _ => .bad
def rAddG (K : PySem.W.Frag) : R2 := fun x y H Q => (∃ i j, x = .int i ∧ y = .int j ∧ Q (.int (i + j)) H) ∨ (∃ i j, x = .str i ∧ y = .str j ∧ i.length + j.length ≤ sizeLine ∧ Q (.str (i ++ j)) H) ∨
  (∃ l b xs zs, x = .ref l ∧ y = .ref b ∧ SqL K H l xs ∧ SqL K H b zs ∧ xs.length + zs.length ≤ sizeLine ∧ ∀ p, H p = none → Q (.ref p) (upd H p (.lst (xs ++ zs)))) ∨ rCatT K x y H Q
theorem op_addG {X : Cx} : OpR X (binaryOp .Add) (rAddG X.K) := op_add.or (op_add_str.or (op_catG.or op_catT))
theorem dps_nil_iff {vs : List V} {ds : List D} (h : DpAll K Z vs ds) : vs = [] ↔ ds = [] := by cases h <;> simp
theorem gAdd_ok : OpV K (rAddG K) gAdd := by
  intro Z H v w x y d Q s hx hy hg q
  unfold gAdd at hg
  split at hg
  · cases hg
    have := hx.int; subst this
    have := hy.int; subst this
    exact .inl ⟨_, _, rfl, rfl, fin_v s q rfl (.int _)⟩
  · obtain ⟨hl, e⟩ := ite_ok hg
    cases e
    have := hx.str; subst this
    have := hy.str; subst this
    exact .inr (.inl ⟨_, _, rfl, rfl, Nat.le_of_lt (lim_ok hl), fin_v s q rfl (.str _)⟩)
  · obtain ⟨hl, e⟩ := ite_ok hg
    cases e
    obtain ⟨p, vs, rfl, h1, h2⟩ := hx.list s
    obtain ⟨p', ws, rfl, h3, h4⟩ := hy.list s
    exact .inr (.inr (.inl ⟨p, p', vs, ws, rfl, rfl, h1, h3, by rw [dps_length h2, dps_length h4]; exact Nat.le_of_lt (lim_ok hl), fun a ha => fin_new s q ha (dps_append h2 h4)⟩))
  · obtain ⟨⟨n1, n2, hl⟩, e⟩ := ite_ok hg
    cases e
    obtain ⟨p, vs, rfl, h1, h2⟩ := hx.tup s
    obtain ⟨p', ws, rfl, h3, h4⟩ := hy.tup s
    exact .inr (.inr (.inr ⟨p, p', vs, ws, rfl, rfl, h1, h3, fun z => n1 ((dps_nil_iff h2).mp z), by rw [dps_length h2, dps_length h4]; exact Nat.le_of_lt (lim_ok hl), fun z => absurd ((dps_nil_iff h4).mp z) n2, fun _ a ha => fin_tupV s q ha (dps_append h2 h4)⟩))
  · cases hg
/-- two ints -/
def gInt (c : Int → Int → Bool) (g : Int → Int → D) : D → D → Res D
  | .int i, .int j => if c i j = true then .ok (g i j) else .bad
  | _, _ => .bad
def cTrue (_ _ : Int) : Bool := true
def mulOk (i j : Int) : Bool := decide (i.natAbs < 2 ^ 64) || decide (j.natAbs < 2 ^ 64) || decide (i.natAbs.log2 + j.natAbs.log2 < 1000000)
def divOk (_ j : Int) : Bool := (decide (j ≠ 0) && decide (j.natAbs < 1073741824)) || (decide (0 < j) && decide (j.natAbs.log2 < 9000))
def modOk (_ j : Int) : Bool := decide (j ≠ 0)
def powOk (i j : Int) : Bool := decide (0 ≤ j) && decide (j ≤ 1000000) && decide (i.natAbs < 2 ^ 64)
abbrev gSub := gInt cTrue fun i j => .int (i - j)
abbrev gMul := gInt mulOk fun i j => .int (i * j)
abbrev gDiv := gInt divOk fun i j => .int (i.fdiv j)
abbrev gMod := gInt modOk fun i j => .int (i.fmod j)
abbrev gPow := gInt powOk fun i j => .int (i ^ j.toNat)
theorem gInt_ok {r : R2} {c : Int → Int → Bool} {g : Int → Int → D} {gv : Int → Int → V} (hg : ∀ i j Z, Dp K Z (gv i j) (g i j)) (h : ∀ i j H Q, c i j = true → Q (gv i j) H → r (.int i) (.int j) H Q) : OpD K r (gInt c g) := by
  intro Z H v w x y d Q s hx hy e q
  unfold gInt at e
  split at e
  · obtain ⟨hc, e⟩ := ite_ok e
    cases e
    have := hx.int; subst this
    have := hy.int; subst this
    exact h _ _ H Q hc (fin_e s q (hg _ _ Z))
  · cases e
theorem gSub_ok : OpD K (rI0 fun i j => .int (i - j)) gSub := gInt_ok (gv := fun i j => .int (i - j)) (fun i j Z => .int (i - j)) fun i j H Q _ q => ⟨i, j, rfl, rfl, q⟩
def rMulG : R2 := fun x y H Q => rI CMul (fun i j => .int (i * j)) x y H Q ∨ rI CMulW (fun i j => .int (i * j)) x y H Q
theorem op_mulG {X : Cx} : OpR X (binaryOp .Mult) rMulG := op_mul.or op_mulW
theorem gMul_ok : OpD K rMulG gMul := gInt_ok (gv := fun i j => .int (i * j)) (fun i j Z => .int (i * j)) fun i j H Q c q => by
  unfold mulOk at c
  simp only [Bool.or_eq_true, decide_eq_true_eq] at c
  rcases c with (c | c) | c
  · exact .inl ⟨i, j, rfl, rfl, .inl (by omega), q⟩
  · exact .inl ⟨i, j, rfl, rfl, .inr (by omega), q⟩
  · exact .inr ⟨i, j, rfl, rfl, c, q⟩
def rDivG : R2 := fun x y H Q => rI CDivN (fun i j => .int (i.fdiv j)) x y H Q ∨ rI CDivW (fun i j => .int (i / j)) x y H Q
theorem op_divG {X : Cx} : OpR X (binaryOp .FloorDiv) rDivG := op_fdivN.or op_fdivW
theorem gDiv_ok : OpD K rDivG gDiv := gInt_ok (gv := fun i j => .int (i.fdiv j)) (fun i j Z => .int (i.fdiv j)) fun i j H Q c q => by
  unfold divOk at c
  simp only [Bool.or_eq_true, Bool.and_eq_true, decide_eq_true_eq] at c
  rcases c with c | c
  · exact .inl ⟨i, j, rfl, rfl, c, q⟩
  · refine .inr ⟨i, j, rfl, rfl, c, ?_⟩
    have h1 : (0 : Int) < j := c.1
    show Q (V.int (i / j)) H
    rw [← Int.fdiv_eq_ediv_of_nonneg i (by omega)]
    exact q
theorem gMod_ok : OpD K (rI (fun _ j => j ≠ 0) fun i j => .int (i.fmod j)) gMod := gInt_ok (gv := fun i j => .int (i.fmod j)) (fun i j Z => .int (i.fmod j)) fun i j H Q c q => ⟨i, j, rfl, rfl, of_decide_eq_true c, q⟩
theorem gPow_ok : OpD K (rI CPow fun i j => .int (i ^ j.toNat)) gPow := gInt_ok (gv := fun i j => .int (i ^ j.toNat)) (fun i j Z => .int (i ^ j.toNat)) fun i j H Q c q => by
  unfold powOk at c
  simp only [Bool.and_eq_true, decide_eq_true_eq] at c
  exact ⟨i, j, rfl, rfl, ⟨c.1.1, c.1.2, c.2⟩, q⟩
/-! comparisons -/
def gOrd (p : Int → Int → Bool) (g : D → D → Bool) : D → D → Res D
  | .int i, .int j => .ok (.bool (p i j))
  | d, e => if ltOk d e = true then .ok (.bool (g d e)) else .bad
abbrev gLt := gOrd (fun i j => decide (i < j)) fun d e => PySem.W.dataLt d e
abbrev gGt := gOrd (fun i j => decide (j < i)) fun d e => PySem.W.dataLt e d
abbrev gLe := gOrd (fun i j => decide (i ≤ j)) fun d e => !PySem.W.dataLt e d
abbrev gGe := gOrd (fun i j => decide (j ≤ i)) fun d e => !PySem.W.dataLt d e
def rOrdG (K : PySem.W.Frag) (p : Int → Int → Bool) (g : D → D → Bool) : R2 := fun x y H Q => rI0 (fun i j => .bl (p i j)) x y H Q ∨ rOrd K g x y H Q
theorem gOrd_ok {p : Int → Int → Bool} {g : D → D → Bool} : OpD K (rOrdG K p g) (gOrd p g) := by
  intro Z H v w x y d Q s hx hy e q
  unfold gOrd at e
  split at e
  · cases e
    have := hx.int; subst this
    have := hy.int; subst this
    exact .inl ⟨_, _, rfl, rfl, fin_e s q (.bl _)⟩
  · obtain ⟨hc, e⟩ := ite_ok e
    cases e
    exact .inr ⟨_, _, hx.cur s, hy.cur s, hc, fin_e s q (.bl _)⟩
section
variable {X : Cx} (hu : X.A.units + 64 < cLine)
include hu
theorem op_ltG : OpR X (compareOp .Lt) (rOrdG X.K (fun i j => decide (i < j)) fun d e => PySem.W.dataLt d e) := op_lt.or (op_ltD hu)
theorem op_gtG : OpR X (compareOp .Gt) (rOrdG X.K (fun i j => decide (j < i)) fun d e => PySem.W.dataLt e d) := op_gt.or (op_gtD hu)
theorem op_leG : OpR X (compareOp .LtE) (rOrdG X.K (fun i j => decide (i ≤ j)) fun d e => !PySem.W.dataLt e d) := op_le.or (op_leD hu)
theorem op_geG : OpR X (compareOp .GtE) (rOrdG X.K (fun i j => decide (j ≤ i)) fun d e => !PySem.W.dataLt d e) := op_ge.or (op_geD hu)
end
def gEq : D → D → Res D := fun d e => if SeqAt.shaped d = true ∧ SeqAt.shaped e = true then .ok (.bool (PyData.eqv d e)) else .bad
def gNe : D → D → Res D := fun d e => if SeqAt.shaped d = true ∧ SeqAt.shaped e = true then .ok (.bool (!PyData.eqv d e)) else .bad
theorem gEq_ok : OpD K (rEqD K) gEq := by
  intro Z H v w x y d Q s hx hy e q
  obtain ⟨⟨h1, h2⟩, e⟩ := ite_ok e
  cases e
  exact ⟨_, _, hx.cur s, hy.cur s, h1, h2, fin_e s q (.bl _)⟩
theorem gNe_ok : OpD K (rNeD K) gNe := by
  intro Z H v w x y d Q s hx hy e q
  obtain ⟨⟨h1, h2⟩, e⟩ := ite_ok e
  cases e
  exact ⟨_, _, hx.cur s, hy.cur s, h1, h2, fin_e s q (.bl _)⟩
def isNone : D → Bool
  | .none => true
  | _ => false
theorem isNone_iff {Z : Hp} {v : V} {d : D} (h : DpP K Z H v d) : decide (v = .non) = isNone d := by
  rcases h with h | ⟨p, vs, ds, rfl, rfl, _⟩
  · cases h <;> rfl
  · rfl
/-- the right one is None (or a bool) -/
def gIs : D → D → Res D
  | d, .none => .ok (.bool (isNone d))
  | .bool a, .bool b => .ok (.bool (decide (a = b)))
  | _, _ => .bad
def gIsNot : D → D → Res D
  | d, .none => .ok (.bool (!isNone d))
  | .bool a, .bool b => .ok (.bool (!decide (a = b)))
  | _, _ => .bad
def rIsG : R2 := fun x y H Q => (y = .non ∧ Q (.bl (decide (x = .non))) H) ∨ rIsB x y H Q
def rIsNotG : R2 := fun x y H Q => (y = .non ∧ Q (.bl (!decide (x = .non))) H) ∨ rNotB x y H Q
theorem op_isG {X : Cx} : OpR X (compareOp .Is) rIsG := op_isN.or op_isBl
theorem op_isNotG {X : Cx} : OpR X (compareOp .IsNot) rIsNotG := op_notN.or op_notBl
theorem gIs_ok : OpD K rIsG gIs := by
  intro Z H v w x y d Q s hx hy e q
  unfold gIs at e
  split at e
  · cases e
    refine .inl ⟨hy.none, ?_⟩
    rw [isNone_iff hx]
    exact fin_e s q (.bl _)
  · cases e
    exact .inr ⟨_, _, hx.bool, hy.bool, fin_e s q (.bl _)⟩
  · cases e
theorem gIsNot_ok : OpD K rIsNotG gIsNot := by
  intro Z H v w x y d Q s hx hy e q
  unfold gIsNot at e
  split at e
  · cases e
    refine .inl ⟨hy.none, ?_⟩
    rw [isNone_iff hx]
    exact fin_e s q (.bl _)
  · cases e
    exact .inr ⟨_, _, hx.bool, hy.bool, fin_e s q (.bl _)⟩
  · cases e
def gIn : D → D → Res D
  | d, .list ds => if SeqAt.shaped d = true ∧ SeqAt.shaped (.list ds) = true then .ok (.bool (ds.any fun z => PyData.eqv z d)) else .bad
  | d, .tuple ds => if SeqAt.shaped d = true ∧ SeqAt.shaped (.tuple ds) = true then .ok (.bool (ds.any fun z => PyData.eqv z d)) else .bad
  | _, _ => .bad
def gNotIn : D → D → Res D
  | d, .list ds => if SeqAt.shaped d = true ∧ SeqAt.shaped (.list ds) = true then .ok (.bool (!ds.any fun z => PyData.eqv z d)) else .bad
  | d, .tuple ds => if SeqAt.shaped d = true ∧ SeqAt.shaped (.tuple ds) = true then .ok (.bool (!ds.any fun z => PyData.eqv z d)) else .bad
  | _, _ => .bad
def rInG (K : PySem.W.Frag) : R2 := fun x y H Q => rInD K x y H Q ∨ (∃ d ds, Dp K H x d ∧ Dp K H y (.tuple ds) ∧ SeqAt.shaped d = true ∧ SeqAt.shaped (.tuple ds) = true ∧ Q (.bl (ds.any fun z => PyData.eqv z d)) H)
def rNotInG (K : PySem.W.Frag) : R2 := fun x y H Q => rNotInD K x y H Q ∨ (∃ d ds, Dp K H x d ∧ Dp K H y (.tuple ds) ∧ SeqAt.shaped d = true ∧ SeqAt.shaped (.tuple ds) = true ∧ Q (.bl (!ds.any fun z => PyData.eqv z d)) H)
theorem op_inG {X : Cx} (hu : X.A.units + 65 < cLine) : OpR X (compareOp .In) (rInG X.K) := (op_inD hu).or (op_inTD hu)
theorem op_notInG {X : Cx} (hu : X.A.units + 65 < cLine) : OpR X (compareOp .NotIn) (rNotInG X.K) := (op_notInD hu).or (op_notInTD hu)
theorem gIn_ok : OpD K (rInG K) gIn := by
  intro Z H v w x y d Q s hx hy e q
  unfold gIn at e
  split at e
  · obtain ⟨⟨h1, h2⟩, e⟩ := ite_ok e
    cases e
    exact .inl ⟨_, _, hx.cur s, hy.cur s, h1, h2, fin_e s q (.bl _)⟩
  · obtain ⟨⟨h1, h2⟩, e⟩ := ite_ok e
    cases e
    exact .inr ⟨_, _, hx.cur s, hy.cur s, h1, h2, fin_e s q (.bl _)⟩
  · cases e
theorem gNotIn_ok : OpD K (rNotInG K) gNotIn := by
  intro Z H v w x y d Q s hx hy e q
  unfold gNotIn at e
  split at e
  · obtain ⟨⟨h1, h2⟩, e⟩ := ite_ok e
    cases e
    exact .inl ⟨_, _, hx.cur s, hy.cur s, h1, h2, fin_e s q (.bl _)⟩
  · obtain ⟨⟨h1, h2⟩, e⟩ := ite_ok e
    cases e
    exact .inr ⟨_, _, hx.cur s, hy.cur s, h1, h2, fin_e s q (.bl _)⟩
  · cases e
/-! one value -/
def gNeg : D → Res D
  | .int i => .ok (.int (-i))
  | _ => .bad
theorem E_neg {X : Cx} {a : Expr} {pos : Pos} {fa : Env → Res D} (ha : PE X a (tP X.K fa)) : PE X (.UnaryOp .USub a pos) (tE X.K (eOp1 gNeg fa)) := pe_mono (pe_un un_neg ha) fun σ H Q ⟨H0, Z0, Z, env, d, hE, hf, q⟩ => by
  obtain ⟨x, h1, h2⟩ := Res.bind_eq hf
  unfold gNeg at h2
  split at h2
  · cases h2
    exact ⟨H0, Z0, Z, env, _, hE, h1, fun v H1 Z1 e1 d1 => ⟨_, d1.int, q _ H1 Z1 e1 (.int _)⟩⟩
  · cases h2
/-! subscripts -/
def gIdx : D → D → Res D
  | .list xs, .int i => match atI xs i with
    | some d => .ok d
    | none => .bad
  | .tuple xs, .int i => match atI xs i with
    | some d => .ok d
    | none => .bad
  | _, _ => .bad
theorem at_dps {vs : List V} {ds : List D} {i : Int} {d : D} (h : DpAll K Z vs ds) (e : atI ds i = some d) : ∃ v, atI vs i = some v ∧ Dp K Z v d := by
  unfold atI at e ⊢
  rw [dps_length h]
  cases hx : ixN ds.length i with
  | none => rw [hx] at e; cases e
  | some j =>
    rw [hx] at e
    exact dps_get h e
theorem gIdx_ok : OpD K (fun x y H Q => rIxL K x y H Q ∨ rIxT K x y H Q) gIdx := by
  intro Z H v w x y d Q s hx hy e q
  unfold gIdx at e
  split at e
  · split at e
    · rename_i hd
      cases e
      obtain ⟨p, vs, rfl, h1, h2⟩ := hx.list s
      obtain ⟨u, h3, h4⟩ := at_dps h2 hd
      exact .inl ⟨p, vs, _, u, rfl, hy.int, h1, h3, fin_e s q h4⟩
    · cases e
  · split at e
    · rename_i hd
      cases e
      obtain ⟨p, vs, rfl, h1, h2⟩ := hx.tup s
      obtain ⟨u, h3, h4⟩ := at_dps h2 hd
      exact .inr ⟨p, vs, _, u, rfl, hy.int, h1, h3, fin_e s q h4⟩
    · cases e
  · cases e
theorem E_idx {X : Cx} {a b : Expr} {pos : Pos} {fa fb : Env → Res D} (ha : PE X a (tP X.K fa)) (hb : PE X b (tP X.K fb)) (hs : PlainIx b := by intro _ _; rfl) : PE X (.Subscript a b pos) (tE X.K (eOp2 gIdx fa fb)) :=
  pe_mono (pe_ix (ix_list.or ix_tup) ha hb hs) (op2_red gIdx_ok (fun _ _ _ h => h) fun _ _ _ h => h)
/-! slices -/
def eOpt (f : Env → Res D) : Env → Res (Option Int) := fun env => (f env).bind fun d => match d with
  | .int i => .ok (some i)
  | _ => .bad
def eNo : Env → Res (Option Int) := fun _ => .ok none
def cutD (xs : List D) (lo hi : Option Int) : List D := (xs.drop (HT.sIx xs.length 0 lo)).take (HT.sIx xs.length xs.length hi - HT.sIx xs.length 0 lo)
def gSl : D → Option Int → Option Int → Res RV
  | .list xs, lo, hi => .ok ⟨.list (cutD xs lo hi), true⟩
  | .tuple xs, lo, hi => if ¬ (HT.sIx xs.length 0 lo = 0 ∧ HT.sIx xs.length xs.length hi = xs.length) then .ok ⟨.tuple (cutD xs lo hi), false⟩ else .bad
  | _, _, _ => .bad
def eSl (fa : Env → Res D) (fl fh : Env → Res (Option Int)) : Env → Res RV := fun env => (fa env).bind fun x => (fl env).bind fun l => (fh env).bind fun u => gSl x l u
def tO (K : PySem.W.Frag) (f : Env → Res (Option Int)) : TO := fun σ H Q => ∃ H0 Z0 Z env o, EnvOk K H0 Z0 Z H σ env ∧ f env = .ok o ∧ ∀ H' Z', Ext Z H Z' H' → Q o H'
theorem po_mono {X : Cx} {e : Option Expr} {t t' : TO} (h : PO X e t) (k : ∀ σ H Q, t' σ H Q → t σ H Q) : PO X e t' := ⟨fun pins s σ H Q I q => h.run pins s σ H Q I (k σ H Q q)⟩
theorem O_none {X : Cx} : PO X none (tO X.K eNo) := po_mono po_none fun σ H Q ⟨H0, Z0, Z, env, o, hE, hf, q⟩ => by
  cases hf
  exact q H Z (.refl hE.sz)
theorem O_some {X : Cx} {e : Expr} {f : Env → Res D} (h : PE X e (tP X.K f)) : PO X (some e) (tO X.K (eOpt f)) := po_mono (po_some h) fun σ H Q ⟨H0, Z0, Z, env, o, hE, hf, q⟩ => by
  obtain ⟨d, h1, h2⟩ := Res.bind_eq hf
  split at h2
  · cases h2
    exact ⟨H0, Z0, Z, env, _, hE, h1, fun v H1 Z1 e1 d1 => ⟨_, d1.int, q H1 Z1 e1⟩⟩
  · cases h2
theorem dps_cut {vs : List V} {ds : List D} (h : DpAll K Z vs ds) (lo hi : Option Int) : DpAll K Z (cutV vs lo hi) (cutD ds lo hi) := by
  unfold cutV cutD
  rw [dps_length h]
  exact dps_take _ (dps_drop _ h)
theorem V_sl {X : Cx} {e : Expr} {lo hi : Option Expr} {p2 pos : Pos} {fa : Env → Res D} {fl fh : Env → Res (Option Int)} (he : PE X e (tP X.K fa)) (hl : PO X lo (tO X.K fl)) (hh : PO X hi (tO X.K fh)) : PE X (.Subscript e (.Slice lo hi none p2) pos) (tV X.K (eSl fa fl fh)) :=
  pe_mono (pe_slice (sl_list.or sl_tup) he hl hh) fun σ H Q ⟨H0, Z0, Z, env, r, hE, hf, q⟩ => by
    obtain ⟨x, h1, hf⟩ := Res.bind_eq hf
    obtain ⟨l, h2, hf⟩ := Res.bind_eq hf
    obtain ⟨u, h3, hf⟩ := Res.bind_eq hf
    refine ⟨H0, Z0, Z, env, x, hE, h1, fun v H1 Z1 e1 d1 => ⟨H0, Z0, Z1, env, l, hE.ext e1, h2, fun H2 Z2 e2 => ⟨H0, Z0, Z2, env, u, (hE.ext e1).ext e2, h3, fun H3 Z3 e3 => ?_⟩⟩⟩
    have eA := (e1.trans e2).trans e3
    have d3 := (d1.ext e2).ext e3
    have q3 : ∀ u H' Z', Ext Z3 H3 Z' H' → RepV X.K H3 Z' H' u r → Q u H' := fun u H' Z' e k => q u H' Z' (eA.trans e) (k.pre eA.hh)
    unfold gSl at hf
    split at hf
    · cases hf
      obtain ⟨p, vs, rfl, k1, k2⟩ := d3.list eA.zh
      exact .inl ⟨p, vs, rfl, k1, fun a ha => fin_new eA.zh q3 ha (dps_cut k2 _ _)⟩
    · obtain ⟨hc, hf⟩ := ite_ok hf
      cases hf
      obtain ⟨p, vs, rfl, k1, k2⟩ := d3.tup eA.zh
      refine .inr ⟨p, vs, rfl, k1, ?_, fun a ha => fin_tupV eA.zh q3 ha (dps_cut k2 _ _)⟩
      rw [dps_length k2]
      exact hc
    · cases hf
end
end PV

set_option Elab.async false
set_option linter.all false
set_option maxRecDepth 100000
namespace PV
open PySem PySem.Spec L2
set_option autoImplicit false
/-! ### built-in calls -/
def CallD (K : PySem.W.Frag) (r : List V → Hp → VK → Prop) (g : List D → Res D) : Prop := ∀ (Z H : Hp) (vs : List V) (ds : List D) (d : D) (Q : VK), Same Z H → DpPs K Z H vs ds → g ds = .ok d → (∀ u H' Z', Ext Z H Z' H' → Dp K Z' u d → Q u H') → r vs H Q
def CallV (K : PySem.W.Frag) (r : List V → Hp → VK → Prop) (g : List D → Res RV) : Prop := ∀ (Z H : Hp) (vs : List V) (ds : List D) (d : RV) (Q : VK), Same Z H → DpPs K Z H vs ds → g ds = .ok d → (∀ u H' Z', Ext Z H Z' H' → RepV K H Z' H' u d → Q u H') → r vs H Q
def eBi {α : Type} (g : List D → Res α) (fs : Env → Res (List D)) : Env → Res α := fun env => (fs env).bind g
section
variable {X : Cx} {x : Str} {p pos : Pos} {e : Expr} {es : List Expr} {fs : Env → Res (List D)} {id T : String} {r : List V → Hp → VK → Prop}
theorem cb_red {t : TE} {g : List D → Res D} (hg : CallD X.K r g) (k : ∀ σ H Q, tCB r (tAp X.K fs) σ H Q → t σ H Q) : ∀ σ H Q, tE X.K (eBi g fs) σ H Q → t σ H Q := fun σ H Q ⟨H0, Z0, Z, env, d, hE, hf, q⟩ => by
  obtain ⟨ds, h1, h2⟩ := Res.bind_eq hf
  exact k _ _ _ ⟨H0, Z0, Z, env, ds, hE, h1, fun vs H1 Z1 e1 d1 => hg Z1 H1 vs ds d Q e1.zh d1 h2 fun u H' Z' e3 h3 => q u H' Z' (e1.trans e3) h3⟩
theorem cbv_red {t : TE} {g : List D → Res RV} (hg : CallV X.K r g) (k : ∀ σ H Q, tCB r (tAp X.K fs) σ H Q → t σ H Q) : ∀ σ H Q, tV X.K (eBi g fs) σ H Q → t σ H Q := fun σ H Q ⟨H0, Z0, Z, env, d, hE, hf, q⟩ => by
  obtain ⟨ds, h1, h2⟩ := Res.bind_eq hf
  exact k _ _ _ ⟨H0, Z0, Z, env, ds, hE, h1, fun vs H1 Z1 e1 d1 => hg Z1 H1 vs ds d Q e1.zh d1 h2 fun u H' Z' e3 h3 => q u H' Z' (e1.trans e3) (h3.pre e1.hh)⟩
theorem E_bi {g : List D → Res D} (hc : CallR X (.builtin id) r) (hd : CallD X.K r g) (hv : bootBuiltins x = some (.builtin id)) (hm : X.mg x = none) (ha : PA X (e :: es) (tAp X.K fs)) (hg : Gl X x := by rfl) (hn : x ≠ "__name__" := by decide) (hdb : (x == ("__debug__" : Str)) = false := by decide)
    (he : starEach (e :: es) X.env = (false, eval e X.env) :: starEach es X.env := by rfl) (hpl : (backTo pos (starEach es X.env)).any (·.1) = false := by rfl) : PE X (.Call (.Name x p) (e :: es) [] pos) (tE X.K (eBi g fs)) :=
  pe_mono (pe_callB hc hg hm hv ha hn hdb he hpl) (cb_red hd fun _ _ _ h => h)
theorem V_bi {g : List D → Res RV} (hc : CallR X (.builtin id) r) (hd : CallV X.K r g) (hv : bootBuiltins x = some (.builtin id)) (hm : X.mg x = none) (ha : PA X (e :: es) (tAp X.K fs)) (hg : Gl X x := by rfl) (hn : x ≠ "__name__" := by decide) (hdb : (x == ("__debug__" : Str)) = false := by decide)
    (he : starEach (e :: es) X.env = (false, eval e X.env) :: starEach es X.env := by rfl) (hpl : (backTo pos (starEach es X.env)).any (·.1) = false := by rfl) : PE X (.Call (.Name x p) (e :: es) [] pos) (tV X.K (eBi g fs)) :=
  pe_mono (pe_callB hc hg hm hv ha hn hdb he hpl) (cbv_red hd fun _ _ _ h => h)
theorem E_ty {g : List D → Res D} (hc : CallR X (.type T) r) (hd : CallD X.K r g) (hv : bootBuiltins x = some (.type T)) (hm : X.mg x = none) (ha : PA X (e :: es) (tAp X.K fs)) (hg : Gl X x := by rfl) (hn : x ≠ "__name__" := by decide) (hdb : (x == ("__debug__" : Str)) = false := by decide)
    (he : starEach (e :: es) X.env = (false, eval e X.env) :: starEach es X.env := by rfl) (hpl : (backTo pos (starEach es X.env)).any (·.1) = false := by rfl) : PE X (.Call (.Name x p) (e :: es) [] pos) (tE X.K (eBi g fs)) :=
  pe_mono (pe_callTy hc hg hm hv ha hn hdb he hpl) (cb_red hd fun _ _ _ h => h)
theorem V_ty {g : List D → Res RV} (hc : CallR X (.type T) r) (hd : CallV X.K r g) (hv : bootBuiltins x = some (.type T)) (hm : X.mg x = none) (ha : PA X (e :: es) (tAp X.K fs)) (hg : Gl X x := by rfl) (hn : x ≠ "__name__" := by decide) (hdb : (x == ("__debug__" : Str)) = false := by decide)
    (he : starEach (e :: es) X.env = (false, eval e X.env) :: starEach es X.env := by rfl) (hpl : (backTo pos (starEach es X.env)).any (·.1) = false := by rfl) : PE X (.Call (.Name x p) (e :: es) [] pos) (tV X.K (eBi g fs)) :=
  pe_mono (pe_callTy hc hg hm hv ha hn hdb he hpl) (cbv_red hd fun _ _ _ h => h)
theorem E_bif {g : List D → Res D} (hc : CallR X (.builtin id) r) (hd : CallD X.K r g) (hm : X.mg x = some (.builtin id)) (ha : PA X (e :: es) (tAp X.K fs)) (hg : Gl X x := by rfl) (hdb : (x == ("__debug__" : Str)) = false := by decide)
    (he : starEach (e :: es) X.env = (false, eval e X.env) :: starEach es X.env := by rfl) (hpl : (backTo pos (starEach es X.env)).any (·.1) = false := by rfl) : PE X (.Call (.Name x p) (e :: es) [] pos) (tE X.K (eBi g fs)) :=
  pe_mono (pe_callBfun hc hg hm ha hdb he hpl) (cb_red hd fun _ _ _ h => h)
end
section
variable {K : PySem.W.Frag} {Z H Z' H' : Hp}
theorem ps1 {vs : List V} {d : D} (h : DpPs K Z H vs [d]) : ∃ v, vs = [v] ∧ DpP K Z H v d := by
  cases h with
  | cons a b => cases b; exact ⟨_, rfl, a⟩
theorem ps2 {vs : List V} {d e : D} (h : DpPs K Z H vs [d, e]) : ∃ v w, vs = [v, w] ∧ DpP K Z H v d ∧ DpP K Z H w e := by
  cases h with
  | cons a b =>
    obtain ⟨w, rfl, c⟩ := ps1 b
    exact ⟨_, _, rfl, a, c⟩
theorem ps3 {vs : List V} {d e f : D} (h : DpPs K Z H vs [d, e, f]) : ∃ v w u, vs = [v, w, u] ∧ DpP K Z H v d ∧ DpP K Z H w e ∧ DpP K Z H u f := by
  cases h with
  | cons a b =>
    obtain ⟨w, u, rfl, c, d⟩ := ps2 b
    exact ⟨_, _, _, rfl, a, c, d⟩
/-! len -/
def gLen : List D → Res D
  | [.list xs] => .ok (.int xs.length)
  | [.tuple xs] => .ok (.int xs.length)
  | [.str x] => if x.length < 1000000 then .ok (.int x.length) else .bad
  | _ => .bad
theorem gLen_ok : CallD K (fun xs H Q => ∃ x n, xs = [x] ∧ LenV K x H n ∧ Q (.int n) H) gLen := by
  intro Z H vs ds d Q s h e q
  unfold gLen at e
  split at e
  · cases e
    obtain ⟨v, rfl, hv⟩ := ps1 h
    obtain ⟨p, ws, rfl, h1, h2⟩ := hv.list s
    exact ⟨_, _, rfl, .inl ⟨ws, h1, (dps_length h2).symm⟩, fin_e s q (.int _)⟩
  · cases e
    obtain ⟨v, rfl, hv⟩ := ps1 h
    obtain ⟨p, ws, rfl, h1, h2⟩ := hv.tup s
    exact ⟨_, _, rfl, .inr ⟨ws, h1, (dps_length h2).symm⟩, fin_e s q (.int _)⟩
  · obtain ⟨hc, e⟩ := ite_ok e
    cases e
    obtain ⟨v, rfl, hv⟩ := ps1 h
    have := hv.str; subst this
    exact ⟨_, _, rfl, ⟨Nat.le_of_lt (lim_ok hc), rfl⟩, fin_e s q (.int _)⟩
  · cases e
/-! abs, max, min of two, int -/
def gAbs : List D → Res D
  | [.int i] => .ok (.int (if i < 0 then -i else i))
  | _ => .bad
theorem gAbs_ok : CallD K (fun xs H Q => ∃ i, xs = [.int i] ∧ Q (.int (if i < 0 then -i else i)) H) gAbs := by
  intro Z H vs ds d Q s h e q
  unfold gAbs at e
  split at e
  · cases e
    obtain ⟨v, rfl, hv⟩ := ps1 h
    have := hv.int; subst this
    exact ⟨_, rfl, fin_e s q (.int _)⟩
  · cases e
def gMax2 : List D → Res D
  | [.int i, .int j] => .ok (.int (if j > i then j else i))
  | _ => .bad
theorem gMax2_ok : CallD K (fun xs H Q => ∃ i j, xs = [.int i, .int j] ∧ Q (.int (if j > i then j else i)) H) gMax2 := by
  intro Z H vs ds d Q s h e q
  unfold gMax2 at e
  split at e
  · cases e
    obtain ⟨v, w, rfl, hv, hw⟩ := ps2 h
    have := hv.int; subst this
    have := hw.int; subst this
    exact ⟨_, _, rfl, fin_e s q (.int _)⟩
  · cases e
def gMin2 : List D → Res D
  | [.int i, .int j] => .ok (.int (if j < i then j else i))
  | _ => .bad
theorem gMin2_ok : CallD K (fun xs H Q => ∃ i j, xs = [.int i, .int j] ∧ Q (.int (if j < i then j else i)) H) gMin2 := by
  intro Z H vs ds d Q s h e q
  unfold gMin2 at e
  split at e
  · cases e
    obtain ⟨v, w, rfl, hv, hw⟩ := ps2 h
    have := hv.int; subst this
    have := hw.int; subst this
    exact ⟨_, _, rfl, fin_e s q (.int _)⟩
  · cases e
def gIntT : List D → Res D
  | [.int i] => .ok (.int i)
  | [.bool b] => .ok (.int (if b then 1 else 0))
  | _ => .bad
theorem gIntT_ok : CallD K (fun xs H Q => (∃ i, xs = [.int i] ∧ Q (.int i) H) ∨ ∃ k, xs = [.bl k] ∧ Q (.int (if k then 1 else 0)) H) gIntT := by
  intro Z H vs ds d Q s h e q
  unfold gIntT at e
  split at e
  · cases e
    obtain ⟨v, rfl, hv⟩ := ps1 h
    have := hv.int; subst this
    exact .inl ⟨_, rfl, fin_e s q (.int _)⟩
  · cases e
    obtain ⟨v, rfl, hv⟩ := ps1 h
    have := hv.bool; subst this
    exact .inr ⟨_, rfl, fin_e s q (.int _)⟩
  · cases e
def gGcd : List D → Res D
  | [.int i, .int j] => .ok (.int (Nat.gcd i.natAbs j.natAbs : Nat))
  | _ => .bad
theorem gGcd_ok : CallD K rGcd gGcd := by
  intro Z H vs ds d Q s h e q
  unfold gGcd at e
  split at e
  · cases e
    obtain ⟨v, w, rfl, hv, hw⟩ := ps2 h
    have := hv.int; subst this
    have := hw.int; subst this
    exact ⟨_, _, rfl, fin_e s q (.int _)⟩
  · cases e
/-! lists of ints, of bools -/
def asInts : List D → Option (List Int)
  | [] => some []
  | .int i :: r => (asInts r).map (i :: ·)
  | _ :: _ => none
@[simp] theorem asInts_map : ∀ ns : List Int, asInts (ns.map PyData.int) = some ns
  | [] => rfl
  | n :: r => by
    show (asInts (r.map PyData.int)).map (n :: ·) = _
    rw [asInts_map r]; rfl
theorem asInts_eq : ∀ {ds : List D} {ns : List Int}, asInts ds = some ns → ds = ns.map PyData.int
  | [], _, h => by cases h; rfl
  | .int i :: r, ns, h => by
    have h' : (asInts r).map (i :: ·) = some ns := h
    cases hr : asInts r with
    | none => rw [hr] at h'; cases h'
    | some ms => rw [hr] at h'; cases h'; rw [asInts_eq hr]; rfl
  | .none :: _, _, h => by cases h
  | .bool _ :: _, _, h => by cases h
  | .str _ :: _, _, h => by cases h
  | .list _ :: _, _, h => by cases h
  | .tuple _ :: _, _, h => by cases h
  | .dict _ :: _, _, h => by cases h
def asBools : List D → Option (List Bool)
  | [] => some []
  | .bool i :: r => (asBools r).map (i :: ·)
  | _ :: _ => none
@[simp] theorem asBools_map : ∀ ns : List Bool, asBools (ns.map PyData.bool) = some ns
  | [] => rfl
  | n :: r => by
    show (asBools (r.map PyData.bool)).map (n :: ·) = _
    rw [asBools_map r]; rfl
theorem asBools_eq : ∀ {ds : List D} {ns : List Bool}, asBools ds = some ns → ds = ns.map PyData.bool
  | [], _, h => by cases h; rfl
  | .bool i :: r, ns, h => by
    have h' : (asBools r).map (i :: ·) = some ns := h
    cases hr : asBools r with
    | none => rw [hr] at h'; cases h'
    | some ms => rw [hr] at h'; cases h'; rw [asBools_eq hr]; rfl
  | .none :: _, _, h => by cases h
  | .int _ :: _, _, h => by cases h
  | .str _ :: _, _, h => by cases h
  | .list _ :: _, _, h => by cases h
  | .tuple _ :: _, _, h => by cases h
  | .dict _ :: _, _, h => by cases h
def gSum : List D → Res D
  | [.list ds] => match asInts ds with
    | some ns => .ok (.int ns.sum)
    | none => .bad
  | _ => .bad
theorem gSum_ok : CallD K (rSum K) gSum := by
  intro Z H vs ds d Q s h e q
  unfold gSum at e
  split at e
  · split at e
    · rename_i hn
      cases e
      obtain ⟨v, rfl, hv⟩ := ps1 h
      obtain ⟨p, ws, rfl, h1, h2⟩ := hv.list s
      rw [asInts_eq hn] at h2
      rw [dps_ints h2] at h1
      exact ⟨p, _, rfl, h1, fin_e s q (.int _)⟩
    · cases e
  · cases e
def gAll : List D → Res D
  | [.list ds] => match asBools ds with
    | some ns => .ok (.bool (ns.all id))
    | none => .bad
  | _ => .bad
theorem gAll_ok : CallD K (rAll K) gAll := by
  intro Z H vs ds d Q s h e q
  unfold gAll at e
  split at e
  · split at e
    · rename_i hn
      cases e
      obtain ⟨v, rfl, hv⟩ := ps1 h
      obtain ⟨p, ws, rfl, h1, h2⟩ := hv.list s
      rw [asBools_eq hn] at h2
      rw [dps_bools h2] at h1
      exact ⟨p, _, rfl, h1, fin_e s q (.bl _)⟩
    · cases e
  · cases e
def gAny : List D → Res D
  | [.list ds] => match asBools ds with
    | some ns => .ok (.bool (ns.any id))
    | none => .bad
  | _ => .bad
theorem gAny_ok : CallD K (rAny K) gAny := by
  intro Z H vs ds d Q s h e q
  unfold gAny at e
  split at e
  · split at e
    · rename_i hn
      cases e
      obtain ⟨v, rfl, hv⟩ := ps1 h
      obtain ⟨p, ws, rfl, h1, h2⟩ := hv.list s
      rw [asBools_eq hn] at h2
      rw [dps_bools h2] at h1
      exact ⟨p, _, rfl, h1, fin_e s q (.bl _)⟩
    · cases e
  · cases e
/-! list, tuple -/
def gList : List D → Res RV
  | [.list ds] => .ok ⟨.list ds, true⟩
  | [.tuple ds] => .ok ⟨.list ds, true⟩
  | _ => .bad
theorem gList_ok : CallV K (fun xs H Q => ∃ p ys, xs = [.ref p] ∧ (SqL K H p ys ∨ SqT K H p ys) ∧ ∀ l, H l = none → Q (.ref l) (upd H l (.lst ys))) gList := by
  intro Z H vs ds d Q s h e q
  unfold gList at e
  split at e
  · cases e
    obtain ⟨v, rfl, hv⟩ := ps1 h
    obtain ⟨p, ws, rfl, h1, h2⟩ := hv.list s
    exact ⟨p, ws, rfl, .inl h1, fun a ha => fin_new s q ha h2⟩
  · cases e
    obtain ⟨v, rfl, hv⟩ := ps1 h
    obtain ⟨p, ws, rfl, h1, h2⟩ := hv.tup s
    exact ⟨p, ws, rfl, .inr h1, fun a ha => fin_new s q ha h2⟩
  · cases e
def gTuple : List D → Res D
  | [.list ds] => .ok (.tuple ds)
  | _ => .bad
theorem gTuple_ok : CallD K (fun xs H Q => ∃ p ys, xs = [.ref p] ∧ ((SqL K H p ys ∧ ∀ l, H l = none → Q (.ref l) (upd H l (.tup ys))) ∨ (SqT K H p ys ∧ Q (.ref p) H))) gTuple := by
  intro Z H vs ds d Q s h e q
  unfold gTuple at e
  split at e
  · cases e
    obtain ⟨v, rfl, hv⟩ := ps1 h
    obtain ⟨p, ws, rfl, h1, h2⟩ := hv.list s
    exact ⟨p, ws, rfl, .inl ⟨h1, fun a ha => fin_tup s q ha h2⟩⟩
  · cases e
/-! min, max of a list of data -/
def alikeL (ds : List D) : Bool := (ds.all fun x => ds.all fun y => PySem.W.alike x y)
def noNone (ds : List D) : Bool := ds.all fun x => match x with
  | .none => false
  | _ => true
theorem alikeL_ok {ds : List D} (h : alikeL ds = true) : PySem.W.AllAlike ds := by
  intro x hx y hy
  unfold alikeL at h
  rw [List.all_eq_true] at h
  have := h x hx
  rw [List.all_eq_true] at this
  exact this y hy
theorem noNone_ok {ds : List D} (h : noNone ds = true) : ∀ x ∈ ds, x ≠ .none := by
  intro x hx e
  unfold noNone at h
  rw [List.all_eq_true] at h
  have := h x hx
  rw [e] at this
  exact Bool.noConfusion this
def gBest (best : D → List D → D) : List D → Res D
  | [.list (d :: ds)] => if alikeL (d :: ds) = true ∧ noNone (d :: ds) = true ∧ PyData.depthAll (d :: ds) ≤ 64 then .ok (best d ds) else .bad
  | [.tuple (d :: ds)] => if alikeL (d :: ds) = true ∧ noNone (d :: ds) = true ∧ PyData.depthAll (d :: ds) ≤ 64 then .ok (best d ds) else .bad
  | _ => .bad
abbrev gMinL := gBest PySem.W.minD
abbrev gMaxL := gBest PySem.W.maxD
def rBest (K : PySem.W.Frag) (best : D → List D → D) : List V → Hp → VK → Prop := fun vs H Q => ∃ a xs d ds, vs = [.ref a] ∧ (SqL K H a xs ∨ SqT K H a xs) ∧ DpAll K H xs (d :: ds) ∧ alikeL (d :: ds) = true ∧ noNone (d :: ds) = true ∧ PyData.depthAll (d :: ds) ≤ 64 ∧
  ∀ (i : Nat) (w : V), xs[i]? = some w → (d :: ds)[i]? = some (best d ds) → Q w H
theorem fold_mem (f : D → D → Bool) : ∀ (ds : List D) (x : D), ds.foldl (fun a y => if f a y = true then y else a) x ∈ x :: ds
  | [], x => List.mem_cons_self
  | y :: r, x => by
    rw [List.foldl_cons]
    have h := fold_mem f r (if f x y = true then y else x)
    rcases List.mem_cons.mp h with h | h
    · rw [h]
      by_cases c : f x y = true
      · rw [if_pos c]; exact List.mem_cons_of_mem _ List.mem_cons_self
      · rw [if_neg c]; exact List.mem_cons_self
    · exact List.mem_cons_of_mem _ (List.mem_cons_of_mem _ h)
theorem best_core {X : Cx} {pins : List (Addr × Obj)} {s : Shared} {σ : L2.St} {its : List Value} {xs : List V} {ds : List D} {b : D} {i : Nat} {v : Value} {h' : Heap} {tk : Nat} {bs : List Addr} {Q : VK}
    (I : Inv X pins σ H s) (rv : Vals xs its) (hd : DpAll X.K H xs ds) (ha : alikeL ds = true) (hb : b ∈ ds) (hv : its.toArray[i]? = some v) (hr : Reads h' v b bs) (hk : ∀ c o, s.heap.get? c = some o → h'.get? c = some o)
    (q : ∀ (i : Nat) (w : V), xs[i]? = some w → ds[i]? = some b → Q w H) : EP X pins σ Q v { s with heap := h', toks := tk } := by
  have hi : its[i]? = some v := by simpa using hv
  have hlt : i < its.length := (List.getElem?_eq_some_iff.mp hi).1
  have hlen := rv.length
  have hx : xs[i]? = some xs[i] := List.getElem?_eq_getElem (by omega)
  obtain ⟨u, e1, ru⟩ := rv.get hx
  rw [hi] at e1; cases e1
  obtain ⟨d, e2, hd2⟩ := dps_get' hd hx
  obtain ⟨as, r1⟩ := Dp.reads I d _ _ hd2 ru
  have r2 : Reads h' v d as := PyProof.Rows.Reads.keeps hk r1
  have e3 : b = d := PySem.W.alike_unique _ _ _ _ _ (alikeL_ok ha b hb d (List.mem_of_getElem? e2)) hr r2
  subst e3
  exact ⟨xs[i], H, I.kept hk, ru, q i _ hx e2⟩
theorem cr_minD {X : Cx} (hu : X.A.units + 66 < cLine) (hc : X.calm = true) : CallR X (.builtin "min") (rBest X.K PySem.W.minD) := by
  intro pins s σ H vs us Q I r h
  obtain ⟨a, xs, d, ds, rfl, hs, hd, h1, h2, h3, q⟩ := h
  rw [Vals.ref1 r]
  rcases hs with hs | hs
  · obtain ⟨its, rv, hl, hz⟩ := I.list hs
    obtain ⟨as, hr⟩ := Dp.readsAll I _ _ _ hd rv
    refine PySem.W.min_list_data (I.ok.hd hc) hl.isList hr ⟨alikeL_ok h1, noNone_ok h2⟩ (by omega) fun i v h' tk bs hv hr' hk => ?_
    exact best_core I rv hd h1 (by unfold PySem.W.minD; exact fold_mem (fun a y => PySem.W.dataLt y a) ds d) hv hr' hk q
  · obtain ⟨its, rv, hl, hz⟩ := I.tuple hs
    obtain ⟨as, hr⟩ := Dp.readsAll I _ _ _ hd rv
    refine PySem.W.min_tuple_data (I.ok.hd hc) hl hr ⟨alikeL_ok h1, noNone_ok h2⟩ (by omega) fun i v h' tk bs hv hr' hk => ?_
    exact best_core I rv hd h1 (by unfold PySem.W.minD; exact fold_mem (fun a y => PySem.W.dataLt y a) ds d) hv hr' hk q
theorem cr_maxD {X : Cx} (hu : X.A.units + 66 < cLine) (hc : X.calm = true) : CallR X (.builtin "max") (rBest X.K PySem.W.maxD) := by
  intro pins s σ H vs us Q I r h
  obtain ⟨a, xs, d, ds, rfl, hs, hd, h1, h2, h3, q⟩ := h
  rw [Vals.ref1 r]
  rcases hs with hs | hs
  · obtain ⟨its, rv, hl, hz⟩ := I.list hs
    obtain ⟨as, hr⟩ := Dp.readsAll I _ _ _ hd rv
    refine PySem.W.max_list_data (I.ok.hd hc) hl.isList hr ⟨alikeL_ok h1, noNone_ok h2⟩ (by omega) fun i v h' tk bs hv hr' hk => ?_
    exact best_core I rv hd h1 (by unfold PySem.W.maxD; exact fold_mem (fun a y => PySem.W.dataLt a y) ds d) hv hr' hk q
  · obtain ⟨its, rv, hl, hz⟩ := I.tuple hs
    obtain ⟨as, hr⟩ := Dp.readsAll I _ _ _ hd rv
    refine PySem.W.max_tuple_data (I.ok.hd hc) hl hr ⟨alikeL_ok h1, noNone_ok h2⟩ (by omega) fun i v h' tk bs hv hr' hk => ?_
    exact best_core I rv hd h1 (by unfold PySem.W.maxD; exact fold_mem (fun a y => PySem.W.dataLt a y) ds d) hv hr' hk q
theorem gBest_ok {best : D → List D → D} : CallD K (rBest K best) (gBest best) := by
  intro Z H vs ds d Q s h e q
  unfold gBest at e
  split at e
  · obtain ⟨⟨h1, h2, h3⟩, e⟩ := ite_ok e
    cases e
    obtain ⟨v, rfl, hv⟩ := ps1 h
    obtain ⟨p, ws, rfl, k1, k2⟩ := hv.list s
    refine ⟨p, ws, _, _, rfl, .inl k1, dps_mono s k2, h1, h2, h3, fun i w e1 e2 => ?_⟩
    obtain ⟨d', e3, h4⟩ := dps_get' k2 e1
    rw [e2] at e3; cases e3
    exact fin_e s q h4
  · obtain ⟨⟨h1, h2, h3⟩, e⟩ := ite_ok e
    cases e
    obtain ⟨v, rfl, hv⟩ := ps1 h
    obtain ⟨p, ws, rfl, k1, k2⟩ := hv.tup s
    refine ⟨p, ws, _, _, rfl, .inr k1, dps_mono s k2, h1, h2, h3, fun i w e1 e2 => ?_⟩
    obtain ⟨d', e3, h4⟩ := dps_get' k2 e1
    rw [e2] at e3; cases e3
    exact fin_e s q h4
  · cases e
/-! sorted -/
def sortableL (ds : List D) : Bool := (ds.all fun d => match d with
  | .tuple (_ :: _) => true
  | _ => false) || (ds.all fun d => match d with
  | .none => false
  | .tuple _ => false
  | _ => true)
theorem sortableL_ok {ds : List D} (h : sortableL ds = true) : PySem.W.Sortable ds := by
  unfold sortableL at h
  rw [Bool.or_eq_true, List.all_eq_true, List.all_eq_true] at h
  rcases h with h | h
  · refine .inl fun d hd => ?_
    have := h d hd
    cases d with
    | tuple xs =>
      cases xs with
      | nil => exact Bool.noConfusion this
      | cons x r => exact ⟨_, _, rfl⟩
    | _ => exact Bool.noConfusion this
  · refine .inr fun d hd => ?_
    have := h d hd
    cases d with
    | tuple xs => exact Bool.noConfusion this
    | none => exact Bool.noConfusion this
    | _ => exact ⟨(fun z => nomatch z), (fun _ z => nomatch z)⟩
def leD : D → D → Bool := PySem.W.dataLe false (fun d : D => d)
def gSorted : List D → Res RV
  | [.list ds] => if alikeL ds = true ∧ sortableL ds = true ∧ PyData.depthAll ds ≤ 64 then .ok ⟨.list (ds.mergeSort leD), true⟩ else .bad
  | _ => .bad
def rSortedD (K : PySem.W.Frag) : List V → Hp → VK → Prop := fun vs H Q => ∃ a xs ds, vs = [.ref a] ∧ SqL K H a xs ∧ DpAll K H xs ds ∧ alikeL ds = true ∧ sortableL ds = true ∧ PyData.depthAll ds ≤ 64 ∧
  ∀ p, H p = none → Q (.ref p) (upd H p (.lst (((xs.zip ds).mergeSort (PySem.W.dataLe false (fun b : V × D => b.2))).map (·.1))))
theorem depth_mem : ∀ {ds : List D} {d : D}, d ∈ ds → d.depth ≤ PyData.depthAll ds
  | x :: r, d, h => by
    rw [PyData.depthAll]
    rcases List.mem_cons.mp h with rfl | h
    · omega
    · have := depth_mem h; omega
theorem each_of : ∀ {xs : List V} {us : List Value} {ds : List D} {R : Value → V × D → Prop}, Vals xs us → DpAll K H xs ds → (∀ v u d, RelV v u → Dp K H v d → R u (v, d)) → PySem.W.EachIs R us (xs.zip ds)
  | _, _, _, _, .nil, .nil, _ => .nil
  | _, _, _, _, .cons a b, .cons c d, h => .cons (h _ _ _ a c) (each_of b d h)
theorem each_vals : ∀ {us : List Value} {bs : List (V × D)}, PySem.W.EachIs (fun (u : Value) (b : V × D) => RelV b.1 u) us bs → Vals (bs.map (·.1)) us
  | _, _, .nil => .nil
  | _, _, .cons a b => .cons a (each_vals b)
theorem zip_snd : ∀ {xs : List V} {ds : List D}, xs.length = ds.length → (xs.zip ds).map (·.2) = ds
  | [], [], _ => rfl
  | x :: r, d :: s, h => by
    rw [List.zip_cons_cons, List.map_cons, zip_snd (by simpa using h)]
theorem cr_sortedD {X : Cx} (hu : X.A.units + 66 < cLine) : CallR X (.builtin "sorted") (rSortedD X.K) := by
  intro pins s σ H vs us Q I r h
  obtain ⟨a, xs, ds, rfl, hs, hd, h1, h2, h3, q⟩ := h
  obtain ⟨its, rv, hl, hz⟩ := I.list hs
  rw [Vals.ref1 r]
  have ez := zip_snd (dps_length hd)
  have lz : (xs.zip ds).length = xs.length := by rw [List.length_zip, dps_length hd]; omega
  refine PySem.W.sorted_data (R := fun (u : Value) (b : V × D) => RelV b.1 u) (enc := fun b : V × D => b.2) (bs := xs.zip ds) hl.isList (each_of rv hd fun v u d a _ => a) (each_of rv hd fun v u d a b => Dp.reads I d v u b a) (by rw [ez]; exact alikeL_ok h1) (by rw [ez]; exact sortableL_ok h2) (by rw [lz]; exact hz)
    (fun b hb => ?_) fun out ho eo => ?_
  · have : b.2 ∈ ds := by rw [← ez]; exact List.mem_map_of_mem hb
    have := depth_mem this
    omega
  · obtain ⟨ep, he'⟩ := PyProof.Rows.sortedAll_at s.heap its out.toArray
    have v2 := each_vals eo
    have hlen := v2.length
    have l3 : out.length ≤ sizeLine := by rw [ho, lz]; exact hz
    exact ⟨.ref _, upd H (s.heap.objs.size + 1) (.lst _), I.laid (t' := s.toks) (fun _ _ => PyProof.Rows.sortedAll_old) (Nat.le_succ _) ⟨by rw [hlen]; exact l3, out, ep, v2, he'⟩, rfl, q _ (I.hok.fresh (Nat.le_succ _))⟩
theorem dps_of_zip {Z : Hp} : ∀ {bs : List (V × D)}, (∀ b ∈ bs, Dp K Z b.1 b.2) → DpAll K Z (bs.map (·.1)) (bs.map (·.2))
  | [], _ => .nil
  | b :: r, h => .cons (h b List.mem_cons_self) (dps_of_zip fun c hc => h c (List.mem_cons_of_mem _ hc))
theorem dps_zip {Z : Hp} : ∀ {xs : List V} {ds : List D}, DpAll K Z xs ds → ∀ b ∈ xs.zip ds, Dp K Z b.1 b.2
  | _, _, .nil, b, hb => by simp at hb
  | _, _, .cons a c, b, hb => by
    rw [List.zip_cons_cons] at hb
    rcases List.mem_cons.mp hb with rfl | hb
    · exact a
    · exact dps_zip c b hb
theorem gSorted_ok : CallV K (rSortedD K) gSorted := by
  intro Z H vs ds d Q s h e q
  unfold gSorted at e
  split at e
  · rename_i ds
    obtain ⟨⟨h1, h2, h3⟩, e⟩ := ite_ok e
    cases e
    obtain ⟨v, rfl, hv⟩ := ps1 h
    obtain ⟨p, ws, rfl, k1, k2⟩ := hv.list s
    refine ⟨p, ws, _, rfl, k1, dps_mono s k2, h1, h2, h3, fun a ha => fin_new s q ha ?_⟩
    have e1 : ds.mergeSort leD = ((ws.zip ds).mergeSort (PySem.W.dataLe false (fun b : V × D => b.2))).map (·.2) := by
      have z := List.map_mergeSort (r := PySem.W.dataLe false (fun b : V × D => b.2)) (s := leD) (f := fun b : V × D => b.2) (l := ws.zip ds) (fun _ _ _ _ => rfl)
      rw [zip_snd (dps_length k2)] at z
      exact z.symm
    rw [e1]
    exact dps_of_zip fun b hb => dps_zip k2 b ((List.mergeSort_perm _ _).mem_iff.mp hb)
  · cases e
/-! isinstance -/
def tyD : D → Option String
  | .none => some "NoneType"
  | .bool _ => some "bool"
  | .int _ => some "int"
  | .str _ => some "str"
  | .list _ => some "list"
  | .tuple _ => some "tuple"
  | _ => none
def gIsa (T : String) (d : D) : Res D := match tyD d with
  | some a => match kitB a T with
    | some b => .ok (.bool b)
    | none => .bad
  | none => .bad
theorem tyX_of {v : V} {d : D} (s : Same Z H) (h : DpP K Z H v d) {a : String} (e : tyD d = some a) : TyX K H v (.type a) := by
  have hc := h.cur s
  cases hc with
  | non => cases e; exact .base .non
  | bl b => cases e; exact .base (.bl b)
  | int b => cases e; exact .base (.int b)
  | str b => cases e; exact .base (.str b)
  | lst h1 h2 =>
    cases e
    rcases h1 with (h1 | ⟨o, h1⟩) | ⟨o, its, n, h1, h3, _⟩
    · exact .base (.lst h1)
    · exact .base (.frz h1)
    · exact .kList h1 h3
  | tup h1 h2 =>
    cases e
    rcases h1 with (h1 | ⟨o, h1⟩) | ⟨o, its, n, h1, h3, _⟩
    · exact .base (.tup h1)
    · exact .fTuple h1
    · exact .kTuple h1 h3
end
end PV

set_option Elab.async false
set_option linter.all false
set_option maxRecDepth 100000
namespace PV
open PySem PySem.Spec L2
set_option autoImplicit false
section
variable {X : Cx} {p p2 pos : Pos} {e : Expr} {es : List Expr} {f : Env → Res D} {fs : Env → Res (List D)}
theorem E_isi {y : Str} {T : String} (he : PE X e (tP X.K f)) (m : X.mg "isinstance" = none) (mT : X.mg y = none) (hv : bootBuiltins y = some (.type T)) (hg : Gl X "isinstance" := by rfl) (hgT : Gl X y := by rfl) (hn : y ≠ "__name__" := by decide) (hdb : (y == ("__debug__" : Str)) = false := by decide)
    (h1 : starEach [e, .Name y p2] X.env = (false, eval e X.env) :: starEach [.Name y p2] X.env := by rfl) (h2 : starEach [.Name y p2] X.env = (false, eval (.Name y p2) X.env) :: starEach [] X.env := by rfl) (hpl : (backTo pos (starEach [.Name y p2] X.env)).any (·.1) = false := by rfl) :
    PE X (.Call (.Name "isinstance" p) [e, .Name y p2] [] pos) (tE X.K (eOp1 (gIsa T) f)) :=
  pe_mono (pe_callB (call_isi (X := X)) hg m PyProof.Rows.boot_isinstance (pa_cons he (pa_cons (pe_bltn (v := .ty T) hgT mT hv rfl hn hdb) pa_nil h2) h1) (by decide) (by decide) h1 hpl) fun σ H Q ⟨H0, Z0, Z, env, d, hE, hf, q⟩ => by
    obtain ⟨x, k1, k2⟩ := Res.bind_eq hf
    unfold gIsa at k2
    split at k2
    · rename_i a ha
      split at k2
      · rename_i b hb
        cases k2
        exact ⟨H0, Z0, Z, env, x, hE, k1, fun v H1 Z1 e1 d1 => ⟨v, .ty T, .type a, .type T, b, rfl, .ty T, tyX_of e1.zh d1 ha, kit_ty hb, q _ H1 Z1 e1 (.bl b)⟩⟩
      · cases k2
    · cases k2
end
/-! ### defs -/
def spD (K : PySem.W.Frag) (m : List D → Res RV) : Sp := fun vs H Q _ => ∃ Z ds r, Same Z H ∧ DpAll K Z vs ds ∧ m ds = .ok r ∧ ∀ v H' Z', Ext Z H Z' H' → RepV K H Z' H' v r → Q v H'
/-- a def of the module: what it hands back -/
structure Cal (P : Program) (w : World) (K : PySem.W.Frag) (mg : Str → Option Value) (base : Heap) (x : Str) (k : Nat) (m : List D → Res RV) : Prop where
  ex : ∃ f fd ps, FnOk P w K mg base CX0 k f fd ps (spD K m) ∧ mg x = some (.ref f) ∧ PySem.W.keepIn K (.ref f) = true ∧ Binds K fd ps []
def eCall (m : List D → Res RV) (fs : Env → Res (List D)) : Env → Res RV := fun env => (fs env).bind m
section
variable {X : Cx} {x : Str} {k j : Nat} {p p2 pos : Pos} {e : Expr} {es : List Expr} {f : Env → Res D} {fs : Env → Res (List D)} {m : List D → Res RV}
theorem Room.le {A : Around} (r : Room j A) (h : k ≤ j) : Room k A := r.mono h
theorem V_call (C : Cal X.prog X.w X.K X.mg X.base x k m) (hr : Room j X.A) (ha : PA X (e :: es) (tA X.K fs)) (hk : k ≤ j := by decide) (hg : Gl X x := by rfl) (hdb : (x == ("__debug__" : Str)) = false := by decide)
    (he : starEach (e :: es) X.env = (false, eval e X.env) :: starEach es X.env := by rfl) (hpl : (backTo pos (starEach es X.env)).any (·.1) = false := by rfl) : PE X (.Call (.Name x p) (e :: es) [] pos) (tV X.K (eCall m fs)) := by
  obtain ⟨f, fd, ps, F, hm, kp, b⟩ := C.ex
  refine pe_mono (pe_call F (hr.mono hk) hg hm kp b .nil pass0 ha hdb he hpl) fun σ H Q ⟨H0, Z0, Z, env, r, hE, hf, q⟩ => ?_
  obtain ⟨ds, h1, h2⟩ := Res.bind_eq hf
  refine ⟨H0, Z0, Z, env, ds, hE, h1, fun vs H1 Z1 e1 d1 => ⟨Z1, ds, r, e1.zh, by rw [List.append_nil]; exact d1, h2, fun v H' Z' e2 hr => q v H' Z' (e1.trans e2) (hr.pre e1.hh)⟩⟩
theorem V_call0 (C : Cal X.prog X.w X.K X.mg X.base x k m) (hr : Room j X.A) (hk : k ≤ j := by decide) (hg : Gl X x := by rfl) (hdb : (x == ("__debug__" : Str)) = false := by decide) : PE X (.Call (.Name x p) [] [] pos) (tV X.K (eCall m aNil)) := by
  obtain ⟨f, fd, ps, F, hm, kp, b⟩ := C.ex
  refine pe_mono (pe_call0 F (hr.mono hk) hg hm kp b .nil pass0 hdb) fun σ H Q ⟨H0, Z0, Z, env, r, hE, hf, q⟩ => ?_
  obtain ⟨ds, h1, h2⟩ := Res.bind_eq hf
  cases h1
  exact ⟨Z, [], r, hE.sz, .nil, h2, fun v H' Z' e2 hr => q v H' Z' e2 hr⟩
end
/-! ### environments that change -/
section
variable {K : PySem.W.Frag} {H0 Z0 Z H : Hp} {σ : L2.St} {env : Env} {i : Nat} {v : V} {d : D} {p : Addr} {vs : List V} {ds es : List D}
theorem EnvOk.lt (h : EnvOk K H0 Z0 Z H σ env) {s : Sl} (e : env[i]? = some s) : i < σ.length := by
  rw [h.len]
  exact (List.getElem?_eq_some_iff.mp e).1
theorem get_set {α : Type} {l : List α} {i j : Nat} {x y : α} (h : (l.set i x)[j]? = some y) : (i = j ∧ y = x) ∨ (i ≠ j ∧ l[j]? = some y) := by
  by_cases c : i = j
  · subst c
    rw [List.getElem?_set] at h
    simp only [if_true] at h
    split at h
    · cases h; exact .inl ⟨rfl, rfl⟩
    · cases h
  · rw [List.getElem?_set_ne c] at h
    exact .inr ⟨c, h⟩
/-- a slot gets a frozen value -/
theorem EnvOk.setFz (h : EnvOk K H0 Z0 Z H σ env) (hi : i < env.length) (hd : Dp K Z v d) : EnvOk K H0 Z0 Z H (σ.set i (some v)) (env.set i (.fz d)) := by
  refine ⟨h.sz, h.s0, h.z0, h.no, by rw [List.length_set, List.length_set, h.len], fun j s e => ?_, fun a b q xs ys hab e1 e2 e3 e4 => ?_⟩
  · rcases get_set e with ⟨rfl, rfl⟩ | ⟨c, e⟩
    · exact ⟨some v, by rw [List.getElem?_set_self (by rw [h.len]; exact hi)], v, rfl, hd⟩
    · obtain ⟨o, h1, h2⟩ := h.at_ j s e
      exact ⟨o, by rw [List.getElem?_set_ne c]; exact h1, h2⟩
  · rcases get_set e1 with ⟨_, z⟩ | ⟨c1, e1⟩
    · cases z
    · rcases get_set e2 with ⟨_, z⟩ | ⟨c2, e2⟩
      · cases z
      · rw [List.getElem?_set_ne c1] at e3
        rw [List.getElem?_set_ne c2] at e4
        exact h.sep a b q xs ys hab e1 e2 e3 e4
/-- a slot is forgotten -/
theorem EnvOk.setNo (h : EnvOk K H0 Z0 Z H σ env) (i : Nat) : EnvOk K H0 Z0 Z H σ (env.set i .no) := by
  refine ⟨h.sz, h.s0, h.z0, h.no, by rw [List.length_set, h.len], fun j s e => ?_, fun a b q xs ys hab e1 e2 e3 e4 => ?_⟩
  · rcases get_set e with ⟨rfl, rfl⟩ | ⟨c, e⟩
    · have hi : i < env.length := by
        have := (List.getElem?_eq_some_iff.mp e).1
        rw [List.length_set] at this
        exact this
      obtain ⟨o, h1, _⟩ := h.at_ i _ (List.getElem?_eq_getElem hi)
      exact ⟨o, h1, True.intro⟩
    · exact h.at_ j s e
  · rcases get_set e1 with ⟨_, z⟩ | ⟨c1, e1⟩
    · cases z
    · rcases get_set e2 with ⟨_, z⟩ | ⟨c2, e2⟩
      · cases z
      · exact h.sep a b q xs ys hab e1 e2 e3 e4
def clr (is : List Nat) (env : Env) : Env := is.foldl (fun e i => e.set i .no) env
theorem EnvOk.clr : ∀ (is : List Nat) {env : Env}, EnvOk K H0 Z0 Z H σ env → EnvOk K H0 Z0 Z H σ (PV.clr is env)
  | [], _, h => h
  | i :: r, _, h => EnvOk.clr r (h.setNo i)
/-- a slot gets a list of its own -/
theorem EnvOk.setOwn (h : EnvOk K H0 Z0 Z H σ env) (hi : i < env.length) (hp : H p = some (.lst vs)) (zp : Z p = none) (h0 : H0 p = none) (hd : DpAll K Z vs ds)
    (hn : ∀ (j : Nat) (xs : List D), env[j]? = some (.own xs) → σ[j]? = some (some (.ref p)) → False) : EnvOk K H0 Z0 Z H (σ.set i (some (.ref p))) (env.set i (.own ds)) := by
  refine ⟨h.sz, h.s0, h.z0, h.no, by rw [List.length_set, List.length_set, h.len], fun j s e => ?_, fun a b q xs ys hab e1 e2 e3 e4 => ?_⟩
  · rcases get_set e with ⟨rfl, rfl⟩ | ⟨c, e⟩
    · exact ⟨some (.ref p), by rw [List.getElem?_set_self (by rw [h.len]; exact hi)], p, vs, rfl, hp, zp, h0, hd⟩
    · obtain ⟨o, h1, h2⟩ := h.at_ j s e
      exact ⟨o, by rw [List.getElem?_set_ne c]; exact h1, h2⟩
  · rcases get_set e1 with ⟨rfl, z⟩ | ⟨c1, e1⟩
    · rcases get_set e2 with ⟨z2, _⟩ | ⟨c2, e2⟩
      · exact hab z2
      · rw [List.getElem?_set_self (by rw [h.len]; exact hi)] at e3
        cases e3
        rw [List.getElem?_set_ne c2] at e4
        exact hn b _ e2 e4
    · rw [List.getElem?_set_ne c1] at e3
      rcases get_set e2 with ⟨rfl, z⟩ | ⟨c2, e2⟩
      · rw [List.getElem?_set_self (by rw [h.len]; exact hi)] at e4
        cases e4
        exact hn a _ e1 e3
      · rw [List.getElem?_set_ne c2] at e4
        exact h.sep a b q xs ys hab e1 e2 e3 e4
/-- what stands at a slot that is a list of its own -/
theorem EnvOk.own (h : EnvOk K H0 Z0 Z H σ env) (e : env[i]? = some (.own ds)) : ∃ p vs, σ[i]? = some (some (.ref p)) ∧ H p = some (.lst vs) ∧ Z p = none ∧ H0 p = none ∧ DpAll K Z vs ds := by
  obtain ⟨o, h1, p, vs, rfl, h2⟩ := h.at_ i _ e
  exact ⟨p, vs, h1, h2⟩
/-- .. which is changed -/
theorem EnvOk.mut (h : EnvOk K H0 Z0 Z H σ env) (e : env[i]? = some (.own ds)) (hp : σ[i]? = some (some (.ref p))) (hd : DpAll K Z vs es) : EnvOk K H0 Z0 Z (upd H p (.lst vs)) σ (env.set i (.own es)) := by
  obtain ⟨p', ws, h1, h2, h3, h4, h5⟩ := h.own e
  rw [hp] at h1; cases h1
  refine ⟨same_updR h3 h.sz, same_updR h4 h.s0, h.z0, h.no, by rw [List.length_set, h.len], fun j s e' => ?_, fun a b q xs ys hab e1 e2 e3 e4 => ?_⟩
  · rcases get_set e' with ⟨rfl, rfl⟩ | ⟨c, e'⟩
    · exact ⟨_, hp, p, vs, rfl, upd_same, h3, h4, hd⟩
    · obtain ⟨o, k1, k2⟩ := h.at_ j s e'
      refine ⟨o, k1, ?_⟩
      cases s with
      | no => exact True.intro
      | fz d => exact k2
      | own zs =>
        obtain ⟨q, us, rfl, k3, k4⟩ := k2
        have : q ≠ p := fun z => h.sep i j p _ _ c e e' hp (by rw [k1, z])
        exact ⟨q, us, rfl, by rw [upd_ne this]; exact k3, k4⟩
  · have get : ∀ (c : Nat) (xs : List D), (env.set i (.own es))[c]? = some (.own xs) → ∃ ys, env[c]? = some (.own ys) := fun c xs z => by
      rcases get_set z with ⟨rfl, _⟩ | ⟨_, z⟩
      · exact ⟨_, e⟩
      · exact ⟨_, z⟩
    obtain ⟨_, f1⟩ := get a xs e1
    obtain ⟨_, f2⟩ := get b ys e2
    exact h.sep a b q _ _ hab f1 f2 e3 e4
/-- .. which is frozen -/
theorem EnvOk.freeze (h : EnvOk K H0 Z0 Z H σ env) (e : env[i]? = some (.own ds)) : ∃ Z', EnvOk K H0 Z0 Z' H σ (env.set i (.fz (.list ds))) := by
  obtain ⟨p, vs, h1, h2, h3, h4, h5⟩ := h.own e
  have sz : Same Z (upd Z p (.lst vs)) := same_upd h3
  refine ⟨upd Z p (.lst vs), fun b o q => ?_, h.s0, h.z0.trans sz, fun a ha hz => ?_, by rw [List.length_set, h.len], fun j s e' => ?_, fun a b q xs ys hab e1 e2 e3 e4 => ?_⟩
  · by_cases hb : b = p
    · subst hb; rw [upd_same] at q; rw [h2]; exact q
    · rw [upd_ne hb] at q; exact h.sz b o q
  · have : a ≠ p := fun z => ha (z ▸ h4)
    rw [upd_ne this]
    exact h.no a ha hz
  · rcases get_set e' with ⟨rfl, rfl⟩ | ⟨c, e'⟩
    · exact ⟨_, h1, _, rfl, .lst (.of upd_same) (dps_mono sz h5)⟩
    · obtain ⟨o, k1, k2⟩ := h.at_ j s e'
      refine ⟨o, k1, ?_⟩
      cases s with
      | no => exact True.intro
      | fz d => obtain ⟨v, k3, k4⟩ := k2; exact ⟨v, k3, dp_mono sz k4⟩
      | own zs =>
        obtain ⟨q, us, rfl, k3, k4, k5, k6⟩ := k2
        have : q ≠ p := fun z => h.sep i j p _ _ c e e' h1 (by rw [k1, z])
        exact ⟨q, us, rfl, k3, by rw [upd_ne this]; exact k4, k5, dps_mono sz k6⟩
  · rcases get_set e1 with ⟨_, z⟩ | ⟨c1, e1⟩
    · cases z
    · rcases get_set e2 with ⟨_, z⟩ | ⟨c2, e2⟩
      · cases z
      · exact h.sep a b q xs ys hab e1 e2 e3 e4
end
/-! ### statements -/
inductive Out where
  | next (e : Env)
  | ret (r : RV)
  | brk (e : Env)
  | cont (e : Env)
  | exc (c : Str)
  | bad
def RetOk (K : PySem.W.Frag) (H0 Z0 Z' H' : Hp) (v : V) (r : RV) : Prop := Ext Z0 H0 Z' H' ∧ RepV K H0 Z' H' v r
def OutOk (K : PySem.W.Frag) (H0 Z0 : Hp) (E : Ends) : Out → Prop
  | .next env => ∀ Z σ H, EnvOk K H0 Z0 Z H σ env → E.nx σ H
  | .brk env => ∀ Z σ H, EnvOk K H0 Z0 Z H σ env → E.bk σ H
  | .cont env => ∀ Z σ H, EnvOk K H0 Z0 Z H σ env → E.ct σ H
  | .ret r => ∀ Z v H, RetOk K H0 Z0 Z H v r → E.rt v H
  | .exc _ => False
  | .bad => False
def tS (K : PySem.W.Frag) (m : Env → Out) : TS := fun E σ H => ∃ H0 Z0 Z env, EnvOk K H0 Z0 Z H σ env ∧ OutOk K H0 Z0 E (m env)
def sNil : Env → Out := fun env => .next env
def Out.andThen (o : Out) (g : Env → Out) : Out := match o with
  | .next e => g e
  | .ret r => .ret r
  | .brk e => .brk e
  | .cont e => .cont e
  | .exc c => .exc c
  | .bad => .bad
def sSeq (f g : Env → Out) : Env → Out := fun env => (f env).andThen g
theorem OutOk.rebase {K : PySem.W.Frag} {H0 Z0 Z H : Hp} {σ : L2.St} {env : Env} {E : Ends} {o : Out} (h : EnvOk K H0 Z0 Z H σ env) (q : OutOk K H0 Z0 E o) : OutOk K H0 Z E o := by
  cases o with
  | next e => exact fun Z' σ' H' h' => q Z' σ' H' (h.unbase h')
  | brk e => exact fun Z' σ' H' h' => q Z' σ' H' (h.unbase h')
  | cont e => exact fun Z' σ' H' h' => q Z' σ' H' (h.unbase h')
  | ret r => exact fun Z' v H' ⟨h1, h2⟩ => q Z' v H' ⟨⟨h1.hh, h.z0.trans h1.zz, h1.zh, fun a ha hz => h1.no a ha (h.no a ha hz)⟩, h2⟩
  | exc c => exact q
  | bad => exact q
section
variable {X : Cx} {st : Stmt} {rest : List Stmt} {f g : Env → Out} {e : Expr} {pos : Pos} {fe : Env → Res D} {fv : Env → Res RV}
theorem Ss_nil : PSs X [] (tS X.K sNil) := pss_mono pss_nil fun E σ H ⟨H0, Z0, Z, env, hE, q⟩ => q Z σ H hE
theorem Ss_cons (h1 : PS X st (tS X.K f)) (h2 : PSs X rest (tS X.K g)) : PSs X (st :: rest) (tS X.K (sSeq f g)) := pss_mono (pss_cons h1 h2) fun E σ H ⟨H0, Z0, Z, env, hE, q⟩ => by
  refine ⟨H0, Z0, Z, env, hE, ?_⟩
  unfold sSeq at q
  cases hf : f env with
  | next e => rw [hf] at q; exact fun Z' σ' H' h' => ⟨H0, Z0, Z', e, h', q⟩
  | ret r => rw [hf] at q; exact q
  | brk e => rw [hf] at q; exact q
  | cont e => rw [hf] at q; exact q
  | exc c => rw [hf] at q; exact q
  | bad => rw [hf] at q; exact q
theorem Ss_one (h1 : PS X st (tS X.K f)) : PSs X [st] (tS X.K f) := pss_one h1
theorem S_pass : PS X (.Pass pos) (tS X.K sNil) := ps_mono ps_pass fun E σ H ⟨H0, Z0, Z, env, hE, q⟩ => q Z σ H hE
def sBrk : Env → Out := fun env => .brk env
def sCont : Env → Out := fun env => .cont env
theorem S_brk : PS X (.Break pos) (tS X.K sBrk) := ps_mono ps_break fun E σ H ⟨H0, Z0, Z, env, hE, q⟩ => q Z σ H hE
theorem S_cont : PS X (.Continue pos) (tS X.K sCont) := ps_mono ps_continue fun E σ H ⟨H0, Z0, Z, env, hE, q⟩ => q Z σ H hE
/-! freezing ahead of a statement -/
def fz1 (i : Nat) (env : Env) : Env := match env[i]? with
  | some (.own ds) => env.set i (.fz (.list ds))
  | _ => env
def sFz (is : List Nat) (f : Env → Out) : Env → Out := fun env => f (is.foldl (fun e i => fz1 i e) env)
theorem EnvOk.fz1 {K : PySem.W.Frag} {H0 Z0 Z H : Hp} {σ : L2.St} {env : Env} (h : EnvOk K H0 Z0 Z H σ env) (i : Nat) : ∃ Z', EnvOk K H0 Z0 Z' H σ (PV.fz1 i env) := by
  unfold PV.fz1
  split
  · rename_i ds e; exact h.freeze e
  · exact ⟨Z, h⟩
theorem EnvOk.fzs {K : PySem.W.Frag} {H0 Z0 H : Hp} {σ : L2.St} : ∀ (is : List Nat) {Z : Hp} {env : Env}, EnvOk K H0 Z0 Z H σ env → ∃ Z', EnvOk K H0 Z0 Z' H σ (is.foldl (fun e i => PV.fz1 i e) env)
  | [], Z, _, h => ⟨Z, h⟩
  | i :: r, _, _, h => let ⟨_, h1⟩ := h.fz1 i; EnvOk.fzs r h1
theorem S_fz (is : List Nat) (h : PS X st (tS X.K f)) : PS X st (tS X.K (sFz is f)) := ps_mono h fun E σ H ⟨H0, Z0, Z, env, hE, q⟩ =>
  let ⟨Z', h'⟩ := EnvOk.fzs is hE
  ⟨H0, Z0, Z', _, h', q⟩
/-- slots that nobody reads any more -/
def sClr (is : List Nat) : (Env → Out) → Env → Out := fun f env => f (clr is env)
theorem S_clr (is : List Nat) (h : PS X st (tS X.K f)) : PS X st (tS X.K (sClr is f)) := ps_mono h fun E σ H ⟨H0, Z0, Z, env, hE, q⟩ => ⟨H0, Z0, Z, _, hE.clr is, q⟩
/-! expressions as statements, return -/
def Res.out {α : Type} (r : Res α) (k : α → Out) : Out := match r with
  | .ok a => k a
  | .exc c => .exc c
  | .bad => .bad
@[simp] theorem Res.out_ok {α : Type} (a : α) (k : α → Out) : (Res.ok a).out k = k a := Eq.trans rfl rfl
@[simp] theorem Res.out_bad {α : Type} (k : α → Out) : (Res.bad : Res α).out k = .bad := Eq.trans rfl rfl
theorem Res.out_eq {α : Type} {K : PySem.W.Frag} {H0 Z0 : Hp} {E : Ends} {r : Res α} {k : α → Out} (h : OutOk K H0 Z0 E (r.out k)) : ∃ a, r = .ok a ∧ OutOk K H0 Z0 E (k a) := by
  cases r with
  | ok a => exact ⟨a, rfl, h⟩
  | exc c => exact h.elim
  | bad => exact h.elim
def sExpr (f : Env → Res RV) : Env → Out := fun env => (f env).out fun _ => .next env
theorem S_expr (he : PE X e (tV X.K fv)) (hs : swapsWith e none pos.line X.env = pure false := by rfl) : PS X (.Expr e pos) (tS X.K (sExpr fv)) := ps_mono (ps_expr he hs) fun E σ H ⟨H0, Z0, Z, env, hE, q⟩ => by
  obtain ⟨r, h1, h2⟩ := Res.out_eq q
  exact ⟨H0, Z0, Z, env, r, hE, h1, fun v H' Z' e hr => h2 Z' σ H' (hE.ext e)⟩
def sRetV (f : Env → Res RV) : Env → Out := fun env => (f env).out fun r => .ret r
theorem EnvOk.toExt {K : PySem.W.Frag} {H0 Z0 Z H : Hp} {σ : L2.St} {env : Env} (h : EnvOk K H0 Z0 Z H σ env) : Ext Z0 H0 Z H := ⟨h.s0, h.z0, h.sz, h.no⟩
theorem S_retV (he : PE X e (tV X.K fv)) : PS X (.Return (some e) pos) (tS X.K (sRetV fv)) := ps_mono (ps_ret he) fun E σ H ⟨H0, Z0, Z, env, hE, q⟩ => by
  obtain ⟨r, h1, h2⟩ := Res.out_eq q
  exact ⟨H0, Z0, Z, env, r, hE, h1, fun v H' Z' e hr => h2 Z' v H' ⟨hE.toExt.trans e, hr.pre hE.s0⟩⟩
def sRetE (f : Env → Res D) : Env → Out := fun env => (f env).out fun d => .ret ⟨d, false⟩
theorem S_retE (he : PE X e (tE X.K fe)) : PS X (.Return (some e) pos) (tS X.K (sRetE fe)) := ps_mono (ps_ret he) fun E σ H ⟨H0, Z0, Z, env, hE, q⟩ => by
  obtain ⟨r, h1, h2⟩ := Res.out_eq q
  exact ⟨H0, Z0, Z, env, r, hE, h1, fun v H' Z' e hr => h2 Z' v H' ⟨hE.toExt.trans e, hr⟩⟩
def sRetVar (i : Nat) : Env → Out := fun env => match env[i]? with
  | some (.fz d) => .ret ⟨d, false⟩
  | some (.own ds) => .ret ⟨.list ds, true⟩
  | _ => .bad
theorem S_retVar (i : Nat) {x : Str} {p : Pos} (hN : X.N[i]? = some x := by rfl) (hv : Vis X.env.scope x := by first | exact Or.inl rfl | exact Or.inr (Or.inl rfl) | exact Or.inr (Or.inr rfl)) (hd : (x == ("__debug__" : Str)) = false := by decide)
    (hcd : (x == ("__classdict__" : Str)) = false := by decide) : PS X (.Return (some (.Name x p)) pos) (tS X.K (sRetVar i)) := ps_mono (ps_ret (pe_var hN hv hd hcd)) fun E σ H ⟨H0, Z0, Z, env, hE, q⟩ => by
  unfold sRetVar at q
  split at q
  · rename_i d e
    obtain ⟨o, h1, v, rfl, h3⟩ := hE.at_ i _ e
    exact ⟨v, h1, q Z v H ⟨hE.toExt, h3⟩⟩
  · rename_i ds e
    obtain ⟨p, vs, h1, h2, h3, h4, h5⟩ := hE.own e
    exact ⟨_, h1, q Z _ H ⟨hE.toExt, p, vs, ds, rfl, rfl, h4, h3, h2, h5⟩⟩
  · exact q.elim
def sRetN : Env → Out := fun _ => .ret ⟨.none, false⟩
theorem S_retN : PS X (.Return none pos) (tS X.K sRetN) := ps_mono ps_retN fun E σ H ⟨H0, Z0, Z, env, hE, q⟩ => q Z .non H ⟨hE.toExt, .non⟩
/-! if -/
def sIf (c : Env → Res Bool) (f g : Env → Out) : Env → Out := fun env => (c env).out fun b => if b = true then f env else g env
theorem S_if {c : Expr} {a b : List Stmt} {tc : Env → Res Bool} (hc : PT X c (tT X.K tc)) (ha : PSs X a (tS X.K f)) (hb : PSs X b (tS X.K g)) : PS X (.If c a b pos) (tS X.K (sIf tc f g)) := ps_mono (ps_if hc ha hb) fun E σ H ⟨H0, Z0, Z, env, hE, q⟩ => by
  obtain ⟨b, h1, h2⟩ := Res.out_eq q
  refine ⟨H0, Z0, Z, env, b, hE, h1, fun H' Z' e => ?_⟩
  cases b with
  | true => rw [if_pos rfl] at h2 ⊢; exact ⟨H0, Z0, Z', env, hE.ext e, h2⟩
  | false => rw [if_neg Bool.false_ne_true] at h2 ⊢; exact ⟨H0, Z0, Z', env, hE.ext e, h2⟩
/-! targets -/
structure Tg where
  f : D → Env → Res Env
  ix : List Nat
def tG (K : PySem.W.Frag) (g : Tg) : TG := fun v σ H Q => ∃ H0 Z0 Z env d env', EnvOk K H0 Z0 Z H σ env ∧ Dp K Z v d ∧ g.f d env = .ok env' ∧ ∀ σ', EnvOk K H0 Z0 Z H σ' env' → σ'.length = σ.length → (∀ j, j ∉ g.ix → σ'[j]? = σ[j]?) → (∀ (j : Nat) (xs : List D), env'[j]? = some (.own xs) → env[j]? = some (.own xs) ∧ σ'[j]? = σ[j]?) → Q σ' H
def gNm (i : Nat) : Tg := ⟨fun d env => if i < env.length then .ok (env.set i (.fz d)) else .bad, [i]⟩
theorem pg_mono {tg : Expr} {t t' : TG} (h : PG X tg t) (k : ∀ v σ H Q, t' v σ H Q → t v σ H Q) : PG X tg t' := ⟨fun pins s σ H v u Q I r q => h.run pins s σ H v u Q I r (k v σ H Q q)⟩
theorem G_nm (i : Nat) {x : Str} (hN : X.N.Nodup) (hi : X.N[i]? = some x := by rfl) (hx : Loc X.env.scope x := by first | exact Or.inl rfl | exact Or.inr rfl) (hf : X.fn x = true ∨ X.env.scope.names.lookup x = some .local := by first | exact .inl rfl | exact .inr rfl) : PG X (.Name x pos) (tG X.K (gNm i)) :=
  pg_mono (pg_name hN hi hx hf) fun v σ H Q ⟨H0, Z0, Z, env, d, env', hE, hd, hg, q⟩ => by
    obtain ⟨hl, e⟩ := ite_ok hg
    cases e
    exact q _ (hE.setFz hl hd) (List.length_set ..) (fun j hj => List.getElem?_set_ne fun z => hj (by rw [z]; exact List.mem_singleton.mpr rfl)) fun j xs e => by
      rcases get_set e with ⟨_, z⟩ | ⟨c, e⟩
      · cases z
      · exact ⟨e, List.getElem?_set_ne c⟩
structure Tgs where
  f : List D → Env → Res Env
  ix : List Nat
def tGs (K : PySem.W.Frag) (g : Tgs) : TGs := fun vs σ H Q => ∃ H0 Z0 Z env ds env', EnvOk K H0 Z0 Z H σ env ∧ DpAll K Z vs ds ∧ g.f ds env = .ok env' ∧ ∀ σ', EnvOk K H0 Z0 Z H σ' env' → σ'.length = σ.length → (∀ j, j ∉ g.ix → σ'[j]? = σ[j]?) → (∀ (j : Nat) (xs : List D), env'[j]? = some (.own xs) → env[j]? = some (.own xs) ∧ σ'[j]? = σ[j]?) → Q σ' H
theorem pgs_mono {ts : List Expr} {t t' : TGs} (h : PGs X ts t) (k : ∀ v σ H Q, t' v σ H Q → t v σ H Q) : PGs X ts t' := ⟨fun pins s σ H v u Q I r q => h.run pins s σ H v u Q I r (k v σ H Q q)⟩
def gsNil : Tgs := ⟨fun ds env => match ds with | [] => .ok env | _ => .bad, []⟩
def gsCons (g : Tg) (r : Tgs) : Tgs := ⟨fun ds env => match ds with | d :: ds => (g.f d env).bind fun env1 => r.f ds env1 | _ => .bad, g.ix ++ r.ix⟩
theorem Gs_nil : PGs X [] (tGs X.K gsNil) := pgs_mono pgs_nil fun vs σ H Q ⟨H0, Z0, Z, env, ds, env', hE, hd, hg, q⟩ => by
  cases hd with
  | nil => cases hg; exact ⟨rfl, q σ hE rfl (fun _ _ => rfl) fun _ _ e => ⟨e, rfl⟩⟩
  | cons a b => cases hg
theorem Gs_cons {t : Expr} {ts : List Expr} {g : Tg} {r : Tgs} (h1 : PG X t (tG X.K g)) (h2 : PGs X ts (tGs X.K r)) (hs : (assignEach (t :: ts) X.env).map (·.2) = assign t X.env :: (assignEach ts X.env).map (·.2) := by rfl) : PGs X (t :: ts) (tGs X.K (gsCons g r)) :=
  pgs_mono (pgs_cons h1 h2 hs) fun vs σ H Q ⟨H0, Z0, Z, env, ds, env', hE, hd, hg, q⟩ => by
    cases hd with
    | nil => cases hg
    | cons a b =>
      obtain ⟨env1, k1, k2⟩ := Res.bind_eq hg
      exact ⟨_, _, rfl, H0, Z0, Z, env, _, env1, hE, a, k1, fun σ1 hE1 l1 n1 o1 => ⟨H0, Z0, Z, env1, _, env', hE1, b, k2, fun σ2 hE2 l2 n2 o2 => q σ2 hE2 (l2.trans l1) (fun j hj => by
        rw [n2 j (fun z => hj (List.mem_append_right _ z)), n1 j (fun z => hj (List.mem_append_left _ z))]) fun j xs e => let ⟨e1, f1⟩ := o2 j xs e; let ⟨e2, f2⟩ := o1 j xs e1; ⟨e2, f1.trans f2⟩⟩⟩
def gTp (n : Nat) (gs : Tgs) : Tg := ⟨fun d env => match d with | .tuple ds => if ds.length = n then gs.f ds env else .bad | .list ds => if ds.length = n then gs.f ds env else .bad | _ => .bad, gs.ix⟩
theorem G_tp {es : List Expr} {k n : Nat} {gs : Tgs} (hc : X.calm = true) (h : PGs X es (tGs X.K gs)) (hn : (assignEach es X.env).length = n := by rfl) (hst : (assignEach es X.env).findIdx? (·.1) = none := by rfl) : PG X (.Tuple es k pos) (tG X.K (gTp n gs)) :=
  ⟨fun pins s σ H v u Q I r ⟨H0, Z0, Z, env, d, env', hE, hd, hg, q⟩ => by
    cases d with
    | tuple ds =>
      obtain ⟨hl, hg⟩ := ite_ok hg
      cases hd with
      | tup h1 h2 => exact (pg_tup hc h hn hst).run pins s σ H _ u Q I r ⟨_, _, rfl, seqT hE.sz h1, (dps_length h2).trans hl, H0, Z0, Z, env, ds, env', hE, h2, hg, q⟩
    | list ds =>
      obtain ⟨hl, hg⟩ := ite_ok hg
      cases hd with
      | lst h1 h2 => exact (pg_lst hc h hn hst).run pins s σ H _ u Q I r ⟨_, _, rfl, hE.sz.seq h1, (dps_length h2).trans hl, H0, Z0, Z, env, ds, env', hE, h2, hg, q⟩
    | _ => cases hg⟩
/-! assignments -/
def sSetE (g : Tg) (f : Env → Res D) : Env → Out := fun env => (f env).out fun d => (g.f d env).out fun e => .next e
theorem S_asgE {tg : Expr} {g : Tg} (he : PE X e (tE X.K fe)) (hg : PG X tg (tG X.K g)) (hs : swapsWithSole [tg] e pos.line X.env = pure false := by rfl) (hw : swappedStores [tg] e X.env = pure none := by rfl)
    (h1 : (assignEach [tg] X.env).map (·.2) = [assign tg X.env] := by rfl) : PS X (.Assign [tg] e pos) (tS X.K (sSetE g fe)) := ps_mono (ps_asg he hg hs hw h1) fun E σ H ⟨H0, Z0, Z, env, hE, q⟩ => by
  obtain ⟨d, k1, k2⟩ := Res.out_eq q
  obtain ⟨env', k2, k3⟩ := Res.out_eq k2
  exact ⟨H0, Z0, Z, env, d, hE, k1, fun v H' Z' e hd => ⟨H0, Z0, Z', env, d, env', hE.ext e, hd, k2, fun σ' hE' _ _ _ => k3 Z' σ' H' hE'⟩⟩
def sSet (i : Nat) (f : Env → Res D) : Env → Out := fun env => (f env).out fun d => if i < env.length then .next (env.set i (.fz d)) else .bad
theorem S_set (i : Nat) {x : Str} {p : Pos} (he : PE X e (tE X.K fe)) (hN : X.N.Nodup) (hi : X.N[i]? = some x := by rfl) (hx : Loc X.env.scope x := by first | exact Or.inl rfl | exact Or.inr rfl) (hs : swapsWith e (some (.Name x p)) pos.line X.env = pure false := by rfl) (hf : X.fn x = true ∨ X.env.scope.names.lookup x = some .local := by first | exact .inl rfl | exact .inr rfl) :
    PS X (.Assign [.Name x p] e pos) (tS X.K (sSet i fe)) := ps_mono (ps_set hN hi hx he hs hf) fun E σ H ⟨H0, Z0, Z, env, hE, q⟩ => by
  obtain ⟨d, k1, k2⟩ := Res.out_eq q
  refine ⟨H0, Z0, Z, env, d, hE, k1, fun v H' Z' e hd => ?_⟩
  by_cases hl : i < env.length
  · rw [if_pos hl] at k2; exact k2 Z' _ H' ((hE.ext e).setFz hl hd)
  · rw [if_neg hl] at k2; exact k2.elim
def slOf (r : RV) : Sl := match r with
  | ⟨.list ds, true⟩ => .own ds
  | ⟨d, _⟩ => .fz d
def sSetV (i : Nat) (f : Env → Res RV) : Env → Out := fun env => (f env).out fun r => if i < env.length then .next (env.set i (slOf r)) else .bad
theorem EnvOk.setV {K : PySem.W.Frag} {H0 Z0 Z H Z' H' : Hp} {σ : L2.St} {env : Env} {i : Nat} {v : V} {r : RV} (h : EnvOk K H0 Z0 Z H σ env) (hi : i < env.length) (e : Ext Z H Z' H') (hr : RepV K H Z' H' v r) : ∃ Z2, EnvOk K H0 Z0 Z2 H' (σ.set i (some v)) (env.set i (slOf r)) := by
  obtain ⟨d, fr⟩ := r
  cases fr with
  | true =>
    obtain ⟨p, vs, ds, rfl, e1, h1, h2, h3, h4⟩ := hr
    have e1 : d = .list ds := e1
    subst e1
    refine ⟨Z', (h.ext e).setOwn hi h3 h2 (h.s0.free h1) h4 fun j xs k1 k2 => ?_⟩
    obtain ⟨q, us, k3, k4, _⟩ := h.own k1
    rw [k3] at k2
    cases k2
    rw [h1] at k4; cases k4
  | false =>
    have hr : Dp K Z' v d := hr
    have : slOf ⟨d, false⟩ = .fz d := by cases d <;> rfl
    rw [this]
    exact ⟨Z', (h.ext e).setFz hi hr⟩
theorem S_setV (i : Nat) {x : Str} {p : Pos} (he : PE X e (tV X.K fv)) (hN : X.N.Nodup) (hi : X.N[i]? = some x := by rfl) (hx : Loc X.env.scope x := by first | exact Or.inl rfl | exact Or.inr rfl) (hs : swapsWith e (some (.Name x p)) pos.line X.env = pure false := by rfl) (hf : X.fn x = true ∨ X.env.scope.names.lookup x = some .local := by first | exact .inl rfl | exact .inr rfl) :
    PS X (.Assign [.Name x p] e pos) (tS X.K (sSetV i fv)) := ps_mono (ps_set hN hi hx he hs hf) fun E σ H ⟨H0, Z0, Z, env, hE, q⟩ => by
  obtain ⟨r, k1, k2⟩ := Res.out_eq q
  refine ⟨H0, Z0, Z, env, r, hE, k1, fun v H' Z' e hr => ?_⟩
  by_cases hl : i < env.length
  · rw [if_pos hl] at k2
    obtain ⟨Z2, h2⟩ := hE.setV hl e hr
    exact k2 Z2 _ H' h2
  · rw [if_neg hl] at k2; exact k2.elim
/-- a, b = x, y -/
def sPar (i j : Nat) (fs : Env → Res (List D)) : Env → Out := fun env => (fs env).out fun ds => match ds with
  | [d, d'] => if i < env.length ∧ j < env.length then .next ((env.set i (.fz d)).set j (.fz d')) else .bad
  | _ => .bad
theorem S_par (i j : Nat) {x y : Str} {a b : Expr} {fs : Env → Res (List D)} {px py pt : Pos} {kt k2 pt2} (hc : X.calm = true) (hN : X.N.Nodup) (ha : PA X [a, b] (tA X.K fs)) (hi : X.N[i]? = some x := by rfl) (hj : X.N[j]? = some y := by rfl) (hij : i ≠ j := by decide)
    (hx : X.env.scope.names.lookup x = some .local := by rfl) (hy : X.env.scope.names.lookup y = some .local := by rfl)
    (hw : swappedStores [.Tuple [.Name x px, .Name y py] kt pt] (.Tuple [a, b] k2 pt2) X.env = pure (some [x, y]) := by rfl)
    (hs : swapsWithSole [.Tuple [.Name x px, .Name y py] kt pt] (.Tuple [a, b] k2 pt2) pos.line X.env = pure false := by rfl) :
    PS X (.Assign [.Tuple [.Name x px, .Name y py] kt pt] (.Tuple [a, b] k2 pt2) pos) (tS X.K (sPar i j fs)) := ps_mono (ps_par hc hN hi hj hij hx hy ha hw hs) fun E σ H ⟨H0, Z0, Z, env, hE, q⟩ => by
  obtain ⟨ds, k1, k2⟩ := Res.out_eq q
  refine ⟨H0, Z0, Z, env, ds, hE, k1, fun vs H' Z' e hd => ?_⟩
  cases hd with
  | nil => exact k2.elim
  | cons h1 hd =>
    cases hd with
    | nil => exact k2.elim
    | cons h2 hd =>
      cases hd with
      | cons _ _ => exact k2.elim
      | nil =>
        by_cases hl : i < env.length ∧ j < env.length
        · have k2 : OutOk X.K H0 Z0 E (if i < env.length ∧ j < env.length then .next ((env.set i (.fz _)).set j (.fz _)) else .bad) := k2
          rw [if_pos hl] at k2
          exact ⟨_, _, rfl, k2 Z' _ H' (((hE.ext e).setFz hl.1 h1).setFz (by rw [List.length_set]; exact hl.2) h2)⟩
        · have k2 : OutOk X.K H0 Z0 E (if i < env.length ∧ j < env.length then .next ((env.set i (.fz _)).set j (.fz _)) else .bad) := k2
          rw [if_neg hl] at k2
          exact k2.elim
/-- x op= e, two ints -/
def sAug (i : Nat) (g : D → D → Res D) (f : Env → Res D) : Env → Out := fun env => (eVar i env).out fun x => (f env).out fun y => (g x y).out fun d => .next (env.set i (.fz d))
theorem S_aug (i : Nat) {x : Str} {op : Operator} {p : Pos} {h : Int → Int → Int} (ho : PIp X op (ipI h)) (hN : X.N.Nodup) (he : PE X e (tE X.K fe)) (hi : X.N[i]? = some x := by rfl) (hx : Loc X.env.scope x := by first | exact Or.inl rfl | exact Or.inr rfl) (hf : X.fn x = true ∨ X.env.scope.names.lookup x = some .local := by first | exact .inl rfl | exact .inr rfl) :
    PS X (.AugAssign (.Name x p) op e pos) (tS X.K (sAug i (gInt cTrue fun i j => .int (h i j)) fe)) := ps_mono (ps_aug hN hi hx he ho hf) fun E σ H ⟨H0, Z0, Z, env, hE, q⟩ => by
  obtain ⟨d, k1, k2⟩ := Res.out_eq q
  obtain ⟨d', k3, k4⟩ := Res.out_eq k2
  obtain ⟨r, k5, k6⟩ := Res.out_eq k4
  have e0 := eVar_eq k1
  obtain ⟨o, h1, v, rfl, h3⟩ := hE.at_ i _ e0
  have hl : i < env.length := (List.getElem?_eq_some_iff.mp e0).1
  unfold gInt at k5
  split at k5
  · obtain ⟨_, k5⟩ := ite_ok k5
    cases k5
    cases h3
    refine ⟨_, h1, H0, Z0, Z, env, _, hE, k3, fun w H' Z' e hd => ?_⟩
    cases hd
    exact ⟨_, _, rfl, rfl, k6 Z' _ H' ((hE.ext e).setFz hl (.int _))⟩
  · cases k5
/-- x[k] = e -/
def sSetIx (i : Nat) (fi fe : Env → Res D) : Env → Out := fun env => (fe env).out fun d => (fi env).out fun k => match env[i]?, k with
  | some (.own ds), .int z => match ixN ds.length z with
    | some j => .next (env.set i (.own (ds.set j d)))
    | none => .bad
  | _, _ => .bad
theorem S_setIx (i : Nat) {x : Str} {b : Expr} {p p2 : Pos} {fi : Env → Res D} (he : PE X e (tE X.K fe)) (hb : PE X b (tE X.K fi)) (hN : X.N[i]? = some x := by rfl) (hv : Vis X.env.scope x := by first | exact Or.inl rfl | exact Or.inr (Or.inl rfl) | exact Or.inr (Or.inr rfl)) (hd : (x == ("__debug__" : Str)) = false := by decide)
    (hcd : (x == ("__classdict__" : Str)) = false := by decide) (hs : swapsWithSole [.Subscript (.Name x p) b p2] e pos.line X.env = pure false := by rfl) (hw : swappedStores [.Subscript (.Name x p) b p2] e X.env = pure none := by rfl)
    (h1 : (assignEach [.Subscript (.Name x p) b p2] X.env).map (·.2) = [assign (.Subscript (.Name x p) b p2) X.env] := by rfl)
    (ha : ∀ v, assign (.Subscript (.Name x p) b p2) X.env v = (do
      let ov ← holding [v] (eval (.Name x p) X.env)
      let iv ← holding [v, ov] (eval b X.env)
      standAt p2
      holding [v, ov, iv] (setItem ov iv v)
      release [v, ov, iv] []) := by intro _; rfl) : PS X (.Assign [.Subscript (.Name x p) b p2] e pos) (tS X.K (sSetIx i fi fe)) :=
  ps_mono (ps_asg he (pg_sub (pe_var hN hv hd hcd) hb set_list ha) hs hw h1) fun E σ H ⟨H0, Z0, Z, env, hE, q⟩ => by
    obtain ⟨d, k1, k2⟩ := Res.out_eq q
    obtain ⟨k, k3, k4⟩ := Res.out_eq k2
    refine ⟨H0, Z0, Z, env, d, hE, k1, fun v H1 Z1 e1 hd => ?_⟩
    split at k4
    · rename_i ds z e0
      split at k4
      · rename_i j hj
        have hE1 := hE.ext e1
        obtain ⟨p, vs, g1, g2, g3, g4, g5⟩ := hE1.own e0
        refine ⟨_, g1, H0, Z0, Z1, env, _, hE1, k3, fun iv H2 Z2 e2 hi => ?_⟩
        cases hi
        have hE2 := hE1.ext e2
        obtain ⟨p', vs', f1, f2, f3, f4, f5⟩ := hE2.own e0
        rw [g1] at f1; cases f1
        have l := dps_length f5
        refine ⟨p, vs', z, j, rfl, rfl, f2, by rw [l]; exact hj, k4 Z2 σ _ (hE2.mut e0 g1 (dps_set j f5 (dp_mono e2.zz hd)))⟩
      · exact k4.elim
    · exact k4.elim
/-- x.append(e) -/
def sApp (i : Nat) (fe : Env → Res D) : Env → Out := fun env => (fe env).out fun d => match env[i]? with
  | some (.own ds) => if ds.length < 1000000 then .next (env.set i (.own (ds ++ [d]))) else .bad
  | _ => .bad
theorem S_app (i : Nat) {x : Str} {p apos cpos : Pos} (he : PE X e (tE X.K fe)) (hN : X.N[i]? = some x := by rfl) (hv : Vis X.env.scope x := by first | exact Or.inl rfl | exact Or.inr (Or.inl rfl) | exact Or.inr (Or.inr rfl)) (hd : (x == ("__debug__" : Str)) = false := by decide)
    (hcd : (x == ("__classdict__" : Str)) = false := by decide)
    (hbase : attributeBase (.Name x p) "append" X.env (eval (.Name x p) X.env) = eval (.Name x p) X.env := by rfl)
    (hfew : ((backTo cpos (starEach [e] X.env)).all (fun x => !x.1) && (backToKw cpos (keywordEach [] X.env)).all (fun x => x.1.isSome)
      && decide ([e].length + ([] : List Keyword).length + (if ([] : List Keyword).isEmpty then 0 else 1) < 30)) = true := by rfl)
    (hline : (apos.endLine == cpos.line) = true := by rfl) (hs : starEach [e] X.env = (false, eval e X.env) :: starEach [] X.env := by rfl) (hplain : (backTo cpos (starEach [] X.env)).any (·.1) = false := by rfl)
    (hs2 : swapsWith (.Call (.Attribute (.Name x p) "append" apos) [e] [] cpos) none pos.line X.env = pure false := by rfl) :
    PS X (.Expr (.Call (.Attribute (.Name x p) "append" apos) [e] [] cpos) pos) (tS X.K (sApp i fe)) :=
  ps_mono (ps_expr (pe_bm PySem.F.plainAttrs_list PySem.F.slot_list_append PySem.F.type_list_append mt_append (pe_var hN hv hd hcd) (pa_cons he pa_nil hs) hbase hfew hline hs hplain) hs2) fun E σ H ⟨H0, Z0, Z, env, hE, q⟩ => by
    obtain ⟨d, k1, k2⟩ := Res.out_eq q
    split at k2
    · rename_i ds e0
      by_cases hl : ds.length < 1000000
      · rw [if_pos hl] at k2
        obtain ⟨p, vs, g1, g2, g3, g4, g5⟩ := hE.own e0
        refine ⟨_, g1, .inl ⟨rfl, vs, .of g2⟩, H0, Z0, Z, env, d, hE, k1, fun v H1 Z1 e1 hd => ?_⟩
        have hE1 := hE.ext e1
        obtain ⟨p', vs', f1, f2, f3, f4, f5⟩ := hE1.own e0
        rw [g1] at f1; cases f1
        exact ⟨p, vs', v, rfl, rfl, f2, by rw [dps_length f5]; exact lim_ok hl, k2 Z1 σ _ (hE1.mut e0 g1 (dps_append f5 (.cons hd .nil)))⟩
      · rw [if_neg hl] at k2; exact k2.elim
    · exact k2.elim
end
end PV

set_option Elab.async false
set_option linter.all false
set_option maxRecDepth 100000
namespace PV
open PySem PySem.Spec L2
set_option autoImplicit false
/-! ### what a loop walks -/
/-- the iterator yields ds, as long as Hs (a part of the heap) and Z stand -/
def ItOk (K : PySem.W.Frag) (Z Hs : Hp) (J : It) (ds : List D) : Prop := ∀ (i : Nat) (Z1 H : Hp), Same Z Z1 → Same Z1 H → Same Hs H →
  (ds.length ≤ i → J.stop i H) ∧ (i < ds.length → J.go i H) ∧ ∀ d x H', ds[i]? = some d → J.yld i H x H' → ∃ Z2, Ext Z1 H Z2 H' ∧ Dp K Z2 x d
/-- frozen (Z alone), or as the heap stands -/
def tI (K : PySem.W.Frag) (f : Env → Res (List D)) : TI := fun σ H R => ∃ H0 Z0 Z env ds, EnvOk K H0 Z0 Z H σ env ∧ f env = .ok ds ∧ ∀ J H' Z', Ext Z H Z' H' → ItOk K Z' Z' J ds → R J H'
def tIp (K : PySem.W.Frag) (f : Env → Res (List D)) : TI := fun σ H R => ∃ H0 Z0 Z env ds, EnvOk K H0 Z0 Z H σ env ∧ f env = .ok ds ∧ ∀ J H' Z', Ext Z H Z' H' → ItOk K Z' H' J ds → R J H'
def seqD : D → Res (List D)
  | .list xs => .ok xs
  | .tuple xs => .ok xs
  | _ => .bad
def iSeq (f : Env → Res D) : Env → Res (List D) := fun env => (f env).bind seqD
section
variable {X : Cx} {tg it e : Expr} {K : PySem.W.Frag} {Z Hs H : Hp} {a b : Addr} {vs ws : List V} {ds es : List D} {f g : Env → Res D} {fs : Env → Res (List D)}
theorem pi_mono {w w' : TI} (h : PI X tg it w) (k : ∀ σ H R, w' σ H R → w σ H R) : PI X tg it w' := ⟨fun pins s σ H R I q => h.run pins s σ H R I (k σ H R q)⟩
theorem pi_or {w w' : TI} (h : PI X tg it w) (h' : PI X tg it w') : PI X tg it (fun σ H R => w σ H R ∨ w' σ H R) := ⟨fun pins s σ H R I q => q.elim (h.run pins s σ H R I) (h'.run pins s σ H R I)⟩
theorem sq_get {i : Nat} {d : D} (h : DpAll K Z vs ds) (e : ds[i]? = some d) : ∃ v, vs[i]? = some v ∧ Dp K Z v d := dps_get h e
theorem it_list (h : SqL K Hs a vs) (hd : DpAll K Z vs ds) : ItOk K Z Hs (Itl K a) ds := fun i Z1 H s1 s2 s3 => by
  have hH := s3.seq h
  have l := dps_length hd
  refine ⟨fun hi => ⟨vs, hH, by omega⟩, fun hi => ⟨vs, vs[i]'(by omega), hH, List.getElem?_eq_getElem (by omega)⟩, fun d x H' e y => ?_⟩
  obtain ⟨rfl, y⟩ := y
  obtain ⟨v, h1, h2⟩ := dps_get hd e
  rw [y vs hH] at h1; cases h1
  exact ⟨Z1, .refl s2, dp_mono s1 h2⟩
theorem it_tup (h : SqT K Hs a vs) (hd : DpAll K Z vs ds) : ItOk K Z Hs (Itt K a) ds := fun i Z1 H s1 s2 s3 => by
  have hH := seqT s3 h
  have l := dps_length hd
  refine ⟨fun hi => ⟨vs, hH, by omega⟩, fun hi => ⟨vs, vs[i]'(by omega), hH, List.getElem?_eq_getElem (by omega)⟩, fun d x H' e y => ?_⟩
  obtain ⟨rfl, y⟩ := y
  obtain ⟨v, h1, h2⟩ := dps_get hd e
  rw [y vs hH] at h1; cases h1
  exact ⟨Z1, .refl s2, dp_mono s1 h2⟩
theorem I_seq (h : PE X e (tE X.K f)) : PI X tg e (tI X.K (iSeq f)) := pi_mono (pi_or (pi_list h) (pi_tup h)) fun σ H R ⟨H0, Z0, Z, env, ds, hE, hf, q⟩ => by
  obtain ⟨d, h1, h2⟩ := Res.bind_eq hf
  unfold seqD at h2
  split at h2
  · cases h2
    refine .inl ⟨H0, Z0, Z, env, _, hE, h1, fun v H' Z' e hd => ?_⟩
    cases hd with
    | lst k1 k2 => exact ⟨_, rfl, ⟨_, e.zh.seq k1⟩, q _ H' Z' e (it_list k1 k2)⟩
  · cases h2
    refine .inr ⟨H0, Z0, Z, env, _, hE, h1, fun v H' Z' e hd => ?_⟩
    cases hd with
    | tup k1 k2 => exact ⟨_, rfl, ⟨_, seqT e.zh k1⟩, q _ H' Z' e (it_tup k1 k2)⟩
  · cases h2
theorem Ip_seq (h : PE X e (tP X.K f)) : PI X tg e (tIp X.K (iSeq f)) := pi_mono (pi_or (pi_list h) (pi_tup h)) fun σ H R ⟨H0, Z0, Z, env, ds, hE, hf, q⟩ => by
  obtain ⟨d, h1, h2⟩ := Res.bind_eq hf
  unfold seqD at h2
  split at h2
  · cases h2
    refine .inl ⟨H0, Z0, Z, env, _, hE, h1, fun v H' Z' e hd => ?_⟩
    obtain ⟨p, vs, rfl, k1, k2⟩ := hd.list e.zh
    exact ⟨_, rfl, ⟨_, k1⟩, q _ H' Z' e (it_list k1 k2)⟩
  · cases h2
    refine .inr ⟨H0, Z0, Z, env, _, hE, h1, fun v H' Z' e hd => ?_⟩
    obtain ⟨p, vs, rfl, k1, k2⟩ := hd.tup e.zh
    exact ⟨_, rfl, ⟨_, k1⟩, q _ H' Z' e (it_tup k1 k2)⟩
  · cases h2
theorem Ip_of (h : PI X tg it (tI X.K fs)) : PI X tg it (tIp X.K fs) := pi_mono h fun σ H R ⟨H0, Z0, Z, env, ds, hE, hf, q⟩ => ⟨H0, Z0, Z, env, ds, hE, hf, fun J H' Z' e hJ => q J H' Z' e fun i Z1 H1 s1 s2 s3 => hJ i Z1 H1 s1 s2 (s1.trans s2)⟩
/-! range -/
def rangeD (lo : Int) (n : Nat) : List D := (List.range n).map fun (k : Nat) => .int (lo + (k : Int))
theorem rangeD_get {lo : Int} {n i : Nat} {d : D} (h : (rangeD lo n)[i]? = some d) : i < n ∧ d = .int (lo + (i : Int)) := by
  unfold rangeD at h
  rw [List.getElem?_map] at h
  by_cases hi : i < n
  · rw [List.getElem?_range hi] at h
    cases h
    exact ⟨hi, rfl⟩
  · rw [List.getElem?_eq_none (by simp; omega)] at h
    cases h
theorem rangeD_length {lo : Int} {n : Nat} : (rangeD lo n).length = n := by unfold rangeD; simp
theorem it_range {lo : Int} {n : Nat} : ItOk K Z Hs (Itr lo n) (rangeD lo n) := fun i Z1 H s1 s2 s3 => by
  refine ⟨fun hi => by rw [rangeD_length] at hi; exact hi, fun hi => by rw [rangeD_length] at hi; exact hi, fun d x H' e y => ?_⟩
  obtain ⟨rfl, rfl⟩ := y
  obtain ⟨_, rfl⟩ := rangeD_get e
  exact ⟨Z1, .refl s2, .int _⟩
def smallI (i : Int) : Bool := Nat.ble i.natAbs 1000000000000
theorem smallI_ok {i : Int} (h : smallI i = true) : -(2 ^ 62) ≤ i ∧ i < 2 ^ 62 := by
  unfold smallI at h
  have := Nat.le_of_ble_eq_true h
  omega
def iRange1 (f : Env → Res D) : Env → Res (List D) := fun env => (f env).bind fun d => match d with
  | .int j => if smallI j = true then .ok (rangeD 0 j.toNat) else .bad
  | _ => .bad
def iRange2 (f g : Env → Res D) : Env → Res (List D) := fun env => (f env).bind fun d => (g env).bind fun e => match d, e with
  | .int i, .int j => if smallI i = true ∧ smallI j = true then .ok (rangeD i (j - i).toNat) else .bad
  | _, _ => .bad
theorem I_range1 {p pos : Pos} (hm : X.mg "range" = none) (ha : PE X e (tP X.K f)) (hg : Gl X "range" := by rfl) (hs : starEach [e] X.env = [(false, eval e X.env)] := by rfl) : PI X tg (.Call (.Name "range" p) [e] [] pos) (tI X.K (iRange1 f)) := pi_mono (pi_range1 hg hm (pa_cons ha pa_nil hs) hs) fun σ H R ⟨H0, Z0, Z, env, ds, hE, hf, q⟩ => by
  obtain ⟨d, h1, h2⟩ := Res.bind_eq hf
  refine ⟨H0, Z0, Z, env, d, hE, h1, fun v H' Z' e hd => ?_⟩
  split at h2
  · obtain ⟨hc, h2⟩ := ite_ok h2
    cases h2
    have := hd.int; subst this
    exact ⟨_, rfl, (smallI_ok hc).1, (smallI_ok hc).2, q _ H' Z' e it_range⟩
  · cases h2
theorem I_range2 {p pos : Pos} {e2 : Expr} (hm : X.mg "range" = none) (ha : PE X e (tP X.K f)) (hb : PE X e2 (tP X.K g)) (hg : Gl X "range" := by rfl) (hs : starEach [e, e2] X.env = [(false, eval e X.env), (false, eval e2 X.env)] := by rfl) (hs2 : starEach [e2] X.env = [(false, eval e2 X.env)] := by rfl) :
    PI X tg (.Call (.Name "range" p) [e, e2] [] pos) (tI X.K (iRange2 f g)) := pi_mono (pi_range2 hg hm (pa_cons ha (pa_cons hb pa_nil hs2) (by rw [hs, hs2])) hs hs2) fun σ H R ⟨H0, Z0, Z, env, ds, hE, hf, q⟩ => by
  obtain ⟨d, h1, h2⟩ := Res.bind_eq hf
  obtain ⟨d2, h3, h4⟩ := Res.bind_eq h2
  refine ⟨H0, Z0, Z, env, d, hE, h1, fun v H1 Z1 e1 hd => ⟨H0, Z0, Z1, env, d2, hE.ext e1, h3, fun w H' Z' e2 hd2 => ?_⟩⟩
  split at h4
  · obtain ⟨hc, h4⟩ := ite_ok h4
    cases h4
    have := hd.int; subst this
    have := hd2.int; subst this
    exact ⟨_, _, rfl, ⟨(smallI_ok hc.1).1, (smallI_ok hc.1).2, (smallI_ok hc.2).1, (smallI_ok hc.2).2⟩, q _ H' Z' (e1.trans e2) it_range⟩
  · cases h4
/-! range(a, b, -1) -/
def rangeDn (lo : Int) (n : Nat) : List D := (List.range n).map fun (k : Nat) => .int (lo + (k : Int) * (-1))
theorem rangeDn_get {lo : Int} {n i : Nat} {d : D} (h : (rangeDn lo n)[i]? = some d) : i < n ∧ d = .int (lo + (i : Int) * (-1)) := by
  unfold rangeDn at h
  rw [List.getElem?_map] at h
  by_cases hi : i < n
  · rw [List.getElem?_range hi] at h
    cases h
    exact ⟨hi, rfl⟩
  · rw [List.getElem?_eq_none (by simp; omega)] at h
    cases h
theorem it_rangeDn {lo : Int} {n : Nat} : ItOk K Z Hs (Itc lo (-1) n) (rangeDn lo n) := fun i Z1 H s1 s2 s3 => by
  have hl : (rangeDn lo n).length = n := by unfold rangeDn; simp
  refine ⟨fun hi => by rw [hl] at hi; exact hi, fun hi => by rw [hl] at hi; exact hi, fun d x H' e y => ?_⟩
  obtain ⟨rfl, rfl⟩ := y
  obtain ⟨_, rfl⟩ := rangeDn_get e
  exact ⟨Z1, .refl s2, .int _⟩
def iRangeR (f : Env → Res D) : Env → Res (List D) := fun env => (f env).bind fun d => match d with
  | .int j => if smallI j = true then .ok (rangeDn (0 + ((j - 0).toNat : Int) - 1) (j - 0).toNat) else .bad
  | _ => .bad
theorem I_revRange {p p2 pos pos2 : Pos} (hm : X.mg "range" = none) (hr : X.mg "reversed" = none) (ha : PE X e (tP X.K f)) (hg : Gl X "range" := by rfl) (hg2 : Gl X "reversed" := by rfl) (na : starEach [e] X.env = (false, eval e X.env) :: starEach [] X.env := by rfl)
    (nb : starEach [.Call (.Name "range" p) [e] [] pos] X.env = (false, eval (.Call (.Name "range" p) [e] [] pos) X.env) :: starEach [] X.env := by rfl) :
    PI X tg (.Call (.Name "reversed" p2) [.Call (.Name "range" p) [e] [] pos] [] pos2) (tI X.K (iRangeR f)) := pi_mono (pi_revR hg2 hr (prg_1 hg hm ha na) nb) fun σ H R ⟨H0, Z0, Z, env, ds, hE, hf, q⟩ => by
  obtain ⟨d, h1, h2⟩ := Res.bind_eq hf
  refine ⟨H0, Z0, Z, env, d, hE, h1, fun v H' Z' e hd => ?_⟩
  split at h2
  · obtain ⟨hc, h2⟩ := ite_ok h2
    cases h2
    have := hd.int; subst this
    exact ⟨_, rfl, by decide, by decide, (smallI_ok hc).1, (smallI_ok hc).2, q _ H' Z' e it_rangeDn⟩
  · cases h2
/-! enumerate, zip, reversed -/
def enumD (ds : List D) : List D := ds.zipIdx.map fun p => .tuple [.int (p.2 : Int), p.1]
theorem enumD_get {ds : List D} {i : Nat} {d : D} (h : (enumD ds)[i]? = some d) : ∃ e, ds[i]? = some e ∧ d = .tuple [.int (i : Int), e] := by
  unfold enumD at h
  rw [List.getElem?_map, List.getElem?_zipIdx] at h
  cases hd : ds[i]? with
  | none => rw [hd] at h; cases h
  | some e =>
    rw [hd] at h
    refine ⟨e, rfl, ?_⟩
    have h' : PyData.tuple [.int ((0 + i : Nat) : Int), e] = d := Option.some.inj h
    rw [Nat.zero_add] at h'
    exact h'.symm
theorem enumD_length {ds : List D} : (enumD ds).length = ds.length := by unfold enumD; simp
theorem it_enum (h : SqL K Hs a vs) (hd : DpAll K Z vs ds) : ItOk K Z Hs (Ite K a) (enumD ds) := fun i Z1 H s1 s2 s3 => by
  have hH := s3.seq h
  have l := dps_length hd
  rw [enumD_length]
  refine ⟨fun hi => ⟨vs, hH, by omega⟩, fun hi => ⟨vs, vs[i]'(by omega), hH, List.getElem?_eq_getElem (by omega)⟩, fun d x H' e y => ?_⟩
  obtain ⟨T, x', rfl, nT, rfl, y⟩ := y
  obtain ⟨e', g1, rfl⟩ := enumD_get e
  obtain ⟨v, h1, h2⟩ := dps_get hd g1
  rw [y vs hH] at h1; cases h1
  exact ⟨_, .new s2 nT, .tup (.of upd_same) (.cons (.int _) (.cons (dp_mono (s1.trans (same_upd (s2.free nT))) h2) .nil))⟩
def listD : D → Res (List D)
  | .list xs => .ok xs
  | _ => .bad
def iEnumD (f : Env → Res D) : Env → Res (List D) := fun env => ((f env).bind listD).bind fun ds => .ok (enumD ds)
def iRevD (f : Env → Res D) : Env → Res (List D) := fun env => ((f env).bind listD).bind fun ds => .ok ds.reverse
theorem listD_eq {d : D} {ds : List D} (h : listD d = .ok ds) : d = .list ds := by
  unfold listD at h
  split at h
  · cases h; rfl
  · cases h
variable {elts : List Expr} {kk : Nat} {tpos p pos : Pos}
theorem Ip_enum (hm : X.mg "enumerate" = none) (ha : PE X e (tP X.K f)) (hg : Gl X "enumerate" := by rfl) (hs : starEach [e] X.env = [(false, eval e X.env)] := by rfl) : PI X (.Tuple elts kk tpos) (.Call (.Name "enumerate" p) [e] [] pos) (tIp X.K (iEnumD f)) := pi_mono (pi_enum hg hm (pa_cons ha pa_nil hs) hs) fun σ H R ⟨H0, Z0, Z, env, ds, hE, hf, q⟩ => by
  obtain ⟨es, h1, h2⟩ := Res.bind_eq hf
  obtain ⟨d, h0, h1⟩ := Res.bind_eq h1
  have := listD_eq h1; subst this
  cases h2
  refine ⟨H0, Z0, Z, env, _, hE, h0, fun v H' Z' e hd => ?_⟩
  obtain ⟨p, vs, rfl, k1, k2⟩ := hd.list e.zh
  exact ⟨p, vs, rfl, k1, q _ H' Z' e (it_enum k1 k2)⟩
theorem I_enum (hm : X.mg "enumerate" = none) (ha : PE X e (tE X.K f)) (hg : Gl X "enumerate" := by rfl) (hs : starEach [e] X.env = [(false, eval e X.env)] := by rfl) : PI X (.Tuple elts kk tpos) (.Call (.Name "enumerate" p) [e] [] pos) (tI X.K (iEnumD f)) := pi_mono (pi_enum hg hm (pa_cons ha pa_nil hs) hs) fun σ H R ⟨H0, Z0, Z, env, ds, hE, hf, q⟩ => by
  obtain ⟨es, h1, h2⟩ := Res.bind_eq hf
  obtain ⟨d, h0, h1⟩ := Res.bind_eq h1
  have := listD_eq h1; subst this
  cases h2
  refine ⟨H0, Z0, Z, env, _, hE, h0, fun v H' Z' e hd => ?_⟩
  cases hd with
  | lst k1 k2 => exact ⟨_, _, rfl, e.zh.seq k1, q _ H' Z' e (it_enum k1 k2)⟩
theorem it_rev (h : SqL K Hs a vs) (hd : DpAll K Z vs ds) : ItOk K Z Hs (Itv K a vs.length) ds.reverse := fun i Z1 H s1 s2 s3 => by
  have hH := s3.seq h
  have l := dps_length hd
  rw [List.length_reverse]
  refine ⟨fun hi => by show vs.length ≤ i; omega, fun hi => ⟨by omega, vs, vs[vs.length - 1 - i]'(by omega), hH, List.getElem?_eq_getElem (by omega)⟩, fun d x H' e y => ?_⟩
  obtain ⟨rfl, y⟩ := y
  have hi : i < ds.length := by
    have := (List.getElem?_eq_some_iff.mp e).1
    rw [List.length_reverse] at this
    exact this
  rw [List.getElem?_reverse hi] at e
  obtain ⟨v, h1, h2⟩ := dps_get hd e
  rw [← l, y vs hH] at h1; cases h1
  exact ⟨Z1, .refl s2, dp_mono s1 h2⟩
theorem I_rev (hm : X.mg "reversed" = none) (ha : PE X e (tE X.K f)) (hg : Gl X "reversed" := by rfl) (hs : starEach [e] X.env = [(false, eval e X.env)] := by rfl) : PI X tg (.Call (.Name "reversed" p) [e] [] pos) (tI X.K (iRevD f)) := pi_mono (pi_reversed hg hm (pa_cons ha pa_nil hs) hs) fun σ H R ⟨H0, Z0, Z, env, ds, hE, hf, q⟩ => by
  obtain ⟨es, h1, h2⟩ := Res.bind_eq hf
  obtain ⟨d, h0, h1⟩ := Res.bind_eq h1
  have := listD_eq h1; subst this
  cases h2
  refine ⟨H0, Z0, Z, env, _, hE, h0, fun v H' Z' e hd => ?_⟩
  cases hd with
  | lst k1 k2 => exact ⟨_, _, rfl, e.zh.seq k1, q _ H' Z' e (it_rev k1 k2)⟩
theorem Ip_rev (hm : X.mg "reversed" = none) (ha : PE X e (tP X.K f)) (hg : Gl X "reversed" := by rfl) (hs : starEach [e] X.env = [(false, eval e X.env)] := by rfl) : PI X tg (.Call (.Name "reversed" p) [e] [] pos) (tIp X.K (iRevD f)) := pi_mono (pi_reversed hg hm (pa_cons ha pa_nil hs) hs) fun σ H R ⟨H0, Z0, Z, env, ds, hE, hf, q⟩ => by
  obtain ⟨es, h1, h2⟩ := Res.bind_eq hf
  obtain ⟨d, h0, h1⟩ := Res.bind_eq h1
  have := listD_eq h1; subst this
  cases h2
  refine ⟨H0, Z0, Z, env, _, hE, h0, fun v H' Z' e hd => ?_⟩
  obtain ⟨p, vs, rfl, k1, k2⟩ := hd.list e.zh
  exact ⟨p, vs, rfl, k1, q _ H' Z' e (it_rev k1 k2)⟩
def zipD (xs ys : List D) : List D := (xs.zip ys).map fun p => .tuple [p.1, p.2]
theorem zipD_get {xs ys : List D} {i : Nat} {d : D} (h : (zipD xs ys)[i]? = some d) : ∃ a b, xs[i]? = some a ∧ ys[i]? = some b ∧ d = .tuple [a, b] := by
  unfold zipD at h
  rw [List.getElem?_map, List.zip, List.getElem?_zipWith] at h
  cases ha : xs[i]? with
  | none => rw [ha] at h; cases h
  | some a =>
    cases hb : ys[i]? with
    | none => rw [ha, hb] at h; cases h
    | some b =>
      rw [ha, hb] at h
      exact ⟨a, b, rfl, rfl, (Option.some.inj h).symm⟩
theorem zipD_length {xs ys : List D} : (zipD xs ys).length = min xs.length ys.length := by unfold zipD; simp
theorem it_zip (h : SqL K Hs a vs) (h' : SqL K Hs b ws) (hd : DpAll K Z vs ds) (he : DpAll K Z ws es) : ItOk K Z Hs (Itz K a b) (zipD ds es) := fun i Z1 H s1 s2 s3 => by
  have hH := s3.seq h
  have hH' := s3.seq h'
  have l := dps_length hd
  have l' := dps_length he
  rw [zipD_length]
  refine ⟨fun hi => ⟨vs, ws, hH, hH', by omega⟩, fun hi => ⟨vs, ws, vs[i]'(by omega), ws[i]'(by omega), hH, hH', List.getElem?_eq_getElem (by omega), List.getElem?_eq_getElem (by omega)⟩, fun d x H' e y => ?_⟩
  obtain ⟨T, x1, x2, rfl, nT, rfl, y1, y2⟩ := y
  obtain ⟨a', b', g1, g2, rfl⟩ := zipD_get e
  obtain ⟨v, h1, h2⟩ := dps_get hd g1
  obtain ⟨w, h3, h4⟩ := dps_get he g2
  rw [y1 vs hH] at h1; cases h1
  rw [y2 ws hH'] at h3; cases h3
  have s5 := s1.trans (same_upd (o := .tup [x1, x2]) (s2.free nT))
  exact ⟨_, .new s2 nT, .tup (.of upd_same) (.cons (dp_mono s5 h2) (.cons (dp_mono s5 h4) .nil))⟩
theorem it_zipT (h : SqT K Hs a vs) (h' : SqT K Hs b ws) (hd : DpAll K Z vs ds) (he : DpAll K Z ws es) : ItOk K Z Hs (RZ.ItzT K a b) (zipD ds es) := fun i Z1 H s1 s2 s3 => by
  have hH := seqT s3 h
  have hH' := seqT s3 h'
  have l := dps_length hd
  have l' := dps_length he
  rw [zipD_length]
  refine ⟨fun hi => ⟨vs, ws, hH, hH', by omega⟩, fun hi => ⟨vs, ws, vs[i]'(by omega), ws[i]'(by omega), hH, hH', List.getElem?_eq_getElem (by omega), List.getElem?_eq_getElem (by omega)⟩, fun d x H' e y => ?_⟩
  obtain ⟨T, x1, x2, rfl, nT, rfl, y1, y2⟩ := y
  obtain ⟨a', b', g1, g2, rfl⟩ := zipD_get e
  obtain ⟨v, h1, h2⟩ := dps_get hd g1
  obtain ⟨w, h3, h4⟩ := dps_get he g2
  rw [y1 vs hH] at h1; cases h1
  rw [y2 ws hH'] at h3; cases h3
  have s5 := s1.trans (same_upd (o := .tup [x1, x2]) (s2.free nT))
  exact ⟨_, .new s2 nT, .tup (.of upd_same) (.cons (dp_mono s5 h2) (.cons (dp_mono s5 h4) .nil))⟩
def gZip : D → D → Res (List D)
  | .list xs, .list ys => .ok (zipD xs ys)
  | .tuple xs, .tuple ys => .ok (zipD xs ys)
  | _, _ => .bad
variable {e2 : Expr}
theorem Ip_zip (hm : X.mg "zip" = none) (ha : PE X e (tP X.K f)) (hb : PE X e2 (tP X.K g)) (hg : Gl X "zip" := by rfl)
    (hs : starEach [e, e2] X.env = (false, eval e X.env) :: starEach [e2] X.env := by rfl) (hs2 : starEach [e2] X.env = (false, eval e2 X.env) :: starEach [] X.env := by rfl) (hpl : (backTo pos (starEach [e2] X.env)).any (·.1) = false := by rfl) :
    PI X (.Tuple elts kk tpos) (.Call (.Name "zip" p) [e, e2] [] pos) (tIp X.K (eOp2 gZip f g)) := pi_mono (RZ.pi_zipA hg hm (pa_cons ha (pa_cons hb pa_nil hs2) hs) hs hpl) fun σ H R ⟨H0, Z0, Z, env, ds, hE, hf, q⟩ => by
  obtain ⟨d, h1, h2⟩ := Res.bind_eq hf
  obtain ⟨d2, h3, h4⟩ := Res.bind_eq h2
  refine ⟨H0, Z0, Z, env, d, hE, h1, fun v H1 Z1 e1 hd => ⟨H0, Z0, Z1, env, d2, hE.ext e1, h3, fun w H' Z' e2 hd2 => ?_⟩⟩
  have eA := e1.trans e2
  have hd := hd.ext e2
  unfold gZip at h4
  split at h4
  · cases h4
    obtain ⟨p, vs, rfl, k1, k2⟩ := hd.list eA.zh
    obtain ⟨p', ws, rfl, k3, k4⟩ := hd2.list eA.zh
    exact ⟨p, p', vs, ws, rfl, .inl ⟨k1, k3, q _ H' Z' eA (it_zip k1 k3 k2 k4)⟩⟩
  · cases h4
    obtain ⟨p, vs, rfl, k1, k2⟩ := hd.tup eA.zh
    obtain ⟨p', ws, rfl, k3, k4⟩ := hd2.tup eA.zh
    exact ⟨p, p', vs, ws, rfl, .inr ⟨k1, k3, q _ H' Z' eA (it_zipT k1 k3 k2 k4)⟩⟩
  · cases h4
theorem I_zip (hm : X.mg "zip" = none) (ha : PE X e (tE X.K f)) (hb : PE X e2 (tE X.K g)) (hg : Gl X "zip" := by rfl)
    (hs : starEach [e, e2] X.env = (false, eval e X.env) :: starEach [e2] X.env := by rfl) (hs2 : starEach [e2] X.env = (false, eval e2 X.env) :: starEach [] X.env := by rfl) (hpl : (backTo pos (starEach [e2] X.env)).any (·.1) = false := by rfl) :
    PI X (.Tuple elts kk tpos) (.Call (.Name "zip" p) [e, e2] [] pos) (tI X.K (eOp2 gZip f g)) := pi_mono (RZ.pi_zipA hg hm (pa_cons ha (pa_cons hb pa_nil hs2) hs) hs hpl) fun σ H R ⟨H0, Z0, Z, env, ds, hE, hf, q⟩ => by
  obtain ⟨d, h1, h2⟩ := Res.bind_eq hf
  obtain ⟨d2, h3, h4⟩ := Res.bind_eq h2
  refine ⟨H0, Z0, Z, env, d, hE, h1, fun v H1 Z1 e1 hd => ⟨H0, Z0, Z1, env, d2, hE.ext e1, h3, fun w H' Z' e2 hd2 => ?_⟩⟩
  have eA := e1.trans e2
  have hd := dp_mono e2.zz hd
  unfold gZip at h4
  split at h4
  · cases h4
    cases hd with
    | lst k1 k2 =>
      cases hd2 with
      | lst k3 k4 => exact ⟨_, _, _, _, rfl, .inl ⟨eA.zh.seq k1, eA.zh.seq k3, q _ H' Z' eA (it_zip k1 k3 k2 k4)⟩⟩
  · cases h4
    cases hd with
    | tup k1 k2 =>
      cases hd2 with
      | tup k3 k4 => exact ⟨_, _, _, _, rfl, .inr ⟨seqT eA.zh k1, seqT eA.zh k3, q _ H' Z' eA (it_zipT k1 k3 k2 k4)⟩⟩
  · cases h4
end
/-! ### for -/
def forL (g : Tg) (dead : List Nat) (body : Env → Out) : List D → Env → Out
  | [], env => .next env
  | d :: ds, env => (g.f d env).out fun e1 => match body e1 with
    | .next e2 => forL g dead body ds (clr dead e2)
    | .cont e2 => forL g dead body ds (clr dead e2)
    | .brk e2 => .next (clr dead e2)
    | .ret r => .ret r
    | .exc c => .exc c
    | .bad => .bad
def sFor (fi : Env → Res (List D)) (g : Tg) (dead : List Nat) (body : Env → Out) : Env → Out := fun env => (fi env).out fun ds => forL g dead body ds (clr dead env)
theorem OutOk.imp {K : PySem.W.Frag} {H0 Z0 : Hp} {E E' : Ends} {o : Out} (h : OutOk K H0 Z0 E o) (hn : ∀ e, o = .next e → ∀ Z σ H, EnvOk K H0 Z0 Z H σ e → E'.nx σ H) (hr : ∀ r, o = .ret r → ∀ v H, E.rt v H → E'.rt v H)
    (hb : ∀ e, o = .brk e → ∀ Z σ H, EnvOk K H0 Z0 Z H σ e → E'.bk σ H) (hc : ∀ e, o = .cont e → ∀ Z σ H, EnvOk K H0 Z0 Z H σ e → E'.ct σ H) : OutOk K H0 Z0 E' o := by
  cases o with
  | next e => exact hn e rfl
  | ret r => exact fun Z v H q => hr r rfl v H (h Z v H q)
  | brk e => exact hb e rfl
  | cont e => exact hc e rfl
  | exc c => exact h
  | bad => exact h
section
variable {X : Cx} {tg it : Expr} {body : List Stmt} {pos : Pos} {g : Tg} {fi : Env → Res (List D)} {m : Env → Out}
theorem S_for (dead : List Nat) (hp : PassesOwn (model X.prog X.w) X.A X.env X.xe) (hc : X.calm = true) (hi : PI X tg it (tI X.K fi)) (hg : PG X tg (tG X.K g)) (hb : PSs X body (tS X.K m)) (hs : ∀ x, foldedSetIterable it X.env x = pure x := by intro _; rfl) : PS X (.For tg it body [] pos) (tS X.K (sFor fi g dead m)) :=
  ps_mono (ps_for hp hc hi hg hb hs) fun E σ H ⟨H0, Z0, Z, env, hE, q⟩ => by
    obtain ⟨ds, k1, k2⟩ := Res.out_eq q
    refine ⟨H0, Z0, Z, env, ds, hE, k1, fun J H1 Z1 e1 hJ => ?_⟩
    have hE1 := (hE.ext e1).clr dead
    refine ⟨fun i n σ H => n = ds.length - i ∧ i ≤ ds.length ∧ ∃ Z2 env, EnvOk X.K H0 Z1 Z2 H σ env ∧ OutOk X.K H0 Z1 E (forL g dead m (ds.drop i) env), ⟨ds.length, rfl, Nat.zero_le _, Z1, _, hE1.rebase, OutOk.rebase hE1 k2⟩, ?_⟩
    rintro i n σ2 H2 ⟨rfl, hi, Z2, env2, hE2, hq⟩
    obtain ⟨j1, j2, j3⟩ := hJ i Z2 H2 hE2.z0 hE2.sz (hE2.z0.trans hE2.sz)
    by_cases hlt : i < ds.length
    · refine .inr ⟨j2 hlt, fun σ3 H3 => ∃ Z3 env3, EnvOk X.K H0 Z1 Z3 H3 σ3 env3 ∧ OutOk X.K H0 Z1 E (forL g dead m (ds.drop (i + 1)) env3), fun σ3 H3 ⟨Z3, env3, h1, h2⟩ => ⟨ds.length - (i + 1), by omega, rfl, hlt, Z3, env3, h1, h2⟩, fun x H3 hy => ?_⟩
      obtain ⟨Z3, e3, hd⟩ := j3 ds[i] x H3 (List.getElem?_eq_getElem hlt) hy
      rw [List.drop_eq_getElem_cons hlt] at hq
      obtain ⟨env3, g1, g2⟩ := Res.out_eq hq
      refine ⟨H0, Z1, Z3, env2, _, env3, hE2.ext e3, hd, g1, fun σ4 hE4 _ _ _ => ⟨H0, Z1, Z3, env3, hE4, ?_⟩⟩
      cases hm : m env3 with
      | next e2 => rw [hm] at g2; exact fun Z5 σ5 H5 hE5 => ⟨Z5, _, hE5.clr dead, g2⟩
      | cont e2 => rw [hm] at g2; exact fun Z5 σ5 H5 hE5 => ⟨Z5, _, hE5.clr dead, g2⟩
      | brk e2 => rw [hm] at g2; exact fun Z5 σ5 H5 hE5 => g2 Z5 σ5 H5 (hE5.clr dead)
      | ret r => rw [hm] at g2; exact g2
      | exc c => rw [hm] at g2; exact g2
      | bad => rw [hm] at g2; exact g2
    · refine .inl ⟨j1 (by omega), ?_⟩
      rw [List.drop_of_length_le (by omega)] at hq
      exact hq Z2 σ2 H2 hE2
/-! ### while -/
def whileL (dead : List Nat) (c : Env → Res Bool) (body : Env → Out) : Nat → Env → Out
  | 0, _ => .bad
  | n + 1, env => (c env).out fun b => if b = true then (match body env with
    | .next e2 => whileL dead c body n (clr dead e2)
    | .cont e2 => whileL dead c body n (clr dead e2)
    | .brk e2 => .next (clr dead e2)
    | .ret r => .ret r
    | .exc c => .exc c
    | .bad => .bad) else .next env
theorem fuel_ex : ∃ n : Nat, 10 ^ 200 ≤ n := ⟨_, Nat.le_refl _⟩
noncomputable def FUEL : Nat := Classical.choose fuel_ex
theorem FUEL_ge : 10 ^ 200 ≤ FUEL := Classical.choose_spec fuel_ex
noncomputable def sWhile (dead : List Nat) (c : Env → Res Bool) (body : Env → Out) : Env → Out := fun env => whileL dead c body FUEL (clr dead env)
theorem S_while (dead : List Nat) {c : Expr} {fc : Env → Res Bool} (hp : PassesOwn (model X.prog X.w) X.A X.env X.xe) (hc : PT X c (tT X.K fc)) (hb : PSs X body (tS X.K m)) : PS X (.While c body [] pos) (tS X.K (sWhile dead fc m)) :=
  ps_mono (ps_while hp hc hb) fun E σ H ⟨H0, Z0, Z, env, hE, q⟩ => by
    refine ⟨fun n σ H => ∃ Z env, EnvOk X.K H0 Z0 Z H σ env ∧ OutOk X.K H0 Z0 E (whileL dead fc m n env), ⟨FUEL, Z, _, hE.clr dead, q⟩, ?_⟩
    rintro n σ2 H2 ⟨Z2, env2, hE2, hq⟩
    cases n with
    | zero => exact hq.elim
    | succ n =>
      obtain ⟨b, g1, g2⟩ := Res.out_eq hq
      refine ⟨H0, Z0, Z2, env2, b, hE2, g1, fun H3 Z3 e3 => ?_⟩
      cases b with
      | false =>
        rw [if_neg Bool.false_ne_true] at g2 ⊢
        exact g2 Z3 σ2 H3 (hE2.ext e3)
      | true =>
        rw [if_pos rfl] at g2 ⊢
        refine ⟨fun σ4 H4 => ∃ Z4 env4, EnvOk X.K H0 Z0 Z4 H4 σ4 env4 ∧ OutOk X.K H0 Z0 E (whileL dead fc m n env4), fun σ4 H4 ⟨Z4, env4, h1, h2⟩ => ⟨n, Nat.lt_succ_self n, Z4, env4, h1, h2⟩, H0, Z0, Z3, env2, hE2.ext e3, ?_⟩
        cases hm : m env2 with
        | next e2 => rw [hm] at g2; exact fun Z5 σ5 H5 hE5 => ⟨Z5, _, hE5.clr dead, g2⟩
        | cont e2 => rw [hm] at g2; exact fun Z5 σ5 H5 hE5 => ⟨Z5, _, hE5.clr dead, g2⟩
        | brk e2 => rw [hm] at g2; exact fun Z5 σ5 H5 hE5 => g2 Z5 σ5 H5 (hE5.clr dead)
        | ret r => rw [hm] at g2; exact g2
        | exc c => rw [hm] at g2; exact g2
        | bad => rw [hm] at g2; exact g2
end
end PV

set_option Elab.async false
set_option linter.all false
set_option maxRecDepth 100000
namespace PV
open PySem PySem.Spec L2
set_option autoImplicit false
/-! ### comprehensions -/
def compL (g : Tg) (c : Env → Res Bool) (fe : Env → Res D) (env : Env) : List D → Res (List D)
  | [] => .ok []
  | d :: ds => (g.f d env).bind fun e1 => (c e1).bind fun b => if b = true then (fe e1).bind fun y => (compL g c fe env ds).bind fun ys => .ok (y :: ys) else compL g c fe env ds
def eComp (fi : Env → Res (List D)) (own : List Nat) (g : Tg) (c : Env → Res Bool) (fe : Env → Res D) : Env → Res RV := fun env => (fi env).bind fun ds => (compL g c fe (clr own env) ds).bind fun ys => if ys.length < 1000000 then .ok ⟨.list ys, true⟩ else .bad
def comp2L (g : Tg) (c : Env → Res Bool) (fi1 : Env → Res (List D)) (vs1 : List Nat) (g1 : Tg) (c1 : Env → Res Bool) (fe : Env → Res D) (env : Env) : List D → Res (List D)
  | [] => .ok []
  | d :: ds => (g.f d env).bind fun e1 => (c e1).bind fun b => if b = true then (fi1 e1).bind fun ds1 => (compL g1 c1 fe (clr vs1 e1) ds1).bind fun xs => (comp2L g c fi1 vs1 g1 c1 fe env ds).bind fun ys => .ok (xs ++ ys) else comp2L g c fi1 vs1 g1 c1 fe env ds
def eComp2 (fi : Env → Res (List D)) (own : List Nat) (g : Tg) (c : Env → Res Bool) (fi1 : Env → Res (List D)) (vs1 : List Nat) (g1 : Tg) (c1 : Env → Res Bool) (fe : Env → Res D) : Env → Res RV := fun env => (fi env).bind fun ds => (comp2L g c fi1 vs1 g1 c1 fe (clr own env) ds).bind fun ys => if ys.length < 1000000 then .ok ⟨.list ys, true⟩ else .bad
def bYes : Env → Res Bool := fun _ => .ok true
section
variable {K : PySem.W.Frag} {H0 Z0 Z H : Hp} {σ : L2.St} {env : Env}
theorem wipe_get {i : Nat} : ∀ {is : List Nat}, i ∉ is → (wipe σ is)[i]? = σ[i]?
  | [], _ => rfl
  | a :: r, h => by
    unfold wipe
    rw [List.getElem?_set_ne (fun z => h (by rw [z]; exact List.mem_cons_self)), wipe_get fun z => h (List.mem_cons_of_mem _ z)]
theorem wipe_in {i : Nat} : ∀ {is : List Nat}, i ∈ is → i < σ.length → (wipe σ is)[i]? = some none
  | a :: r, h, hl => by
    unfold wipe
    by_cases c : a = i
    · subst c
      rw [List.getElem?_set_self (by rw [wipe_length]; exact hl)]
    · rw [List.getElem?_set_ne c]
      rcases List.mem_cons.mp h with e | h
      · exact absurd e.symm c
      · exact wipe_in h hl
theorem clr_get {i : Nat} {s : Sl} : ∀ {is : List Nat} {env : Env}, (clr is env)[i]? = some s → (i ∉ is ∧ env[i]? = some s) ∨ s = .no
  | [], _, h => .inl ⟨by simp, h⟩
  | a :: r, env, h => by
    have h' : (clr r (env.set a .no))[i]? = some s := h
    rcases clr_get h' with ⟨h1, h2⟩ | h1
    · rcases get_set h2 with ⟨rfl, rfl⟩ | ⟨c, h2⟩
      · exact .inr rfl
      · exact .inl ⟨by simp only [List.mem_cons, not_or]; exact ⟨fun z => c z.symm, h1⟩, h2⟩
    · exact .inr h1
theorem clr_length : ∀ {is : List Nat} {env : Env}, (clr is env).length = env.length
  | [], _ => rfl
  | a :: r, env => by
    show (clr r (env.set a .no)).length = _
    rw [clr_length, List.length_set]
theorem EnvOk.wiped (h : EnvOk K H0 Z0 Z H σ env) (is : List Nat) : EnvOk K H0 Z0 Z H (wipe σ is) (PV.clr is env) := by
  refine ⟨h.sz, h.s0, h.z0, h.no, by rw [wipe_length, clr_length, h.len], fun j s e => ?_, fun a b q xs ys hab e1 e2 e3 e4 => ?_⟩
  · rcases clr_get e with ⟨h1, h2⟩ | rfl
    · obtain ⟨o, k1, k2⟩ := h.at_ j s h2
      exact ⟨o, by rw [wipe_get h1]; exact k1, k2⟩
    · have hj : j < σ.length := by
        have := (List.getElem?_eq_some_iff.mp e).1
        rw [clr_length] at this
        rw [h.len]; exact this
      exact ⟨(wipe σ is)[j]'(by rw [wipe_length]; exact hj), List.getElem?_eq_getElem _, True.intro⟩
  · rcases clr_get e1 with ⟨h1, e1⟩ | z
    · rcases clr_get e2 with ⟨h2, e2⟩ | z
      · rw [wipe_get h1] at e3
        rw [wipe_get h2] at e4
        exact h.sep a b q xs ys hab e1 e2 e3 e4
      · cases z
    · cases z
theorem wipe_same {σ σ' : L2.St} {is : List Nat} (hl : σ'.length = σ.length) (h : ∀ j, j ∉ is → σ'[j]? = σ[j]?) : wipe σ' is = wipe σ is := by
  apply List.ext_getElem?
  intro i
  by_cases hi : i ∈ is
  · by_cases hl2 : i < σ.length
    · rw [wipe_in hi (by rw [hl]; exact hl2), wipe_in hi hl2]
    · rw [List.getElem?_eq_none (by rw [wipe_length]; omega), List.getElem?_eq_none (by rw [wipe_length]; omega)]
  · rw [wipe_get hi, wipe_get hi]
    exact h i hi
end
theorem wipe_wipe {σ : L2.St} {is : List Nat} : wipe (wipe σ is) is = wipe σ is := wipe_same (wipe_length _ _) fun j hj => wipe_get hj
section
variable {X : Cx} {elt tg iter tg1 iter1 : Expr} {ifs ifs1 : List Expr} {scope : Scope} {own : List (Str × Nat)} {vs1 : List Nat} {pos : Pos} {g g1 : Tg} {fi fi1 : Env → Res (List D)} {c c1 : Env → Res Bool} {fe : Env → Res D}
theorem Ts_nil : PTs X [] (tT X.K bYes) := by
  have h := pts_nil (X := X)
  exact ⟨fun pins s σ H Q I ⟨H0, Z0, Z, env, b, hE, hf, q⟩ => h.run pins s σ H Q I (by cases hf; exact q H Z (.refl hE.sz))⟩
theorem Ts_one {e : Expr} (h : PT X e (tT X.K c)) : PTs X [e] (tT X.K c) := pts_one h
/-- what a comprehension's list is while it is made -/
structure Acc (K : PySem.W.Frag) (Z1 H1 Z2 H : Hp) (L : Addr) (acc : List D) : Prop where
  ext : Ext Z1 H1 Z2 H
  at_ : ∃ vs, H L = some (.lst vs) ∧ Z2 L = none ∧ DpAll K Z2 vs acc
theorem Acc.step {K : PySem.W.Frag} {Z1 H1 Z2 H Z3 H3 : Hp} {L : Addr} {acc : List D} (h : Acc K Z1 H1 Z2 H L acc) (e : Ext Z2 H Z3 H3) : Acc K Z1 H1 Z3 H3 L acc := by
  obtain ⟨vs, h1, h2, h3⟩ := h.at_
  exact ⟨h.ext.trans e, vs, e.hh _ _ h1, e.no L (by rw [h1]; exact fun z => nomatch z) h2, dps_mono e.zz h3⟩
theorem Acc.app {K : PySem.W.Frag} {Z1 H1 Z2 H : Hp} {L : Addr} {acc : List D} {v : V} {d : D} (h : Acc K Z1 H1 Z2 H L acc) (hL : H1 L = none) (hd : Dp K Z2 v d) (hl : acc.length < 1000000) : ∃ vs, H L = some (.lst vs) ∧ vs.length < sizeLine ∧ Acc K Z1 H1 Z2 (upd H L (.lst (vs ++ [v]))) L (acc ++ [d]) := by
  obtain ⟨vs, h1, h2, h3⟩ := h.at_
  refine ⟨vs, h1, by rw [dps_length h3]; exact lim_ok hl, ⟨same_updR hL h.ext.hh, h.ext.zz, same_updR h2 h.ext.zh, h.ext.no⟩, _, upd_same, h2, dps_append h3 (.cons hd .nil)⟩
theorem EnvOk.off {K : PySem.W.Frag} {H0 Z0 Z H : Hp} {σ : L2.St} {env : Env} {L : Addr} {o : HO} (h : EnvOk K H0 Z0 Z H σ env) (hz : Z L = none) (h0 : H0 L = none) (hn : ∀ (j : Nat) (xs : List D), env[j]? = some (.own xs) → σ[j]? = some (some (.ref L)) → False) : EnvOk K H0 Z0 Z (upd H L o) σ env := by
  refine ⟨same_updR hz h.sz, same_updR h0 h.s0, h.z0, h.no, h.len, fun j s e => ?_, h.sep⟩
  obtain ⟨x, h1, h2⟩ := h.at_ j s e
  refine ⟨x, h1, ?_⟩
  cases s with
  | no => exact True.intro
  | fz d => exact h2
  | own xs =>
    obtain ⟨p, vs, rfl, k1, k2⟩ := h2
    have : p ≠ L := fun z => hn j xs e (by rw [h1, z])
    exact ⟨p, vs, rfl, by rw [upd_ne this]; exact k1, k2⟩
/-- grown, all but L -/
structure ExtL (L : Addr) (Z H Z' H' : Hp) : Prop where
  hh : ∀ b o, b ≠ L → H b = some o → H' b = some o
  hL : H L ≠ none → H' L ≠ none
  zz : Same Z Z'
  zh : Same Z' H'
  no : ∀ a, H a ≠ none → Z a = none → Z' a = none
theorem ExtL.of {L : Addr} {Z H Z' H' : Hp} (e : Ext Z H Z' H') : ExtL L Z H Z' H' := ⟨fun b o _ h => e.hh b o h, fun h => not_none e.hh h, e.zz, e.zh, e.no⟩
theorem ExtL.not {L : Addr} {Z H Z' H' : Hp} (e : ExtL L Z H Z' H') {a : Addr} (h : H a ≠ none) : H' a ≠ none := by
  by_cases c : a = L
  · subst c; exact e.hL h
  · cases q : H a with
    | none => exact absurd q h
    | some o => rw [e.hh a o c q]; exact fun z => nomatch z
theorem ExtL.trans {L : Addr} {Z H Z1 H1 Z2 H2 : Hp} (a : ExtL L Z H Z1 H1) (b : ExtL L Z1 H1 Z2 H2) : ExtL L Z H Z2 H2 :=
  ⟨fun c o n h => b.hh c o n (a.hh c o n h), fun h => b.hL (a.hL h), a.zz.trans b.zz, b.zh, fun c h e => b.no c (a.not h) (a.no c h e)⟩
theorem ExtL.upd {L : Addr} {Z H : Hp} {o : HO} (s : Same Z H) (zL : Z L = none) : ExtL L Z H Z (upd H L o) :=
  ⟨fun b o n h => by rw [upd_ne n]; exact h, (fun _ => by rw [upd_same]; exact (fun z => nomatch z)), Same.refl _, same_updR zL s, fun _ _ e => e⟩
theorem EnvOk.extL {K : PySem.W.Frag} {H0 Z0 Z H Z' H' : Hp} {σ : L2.St} {env : Env} {L : Addr} (h : EnvOk K H0 Z0 Z H σ env) (e : ExtL L Z H Z' H') (h0 : H0 L = none) (hn : ∀ (j : Nat) (xs : List D), env[j]? = some (.own xs) → σ[j]? = some (some (.ref L)) → False) : EnvOk K H0 Z0 Z' H' σ env := by
  refine ⟨e.zh, fun b o q => e.hh b o (fun z => by rw [z, h0] at q; cases q) (h.s0 b o q), h.z0.trans e.zz, fun a h1 h2 => e.no a (not_none h.s0 h1) (h.no a h1 h2), h.len, fun j s q => ?_, h.sep⟩
  obtain ⟨x, h1, h2⟩ := h.at_ j s q
  refine ⟨x, h1, ?_⟩
  cases s with
  | no => exact True.intro
  | fz d => obtain ⟨v, k1, k2⟩ := h2; exact ⟨v, k1, dp_mono e.zz k2⟩
  | own xs =>
    obtain ⟨p, vs, rfl, k1, k2, k3, k4⟩ := h2
    have : p ≠ L := fun z => hn j xs q (by rw [h1, z])
    exact ⟨p, vs, rfl, e.hh _ _ this k1, e.no p (by rw [k1]; exact fun z => nomatch z) k2, k3, dps_mono e.zz k4⟩
/-- the reading of a block's loop (of the first clause or the second) -/
theorem loop_red {K : PySem.W.Frag} {J : It} {ds out pre : List D} {H0 Z0 Za Ha Z1 H1 Zs Hs : Hp} {L : Addr} {σ : L2.St} {env : Env} {is : List Nat} {te : TE} {tt : TT} {tgr : TG} {Nx : Hp → Prop} {g : Tg} {c : Env → Res Bool} {fe : Env → Res D}
    (hg : ∀ v σ H Q, tG K g v σ H Q → tgr v σ H Q) (ht : ∀ σ H Q, tT K c σ H Q → tt σ H Q) (he : ∀ σ H Q, tE K fe σ H Q → te σ H Q) (hix : ∀ j ∈ g.ix, j ∈ is)
    (hE : EnvOk K H0 Z0 Z1 H1 (wipe σ is) env) (hno : ∀ (j : Nat) (xs : List D), env[j]? = some (.own xs) → (wipe σ is)[j]? = some (some (.ref L)) → False)
    (hJ : ItOk K Zs Hs J ds) (hZs : Same Zs Z1) (hHs : ∀ Z2 H2 acc, Same Z1 Z2 → Acc K Za Ha Z2 H2 L acc → Same Hs H2) (hL : Ha L = none) (h0 : H0 L = none) (hA : Acc K Za Ha Z1 H1 L pre) (hc : compL g c fe env ds = .ok out) (hlen : pre.length + out.length < 1000000)
    (hn : ∀ Z2 H, ExtL L Z1 H1 Z2 H → Acc K Za Ha Z2 H L (pre ++ out) → Nx H) :
    ∃ W : Nat → Nat → Hp → Prop, (∃ m, W 0 m H1) ∧ ∀ i m H, W i m H →
      (J.stop i H ∧ Nx H) ∨ (J.go i H ∧ ∃ Nx1 : Hp → Prop, (∀ H', Nx1 H' → ∃ m', m' < m ∧ W (i + 1) m' H') ∧ ∀ x H', J.yld i H x H' → tgr x (wipe σ is) H' fun σ2 H2 => wipe σ2 is = wipe σ is ∧ tt σ2 H2 fun b H3 =>
        if b = true then te σ2 H3 fun y H4 => ∃ acc, H4 L = some (.lst acc) ∧ acc.length < sizeLine ∧ Nx1 (upd H4 L (.lst (acc ++ [y]))) else Nx1 H3) := by
  refine ⟨fun i m H => m = ds.length - i ∧ i ≤ ds.length ∧ ∃ Z2 acc rest, ExtL L Z1 H1 Z2 H ∧ EnvOk K H0 Z0 Z2 H (wipe σ is) env ∧ Acc K Za Ha Z2 H L acc ∧ compL g c fe env (ds.drop i) = .ok rest ∧ acc ++ rest = pre ++ out,
    ⟨ds.length, rfl, Nat.zero_le _, Z1, pre, out, .of (.refl hE.sz), hE, hA, hc, rfl⟩, ?_⟩
  rintro i m H ⟨rfl, hi, Z2, acc, rest, s12, hE2, hA2, hc2, hsum⟩
  obtain ⟨j1, j2, j3⟩ := hJ i Z2 H (hZs.trans s12.zz) hE2.sz (hHs Z2 H acc s12.zz hA2)
  by_cases hlt : i < ds.length
  · refine .inr ⟨j2 hlt, fun H' => ∃ Z2 acc rest, ExtL L Z1 H1 Z2 H' ∧ EnvOk K H0 Z0 Z2 H' (wipe σ is) env ∧ Acc K Za Ha Z2 H' L acc ∧ compL g c fe env (ds.drop (i + 1)) = .ok rest ∧ acc ++ rest = pre ++ out, fun H' hN => ⟨ds.length - (i + 1), by omega, rfl, hlt, hN⟩, fun x H' hy => ?_⟩
    obtain ⟨Z3, e3, hd⟩ := j3 ds[i] x H' (List.getElem?_eq_getElem hlt) hy
    rw [List.drop_eq_getElem_cons hlt] at hc2
    obtain ⟨env1, c1, c2⟩ := Res.bind_eq hc2
    obtain ⟨b, c3, c4⟩ := Res.bind_eq c2
    refine hg _ _ _ _ ⟨H0, Z0, Z3, env, _, env1, hE2.ext e3, hd, c1, fun σ4 hE4 l4 n4 _ => ⟨?_, ht _ _ _ ⟨H0, Z0, Z3, env1, b, hE4, c3, fun H5 Z5 e5 => ?_⟩⟩⟩
    · rw [wipe_same l4 fun j hj => n4 j fun z => hj (hix j z), wipe_wipe]
    · cases b with
      | true =>
        rw [if_pos rfl] at c4 ⊢
        obtain ⟨y, c5, c6⟩ := Res.bind_eq c4
        obtain ⟨ys, c7, c8⟩ := Res.bind_eq c6
        cases c8
        refine he _ _ _ ⟨H0, Z0, Z5, env1, y, hE4.ext e5, c5, fun v H6 Z6 e6 hd6 => ?_⟩
        have eA := (e3.trans e5).trans e6
        have hA6 := hA2.step eA
        have hl : acc.length < 1000000 := by
          have := congrArg List.length hsum
          simp only [List.length_append, List.length_cons] at this
          omega
        obtain ⟨vs, k1, k2, k3⟩ := hA6.app hL hd6 hl
        obtain ⟨_, _, zL, _⟩ := hA6.at_
        exact ⟨vs, k1, k2, Z6, acc ++ [y], ys, (s12.trans (.of eA)).trans (.upd eA.zh zL), (hE2.ext eA).off zL h0 hno, k3, c7, by rw [← hsum]; simp⟩
      | false =>
        rw [if_neg Bool.false_ne_true] at c4 ⊢
        have eA := e3.trans e5
        exact ⟨Z5, acc, rest, s12.trans (.of eA), hE2.ext eA, hA2.step eA, c4, hsum⟩
  · refine .inl ⟨j1 (by omega), ?_⟩
    rw [List.drop_of_length_le (by omega)] at hc2
    cases hc2
    rw [List.append_nil] at hsum
    rw [hsum] at hA2
    exact hn Z2 H s12 hA2
theorem notOwn {K : PySem.W.Frag} {H0 Z0 Z H : Hp} {σ : L2.St} {env : Env} {L : Addr} (h : EnvOk K H0 Z0 Z H σ env) (hL : H L = none) : ∀ (j : Nat) (xs : List D), env[j]? = some (.own xs) → σ[j]? = some (some (.ref L)) → False := fun j xs e1 e2 => by
  obtain ⟨p, vs, k1, k2, _⟩ := h.own e1
  rw [e2] at k1; cases k1
  rw [hL] at k2; cases k2
theorem comp_red {is : List Nat} {K : PySem.W.Frag} (hix : ∀ j ∈ g.ix, j ∈ is) (σ : L2.St) (H : Hp) (Q : VK) (h : tV K (eComp fi is g c fe) σ H Q) : tLc (tIp K fi) (tG K g) (tT K c) (tE K fe) is σ H Q := by
  obtain ⟨H0, Z0, Z, env, r, hE, hf, q⟩ := h
  obtain ⟨ds, k1, k2⟩ := Res.bind_eq hf
  obtain ⟨out, k3, k4⟩ := Res.bind_eq k2
  obtain ⟨k5, k6⟩ := ite_ok k4
  cases k6
  refine ⟨H0, Z0, Z, env, ds, hE, k1, fun J H1 Z1 e1 hJ L hL => ?_⟩
  have hE1 := hE.ext e1
  have hEw := hE1.wiped is
  have zL := e1.zh.free hL
  have h0 := hE1.s0.free hL
  have m1 : Ext Z1 H1 Z1 (upd H1 L (.lst [])) := .made e1.zh hL
  exact loop_red (Za := Z1) (Ha := H1) (pre := []) (fun _ _ _ _ h => h) (fun _ _ _ h => h) (fun _ _ _ h => h) hix (hEw.ext m1) (notOwn hEw hL) hJ (Same.refl _) (fun Z2 H2 acc _ hA => hA.ext.hh) hL h0 ⟨m1, [], upd_same, zL, .nil⟩ k3 (by simpa using k5) fun Z2 H2 _ hA => by
    obtain ⟨vs, a1, a2, a3⟩ := hA.at_
    exact q _ H2 Z2 (e1.trans hA.ext) ⟨L, vs, out, rfl, rfl, e1.hh.free hL, a2, a1, a3⟩
theorem V_comp (hc : X.calm = true) (hN : X.N.Nodup) (ok : BlkOk X.N X.env.scope scope own) (hi : PI X tg iter (tIp X.K fi))
    (hg : ∀ (s : Shared) (H : Hp) (C : Addr) (cl : List (Str × Addr)) (fp : List Addr), PG (X.blk s H scope (compEnvC scope cl C X.env) fp) tg (tG X.K g)) (ht : ∀ (s : Shared) (H : Hp) (C : Addr) (cl : List (Str × Addr)) (fp : List Addr), PTs (X.blk s H scope (compEnvC scope cl C X.env) fp) ifs (tT X.K c))
    (he : ∀ (s : Shared) (H : Hp) (C : Addr) (cl : List (Str × Addr)) (fp : List Addr), PE (X.blk s H scope (compEnvC scope cl C X.env) fp) elt (tE X.K fe)) (hix : ∀ j ∈ g.ix, j ∈ own.map (·.2) := by decide) (hs : ∀ x, foldedSetIterable iter X.env x = pure x := by intro _; rfl) :
    PE X (.ListComp elt [⟨tg, iter, ifs, 0⟩] scope pos) (tV X.K (eComp fi (own.map (·.2)) g c fe)) := pe_mono (pe_lc hc hN hi ok hg ht he hs) (comp_red hix)
/-- name = [..] on one line, the name a local -/
theorem S_setComp (i : Nat) {y : Str} {py spos : Pos} (hc : X.calm = true) (hN : X.N.Nodup) (ok : BlkOk X.N X.env.scope scope own) (hi : PI X tg iter (tIp X.K fi))
    (hg : ∀ (s : Shared) (H : Hp) (C : Addr) (cl : List (Str × Addr)) (fp : List Addr), PG (X.blk s H scope (compEnvC scope cl C X.env) fp) tg (tG X.K g)) (ht : ∀ (s : Shared) (H : Hp) (C : Addr) (cl : List (Str × Addr)) (fp : List Addr), PTs (X.blk s H scope (compEnvC scope cl C X.env) fp) ifs (tT X.K c))
    (he : ∀ (s : Shared) (H : Hp) (C : Addr) (cl : List (Str × Addr)) (fp : List Addr), PE (X.blk s H scope (compEnvC scope cl C X.env) fp) elt (tE X.K fe)) (hsw : swapsWith (.ListComp elt [⟨tg, iter, ifs, 0⟩] scope pos) (some (.Name y py)) spos.line X.env = pure true)
    (hix : ∀ j ∈ g.ix, j ∈ own.map (·.2) := by decide) (hy : X.N[i]? = some y := by rfl) (hyl : X.env.scope.names.lookup y = some .local := by rfl) (hs : ∀ x, foldedSetIterable iter X.env x = pure x := by intro _; rfl) :
    PS X (.Assign [.Name y py] (.ListComp elt [⟨tg, iter, ifs, 0⟩] scope pos) spos) (tS X.K (sSetV i (eComp fi (own.map (·.2)) g c fe))) := ps_mono (ps_setLc hc hN hy hyl hsw hi ok hg ht he hs) fun E σ H ⟨H0, Z0, Z, env, hE, q⟩ => by
  obtain ⟨r, k1, k2⟩ := Res.out_eq q
  refine comp_red hix σ H _ ⟨H0, Z0, Z, env, r, hE, k1, fun v H' Z' e hr => ?_⟩
  by_cases hl : i < env.length
  · rw [if_pos hl] at k2
    obtain ⟨Z2, h2⟩ := hE.setV hl e hr
    exact k2 Z2 _ H' h2
  · rw [if_neg hl] at k2; exact k2.elim
/-! two clauses -/
theorem clr_own {is : List Nat} {env : Env} {j : Nat} {xs : List D} (h : (clr is env)[j]? = some (.own xs)) : env[j]? = some (.own xs) := by
  rcases clr_get h with ⟨_, h⟩ | h
  · exact h
  · cases h
theorem comp2_red {is : List Nat} {K : PySem.W.Frag} (hix : ∀ j ∈ g.ix, j ∈ is) (hix1 : ∀ j ∈ g1.ix, j ∈ vs1) (hv : ∀ j ∈ vs1, j ∈ is) (σ : L2.St) (H : Hp) (Q : VK) (h : tV K (eComp2 fi is g c fi1 vs1 g1 c1 fe) σ H Q) : tLc2 (tIp K fi) (tG K g) (tT K c) (tI K fi1) (tG K g1) (tT K c1) (tE K fe) is vs1 σ H Q := by
  obtain ⟨H0, Z0, Z, env, r, hE, hf, q⟩ := h
  obtain ⟨ds, k1, k2⟩ := Res.bind_eq hf
  obtain ⟨out, k3, k4⟩ := Res.bind_eq k2
  obtain ⟨k5, k6⟩ := ite_ok k4
  cases k6
  refine ⟨H0, Z0, Z, env, ds, hE, k1, fun J H1 Z1 e1 hJ L hL => ?_⟩
  have hE1 := hE.ext e1
  have hEw := hE1.wiped is
  have zL := e1.zh.free hL
  have h0 := hE1.s0.free hL
  have m1 : Ext Z1 H1 Z1 (upd H1 L (.lst [])) := .made e1.zh hL
  have hno := notOwn hEw hL
  refine ⟨fun i m H => m = ds.length - i ∧ i ≤ ds.length ∧ ∃ Z2 acc rest, Same Z1 Z2 ∧ EnvOk K H0 Z0 Z2 H (wipe σ is) (clr is env) ∧ Acc K Z1 H1 Z2 H L acc ∧ comp2L g c fi1 vs1 g1 c1 fe (clr is env) (ds.drop i) = .ok rest ∧ acc ++ rest = out,
    ⟨ds.length, rfl, Nat.zero_le _, Z1, [], out, Same.refl _, hEw.ext m1, ⟨m1, [], upd_same, zL, .nil⟩, k3, rfl⟩, ?_⟩
  rintro i m H ⟨rfl, hi, Z2, acc, rest, s12, hE2, hA2, hc2, hsum⟩
  obtain ⟨j1, j2, j3⟩ := hJ i Z2 H s12 hE2.sz hA2.ext.hh
  by_cases hlt : i < ds.length
  · refine .inr ⟨j2 hlt, fun H' => ∃ Z2 acc rest, Same Z1 Z2 ∧ EnvOk K H0 Z0 Z2 H' (wipe σ is) (clr is env) ∧ Acc K Z1 H1 Z2 H' L acc ∧ comp2L g c fi1 vs1 g1 c1 fe (clr is env) (ds.drop (i + 1)) = .ok rest ∧ acc ++ rest = out, fun H' hN => ⟨ds.length - (i + 1), by omega, rfl, hlt, hN⟩, fun x H' hy => ?_⟩
    obtain ⟨Z3, e3, hd⟩ := j3 ds[i] x H' (List.getElem?_eq_getElem hlt) hy
    rw [List.drop_eq_getElem_cons hlt] at hc2
    obtain ⟨env1, c1', c2⟩ := Res.bind_eq hc2
    obtain ⟨b, c3, c4⟩ := Res.bind_eq c2
    refine ⟨H0, Z0, Z3, _, _, env1, hE2.ext e3, hd, c1', fun σ4 hE4 l4 n4 o4 => ⟨?_, H0, Z0, Z3, env1, b, hE4, c3, fun H5 Z5 e5 => ?_⟩⟩
    · rw [wipe_same l4 fun j hj => n4 j fun z => hj (hix j z), wipe_wipe]
    · cases b with
      | true =>
        rw [if_pos rfl] at c4 ⊢
        obtain ⟨ds1, c5, c6⟩ := Res.bind_eq c4
        obtain ⟨xs, c7, c8⟩ := Res.bind_eq c6
        obtain ⟨ys, c9, c10⟩ := Res.bind_eq c8
        cases c10
        refine ⟨H0, Z0, Z5, env1, ds1, hE4.ext e5, c5, fun J1 H6 Z6 e6 hJ1 => ?_⟩
        have eA := (e3.trans e5).trans e6
        have hE6 := ((hE4.ext e5).ext e6)
        have hA6 := hA2.step eA
        have hl : acc.length + xs.length < 1000000 := by
          have := congrArg List.length hsum
          simp only [List.length_append] at this
          omega
        have no4 : ∀ (j : Nat) (xs : List D), env1[j]? = some (.own xs) → σ4[j]? = some (some (.ref L)) → False := fun j xs f1 f2 => by
          obtain ⟨g1, g2⟩ := o4 j xs f1
          rw [g2] at f2
          exact hno j xs g1 f2
        refine loop_red (Za := Z1) (Ha := H1) (pre := acc) (fun _ _ _ _ h => h) (fun _ _ _ h => h) (fun _ _ _ h => h) hix1 (hE6.wiped vs1) (fun j xs f1 f2 => no4 j xs (clr_own f1) (wipe_some f2).1) hJ1 (Same.refl _) (fun Z2 H2 acc s hA => s.trans hA.ext.zh) hL h0 hA6 c7 hl fun Z7 H7 s67 hA7 => ?_
        exact ⟨Z7, acc ++ xs, ys, s12.trans (eA.zz.trans s67.zz), (hE2.ext eA).extL s67 h0 hno, hA7, c9, by rw [List.append_assoc]; exact hsum⟩
      | false =>
        rw [if_neg Bool.false_ne_true] at c4 ⊢
        have eA := e3.trans e5
        exact ⟨Z5, acc, rest, s12.trans eA.zz, hE2.ext eA, hA2.step eA, c4, hsum⟩
  · refine .inl ⟨j1 (by omega), ?_⟩
    rw [List.drop_of_length_le (by omega)] at hc2
    cases hc2
    rw [List.append_nil] at hsum
    subst hsum
    obtain ⟨vs, a1, a2, a3⟩ := hA2.at_
    exact q _ H Z2 (e1.trans hA2.ext) ⟨L, vs, _, rfl, rfl, e1.hh.free hL, a2, a1, a3⟩
theorem V_comp2 (hc : X.calm = true) (hN : X.N.Nodup) (ok : BlkOk X.N X.env.scope scope own) (hi : PI X tg iter (tIp X.K fi))
    (hg : ∀ (s : Shared) (H : Hp) (C : Addr) (cl : List (Str × Addr)) (fp : List Addr), PG (X.blk s H scope (compEnvC scope cl C X.env) fp) tg (tG X.K g)) (ht : ∀ (s : Shared) (H : Hp) (C : Addr) (cl : List (Str × Addr)) (fp : List Addr), PTs (X.blk s H scope (compEnvC scope cl C X.env) fp) ifs (tT X.K c))
    (hi1 : ∀ (s : Shared) (H : Hp) (C : Addr) (cl : List (Str × Addr)) (fp : List Addr), PI (X.blk s H scope (compEnvC scope cl C X.env) fp) tg1 iter1 (tI X.K fi1))
    (hg1 : ∀ (s : Shared) (H : Hp) (C : Addr) (cl : List (Str × Addr)) (fp : List Addr), PG (X.blk s H scope (compEnvC scope cl C X.env) fp) tg1 (tG X.K g1)) (ht1 : ∀ (s : Shared) (H : Hp) (C : Addr) (cl : List (Str × Addr)) (fp : List Addr), PTs (X.blk s H scope (compEnvC scope cl C X.env) fp) ifs1 (tT X.K c1))
    (he : ∀ (s : Shared) (H : Hp) (C : Addr) (cl : List (Str × Addr)) (fp : List Addr), PE (X.blk s H scope (compEnvC scope cl C X.env) fp) elt (tE X.K fe)) (hix : ∀ j ∈ g.ix, j ∈ own.map (·.2) := by decide) (hix1 : ∀ j ∈ g1.ix, j ∈ vs1 := by decide) (hv : ∀ j ∈ vs1, j ∈ own.map (·.2) := by decide)
    (hs : ∀ x, foldedSetIterable iter X.env x = pure x := by intro _; rfl) (hs1 : ∀ env x, foldedSetIterable iter1 env x = pure x := by intro _ _; rfl) :
    PE X (.ListComp elt [⟨tg, iter, ifs, 0⟩, ⟨tg1, iter1, ifs1, 0⟩] scope pos) (tV X.K (eComp2 fi (own.map (·.2)) g c fi1 vs1 g1 c1 fe)) := pe_mono (pe_lc2 hc hN hi ok hv hg ht hi1 hg1 ht1 he hs hs1) (comp2_red hix hix1 hv)
theorem S_setComp2 (i : Nat) {y : Str} {py spos : Pos} (hc : X.calm = true) (hN : X.N.Nodup) (ok : BlkOk X.N X.env.scope scope own) (hi : PI X tg iter (tIp X.K fi))
    (hg : ∀ (s : Shared) (H : Hp) (C : Addr) (cl : List (Str × Addr)) (fp : List Addr), PG (X.blk s H scope (compEnvC scope cl C X.env) fp) tg (tG X.K g)) (ht : ∀ (s : Shared) (H : Hp) (C : Addr) (cl : List (Str × Addr)) (fp : List Addr), PTs (X.blk s H scope (compEnvC scope cl C X.env) fp) ifs (tT X.K c))
    (hi1 : ∀ (s : Shared) (H : Hp) (C : Addr) (cl : List (Str × Addr)) (fp : List Addr), PI (X.blk s H scope (compEnvC scope cl C X.env) fp) tg1 iter1 (tI X.K fi1))
    (hg1 : ∀ (s : Shared) (H : Hp) (C : Addr) (cl : List (Str × Addr)) (fp : List Addr), PG (X.blk s H scope (compEnvC scope cl C X.env) fp) tg1 (tG X.K g1)) (ht1 : ∀ (s : Shared) (H : Hp) (C : Addr) (cl : List (Str × Addr)) (fp : List Addr), PTs (X.blk s H scope (compEnvC scope cl C X.env) fp) ifs1 (tT X.K c1))
    (he : ∀ (s : Shared) (H : Hp) (C : Addr) (cl : List (Str × Addr)) (fp : List Addr), PE (X.blk s H scope (compEnvC scope cl C X.env) fp) elt (tE X.K fe)) (hsw : swapsWith (.ListComp elt [⟨tg, iter, ifs, 0⟩, ⟨tg1, iter1, ifs1, 0⟩] scope pos) (some (.Name y py)) spos.line X.env = pure true)
    (hix : ∀ j ∈ g.ix, j ∈ own.map (·.2) := by decide) (hix1 : ∀ j ∈ g1.ix, j ∈ vs1 := by decide) (hv : ∀ j ∈ vs1, j ∈ own.map (·.2) := by decide)
    (hy : X.N[i]? = some y := by rfl) (hyl : X.env.scope.names.lookup y = some .local := by rfl) (hs : ∀ x, foldedSetIterable iter X.env x = pure x := by intro _; rfl) (hs1 : ∀ env x, foldedSetIterable iter1 env x = pure x := by intro _ _; rfl) :
    PS X (.Assign [.Name y py] (.ListComp elt [⟨tg, iter, ifs, 0⟩, ⟨tg1, iter1, ifs1, 0⟩] scope pos) spos) (tS X.K (sSetV i (eComp2 fi (own.map (·.2)) g c fi1 vs1 g1 c1 fe))) := ps_mono (ps_setLc2 hc hN hy hyl hsw hi ok hv hg ht hi1 hg1 ht1 he hs hs1) fun E σ H ⟨H0, Z0, Z, env, hE, q⟩ => by
  obtain ⟨r, k1, k2⟩ := Res.out_eq q
  refine comp2_red hix hix1 hv σ H _ ⟨H0, Z0, Z, env, r, hE, k1, fun v H' Z' e hr => ?_⟩
  by_cases hl : i < env.length
  · rw [if_pos hl] at k2
    obtain ⟨Z2, h2⟩ := hE.setV hl e hr
    exact k2 Z2 _ H' h2
  · rw [if_neg hl] at k2; exact k2.elim
end
/-! ### defs, the law -/
def fnM (np n : Nat) (body : Env → Out) (ds : List D) : Res RV := if ds.length = np then (match body (ds.map Sl.fz ++ List.replicate (n - ds.length) Sl.no) with
  | .ret r => .ok r
  | .next _ => .ok ⟨.none, false⟩
  | .exc c => .exc c
  | _ => .bad) else .bad
section
variable {P : Program} {w : World} {K : PySem.W.Frag} {mg : Str → Option Value} {base : Heap}
theorem env_start {H Z : Hp} {vs : List V} {ds : List D} {N : List Str} (s : Same Z H) (h : DpAll K Z vs ds) (hl : vs.length ≤ N.length) : EnvOk K H Z Z H (L2.start N vs) (ds.map Sl.fz ++ List.replicate (N.length - ds.length) Sl.no) := by
  have l := dps_length h
  refine ⟨s, Same.refl _, Same.refl _, fun _ _ e => e, ?_, fun i sl e => ?_, fun i j p xs ys _ e1 _ _ _ => ?_⟩
  · unfold L2.start
    simp [l]
  · unfold L2.start
    by_cases hi : i < ds.length
    · rw [List.getElem?_append_left (by simpa using hi), List.getElem?_map, List.getElem?_eq_getElem hi] at e
      cases e
      obtain ⟨v, h1, h2⟩ := dps_get h (List.getElem?_eq_getElem hi)
      refine ⟨some v, ?_, v, rfl, h2⟩
      rw [List.getElem?_append_left (by simp; omega), List.getElem?_map, h1]
      rfl
    · rw [List.getElem?_append_right (by simp; omega)] at e
      have e1 := e
      rw [List.getElem?_replicate] at e
      split at e
      · cases e
        rename_i hlt
        simp at hlt
        refine ⟨none, ?_, True.intro⟩
        rw [List.getElem?_append_right (by simp; omega), List.getElem?_replicate, if_pos (by simp; omega)]
      · cases e
  · by_cases hi : i < ds.length
    · rw [List.getElem?_append_left (by simpa using hi), List.getElem?_map, List.getElem?_eq_getElem hi] at e1
      cases e1
    · rw [List.getElem?_append_right (by simp; omega), List.getElem?_replicate] at e1
      split at e1 <;> cases e1
theorem fn_ok {x qual : Str} {st : Stmt} {f : Addr} {fd : FuncData} {N ps : List Str} {k np n : Nat} {body : Env → Out} {m : List D → Res RV} (F : Fun K x qual st f fd) (S : FnScope N ps (defScope st)) (hm : m = fnM np n body) (hnp : ps.length = np) (hn : N.length = n) (hN : np ≤ n)
    (hbody : ∀ (cdv : Value) (A : Around) (outer : List PySem.Env) (s : Shared) (H : Hp) (E : XK), Room k (A.deeper (PyProof.Rows.envOfC qual (defScope st) s.heap.objs.size f cdv)) →
      PSs (cxOf CX0 P w K mg base N qual (defScope st) f cdv A outer s H E).nox (defBody st) (tS K body)) : FnOk P w K mg base CX0 (k + 1) f fd ps (spD K m) := by
  subst hm hnp hn
  have len : ∀ vs H Q E, spD K (fnM ps.length N.length body) vs H Q E → vs.length = ps.length := fun vs H Q E ⟨Z, ds, r, _, h, hm, _⟩ => by
    rw [dps_length h]
    exact (ite_ok hm).1
  refine F.ok S len fun cdv A outer s H vs Q E hr h => ⟨_, hbody cdv A outer s H E hr, ?_⟩
  have hl := len vs H Q E h
  obtain ⟨Z, ds, r, sz, hd, hm, q⟩ := h
  have hm := (ite_ok hm).2
  refine ⟨H, Z, Z, _, env_start sz hd (by rw [hl]; exact hN), ?_⟩
  cases hb : body (ds.map Sl.fz ++ List.replicate (N.length - ds.length) Sl.no) with
  | ret r' =>
    rw [hb] at hm
    cases hm
    exact fun Z' v H' ⟨e, hr⟩ => q v H' Z' e hr
  | next env' =>
    rw [hb] at hm
    cases hm
    exact fun Z' σ' H' hE => q .non H' Z' hE.toExt .non
  | exc c => rw [hb] at hm; cases hm
  | bad => rw [hb] at hm; cases hm
  | brk e => rw [hb] at hm; cases hm
  | cont e => rw [hb] at hm; cases hm
theorem cal_mk {x : Str} {st : Stmt} {f : Addr} {fd : FuncData} {ps : List Str} {k : Nat} {m : List D → Res RV} (F : Fun K x x st f fd) (g : mg x = some (.ref f)) (b : Binds K fd ps []) (h : FnOk P w K mg base CX0 k f fd ps (spD K m)) : Cal P w K mg base x k m :=
  ⟨f, fd, ps, h, g, F.kp, b⟩
/-- the law's own promise -/
theorem law_sp {m : List D → Res RV} {ns : List Int} {a : Addr} {H : Hp} (hS : SqL K H a (ns.map V.int)) (h : ∃ r, m [.list (ns.map PyData.int)] = .ok r ∧ r.d = .bool true) : spD K m [.ref a] H (fun v _ => v = .bl true) fun _ _ _ => False := by
  obtain ⟨r, h1, h2⟩ := h
  refine ⟨H, _, r, Same.refl _, .cons (.lst hS (ints_dps ns)) .nil, h1, fun v H' Z' e hr => ?_⟩
  obtain ⟨Z2, _, hd⟩ := hr.frozen e
  rw [h2] at hd
  cases hd
  rfl
end
end PV

set_option Elab.async false
set_option linter.all false
set_option maxRecDepth 100000
namespace PV
open PySem PySem.Spec L2
set_option autoImplicit false
theorem hu65_of {k : Nat} {A : Around} (r : Room k A) : A.units + 65 < cLine := by have := r.un; omega
theorem hu66_of {k : Nat} {A : Around} (r : Room k A) : A.units + 66 < cLine := by have := r.un; omega
theorem fn_bad {P : Program} {w : World} {K : PySem.W.Frag} {mg : Str → Option Value} {base : Heap} {f : Addr} {fd : FuncData} {ps : List Str} {k : Nat} : FnOk P w K mg base CX0 k f fd ps (spD K fun _ => .bad) :=
  ⟨(fun _ _ _ _ ⟨_, _, _, _, _, h, _⟩ => nomatch h), (fun _ _ _ _ _ _ _ _ _ _ _ _ _ ⟨_, _, _, _, _, h, _⟩ => nomatch h)⟩
/-! a < b < c -/
def eChain (g g' : D → D → Res D) (fa fb fc : Env → Res D) : Env → Res D := fun env => (fa env).bind fun x => (fb env).bind fun y => ((g x y).bind toB).bind fun k => if k = true then (fc env).bind fun z => g' y z else .ok (.bool false)
section
variable {X : Cx} {a b c : Expr} {pos : Pos} {op op' : CmpOp} {r r' : R2} {g g' : D → D → Res D} {fa fb fc : Env → Res D}
theorem chain_red (hg : OpD X.K r g) (hg' : OpD X.K r' g') : ∀ σ H Q, tE X.K (eChain g g' fa fb fc) σ H Q → tChain r r' (tP X.K fa) (tP X.K fb) (tP X.K fc) σ H Q := fun σ H Q ⟨H0, Z0, Z, env, d, hE, hf, q⟩ => by
  obtain ⟨x, h1, hf⟩ := Res.bind_eq hf
  obtain ⟨y, h2, hf⟩ := Res.bind_eq hf
  obtain ⟨k, h3, hf⟩ := Res.bind_eq hf
  obtain ⟨kd, h4, h5⟩ := Res.bind_eq h3
  have := toB_eq h5
  subst this
  refine ⟨H0, Z0, Z, env, x, hE, h1, fun v H1 Z1 e1 d1 => ⟨H0, Z0, Z1, env, y, hE.ext e1, h2, fun w H2 Z2 e2 d2 => ?_⟩⟩
  refine hg Z2 H2 v w x y _ _ e2.zh (d1.ext e2) d2 h4 fun u H3 Z3 e3 hu => ?_
  cases hu
  refine ⟨k, rfl, ?_⟩
  have eA := (e1.trans e2).trans e3
  cases k with
  | true =>
    rw [if_pos rfl] at hf ⊢
    obtain ⟨z, h6, h7⟩ := Res.bind_eq hf
    exact ⟨H0, Z0, Z3, env, z, hE.ext eA, h6, fun u H4 Z4 e4 d4 => hg' Z4 H4 w u y z d Q e4.zh ((d2.ext e3).ext e4) d4 h7 fun s H' Z' e5 hs => q s H' Z' ((eA.trans e4).trans e5) hs⟩
  | false =>
    rw [if_neg Bool.false_ne_true] at hf ⊢
    cases hf
    exact q _ H3 Z3 eA (.bl false)
theorem E_chain (ho : OpR X (compareOp op) r) (hg : OpD X.K r g) (ho' : OpR X (compareOp op') r') (hg' : OpD X.K r' g') (ha : PE X a (tP X.K fa)) (hb : PE X b (tP X.K fb)) (hc : PE X c (tP X.K fc))
    (hm : lastMarks [op, op'] [b, c] = false := by with_unfolding_all rfl) : PE X (.Compare a [op, op'] [b, c] pos) (tE X.K (eChain g g' fa fb fc)) := pe_mono (pe_chain ho ho' ha hb hc hm) (chain_red hg hg')
theorem T_chain (ho : OpR X (compareOp op) r) (hg : OpD X.K r g) (ho' : OpR X (compareOp op') r') (hg' : OpD X.K r' g') (ha : PE X a (tP X.K fa)) (hb : PE X b (tP X.K fb)) (hc : PE X c (tP X.K fc))
    (hm : lastMarks [op, op'] [b, c] = false := by with_unfolding_all rfl) : PT X (.Compare a [op, op'] [b, c] pos) (tT X.K (eB (eChain g g' fa fb fc))) := pt_mono (pt_chain ho ho' ha hb hc hm) fun σ H Q ⟨H0, Z0, Z, env, k, hE, hf, q⟩ => by
  obtain ⟨d, h1, h2⟩ := Res.bind_eq hf
  have := toB_eq h2
  subst this
  refine chain_red hg hg' σ H _ ⟨H0, Z0, Z, env, _, hE, h1, fun v H' Z' e hd => ?_⟩
  cases hd
  exact ⟨k, rfl, q H' Z' e⟩
end
/-! [x] * n, xs[::-1] -/
def gRep : RV → D → Res RV
  | ⟨.list xs, true⟩, .int k => if smallI k = true ∧ xs.length * k.toNat < 1000000 then .ok ⟨.list (List.replicate k.toNat xs).flatten, true⟩ else .bad
  | _, _ => .bad
def eRep (fa : Env → Res RV) (fb : Env → Res D) : Env → Res RV := fun env => (fa env).bind fun x => (fb env).bind fun y => gRep x y
def eRevSl (fa : Env → Res D) : Env → Res RV := fun env => ((fa env).bind listD).bind fun ds => .ok ⟨.list ds.reverse, true⟩
section
variable {X : Cx} {K : PySem.W.Frag} {Z : Hp} {a b e : Expr} {pos p1 p2 p3 : Pos} {fa : Env → Res RV} {fb f : Env → Res D}
theorem dps_rep {vs : List V} {ds : List D} (h : DpAll K Z vs ds) : ∀ n : Nat, DpAll K Z (List.replicate n vs).flatten (List.replicate n ds).flatten
  | 0 => .nil
  | n + 1 => by
    rw [List.replicate_succ, List.replicate_succ, List.flatten_cons, List.flatten_cons]
    exact dps_append h (dps_rep h n)
theorem dps_rev : ∀ {vs : List V} {ds : List D}, DpAll K Z vs ds → DpAll K Z vs.reverse ds.reverse
  | _, _, .nil => .nil
  | _, _, .cons h1 h2 => by
    rw [List.reverse_cons, List.reverse_cons]
    exact dps_append (dps_rev h2) (.cons h1 .nil)
theorem V_rep (ha : PE X a (tV X.K fa)) (hb : PE X b (tP X.K fb)) : PE X (.BinOp a .Mult b pos) (tV X.K (eRep fa fb)) := pe_mono (pe_op op_rep ha hb) fun σ H Q ⟨H0, Z0, Z, env, r, hE, hf, q⟩ => by
  obtain ⟨x, h1, hf⟩ := Res.bind_eq hf
  obtain ⟨y, h2, hf⟩ := Res.bind_eq hf
  refine ⟨H0, Z0, Z, env, x, hE, h1, fun v H1 Z1 e1 d1 => ⟨H0, Z0, Z1, env, y, hE.ext e1, h2, fun w H2 Z2 e2 d2 => ?_⟩⟩
  unfold gRep at hf
  split at hf
  · obtain ⟨⟨k1, k2⟩, hf⟩ := ite_ok hf
    cases hf
    obtain ⟨p, vs, ds, rfl, g1, g2, g3, g4, g5⟩ := d1
    cases g1
    have := d2.int; subst this
    have eA := e1.trans e2
    have s1 := smallI_ok k1
    refine ⟨p, _, vs, rfl, rfl, e2.hh _ _ g4, by omega, by omega, by rw [dps_length g5]; exact Nat.le_of_lt (lim_ok k2), fun p' hp => ?_⟩
    exact q _ _ _ (eA.trans (.made eA.zh hp)) ⟨p', _, _, rfl, rfl, eA.hh.free hp, eA.zh.free hp, upd_same, dps_rep (dps_mono e2.zz g5) _⟩
  · cases hf
theorem V_revSl {k : Nat} (he : PE X e (tP X.K f)) : PE X (.Subscript e (.Slice none none (some (.UnaryOp .USub (.Constant (.int 1) k p1) p2)) p3) pos) (tV X.K (eRevSl f)) := pe_mono (pe_revL he) fun σ H Q ⟨H0, Z0, Z, env, r, hE, hf, q⟩ => by
  obtain ⟨ds, h1, h2⟩ := Res.bind_eq hf
  obtain ⟨d, h0, h1⟩ := Res.bind_eq h1
  have := listD_eq h1; subst this
  cases h2
  refine ⟨H0, Z0, Z, env, _, hE, h0, fun v H1 Z1 e1 d1 => ?_⟩
  obtain ⟨p, vs, rfl, k1, k2⟩ := d1.list e1.zh
  exact ⟨p, vs, rfl, k1, fun a ha => q _ _ _ (e1.trans (.made e1.zh ha)) ⟨a, _, _, rfl, rfl, e1.hh.free ha, e1.zh.free ha, upd_same, dps_rev k2⟩⟩
end
end PV

set_option Elab.async false
set_option linter.all false
set_option maxRecDepth 100000
namespace PV
open PySem PySem.Spec L2
set_option autoImplicit false
/-! ### a call whose answer is plain: the arguments may be lists of one's own -/
def plainD : D → Bool
  | .none => true
  | .bool _ => true
  | .int _ => true
  | .str _ => true
  | _ => false
def eCallS (m : List D → Res RV) (fs : Env → Res (List D)) : Env → Res D := fun env => ((fs env).bind m).bind fun r => if plainD r.d = true then .ok r.d else .bad
section
variable {X : Cx} {x : Str} {k j : Nat} {p p2 pos : Pos} {e : Expr} {es : List Expr} {fs : Env → Res (List D)} {m : List D → Res RV} {K : PySem.W.Frag} {Z H : Hp}
theorem ps_cur : ∀ {vs : List V} {ds : List D}, DpPs K Z H vs ds → Same Z H → DpAll K H vs ds
  | _, _, .nil, _ => .nil
  | _, _, .cons a b, s => .cons (a.cur s) (ps_cur b s)
theorem plain_dp {H' : Hp} {v : V} {d : D} (h : Dp K H v d) (hp : plainD d = true) : Dp K H' v d := by
  cases h with
  | non => exact .non
  | bl b => exact .bl b
  | int i => exact .int i
  | str x => exact .str x
  | lst _ _ => cases hp
  | tup _ _ => cases hp
theorem E_callS (C : Cal X.prog X.w X.K X.mg X.base x k m) (hr : Room j X.A) (ha : PA X (e :: es) (tAp X.K fs)) (hk : k ≤ j := by decide) (hg : Gl X x := by rfl) (hdb : (x == ("__debug__" : Str)) = false := by decide)
    (he : starEach (e :: es) X.env = (false, eval e X.env) :: starEach es X.env := by rfl) (hpl : (backTo pos (starEach es X.env)).any (·.1) = false := by rfl) : PE X (.Call (.Name x p) (e :: es) [] pos) (tE X.K (eCallS m fs)) := by
  obtain ⟨f, fd, ps, F, hm, kp, b⟩ := C.ex
  refine pe_mono (pe_call F (hr.mono hk) hg hm kp b .nil pass0 ha hdb he hpl) fun σ H Q ⟨H0, Z0, Z, env, d, hE, hf, q⟩ => ?_
  obtain ⟨r, h1, h3⟩ := Res.bind_eq hf
  obtain ⟨ds, h1, h2⟩ := Res.bind_eq h1
  obtain ⟨h4, h5⟩ := ite_ok h3
  cases h5
  refine ⟨H0, Z0, Z, env, ds, hE, h1, fun vs H1 Z1 e1 d1 => ⟨H1, ds, r, Same.refl _, by rw [List.append_nil]; exact ps_cur d1 e1.zh, h2, fun v H' Z' e2 hr => ?_⟩⟩
  obtain ⟨Z2, _, hd⟩ := hr.frozen e2
  exact q v H' Z1 (e1.trans ⟨e2.hh, Same.refl _, e1.zh.trans e2.hh, fun _ _ h => h⟩) (plain_dp hd h4)
end
/-! ### evaluation -/
section
variable {α β : Type}
@[simp] theorem eC_ev (d : D) (env : Env) : eC d env = .ok d := Eq.trans rfl rfl
@[simp] theorem eVar_0 (d : D) (r : Env) : eVar 0 (.fz d :: r) = .ok d := Eq.trans rfl rfl
@[simp] theorem eVar_s (i : Nat) (s : Sl) (r : Env) : eVar (i + 1) (s :: r) = eVar i r := Eq.trans rfl rfl
@[simp] theorem ePk_0 (d : D) (r : Env) : ePk 0 (.fz d :: r) = .ok d := Eq.trans rfl rfl
@[simp] theorem ePk_0o (ds : List D) (r : Env) : ePk 0 (.own ds :: r) = .ok (.list ds) := Eq.trans rfl rfl
@[simp] theorem ePk_s (i : Nat) (s : Sl) (r : Env) : ePk (i + 1) (s :: r) = ePk i r := Eq.trans rfl rfl
@[simp] theorem eV_ev (f : Env → Res RV) (env : Env) : eV f env = (f env).bind fun r => .ok r.d := Eq.trans rfl rfl
@[simp] theorem eE_ev (f : Env → Res D) (env : Env) : eE f env = (f env).bind fun d => .ok ⟨d, false⟩ := Eq.trans rfl rfl
@[simp] theorem eOp2_ev (g : D → D → Res α) (fa fb : Env → Res D) (env : Env) : eOp2 g fa fb env = (fa env).bind fun x => (fb env).bind fun y => g x y := Eq.trans rfl rfl
@[simp] theorem eOp1_ev (g : D → Res α) (fa : Env → Res D) (env : Env) : eOp1 g fa env = (fa env).bind g := Eq.trans rfl rfl
@[simp] theorem eBi_ev (g : List D → Res α) (fs : Env → Res (List D)) (env : Env) : eBi g fs env = (fs env).bind g := Eq.trans rfl rfl
@[simp] theorem eCall_ev (m : List D → Res RV) (fs : Env → Res (List D)) (env : Env) : eCall m fs env = (fs env).bind m := Eq.trans rfl rfl
@[simp] theorem eCallS_ev (m : List D → Res RV) (fs : Env → Res (List D)) (env : Env) : eCallS m fs env = ((fs env).bind m).bind fun r => if plainD r.d = true then .ok r.d else .bad := Eq.trans rfl rfl
@[simp] theorem aNil_ev (env : Env) : aNil env = .ok [] := Eq.trans rfl rfl
@[simp] theorem aCons_ev (f : Env → Res D) (g : Env → Res (List D)) (env : Env) : aCons f g env = (f env).bind fun d => (g env).bind fun ds => .ok (d :: ds) := Eq.trans rfl rfl
@[simp] theorem eTup_ev (fs : Env → Res (List D)) (env : Env) : eTup fs env = (fs env).bind fun ds => if ds.length < 1000000 then .ok (.tuple ds) else .bad := Eq.trans rfl rfl
@[simp] theorem eLst_ev (fs : Env → Res (List D)) (env : Env) : eLst fs env = (fs env).bind fun ds => if ds.length < 1000000 then .ok ⟨.list ds, true⟩ else .bad := Eq.trans rfl rfl
@[simp] theorem eB_ev (f : Env → Res D) (env : Env) : eB f env = (f env).bind toB := Eq.trans rfl rfl
@[simp] theorem toB_b (b : Bool) : toB (.bool b) = .ok b := Eq.trans rfl rfl
@[simp] theorem eTr_ev (f : Env → Res D) (env : Env) : eTr f env = (f env).bind truD := Eq.trans rfl rfl
@[simp] theorem truD_b (b : Bool) : truD (.bool b) = .ok b := Eq.trans rfl rfl
@[simp] theorem truD_l (xs : List D) : truD (.list xs) = .ok (!xs.isEmpty) := Eq.trans rfl rfl
@[simp] theorem truD_t (xs : List D) : truD (.tuple xs) = .ok (!xs.isEmpty) := Eq.trans rfl rfl
@[simp] theorem truD_i (i : Int) : truD (.int i) = .ok (i != 0) := Eq.trans rfl rfl
@[simp] theorem truD_n : truD .none = .ok false := Eq.trans rfl rfl
@[simp] theorem bAnd_ev (f g : Env → Res Bool) (env : Env) : bAnd f g env = (f env).bind fun b => if b = true then g env else .ok false := Eq.trans rfl rfl
@[simp] theorem bOr_ev (f g : Env → Res Bool) (env : Env) : bOr f g env = (f env).bind fun b => if b = true then .ok true else g env := Eq.trans rfl rfl
@[simp] theorem bNot_ev (f : Env → Res Bool) (env : Env) : bNot f env = (f env).bind fun b => .ok (!b) := Eq.trans rfl rfl
@[simp] theorem bYes_ev (env : Env) : bYes env = .ok true := Eq.trans rfl rfl
@[simp] theorem eAnd_ev (f g : Env → Res D) (env : Env) : eAnd f g env = ((f env).bind toB).bind fun b => if b = true then g env else .ok (.bool false) := Eq.trans rfl rfl
@[simp] theorem eOr_ev (f g : Env → Res D) (env : Env) : eOr f g env = ((f env).bind toB).bind fun b => if b = true then .ok (.bool true) else g env := Eq.trans rfl rfl
@[simp] theorem eNot_ev (f : Env → Res D) (env : Env) : eNot f env = ((f env).bind toB).bind fun b => .ok (.bool (!b)) := Eq.trans rfl rfl
@[simp] theorem eIf_ev (c : Env → Res Bool) (f g : Env → Res α) (env : Env) : eIf c f g env = (c env).bind fun b => if b = true then f env else g env := Eq.trans rfl rfl
@[simp] theorem eChain_ev (g g' : D → D → Res D) (fa fb fc : Env → Res D) (env : Env) : eChain g g' fa fb fc env = (fa env).bind fun x => (fb env).bind fun y => ((g x y).bind toB).bind fun k => if k = true then (fc env).bind fun z => g' y z else .ok (.bool false) := Eq.trans rfl rfl
@[simp] theorem eOpt_ev (f : Env → Res D) (env : Env) : eOpt f env = (f env).bind fun d => match d with | .int i => .ok (some i) | _ => .bad := Eq.trans rfl rfl
@[simp] theorem eNo_ev (env : Env) : eNo env = .ok none := Eq.trans rfl rfl
@[simp] theorem eSl_ev (fa : Env → Res D) (fl fh : Env → Res (Option Int)) (env : Env) : eSl fa fl fh env = (fa env).bind fun x => (fl env).bind fun l => (fh env).bind fun u => gSl x l u := Eq.trans rfl rfl
@[simp] theorem gSl_l (xs : List D) (lo hi : Option Int) : gSl (.list xs) lo hi = .ok ⟨.list (cutD xs lo hi), true⟩ := Eq.trans rfl rfl
@[simp] theorem eRep_ev (fa : Env → Res RV) (fb : Env → Res D) (env : Env) : eRep fa fb env = (fa env).bind fun x => (fb env).bind fun y => gRep x y := Eq.trans rfl rfl
@[simp] theorem eRevSl_ev (fa : Env → Res D) (env : Env) : eRevSl fa env = ((fa env).bind listD).bind fun ds => .ok ⟨.list ds.reverse, true⟩ := Eq.trans rfl rfl
@[simp] theorem listD_l (xs : List D) : listD (.list xs) = .ok xs := Eq.trans rfl rfl
/-! values -/
@[simp] theorem gAdd_i (i j : Int) : gAdd (.int i) (.int j) = .ok ⟨.int (i + j), false⟩ := Eq.trans rfl rfl
@[simp] theorem gAdd_l (xs ys : List D) : gAdd (.list xs) (.list ys) = if xs.length + ys.length < 1000000 then .ok ⟨.list (xs ++ ys), true⟩ else .bad := Eq.trans rfl rfl
@[simp] theorem gAdd_t (xs ys : List D) : gAdd (.tuple xs) (.tuple ys) = if xs ≠ [] ∧ ys ≠ [] ∧ xs.length + ys.length < 1000000 then .ok ⟨.tuple (xs ++ ys), false⟩ else .bad := Eq.trans rfl rfl
@[simp] theorem gInt_i (c : Int → Int → Bool) (g : Int → Int → D) (i j : Int) : gInt c g (.int i) (.int j) = if c i j = true then .ok (g i j) else .bad := Eq.trans rfl rfl
@[simp] theorem cTrue_t (i j : Int) : cTrue i j = true := Eq.trans rfl rfl
@[simp] theorem gOrd_i (p : Int → Int → Bool) (g : D → D → Bool) (i j : Int) : gOrd p g (.int i) (.int j) = .ok (.bool (p i j)) := Eq.trans rfl rfl
@[simp] theorem gNeg_i (i : Int) : gNeg (.int i) = .ok (.int (-i)) := Eq.trans rfl rfl
theorem shaped_i (i : Int) : SeqAt.shaped (.int i) = true := by simp [SeqAt.shaped, PyData.canLay0, PyData.depth]
theorem shaped_b (i : Bool) : SeqAt.shaped (.bool i) = true := by simp [SeqAt.shaped, PyData.canLay0, PyData.depth]
theorem shaped_s (i : Str) (h : PyData.strOk i = true) : SeqAt.shaped (.str i) = true := by simp [SeqAt.shaped, PyData.canLay0, PyData.depth, h]
theorem shaped_n : SeqAt.shaped .none = true := by simp [SeqAt.shaped, PyData.canLay0, PyData.depth]
theorem gEq_ev (d e : D) (h : SeqAt.shaped d = true) (h' : SeqAt.shaped e = true) : gEq d e = .ok (.bool (PyData.eqv d e)) := by unfold gEq; rw [if_pos ⟨h, h'⟩]
theorem gNe_ev (d e : D) (h : SeqAt.shaped d = true) (h' : SeqAt.shaped e = true) : gNe d e = .ok (.bool (!PyData.eqv d e)) := by unfold gNe; rw [if_pos ⟨h, h'⟩]
@[simp] theorem gEq_i (i j : Int) : gEq (.int i) (.int j) = .ok (.bool (decide (i = j))) := by
  rw [gEq_ev _ _ (shaped_i i) (shaped_i j)]; simp only [PyData.eqv]; congr 2
@[simp] theorem gNe_i (i j : Int) : gNe (.int i) (.int j) = .ok (.bool (!decide (i = j))) := by
  rw [gNe_ev _ _ (shaped_i i) (shaped_i j)]; simp only [PyData.eqv]; congr 3
@[simp] theorem gEq_b (i j : Bool) : gEq (.bool i) (.bool j) = .ok (.bool (decide (i = j))) := by
  rw [gEq_ev _ _ (shaped_b i) (shaped_b j)]; simp only [PyData.eqv]; congr 2
@[simp] theorem gNe_b (i j : Bool) : gNe (.bool i) (.bool j) = .ok (.bool (!decide (i = j))) := by
  rw [gNe_ev _ _ (shaped_b i) (shaped_b j)]; simp only [PyData.eqv]; congr 3
theorem gEq_s (i j : Str) (hi : PyData.strOk i = true) (hj : PyData.strOk j = true) : gEq (.str i) (.str j) = .ok (.bool (decide (i = j))) := by
  rw [gEq_ev _ _ (shaped_s i hi) (shaped_s j hj)]; simp only [PyData.eqv]; congr 2
theorem gNe_s (i j : Str) (hi : PyData.strOk i = true) (hj : PyData.strOk j = true) : gNe (.str i) (.str j) = .ok (.bool (!decide (i = j))) := by
  rw [gNe_ev _ _ (shaped_s i hi) (shaped_s j hj)]; simp only [PyData.eqv]; congr 3
@[simp] theorem gIs_n (d : D) : gIs d .none = .ok (.bool (isNone d)) := by cases d <;> rfl
@[simp] theorem gIs_b (a b : Bool) : gIs (.bool a) (.bool b) = .ok (.bool (decide (a = b))) := Eq.trans rfl rfl
@[simp] theorem gIsNot_n (d : D) : gIsNot d .none = .ok (.bool (!isNone d)) := by cases d <;> rfl
@[simp] theorem gIsNot_b (a b : Bool) : gIsNot (.bool a) (.bool b) = .ok (.bool (!decide (a = b))) := Eq.trans rfl rfl
@[simp] theorem isNone_i (i : Int) : isNone (.int i) = false := Eq.trans rfl rfl
@[simp] theorem isNone_b (i : Bool) : isNone (.bool i) = false := Eq.trans rfl rfl
@[simp] theorem isNone_t (i : List D) : isNone (.tuple i) = false := Eq.trans rfl rfl
@[simp] theorem isNone_l (i : List D) : isNone (.list i) = false := Eq.trans rfl rfl
@[simp] theorem isNone_s (i : Str) : isNone (.str i) = false := Eq.trans rfl rfl
@[simp] theorem isNone_n : isNone .none = true := Eq.trans rfl rfl
/-! subscripts -/
def optR {α : Type} : Option α → Res α
  | some a => .ok a
  | none => .bad
@[simp] theorem optR_some {α : Type} (a : α) : optR (some a) = .ok a := Eq.trans rfl rfl
@[simp] theorem optR_none {α : Type} : optR (none : Option α) = .bad := Eq.trans rfl rfl
@[simp] theorem gIdx_l (xs : List D) (i : Int) : gIdx (.list xs) (.int i) = optR (atI xs i) := by
  show (match atI xs i with | some d => Res.ok d | none => .bad) = _
  cases atI xs i <;> rfl
@[simp] theorem gIdx_t (xs : List D) (i : Int) : gIdx (.tuple xs) (.int i) = optR (atI xs i) := by
  show (match atI xs i with | some d => Res.ok d | none => .bad) = _
  cases atI xs i <;> rfl
theorem atI_of {α : Type} {xs : List α} {i : Int} (h0 : 0 ≤ i) (h1 : i < xs.length) : atI xs i = xs[i.toNat]? := by
  unfold atI ixN
  rw [if_pos h0, if_pos h1]
  rfl
theorem atI_neg {α : Type} {xs : List α} {i : Int} (h0 : i < 0) (h1 : -(xs.length : Int) ≤ i) : atI xs i = xs[(i + xs.length).toNat]? := by
  unfold atI ixN
  rw [if_neg (by omega), if_pos h1]
  rfl
@[simp] theorem atI_0 {α : Type} (x : α) (r : List α) : atI (x :: r) 0 = some x := by rw [atI_of (by omega) (by simp only [List.length_cons]; omega)]; rfl
theorem atI_map {α β : Type} (f : α → β) (xs : List α) (i : Int) : atI (xs.map f) i = (atI xs i).map f := by
  unfold atI
  rw [List.length_map]
  cases ixN xs.length i with
  | none => rfl
  | some j => simp
/-! built-ins -/
@[simp] theorem gLen_l (xs : List D) : gLen [.list xs] = .ok (.int xs.length) := Eq.trans rfl rfl
@[simp] theorem gLen_t (xs : List D) : gLen [.tuple xs] = .ok (.int xs.length) := Eq.trans rfl rfl
@[simp] theorem gAbs_i (i : Int) : gAbs [.int i] = .ok (.int (i.natAbs : Int)) := by
  have : (if i < 0 then -i else i) = (i.natAbs : Int) := by split <;> omega
  rw [← this]; rfl
@[simp] theorem gMax2_i (i j : Int) : gMax2 [.int i, .int j] = .ok (.int (max i j)) := by
  have : (if j > i then j else i) = max i j := by split <;> omega
  rw [← this]; rfl
@[simp] theorem gMin2_i (i j : Int) : gMin2 [.int i, .int j] = .ok (.int (min i j)) := by
  have : (if j < i then j else i) = min i j := by split <;> omega
  rw [← this]; rfl
@[simp] theorem gIntT_i (i : Int) : gIntT [.int i] = .ok (.int i) := Eq.trans rfl rfl
@[simp] theorem gIntT_b (b : Bool) : gIntT [.bool b] = .ok (.int (if b then 1 else 0)) := Eq.trans rfl rfl
@[simp] theorem gGcd_i (i j : Int) : gGcd [.int i, .int j] = .ok (.int (Nat.gcd i.natAbs j.natAbs : Nat)) := Eq.trans rfl rfl
@[simp] theorem gSum_i (ns : List Int) : gSum [.list (ns.map PyData.int)] = .ok (.int ns.sum) := by simp [gSum]
@[simp] theorem gAll_b (ns : List Bool) : gAll [.list (ns.map PyData.bool)] = .ok (.bool (ns.all id)) := by simp [gAll]
@[simp] theorem gAny_b (ns : List Bool) : gAny [.list (ns.map PyData.bool)] = .ok (.bool (ns.any id)) := by simp [gAny]
@[simp] theorem gList_l (xs : List D) : gList [.list xs] = .ok ⟨.list xs, true⟩ := Eq.trans rfl rfl
@[simp] theorem gList_t (xs : List D) : gList [.tuple xs] = .ok ⟨.list xs, true⟩ := Eq.trans rfl rfl
@[simp] theorem gTuple_l (xs : List D) : gTuple [.list xs] = .ok (.tuple xs) := Eq.trans rfl rfl
/-! statements -/
@[simp] theorem andThen_next (e : Env) (g : Env → Out) : (Out.next e).andThen g = g e := Eq.trans rfl rfl
@[simp] theorem andThen_ret (r : RV) (g : Env → Out) : (Out.ret r).andThen g = .ret r := Eq.trans rfl rfl
@[simp] theorem andThen_brk (e : Env) (g : Env → Out) : (Out.brk e).andThen g = .brk e := Eq.trans rfl rfl
@[simp] theorem andThen_cont (e : Env) (g : Env → Out) : (Out.cont e).andThen g = .cont e := Eq.trans rfl rfl
@[simp] theorem andThen_bad (g : Env → Out) : Out.bad.andThen g = .bad := Eq.trans rfl rfl
@[simp] theorem andThen_ite (c : Prop) [Decidable c] (a b : Out) (g : Env → Out) : (if c then a else b).andThen g = if c then a.andThen g else b.andThen g := by split <;> rfl
@[simp] theorem bind_ite (c : Prop) [Decidable c] (a b : Res α) (g : α → Res β) : (if c then a else b).bind g = if c then a.bind g else b.bind g := by split <;> rfl
@[simp] theorem out_ite (c : Prop) [Decidable c] (a b : Res α) (g : α → Out) : (if c then a else b).out g = if c then a.out g else b.out g := by split <;> rfl
@[simp] theorem sNil_ev (env : Env) : sNil env = .next env := Eq.trans rfl rfl
@[simp] theorem sSeq_ev (f g : Env → Out) (env : Env) : sSeq f g env = (f env).andThen g := Eq.trans rfl rfl
@[simp] theorem sBrk_ev (env : Env) : sBrk env = .brk env := Eq.trans rfl rfl
@[simp] theorem sCont_ev (env : Env) : sCont env = .cont env := Eq.trans rfl rfl
@[simp] theorem fz1_0 (ds : List D) (r : Env) : fz1 0 (.own ds :: r) = .fz (.list ds) :: r := Eq.trans rfl rfl
@[simp] theorem fz1_0f (d : D) (r : Env) : fz1 0 (.fz d :: r) = .fz d :: r := Eq.trans rfl rfl
@[simp] theorem fz1_0n (r : Env) : fz1 0 (.no :: r) = .no :: r := Eq.trans rfl rfl
@[simp] theorem fz1_s (i : Nat) (s : Sl) (r : Env) : fz1 (i + 1) (s :: r) = s :: fz1 i r := by
  unfold fz1
  rw [List.getElem?_cons_succ]
  cases r[i]? with
  | none => rfl
  | some x => cases x <;> rfl
@[simp] theorem sFz_ev (is : List Nat) (f : Env → Out) (env : Env) : sFz is f env = f (is.foldl (fun e i => fz1 i e) env) := Eq.trans rfl rfl
@[simp] theorem sExpr_ev (f : Env → Res RV) (env : Env) : sExpr f env = (f env).out fun _ => .next env := Eq.trans rfl rfl
@[simp] theorem sRetV_ev (f : Env → Res RV) (env : Env) : sRetV f env = (f env).out fun r => .ret r := Eq.trans rfl rfl
@[simp] theorem sRetE_ev (f : Env → Res D) (env : Env) : sRetE f env = (f env).out fun d => .ret ⟨d, false⟩ := Eq.trans rfl rfl
@[simp] theorem sRetVar_0f (d : D) (r : Env) : sRetVar 0 (.fz d :: r) = .ret ⟨d, false⟩ := Eq.trans rfl rfl
@[simp] theorem sRetVar_0o (ds : List D) (r : Env) : sRetVar 0 (.own ds :: r) = .ret ⟨.list ds, true⟩ := Eq.trans rfl rfl
@[simp] theorem sRetVar_s (i : Nat) (s : Sl) (r : Env) : sRetVar (i + 1) (s :: r) = sRetVar i r := Eq.trans rfl rfl
@[simp] theorem sRetN_ev (env : Env) : sRetN env = .ret ⟨.none, false⟩ := Eq.trans rfl rfl
@[simp] theorem sIf_ev (c : Env → Res Bool) (f g : Env → Out) (env : Env) : sIf c f g env = (c env).out fun b => if b = true then f env else g env := Eq.trans rfl rfl
@[simp] theorem gNm_f (i : Nat) (d : D) (env : Env) : (gNm i).f d env = if i < env.length then .ok (env.set i (.fz d)) else .bad := Eq.trans rfl rfl
@[simp] theorem gTp_f (n : Nat) (gs : Tgs) (ds : List D) (env : Env) : (gTp n gs).f (.tuple ds) env = if ds.length = n then gs.f ds env else .bad := Eq.trans rfl rfl
@[simp] theorem gsNil_f (env : Env) : gsNil.f [] env = .ok env := Eq.trans rfl rfl
@[simp] theorem gsCons_f (g : Tg) (r : Tgs) (d : D) (ds : List D) (env : Env) : (gsCons g r).f (d :: ds) env = (g.f d env).bind fun env1 => r.f ds env1 := Eq.trans rfl rfl
@[simp] theorem sSetE_ev (g : Tg) (f : Env → Res D) (env : Env) : sSetE g f env = (f env).out fun d => (g.f d env).out fun e => .next e := Eq.trans rfl rfl
@[simp] theorem sSet_ev (i : Nat) (f : Env → Res D) (env : Env) : sSet i f env = (f env).out fun d => if i < env.length then .next (env.set i (.fz d)) else .bad := Eq.trans rfl rfl
@[simp] theorem sSetV_ev (i : Nat) (f : Env → Res RV) (env : Env) : sSetV i f env = (f env).out fun r => if i < env.length then .next (env.set i (slOf r)) else .bad := Eq.trans rfl rfl
@[simp] theorem slOf_l (ds : List D) : slOf ⟨.list ds, true⟩ = .own ds := Eq.trans rfl rfl
@[simp] theorem slOf_f (d : D) : slOf ⟨d, false⟩ = .fz d := by cases d <;> rfl
@[simp] theorem sPar_ev (i j : Nat) (fs : Env → Res (List D)) (env : Env) : sPar i j fs env = (fs env).out fun ds => match ds with
  | [d, d'] => if i < env.length ∧ j < env.length then .next ((env.set i (.fz d)).set j (.fz d')) else .bad
  | _ => .bad := Eq.trans rfl rfl
@[simp] theorem sAug_ev (i : Nat) (g : D → D → Res D) (f : Env → Res D) (env : Env) : sAug i g f env = (eVar i env).out fun x => (f env).out fun y => (g x y).out fun d => .next (env.set i (.fz d)) := Eq.trans rfl rfl
@[simp] theorem sApp_ev (i : Nat) (fe : Env → Res D) (env : Env) : sApp i fe env = (fe env).out fun d => match env[i]? with
  | some (.own ds) => if ds.length < 1000000 then .next (env.set i (.own (ds ++ [d]))) else .bad
  | _ => .bad := Eq.trans rfl rfl
@[simp] theorem sSetIx_ev (i : Nat) (fi fe : Env → Res D) (env : Env) : sSetIx i fi fe env = (fe env).out fun d => (fi env).out fun k => match env[i]?, k with
  | some (.own ds), .int z => match ixN ds.length z with
    | some j => .next (env.set i (.own (ds.set j d)))
    | none => .bad
  | _, _ => .bad := Eq.trans rfl rfl
@[simp] theorem clr_nil (env : Env) : clr [] env = env := Eq.trans rfl rfl
@[simp] theorem clr_cons (i : Nat) (r : List Nat) (env : Env) : clr (i :: r) env = clr r (env.set i .no) := Eq.trans rfl rfl
def outR : Out → Res RV
  | .ret r => .ok r
  | .next _ => .ok ⟨.none, false⟩
  | .exc c => .exc c
  | _ => .bad
@[simp] theorem outR_ret (r : RV) : outR (.ret r) = .ok r := Eq.trans rfl rfl
@[simp] theorem outR_next (e : Env) : outR (.next e) = .ok ⟨.none, false⟩ := Eq.trans rfl rfl
@[simp] theorem outR_exc (c : Str) : outR (.exc c) = .exc c := Eq.trans rfl rfl
@[simp] theorem outR_bad : outR .bad = .bad := Eq.trans rfl rfl
@[simp] theorem outR_ite (c : Prop) [Decidable c] (a b : Out) : outR (if c then a else b) = if c then outR a else outR b := by split <;> rfl
@[simp] theorem fnM_ev (np n : Nat) (body : Env → Out) (ds : List D) : fnM np n body ds = if ds.length = np then outR (body (ds.map Sl.fz ++ List.replicate (n - ds.length) Sl.no)) else .bad := by
  unfold fnM
  split
  · cases body (ds.map Sl.fz ++ List.replicate (n - ds.length) Sl.no) <;> rfl
  · rfl
/-! what is walked -/
@[simp] theorem iSeq_ev (f : Env → Res D) (env : Env) : iSeq f env = (f env).bind seqD := Eq.trans rfl rfl
@[simp] theorem seqD_l (xs : List D) : seqD (.list xs) = .ok xs := Eq.trans rfl rfl
@[simp] theorem seqD_t (xs : List D) : seqD (.tuple xs) = .ok xs := Eq.trans rfl rfl
@[simp] theorem iRange1_ev (f : Env → Res D) (env : Env) : iRange1 f env = (f env).bind fun d => match d with
  | .int j => if smallI j = true then .ok (rangeD 0 j.toNat) else .bad
  | _ => .bad := Eq.trans rfl rfl
@[simp] theorem iRange2_ev (f g : Env → Res D) (env : Env) : iRange2 f g env = (f env).bind fun d => (g env).bind fun e => match d, e with
  | .int i, .int j => if smallI i = true ∧ smallI j = true then .ok (rangeD i (j - i).toNat) else .bad
  | _, _ => .bad := Eq.trans rfl rfl
@[simp] theorem iEnumD_ev (f : Env → Res D) (env : Env) : iEnumD f env = ((f env).bind listD).bind fun ds => .ok (enumD ds) := Eq.trans rfl rfl
@[simp] theorem iRevD_ev (f : Env → Res D) (env : Env) : iRevD f env = ((f env).bind listD).bind fun ds => .ok ds.reverse := Eq.trans rfl rfl
@[simp] theorem gZip_l (xs ys : List D) : gZip (.list xs) (.list ys) = .ok (zipD xs ys) := Eq.trans rfl rfl
@[simp] theorem gZip_t (xs ys : List D) : gZip (.tuple xs) (.tuple ys) = .ok (zipD xs ys) := Eq.trans rfl rfl
theorem smallI_of {i : Int} (h : -1000000000000 ≤ i) (h' : i ≤ 1000000000000) : smallI i = true := by
  unfold smallI
  exact Nat.ble_eq_true_of_le (by omega)
theorem smallI_nat {n : Nat} (h : n ≤ 1000000000000) : smallI (n : Int) = true := smallI_of (by omega) (by omega)
/-! ### loops -/
/-- one turn of a for loop -/
def turn (g : Tg) (dead : List Nat) (body : Env → Out) (d : D) (env : Env) : Out := (g.f d env).out fun e1 => match body e1 with
  | .next e2 => .next (clr dead e2)
  | .cont e2 => .next (clr dead e2)
  | .brk e2 => .brk (clr dead e2)
  | .ret r => .ret r
  | .exc c => .exc c
  | .bad => .bad
def turnO (dead : List Nat) : Out → Out
  | .next e2 => .next (clr dead e2)
  | .cont e2 => .next (clr dead e2)
  | .brk e2 => .brk (clr dead e2)
  | .ret r => .ret r
  | .exc c => .exc c
  | .bad => .bad
@[simp] theorem turnO_next (dead : List Nat) (e : Env) : turnO dead (.next e) = .next (clr dead e) := Eq.trans rfl rfl
@[simp] theorem turnO_cont (dead : List Nat) (e : Env) : turnO dead (.cont e) = .next (clr dead e) := Eq.trans rfl rfl
@[simp] theorem turnO_brk (dead : List Nat) (e : Env) : turnO dead (.brk e) = .brk (clr dead e) := Eq.trans rfl rfl
@[simp] theorem turnO_ret (dead : List Nat) (r : RV) : turnO dead (.ret r) = .ret r := Eq.trans rfl rfl
@[simp] theorem turnO_exc (dead : List Nat) (c : Str) : turnO dead (.exc c) = .exc c := Eq.trans rfl rfl
@[simp] theorem turnO_bad (dead : List Nat) : turnO dead .bad = .bad := Eq.trans rfl rfl
@[simp] theorem turnO_ite (dead : List Nat) (c : Prop) [Decidable c] (a b : Out) : turnO dead (if c then a else b) = if c then turnO dead a else turnO dead b := by split <;> rfl
@[simp] theorem turn_ev (g : Tg) (dead : List Nat) (body : Env → Out) (d : D) (env : Env) : turn g dead body d env = (g.f d env).out fun e1 => turnO dead (body e1) := by
  unfold turn
  cases g.f d env with
  | ok e => cases h : body e <;> simp [h]
  | exc c => rfl
  | bad => rfl
theorem forL_nil (g : Tg) (dead : List Nat) (body : Env → Out) (env : Env) : forL g dead body [] env = .next env := rfl
theorem forL_cons (g : Tg) (dead : List Nat) (body : Env → Out) (d : D) (ds : List D) (env : Env) : forL g dead body (d :: ds) env = match turn g dead body d env with
  | .next e => forL g dead body ds e
  | .brk e => .next e
  | o => o := by
  show (g.f d env).out _ = _
  unfold turn
  cases hg : g.f d env with
  | ok e1 =>
    simp only [Res.out_ok]
    cases body e1 <;> rfl
  | exc c => rfl
  | bad => rfl
/-- a loop that folds: a state st s, a step -/
theorem forL_fold {S : Type} {g : Tg} {dead : List Nat} {body : Env → Out} (enc : α → D) (st : S → Env) (step : S → α → S) (P : S → Prop) : ∀ (xs : List α) (s : S), P s →
    (∀ s x, x ∈ xs → P s → turn g dead body (enc x) (st s) = .next (st (step s x)) ∧ P (step s x)) → forL g dead body (xs.map enc) (st s) = .next (st (xs.foldl step s)) ∧ P (xs.foldl step s)
  | [], s, h, _ => ⟨rfl, h⟩
  | x :: r, s, h, hs => by
    obtain ⟨h1, h2⟩ := hs s x List.mem_cons_self h
    rw [List.map_cons, forL_cons, h1]
    exact forL_fold enc st step P r (step s x) h2 fun s y hy => hs s y (List.mem_cons_of_mem _ hy)
/-- a loop by an invariant over the items gone through -/
theorem forL_inv {g : Tg} {dead : List Nat} {body : Env → Out} {ds : List D} (P : Nat → Env → Prop) : ∀ (env : Env), P 0 env →
    (∀ (i : Nat) d env, ds[i]? = some d → P i env → ∃ e, turn g dead body d env = .next e ∧ P (i + 1) e) → ∃ e, forL g dead body ds env = .next e ∧ P ds.length e := by
  induction ds generalizing P with
  | nil => exact fun env h _ => ⟨env, rfl, h⟩
  | cons d r ih =>
    intro env h hs
    obtain ⟨e, h1, h2⟩ := hs 0 d env rfl h
    obtain ⟨e', h3, h4⟩ := ih (fun i => P (i + 1)) e h2 fun i d' env' hd hp => hs (i + 1) d' env' hd hp
    exact ⟨e', by rw [forL_cons, h1]; exact h3, h4⟩
/-- a loop whose turns change nothing -/
theorem forL_same {g : Tg} {dead : List Nat} {body : Env → Out} {env : Env} : ∀ {ds : List D}, (∀ d ∈ ds, turn g dead body d env = .next env) → forL g dead body ds env = .next env
  | [], _ => rfl
  | d :: r, h => by
    rw [forL_cons, h d List.mem_cons_self]
    exact forL_same fun d' hd => h d' (List.mem_cons_of_mem _ hd)
/-- a loop that looks for the first item that makes it return -/
theorem forL_find {g : Tg} {dead : List Nat} {body : Env → Out} {env : Env} (enc : α → D) (p : α → Option RV) : ∀ (xs : List α), (∀ x ∈ xs, turn g dead body (enc x) env = match p x with | some r => .ret r | none => .next env) →
    forL g dead body (xs.map enc) env = match xs.findSome? p with | some r => .ret r | none => .next env
  | [], _ => rfl
  | x :: r, h => by
    rw [List.map_cons, forL_cons, h x List.mem_cons_self, List.findSome?_cons]
    cases hp : p x with
    | some v => rfl
    | none => exact forL_find enc p r fun y hy => h y (List.mem_cons_of_mem _ hy)
/-- one item of a comprehension -/
def cturn (g : Tg) (c : Env → Res Bool) (fe : Env → Res D) (env : Env) (d : D) : Res (Option D) := (g.f d env).bind fun e1 => (c e1).bind fun b => if b = true then (fe e1).bind fun y => .ok (some y) else .ok none
theorem compL_cons (g : Tg) (c : Env → Res Bool) (fe : Env → Res D) (env : Env) (d : D) (ds : List D) : compL g c fe env (d :: ds) = (cturn g c fe env d).bind fun o => (compL g c fe env ds).bind fun ys => .ok (match o with | some y => y :: ys | none => ys) := by
  show (g.f d env).bind _ = _
  unfold cturn
  cases g.f d env with
  | ok e1 =>
    simp only [Res.bind_ok]
    cases c e1 with
    | ok b =>
      simp only [Res.bind_ok]
      cases b with
      | true =>
        simp only [if_true]
        cases fe e1 <;> rfl
      | false =>
        simp only [Bool.false_eq_true, if_false, Res.bind_ok]
        cases compL g c fe env ds <;> rfl
    | exc c => rfl
    | bad => rfl
  | exc c => rfl
  | bad => rfl
theorem compL_map {g : Tg} {c : Env → Res Bool} {fe : Env → Res D} {env : Env} (enc : α → D) (f : α → D) : ∀ (xs : List α), (∀ x ∈ xs, cturn g c fe env (enc x) = .ok (some (f x))) → compL g c fe env (xs.map enc) = .ok (xs.map f)
  | [], _ => rfl
  | x :: r, h => by
    rw [List.map_cons, compL_cons, h x List.mem_cons_self, compL_map enc f r fun y hy => h y (List.mem_cons_of_mem _ hy)]
    rfl
theorem compL_filter {g : Tg} {c : Env → Res Bool} {fe : Env → Res D} {env : Env} (enc : α → D) (p : α → Bool) (f : α → D) : ∀ (xs : List α), (∀ x ∈ xs, cturn g c fe env (enc x) = .ok (if p x = true then some (f x) else none)) → compL g c fe env (xs.map enc) = .ok ((xs.filter p).map f)
  | [], _ => rfl
  | x :: r, h => by
    rw [List.map_cons, compL_cons, h x List.mem_cons_self, compL_filter enc p f r fun y hy => h y (List.mem_cons_of_mem _ hy)]
    cases hp : p x with
    | true => simp [hp]
    | false => simp [hp]
@[simp] theorem eComp_ev (fi : Env → Res (List D)) (own : List Nat) (g : Tg) (c : Env → Res Bool) (fe : Env → Res D) (env : Env) : eComp fi own g c fe env = (fi env).bind fun ds => (compL g c fe (clr own env) ds).bind fun ys => if ys.length < 1000000 then .ok ⟨.list ys, true⟩ else .bad := Eq.trans rfl rfl
@[simp] theorem sFor_ev (fi : Env → Res (List D)) (g : Tg) (dead : List Nat) (body : Env → Out) (env : Env) : sFor fi g dead body env = (fi env).out fun ds => forL g dead body ds (clr dead env) := Eq.trans rfl rfl
end
end PV

set_option Elab.async false
set_option linter.all false
set_option maxRecDepth 100000
namespace PV
open PySem PySem.Spec L2
set_option autoImplicit false
@[simp] theorem isa_list_none : gIsa "list" .none = .ok (.bool false) := by
  have h : kitB "NoneType" "list" = some false := by decide +kernel
  simp only [gIsa, tyD, h]
@[simp] theorem isa_list_bool (x : Bool) : gIsa "list" (.bool x) = .ok (.bool false) := by
  have h : kitB "bool" "list" = some false := by decide +kernel
  simp only [gIsa, tyD, h]
@[simp] theorem isa_list_int (x : Int) : gIsa "list" (.int x) = .ok (.bool false) := by
  have h : kitB "int" "list" = some false := by decide +kernel
  simp only [gIsa, tyD, h]
@[simp] theorem isa_list_str (x : Str) : gIsa "list" (.str x) = .ok (.bool false) := by
  have h : kitB "str" "list" = some false := by decide +kernel
  simp only [gIsa, tyD, h]
@[simp] theorem isa_list_list (x : List D) : gIsa "list" (.list x) = .ok (.bool true) := by
  have h : kitB "list" "list" = some true := by decide +kernel
  simp only [gIsa, tyD, h]
@[simp] theorem isa_list_tuple (x : List D) : gIsa "list" (.tuple x) = .ok (.bool false) := by
  have h : kitB "tuple" "list" = some false := by decide +kernel
  simp only [gIsa, tyD, h]
@[simp] theorem isa_tuple_none : gIsa "tuple" .none = .ok (.bool false) := by
  have h : kitB "NoneType" "tuple" = some false := by decide +kernel
  simp only [gIsa, tyD, h]
@[simp] theorem isa_tuple_bool (x : Bool) : gIsa "tuple" (.bool x) = .ok (.bool false) := by
  have h : kitB "bool" "tuple" = some false := by decide +kernel
  simp only [gIsa, tyD, h]
@[simp] theorem isa_tuple_int (x : Int) : gIsa "tuple" (.int x) = .ok (.bool false) := by
  have h : kitB "int" "tuple" = some false := by decide +kernel
  simp only [gIsa, tyD, h]
@[simp] theorem isa_tuple_str (x : Str) : gIsa "tuple" (.str x) = .ok (.bool false) := by
  have h : kitB "str" "tuple" = some false := by decide +kernel
  simp only [gIsa, tyD, h]
@[simp] theorem isa_tuple_list (x : List D) : gIsa "tuple" (.list x) = .ok (.bool false) := by
  have h : kitB "list" "tuple" = some false := by decide +kernel
  simp only [gIsa, tyD, h]
@[simp] theorem isa_tuple_tuple (x : List D) : gIsa "tuple" (.tuple x) = .ok (.bool true) := by
  have h : kitB "tuple" "tuple" = some true := by decide +kernel
  simp only [gIsa, tyD, h]
@[simp] theorem isa_bool_none : gIsa "bool" .none = .ok (.bool false) := by
  have h : kitB "NoneType" "bool" = some false := by decide +kernel
  simp only [gIsa, tyD, h]
@[simp] theorem isa_bool_bool (x : Bool) : gIsa "bool" (.bool x) = .ok (.bool true) := by
  have h : kitB "bool" "bool" = some true := by decide +kernel
  simp only [gIsa, tyD, h]
@[simp] theorem isa_bool_int (x : Int) : gIsa "bool" (.int x) = .ok (.bool false) := by
  have h : kitB "int" "bool" = some false := by decide +kernel
  simp only [gIsa, tyD, h]
@[simp] theorem isa_bool_str (x : Str) : gIsa "bool" (.str x) = .ok (.bool false) := by
  have h : kitB "str" "bool" = some false := by decide +kernel
  simp only [gIsa, tyD, h]
@[simp] theorem isa_bool_list (x : List D) : gIsa "bool" (.list x) = .ok (.bool false) := by
  have h : kitB "list" "bool" = some false := by decide +kernel
  simp only [gIsa, tyD, h]
@[simp] theorem isa_bool_tuple (x : List D) : gIsa "bool" (.tuple x) = .ok (.bool false) := by
  have h : kitB "tuple" "bool" = some false := by decide +kernel
  simp only [gIsa, tyD, h]
@[simp] theorem isa_int_none : gIsa "int" .none = .ok (.bool false) := by
  have h : kitB "NoneType" "int" = some false := by decide +kernel
  simp only [gIsa, tyD, h]
@[simp] theorem isa_int_bool (x : Bool) : gIsa "int" (.bool x) = .ok (.bool true) := by
  have h : kitB "bool" "int" = some true := by decide +kernel
  simp only [gIsa, tyD, h]
@[simp] theorem isa_int_int (x : Int) : gIsa "int" (.int x) = .ok (.bool true) := by
  have h : kitB "int" "int" = some true := by decide +kernel
  simp only [gIsa, tyD, h]
@[simp] theorem isa_int_str (x : Str) : gIsa "int" (.str x) = .ok (.bool false) := by
  have h : kitB "str" "int" = some false := by decide +kernel
  simp only [gIsa, tyD, h]
@[simp] theorem isa_int_list (x : List D) : gIsa "int" (.list x) = .ok (.bool false) := by
  have h : kitB "list" "int" = some false := by decide +kernel
  simp only [gIsa, tyD, h]
@[simp] theorem isa_int_tuple (x : List D) : gIsa "int" (.tuple x) = .ok (.bool false) := by
  have h : kitB "tuple" "int" = some false := by decide +kernel
  simp only [gIsa, tyD, h]
@[simp] theorem isa_str_none : gIsa "str" .none = .ok (.bool false) := by
  have h : kitB "NoneType" "str" = some false := by decide +kernel
  simp only [gIsa, tyD, h]
@[simp] theorem isa_str_bool (x : Bool) : gIsa "str" (.bool x) = .ok (.bool false) := by
  have h : kitB "bool" "str" = some false := by decide +kernel
  simp only [gIsa, tyD, h]
@[simp] theorem isa_str_int (x : Int) : gIsa "str" (.int x) = .ok (.bool false) := by
  have h : kitB "int" "str" = some false := by decide +kernel
  simp only [gIsa, tyD, h]
@[simp] theorem isa_str_str (x : Str) : gIsa "str" (.str x) = .ok (.bool true) := by
  have h : kitB "str" "str" = some true := by decide +kernel
  simp only [gIsa, tyD, h]
@[simp] theorem isa_str_list (x : List D) : gIsa "str" (.list x) = .ok (.bool false) := by
  have h : kitB "list" "str" = some false := by decide +kernel
  simp only [gIsa, tyD, h]
@[simp] theorem isa_str_tuple (x : List D) : gIsa "str" (.tuple x) = .ok (.bool false) := by
  have h : kitB "tuple" "str" = some false := by decide +kernel
  simp only [gIsa, tyD, h]
@[simp] theorem plainD_b (b : Bool) : plainD (.bool b) = true := Eq.trans rfl rfl
@[simp] theorem plainD_i (b : Int) : plainD (.int b) = true := Eq.trans rfl rfl
@[simp] theorem plainD_n : plainD .none = true := Eq.trans rfl rfl
@[simp] theorem plainD_s (b : Str) : plainD (.str b) = true := Eq.trans rfl rfl
/-- plain data: depth below n, lists not too long, texts that can be told -/
def Nice : Nat → D → Prop
  | 0, _ => False
  | _ + 1, .none => True
  | _ + 1, .bool _ => True
  | _ + 1, .int _ => True
  | _ + 1, .str s => PyData.strOk s = true
  | n + 1, .list xs => xs.length < 1000000 ∧ ∀ x ∈ xs, Nice n x
  | n + 1, .tuple xs => xs.length < 1000000 ∧ ∀ x ∈ xs, Nice n x
  | _ + 1, .dict _ => False
theorem Nice.mono : ∀ {n m : Nat} {d : D}, Nice n d → n ≤ m → Nice m d
  | 0, _, _, h, _ => h.elim
  | n + 1, 0, _, _, h => absurd h (by omega)
  | n + 1, m + 1, .none, _, _ => True.intro
  | n + 1, m + 1, .bool _, _, _ => True.intro
  | n + 1, m + 1, .int _, _, _ => True.intro
  | n + 1, m + 1, .str _, h, _ => h
  | n + 1, m + 1, .list xs, h, hl => ⟨h.1, fun x hx => Nice.mono (h.2 x hx) (by omega)⟩
  | n + 1, m + 1, .tuple xs, h, hl => ⟨h.1, fun x hx => Nice.mono (h.2 x hx) (by omega)⟩
  | n + 1, m + 1, .dict _, h, _ => h.elim
theorem depthAll_le : ∀ {ds : List D} {n : Nat}, (∀ d ∈ ds, d.depth ≤ n) → PyData.depthAll ds ≤ n
  | [], _, _ => by simp [PyData.depthAll]
  | d :: r, n, h => by
    have h1 := h d List.mem_cons_self
    have h2 := depthAll_le fun x hx => h x (List.mem_cons_of_mem _ hx)
    simp only [PyData.depthAll]
    omega
theorem canLayAll_of : ∀ {ds : List D}, (∀ d ∈ ds, d.canLay0 = true) → PyData.canLayAll0 ds = true
  | [], _ => by simp [PyData.canLayAll0]
  | d :: r, h => by
    have h1 := h d List.mem_cons_self
    have h2 := canLayAll_of fun x hx => h x (List.mem_cons_of_mem _ hx)
    simp only [PyData.canLayAll0, h1, h2, Bool.and_self]
theorem Nice.lay : ∀ {n : Nat} {d : D}, Nice n d → d.canLay0 = true ∧ d.depth ≤ n
  | 0, _, h => h.elim
  | n + 1, .none, _ => ⟨by simp [PyData.canLay0], by simp only [PyData.depth]; omega⟩
  | n + 1, .bool _, _ => ⟨by simp [PyData.canLay0], by simp only [PyData.depth]; omega⟩
  | n + 1, .int _, _ => ⟨by simp [PyData.canLay0], by simp only [PyData.depth]; omega⟩
  | n + 1, .str s, h => ⟨by simp only [PyData.canLay0]; exact h, by simp only [PyData.depth]; omega⟩
  | n + 1, .list xs, h => by
    refine ⟨by simp only [PyData.canLay0]; exact canLayAll_of fun d hd => (Nice.lay (h.2 d hd)).1, ?_⟩
    simp only [PyData.depth]
    exact Nat.succ_le_succ (depthAll_le fun d hd => (Nice.lay (h.2 d hd)).2)
  | n + 1, .tuple xs, h => by
    refine ⟨by simp only [PyData.canLay0]; exact canLayAll_of fun d hd => (Nice.lay (h.2 d hd)).1, ?_⟩
    simp only [PyData.depth]
    exact Nat.succ_le_succ (depthAll_le fun d hd => (Nice.lay (h.2 d hd)).2)
  | n + 1, .dict _, h => h.elim
theorem Nice.shaped {n : Nat} {d : D} (h : Nice n d) (hn : n ≤ 64 := by decide) : SeqAt.shaped d = true := by
  obtain ⟨h1, h2⟩ := h.lay
  unfold SeqAt.shaped
  simp only [Bool.and_eq_true, decide_eq_true_eq]
  exact ⟨h1, by omega⟩
theorem Nice.int {n : Nat} {i : Int} : Nice (n + 1) (.int i) := True.intro
theorem Nice.bool {n : Nat} {i : Bool} : Nice (n + 1) (.bool i) := True.intro
theorem Nice.none {n : Nat} : Nice (n + 1) .none := True.intro
theorem Nice.str {n : Nat} {s : Str} (h : PyData.strOk s = true) : Nice (n + 1) (.str s) := h
theorem Nice.list {n : Nat} {xs : List D} (hl : xs.length < 1000000) (h : ∀ x ∈ xs, Nice n x) : Nice (n + 1) (.list xs) := ⟨hl, h⟩
theorem Nice.tuple {n : Nat} {xs : List D} (hl : xs.length < 1000000) (h : ∀ x ∈ xs, Nice n x) : Nice (n + 1) (.tuple xs) := ⟨hl, h⟩
theorem Nice.map {α : Type} {n : Nat} {xs : List α} {f : α → D} (hl : xs.length < 1000000) (h : ∀ x ∈ xs, Nice n (f x)) : Nice (n + 1) (.list (xs.map f)) := ⟨by rw [List.length_map]; exact hl, fun d hd => by
  obtain ⟨x, hx, rfl⟩ := List.mem_map.mp hd
  exact h x hx⟩
theorem Nice.ints {n : Nat} {xs : List Int} (hl : xs.length < 1000000) : Nice (n + 2) (.list (xs.map PyData.int)) := Nice.map hl fun _ _ => Nice.int
theorem Nice.eq {n m : Nat} {d e : D} (h : Nice n d) (h' : Nice m e) (hn : n ≤ 64 := by decide) (hm : m ≤ 64 := by decide) : gEq d e = .ok (.bool (PyData.eqv d e)) := gEq_ev d e (h.shaped hn) (h'.shaped hm)
theorem Nice.ne {n m : Nat} {d e : D} (h : Nice n d) (h' : Nice m e) (hn : n ≤ 64 := by decide) (hm : m ≤ 64 := by decide) : gNe d e = .ok (.bool (!PyData.eqv d e)) := gNe_ev d e (h.shaped hn) (h'.shaped hm)
theorem eqvAll_self {n : Nat} : ∀ {ds : List D}, (∀ d ∈ ds, PyData.eqv d d = true) → PyData.eqvAll ds ds = true
  | [], _ => by simp [PyData.eqvAll]
  | d :: r, h => by
    simp only [PyData.eqvAll, h d List.mem_cons_self, eqvAll_self (n := n) fun x hx => h x (List.mem_cons_of_mem _ hx), Bool.and_self]
theorem Nice.self : ∀ {n : Nat} {d : D}, Nice n d → PyData.eqv d d = true
  | 0, _, h => h.elim
  | n + 1, .none, _ => by simp [PyData.eqv]
  | n + 1, .bool _, _ => by simp [PyData.eqv]
  | n + 1, .int _, _ => by simp [PyData.eqv]
  | n + 1, .str s, h => by simp [PyData.eqv]
  | n + 1, .list xs, h => by simp only [PyData.eqv]; exact eqvAll_self (n := n) fun d hd => Nice.self (h.2 d hd)
  | n + 1, .tuple xs, h => by simp only [PyData.eqv]; exact eqvAll_self (n := n) fun d hd => Nice.self (h.2 d hd)
  | n + 1, .dict _, h => h.elim
@[simp] theorem eqv_i (i j : Int) : PyData.eqv (.int i) (.int j) = decide (i = j) := by simp only [PyData.eqv]; exact Bool.beq_eq_decide_eq i j
@[simp] theorem eqv_t (xs ys : List D) : PyData.eqv (.tuple xs) (.tuple ys) = PyData.eqvAll xs ys := by simp only [PyData.eqv]
@[simp] theorem eqv_l (xs ys : List D) : PyData.eqv (.list xs) (.list ys) = PyData.eqvAll xs ys := by simp only [PyData.eqv]
@[simp] theorem eqvAll_c (x y : D) (xs ys : List D) : PyData.eqvAll (x :: xs) (y :: ys) = (PyData.eqv x y && PyData.eqvAll xs ys) := by simp only [PyData.eqvAll]
@[simp] theorem eqvAll_n : PyData.eqvAll [] [] = true := by simp only [PyData.eqvAll]
@[simp] theorem eqvAll_cn (x : D) (xs : List D) : PyData.eqvAll (x :: xs) [] = false := by simp only [PyData.eqvAll]
@[simp] theorem eqvAll_nc (x : D) (xs : List D) : PyData.eqvAll [] (x :: xs) = false := by simp only [PyData.eqvAll]
/-- equality of lists whose items are told by an encoding -/
theorem eqvAll_maps {α : Type} [DecidableEq α] {f : α → D} (hf : ∀ x y, PyData.eqv (f x) (f y) = decide (x = y)) : ∀ xs ys : List α, PyData.eqvAll (xs.map f) (ys.map f) = decide (xs = ys)
  | [], [] => by simp
  | [], y :: ys => by simp
  | x :: xs, [] => by simp
  | x :: xs, y :: ys => by
    rw [List.map_cons, List.map_cons, eqvAll_c, hf, eqvAll_maps hf xs ys, ← Bool.decide_and]
    exact decide_eq_decide.mpr (by rw [List.cons.injEq])
/-- in a list whose items are told by an encoding -/
theorem any_maps {α : Type} [DecidableEq α] {f : α → D} (hf : ∀ x y, PyData.eqv (f x) (f y) = decide (x = y)) (xs : List α) (x : α) : ((xs.map f).any fun z => PyData.eqv z (f x)) = decide (x ∈ xs) := by
  rw [Bool.eq_iff_iff, List.any_eq_true, decide_eq_true_eq]
  constructor
  · rintro ⟨d, hd, h⟩
    obtain ⟨y, hy, rfl⟩ := List.mem_map.mp hd
    rw [hf, decide_eq_true_eq] at h
    rw [← h]; exact hy
  · intro h
    exact ⟨f x, List.mem_map_of_mem h, by rw [hf]; simp⟩
theorem gIn_maps {α : Type} [DecidableEq α] {f : α → D} {n : Nat} (hf : ∀ x y, PyData.eqv (f x) (f y) = decide (x = y)) (hn : ∀ x, Nice n (f x)) (h64 : n < 64) {xs : List α} (hl : xs.length < 1000000) (x : α) : gIn (f x) (.list (xs.map f)) = .ok (.bool (decide (x ∈ xs))) := by
  unfold gIn
  simp only
  rw [if_pos ⟨(hn x).shaped (by omega), (Nice.map hl fun y _ => hn y).shaped (by omega)⟩, any_maps hf]
theorem gNotIn_maps {α : Type} [DecidableEq α] {f : α → D} {n : Nat} (hf : ∀ x y, PyData.eqv (f x) (f y) = decide (x = y)) (hn : ∀ x, Nice n (f x)) (h64 : n < 64) {xs : List α} (hl : xs.length < 1000000) (x : α) : gNotIn (f x) (.list (xs.map f)) = .ok (.bool (!decide (x ∈ xs))) := by
  unfold gNotIn
  simp only
  rw [if_pos ⟨(hn x).shaped (by omega), (Nice.map hl fun y _ => hn y).shaped (by omega)⟩, any_maps hf]
/-! ### order, sorting, the least -/
open PySem.W in
theorem alikeL_maps {α : Type} {f : α → D} (h : ∀ x y, alike (f x) (f y) = true) (xs : List α) : alikeL (xs.map f) = true := by
  unfold alikeL
  simp only [List.all_map, List.all_eq_true, Function.comp]
  exact fun x _ y _ => h x y
theorem noNone_maps {α : Type} {f : α → D} (h : ∀ x, f x ≠ .none) (xs : List α) : noNone (xs.map f) = true := by
  unfold noNone
  simp only [List.all_map, List.all_eq_true, Function.comp]
  intro x _
  have := h x
  split
  · rename_i e; exact absurd e this
  · rfl
/-- a linear order by a Bool relation -/
structure LinB {α : Type} (le : α → α → Bool) : Prop where
  total : ∀ a b, (le a b || le b a) = true
  trans : ∀ a b c, le a b = true → le b c = true → le a c = true
  anti : ∀ a b, le a b = true → le b a = true → a = b
theorem sort_perm_eq {α : Type} {le : α → α → Bool} (h : LinB le) {xs ys : List α} (hp : xs.Perm ys) : xs.mergeSort le = ys.mergeSort le :=
  ((List.mergeSort_perm xs le).trans (hp.trans (List.mergeSort_perm ys le).symm)).eq_of_pairwise (le := fun a b => le a b = true)
    (fun a b _ _ h1 h2 => h.anti a b h1 h2) (List.pairwise_mergeSort (fun a b c h1 h2 => h.trans a b c h1 h2) (fun a b => h.total a b) xs) (List.pairwise_mergeSort (fun a b c h1 h2 => h.trans a b c h1 h2) (fun a b => h.total a b) ys)
theorem sort_eq_perm {α : Type} {le : α → α → Bool} {xs ys : List α} (h : xs.mergeSort le = ys.mergeSort le) : xs.Perm ys :=
  (List.mergeSort_perm xs le).symm.trans (by rw [h]; exact List.mergeSort_perm ys le)

/-- a loop that folds, told by the number of the turn -/
theorem forL_foldI {α S : Type} {g : Tg} {dead : List Nat} {body : Env → Out} (enc : α → D) (st : S → Env) (step : S → α → S) : ∀ (xs : List α) (P : Nat → S → Prop) (s : S), P 0 s →
    (∀ (i : Nat) s x, xs[i]? = some x → P i s → turn g dead body (enc x) (st s) = .next (st (step s x)) ∧ P (i + 1) (step s x)) → forL g dead body (xs.map enc) (st s) = .next (st (xs.foldl step s)) ∧ P xs.length (xs.foldl step s)
  | [], P, s, h, _ => ⟨rfl, h⟩
  | x :: r, P, s, h, hs => by
    obtain ⟨h1, h2⟩ := hs 0 s x rfl h
    rw [List.map_cons, forL_cons, h1]
    exact forL_foldI enc st step r (fun i => P (i + 1)) (step s x) h2 fun i s y hy => hs (i + 1) s y hy
theorem foldl_filter {α β : Type} (p : α → Bool) (f : α → β) : ∀ (xs : List α) (s : List β), xs.foldl (fun s x => if p x = true then s ++ [f x] else s) s = s ++ (xs.filter p).map f
  | [], s => by simp
  | x :: r, s => by
    rw [List.foldl_cons, foldl_filter p f r]
    cases h : p x with
    | true => simp [h]
    | false => simp [h]
theorem foldl_snoc {α β : Type} (f : α → β) : ∀ (xs : List α) (s : List β), xs.foldl (fun s x => s ++ [f x]) s = s ++ xs.map f
  | [], s => by simp
  | x :: r, s => by rw [List.foldl_cons, foldl_snoc f r]; simp
end PV

set_option Elab.async false
set_option linter.all false
set_option maxRecDepth 100000
namespace PV
open PySem PySem.Spec L2 PyProof.Rows
set_option autoImplicit false
/-! a < b < c < d -/
def tChain3 (r r' r'' : R2) (ta tb tc td : TE) : TE := fun σ H Q => ta σ H fun x H1 => tb σ H1 fun y H2 => r x y H2 fun z H3 => ∃ k, z = .bl k ∧
  (if k = true then tc σ H3 fun w' H4 => r' y w' H4 fun z2 H5 => ∃ k2, z2 = .bl k2 ∧ (if k2 = true then td σ H5 fun u' H6 => r'' w' u' H6 Q else Q (.bl false) H5) else Q (.bl false) H3)
section
variable {X : Cx} {a b c d : Expr} {pos : Pos} {op op' op'' : CmpOp} {r r' r'' : R2} {ta tb tc td : TE}
theorem pe_chain3 (ho : OpR X (compareOp op) r) (ho' : OpR X (compareOp op') r') (ho'' : OpR X (compareOp op'') r'') (ha : PE X a ta) (hb : PE X b tb) (hc : PE X c tc) (hd : PE X d td)
    (hm : lastMarks [op, op', op''] [b, c, d] = false := by with_unfolding_all rfl) : PE X (.Compare a [op, op', op''] [b, c, d] pos) (tChain3 r r' r'' ta tb tc td) := by
  refine ⟨fun pins s σ H Q I h => ?_⟩
  refine Compare_chain (thn (ha.run pins s σ H _ I h) fun v s1 ⟨x, H1, I1, r1, q1⟩ => chain_link (thn (hb.run pins s1 σ H1 _ I1 q1) fun u s2 ⟨y, H2, I2, r2, q2⟩ =>
    thn (ho pins s2 σ H2 x y v u _ I2 r1 r2 q2) fun d s3 ⟨z, H3, I3, r3, k, e, q3⟩ => ?_)) hm
  subst e
  cases r3
  refine wpAny_truthy_bool ?_
  cases k with
  | false => exact ite_ff ⟨.bl false, H3, I3, rfl, q3⟩
  | true =>
    refine ite_tt (chain_link (thn (hc.run pins s3 σ H3 _ I3 q3) fun w' s4 ⟨z', H4, I4, r4, q4⟩ => thn (ho' pins s4 σ H4 y z' u w' _ I4 r2 r4 q4) fun d' s5 ⟨z2, H5, I5, r5, k2, e2, q5⟩ => ?_))
    subst e2
    cases r5
    refine wpAny_truthy_bool ?_
    cases k2 with
    | false => exact ite_ff ⟨.bl false, H5, I5, rfl, q5⟩
    | true => exact ite_tt (chain_last (thn (hd.run pins s5 σ H5 _ I5 q5) fun u' s6 ⟨z3, H6, I6, r6, q6⟩ => ho'' pins s6 σ H6 z' z3 w' u' Q I6 r4 r6 q6))
theorem pt_chain3 (ho : OpR X (compareOp op) r) (ho' : OpR X (compareOp op') r') (ho'' : OpR X (compareOp op'') r'') (ha : PE X a ta) (hb : PE X b tb) (hc : PE X c tc) (hd : PE X d td)
    (hm : lastMarks [op, op', op''] [b, c, d] = false := by with_unfolding_all rfl) : PT X (.Compare a [op, op', op''] [b, c, d] pos) (tTest (tChain3 r r' r'' ta tb tc td)) := by
  refine ⟨fun pins s σ H Q I h => ?_⟩
  refine isTrue_chain (thn (ha.run pins s σ H _ I h) fun v s1 ⟨x, H1, I1, r1, q1⟩ => test_link (thn (hb.run pins s1 σ H1 _ I1 q1) fun u s2 ⟨y, H2, I2, r2, q2⟩ =>
    thn (ho pins s2 σ H2 x y v u _ I2 r1 r2 q2) fun d s3 ⟨z, H3, I3, r3, k, e, q3⟩ => ?_)) hm
  subst e
  cases r3
  refine wpAny_truthy_bool ?_
  cases k with
  | false =>
    obtain ⟨k', e', q'⟩ := q3
    cases e'
    exact ite_ff ⟨H3, I3, q'⟩
  | true =>
    refine ite_tt (test_link (thn (hc.run pins s3 σ H3 _ I3 q3) fun w' s4 ⟨z', H4, I4, r4, q4⟩ => thn (ho' pins s4 σ H4 y z' u w' _ I4 r2 r4 q4) fun d' s5 ⟨z2, H5, I5, r5, k2, e2, q5⟩ => ?_))
    subst e2
    cases r5
    refine wpAny_truthy_bool ?_
    cases k2 with
    | false =>
      obtain ⟨k', e', q'⟩ := q5
      cases e'
      exact ite_ff ⟨H5, I5, q'⟩
    | true =>
      refine ite_tt (test_last (thn (hd.run pins s5 σ H5 _ I5 q5) fun u' s6 ⟨z3, H6, I6, r6, q6⟩ => thn (ho'' pins s6 σ H6 z' z3 w' u' _ I6 r4 r6 q6) fun d' s7 ⟨z4, H7, I7, r7, k3, e3, q7⟩ => ?_))
      subst e3
      cases r7
      exact wpAny_truthy_bool ⟨H7, I7, q7⟩
end
def eChain3 (g g' g'' : D → D → Res D) (fa fb fc fd : Env → Res D) : Env → Res D := fun env => (fa env).bind fun x => (fb env).bind fun y => ((g x y).bind toB).bind fun k => if k = true then (fc env).bind fun z => ((g' y z).bind toB).bind fun k2 => if k2 = true then (fd env).bind fun u => g'' z u else .ok (.bool false) else .ok (.bool false)
@[simp] theorem eChain3_ev (g g' g'' : D → D → Res D) (fa fb fc fd : Env → Res D) (env : Env) : eChain3 g g' g'' fa fb fc fd env = (fa env).bind fun x => (fb env).bind fun y => ((g x y).bind toB).bind fun k => if k = true then (fc env).bind fun z => ((g' y z).bind toB).bind fun k2 => if k2 = true then (fd env).bind fun u => g'' z u else .ok (.bool false) else .ok (.bool false) := Eq.trans rfl rfl
section
variable {X : Cx} {a b c d : Expr} {pos : Pos} {op op' op'' : CmpOp} {r r' r'' : R2} {g g' g'' : D → D → Res D} {fa fb fc fd : Env → Res D}
theorem chain3_red (hg : OpD X.K r g) (hg' : OpD X.K r' g') (hg'' : OpD X.K r'' g'') : ∀ σ H Q, tE X.K (eChain3 g g' g'' fa fb fc fd) σ H Q → tChain3 r r' r'' (tP X.K fa) (tP X.K fb) (tP X.K fc) (tP X.K fd) σ H Q := fun σ H Q ⟨H0, Z0, Z, env, d, hE, hf, q⟩ => by
  obtain ⟨x, h1, hf⟩ := Res.bind_eq hf
  obtain ⟨y, h2, hf⟩ := Res.bind_eq hf
  obtain ⟨k, h3, hf⟩ := Res.bind_eq hf
  obtain ⟨kd, h4, h5⟩ := Res.bind_eq h3
  have := toB_eq h5
  subst this
  refine ⟨H0, Z0, Z, env, x, hE, h1, fun v H1 Z1 e1 d1 => ⟨H0, Z0, Z1, env, y, hE.ext e1, h2, fun w H2 Z2 e2 d2 => ?_⟩⟩
  refine hg Z2 H2 v w x y _ _ e2.zh (d1.ext e2) d2 h4 fun u H3 Z3 e3 hu => ?_
  cases hu
  refine ⟨k, rfl, ?_⟩
  have eA := (e1.trans e2).trans e3
  cases k with
  | true =>
    rw [if_pos rfl] at hf ⊢
    obtain ⟨z, h6, hf⟩ := Res.bind_eq hf
    obtain ⟨k2, h7, hf⟩ := Res.bind_eq hf
    obtain ⟨kd2, h8, h9⟩ := Res.bind_eq h7
    have := toB_eq h9
    subst this
    refine ⟨H0, Z0, Z3, env, z, hE.ext eA, h6, fun u H4 Z4 e4 d4 => ?_⟩
    refine hg' Z4 H4 w u y z _ _ e4.zh ((d2.ext e3).ext e4) d4 h8 fun s H5 Z5 e5 hs => ?_
    cases hs
    refine ⟨k2, rfl, ?_⟩
    have eB := (eA.trans e4).trans e5
    cases k2 with
    | true =>
      rw [if_pos rfl] at hf ⊢
      obtain ⟨z3, h10, h11⟩ := Res.bind_eq hf
      exact ⟨H0, Z0, Z5, env, z3, hE.ext eB, h10, fun u' H6 Z6 e6 d6 => hg'' Z6 H6 u u' z z3 d Q e6.zh ((d4.ext e5).ext e6) d6 h11 fun s H' Z' e7 hs => q s H' Z' ((eB.trans e6).trans e7) hs⟩
    | false =>
      rw [if_neg Bool.false_ne_true] at hf ⊢
      cases hf
      exact q _ H5 Z5 eB (.bl false)
  | false =>
    rw [if_neg Bool.false_ne_true] at hf ⊢
    cases hf
    exact q _ H3 Z3 eA (.bl false)
theorem E_chain3 (ho : OpR X (compareOp op) r) (hg : OpD X.K r g) (ho' : OpR X (compareOp op') r') (hg' : OpD X.K r' g') (ho'' : OpR X (compareOp op'') r'') (hg'' : OpD X.K r'' g'') (ha : PE X a (tP X.K fa)) (hb : PE X b (tP X.K fb)) (hc : PE X c (tP X.K fc)) (hd : PE X d (tP X.K fd))
    (hm : lastMarks [op, op', op''] [b, c, d] = false := by with_unfolding_all rfl) : PE X (.Compare a [op, op', op''] [b, c, d] pos) (tE X.K (eChain3 g g' g'' fa fb fc fd)) := pe_mono (pe_chain3 ho ho' ho'' ha hb hc hd hm) (chain3_red hg hg' hg'')
theorem T_chain3 (ho : OpR X (compareOp op) r) (hg : OpD X.K r g) (ho' : OpR X (compareOp op') r') (hg' : OpD X.K r' g') (ho'' : OpR X (compareOp op'') r'') (hg'' : OpD X.K r'' g'') (ha : PE X a (tP X.K fa)) (hb : PE X b (tP X.K fb)) (hc : PE X c (tP X.K fc)) (hd : PE X d (tP X.K fd))
    (hm : lastMarks [op, op', op''] [b, c, d] = false := by with_unfolding_all rfl) : PT X (.Compare a [op, op', op''] [b, c, d] pos) (tT X.K (eB (eChain3 g g' g'' fa fb fc fd))) := pt_mono (pt_chain3 ho ho' ho'' ha hb hc hd hm) fun σ H Q ⟨H0, Z0, Z, env, k, hE, hf, q⟩ => by
  obtain ⟨d, h1, h2⟩ := Res.bind_eq hf
  have := toB_eq h2
  subst this
  refine chain3_red hg hg' hg'' σ H _ ⟨H0, Z0, Z, env, _, hE, h1, fun v H' Z' e hd => ?_⟩
  cases hd
  exact ⟨k, rfl, q H' Z' e⟩
end
end PV

set_option Elab.async false
set_option linter.all false
set_option maxRecDepth 100000
namespace PV
open PySem PySem.Spec L2
set_option autoImplicit false
/-! constants of the module -/
def KItem (K : PySem.W.Frag) (u : Value) (d : D) : Prop := ∃ v, RelV v u ∧ ∀ H, Dp K H v d
def KItems (K : PySem.W.Frag) (us : List Value) (ds : List D) : Prop := ∃ vs, Vals vs us ∧ ∀ H, DpAll K H vs ds
def Kst (K : PySem.W.Frag) (mg : Str → Option Value) (x : Str) (d : D) : Prop := ∃ u, mg x = some u ∧ KItem K u d
section
variable {K : PySem.W.Frag} {mg : Str → Option Value} {x : Str}
theorem kst_mk {u : Value} {d : D} (e : mg x = some u) (h : KItem K u d) : Kst K mg x d := ⟨u, e, h⟩
theorem ki_int {i : Int} {t : Tok} : KItem K (.int i t) (.int i) := ⟨.int i, ⟨t, rfl⟩, fun _ => .int i⟩
theorem ki_str {i : Str} {t : Tok} : KItem K (.str i t) (.str i) := ⟨.str i, ⟨t, rfl⟩, fun _ => .str i⟩
theorem ki_bool {i : Bool} : KItem K (.bool i) (.bool i) := ⟨.bl i, rfl, fun _ => .bl i⟩
theorem ki_none : KItem K .none .none := ⟨.non, rfl, fun _ => .non⟩
theorem kis_nil : KItems K [] [] := ⟨[], .nil, fun _ => .nil⟩
theorem kis_cons {u : Value} {us : List Value} {d : D} {ds : List D} (h : KItem K u d) (t : KItems K us ds) : KItems K (u :: us) (d :: ds) := by
  obtain ⟨v, h1, h2⟩ := h
  obtain ⟨vs, h3, h4⟩ := t
  exact ⟨v :: vs, .cons h1 h3, fun H => .cons (h2 H) (h4 H)⟩
theorem ki_tup {a : Addr} {dc : Option Addr} {us : List Value} {n : Nat} {sl : Array (Option Value)} {ds : List D} (l : K.lookup a = some ⟨.type "tuple", dc, .seq ⟨us⟩ n, sl⟩) (h : KItems K us ds) (hs : Nat.ble us.length 10000 = true := by rfl) : KItem K (.ref a) (.tuple ds) := by
  obtain ⟨vs, h1, h2⟩ := h
  exact ⟨.ref a, rfl, fun H => .tup (.inr ⟨_, ⟨us⟩, n, l, rfl, rfl, Nat.le_trans (Nat.le_of_ble_eq_true hs) (by decide), h1⟩) (h2 H)⟩
theorem ki_lst {a : Addr} {us : List Value} {n : Nat} {sl : Array (Option Value)} {ds : List D} (l : K.lookup a = some ⟨.type "list", none, .seq ⟨us⟩ n, sl⟩) (h : KItems K us ds) (hs : Nat.ble us.length 10000 = true := by rfl) : KItem K (.ref a) (.list ds) := by
  obtain ⟨vs, h1, h2⟩ := h
  exact ⟨.ref a, rfl, fun H => .lst (.inr ⟨_, ⟨us⟩, n, l, rfl, rfl, rfl, Nat.le_trans (Nat.le_of_ble_eq_true hs) (by decide), h1⟩) (h2 H)⟩
end
theorem E_glob {X : Cx} {x : Str} {d : D} {pos : Pos} (h : Kst X.K X.mg x d) (hg : Gl X x := by rfl) (hdb : (x == ("__debug__" : Str)) = false := by decide) : PE X (.Name x pos) (tE X.K (eC d)) := by
  obtain ⟨u, h1, v, h2, h3⟩ := h
  exact E_c (pe_glob hg h1 h2 (hd := hdb)) h3
end PV

set_option Elab.async false
set_option linter.all false
set_option maxRecDepth 100000
namespace PV
open PySem PySem.Spec L2
set_option autoImplicit false
/-! xs.index(x) -/
def gIndex : D → D → Res D
  | .list ds, d => if SeqAt.shaped (.list ds) = true ∧ SeqAt.shaped d = true then (match ds.findIdx? fun z => PyData.eqv z d with
    | some j => .ok (.int (j : Int))
    | none => .bad) else .bad
  | _, _ => .bad
section
variable {X : Cx} {o e : Expr} {apos cpos : Pos} {fo fe : Env → Res D}
theorem index_red : ∀ σ H Q, tE X.K (eOp2 gIndex fo fe) σ H Q → tBM X.K "list" (rIndexD X.K) (tP X.K fo) (tCons (tP X.K fe) tNil) σ H Q := fun σ H Q ⟨H0, Z0, Z, env, r, hE, hf, q⟩ => by
  obtain ⟨x, h1, hfa⟩ := Res.bind_eq hf
  obtain ⟨y, h2, hfb⟩ := Res.bind_eq hfa
  clear hf hfa
  refine ⟨H0, Z0, Z, env, x, hE, h1, fun v H1 Z1 e1 d1 => ?_⟩
  unfold gIndex at hfb
  split at hfb
  · rename_i ds
    obtain ⟨⟨k1, k2⟩, hfc⟩ := ite_ok hfb
    clear hfb
    split at hfc
    · rename_i j hj
      cases hfc
      obtain ⟨p, vs, rfl, g1, g2⟩ := d1.list e1.zh
      refine ⟨.inl ⟨rfl, vs, g1⟩, ?_⟩
      refine ⟨H0, Z0, Z1, env, y, hE.ext e1, h2, fun w H2 Z2 e2 d2 => ?_⟩
      obtain ⟨hlt, hp, hno⟩ := List.findIdx?_eq_some_iff_getElem.mp hj
      refine ⟨p, w, y, ds, j, ds[j], rfl, rfl, (d1.ext e2).cur e2.zh, d2.cur e2.zh, k1, k2, List.getElem?_eq_getElem hlt, hp, fun m z' hm hz => ?_, q _ H2 Z2 (e1.trans e2) (.int _)⟩
      obtain ⟨hml, rfl⟩ := List.getElem?_eq_some_iff.mp hz
      have := hno m hm
      simpa using this
    · cases hfc
  · cases hfb
theorem E_index (hu : X.A.units + 65 < cLine) (ho : PE X o (tP X.K fo)) (he : PE X e (tP X.K fe)) (hbase : attributeBase o "index" X.env (eval o X.env) = eval o X.env := by rfl)
    (hfew : ((backTo cpos (starEach [e] X.env)).all (fun x => !x.1) && (backToKw cpos (keywordEach [] X.env)).all (fun x => x.1.isSome)
      && decide ([e].length + ([] : List Keyword).length + (if ([] : List Keyword).isEmpty then 0 else 1) < 30)) = true := by rfl)
    (hline : (apos.endLine == cpos.line) = true := by rfl) (hs : starEach [e] X.env = (false, eval e X.env) :: starEach [] X.env := by rfl) (hplain : (backTo cpos (starEach [] X.env)).any (·.1) = false := by rfl) :
    PE X (.Call (.Attribute o "index" apos) [e] [] cpos) (tE X.K (eOp2 gIndex fo fe)) :=
  pe_mono (pe_bm PySem.F.plainAttrs_list PySem.F.slot_list_index PySem.F.type_list_index (mt_indexD hu) ho (pa_cons he pa_nil hs) hbase hfew hline hs hplain) index_red
end
theorem gIndex_map {α : Type} [DecidableEq α] {f : α → D} {n : Nat} (hf : ∀ x y, PyData.eqv (f x) (f y) = decide (x = y)) (hn : ∀ x, Nice n (f x)) (h64 : n < 64) {xs : List α} (hl : xs.length < 1000000) {x : α} (hx : x ∈ xs) :
    ∃ j : Nat, ∃ h : j < xs.length, xs[j] = x ∧ gIndex (.list (xs.map f)) (f x) = .ok (.int (j : Int)) := by
  unfold gIndex
  simp only
  rw [if_pos ⟨(Nice.map hl fun y _ => hn y).shaped (by omega), (hn x).shaped (by omega)⟩]
  cases hj : (xs.map f).findIdx? fun z => PyData.eqv z (f x) with
  | none =>
    rw [List.findIdx?_eq_none_iff] at hj
    have := hj (f x) (List.mem_map_of_mem hx)
    rw [hf] at this
    simp at this
  | some j =>
    obtain ⟨hlt, hp, _⟩ := List.findIdx?_eq_some_iff_getElem.mp hj
    rw [List.length_map] at hlt
    rw [List.getElem_map, hf, decide_eq_true_eq] at hp
    exact ⟨j, hlt, hp, rfl⟩
@[simp] theorem gTp_fl (n : Nat) (gs : Tgs) (ds : List D) (env : Env) : (gTp n gs).f (.list ds) env = if ds.length = n then gs.f ds env else .bad := Eq.trans rfl rfl
@[simp] theorem eComp2_ev (fi : Env → Res (List D)) (own : List Nat) (g : Tg) (c : Env → Res Bool) (fi1 : Env → Res (List D)) (vs1 : List Nat) (g1 : Tg) (c1 : Env → Res Bool) (fe : Env → Res D) (env : Env) :
    eComp2 fi own g c fi1 vs1 g1 c1 fe env = (fi env).bind fun ds => (comp2L g c fi1 vs1 g1 c1 fe (clr own env) ds).bind fun ys => if ys.length < 1000000 then .ok ⟨.list ys, true⟩ else .bad := Eq.trans rfl rfl
theorem comp2L_map {α : Type} {g : Tg} {c : Env → Res Bool} {fi1 : Env → Res (List D)} {vs1 : List Nat} {g1 : Tg} {c1 : Env → Res Bool} {fe : Env → Res D} {env : Env} (enc : α → D) (out : α → List D) : ∀ xs : List α,
    (∀ x ∈ xs, ((g.f (enc x) env).bind fun e1 => (c e1).bind fun b => if b = true then (fi1 e1).bind fun ds1 => compL g1 c1 fe (clr vs1 e1) ds1 else .ok []) = .ok (out x)) → comp2L g c fi1 vs1 g1 c1 fe env (xs.map enc) = .ok (xs.flatMap out)
  | [], _ => rfl
  | x :: r, h => by
    have h1 := h x List.mem_cons_self
    have h2 := comp2L_map (env := env) enc out r fun y hy => h y (List.mem_cons_of_mem _ hy)
    rw [List.map_cons, List.flatMap_cons]
    unfold comp2L
    obtain ⟨e1, k1, h1⟩ := Res.bind_eq h1
    obtain ⟨b, k2, h1⟩ := Res.bind_eq h1
    rw [k1]
    show ((c e1).bind fun b => _) = _
    rw [k2]
    cases b with
    | true =>
      obtain ⟨ds1, k3, h1⟩ := Res.bind_eq h1
      show ((fi1 e1).bind fun ds1 => _) = _
      rw [k3]
      show ((compL g1 c1 fe (clr vs1 e1) ds1).bind fun xs => _) = _
      rw [h1]
      show ((comp2L g c fi1 vs1 g1 c1 fe env (r.map enc)).bind fun ys => _) = _
      rw [h2]
      rfl
    | false =>
      have : out x = [] := by
        have : Res.ok ([] : List D) = .ok (out x) := h1
        exact (Res.ok.inj this).symm
      rw [this]
      exact h2
end PV

set_option Elab.async false
set_option linter.all false
set_option maxRecDepth 100000
/-! ### comprehensions over typed lists: simp turns them into map and filter -/
namespace PV
open PySem PySem.Spec L2
set_option autoImplicit false
section
variable {α β γ : Type}
def mapR : (xs : List α) → ((x : α) → x ∈ xs → Res (Option β)) → Res (List β)
  | [], _ => .ok []
  | x :: r, f => (f x List.mem_cons_self).bind fun o => (mapR r fun y h => f y (List.mem_cons_of_mem _ h)).bind fun ys => .ok (match o with | some y => y :: ys | none => ys)
theorem mapR_eq {xs : List α} {f g : (x : α) → x ∈ xs → Res (Option β)} (h : ∀ x hx, f x hx = g x hx) : mapR xs f = mapR xs g := by
  have : f = g := by funext x hx; exact h x hx
  rw [this]
@[simp] theorem mapR_some (F : α → β) (xs : List α) : mapR xs (fun x _ => .ok (some (F x))) = .ok (xs.map F) := by
  induction xs with
  | nil => rfl
  | cons x r ih => unfold mapR; rw [ih]; rfl
@[simp] theorem mapR_if (p : α → Prop) [DecidablePred p] (F : α → β) (xs : List α) : mapR xs (fun x _ => if p x then .ok (some (F x)) else .ok none) = .ok ((xs.filter fun x => decide (p x)).map F) := by
  induction xs with
  | nil => rfl
  | cons x r ih =>
    unfold mapR
    rw [ih]
    by_cases h : p x
    · simp [h]
    · simp [h]
@[simp] theorem mapR_ifn (p : α → Prop) [DecidablePred p] (F : α → β) (xs : List α) : mapR xs (fun x _ => if p x then .ok none else .ok (some (F x))) = .ok ((xs.filter fun x => !decide (p x)).map F) := by
  induction xs with
  | nil => rfl
  | cons x r ih =>
    unfold mapR
    rw [ih]
    by_cases h : p x
    · simp [h]
    · simp [h]
@[simp] theorem cturn_ev (g : Tg) (c : Env → Res Bool) (fe : Env → Res D) (env : Env) (d : D) : cturn g c fe env d = (g.f d env).bind fun e1 => (c e1).bind fun b => if b = true then (fe e1).bind fun y => .ok (some y) else .ok none := Eq.trans rfl rfl
@[simp] theorem compL_nil (g : Tg) (c : Env → Res Bool) (fe : Env → Res D) (env : Env) : compL g c fe env [] = .ok [] := Eq.trans rfl rfl
@[simp] theorem compL_cons' (g : Tg) (c : Env → Res Bool) (fe : Env → Res D) (env : Env) (d : D) (ds : List D) : compL g c fe env (d :: ds) = (cturn g c fe env d).bind fun o => (compL g c fe env ds).bind fun ys => .ok (match o with | some y => y :: ys | none => ys) := compL_cons g c fe env d ds
@[simp] theorem compL_mapR (g : Tg) (c : Env → Res Bool) (fe : Env → Res D) (env : Env) (enc : α → D) (xs : List α) : compL g c fe env (xs.map enc) = mapR xs (fun x _ => cturn g c fe env (enc x)) := by
  induction xs with
  | nil => rfl
  | cons x r ih =>
    rw [List.map_cons, compL_cons, ih, mapR]
    congr 1
    funext o
    cases o <;> rfl
def mapN (n : Nat) (f : (k : Nat) → k < n → Res (Option β)) : Res (List β) := mapR (List.range n) fun k h => f k (List.mem_range.mp h)
@[simp] theorem mapN_some (F : Nat → β) (n : Nat) : mapN n (fun x _ => .ok (some (F x))) = .ok ((List.range n).map F) := mapR_some F _
@[simp] theorem mapN_if (p : Nat → Prop) [DecidablePred p] (F : Nat → β) (n : Nat) : mapN n (fun x _ => if p x then .ok (some (F x)) else .ok none) = .ok (((List.range n).filter fun x => decide (p x)).map F) := mapR_if p F _
@[simp] theorem mapN_ifn (p : Nat → Prop) [DecidablePred p] (F : Nat → β) (n : Nat) : mapN n (fun x _ => if p x then .ok none else .ok (some (F x))) = .ok (((List.range n).filter fun x => !decide (p x)).map F) := mapR_ifn p F _
@[simp] theorem compL_range (g : Tg) (c : Env → Res Bool) (fe : Env → Res D) (env : Env) (lo : Int) (n : Nat) : compL g c fe env (rangeD lo n) = mapN n (fun k _ => cturn g c fe env (.int (lo + (k : Int)))) := compL_mapR g c fe env (fun k : Nat => .int (lo + (k : Int))) (List.range n)
theorem zipD_map {f : α → D} {g : β → D} (xs : List α) (ys : List β) : zipD (xs.map f) (ys.map g) = (xs.zip ys).map fun p => .tuple [f p.1, g p.2] := by
  unfold zipD
  rw [List.zip_map, List.map_map]
  rfl
theorem enumD_map {f : α → D} (xs : List α) : enumD (xs.map f) = xs.zipIdx.map fun p => .tuple [.int (p.2 : Int), f p.1] := by
  unfold enumD
  rw [List.zipIdx_map, List.map_map]
  rfl
@[simp] theorem compL_zip (g : Tg) (c : Env → Res Bool) (fe : Env → Res D) (env : Env) (f : α → D) (h : β → D) (xs : List α) (ys : List β) : compL g c fe env (zipD (xs.map f) (ys.map h)) = mapR (xs.zip ys) (fun x _ => cturn g c fe env (.tuple [f x.1, h x.2])) := by rw [zipD_map, compL_mapR]
@[simp] theorem compL_enum (g : Tg) (c : Env → Res Bool) (fe : Env → Res D) (env : Env) (f : α → D) (xs : List α) : compL g c fe env (enumD (xs.map f)) = mapR xs.zipIdx (fun x _ => cturn g c fe env (.tuple [.int (x.2 : Int), f x.1])) := by rw [enumD_map, compL_mapR]
@[simp] theorem gAll_map (p : α → Bool) (xs : List α) : gAll [.list (xs.map fun x => .bool (p x))] = .ok (.bool (xs.all p)) := by
  have := gAll_b (xs.map p)
  rw [List.map_map, List.all_map] at this
  exact this
@[simp] theorem gAny_map (p : α → Bool) (xs : List α) : gAny [.list (xs.map fun x => .bool (p x))] = .ok (.bool (xs.any p)) := by
  have := gAny_b (xs.map p)
  rw [List.map_map, List.any_map] at this
  exact this
@[simp] theorem gSum_map (p : α → Int) (xs : List α) : gSum [.list (xs.map fun x => .int (p x))] = .ok (.int (xs.map p).sum) := by
  have := gSum_i (xs.map p)
  rw [List.map_map] at this
  exact this
theorem atI_nat {xs : List α} (k : Nat) : atI xs (k : Int) = xs[k]? := by
  by_cases h : k < xs.length
  · rw [atI_of (by omega) (by omega)]
    simp
  · have : atI xs (k : Int) = none := by
      cases e : atI xs (k : Int) with
      | none => rfl
      | some d =>
        unfold atI at e
        cases q : ixN xs.length (k : Int) with
        | none => rw [q] at e; cases e
        | some j =>
          rw [q] at e
          have e : xs[j]? = some d := e
          have := (List.getElem?_eq_some_iff.mp e).1
          unfold ixN at q
          split at q <;> first | (cases q; omega) | cases q | (split at q <;> first | (cases q; omega) | cases q)
    rw [this, List.getElem?_eq_none (by omega)]
@[simp] theorem res_andB (P : Prop) [Decidable P] (b : Bool) : (if P then (Res.ok b : Res Bool) else .ok false) = .ok (decide P && b) := by by_cases h : P <;> simp [h]
@[simp] theorem res_orB (P : Prop) [Decidable P] (b : Bool) : (if P then (Res.ok true : Res Bool) else .ok b) = .ok (decide P || b) := by by_cases h : P <;> simp [h]
@[simp] theorem res_and (P : Prop) [Decidable P] (b : Bool) : (if P then (Res.ok (PyData.bool b) : Res D) else .ok (.bool false)) = .ok (.bool (decide P && b)) := by by_cases h : P <;> simp [h]
@[simp] theorem res_or (P : Prop) [Decidable P] (b : Bool) : (if P then (Res.ok (PyData.bool true) : Res D) else .ok (.bool b)) = .ok (.bool (decide P || b)) := by by_cases h : P <;> simp [h]
theorem emod_nat (a b : Nat) : ((a : Int) + 1).fmod (b : Int) = (((a + 1) % b : Nat) : Int) := by
  rw [Int.fmod_eq_emod_of_nonneg _ (by omega), Int.natCast_emod]
  rfl
@[simp] theorem forL_nil' (g : Tg) (dead : List Nat) (body : Env → Out) (env : Env) : forL g dead body [] env = .next env := Eq.trans rfl rfl
def forO (k : Env → Out) : Out → Out
  | .next e => k e
  | .brk e => .next e
  | .cont e => .cont e
  | .ret r => .ret r
  | .exc c => .exc c
  | .bad => .bad
@[simp] theorem forO_next (k : Env → Out) (e : Env) : forO k (.next e) = k e := Eq.trans rfl rfl
@[simp] theorem forO_brk (k : Env → Out) (e : Env) : forO k (.brk e) = .next e := Eq.trans rfl rfl
@[simp] theorem forO_ret (k : Env → Out) (r : RV) : forO k (.ret r) = .ret r := Eq.trans rfl rfl
@[simp] theorem forO_exc (k : Env → Out) (c : Str) : forO k (.exc c) = .exc c := Eq.trans rfl rfl
@[simp] theorem forO_bad (k : Env → Out) : forO k .bad = .bad := Eq.trans rfl rfl
@[simp] theorem forO_ite (k : Env → Out) (c : Prop) [Decidable c] (a b : Out) : forO k (if c then a else b) = if c then forO k a else forO k b := by split <;> rfl
@[simp] theorem forL_cons' (g : Tg) (dead : List Nat) (body : Env → Out) (d : D) (ds : List D) (env : Env) : forL g dead body (d :: ds) env = forO (fun e => forL g dead body ds e) (turn g dead body d env) := by
  rw [forL_cons]
  cases turn g dead body d env <;> rfl
/-! loops: the state, the step -/
theorem forL_st {S : Type} {g : Tg} {dead : List Nat} {body : Env → Out} (enc : α → D) (st : S → Env) (step : S → α → S) (P : S → Prop) (xs : List α) (s : S) (h : P s)
    (hs : ∀ s x, x ∈ xs → P s → turn g dead body (enc x) (st s) = .next (st (step s x)) ∧ P (step s x)) : forL g dead body (xs.map enc) (st s) = .next (st (xs.foldl step s)) := (forL_fold enc st step P xs s h hs).1
theorem forL_ex {S : Type} {g : Tg} {dead : List Nat} {body : Env → Out} (enc : α → D) (st : S → Env) : ∀ (xs : List α) (P : Nat → S → Prop) (s : S), P 0 s →
    (∀ (i : Nat) s x, xs[i]? = some x → P i s → ∃ s', turn g dead body (enc x) (st s) = .next (st s') ∧ P (i + 1) s') → ∃ s', forL g dead body (xs.map enc) (st s) = .next (st s') ∧ P xs.length s'
  | [], P, s, h, _ => ⟨s, rfl, h⟩
  | x :: r, P, s, h, hs => by
    obtain ⟨s1, h1, h2⟩ := hs 0 s x rfl h
    obtain ⟨s2, h3, h4⟩ := forL_ex (g := g) (dead := dead) (body := body) enc st r (fun i => P (i + 1)) s1 h2 fun i s y hy => hs (i + 1) s y hy
    exact ⟨s2, by rw [List.map_cons, forL_cons, h1]; exact h3, h4⟩
theorem forL_exN {S : Type} {g : Tg} {dead : List Nat} {body : Env → Out} (lo : Int) (n : Nat) (st : S → Env) (P : Nat → S → Prop) (s : S) (h : P 0 s)
    (hs : ∀ (i : Nat) s, i < n → P i s → ∃ s', turn g dead body (.int (lo + (i : Int))) (st s) = .next (st s') ∧ P (i + 1) s') : ∃ s', forL g dead body (rangeD lo n) (st s) = .next (st s') ∧ P n s' := by
  have := forL_ex (g := g) (dead := dead) (body := body) (fun i : Nat => PyData.int (lo + (i : Int))) st (List.range n) P s h fun i s x hx hp => by
    obtain ⟨h1, h2⟩ := List.getElem?_eq_some_iff.mp hx
    rw [List.length_range] at h1
    rw [List.getElem_range] at h2
    subst h2
    exact hs i s h1 hp
  rw [List.length_range] at this
  exact this
/-- .. which may return -/
theorem forL_try {S : Type} {g : Tg} {dead : List Nat} {body : Env → Out} (enc : α → D) (st : S → Env) (step : S → α → S) (p : α → Bool) (r : α → RV) : ∀ (xs : List α) (s : S),
    (∀ s x, x ∈ xs → turn g dead body (enc x) (st s) = if p x = true then .ret (r x) else .next (st (step s x))) → forL g dead body (xs.map enc) (st s) = match xs.find? p with | some x => .ret (r x) | none => .next (st (xs.foldl step s))
  | [], _, _ => rfl
  | x :: t, s, h => by
    rw [List.map_cons, forL_cons, h s x List.mem_cons_self, List.find?_cons, List.foldl_cons]
    cases hp : p x with
    | true => rfl
    | false => exact forL_try enc st step p r t (step s x) fun s y hy => h s y (List.mem_cons_of_mem _ hy)
theorem any_of_find {p : α → Bool} {xs : List α} {v : α} (h : xs.find? p = some v) : xs.any p = true := List.any_eq_true.mpr ⟨v, List.mem_of_find?_eq_some h, List.find?_some h⟩
theorem any_of_none {p : α → Bool} {xs : List α} (h : xs.find? p = none) : xs.any p = false := by
  rw [List.any_eq_false]
  exact fun x hx => List.find?_eq_none.mp h x hx
theorem len0_not (p : α → Bool) (xs : List α) : decide (((xs.filter fun x => !p x).length : Int) = 0) = xs.all p := by
  induction xs with
  | nil => rfl
  | cons x r ih =>
    cases h : p x with
    | true => simpa [h] using ih
    | false =>
      simp only [List.filter_cons, h, Bool.not_false, if_true, List.length_cons, List.all_cons, Bool.false_and]
      exact decide_eq_false (by omega)
theorem len0 (p : α → Bool) (xs : List α) : decide (((xs.filter p).length : Int) = 0) = !xs.any p := by
  have := len0_not (fun x => !p x) xs
  simp only [Bool.not_not] at this
  rw [this, List.not_any_eq_all_not]
/-! slices -/
theorem cut_from {xs : List D} {z : Int} (h : 0 ≤ z) : cutD xs (some z) none = xs.drop z.toNat := by
  have e : HT.sIx xs.length 0 (some z) = min z.toNat xs.length := by
    show (if z < 0 then _ else _) = _
    rw [if_neg (by omega)]
  unfold cutD
  rw [e, HT.sIx_none]
  by_cases k : z.toNat ≤ xs.length
  · rw [Nat.min_eq_left k, List.take_of_length_le (by rw [List.length_drop]; omega)]
  · rw [Nat.min_eq_right (by omega), Nat.sub_self, List.take_zero, List.drop_eq_nil_of_le (by omega)]
theorem cut_mid {xs : List D} {a b : Int} (h : 0 ≤ a) (h' : 0 ≤ b) : cutD xs (some a) (some b) = (xs.take b.toNat).drop a.toNat := by
  have e : ∀ z : Int, 0 ≤ z → ∀ d, HT.sIx xs.length d (some z) = min z.toNat xs.length := fun z hz d => by
    show (if z < 0 then _ else _) = _
    rw [if_neg (by omega)]
  unfold cutD
  rw [e a h, e b h', List.drop_take]
  by_cases k : b.toNat ≤ xs.length
  · rw [Nat.min_eq_left k]
    by_cases k2 : a.toNat ≤ xs.length
    · rw [Nat.min_eq_left k2]
    · rw [Nat.min_eq_right (by omega), List.drop_eq_nil_of_le (Nat.le_refl _), List.drop_eq_nil_of_le (by omega)]
      simp
  · rw [Nat.min_eq_right (by omega)]
    by_cases k2 : a.toNat ≤ xs.length
    · rw [Nat.min_eq_left k2, List.take_of_length_le (by rw [List.length_drop]; omega), List.take_of_length_le (by rw [List.length_drop]; omega)]
    · rw [Nat.min_eq_right (by omega), List.drop_eq_nil_of_le (Nat.le_refl _), List.drop_eq_nil_of_le (by omega)]
      simp
theorem cut_to {xs : List D} {b : Int} (h' : 0 ≤ b) : cutD xs (some 0) (some b) = xs.take b.toNat := by
  rw [cut_mid (by omega) h']; rfl
@[simp] theorem cutm_from {f : α → D} {xs : List α} {z : Int} (h : 0 ≤ z) : cutD (xs.map f) (some z) none = (xs.drop z.toNat).map f := by rw [cut_from h, List.map_drop]
@[simp] theorem cutm_to {f : α → D} {xs : List α} {b : Int} (h' : 0 ≤ b) : cutD (xs.map f) (some 0) (some b) = (xs.take b.toNat).map f := by rw [cut_to h', List.map_take]
@[simp] theorem cutm_mid {f : α → D} {xs : List α} {a b : Int} (h : 0 ≤ a) (h' : 0 ≤ b) : cutD (xs.map f) (some a) (some b) = ((xs.take b.toNat).drop a.toNat).map f := by rw [cut_mid h h', List.map_drop, List.map_take]
/-! loops that only look -/
theorem forL_look {g : Tg} {dead : List Nat} {body : Env → Out} {env : Env} (enc : α → D) (p : α → Bool) (r : α → RV) : ∀ (xs : List α), (∀ x ∈ xs, turn g dead body (enc x) env = if p x = true then .ret (r x) else .next env) →
    forL g dead body (xs.map enc) env = match xs.find? p with | some x => .ret (r x) | none => .next env
  | [], _ => rfl
  | x :: t, h => by
    rw [List.map_cons, forL_cons, h x List.mem_cons_self, List.find?_cons]
    cases hp : p x with
    | true => rfl
    | false => exact forL_look enc p r t fun y hy => h y (List.mem_cons_of_mem _ hy)
end
end PV

set_option Elab.async false
set_option linter.all false
set_option maxRecDepth 100000
/-! ### comprehensions that fill a set or a dict -/
namespace PV
open PySem PySem.Spec L2 PyProof.Rows
set_option autoImplicit false
/-- how a raise leaves a block -/
abbrev NBy (P : Program) (w : World) (A : Around) (en : PySem.Env) (R : Result → Shared → Prop) : Value → Shared → Prop := notedBy (model P w) A en fun x z => R (.error x) z
/-- {.. for target in iter if ..}: the new object is told by O0, what is done with an item by tk -/
def tCc (O0 : Addr → HO) (wi : TI) (g : TG) (tt : TT) (tk : L2.St → Hp → Addr → (Hp → Prop) → Prop) (vs : List Nat) : TE := fun σ H Q => wi σ H fun J H1 => ∀ D, H1 D = none →
  ∃ W : Nat → Nat → Hp → Prop, (∃ m, W 0 m (upd H1 D (O0 D))) ∧ ∀ i m G, W i m G → (J.stop i G ∧ Q (.ref D) G) ∨
    (J.go i G ∧ ∃ Nx : Hp → Prop, (∀ G', Nx G' → ∃ m', m' < m ∧ W (i + 1) m' G') ∧ ∀ x G', J.yld i G x G' → g x (wipe σ vs) G' fun σ2 G2 => wipe σ2 vs = wipe σ vs ∧ tt σ2 G2 fun b G3 => if b = true then tk σ2 G3 D Nx else Nx G3)
section
variable {X : Cx}
theorem cc_core {pins : List (Addr × Obj)} {s : Shared} {σ : L2.St} {H : Hp} {Q : VK} {e tg iter : Expr} {ifs : List Expr} {scope : Scope} {own : List (PySem.Str × Nat)} {pos' : Pos} {wi : TI} {g : TG} {tt : TT} {use : Option (Value → Sem Unit)} {Qf : Value → Shared → Prop}
    {newM : Sem Value} {o0 : Obj} {O0 : Addr → HO} {tl : PySem.Env → Addr → (Shared → Prop) → (Value → Shared → Prop) → Shared → Prop} {tk : L2.St → Hp → Addr → (Hp → Prop) → Prop}
    (hcl : clausesOf e = [⟨tg, iter, ifs, 0⟩])
    (hnew : ∀ {A : Around} {E : Value → Shared → Prop} {Q' : Value → Shared → Prop} {z : Shared}, Q' (.ref z.heap.objs.size) { z with heap := z.heap.push o0 } → wpAny (model X.prog X.w) A newM Q' E z)
    (hob : ∀ (G : Hp) (h : Heap), sysModules < h.objs.size → ObjOk X.prog X.w G (h.push o0) h.objs.size (O0 h.objs.size))
    (hloop : ∀ {R : Result → Shared → Prop} {it : Value} {D : Addr} {en : PySem.Env} (Iv : Nat → Shared → Prop),
      (∀ n z, Iv n z → wpAny (model X.prog X.w) X.A (pyNext it) (fun r z1 => match r with
        | none => R (.ok .next) z1
        | some v => wpAny (model X.prog X.w) X.A (letOwnedTupleGo tg it v) (fun _ z2 => wpAny (model X.prog X.w) X.A (assign tg en v) (fun _ z3 =>
            wpAny (model X.prog X.w) X.A (forIn ifs true fun c r => if r = true then do let ok ← isTrue c en (eval c en); pure (ForInStep.yield ok) else pure (ForInStep.yield r)) (fun ok z4 =>
              if ok = true then tl en D (fun z5 => ∃ m, m < n ∧ Iv m z5) (NBy X.prog X.w X.A en R) z4 else ∃ m, m < n ∧ Iv m z4) (NBy X.prog X.w X.A en R) z3) (NBy X.prog X.w X.A en R) z2) (NBy X.prog X.w X.A en R) z1) (NBy X.prog X.w X.A en R) z) →
      ∀ n z, Iv n z → codeAny (model X.prog X.w) X.A (.compLoop e 0 it (.ref D) en) R z)
    (hstart : ∀ {R : Result → Shared → Prop} {it acc : Value} {en : PySem.Env} {z : Shared}, codeAny (model X.prog X.w) X.A (.compLoop e 0 it acc en) R z →
      wpAny (model X.prog X.w) X.A (pyIter it) (fun it' z' => codeAny (model X.prog X.w) X.A (.compLoop e 0 it' acc en) R z') (NBy X.prog X.w X.A en R) z → codeAny (model X.prog X.w) X.A (.compStart e 0 it acc en) R z)
    (calm : X.calm = true) (nd : X.N.Nodup) (I : Inv X pins σ H s) (pi : PI X tg iter wi) (ok : BlkOk X.N X.env.scope scope own)
    (pgs : ∀ (z : Shared) (G : Hp) (C : Addr) (cl : List (PySem.Str × Addr)) (fp : List Addr), PG (X.blk z G scope (compEnvC scope cl C X.env) fp) tg g)
    (ptt : ∀ (z : Shared) (G : Hp) (C : Addr) (cl : List (PySem.Str × Addr)) (fp : List Addr), PTs (X.blk z G scope (compEnvC scope cl C X.env) fp) ifs tt)
    (ptl : ∀ (z : Shared) (G : Hp) (C : Addr) (cl : List (PySem.Str × Addr)) (fp : List Addr) {pn : List (Addr × Obj)} {σ' : L2.St} {G' : Hp} {z' : Shared} {D : Addr} {Nx : Hp → Prop} {Kx : Shared → Prop} {Nr : Value → Shared → Prop},
      Inv (X.blk z G scope (compEnvC scope cl C X.env) fp) pn σ' G' z' → tk σ' G' D Nx → (∀ z2 G2, Inv (X.blk z G scope (compEnvC scope cl C X.env) fp) pn σ' G2 z2 → Nx G2 → Kx z2) → tl (compEnvC scope cl C X.env) D Kx Nr z')
    (hfs : ∀ x, foldedSetIterable iter X.env x = pure x) (h : tCc O0 wi g tt tk (own.map (·.2)) σ H Q)
    (fin : ∀ D C z m G, Inv X pins σ G z → Q (.ref D) G → z.heap.Ns C m → FpOk X pins G C → compPost (model X.prog X.w) X.A X.xe use Qf (.ref D) C (.ok .next) z) :
    wpAny (model X.prog X.w) X.A (comprehension e scope X.env pos' newM false (eval iter X.env) use) Qf X.xe s := by
  have free : ∀ nm ∈ scope.names, nm.2 = .free → ∃ cell, X.env.cells.lookup nm.1 = some cell := fun nm hm q => (ok.free nm hm q).elim (fun k => I.ok.has _ (.inl k)) fun k => I.ok.has _ (.inr k)
  refine wpAny_comprehension_free (use := use) hcl hfs (closure_ok free) ok.kind (fun nm hm q => by rw [ok.uniq nm hm, q]) (thn (pi.run pins s σ H _ I h) fun _ s1 hx => thn hx fun _ s2 h2 => ?_)
  obtain ⟨it, fp, tn, J, Ha, rfl, Ia, T, sta, fpa, q⟩ := h2
  refine hnew (newEnv_comp ?_)
  obtain ⟨D, hD⟩ : ∃ D, D = s2.heap.objs.size := ⟨_, rfl⟩
  rw [← hD]
  have freeD : Ha D = none := Ia.hok.fresh (Nat.le_of_eq hD.symm)
  obtain ⟨W, ⟨m0, w0⟩, turn⟩ := q D freeD
  obtain ⟨sb, hsb⟩ : ∃ sb : Shared, sb = { s2 with heap := s2.heap.push o0 } := ⟨_, rfl⟩
  have hsbh : sb.heap = s2.heap.push o0 := by rw [hsb]
  have Ib : Inv X pins σ (upd Ha D (O0 D)) sb := by
    rw [hsb]
    refine Ia.laid (t' := s2.toks) (fun b o z => Heap.get?_push_of_some _ z) (Nat.le_of_eq hD.symm) ?_
    have := hob (upd Ha D (O0 D)) s2.heap Ia.big
    rw [← hD] at this
    exact this
  have small : ∀ b ∈ fp, b < s2.heap.objs.size := fun b hb => let ⟨_, z, _⟩ := T.obj _ _ sta b hb; Heap.lt_size z
  have fpb : ∀ b ∈ fp, FpOk X pins (upd Ha D (O0 D)) b ∧ b < sb.heap.objs.size := fun b hb =>
    ⟨⟨by rw [upd_ne (by rw [hD]; exact Nat.ne_of_lt (small b hb))]; exact (fpa b hb).1, (fpa b hb).2⟩, by rw [hsbh, Heap.size_push]; exact Nat.lt_succ_of_lt (small b hb)⟩
  have stb : tn 0 sb.heap := T.keep _ _ _ sta fun b _ o z => by rw [hsbh]; exact Heap.get?_push_of_some _ z
  have Ic := block_start Ib ok nd fpb
  rw [← hsb]
  obtain ⟨cs, hcs⟩ : ∃ cs, cs = cellsFrom (sb.heap.objs.size + 1) scope.names (cloFrom X.env.cells scope.names []) := ⟨_, rfl⟩
  obtain ⟨Hb, hHb⟩ : ∃ Hb, Hb = upd Ha D (O0 D) := ⟨_, rfl⟩
  rw [← hHb] at Ib Ic w0 fpb
  rw [← hcs] at Ic
  have pg := pgs sb Hb sb.heap.objs.size cs fp
  have pt := ptt sb Hb sb.heap.objs.size cs fp
  have pl := fun {pn : List (Addr × Obj)} {σ' : L2.St} {G' : Hp} {z' : Shared} {Nx : Hp → Prop} {Kx : Shared → Prop} {Nr : Value → Shared → Prop} => @ptl sb Hb sb.heap.objs.size cs fp pn σ' G' z' D Nx Kx Nr
  have nfp : ∀ b ∈ fp, Hb b = none := fun b hb => (fpb b hb).1.1
  show codeAny (model X.prog X.w) X.A (.compStart e 0 (.ref it) (.ref D) (compEnvC scope (cellsFrom (sb.heap.objs.size + 1) scope.names (cloFrom X.env.cells scope.names [])) sb.heap.objs.size X.env)) (compPost (model X.prog X.w) X.A X.xe use Qf (.ref D) sb.heap.objs.size) { sb with heap := pushCells (sb.heap.push { cls := .type "dict", data := .dict #[] }) scope.names }
  rw [← hcs]
  obtain ⟨en, hen⟩ : ∃ en, en = compEnvC scope cs sb.heap.objs.size X.env := ⟨_, rfl⟩
  have locs : en.locals = sb.heap.objs.size := by rw [hen]; rfl
  rw [← hen] at Ic pg pt pl ⊢
  obtain ⟨sc, hsc⟩ : ∃ sc : Shared, sc = { sb with heap := pushCells (sb.heap.push { cls := .type "dict", data := .dict #[] }) scope.names } := ⟨_, rfl⟩
  have stc : tn 0 sc.heap := T.keep _ _ _ stb fun b _ o z => by rw [hsc]; exact pushCells_keeps _ _ _ _ (Heap.get?_push_of_some _ z)
  rw [← hsc] at Ic ⊢
  have keepFp : ∀ {σ' : L2.St} {G : Hp} {z : Shared}, Inv (X.blk sb Hb scope en fp) [] σ' G z → (∀ b ∈ fp, G b = none) → ∀ b ∈ fp, FpOk (X.blk sb Hb scope en fp) [] G b := fun I' hn b hb =>
    ⟨hn b hb, (I'.ok.exf b hb).1, I'.ok.exfs b hb, .inl hb, fun x c z => (I'.ok.exf b hb).2 x c z, fun p hp => (List.not_mem_nil (show p ∈ ([] : List (Addr × Obj)) from hp)).elim⟩
  have loop : codeAny (model X.prog X.w) X.A (.compLoop e 0 (.ref it) (.ref D) en) (compPost (model X.prog X.w) X.A X.xe use Qf (.ref D) sb.heap.objs.size) sc := by
    refine hloop (fun n z => ∃ i G, Inv (X.blk sb Hb scope en fp) [] (wipe σ (own.map (·.2))) G z ∧ tn i z.heap ∧ (∀ b ∈ fp, G b = none) ∧ W i n G) ?_ m0 sc ⟨0, Hb, Ic, stc, nfp, w0⟩
    rintro n sd ⟨i, Hd, Id, std, nd', wd⟩
    rcases turn i n Hd wd with ⟨stop, qq⟩ | ⟨go, Nx, hNx, step⟩
    · refine thnF (T.done (X.blk sb Hb scope en fp) rfl rfl rfl calm i [] sd _ Hd (fun _ _ => False) Id (keepFp Id nd') std stop) fun r se ⟨hr, Ie⟩ => ?_
      subst hr
      have back : Inv X pins σ Hd se := Ib.call' (ch := fp) Ie.os Ie.base Ie.hok Ie.bare fun b hb => ⟨(fpb b hb).1.2.2.2.1, (fpb b hb).1.2.1, (fpb b hb).1.2.2.2.2.1, (fpb b hb).1.2.2.2.2.2⟩
      have nC : Hd sb.heap.objs.size = none := locs ▸ (Ie.free : Hd en.locals = none)
      obtain ⟨m, hn, _⟩ := Ie.loc
      have hn : se.heap.Ns en.locals m := hn
      rw [locs] at hn
      exact fin D sb.heap.objs.size se m Hd back qq hn (Ib.fpOk (Nat.le_refl _) nC)
    · refine thnF (T.item (X.blk sb Hb scope en fp) rfl rfl rfl calm i [] sd _ Hd (fun _ _ => False) Id (keepFp Id nd') std go) fun r se ⟨u, hr, hitem⟩ => ?_
      subst hr
      refine thnF hitem fun _ sf ⟨x, Hf, If, rf, yf, stf, nf⟩ => ?_
      refine thnF (pg.run _ sf _ Hf x u _ (If.pinned (keepFp If nf) (T.obj _ _ stf)) rf (step x Hf yf)) fun _ sg ⟨σg, Hg, Ig, hwg, qg⟩ => ?_
      refine thnF (pt.run _ sg σg Hg _ Ig qg) fun b sh ⟨Hh, Ih, qh⟩ => ?_
      have close : ∀ {z : Shared} {G : Hp}, Inv (X.blk sb Hb scope en fp) ([] ++ pinsAt fp sf.heap) σg G z → Nx G → ∃ m, m < n ∧ ∃ i G, Inv (X.blk sb Hb scope en fp) [] (wipe σ (own.map (·.2))) G z ∧ tn i z.heap ∧ (∀ b ∈ fp, G b = none) ∧ W i m G := fun {z G} I' nx => by
        obtain ⟨m', hm, w'⟩ := hNx G nx
        have pin : ∀ b ∈ fp, ∀ o, sf.heap.get? b = some o → z.heap.get? b = some o ∧ G b = none := fun b hb o q => ⟨(I'.pin (b, o) (List.mem_append_right _ (List.mem_append_right _ (mem_pinsAt hb q)))).1, (I'.pin (b, o) (List.mem_append_right _ (List.mem_append_right _ (mem_pinsAt hb q)))).2.1⟩
        refine ⟨m', hm, i + 1, G, (I'.unpinned (pins := [])).weak (by rw [← hwg, wipe_length]) (fun j v q => (wipe_some (hwg ▸ q)).1), T.keep _ _ _ stf fun b hb o q => (pin b hb o q).1, fun b hb => ?_, w'⟩
        obtain ⟨o, q, _⟩ := T.obj _ _ stf b hb
        exact (pin b hb o q).2
      cases b with
      | false => exact close Ih qh
      | true => exact pl Ih qh fun z2 G2 I2 n2 => close I2 n2
  exact hstart loop (T.self X.A 0 _ _ _ stc loop)
end
end PV

set_option Elab.async false
set_option linter.all false
set_option maxRecDepth 100000
/-! ### sorted({..}), a set of ints -/
namespace PV
open PySem PySem.Spec L2
set_option autoImplicit false
/-- what a filled object is while it is made: Pd tells the object's state from the items that came -/
structure AccP (Pd : HO → List D → Prop) (Z1 H1 Z2 H : Hp) (L : Addr) (acc : List D) : Prop where
  ext : Ext Z1 H1 Z2 H
  at_ : ∃ o, H L = some o ∧ Z2 L = none ∧ Pd o acc
section
variable {K : PySem.W.Frag} {Pd : HO → List D → Prop}
theorem AccP.step {Z1 H1 Z2 H Z3 H3 : Hp} {L : Addr} {acc : List D} (h : AccP Pd Z1 H1 Z2 H L acc) (e : Ext Z2 H Z3 H3) : AccP Pd Z1 H1 Z3 H3 L acc := by
  obtain ⟨o, h1, h2, h3⟩ := h.at_
  exact ⟨h.ext.trans e, o, e.hh _ _ h1, e.no L (by rw [h1]; exact fun z => nomatch z) h2, h3⟩
theorem AccP.put {Z1 H1 Z2 H : Hp} {L : Addr} {acc acc' : List D} {o : HO} (h : AccP Pd Z1 H1 Z2 H L acc) (hL : H1 L = none) (hp : Pd o acc') : AccP Pd Z1 H1 Z2 (upd H L o) L acc' := by
  obtain ⟨_, _, h2, _⟩ := h.at_
  exact ⟨⟨same_updR hL h.ext.hh, h.ext.zz, same_updR h2 h.ext.zh, h.ext.no⟩, o, upd_same, h2, hp⟩
theorem loop_redP {J : It} {ds out pre : List D} {H0 Z0 Za Ha Z1 H1 Zs Hs : Hp} {L : Addr} {σ : L2.St} {env : Env} {is : List Nat} {tt : TT} {tgr : TG} {tk : L2.St → Hp → Addr → (Hp → Prop) → Prop} {Nx : Hp → Prop} {g : Tg} {c : Env → Res Bool} {fe : Env → Res D}
    (hg : ∀ v σ H Q, tG K g v σ H Q → tgr v σ H Q) (ht : ∀ σ H Q, tT K c σ H Q → tt σ H Q)
    (hk : ∀ (σ : L2.St) (H : Hp) (Nx : Hp → Prop), tE K fe σ H (fun v H' => ∃ o acc y, H' L = some o ∧ Pd o acc ∧ acc ++ [y] <+: pre ++ out ∧ (∃ Z, Dp K Z v y) ∧ ∀ o', Pd o' (acc ++ [y]) → Nx (upd H' L o')) → tk σ H L Nx)
    (hix : ∀ j ∈ g.ix, j ∈ is)
    (hE : EnvOk K H0 Z0 Z1 H1 (wipe σ is) env) (hno : ∀ (j : Nat) (xs : List D), env[j]? = some (.own xs) → (wipe σ is)[j]? = some (some (.ref L)) → False)
    (hJ : ItOk K Zs Hs J ds) (hZs : Same Zs Z1) (hHs : ∀ Z2 H2 acc, Same Z1 Z2 → AccP Pd Za Ha Z2 H2 L acc → Same Hs H2) (hL : Ha L = none) (h0 : H0 L = none) (hA : AccP Pd Za Ha Z1 H1 L pre) (hc : compL g c fe env ds = .ok out)
    (hn : ∀ Z2 H, ExtL L Z1 H1 Z2 H → AccP Pd Za Ha Z2 H L (pre ++ out) → Nx H) :
    ∃ W : Nat → Nat → Hp → Prop, (∃ m, W 0 m H1) ∧ ∀ i m H, W i m H →
      (J.stop i H ∧ Nx H) ∨ (J.go i H ∧ ∃ Nx1 : Hp → Prop, (∀ H', Nx1 H' → ∃ m', m' < m ∧ W (i + 1) m' H') ∧ ∀ x H', J.yld i H x H' → tgr x (wipe σ is) H' fun σ2 H2 => wipe σ2 is = wipe σ is ∧ tt σ2 H2 fun b H3 =>
        if b = true then tk σ2 H3 L Nx1 else Nx1 H3) := by
  refine ⟨fun i m H => m = ds.length - i ∧ i ≤ ds.length ∧ ∃ Z2 acc rest, ExtL L Z1 H1 Z2 H ∧ EnvOk K H0 Z0 Z2 H (wipe σ is) env ∧ AccP Pd Za Ha Z2 H L acc ∧ compL g c fe env (ds.drop i) = .ok rest ∧ acc ++ rest = pre ++ out,
    ⟨ds.length, rfl, Nat.zero_le _, Z1, pre, out, .of (.refl hE.sz), hE, hA, hc, rfl⟩, ?_⟩
  rintro i m H ⟨rfl, hi, Z2, acc, rest, s12, hE2, hA2, hc2, hsum⟩
  obtain ⟨j1, j2, j3⟩ := hJ i Z2 H (hZs.trans s12.zz) hE2.sz (hHs Z2 H acc s12.zz hA2)
  by_cases hlt : i < ds.length
  · refine .inr ⟨j2 hlt, fun H' => ∃ Z2 acc rest, ExtL L Z1 H1 Z2 H' ∧ EnvOk K H0 Z0 Z2 H' (wipe σ is) env ∧ AccP Pd Za Ha Z2 H' L acc ∧ compL g c fe env (ds.drop (i + 1)) = .ok rest ∧ acc ++ rest = pre ++ out, fun H' hN => ⟨ds.length - (i + 1), by omega, rfl, hlt, hN⟩, fun x H' hy => ?_⟩
    obtain ⟨Z3, e3, hd⟩ := j3 ds[i] x H' (List.getElem?_eq_getElem hlt) hy
    rw [List.drop_eq_getElem_cons hlt] at hc2
    obtain ⟨env1, c1, c2⟩ := Res.bind_eq hc2
    obtain ⟨b, c3, c4⟩ := Res.bind_eq c2
    refine hg _ _ _ _ ⟨H0, Z0, Z3, env, _, env1, hE2.ext e3, hd, c1, fun σ4 hE4 l4 n4 _ => ⟨?_, ht _ _ _ ⟨H0, Z0, Z3, env1, b, hE4, c3, fun H5 Z5 e5 => ?_⟩⟩⟩
    · rw [wipe_same l4 fun j hj => n4 j fun z => hj (hix j z), wipe_wipe]
    · cases b with
      | true =>
        rw [if_pos rfl] at c4 ⊢
        obtain ⟨y, c5, c6⟩ := Res.bind_eq c4
        obtain ⟨ys, c7, c8⟩ := Res.bind_eq c6
        cases c8
        refine hk _ _ _ ⟨H0, Z0, Z5, env1, y, hE4.ext e5, c5, fun v H6 Z6 e6 hd6 => ?_⟩
        have eA := (e3.trans e5).trans e6
        have hA6 := hA2.step eA
        obtain ⟨o, k1, zL, k3⟩ := hA6.at_
        refine ⟨o, acc, y, k1, k3, ⟨ys, by rw [← hsum]; simp⟩, ⟨Z6, hd6⟩, fun o' ho' => ?_⟩
        exact ⟨Z6, acc ++ [y], ys, (s12.trans (.of eA)).trans (.upd eA.zh zL), (hE2.ext eA).off zL h0 hno, hA6.put hL ho', c7, by rw [← hsum]; simp⟩
      | false =>
        rw [if_neg Bool.false_ne_true] at c4 ⊢
        have eA := e3.trans e5
        exact ⟨Z5, acc, rest, s12.trans (.of eA), hE2.ext eA, hA2.step eA, c4, hsum⟩
  · refine .inl ⟨j1 (by omega), ?_⟩
    rw [List.drop_of_length_le (by omega)] at hc2
    cases hc2
    rw [List.append_nil] at hsum
    rw [hsum] at hA2
    exact hn Z2 H s12 hA2
end
/-! the sorted list of different ints -/
def insU (x : Int) : List Int → List Int
  | [] => [x]
  | y :: r => if x < y then x :: y :: r else if x = y then y :: r else y :: insU x r
def sortU (ns : List Int) : List Int := ns.foldr insU []
theorem mem_insU {x z : Int} : ∀ {l : List Int}, z ∈ insU x l ↔ z = x ∨ z ∈ l
  | [] => by simp [insU]
  | y :: r => by
    unfold insU
    split
    · simp
    · split
      · rename_i h; subst h; simp
      · have := mem_insU (x := x) (z := z) (l := r)
        simp only [List.mem_cons, this]
        constructor
        · rintro (h | h | h)
          · exact .inr (.inl h)
          · exact .inl h
          · exact .inr (.inr h)
        · rintro (h | h | h)
          · exact .inr (.inl h)
          · exact .inl h
          · exact .inr (.inr h)
theorem mem_sortU {z : Int} {ns : List Int} : z ∈ sortU ns ↔ z ∈ ns := by
  induction ns with
  | nil => simp [sortU]
  | cons x r ih =>
    have : sortU (x :: r) = insU x (sortU r) := rfl
    rw [this, mem_insU, ih, List.mem_cons]
theorem pw_insU {x : Int} : ∀ {l : List Int}, l.Pairwise (· < ·) → (insU x l).Pairwise (· < ·)
  | [], _ => by simp [insU]
  | y :: r, h => by
    have h1 := fun {z} (hz : z ∈ r) => List.rel_of_pairwise_cons h hz
    have h2 := List.Pairwise.of_cons h
    unfold insU
    split
    · rename_i c
      refine List.Pairwise.cons (fun z hz => ?_) h
      rcases List.mem_cons.mp hz with rfl | hz
      · exact c
      · have := h1 hz; omega
    · split
      · exact h
      · refine List.Pairwise.cons (fun z hz => ?_) (pw_insU h2)
        rcases mem_insU.mp hz with rfl | hz
        · omega
        · exact h1 hz
theorem pw_sortU (ns : List Int) : (sortU ns).Pairwise (· < ·) := by
  induction ns with
  | nil => exact List.Pairwise.nil
  | cons x r ih => exact pw_insU ih
theorem asc_unique : ∀ {l m : List Int}, l.Pairwise (· < ·) → m.Pairwise (· < ·) → (∀ z, z ∈ l ↔ z ∈ m) → l = m
  | [], [], _, _, _ => rfl
  | [], y :: _, _, _, h => by have := (h y).mpr List.mem_cons_self; cases this
  | x :: _, [], _, _, h => by have := (h x).mp List.mem_cons_self; cases this
  | x :: l, y :: m, hl, hm, h => by
    have l1 := fun {z} (hz : z ∈ l) => List.rel_of_pairwise_cons hl hz
    have m1 := fun {z} (hz : z ∈ m) => List.rel_of_pairwise_cons hm hz
    have e : x = y := by
      rcases List.mem_cons.mp ((h x).mp List.mem_cons_self) with a | a
      · exact a
      · rcases List.mem_cons.mp ((h y).mpr List.mem_cons_self) with b | b
        · exact b.symm
        · have := m1 a; have := l1 b; omega
    subst e
    rw [asc_unique (List.Pairwise.of_cons hl) (List.Pairwise.of_cons hm) fun z => ?_]
    have hz := h z
    rw [List.mem_cons, List.mem_cons] at hz
    constructor
    · intro a
      rcases hz.mp (.inr a) with b | b
      · subst b; have := l1 a; omega
      · exact b
    · intro a
      rcases hz.mpr (.inr a) with b | b
      · subst b; have := m1 a; omega
      · exact b
/-! the rule -/
def eSortedSet (fi : Env → Res (List D)) (own : List Nat) (g : Tg) (c : Env → Res Bool) (fe : Env → Res D) : Env → Res RV := fun env => (fi env).bind fun ds => (compL g c fe (clr own env) ds).bind fun ys => match asInts ys with
  | some ns => if ns.length < 64 then .ok ⟨.list ((sortU ns).map PyData.int), true⟩ else .bad
  | none => .bad
/-- the set of the first items -/
def SetP (w : World) (L : Addr) (o : HO) (acc : List D) : Prop := ∃ (ns : List Int) (S : Int → Bool) (n : Nat), acc = ns.map PyData.int ∧ o = SetO w L S n ∧ n ≤ ns.length ∧ ∀ k, S k = true ↔ k ∈ ns
section
variable {X : Cx} {elt tg iter : Expr} {ifs : List Expr} {scope : Scope} {own : List (Str × Nat)} {pos : Pos} {fi : Env → Res (List D)} {g : Tg} {c : Env → Res Bool} {fe : Env → Res D}
def tkS (w : World) (te : TE) : L2.St → Hp → Addr → (Hp → Prop) → Prop := fun σ H L Nx => te σ H fun y H4 => ∃ (k : Int) (S : Int → Bool) (n : Nat), y = .int k ∧ H4 L = some (SetO w L S n) ∧ n + 1 < scanBound ∧ Nx (upd H4 L (SetO w L (fun j => S j || decide (j = k)) (if S k = true then n else n + 1)))
theorem pe_scI {wi : TI} {gg : TG} {tt : TT} {te : TE} (calm : X.calm = true) (nd : X.N.Nodup) (ok : BlkOk X.N X.env.scope scope own) (pi : PI X tg iter wi)
    (pgs : ∀ (z : Shared) (G : Hp) (C : Addr) (cl : List (Str × Addr)) (fp : List Addr), PG (X.blk z G scope (compEnvC scope cl C X.env) fp) tg gg)
    (ptt : ∀ (z : Shared) (G : Hp) (C : Addr) (cl : List (Str × Addr)) (fp : List Addr), PTs (X.blk z G scope (compEnvC scope cl C X.env) fp) ifs tt)
    (pte : ∀ (z : Shared) (G : Hp) (C : Addr) (cl : List (Str × Addr)) (fp : List Addr), PE (X.blk z G scope (compEnvC scope cl C X.env) fp) elt te)
    (hfs : ∀ x, foldedSetIterable iter X.env x = pure x := by intro _; rfl) : PE X (.SetComp elt [⟨tg, iter, ifs, 0⟩] scope pos) (tCc (fun L => SetO X.w L (fun _ => false) 0) wi gg tt (tkS X.w te) (own.map (·.2))) := by
  refine ⟨fun pins s σ H Q I h => ?_⟩
  rw [PpSet.eval_SetComp]
  refine cc_core (e := .SetComp elt [⟨tg, iter, ifs, 0⟩] scope pos) (tl := fun en L Kx Nr z => wpAny (model X.prog X.w) X.A (eval elt en) (fun x z4 => wpAny (model X.prog X.w) X.A (call (.builtin "set.add") [.ref L, x]) (fun _ z5 => Kx z5) Nr z4) Nr z)
    rfl (fun h => PpSet.newSet_ok h) (fun G h hb => setO_new (setR_fresh X.w)) ?_ ?_ calm nd I pi ok pgs ptt ?_ hfs h fun L C z m G I' q hn f => ⟨m, hn, fun h'' sb => ?_⟩
  · exact fun Iv turn n z hz => PpSet.compLoopS_any Iv (fun n z hz => thn (turn n z hz) fun r z1 h1 => by
      cases r with
      | none => exact h1
      | some v => exact h1) n hz
  · exact fun h1 h2 => PpSet.codeAny_compStart_set h1 h2
  · intro z G C cl fp pn σ' G' z' L Nx Kx Nr I' hk fin
    refine thnF ((pte z G C cl fp).run pn z' σ' G' _ I' hk) fun u z4 ⟨y, G4, I4, r4, k, S, n, ey, hL, hb, nx⟩ => ?_
    subst ey
    refine thnF (mt_sadd (X := X.blk z G scope (compEnvC scope cl C X.env) fp) pn z4 σ' G4 (.ref L) [.int k] (.ref L) [u] (fun _ G5 => Nx G5) I4 rfl (.cons r4 .nil) ⟨L, k, S, n, rfl, rfl, hL, hb, nx⟩) fun _ z5 ⟨_, G5, I5, _, n5⟩ => fin z5 G5 I5 n5
  · obtain ⟨f0, f1, f2, f3, f4, f5⟩ := f
    exact ⟨.ref L, G, I'.turned (t' := z.toks) (fun b o hb e => (sb.2 b hb).trans e) f0 f1 f3 f4 f5, rfl, q⟩
theorem V_sortedSet (m : X.mg "sorted" = none) (calm : X.calm = true) (nd : X.N.Nodup) (ok : BlkOk X.N X.env.scope scope own) (hi : PI X tg iter (tIp X.K fi))
    (pgs : ∀ (z : Shared) (G : Hp) (C : Addr) (cl : List (Str × Addr)) (fp : List Addr), PG (X.blk z G scope (compEnvC scope cl C X.env) fp) tg (tG X.K g))
    (ptt : ∀ (z : Shared) (G : Hp) (C : Addr) (cl : List (Str × Addr)) (fp : List Addr), PTs (X.blk z G scope (compEnvC scope cl C X.env) fp) ifs (tT X.K c))
    (pte : ∀ (z : Shared) (G : Hp) (C : Addr) (cl : List (Str × Addr)) (fp : List Addr), PE (X.blk z G scope (compEnvC scope cl C X.env) fp) elt (tE X.K fe))
    {p pos2 : Pos} (hix : ∀ j ∈ g.ix, j ∈ own.map (·.2) := by decide) (hg : Gl X "sorted" := by rfl) (hfs : ∀ x, foldedSetIterable iter X.env x = pure x := by intro _; rfl)
    (he : starEach [.SetComp elt [⟨tg, iter, ifs, 0⟩] scope pos] X.env = (false, eval (.SetComp elt [⟨tg, iter, ifs, 0⟩] scope pos) X.env) :: starEach [] X.env := by rfl) (hpl : (backTo pos2 (starEach [] X.env)).any (·.1) = false := by rfl) :
    PE X (.Call (.Name "sorted" p) [.SetComp elt [⟨tg, iter, ifs, 0⟩] scope pos] [] pos2) (tV X.K (eSortedSet fi (own.map (·.2)) g c fe)) := by
  refine pe_mono (pe_callB (cr_sortedSet calm) hg m PyProof.Rows.boot_sorted (pa_cons (pe_scI calm nd ok hi pgs ptt pte hfs) pa_nil he) (by decide) (by decide) he hpl) fun σ H Q ⟨H0, Z0, Z, env, r, hE, hf, q⟩ => ?_
  obtain ⟨ds, k1, k2⟩ := Res.bind_eq hf
  obtain ⟨out, k3, k4⟩ := Res.bind_eq k2
  cases ka : asInts out with
  | none => rw [ka] at k4; cases k4
  | some ns =>
    rw [ka] at k4
    obtain ⟨k5, k6⟩ := ite_ok k4
    cases k6
    have eo := asInts_eq ka
    subst eo
    refine ⟨H0, Z0, Z, env, ds, hE, k1, fun J H1 Z1 e1 hJ L hL => ?_⟩
    have hE1 := hE.ext e1
    have hEw := hE1.wiped (own.map (·.2))
    have zL := e1.zh.free hL
    have h0 := hE1.s0.free hL
    have m1 : Ext Z1 H1 Z1 (upd H1 L (SetO X.w L (fun _ => false) 0)) := .made e1.zh hL
    refine loop_redP (Pd := SetP X.w L) (Za := Z1) (Ha := H1) (pre := []) (fun _ _ _ _ h => h) (fun _ _ _ h => h) ?_ hix (hEw.ext m1) (notOwn hEw hL) hJ (Same.refl _) (fun Z2 H2 acc _ hA => hA.ext.hh) hL h0 ⟨m1, _, upd_same, zL, [], _, 0, rfl, rfl, Nat.le_refl _, by simp⟩ k3 ?_
    · rintro σ3 H3 Nx ⟨G0, Y0, Y, ev, y, hY, hy, qy⟩
      refine ⟨G0, Y0, Y, ev, y, hY, hy, fun v H' Z' e' hd => ?_⟩
      obtain ⟨o, acc, y2, a1, a2, a3, ⟨Z9, a4⟩, a5⟩ := qy v H' Z' e' hd
      obtain ⟨rest, hr⟩ := a3
      obtain ⟨ms, S, n, rfl, rfl, b3, b4⟩ := a2
      obtain ⟨k, hk⟩ : ∃ k : Int, y2 = .int k := by
        have : y2 ∈ [] ++ ns.map PyData.int := by rw [← hr]; simp
        rw [List.nil_append] at this
        obtain ⟨k, _, e⟩ := List.mem_map.mp this
        exact ⟨k, e.symm⟩
      subst hk
      have hv : v = .int k := by cases a4; rfl
      have hlen : ms.length + 1 ≤ ns.length := by
        have := congrArg List.length hr
        simp at this; omega
      refine ⟨k, S, n, hv, a1, by have : scanBound = 4096 := rfl; omega, a5 _ ⟨ms ++ [k], _, _, by simp, rfl, ?_, fun j => ?_⟩⟩
      · rw [List.length_append]
        split
        · simp; omega
        · simp; omega
      · rw [Bool.or_eq_true, b4, decide_eq_true_eq, List.mem_append, List.mem_singleton]
    · intro Z2 H2 _ hA
      obtain ⟨o, a1, a2, ns2, S, n, b1, rfl, b3, b4⟩ := hA.at_
      have e2 : ns2 = ns := by
        rw [List.nil_append] at b1
        exact ((List.map_inj_right fun a b h => PyData.int.inj h).mp b1).symm
      subst e2
      refine ⟨L, S, n, rfl, a1, by omega, fun ms p c1 c2 c3 c4 => ?_⟩
      have eu : ms = sortU ns2 := asc_unique c1 (pw_sortU ns2) fun z => by rw [c2, b4, mem_sortU]
      subst eu
      have zp := hA.ext.zh.free c4
      exact q _ _ Z2 ((e1.trans hA.ext).trans (.made hA.ext.zh c4)) ⟨p, _, _, rfl, rfl, (e1.hh.trans hA.ext.hh).free c4, zp, upd_same, ints_dps _⟩
@[simp] theorem eSortedSet_ev (fi : Env → Res (List D)) (own : List Nat) (g : Tg) (c : Env → Res Bool) (fe : Env → Res D) (env : Env) : eSortedSet fi own g c fe env = (fi env).bind fun ds => (compL g c fe (clr own env) ds).bind fun ys => match asInts ys with
  | some ns => if ns.length < 64 then .ok ⟨.list ((sortU ns).map PyData.int), true⟩ else .bad
  | none => .bad := Eq.trans rfl rfl
theorem asInts_fmap {α : Type} (f : α → Int) : ∀ xs : List α, asInts (xs.map fun x => PyData.int (f x)) = some (xs.map f)
  | [] => rfl
  | x :: r => by
    rw [List.map_cons, List.map_cons, asInts, asInts_fmap f r]
    rfl
end
end PV

set_option Elab.async false
set_option linter.all false
set_option maxRecDepth 100000
/-! ### list(range(n)), len(set(tuples)), the least of three -/
namespace PV
open PySem PySem.Spec L2
set_option autoImplicit false
theorem hu64_of {k : Nat} {A : Around} (r : Room k A) : A.units + 64 < cLine := by have := r.un; omega
section
variable {X : Cx} {a : Expr} {p p2 q pos : Pos} {fa : Env → Res D}
/-! list(range(n)) -/
def gLstRg : D → Res RV
  | .int n => if n < 1000000 ∧ -1000000 < n then .ok ⟨.list (rangeD 0 n.toNat), true⟩ else .bad
  | _ => .bad
theorem rgV_eq (n : Int) : rgV 0 n = ((List.range n.toNat).map fun i => (0 + ((i : Nat) : Int))).map V.int := by
  unfold rgV
  rw [Int.sub_zero, List.map_map]
  rfl
theorem V_lstRg1 (m1 : X.mg "list" = none) (m2 : X.mg "range" = none) (ha : PE X a (tP X.K fa)) (hc : X.calm = true := by rfl) (hg : Gl X "list" := by rfl) (hg2 : Gl X "range" := by rfl)
    (na : starEach [.Call (.Name "range" p2) [a] [] q] X.env = (false, eval (.Call (.Name "range" p2) [a] [] q) X.env) :: starEach [] X.env := by rfl) (na2 : starEach [a] X.env = (false, eval a X.env) :: starEach [] X.env := by rfl) :
    PE X (.Call (.Name "list" p) [.Call (.Name "range" p2) [a] [] q] [] pos) (tV X.K (eOp1 gLstRg fa)) := by
  refine pe_mono (pe_listRg hc hg m1 (prg_1 hg2 m2 ha na2) na) fun σ H Q ⟨H0, Z0, Z, env, r, hE, hf, k⟩ => ?_
  obtain ⟨d, h1, h2⟩ := Res.bind_eq hf
  unfold gLstRg at h2
  split at h2
  · rename_i n
    obtain ⟨⟨b1, b2⟩, h2⟩ := ite_ok h2
    cases h2
    refine ⟨H0, Z0, Z, env, _, hE, h1, fun v H1 Z1 e1 d1 => ?_⟩
    have := d1.int; subst this
    refine ⟨n, rfl, ⟨by omega, by omega, by omega, by omega, by omega⟩, fun l hl => ?_⟩
    refine k _ _ _ (e1.trans (.made e1.zh hl)) ⟨l, _, _, rfl, rfl, e1.hh.free hl, e1.zh.free hl, upd_same, ?_⟩
    rw [rgV_eq]
    have := ints_dps (K := X.K) (H := Z1) ((List.range n.toNat).map fun i => (0 + ((i : Nat) : Int)))
    have e : ((List.range n.toNat).map fun i => (0 + ((i : Nat) : Int))).map PyData.int = rangeD 0 n.toNat := by
      rw [List.map_map]; rfl
    rw [e] at this
    exact this
  · cases h2
@[simp] theorem gLstRg_ev (n : Int) : gLstRg (.int n) = if n < 1000000 ∧ -1000000 < n then .ok ⟨.list (rangeD 0 n.toNat), true⟩ else .bad := Eq.trans rfl rfl
/-! len(set(xs)), the xs tuples of ints -/
def asTups : List D → Option (List (List Int))
  | [] => some []
  | .tuple ds :: r => match asInts ds, asTups r with
    | some ns, some ks => some (ns :: ks)
    | _, _ => none
  | _ :: _ => none
def dedup {α : Type} [DecidableEq α] : List α → List α
  | [] => []
  | x :: r => if x ∈ r then dedup r else x :: dedup r
theorem mem_dedup {α : Type} [DecidableEq α] {z : α} : ∀ {l : List α}, z ∈ dedup l ↔ z ∈ l
  | [] => Iff.rfl
  | x :: r => by
    unfold dedup
    split
    · rename_i h
      rw [mem_dedup, List.mem_cons]
      exact ⟨.inr, fun k => k.elim (fun e => e ▸ h) id⟩
    · rw [List.mem_cons, List.mem_cons, mem_dedup]
theorem dedup_nodup {α : Type} [DecidableEq α] : ∀ l : List α, (dedup l).Nodup
  | [] => List.nodup_nil
  | x :: r => by
    unfold dedup
    split
    · exact dedup_nodup r
    · rename_i h
      exact List.nodup_cons.mpr ⟨fun k => h (mem_dedup.mp k), dedup_nodup r⟩
theorem nodup_le {α : Type} [DecidableEq α] : ∀ {l m : List α}, l.Nodup → (∀ x ∈ l, x ∈ m) → l.length ≤ m.length
  | [], _, _, _ => Nat.zero_le _
  | x :: l, m, hn, hs => by
    obtain ⟨h1, h2⟩ := List.nodup_cons.mp hn
    have hx : x ∈ m := hs x List.mem_cons_self
    have ih := nodup_le (m := m.erase x) h2 fun y hy => by
      have hne : y ≠ x := fun e => h1 (e ▸ hy)
      exact (List.mem_erase_of_ne hne).2 (hs y (List.mem_cons_of_mem _ hy))
    have e := List.length_erase_of_mem hx
    have := List.length_pos_of_mem hx
    rw [List.length_cons]
    omega
theorem dedup_le {α : Type} [DecidableEq α] : ∀ l : List α, (dedup l).length ≤ l.length
  | [] => Nat.le_refl _
  | x :: r => by
    have := dedup_le r
    unfold dedup
    split <;> simp only [List.length_cons] <;> omega
theorem dedup_full {α : Type} [DecidableEq α] : ∀ l : List α, (dedup l).length = l.length ↔ l.Nodup
  | [] => by simp [dedup]
  | x :: r => by
    have h1 := dedup_le r
    have h2 := dedup_full r
    rw [List.nodup_cons]
    unfold dedup
    split
    · rename_i h
      constructor
      · intro e; rw [List.length_cons] at e; omega
      · intro e; exact absurd h e.1
    · rename_i h
      rw [List.length_cons, List.length_cons, Nat.add_right_cancel_iff, h2]
      exact ⟨fun k => ⟨h, k⟩, fun k => k.2⟩
theorem tups_of {K : PySem.W.Frag} {Z : Hp} : ∀ {ds : List D} {vs : List V} {kss : List (List Int)}, DpAll K Z vs ds → asTups ds = some kss → ∃ ks : List (Addr × List Int), vs = ks.map (fun p => V.ref p.1) ∧ ks.map (·.2) = kss ∧ ∀ p ∈ ks, SqT K Z p.1 (p.2.map V.int)
  | [], _, _, .nil, e => by cases e; exact ⟨[], rfl, rfl, fun _ h => nomatch h⟩
  | d :: r, _, _, .cons h1 h2, e => by
    unfold asTups at e
    split at e
    · rename_i e0; cases e0
    · rename_i ds r' e0
      cases e0
      split at e
      · rename_i ns ks k1 k2
        cases e
        obtain ⟨L, q1, q2, q3⟩ := tups_of h2 k2
        cases h1 with
        | tup g1 g2 =>
          rename_i t ws
          have := asInts_eq k1; subst this
          have := dps_ints g2; subst this
          refine ⟨(t, ns) :: L, by rw [q1]; rfl, by rw [← q2]; rfl, fun p hp => ?_⟩
          rcases List.mem_cons.mp hp with rfl | hp
          · exact g1
          · exact q3 p hp
      · cases e
    · cases e
def gLenSet : D → Res D
  | .list ds => match asTups ds with
    | some kss => if kss.length < 64 then .ok (.int ((dedup kss).length : Int)) else .bad
    | none => .bad
  | _ => .bad
def rLenSetT (P : Program) (w : World) : List V → Hp → VK → Prop := fun vs H Q => ∃ (a : Addr) (L : List (Addr × List Int)), vs = [V.ref a] ∧ H a = some (SetTO P w a L) ∧ ((L.map (·.2)).Nodup → L.length < 64 → Q (.int (L.length : Int)) H)
theorem cr_lenSetT : CallR X (.builtin "len") (rLenSetT X.prog X.w) := by
  intro pins s σ H vs us Q I r h
  obtain ⟨b, L, rfl, ha, k⟩ := h
  have R0 : SetT0 X.prog X.w s.heap b L := (I.hok b _ ha).1
  obtain ⟨es, ep, t, ⟨o, ho, hex, hd⟩, rows, tab, nd, _, _, room, few⟩ := R0.ex
  rw [Vals.ref1 r]
  have hl : es.size = L.length := by
    have := congrArg List.length rows
    rw [Array.length_toList] at this
    rw [this]
    simp [rowsOf]
  refine call_len_set ho hex hd ?_ (by omega) ⟨.int (L.length : Int), H, I.tok _, ⟨_, by rw [hl]⟩, k nd few⟩
  have hs := tab.sz
  have hdm := tab.dm
  rw [List.length_map] at hs
  unfold SetTable.fits SetTable.fill
  rw [hs, hl, hdm]
  simp
  omega
theorem E_lenSet (m1 : X.mg "len" = none) (m2 : X.mg "set" = none) (hu : X.A.units + 64 < cLine) (ha : PE X a (tP X.K fa)) (hc : X.calm = true := by rfl) (hg : Gl X "len" := by rfl) (hg2 : Gl X "set" := by rfl)
    (na : starEach [.Call (.Name "set" p2) [a] [] q] X.env = (false, eval (.Call (.Name "set" p2) [a] [] q) X.env) :: starEach [] X.env := by rfl) (na2 : starEach [a] X.env = (false, eval a X.env) :: starEach [] X.env := by rfl)
    (hpl : (backTo pos (starEach [] X.env)).any (·.1) = false := by rfl) (hpl2 : (backTo q (starEach [] X.env)).any (·.1) = false := by rfl) :
    PE X (.Call (.Name "len" p) [.Call (.Name "set" p2) [a] [] q] [] pos) (tE X.K (eOp1 gLenSet fa)) := by
  refine pe_mono (pe_callB cr_lenSetT hg m1 PySem.boot_len (pa_cons (pe_callTy (cr_setOfT hc hu) hg2 m2 (by decide +kernel) (pa_cons ha pa_nil na2) (by decide) (by decide) na2 hpl2) pa_nil na) (by decide) (by decide) na hpl) fun σ H Q ⟨H0, Z0, Z, env, r, hE, hf, k⟩ => ?_
  obtain ⟨d, h1, h2⟩ := Res.bind_eq hf
  unfold gLenSet at h2
  split at h2
  · rename_i ds
    split at h2
    · rename_i kss hk
      obtain ⟨b1, h2⟩ := ite_ok h2
      cases h2
      refine ⟨H0, Z0, Z, env, _, hE, h1, fun v H1 Z1 e1 d1 => ?_⟩
      obtain ⟨l, vs, rfl, g1, g2⟩ := d1.list e1.zh
      obtain ⟨ks, q1, q2, q3⟩ := tups_of g2 hk
      have lk : ks.length = kss.length := by rw [← q2, List.length_map]
      refine ⟨l, ks, rfl, by rw [← q1]; exact g1, fun p hp => seqT e1.zh (q3 p hp), by omega, fun b L hb s1 s2 => ⟨b, L, rfl, upd_same, fun nd few => ?_⟩⟩
      have e : L.length = (dedup kss).length := by
        refine Nat.le_antisymm ?_ ?_
        · rw [← List.length_map (f := fun p : Addr × List Int => p.2)]
          refine nodup_le nd fun x hx => ?_
          obtain ⟨p, hp, rfl⟩ := List.mem_map.mp hx
          rw [mem_dedup, ← q2]
          exact List.mem_map.mpr ⟨p, s1 p hp, rfl⟩
        · rw [← List.length_map (as := L) (f := fun p : Addr × List Int => p.2)]
          refine nodup_le (dedup_nodup _) fun x hx => ?_
          rw [mem_dedup, ← q2] at hx
          obtain ⟨p, hp, rfl⟩ := List.mem_map.mp hx
          exact s2 p hp
      rw [e]
      exact k _ _ _ (e1.trans (.made e1.zh hb)) (.int _)
    · cases h2
  · cases h2
@[simp] theorem gLenSet_ev (ds : List D) : gLenSet (.list ds) = match asTups ds with
    | some kss => if kss.length < 64 then .ok (.int ((dedup kss).length : Int)) else .bad
    | none => .bad := Eq.trans rfl rfl
theorem asTups_pairs {α : Type} (f g : α → Int) : ∀ xs : List α, asTups (xs.map fun x => PyData.tuple [.int (f x), .int (g x)]) = some (xs.map fun x => [f x, g x])
  | [] => rfl
  | x :: r => by
    rw [List.map_cons, List.map_cons, asTups, asTups_pairs f g r]
    rfl
/-! the least of three -/
def gMin3 : List D → Res D
  | [.int i, .int j, .int k] => .ok (.int (min (min i j) k))
  | _ => .bad
theorem gMin3_ok {K : PySem.W.Frag} : CallD K (rNuC3 nuMin3) gMin3 := by
  intro Z H vs ds d Q s h e q
  unfold gMin3 at e
  split at e
  · rename_i i j k
    cases e
    obtain ⟨v, w, x, rfl, hv, hw, hx⟩ : ∃ v w x, vs = [v, w, x] ∧ DpP K Z H v (.int i) ∧ DpP K Z H w (.int j) ∧ DpP K Z H x (.int k) := by
      cases h with
      | cons h1 h =>
        cases h with
        | cons h2 h =>
          cases h with
          | cons h3 h =>
            cases h
            exact ⟨_, _, _, rfl, h1, h2, h3⟩
    have := hv.int; subst this
    have := hw.int; subst this
    have := hx.int; subst this
    refine ⟨_, _, _, .int (min (min i j) k), rfl, ?_, fin_e s q (.int _)⟩
    show ((nuMin2 (.int i) (.int j)).bind fun m => nuMin2 m (.int k)) = _
    simp only [nuMin2, nuLt, nuCB, Option.map, decide_eq_true_eq]
    by_cases c : j < i
    · rw [if_pos c]
      have e : min i j = j := by omega
      rw [e]
      simp only [Option.bind, nuMin2, nuLt, nuCB, Option.map, decide_eq_true_eq]
      by_cases c2 : k < j
      · rw [if_pos c2]; congr; omega
      · rw [if_neg c2]; congr; omega
    · rw [if_neg c]
      have e : min i j = i := by omega
      rw [e]
      simp only [Option.bind, nuMin2, nuLt, nuCB, Option.map, decide_eq_true_eq]
      by_cases c2 : k < i
      · rw [if_pos c2]; congr; omega
      · rw [if_neg c2]; congr; omega
  · cases e
@[simp] theorem gMin3_ev (i j k : Int) : gMin3 [.int i, .int j, .int k] = .ok (.int (min (min i j) k)) := Eq.trans rfl rfl
end
end PV

set_option Elab.async false
set_option linter.all false
set_option maxRecDepth 100000
/-! ### repr of lists and tuples; a law that runs where the caller runs it -/
namespace PV
open PySem PySem.Spec L2 PyProof.Rows
set_option autoImplicit false
/-! texts of small data -/
theorem okS_app {a b : Str} (h1 : PyData.strOk a = true) (h2 : PyData.strOk b = true) : PyData.strOk (a ++ b) = true := by
  unfold PyData.strOk at *
  rw [Array.all_eq_true_iff_forall_mem] at *
  intro c hc
  have : c ∈ a.cps ++ b.cps := hc
  rcases Array.mem_append.mp this with h | h
  · exact h1 c h
  · exact h2 c h
theorem okS_of (s : String) : PyData.strOk (Str.ofString s) = true := by
  rw [Str.ofString_eq_toList]
  unfold PyData.strOk
  rw [Array.all_eq_true_iff_forall_mem]
  intro c hc
  rw [List.mem_toArray] at hc
  obtain ⟨x, _, rfl⟩ := List.mem_map.mp hc
  have := x.valid
  unfold UInt32.isValidChar Nat.isValidChar at this
  show decide (x.val.toNat < 1114112) = true
  rw [decide_eq_true_eq]
  omega
theorem okS_from : ∀ (ts : List Str) (k : Nat) (acc : Str), PyData.strOk acc = true → (∀ t ∈ ts, PyData.strOk t = true) → PyData.strOk (textFrom k acc ts) = true
  | [], _, _, h, _ => h
  | t :: r, k, acc, h, ht => by
    unfold textFrom
    refine okS_from r (k + 1) _ (okS_app (okS_app h ?_) (ht t List.mem_cons_self)) fun x hx => ht x (List.mem_cons_of_mem _ hx)
    exact okS_of _
theorem okS_join (s : Str) (hs : PyData.strOk s = true) : ∀ ts : List Str, (∀ t ∈ ts, PyData.strOk t = true) → PyData.strOk (Str.join s ts) = true
  | [], _ => by
    have : PyData.strOk Str.empty = true := by decide +kernel
    exact this
  | [x], h => h x List.mem_cons_self
  | x :: y :: r, h => by
    have : Str.join s (x :: y :: r) = x ++ s ++ Str.join s (y :: r) := rfl
    rw [this]
    exact okS_app (okS_app (h x List.mem_cons_self) hs) (okS_join s hs (y :: r) fun t ht => h t (List.mem_cons_of_mem _ ht))
/-- small data: its text is short -/
structure Rp (n k : Nat) (d : D) : Prop where
  sh : d.showable = true
  nd : d.hasDict = false
  dp : d.depth ≤ n
  wt : d.weight ≤ k
  lv : d.leavesShort 13 = true
  ok : PyData.strOk d.shown = true
theorem Rp.int {n k : Nat} {z : Int} (h : z.natAbs < 10 ^ 12) (hk : 41 ≤ k) : Rp n k (.int z) where
  sh := by
    unfold PyData.showable
    rw [decide_eq_true_eq]
    by_cases c : z.natAbs = 0
    · rw [c]; decide
    · have := (Nat.log2_lt c (k := 40)).mpr (by omega)
      omega
  nd := by unfold PyData.hasDict; rfl
  dp := by unfold PyData.depth; omega
  wt := by
    unfold PyData.weight
    split
    · omega
    · by_cases c : z.natAbs = 0
      · rw [c]
        have : Nat.log2 0 = 0 := by decide
        omega
      · have := (Nat.log2_lt c (k := 40)).mpr (by omega)
        omega
  lv := by
    unfold PyData.leavesShort
    rw [decide_eq_true_eq]
    exact PyData.shown_int_le h
  ok := by
    unfold PyData.shown
    exact okS_of _
theorem Rp.none {n k : Nat} : Rp n k .none where
  sh := by unfold PyData.showable; rfl
  nd := by unfold PyData.hasDict; rfl
  dp := by unfold PyData.depth; omega
  wt := by unfold PyData.weight; omega
  lv := by unfold PyData.leavesShort; rfl
  ok := by unfold PyData.shown; exact okS_of _
theorem Rp.bool {n k : Nat} {b : Bool} : Rp n k (.bool b) where
  sh := by unfold PyData.showable; rfl
  nd := by unfold PyData.hasDict; rfl
  dp := by unfold PyData.depth; omega
  wt := by unfold PyData.weight; omega
  lv := by unfold PyData.leavesShort; rfl
  ok := by
    unfold PyData.shown
    cases b <;> exact okS_of _
structure RpA (n k : Nat) (xs : List D) : Prop where
  sh : PyData.showableAll xs = true
  nd : PyData.hasDictAll xs = false
  dp : PyData.depthAll xs ≤ n
  wt : PyData.weightAll xs ≤ (k + 1) * xs.length
  lv : PyData.leavesShortAll 13 xs = true
  ok : ∀ t ∈ PyData.shownAll xs, PyData.strOk t = true
theorem RpA.of {n k : Nat} : ∀ {xs : List D}, (∀ x ∈ xs, Rp n k x) → RpA n k xs
  | [], _ => ⟨by unfold PyData.showableAll; rfl, by unfold PyData.hasDictAll; rfl, by unfold PyData.depthAll; omega, by unfold PyData.weightAll; omega, by unfold PyData.leavesShortAll; rfl, fun t h => by unfold PyData.shownAll at h; cases h⟩
  | x :: r, h => by
    have hx := h x List.mem_cons_self
    have hr := RpA.of fun y hy => h y (List.mem_cons_of_mem _ hy)
    refine ⟨by unfold PyData.showableAll; rw [hx.sh, hr.sh]; rfl, by unfold PyData.hasDictAll; rw [hx.nd, hr.nd]; rfl, ?_, ?_, by unfold PyData.leavesShortAll; rw [hx.lv, hr.lv]; rfl, fun t ht => ?_⟩
    · unfold PyData.depthAll
      have := hx.dp
      have := hr.dp
      omega
    · unfold PyData.weightAll
      have := hx.wt
      have := hr.wt
      rw [List.length_cons, Nat.mul_add]
      omega
    · unfold PyData.shownAll at ht
      rcases List.mem_cons.mp ht with rfl | ht
      · exact hx.ok
      · exact hr.ok t ht
theorem Rp.list {n k m : Nat} {xs : List D} (h : ∀ x ∈ xs, Rp n k x) (hm : (k + 1) * xs.length ≤ m) : Rp (n + 1) m (.list xs) := by
  have a := RpA.of h
  refine ⟨by unfold PyData.showable; exact a.sh, by unfold PyData.hasDict; exact a.nd, by unfold PyData.depth; have := a.dp; omega, by unfold PyData.weight; exact Nat.le_trans a.wt hm, by unfold PyData.leavesShort; exact a.lv, ?_⟩
  unfold PyData.shown listText
  exact okS_app (okS_from _ _ _ (okS_of _) a.ok) (okS_of _)
theorem Rp.tuple {n k m : Nat} {xs : List D} (h : ∀ x ∈ xs, Rp n k x) (hm : (k + 1) * xs.length ≤ m) : Rp (n + 1) m (.tuple xs) := by
  have a := RpA.of h
  refine ⟨by unfold PyData.showable; exact a.sh, by unfold PyData.hasDict; exact a.nd, by unfold PyData.depth; have := a.dp; omega, by unfold PyData.weight; exact Nat.le_trans a.wt hm, by unfold PyData.leavesShort; exact a.lv, ?_⟩
  unfold PyData.shown tupleText
  refine okS_app (okS_app (okS_of _) (okS_join _ (okS_of _) _ a.ok)) ?_
  exact okS_of _
theorem Rp.le {n k n' k' : Nat} {d : D} (h : Rp n k d) (hn : n ≤ n' := by omega) (hk : k ≤ k' := by omega) : Rp n' k' d := ⟨h.sh, h.nd, Nat.le_trans h.dp hn, Nat.le_trans h.wt hk, h.lv, h.ok⟩
theorem Rp.size {n k : Nat} {d : D} (h : Rp n k d) (hk : k ≤ 2 ^ 20) : d.shown.length ≤ sizeLine := PyData.shown_fits (B := 13) (by decide) (by decide) h.lv (Nat.le_trans h.wt hk)
/-! the call -/
def isSq : D → Bool
  | .list _ => true
  | .tuple _ => true
  | _ => false
def gRepr : List D → Res D
  | [d] => if isSq d = true ∧ d.showable = true ∧ d.hasDict = false ∧ d.depth ≤ 60 ∧ d.shown.length ≤ sizeLine then .ok (.str d.shown) else .bad
  | _ => .bad
theorem gRepr_ok {n k : Nat} {d : D} (h : Rp n k d) (hs : isSq d = true) (hn : n ≤ 60) (hk : k ≤ 2 ^ 20) : gRepr [d] = .ok (.str d.shown) := by
  have : gRepr [d] = if isSq d = true ∧ d.showable = true ∧ d.hasDict = false ∧ d.depth ≤ 60 ∧ d.shown.length ≤ sizeLine then .ok (.str d.shown) else .bad := rfl
  rw [this, if_pos ⟨hs, h.sh, h.nd, Nat.le_trans h.dp hn, h.size hk⟩]
def rRep (K : PySem.W.Frag) : List V → Hp → VK → Prop := fun xs H Q => ∃ p d, xs = [.ref p] ∧ Dp K H (.ref p) d ∧ d.showable = true ∧ d.hasDict = false ∧ d.depth ≤ 60 ∧ d.shown.length ≤ sizeLine ∧ Q (.str d.shown) H
theorem rep_ok {K : PySem.W.Frag} : CallD K (rRep K) gRepr := by
  intro Z H vs ds d Q s h e q
  unfold gRepr at e
  split at e
  · rename_i x
    obtain ⟨⟨h1, h2, h3, h4, h5⟩, e⟩ := ite_ok e
    cases e
    obtain ⟨v, rfl, hv⟩ : ∃ v, vs = [v] ∧ DpP K Z H v x := by
      cases h with
      | cons h1 h =>
        cases h
        exact ⟨_, rfl, h1⟩
    have hr : ∃ p, v = .ref p := by
      cases x with
      | list ys => obtain ⟨p, _, e, _⟩ := hv.list s; exact ⟨p, e⟩
      | tuple ys => obtain ⟨p, _, e, _⟩ := hv.tup s; exact ⟨p, e⟩
      | _ => cases h1
    obtain ⟨p, rfl⟩ := hr
    exact ⟨p, x, rfl, hv.cur s, h2, h3, h4, h5, fin_e s q (.str _)⟩
  · cases e
theorem call_rep {X : Cx} (hu : X.A.units + 65 < cLine) (hg : X.A.guards = some []) : CallR X (.builtin "repr") (rRep X.K) := by
  intro pins s σ H xs us Q I r h
  obtain ⟨p, d, rfl, hd, h1, h2, h3, h4, q⟩ := h
  obtain ⟨u, rfl, r1⟩ := vals1 r
  have r2 : u = Value.ref p := r1
  subst r2
  obtain ⟨as, rd⟩ := Dp.reads I d _ _ hd r1
  exact PySem.repr_of_reads' rd h1 (PyData.noDict_hsm h2) hg (by omega) (fun b o e => e) (fun h' u tk hk => ⟨.str _, H, I.kept hk, ⟨u, rfl⟩, q⟩) h4
end PV

set_option Elab.async false
set_option linter.all false
set_option maxRecDepth 100000
/-! ### a law's def that is promised only where the caller runs it (nothing guarded on the stack) -/
namespace PV
open PySem PySem.Spec L2 PyProof.Rows
set_option autoImplicit false
section
variable {P : Program} {w : World} {K : PySem.W.Frag} {mg : Str → Option Value} {base : Heap}
/-- what a law's def promises the caller -/
def LawOk (P : Program) (w : World) (K : PySem.W.Frag) (mg : Str → Option Value) (base : Heap) (f : Addr) (fd : FuncData) (ps : List Str) (m : List D → Res RV) : Prop :=
  ∀ (s : Shared) (H : Hp) (args : Args) (us : List Value) (vs : List V) (Q : VK), Env0 P w K mg base callerA [] s H → BindsTo s fd args (ps.zip us) → Vals vs us → spD K m vs H Q E0 →
    codeAny (model P w) callerA (.call (.ref f) args) (CR CX0 [] P w H s Q E0) s
theorem law_ok {x qual : Str} {st : Stmt} {f : Addr} {fd : FuncData} {N ps : List Str} {k np n : Nat} {body : Env → Out} {m : List D → Res RV} (F : Fun K x qual st f fd) (S : FnScope N ps (defScope st)) (hm : m = fnM np n body) (hnp : ps.length = np) (hn : N.length = n) (hN : np ≤ n) (room : Room (k + 1) callerA)
    (hbody : ∀ (cdv : Value) (s : Shared) (H : Hp) (E : XK), Room k (callerA.deeper (PyProof.Rows.envOfC qual (defScope st) s.heap.objs.size f cdv)) →
      PSs (cxOf CX0 P w K mg base N qual (defScope st) f cdv callerA [] s H E).nox (defBody st) (tS K body)) : LawOk P w K mg base f fd ps m := by
  subst hm hnp hn
  obtain ⟨oc, od, kV, doc, pm, an, cdv, ct, osl, rfl, lk, inK⟩ := F.ex
  intro s H args us vs Q start0 bound vals want
  have stays : ∀ b o, base.get? b = some o → s.heap.get? b = some o := fun b o e => (start0.bs b o e).1
  have inHeap := start0.mod.kin.keeps stays
  have free := start0.mod.nolimit.keeps stays
  obtain ⟨Z, ds, r, sz, hd, hr, q⟩ := want
  have count : vs.length = ps.length := by rw [dps_length hd]; exact (ite_ok hr).1
  have res := (ite_ok hr).2
  have seats : ∀ y ∈ ps.zip us, (defScope st).names.lookup y.1 = some .local ∨ ((defScope st).names.lookup y.1 = some .cell ∧ ((PySem.cellsFrom (s.heap.objs.size + 1) (defScope st).names []).lookup y.1).isSome = true) := by
    intro y hy
    have my := (List.of_mem_zip (a := y.1) (b := y.2) hy).1
    rcases S.par _ my with c | c
    · exact Or.inl c
    · exact Or.inr ⟨c, PySem.W.cellsFrom_some _ _ _ (Or.inl c)⟩
  refine codeAny_call_function room.depth (inHeap _ _ lk) rfl S.co S.gen rfl (PySem.W.codeRec_of inHeap inK) (bound _ _ _ _ ?_)
  refine wpAny_newFunctionEnv_cells S.kind seats fun env he s1 ext => ?_
  subst he
  refine ⟨free.keeps ext.toInCall.keep, codeAny_func ?_⟩
  have I : Inv (cxOf CX0 P w K mg base N qual (defScope st) f cdv callerA [] s H E0) [] (L2.start N vs) H s1 := inv_start S room.hd start0 count vals ext
  have walk := (hbody cdv s H E0 (room.deeper _)).nox
  have want : tS K body { nx := fun _ H' => Q .non H', rt := Q } (L2.start N vs) H := by
    refine ⟨H, Z, Z, _, env_start sz hd (by rw [count]; exact hN), ?_⟩
    cases hb : body (ds.map Sl.fz ++ List.replicate (N.length - ds.length) Sl.no) with
    | ret r' =>
      rw [hb] at res
      cases res
      exact fun Z' v H' ⟨e, hr⟩ => q v H' Z' e hr
    | next env' =>
      rw [hb] at res
      cases res
      exact fun Z' σ' H' hE => q .non H' Z' hE.toExt .non
    | exc c => rw [hb] at res; cases res
    | bad => rw [hb] at res; cases res
    | brk e => rw [hb] at res; cases res
    | cont e => rw [hb] at res; cases res
  refine wpAny_mono (walk.run [] s1 _ H _ I want) (fun fin s' got => ?_) fun e s' got => ?_
  · match fin, got with
    | .ret u, ⟨v, σ', H', J, rv, qv⟩ => exact ⟨v, H', J.os, J.bare, J.base, J.hok, rv, qv⟩
    | .next, ⟨σ', H', J, qv⟩ => exact ⟨V.non, H', J.os, J.bare, J.base, J.hok, rfl, qv⟩
    | .brk, ⟨_, _, _, qv⟩ => exact qv.elim
    | .cont, ⟨_, _, _, qv⟩ => exact qv.elim
  · exact got
/-! the caller's heap, the script hidden -/
theorem top_env {s : Shared} {a : Addr} {mb : Str → Option Value} {H : Hp} {arr : Array Value} {c : Nat} (inK : K.In s.heap) (ns : s.heap.Ns mainGlobals mg) (nb : s.heap.Ns builtinsNs mb) (bb : ∀ x : Str, x ≠ "__name__" → mb x = bootBuiltins x) (nl : s.heap.NoLimit) (g0 : s.gens = #[])
    (ha : s.heap.get? a = some { cls := .type "list", data := .seq arr c }) (ok : HOk P w H s.heap) (only : ∀ b, H b ≠ none → b = a ∧ K.lookup a = none) :
    K.In (hidT s.heap H) ∧ (hidT s.heap H).Ns mainGlobals mg ∧ Env0 P w K mg (hidT s.heap H) callerA [] s H := by
  have modK : K.In (hidT s.heap H) := fun b o e => by
    refine hidT_get (inK b o e) (Classical.byContradiction fun k => ?_)
    obtain ⟨e1, e2⟩ := only b k
    rw [e1, e2] at e
    cases e
  have dict : ∀ {b : Addr} {m : Str → Option Value}, s.heap.Ns b m → (hidT s.heap H).Ns b m := fun {b m} ⟨o, es, ep, e, d, rest⟩ => by
    refine ⟨o, es, ep, hidT_get e (Classical.byContradiction fun k => ?_), d, rest⟩
    rw [(only b k).1, ha] at e
    cases e
    have d' : Data.seq arr c = Data.dict es ep := d
    cases d'
  obtain ⟨mc, l1, l2⟩ := nl
  refine ⟨modK, dict ns, ⟨rfl, ⟨modK, dict ns, ⟨mb, dict nb, bb⟩, ⟨mc, dict l1, l2⟩⟩, fun b o e => of_hidT e, Nat.le_of_eq (hidT_size _ _), trivial, fun b hb => ?_, ok, .of_eq g0⟩⟩
  exact absurd (show b ∈ ([] : List Addr) from hb) List.not_mem_nil
/-- THE HEAD of such a law -/
theorem law_top {mb : Str → Option Value} {fa a : Addr} {fd : FuncData} {x : Str} {m : List D → Res RV} {s : Shared} {vs : List Value} {ns : List Int} (inK : K.In s.heap) (hns : s.heap.Ns mainGlobals mg) (nb : s.heap.Ns builtinsNs mb) (bb : ∀ x : Str, x ≠ "__name__" → mb x = bootBuiltins x) (nl : s.heap.NoLimit) (g0 : s.gens = #[])
    (ha : s.heap.get? a = some { cls := .type "list", data := .seq vs.toArray }) (hi : IntsAre vs ns) (hl : ns.length ≤ sizeLine)
    (F : ∀ base : Heap, K.In base → base.Ns mainGlobals mg → LawOk P w K mg base fa fd [x] m) (bind : ∀ (s : Shared) (u : Value), BindsTo s fd ⟨[u], []⟩ [(x, u)]) (end_ : ∃ r, m [.list (ns.map PyData.int)] = .ok r ∧ r.d = .bool true) :
    codeAny (model P w) callerA (.call (.ref fa) ⟨[.ref a], []⟩) (fun r s' => r = .ok (.ret (.bool true)) ∧ OldK s.heap s'.heap ∧ s'.os = s.os ∧ AllBare s'.gens) s := by
  have rv := vals_ints hi
  have cnt := hi.length
  have fin : ∀ H : Hp, (∀ b, H b ≠ none → b = a ∧ K.lookup a = none) → (∀ b, H b = none ∨ ∃ o xs, H b = some (.frz o (.lst xs))) → SqL K H a (ns.map V.int) → HOk P w H s.heap →
      codeAny (model P w) callerA (.call (.ref fa) ⟨[.ref a], []⟩) (fun r s' => r = .ok (.ret (.bool true)) ∧ OldK s.heap s'.heap ∧ s'.os = s.os ∧ AllBare s'.gens) s := by
    intro H only frz seq ok
    obtain ⟨k1, k2, env⟩ := top_env inK hns nb bb nl g0 ha ok only
    refine codeAny_mono (F _ k1 k2 s H ⟨[.ref a], []⟩ [.ref a] [.ref a] _ env (bind s (.ref a)) (.cons rfl .nil) (law_sp seq end_)) fun r s' got => ?_
    match r, got with
    | .ok .next, k => exact False.elim k
    | .ok .brk, k => exact False.elim k
    | .ok .cont, k => exact False.elim k
    | .error e, k => exact False.elim k
    | .ok (.ret u), ⟨v, H', os, bare, un, ok', rel, qv⟩ =>
      have qv' : v = .bl true := qv
      subst qv'
      have : u = Value.bool true := rel
      subst this
      refine ⟨rfl, OldK.of_keep fun b o e => ?_, os, bare⟩
      rcases frz b with z | ⟨ob, xs, z⟩
      · exact un.keep b o e z (fun k => absurd (show b ∈ ([] : List Addr) from k) List.not_mem_nil) List.not_mem_nil
      · have before := (ok b _ z).1
        have after := (ok' b _ (un.frzs b ob _ z)).1
        rw [e] at before
        cases before
        exact after
  by_cases c : K.lookup a = none
  · refine fin (fun b => if b = a then some (.frz { cls := .type "list", data := .seq vs.toArray } (.lst (ns.map V.int))) else none) (fun b k => ?_) (fun b => ?_) (.inl (.inr ⟨_, if_pos rfl⟩)) fun b u k => ?_
    · by_cases e : b = a
      · exact ⟨e, c⟩
      · exact absurd (if_neg e) k
    · by_cases e : b = a
      · exact Or.inr ⟨_, _, if_pos e⟩
      · exact Or.inl (if_neg e)
    · by_cases e : b = a
      · have k' := (if_pos e).symm.trans k
        cases k'
        subst e
        exact ⟨ha, by rw [List.length_map]; exact hl, vs, _, rv, ha⟩
      · have k' := (if_neg e).symm.trans k
        cases k'
  · obtain ⟨o, ho⟩ := Option.ne_none_iff_exists'.mp c
    have e := inK a o ho
    rw [ha] at e
    cases e
    refine fin (fun _ => none) (fun b k => absurd rfl k) (fun _ => Or.inl rfl) (.inr ⟨_, vs.toArray, _, ho, rfl, rfl, rfl, by rw [List.size_toArray, cnt]; exact hl, by simpa using rv⟩) fun b u k => ?_
    have k' : (none : Option HO) = some u := k
    cases k'
end
/-- the goal that k_head leaves -/
theorem walk_top {l : PySem.W.OpenLaw} {n : Nat} {q : Program} {loose : List Str} {XP : (Str → Option Value) → Heap → Prop} {YP : World → Heap → Prop} {d : DefRec} {K : Params → PySem.W.Frag} {x : Str} {m : List D → Res RV}
    (hn : l.most = some n) (hn2 : n ≤ sizeLine) (hdf : d.params.defaults = []) (hY : ∀ (w : World) (h : Heap), YP w h → (K w.params).In h)
    (F : ∀ (w : World) (mg : Str → Option Value) (fa : Addr) (h : Heap), (K w.params).In h → h.Ns mainGlobals mg → mg d.name = some (.ref fa) →
      ∃ fd : FuncData, (∀ (s : Shared) (u : Value), BindsTo s fd ⟨[u], []⟩ [(x, u)]) ∧ ∀ base : Heap, (K w.params).In base → base.Ns mainGlobals mg → LawOk l.prog w (K w.params) mg base fa fd [x] m)
    (main : ∀ ns : List Int, ns.length ≤ n → ∃ r, m [.list (ns.map PyData.int)] = .ok r ∧ r.d = .bool true) :
    PySem.W.WalkO q loose XP YP l.row.toRowW d [] (fun f vs => PySem.call f vs) := by
  refine Att.attach_call hn hdf fun w s₀ s₁ mg mb fa o pm cd doc a vs ns G Y ho hd hcd hmg hobj hints hlen hg => ?_
  have inK := hY w _ Y
  obtain ⟨fd, bind, H⟩ := F w mg fa _ inK G.T.g hmg
  exact law_top inK G.T.g G.T.b G.T.builtins G.T.nolimit hg hobj hints (Nat.le_trans hlen hn2) H bind (main ns hlen)
end PV

/-! ### the mirrors -/
namespace G
open PySem PySem.Spec L2 PV
set_option autoImplicit false
set_option linter.all false
/-- fraction(top, bottom): 0 top 1 bottom 2 common -/
noncomputable def b_fraction : PV.Env → Out :=
  (sSeq (sIf (eB (eOp2 gLt (ePk 1) (eC (.int 0))))
  (sPar 0 1 (aCons (eOp1 gNeg (ePk 0)) (aCons (eOp1 gNeg (ePk 1)) aNil)))
  sNil)
  (sSeq (sSet 2 (eBi gGcd (aCons (ePk 0) (aCons (ePk 1) aNil))))
  (sRetE (eTup (aCons (eOp2 gDiv (ePk 0) (ePk 2)) (aCons (eOp2 gDiv (ePk 1) (ePk 2)) aNil))))))
noncomputable def m_fraction : List D → Res RV := fnM 2 3 b_fraction
/-- whole(number): 0 number -/
noncomputable def b_whole : PV.Env → Out :=
  (sRetE (eTup (aCons (eVar 0) (aCons (eC (.int 1)) aNil))))
noncomputable def m_whole : List D → Res RV := fnM 1 1 b_whole
/-- minus(one, other): 0 one 1 other -/
noncomputable def b_minus : PV.Env → Out :=
  (sRetV (eCall m_fraction (aCons (eOp2 gSub (eOp2 gMul (eOp2 gIdx (ePk 0) (eC (.int 0))) (eOp2 gIdx (ePk 1) (eC (.int 1)))) (eOp2 gMul (eOp2 gIdx (ePk 1) (eC (.int 0))) (eOp2 gIdx (ePk 0) (eC (.int 1))))) (aCons (eOp2 gMul (eOp2 gIdx (ePk 0) (eC (.int 1))) (eOp2 gIdx (ePk 1) (eC (.int 1)))) aNil))))
noncomputable def m_minus : List D → Res RV := fnM 2 2 b_minus
/-- times(one, other): 0 one 1 other -/
noncomputable def b_times : PV.Env → Out :=
  (sRetV (eCall m_fraction (aCons (eOp2 gMul (eOp2 gIdx (ePk 0) (eC (.int 0))) (eOp2 gIdx (ePk 1) (eC (.int 0)))) (aCons (eOp2 gMul (eOp2 gIdx (ePk 0) (eC (.int 1))) (eOp2 gIdx (ePk 1) (eC (.int 1)))) aNil))))
noncomputable def m_times : List D → Res RV := fnM 2 2 b_times
/-- is_less(one, other): 0 one 1 other -/
noncomputable def b_is_less : PV.Env → Out :=
  (sRetE (eOp2 gLt (eOp2 gMul (eOp2 gIdx (ePk 0) (eC (.int 0))) (eOp2 gIdx (ePk 1) (eC (.int 1)))) (eOp2 gMul (eOp2 gIdx (ePk 1) (eC (.int 0))) (eOp2 gIdx (ePk 0) (eC (.int 1))))))
noncomputable def m_is_less : List D → Res RV := fnM 2 2 b_is_less
/-- lesser(one, other): 0 one 1 other -/
noncomputable def b_lesser : PV.Env → Out :=
  (sSeq (sIf (eTr (eCallS m_is_less (aCons (ePk 1) (aCons (ePk 0) aNil))))
  (sRetVar 1)
  sNil)
  (sRetVar 0))
noncomputable def m_lesser : List D → Res RV := fnM 2 2 b_lesser
/-- turn(a, b, c): 0 a 1 b 2 c -/
noncomputable def b_turn : PV.Env → Out :=
  (sRetE (eOp2 gSub (eOp2 gMul (eOp2 gSub (eOp2 gIdx (ePk 1) (eC (.int 0))) (eOp2 gIdx (ePk 0) (eC (.int 0)))) (eOp2 gSub (eOp2 gIdx (ePk 2) (eC (.int 1))) (eOp2 gIdx (ePk 0) (eC (.int 1))))) (eOp2 gMul (eOp2 gSub (eOp2 gIdx (ePk 1) (eC (.int 1))) (eOp2 gIdx (ePk 0) (eC (.int 1)))) (eOp2 gSub (eOp2 gIdx (ePk 2) (eC (.int 0))) (eOp2 gIdx (ePk 0) (eC (.int 0)))))))
noncomputable def m_turn : List D → Res RV := fnM 3 3 b_turn
/-- spot_of(stone): 0 stone -/
noncomputable def b_spot_of : PV.Env → Out :=
  (sRetE (eTup (aCons (eV (eCall m_whole (aCons (eOp2 gIdx (ePk 0) (eC (.int 0))) aNil))) (aCons (eV (eCall m_whole (aCons (eOp2 gIdx (ePk 0) (eC (.int 1))) aNil))) aNil))))
noncomputable def m_spot_of : List D → Res RV := fnM 1 1 b_spot_of
/-- wide_turn(a, b, c): 0 a 1 b 2 c 3 first -/
noncomputable def b_wide_turn : PV.Env → Out :=
  (sSeq (sSetV 3 (eCall m_times (aCons (eV (eCall m_minus (aCons (eOp2 gIdx (ePk 1) (eC (.int 0))) (aCons (eOp2 gIdx (ePk 0) (eC (.int 0))) aNil)))) (aCons (eV (eCall m_minus (aCons (eOp2 gIdx (ePk 2) (eC (.int 1))) (aCons (eOp2 gIdx (ePk 0) (eC (.int 1))) aNil)))) aNil))))
  (sFz [3] (sRetV (eCall m_minus (aCons (eVar 3) (aCons (eV (eCall m_times (aCons (eV (eCall m_minus (aCons (eOp2 gIdx (ePk 1) (eC (.int 1))) (aCons (eOp2 gIdx (ePk 0) (eC (.int 1))) aNil)))) (aCons (eV (eCall m_minus (aCons (eOp2 gIdx (ePk 2) (eC (.int 0))) (aCons (eOp2 gIdx (ePk 0) (eC (.int 0))) aNil)))) aNil)))) aNil))))))
noncomputable def m_wide_turn : List D → Res RV := fnM 3 4 b_wide_turn
/-- sides_of(ring): 0 ring 1 k -/
noncomputable def b_sides_of : PV.Env → Out :=
  (sRetV (eComp (iRange1 (eBi gLen (aCons (ePk 0) aNil))) [1] (gNm 1) bYes (eTup (aCons (eOp2 gIdx (ePk 0) (ePk 1)) (aCons (eOp2 gIdx (ePk 0) (eOp2 gMod (eV (eOp2 gAdd (ePk 1) (eC (.int 1)))) (eBi gLen (aCons (ePk 0) aNil)))) aNil)))))
noncomputable def m_sides_of : List D → Res RV := fnM 1 2 b_sides_of
/-- is_on(p, q, stone): 0 p 1 q 2 stone -/
noncomputable def b_is_on : PV.Env → Out :=
  (sSeq (sIf (eB (eOp2 gNe (eCallS m_turn (aCons (ePk 0) (aCons (ePk 1) (aCons (ePk 2) aNil)))) (eC (.int 0))))
  (sRetE (eC (.bool false)))
  sNil)
  (sRetE (eAnd (eChain gLe gLe (eBi gMin2 (aCons (eOp2 gIdx (ePk 0) (eC (.int 0))) (aCons (eOp2 gIdx (ePk 1) (eC (.int 0))) aNil))) (eOp2 gIdx (ePk 2) (eC (.int 0))) (eBi gMax2 (aCons (eOp2 gIdx (ePk 0) (eC (.int 0))) (aCons (eOp2 gIdx (ePk 1) (eC (.int 0))) aNil)))) (eChain gLe gLe (eBi gMin2 (aCons (eOp2 gIdx (ePk 0) (eC (.int 1))) (aCons (eOp2 gIdx (ePk 1) (eC (.int 1))) aNil))) (eOp2 gIdx (ePk 2) (eC (.int 1))) (eBi gMax2 (aCons (eOp2 gIdx (ePk 0) (eC (.int 1))) (aCons (eOp2 gIdx (ePk 1) (eC (.int 1))) aNil)))))))
noncomputable def m_is_on : List D → Res RV := fnM 3 3 b_is_on
/-- parts_them(p, q, r, s): 0 p 1 q 2 r 3 s 4 one 5 other -/
noncomputable def b_parts_them : PV.Env → Out :=
  (sSeq (sSet 4 (eCallS m_turn (aCons (ePk 0) (aCons (ePk 1) (aCons (ePk 2) aNil)))))
  (sSeq (sSet 5 (eCallS m_turn (aCons (ePk 0) (aCons (ePk 1) (aCons (ePk 3) aNil)))))
  (sRetE (eOr (eChain gGt gGt (ePk 4) (eC (.int 0)) (ePk 5)) (eChain gGt gGt (ePk 5) (eC (.int 0)) (ePk 4))))))
noncomputable def m_parts_them : List D → Res RV := fnM 4 6 b_parts_them
/-- have_common(p, q, r, s): 0 p 1 q 2 r 3 s -/
noncomputable def b_have_common : PV.Env → Out :=
  (sSeq (sIf (bAnd (eTr (eCallS m_parts_them (aCons (ePk 0) (aCons (ePk 1) (aCons (ePk 2) (aCons (ePk 3) aNil)))))) (eTr (eCallS m_parts_them (aCons (ePk 2) (aCons (ePk 3) (aCons (ePk 0) (aCons (ePk 1) aNil)))))))
  (sRetE (eC (.bool true)))
  sNil)
  (sRetE (eOr (eCallS m_is_on (aCons (ePk 0) (aCons (ePk 1) (aCons (ePk 2) aNil)))) (eOr (eCallS m_is_on (aCons (ePk 0) (aCons (ePk 1) (aCons (ePk 3) aNil)))) (eOr (eCallS m_is_on (aCons (ePk 2) (aCons (ePk 3) (aCons (ePk 0) aNil)))) (eCallS m_is_on (aCons (ePk 2) (aCons (ePk 3) (aCons (ePk 1) aNil)))))))))
noncomputable def m_have_common : List D → Res RV := fnM 4 4 b_have_common
/-- is_between(one, other, value): 0 one 1 other 2 value 3 low 4 high -/
noncomputable def b_is_between : PV.Env → Out :=
  (sSeq (sPar 3 4 (aCons (eV (eCall m_whole (aCons (eBi gMin2 (aCons (ePk 0) (aCons (ePk 1) aNil))) aNil))) (aCons (eV (eCall m_whole (aCons (eBi gMax2 (aCons (ePk 0) (aCons (ePk 1) aNil))) aNil))) aNil)))
  (sRetE (eAnd (eNot (eCallS m_is_less (aCons (ePk 2) (aCons (ePk 3) aNil)))) (eNot (eCallS m_is_less (aCons (ePk 4) (aCons (ePk 2) aNil)))))))
noncomputable def m_is_between : List D → Res RV := fnM 3 5 b_is_between
/-- is_spot_on(p, q, spot): 0 p 1 q 2 spot -/
noncomputable def b_is_spot_on : PV.Env → Out :=
  (sSeq (sIf (eB (eOp2 gNe (eV (eCall m_wide_turn (aCons (eV (eCall m_spot_of (aCons (eVar 0) aNil))) (aCons (eV (eCall m_spot_of (aCons (eVar 1) aNil))) (aCons (eVar 2) aNil))))) (eC (.tuple [(.int 0), (.int 1)]))))
  (sRetE (eC (.bool false)))
  sNil)
  (sRetE (eAnd (eCallS m_is_between (aCons (eOp2 gIdx (ePk 0) (eC (.int 0))) (aCons (eOp2 gIdx (ePk 1) (eC (.int 0))) (aCons (eOp2 gIdx (ePk 2) (eC (.int 0))) aNil)))) (eCallS m_is_between (aCons (eOp2 gIdx (ePk 0) (eC (.int 1))) (aCons (eOp2 gIdx (ePk 1) (eC (.int 1))) (aCons (eOp2 gIdx (ePk 2) (eC (.int 1))) aNil)))))))
noncomputable def m_is_spot_on : List D → Res RV := fnM 3 3 b_is_spot_on
/-- is_crossed(p, q, spot): 0 p 1 q 2 spot 3 above -/
noncomputable def b_is_crossed : PV.Env → Out :=
  (sSeq (sSet 3 (eCallS m_is_less (aCons (eOp2 gIdx (ePk 2) (eC (.int 1))) (aCons (eV (eCall m_whole (aCons (eOp2 gIdx (ePk 1) (eC (.int 1))) aNil))) aNil))))
  (sSeq (sIf (eB (eOp2 gEq (eCallS m_is_less (aCons (eOp2 gIdx (ePk 2) (eC (.int 1))) (aCons (eV (eCall m_whole (aCons (eOp2 gIdx (ePk 0) (eC (.int 1))) aNil))) aNil))) (ePk 3)))
  (sRetE (eC (.bool false)))
  sNil)
  (sRetE (eOp2 gEq (eCallS m_is_less (aCons (eC (.tuple [(.int 0), (.int 1)])) (aCons (eV (eCall m_wide_turn (aCons (eV (eCall m_spot_of (aCons (eVar 0) aNil))) (aCons (eV (eCall m_spot_of (aCons (eVar 1) aNil))) (aCons (eVar 2) aNil))))) aNil))) (ePk 3)))))
noncomputable def m_is_crossed : List D → Res RV := fnM 3 4 b_is_crossed
/-- place_of(parcel, spot): 0 parcel 1 spot 2 sides 3 crossed 4 p 5 q 6 side -/
noncomputable def b_place_of : PV.Env → Out :=
  (sSeq (sSetV 2 (eCall m_sides_of (aCons (eVar 0) aNil)))
  (sSeq (sIf (eTr (eBi gAny (aCons (eV (eComp (iSeq (ePk 2)) [4, 5] (gTp 2 (gsCons (gNm 4) (gsCons (gNm 5) gsNil))) bYes (eCallS m_is_spot_on (aCons (ePk 4) (aCons (ePk 5) (aCons (ePk 1) aNil)))))) aNil)))
  (sRetE (eC (.str "edge")))
  sNil)
  (sSeq (sSet 3 (eBi gLen (aCons (eV (eComp (iSeq (ePk 2)) [6] (gNm 6) (eTr (eCallS m_is_crossed (aCons (eOp2 gIdx (ePk 6) (eC (.int 0))) (aCons (eOp2 gIdx (ePk 6) (eC (.int 1))) (aCons (ePk 1) aNil))))) (eVar 6))) aNil)))
  (sRetE (eIf (eB (eOp2 gEq (eOp2 gMod (ePk 3) (eC (.int 2))) (eC (.int 1)))) (eC (.str "in")) (eC (.str "out")))))))
noncomputable def m_place_of : List D → Res RV := fnM 2 7 b_place_of
/-- square(one, other): 0 one 1 other -/
noncomputable def b_square : PV.Env → Out :=
  (sRetV (eOp2 gAdd (eOp2 gPow (eOp2 gSub (eOp2 gIdx (ePk 0) (eC (.int 0))) (eOp2 gIdx (ePk 1) (eC (.int 0)))) (eC (.int 2))) (eOp2 gPow (eOp2 gSub (eOp2 gIdx (ePk 0) (eC (.int 1))) (eOp2 gIdx (ePk 1) (eC (.int 1)))) (eC (.int 2)))))
noncomputable def m_square : List D → Res RV := fnM 2 2 b_square
/-- distance_square(stone, one, other): 0 stone 1 one 2 other 3 along -/
noncomputable def b_distance_square : PV.Env → Out :=
  (sSeq (sSetV 3 (eOp2 gAdd (eOp2 gMul (eOp2 gSub (eOp2 gIdx (ePk 0) (eC (.int 0))) (eOp2 gIdx (ePk 1) (eC (.int 0)))) (eOp2 gSub (eOp2 gIdx (ePk 2) (eC (.int 0))) (eOp2 gIdx (ePk 1) (eC (.int 0))))) (eOp2 gMul (eOp2 gSub (eOp2 gIdx (ePk 0) (eC (.int 1))) (eOp2 gIdx (ePk 1) (eC (.int 1)))) (eOp2 gSub (eOp2 gIdx (ePk 2) (eC (.int 1))) (eOp2 gIdx (ePk 1) (eC (.int 1)))))))
  (sSeq (sIf (eB (eOp2 gLe (ePk 3) (eC (.int 0))))
  (sRetV (eCall m_whole (aCons (eCallS m_square (aCons (ePk 0) (aCons (ePk 1) aNil))) aNil)))
  sNil)
  (sSeq (sIf (eB (eOp2 gGe (ePk 3) (eCallS m_square (aCons (ePk 1) (aCons (ePk 2) aNil)))))
  (sRetV (eCall m_whole (aCons (eCallS m_square (aCons (ePk 0) (aCons (ePk 2) aNil))) aNil)))
  sNil)
  (sRetV (eCall m_fraction (aCons (eOp2 gPow (eCallS m_turn (aCons (ePk 1) (aCons (ePk 2) (aCons (ePk 0) aNil)))) (eC (.int 2))) (aCons (eCallS m_square (aCons (ePk 1) (aCons (ePk 2) aNil))) aNil)))))))
noncomputable def m_distance_square : List D → Res RV := fnM 3 4 b_distance_square
/-- least_of(numbers): 0 numbers 1 found 2 number -/
noncomputable def b_least_of_1 : PV.Env → Out :=
  (sFz [1] (sSetV 1 (eCall m_lesser (aCons (eVar 1) (aCons (eVar 2) aNil)))))
noncomputable def b_least_of : PV.Env → Out :=
  (sSeq (sSet 1 (eOp2 gIdx (ePk 0) (eC (.int 0))))
  (sSeq (sFor (iSeq (eVar 0)) (gNm 2) [0, 2] (b_least_of_1))
  (sRetVar 1)))
noncomputable def m_least_of : List D → Res RV := fnM 1 3 b_least_of
/-- near_square(one, other, parcel): 0 one 1 other 2 parcel 3 sides 4 far 5 end 6 p 7 q 8 stone -/
noncomputable def b_near_square : PV.Env → Out :=
  (sSeq (sSetV 3 (eCall m_sides_of (aCons (eVar 2) aNil)))
  (sSeq (sIf (bOr (eB (eOp2 gNe (eCallS m_place_of (aCons (ePk 2) (aCons (eV (eCall m_spot_of (aCons (eVar 0) aNil))) aNil))) (eC (.str "out")))) (eTr (eBi gAny (aCons (eV (eComp (iSeq (ePk 3)) [6, 7] (gTp 2 (gsCons (gNm 6) (gsCons (gNm 7) gsNil))) bYes (eCallS m_have_common (aCons (ePk 0) (aCons (ePk 1) (aCons (ePk 6) (aCons (ePk 7) aNil))))))) aNil))))
  (sRetE (eC (.tuple [(.int 0), (.int 1)])))
  sNil)
  (sSeq (sFz [3] (sSetV 4 (eComp2 (iSeq (eTup (aCons (eVar 0) (aCons (eVar 1) aNil)))) [5, 6, 7] (gNm 5) bYes (iSeq (eVar 3)) [6, 7] (gTp 2 (gsCons (gNm 6) (gsCons (gNm 7) gsNil))) bYes (eV (eCall m_distance_square (aCons (eVar 5) (aCons (eVar 6) (aCons (eVar 7) aNil))))))))
  (sRetV (eCall m_least_of (aCons (eV (eOp2 gAdd (ePk 4) (eV (eComp (iSeq (ePk 2)) [8] (gNm 8) bYes (eV (eCall m_distance_square (aCons (eVar 8) (aCons (eVar 0) (aCons (eVar 1) aNil))))))))) aNil))))))
noncomputable def m_near_square : List D → Res RV := fnM 3 9 b_near_square
/-- touches(road, reach, parcel): 0 road 1 reach 2 parcel 3 goal 4 k -/
noncomputable def b_touches : PV.Env → Out :=
  (sSeq (sSetV 3 (eCall m_whole (aCons (eOp2 gMul (ePk 1) (ePk 1)) aNil)))
  (sRetE (eBi gAny (aCons (eV (eComp (iRange2 (eC (.int 1)) (eBi gLen (aCons (ePk 0) aNil))) [4] (gNm 4) bYes (eNot (eCallS m_is_less (aCons (ePk 3) (aCons (eV (eCall m_near_square (aCons (eOp2 gIdx (ePk 0) (eOp2 gSub (ePk 4) (eC (.int 1)))) (aCons (eOp2 gIdx (ePk 0) (ePk 4)) (aCons (eVar 2) aNil))))) aNil)))))) aNil))))
noncomputable def m_touches : List D → Res RV := fnM 3 5 b_touches
/-- _law_cell(script, k): 0 script 1 k -/
noncomputable def b__law_cell : PV.Env → Out :=
  (sSeq (sIf (eB (eOp2 gLt (ePk 1) (eBi gLen (aCons (ePk 0) aNil))))
  (sRetE (eBi gIntT (aCons (eOp2 gIdx (ePk 0) (ePk 1)) aNil)))
  sNil)
  (sRetE (eC (.int 0))))
noncomputable def m__law_cell : List D → Res RV := fnM 2 2 b__law_cell
/-- _law_numbers(cell, count, limit): 0 cell 1 count 2 limit 3 found 4 k 5 mixed -/
noncomputable def b__law_numbers_1 : PV.Env → Out :=
  (sSeq (sApp 3 (eOp2 gMod (eBi gIntT (aCons (ePk 0) aNil)) (ePk 2)))
  (sSet 0 (eOp2 gDiv (eBi gIntT (aCons (ePk 0) aNil)) (ePk 2))))
noncomputable def b__law_numbers_2 : PV.Env → Out :=
  (sSeq (sSet 5 (eOp2 gMod (eBi gIntT (aCons (eV (eOp2 gAdd (eV (eOp2 gAdd (eOp2 gMul (ePk 0) (eC (.int 48271))) (eOp2 gMul (ePk 4) (eC (.int 69621))))) (eC (.int 7)))) aNil)) (eC (.int 2147483647))))
  (sSeq (sSet 5 (eOp2 gMod (eBi gIntT (aCons (eV (eOp2 gAdd (eV (eOp2 gAdd (eV (eOp2 gAdd (eOp2 gMul (ePk 5) (ePk 5)) (eOp2 gMul (ePk 5) (eC (.int 40692))))) (eOp2 gMul (ePk 4) (eC (.int 16807))))) (eC (.int 11)))) aNil)) (eC (.int 2147483399))))
  (sApp 3 (eOp2 gMod (eBi gIntT (aCons (eOp2 gDiv (ePk 5) (eC (.int 32))) aNil)) (ePk 2)))))
noncomputable def b__law_numbers : PV.Env → Out :=
  (sSeq (sSetV 3 (eLst aNil))
  (sSeq (sIf (eB (eOp2 gGe (ePk 0) (eOp2 gPow (eC (.int 10)) (eC (.int 18)))))
  (sSeq (sFor (iRange1 (ePk 1)) (gNm 4) [1, 4, 5] (b__law_numbers_1))
  (sRetVar 3))
  sNil)
  (sSeq (sFor (iRange1 (ePk 1)) (gNm 4) [1, 4, 5] (b__law_numbers_2))
  (sRetVar 3))))
noncomputable def m__law_numbers : List D → Res RV := fnM 3 6 b__law_numbers
/-- _law_common(one, other): 0 one 1 other 2 step -/
noncomputable def b__law_common_1 : PV.Env → Out :=
  (sSeq (sIf (eB (eOp2 gEq (ePk 1) (eC (.int 0))))
  (sRetVar 0)
  sNil)
  (sPar 0 1 (aCons (eVar 1) (aCons (eOp2 gMod (eBi gIntT (aCons (ePk 0) aNil)) (ePk 1)) aNil))))
noncomputable def b__law_common : PV.Env → Out :=
  (sSeq (sSet 0 (eBi gAbs (aCons (ePk 0) aNil)))
  (sSeq (sSet 1 (eBi gAbs (aCons (ePk 1) aNil)))
  (sSeq (sFor (iRange1 (eC (.int 900))) (gNm 2) [2] (b__law_common_1))
  (sRetVar 0))))
noncomputable def m__law_common : List D → Res RV := fnM 2 3 b__law_common
/-- _law_frac(top, bottom): 0 top 1 bottom 2 common -/
noncomputable def b__law_frac : PV.Env → Out :=
  (sSeq (sIf (eB (eOp2 gLt (ePk 1) (eC (.int 0))))
  (sSeq (sSet 0 (eOp2 gSub (eC (.int 0)) (ePk 0)))
  (sSet 1 (eOp2 gSub (eC (.int 0)) (ePk 1))))
  sNil)
  (sSeq (sSetV 2 (eCall m__law_common (aCons (eVar 0) (aCons (eVar 1) aNil))))
  (sRetE (eTup (aCons (eOp2 gDiv (ePk 0) (ePk 2)) (aCons (eOp2 gDiv (ePk 1) (ePk 2)) aNil))))))
noncomputable def m__law_frac : List D → Res RV := fnM 2 3 b__law_frac
/-- _law_plus(one, other): 0 one 1 other -/
noncomputable def b__law_plus : PV.Env → Out :=
  (sRetV (eCall m__law_frac (aCons (eV (eOp2 gAdd (eOp2 gMul (eOp2 gIdx (ePk 0) (eC (.int 0))) (eOp2 gIdx (ePk 1) (eC (.int 1)))) (eOp2 gMul (eOp2 gIdx (ePk 1) (eC (.int 0))) (eOp2 gIdx (ePk 0) (eC (.int 1)))))) (aCons (eOp2 gMul (eOp2 gIdx (ePk 0) (eC (.int 1))) (eOp2 gIdx (ePk 1) (eC (.int 1)))) aNil))))
noncomputable def m__law_plus : List D → Res RV := fnM 2 2 b__law_plus
/-- _law_minus(one, other): 0 one 1 other -/
noncomputable def b__law_minus : PV.Env → Out :=
  (sRetV (eCall m__law_frac (aCons (eOp2 gSub (eOp2 gMul (eOp2 gIdx (ePk 0) (eC (.int 0))) (eOp2 gIdx (ePk 1) (eC (.int 1)))) (eOp2 gMul (eOp2 gIdx (ePk 1) (eC (.int 0))) (eOp2 gIdx (ePk 0) (eC (.int 1))))) (aCons (eOp2 gMul (eOp2 gIdx (ePk 0) (eC (.int 1))) (eOp2 gIdx (ePk 1) (eC (.int 1)))) aNil))))
noncomputable def m__law_minus : List D → Res RV := fnM 2 2 b__law_minus
/-- _law_times(one, other): 0 one 1 other -/
noncomputable def b__law_times : PV.Env → Out :=
  (sRetV (eCall m__law_frac (aCons (eOp2 gMul (eOp2 gIdx (ePk 0) (eC (.int 0))) (eOp2 gIdx (ePk 1) (eC (.int 0)))) (aCons (eOp2 gMul (eOp2 gIdx (ePk 0) (eC (.int 1))) (eOp2 gIdx (ePk 1) (eC (.int 1)))) aNil))))
noncomputable def m__law_times : List D → Res RV := fnM 2 2 b__law_times
/-- _law_less(one, other): 0 one 1 other -/
noncomputable def b__law_less : PV.Env → Out :=
  (sRetE (eOp2 gLt (eOp2 gMul (eOp2 gIdx (ePk 0) (eC (.int 0))) (eOp2 gIdx (ePk 1) (eC (.int 1)))) (eOp2 gMul (eOp2 gIdx (ePk 1) (eC (.int 0))) (eOp2 gIdx (ePk 0) (eC (.int 1))))))
noncomputable def m__law_less : List D → Res RV := fnM 2 2 b__law_less
/-- _law_turn(a, b, c): 0 a 1 b 2 c -/
noncomputable def b__law_turn : PV.Env → Out :=
  (sRetE (eOp2 gSub (eOp2 gMul (eOp2 gSub (eOp2 gIdx (ePk 1) (eC (.int 0))) (eOp2 gIdx (ePk 0) (eC (.int 0)))) (eOp2 gSub (eOp2 gIdx (ePk 2) (eC (.int 1))) (eOp2 gIdx (ePk 0) (eC (.int 1))))) (eOp2 gMul (eOp2 gSub (eOp2 gIdx (ePk 1) (eC (.int 1))) (eOp2 gIdx (ePk 0) (eC (.int 1)))) (eOp2 gSub (eOp2 gIdx (ePk 2) (eC (.int 0))) (eOp2 gIdx (ePk 0) (eC (.int 0)))))))
noncomputable def m__law_turn : List D → Res RV := fnM 3 3 b__law_turn
/-- _law_same(told, due): 0 told 1 due 2 k -/
noncomputable def b__law_same_1 (rec : List D → Res RV) : PV.Env → Out :=
  (sIf (bNot (eTr (eCallS rec (aCons (eOp2 gIdx (ePk 0) (ePk 2)) (aCons (eOp2 gIdx (ePk 1) (ePk 2)) aNil)))))
  (sRetE (eC (.bool false)))
  sNil)
noncomputable def b__law_same (rec : List D → Res RV) : PV.Env → Out :=
  (sSeq (sIf (eTr (eOp1 (gIsa "list") (ePk 1)))
  (sIf (bOr (bNot (eTr (eOp1 (gIsa "list") (ePk 0)))) (eB (eOp2 gNe (eBi gLen (aCons (ePk 0) aNil)) (eBi gLen (aCons (ePk 1) aNil)))))
  (sRetE (eC (.bool false)))
  sNil)
  (sIf (eTr (eOp1 (gIsa "tuple") (ePk 1)))
  (sIf (bOr (bNot (eTr (eOp1 (gIsa "tuple") (ePk 0)))) (eB (eOp2 gNe (eBi gLen (aCons (ePk 0) aNil)) (eBi gLen (aCons (ePk 1) aNil)))))
  (sRetE (eC (.bool false)))
  sNil)
  (sIf (eB (eOp2 gIs (ePk 1) (eC .none)))
  (sRetE (eOp2 gIs (ePk 0) (eC .none)))
  (sIf (eTr (eOp1 (gIsa "bool") (ePk 1)))
  (sRetE (eAnd (eOp1 (gIsa "bool") (ePk 0)) (eOp2 gEq (ePk 0) (ePk 1))))
  (sIf (eTr (eOp1 (gIsa "int") (ePk 1)))
  (sRetE (eAnd (eOp1 (gIsa "int") (ePk 0)) (eAnd (eNot (eOp1 (gIsa "bool") (ePk 0))) (eOp2 gEq (ePk 0) (ePk 1)))))
  (sRetE (eAnd (eOp1 (gIsa "str") (ePk 0)) (eOp2 gEq (ePk 0) (ePk 1)))))))))
  (sSeq (sFor (iRange1 (eBi gLen (aCons (ePk 1) aNil))) (gNm 2) [2] (b__law_same_1 rec))
  (sRetE (eC (.bool true)))))
noncomputable def m__law_same : Nat → List D → Res RV
  | 0 => fun _ => .bad
  | n + 1 => fnM 2 3 (b__law_same (m__law_same n))
/-- _law_spot(stone): 0 stone -/
noncomputable def b__law_spot : PV.Env → Out :=
  (sRetE (eTup (aCons (eTup (aCons (eOp2 gIdx (ePk 0) (eC (.int 0))) (aCons (eC (.int 1)) aNil))) (aCons (eTup (aCons (eOp2 gIdx (ePk 0) (eC (.int 1))) (aCons (eC (.int 1)) aNil))) aNil))))
noncomputable def m__law_spot : List D → Res RV := fnM 1 1 b__law_spot
/-- _law_begun(ring): 0 ring 1 at -/
noncomputable def b__law_begun : PV.Env → Out :=
  (sSeq (sSet 1 (eOp2 gIndex (ePk 0) (eBi gMinL (aCons (ePk 0) aNil))))
  (sRetV (eOp2 gAdd (eV (eSl (ePk 0) (eOpt (ePk 1)) eNo)) (eV (eSl (ePk 0) (eOpt (eC (.int 0))) (eOpt (ePk 1)))))))
noncomputable def m__law_begun : List D → Res RV := fnM 1 2 b__law_begun
/-- _law_shape(draws, at): 0 draws 1 at 2 kind 3 w 4 h -/
noncomputable def b__law_shape_t9 : PV.Env → Out :=
  (sRetV (eLst (aCons (eTup (aCons (eC (.int 0)) (aCons (eC (.int 0)) aNil))) (aCons (eTup (aCons (eC (.int 1)) (aCons (eC (.int 0)) aNil))) (aCons (eTup (aCons (eC (.int 1)) (aCons (eC (.int 1)) aNil))) (aCons (eTup (aCons (eC (.int 0)) (aCons (eC (.int 1)) aNil))) aNil))))))
noncomputable def b__law_shape_t8 : PV.Env → Out :=
  (sSeq (sIf (eB (eOp2 gEq (ePk 2) (eC (.int 5))))
  (sFz [3] (sRetV (eLst (aCons (eTup (aCons (eC (.int 0)) (aCons (eC (.int 0)) aNil))) (aCons (eTup (aCons (eVar 3) (aCons (eC (.int 0)) aNil))) (aCons (eTup (aCons (eVar 3) (aCons (eC (.int 1)) aNil))) (aCons (eTup (aCons (eC (.int 1)) (aCons (eC (.int 1)) aNil))) (aCons (eTup (aCons (eC (.int 1)) (aCons (eC (.int 2)) aNil))) (aCons (eTup (aCons (eVar 3) (aCons (eC (.int 2)) aNil))) (aCons (eTup (aCons (eVar 3) (aCons (eC (.int 3)) aNil))) (aCons (eTup (aCons (eC (.int 0)) (aCons (eC (.int 3)) aNil))) aNil)))))))))))
  sNil)
  (b__law_shape_t9))
noncomputable def b__law_shape_t7 : PV.Env → Out :=
  (sSeq (sIf (eB (eOp2 gEq (ePk 2) (eC (.int 4))))
  (sFz [4] (sRetV (eLst (aCons (eTup (aCons (eC (.int 0)) (aCons (eC (.int 0)) aNil))) (aCons (eTup (aCons (eC (.int 3)) (aCons (eC (.int 0)) aNil))) (aCons (eTup (aCons (eC (.int 3)) (aCons (eC (.int 1)) aNil))) (aCons (eTup (aCons (eC (.int 2)) (aCons (eC (.int 1)) aNil))) (aCons (eTup (aCons (eC (.int 2)) (aCons (eVar 4) aNil))) (aCons (eTup (aCons (eC (.int 1)) (aCons (eVar 4) aNil))) (aCons (eTup (aCons (eC (.int 1)) (aCons (eC (.int 1)) aNil))) (aCons (eTup (aCons (eC (.int 0)) (aCons (eC (.int 1)) aNil))) aNil)))))))))))
  sNil)
  (b__law_shape_t8))
noncomputable def b__law_shape_t6 : PV.Env → Out :=
  (sSeq (sIf (eB (eOp2 gEq (ePk 2) (eC (.int 3))))
  (sFz [3, 4] (sRetV (eLst (aCons (eTup (aCons (eC (.int 0)) (aCons (eC (.int 0)) aNil))) (aCons (eTup (aCons (eC (.int 1)) (aCons (eC (.int 0)) aNil))) (aCons (eTup (aCons (eVar 3) (aCons (eC (.int 0)) aNil))) (aCons (eTup (aCons (eVar 3) (aCons (eVar 4) aNil))) (aCons (eTup (aCons (eC (.int 0)) (aCons (eVar 4) aNil))) aNil))))))))
  sNil)
  (b__law_shape_t7))
noncomputable def b__law_shape_t5 : PV.Env → Out :=
  (sSeq (sIf (eB (eOp2 gEq (ePk 2) (eC (.int 2))))
  (sFz [4] (sRetV (eLst (aCons (eTup (aCons (eC (.int 0)) (aCons (eC (.int 0)) aNil))) (aCons (eTup (aCons (eC (.int 3)) (aCons (eC (.int 0)) aNil))) (aCons (eTup (aCons (eC (.int 3)) (aCons (eVar 4) aNil))) (aCons (eTup (aCons (eC (.int 2)) (aCons (eVar 4) aNil))) (aCons (eTup (aCons (eC (.int 2)) (aCons (eC (.int 1)) aNil))) (aCons (eTup (aCons (eC (.int 1)) (aCons (eC (.int 1)) aNil))) (aCons (eTup (aCons (eC (.int 1)) (aCons (eVar 4) aNil))) (aCons (eTup (aCons (eC (.int 0)) (aCons (eVar 4) aNil))) aNil)))))))))))
  sNil)
  (b__law_shape_t6))
noncomputable def b__law_shape_t4 : PV.Env → Out :=
  (sSeq (sIf (eB (eOp2 gEq (ePk 2) (eC (.int 1))))
  (sFz [3, 4] (sRetV (eLst (aCons (eTup (aCons (eC (.int 0)) (aCons (eC (.int 0)) aNil))) (aCons (eTup (aCons (eVar 3) (aCons (eC (.int 0)) aNil))) (aCons (eTup (aCons (eVar 3) (aCons (eC (.int 1)) aNil))) (aCons (eTup (aCons (eC (.int 1)) (aCons (eC (.int 1)) aNil))) (aCons (eTup (aCons (eC (.int 1)) (aCons (eVar 4) aNil))) (aCons (eTup (aCons (eC (.int 0)) (aCons (eVar 4) aNil))) aNil)))))))))
  sNil)
  (b__law_shape_t5))
noncomputable def b__law_shape_t3 : PV.Env → Out :=
  (sSeq (sIf (eB (eOp2 gEq (ePk 2) (eC (.int 0))))
  (sFz [3, 4] (sRetV (eLst (aCons (eTup (aCons (eC (.int 0)) (aCons (eC (.int 0)) aNil))) (aCons (eTup (aCons (eVar 3) (aCons (eC (.int 0)) aNil))) (aCons (eTup (aCons (eVar 3) (aCons (eVar 4) aNil))) (aCons (eTup (aCons (eC (.int 0)) (aCons (eVar 4) aNil))) aNil)))))))
  sNil)
  (b__law_shape_t4))
noncomputable def b__law_shape_t2 : PV.Env → Out :=
  (sSeq (sSetV 4 (eOp2 gAdd (eC (.int 2)) (eOp2 gMod (eOp2 gDiv (eOp2 gIdx (ePk 0) (eV (eOp2 gAdd (ePk 1) (eC (.int 1))))) (eC (.int 3))) (eC (.int 3)))))
  (b__law_shape_t3))
noncomputable def b__law_shape_t1 : PV.Env → Out :=
  (sSeq (sSetV 3 (eOp2 gAdd (eC (.int 2)) (eOp2 gMod (eOp2 gIdx (ePk 0) (eV (eOp2 gAdd (ePk 1) (eC (.int 1))))) (eC (.int 3)))))
  (b__law_shape_t2))
noncomputable def b__law_shape : PV.Env → Out :=
  (sSeq (sSet 2 (eOp2 gMod (eOp2 gIdx (ePk 0) (ePk 1)) (eC (.int 7))))
  (b__law_shape_t1))
noncomputable def m__law_shape : List D → Res RV := fnM 2 5 b__law_shape
/-- _law_ring(draws, at): 0 draws 1 at 2 one 3 other 4 x 5 y 6 found 7 p 8 q -/
noncomputable def b__law_ring_t7 : PV.Env → Out :=
  (sFz [6] (sRetV (eCall m__law_begun (aCons (eVar 6) aNil))))
noncomputable def b__law_ring_t6 : PV.Env → Out :=
  (sSeq (sIf (eB (eOp2 gEq (eOp2 gMod (eOp2 gIdx (ePk 0) (ePk 1)) (eC (.int 8))) (eC (.int 1))))
  (sSetV 6 (eComp (iSeq (eV (eLst (aCons (eTup (aCons (eC (.int 0)) (aCons (eC (.int 0)) aNil))) (aCons (eTup (aCons (eV (eOp2 gAdd (eC (.int 1)) (ePk 2))) (aCons (eOp2 gSub (eC (.int 0)) (ePk 3)) aNil))) (aCons (eTup (aCons (eC (.int 2)) (aCons (eC (.int 3)) aNil))) aNil)))))) [7, 8] (gTp 2 (gsCons (gNm 7) (gsCons (gNm 8) gsNil))) bYes (eTup (aCons (eV (eOp2 gAdd (ePk 7) (ePk 4))) (aCons (eV (eOp2 gAdd (ePk 8) (ePk 5))) aNil)))))
  sNil)
  (b__law_ring_t7))
noncomputable def b__law_ring_t5 : PV.Env → Out :=
  (sSeq (sIf (eB (eOp2 gEq (eOp2 gMod (eOp2 gIdx (ePk 0) (ePk 1)) (eC (.int 3))) (eC (.int 0))))
  (sSetV 6 (eComp (iSeq (eV (eLst (aCons (eTup (aCons (eC (.int 0)) (aCons (eC (.int 0)) aNil))) (aCons (eTup (aCons (eV (eOp2 gAdd (eC (.int 2)) (eOp2 gDiv (ePk 2) (eC (.int 2))))) (aCons (eC (.int 1)) aNil))) (aCons (eTup (aCons (eC (.int 4)) (aCons (eC (.int 0)) aNil))) (aCons (eTup (aCons (eC (.int 3)) (aCons (eC (.int 3)) aNil))) (aCons (eTup (aCons (eC (.int 1)) (aCons (eV (eOp2 gAdd (eC (.int 2)) (ePk 3))) aNil))) aNil)))))))) [7, 8] (gTp 2 (gsCons (gNm 7) (gsCons (gNm 8) gsNil))) bYes (eTup (aCons (eV (eOp2 gAdd (ePk 7) (ePk 4))) (aCons (eV (eOp2 gAdd (ePk 8) (ePk 5))) aNil)))))
  sNil)
  (b__law_ring_t6))
noncomputable def b__law_ring_t4 : PV.Env → Out :=
  (sSeq (sSetV 6 (eComp (iSeq (eV (eCall m__law_shape (aCons (eVar 0) (aCons (eVar 1) aNil))))) [7, 8] (gTp 2 (gsCons (gNm 7) (gsCons (gNm 8) gsNil))) bYes (eTup (aCons (eV (eOp2 gAdd (eV (eOp2 gAdd (ePk 7) (eOp2 gMul (ePk 2) (ePk 8)))) (ePk 4))) (aCons (eV (eOp2 gAdd (eV (eOp2 gAdd (eOp2 gMul (ePk 3) (ePk 7)) (eOp2 gMul (eV (eOp2 gAdd (eC (.int 1)) (eOp2 gMul (ePk 2) (ePk 3)))) (ePk 8)))) (ePk 5))) aNil)))))
  (b__law_ring_t5))
noncomputable def b__law_ring_t3 : PV.Env → Out :=
  (sSeq (sSet 5 (eOp2 gSub (eOp2 gMod (eOp2 gDiv (eOp2 gIdx (ePk 0) (eV (eOp2 gAdd (ePk 1) (eC (.int 3))))) (eC (.int 9))) (eC (.int 9))) (eC (.int 4))))
  (b__law_ring_t4))
noncomputable def b__law_ring_t2 : PV.Env → Out :=
  (sSeq (sSet 4 (eOp2 gSub (eOp2 gMod (eOp2 gIdx (ePk 0) (eV (eOp2 gAdd (ePk 1) (eC (.int 3))))) (eC (.int 9))) (eC (.int 4))))
  (b__law_ring_t3))
noncomputable def b__law_ring_t1 : PV.Env → Out :=
  (sSeq (sSet 3 (eOp2 gMod (eOp2 gDiv (eOp2 gIdx (ePk 0) (eV (eOp2 gAdd (ePk 1) (eC (.int 2))))) (eC (.int 3))) (eC (.int 3))))
  (b__law_ring_t2))
noncomputable def b__law_ring : PV.Env → Out :=
  (sSeq (sSet 2 (eOp2 gMod (eOp2 gIdx (ePk 0) (eV (eOp2 gAdd (ePk 1) (eC (.int 2))))) (eC (.int 3))))
  (b__law_ring_t1))
noncomputable def m__law_ring : List D → Res RV := fnM 2 9 b__law_ring
/-- _law_on(p, q, stone): 0 p 1 q 2 stone -/
noncomputable def b__law_on : PV.Env → Out :=
  (sSeq (sIf (eB (eOp2 gNe (eCallS m__law_turn (aCons (ePk 0) (aCons (ePk 1) (aCons (ePk 2) aNil)))) (eC (.int 0))))
  (sRetE (eC (.bool false)))
  sNil)
  (sRetE (eOp2 gLe (eV (eOp2 gAdd (eOp2 gMul (eOp2 gSub (eOp2 gIdx (ePk 2) (eC (.int 0))) (eOp2 gIdx (ePk 0) (eC (.int 0)))) (eOp2 gSub (eOp2 gIdx (ePk 2) (eC (.int 0))) (eOp2 gIdx (ePk 1) (eC (.int 0))))) (eOp2 gMul (eOp2 gSub (eOp2 gIdx (ePk 2) (eC (.int 1))) (eOp2 gIdx (ePk 0) (eC (.int 1)))) (eOp2 gSub (eOp2 gIdx (ePk 2) (eC (.int 1))) (eOp2 gIdx (ePk 1) (eC (.int 1))))))) (eC (.int 0)))))
noncomputable def m__law_on : List D → Res RV := fnM 3 3 b__law_on
/-- _law_sides(ring): 0 ring 1 k -/
noncomputable def b__law_sides : PV.Env → Out :=
  (sRetV (eComp (iRange1 (eBi gLen (aCons (ePk 0) aNil))) [1] (gNm 1) bYes (eTup (aCons (eOp2 gIdx (ePk 0) (ePk 1)) (aCons (eOp2 gIdx (ePk 0) (eOp2 gMod (eBi gIntT (aCons (eV (eOp2 gAdd (ePk 1) (eC (.int 1)))) aNil)) (eBi gLen (aCons (ePk 0) aNil)))) aNil)))))
noncomputable def m__law_sides : List D → Res RV := fnM 1 2 b__law_sides
/-- _law_meet(one, other): 0 one 1 other 2 a 3 b 4 c 5 d 6 p 7 q 8 r 9 s -/
noncomputable def b__law_meet_t7 : PV.Env → Out :=
  (sRetE (eAnd (eOp2 gLt (eBi gMin2 (aCons (ePk 2) (aCons (ePk 3) aNil))) (eC (.int 0))) (eAnd (eOp2 gGt (eBi gMax2 (aCons (ePk 2) (aCons (ePk 3) aNil))) (eC (.int 0))) (eAnd (eOp2 gLt (eBi gMin2 (aCons (ePk 4) (aCons (ePk 5) aNil))) (eC (.int 0))) (eOp2 gGt (eBi gMax2 (aCons (ePk 4) (aCons (ePk 5) aNil))) (eC (.int 0)))))))
noncomputable def b__law_meet_t6 : PV.Env → Out :=
  (sSeq (sSet 5 (eCallS m__law_turn (aCons (ePk 8) (aCons (ePk 9) (aCons (ePk 7) aNil)))))
  (b__law_meet_t7))
noncomputable def b__law_meet_t5 : PV.Env → Out :=
  (sSeq (sSet 4 (eCallS m__law_turn (aCons (ePk 8) (aCons (ePk 9) (aCons (ePk 6) aNil)))))
  (b__law_meet_t6))
noncomputable def b__law_meet_t4 : PV.Env → Out :=
  (sSeq (sSet 3 (eCallS m__law_turn (aCons (ePk 6) (aCons (ePk 7) (aCons (ePk 9) aNil)))))
  (b__law_meet_t5))
noncomputable def b__law_meet_t3 : PV.Env → Out :=
  (sSeq (sSet 2 (eCallS m__law_turn (aCons (ePk 6) (aCons (ePk 7) (aCons (ePk 8) aNil)))))
  (b__law_meet_t4))
noncomputable def b__law_meet_t2 : PV.Env → Out :=
  (sSeq (sIf (bOr (eTr (eCallS m__law_on (aCons (ePk 6) (aCons (ePk 7) (aCons (ePk 8) aNil))))) (bOr (eTr (eCallS m__law_on (aCons (ePk 6) (aCons (ePk 7) (aCons (ePk 9) aNil))))) (bOr (eTr (eCallS m__law_on (aCons (ePk 8) (aCons (ePk 9) (aCons (ePk 6) aNil))))) (eTr (eCallS m__law_on (aCons (ePk 8) (aCons (ePk 9) (aCons (ePk 7) aNil))))))))
  (sRetE (eC (.bool true)))
  sNil)
  (b__law_meet_t3))
noncomputable def b__law_meet_t1 : PV.Env → Out :=
  (sSeq (sSetE (gTp 2 (gsCons (gNm 8) (gsCons (gNm 9) gsNil))) (eVar 1))
  (b__law_meet_t2))
noncomputable def b__law_meet : PV.Env → Out :=
  (sSeq (sSetE (gTp 2 (gsCons (gNm 6) (gsCons (gNm 7) gsNil))) (eVar 0))
  (b__law_meet_t1))
noncomputable def m__law_meet : List D → Res RV := fnM 2 10 b__law_meet
/-- _law_place(ring, x, y, scale): 0 ring 1 x 2 y 3 scale 4 stones 5 crossed 6 p 7 q -/
noncomputable def b__law_place_1 : PV.Env → Out :=
  (sSeq (sIf (eTr (eCallS m__law_on (aCons (ePk 6) (aCons (ePk 7) (aCons (eTup (aCons (eVar 1) (aCons (eVar 2) aNil))) aNil)))))
  (sRetE (eC (.str "edge")))
  sNil)
  (sSeq (sIf (bAnd (eB (eOp2 gLe (eOp2 gIdx (ePk 6) (eC (.int 1))) (ePk 2))) (bAnd (eB (eOp2 gLt (ePk 2) (eOp2 gIdx (ePk 7) (eC (.int 1))))) (eB (eOp2 gGt (eCallS m__law_turn (aCons (ePk 6) (aCons (ePk 7) (aCons (eTup (aCons (eVar 1) (aCons (eVar 2) aNil))) aNil)))) (eC (.int 0))))))
  (sSetV 5 (eOp2 gAdd (ePk 5) (eC (.int 1))))
  sNil)
  (sIf (bAnd (eB (eOp2 gLe (eOp2 gIdx (ePk 7) (eC (.int 1))) (ePk 2))) (bAnd (eB (eOp2 gLt (ePk 2) (eOp2 gIdx (ePk 6) (eC (.int 1))))) (eB (eOp2 gLt (eCallS m__law_turn (aCons (ePk 6) (aCons (ePk 7) (aCons (eTup (aCons (eVar 1) (aCons (eVar 2) aNil))) aNil)))) (eC (.int 0))))))
  (sSet 5 (eOp2 gSub (ePk 5) (eC (.int 1))))
  sNil)))
noncomputable def b__law_place : PV.Env → Out :=
  (sSeq (sSetV 4 (eComp (iSeq (ePk 0)) [6, 7] (gTp 2 (gsCons (gNm 6) (gsCons (gNm 7) gsNil))) bYes (eTup (aCons (eOp2 gMul (ePk 3) (ePk 6)) (aCons (eOp2 gMul (ePk 3) (ePk 7)) aNil)))))
  (sSeq (sSet 5 (eC (.int 0)))
  (sSeq (sFz [4] (sFor (iSeq (eV (eCall m__law_sides (aCons (eVar 4) aNil)))) (gTp 2 (gsCons (gNm 6) (gsCons (gNm 7) gsNil))) [0, 3, 4, 6, 7] (b__law_place_1)))
  (sRetE (eOp2 gIdx (eV (eLst (aCons (eC (.str "out")) (aCons (eC (.str "in")) aNil)))) (eBi gIntT (aCons (eOp2 gNe (ePk 5) (eC (.int 0))) aNil)))))))
noncomputable def m__law_place : List D → Res RV := fnM 4 8 b__law_place
/-- _law_square(one, other): 0 one 1 other 2 x 3 y -/
noncomputable def b__law_square : PV.Env → Out :=
  (sSeq (sSetV 2 (eCall m__law_minus (aCons (eOp2 gIdx (ePk 0) (eC (.int 0))) (aCons (eOp2 gIdx (ePk 1) (eC (.int 0))) aNil))))
  (sSeq (sSetV 3 (eCall m__law_minus (aCons (eOp2 gIdx (ePk 0) (eC (.int 1))) (aCons (eOp2 gIdx (ePk 1) (eC (.int 1))) aNil))))
  (sFz [2, 3] (sRetV (eCall m__law_plus (aCons (eV (eCall m__law_times (aCons (eVar 2) (aCons (eVar 2) aNil)))) (aCons (eV (eCall m__law_times (aCons (eVar 3) (aCons (eVar 3) aNil)))) aNil)))))))
noncomputable def m__law_square : List D → Res RV := fnM 2 4 b__law_square
/-- _law_foot(stone, one, other): 0 stone 1 one 2 other 3 size 4 along 5 share -/
noncomputable def b__law_foot : PV.Env → Out :=
  (sSeq (sSetV 3 (eOp2 gAdd (eOp2 gMul (eOp2 gSub (eOp2 gIdx (ePk 2) (eC (.int 0))) (eOp2 gIdx (ePk 1) (eC (.int 0)))) (eOp2 gSub (eOp2 gIdx (ePk 2) (eC (.int 0))) (eOp2 gIdx (ePk 1) (eC (.int 0))))) (eOp2 gMul (eOp2 gSub (eOp2 gIdx (ePk 2) (eC (.int 1))) (eOp2 gIdx (ePk 1) (eC (.int 1)))) (eOp2 gSub (eOp2 gIdx (ePk 2) (eC (.int 1))) (eOp2 gIdx (ePk 1) (eC (.int 1)))))))
  (sSeq (sSetV 4 (eOp2 gAdd (eOp2 gMul (eOp2 gSub (eOp2 gIdx (ePk 0) (eC (.int 0))) (eOp2 gIdx (ePk 1) (eC (.int 0)))) (eOp2 gSub (eOp2 gIdx (ePk 2) (eC (.int 0))) (eOp2 gIdx (ePk 1) (eC (.int 0))))) (eOp2 gMul (eOp2 gSub (eOp2 gIdx (ePk 0) (eC (.int 1))) (eOp2 gIdx (ePk 1) (eC (.int 1)))) (eOp2 gSub (eOp2 gIdx (ePk 2) (eC (.int 1))) (eOp2 gIdx (ePk 1) (eC (.int 1)))))))
  (sSeq (sSet 5 (eTup (aCons (eC (.int 0)) (aCons (eC (.int 1)) aNil))))
  (sSeq (sIf (eB (eOp2 gGt (ePk 3) (eC (.int 0))))
  (sFz [3] (sSetV 5 (eCall m__law_frac (aCons (eBi gMin2 (aCons (ePk 3) (aCons (eBi gMax2 (aCons (eC (.int 0)) (aCons (ePk 4) aNil))) aNil))) (aCons (eVar 3) aNil)))))
  sNil)
  (sFz [5] (sRetE (eTup (aCons (eV (eCall m__law_plus (aCons (eTup (aCons (eOp2 gIdx (ePk 1) (eC (.int 0))) (aCons (eC (.int 1)) aNil))) (aCons (eV (eCall m__law_times (aCons (eVar 5) (aCons (eTup (aCons (eOp2 gSub (eOp2 gIdx (ePk 2) (eC (.int 0))) (eOp2 gIdx (ePk 1) (eC (.int 0)))) (aCons (eC (.int 1)) aNil))) aNil)))) aNil)))) (aCons (eV (eCall m__law_plus (aCons (eTup (aCons (eOp2 gIdx (ePk 1) (eC (.int 1))) (aCons (eC (.int 1)) aNil))) (aCons (eV (eCall m__law_times (aCons (eVar 5) (aCons (eTup (aCons (eOp2 gSub (eOp2 gIdx (ePk 2) (eC (.int 1))) (eOp2 gIdx (ePk 1) (eC (.int 1)))) (aCons (eC (.int 1)) aNil))) aNil)))) aNil)))) aNil)))))))))
noncomputable def m__law_foot : List D → Res RV := fnM 3 6 b__law_foot
/-- _law_near(one, other, ring): 0 one 1 other 2 ring 3 found 4 p 5 q 6 some -/
noncomputable def b__law_near_1 : PV.Env → Out :=
  (sIf (bOr (eB (eOp2 gIs (ePk 3) (eC .none))) (eTr (eCallS m__law_less (aCons (ePk 6) (aCons (ePk 3) aNil)))))
  (sSet 3 (eVar 6))
  sNil)
noncomputable def b__law_near_2 : PV.Env → Out :=
  (sSeq (sIf (eTr (eCallS m__law_meet (aCons (eTup (aCons (eVar 0) (aCons (eVar 1) aNil))) (aCons (eTup (aCons (eVar 4) (aCons (eVar 5) aNil))) aNil))))
  (sRetE (eTup (aCons (eC (.int 0)) (aCons (eC (.int 1)) aNil))))
  sNil)
  (sFor (iSeq (eV (eLst (aCons (eV (eCall m__law_square (aCons (eV (eCall m__law_spot (aCons (eVar 0) aNil))) (aCons (eV (eCall m__law_foot (aCons (eVar 0) (aCons (eVar 4) (aCons (eVar 5) aNil))))) aNil)))) (aCons (eV (eCall m__law_square (aCons (eV (eCall m__law_spot (aCons (eVar 1) aNil))) (aCons (eV (eCall m__law_foot (aCons (eVar 1) (aCons (eVar 4) (aCons (eVar 5) aNil))))) aNil)))) (aCons (eV (eCall m__law_square (aCons (eV (eCall m__law_spot (aCons (eVar 4) aNil))) (aCons (eV (eCall m__law_foot (aCons (eVar 4) (aCons (eVar 0) (aCons (eVar 1) aNil))))) aNil)))) aNil)))))) (gNm 6) [2, 4, 5, 6] (b__law_near_1)))
noncomputable def b__law_near : PV.Env → Out :=
  (sSeq (sIf (eB (eOp2 gNe (eV (eCall m__law_place (aCons (eVar 2) (aCons (eOp2 gIdx (ePk 0) (eC (.int 0))) (aCons (eOp2 gIdx (ePk 0) (eC (.int 1))) (aCons (eC (.int 1)) aNil)))))) (eC (.str "out"))))
  (sRetE (eTup (aCons (eC (.int 0)) (aCons (eC (.int 1)) aNil))))
  sNil)
  (sSeq (sSet 3 (eC .none))
  (sSeq (sFor (iSeq (eV (eCall m__law_sides (aCons (eVar 2) aNil)))) (gTp 2 (gsCons (gNm 4) (gsCons (gNm 5) gsNil))) [2, 4, 5, 6] (b__law_near_2))
  (sRetVar 3))))
noncomputable def m__law_near : List D → Res RV := fnM 3 7 b__law_near
/-- law(script): 0 script 1 draws 2 ring 3 road 4 kept 5 least 6 k 7 reach 8 one 9 other 10 due 11 turn_v 12 share 13 spot 14 some 15 goal 16 p 17 q -/
noncomputable def b_law_1 : PV.Env → Out :=
  (sSeq (sFz [2] (sSetE (gTp 2 (gsCons (gNm 16) (gsCons (gNm 17) gsNil))) (eOp2 gIdx (eV (eCall m__law_sides (aCons (eVar 2) aNil))) (eOp2 gMod (eOp2 gIdx (ePk 1) (eV (eOp2 gAdd (eC (.int 11)) (ePk 11)))) (eBi gLen (aCons (ePk 2) aNil))))))
  (sSeq (sSet 12 (eOp2 gMod (eOp2 gIdx (ePk 1) (eV (eOp2 gAdd (eC (.int 14)) (ePk 11)))) (eC (.int 6))))
  (sSeq (sSet 13 (eTup (aCons (eV (eCall m__law_frac (aCons (eV (eOp2 gAdd (eOp2 gMul (eOp2 gIdx (ePk 8) (eC (.int 0))) (ePk 12)) (eOp2 gMul (eOp2 gIdx (ePk 9) (eC (.int 0))) (eOp2 gSub (eC (.int 5)) (ePk 12))))) (aCons (eC (.int 5)) aNil)))) (aCons (eV (eCall m__law_frac (aCons (eV (eOp2 gAdd (eOp2 gMul (eOp2 gIdx (ePk 8) (eC (.int 1))) (ePk 12)) (eOp2 gMul (eOp2 gIdx (ePk 9) (eC (.int 1))) (eOp2 gSub (eC (.int 5)) (ePk 12))))) (aCons (eC (.int 5)) aNil)))) aNil))))
  (sSeq (sSet 14 (eOp2 gMod (eOp2 gIdx (ePk 1) (eV (eOp2 gAdd (eC (.int 17)) (ePk 11)))) (eC (.int 6))))
  (sSeq (sSet 15 (eTup (aCons (eV (eCall m__law_frac (aCons (eV (eOp2 gAdd (eOp2 gMul (eOp2 gIdx (ePk 16) (eC (.int 0))) (ePk 14)) (eOp2 gMul (eOp2 gIdx (ePk 17) (eC (.int 0))) (eOp2 gSub (eC (.int 5)) (ePk 14))))) (aCons (eC (.int 5)) aNil)))) (aCons (eV (eCall m__law_frac (aCons (eV (eOp2 gAdd (eOp2 gMul (eOp2 gIdx (ePk 16) (eC (.int 1))) (ePk 14)) (eOp2 gMul (eOp2 gIdx (ePk 17) (eC (.int 1))) (eOp2 gSub (eC (.int 5)) (ePk 14))))) (aCons (eC (.int 5)) aNil)))) aNil))))
  (sSeq (sIf (eTr (eCallS m__law_less (aCons (eV (eCall m__law_square (aCons (eVar 13) (aCons (eVar 15) aNil)))) (aCons (ePk 10) aNil))))
  (sRetE (eC (.bool false)))
  sNil)
  (sIf (bNot (eTr (eCallS (m__law_same 12) (aCons (eV (eCall m_distance_square (aCons (eVar 16) (aCons (eVar 8) (aCons (eVar 9) aNil))))) (aCons (eV (eCall m__law_square (aCons (eV (eCall m__law_spot (aCons (eVar 16) aNil))) (aCons (eV (eCall m__law_foot (aCons (eVar 16) (aCons (eVar 8) (aCons (eVar 9) aNil))))) aNil)))) aNil)))))
  (sRetE (eC (.bool false)))
  sNil)))))))
noncomputable def b_law_2 : PV.Env → Out :=
  (sSeq (sSet 8 (eOp2 gIdx (ePk 3) (eOp2 gSub (ePk 6) (eC (.int 1)))))
  (sSeq (sSet 9 (eOp2 gIdx (ePk 3) (ePk 6)))
  (sSeq (sFz [2] (sSetV 10 (eCall m__law_near (aCons (eVar 8) (aCons (eVar 9) (aCons (eVar 2) aNil))))))
  (sSeq (sFz [2, 3] (sIf (bOr (bNot (eTr (eCallS (m__law_same 12) (aCons (eV (eCall m_near_square (aCons (eVar 8) (aCons (eVar 9) (aCons (eVar 2) aNil))))) (aCons (ePk 10) aNil))))) (eB (eOp2 gNe (eBi gRepr (aCons (eTup (aCons (eVar 2) (aCons (eVar 3) aNil))) aNil)) (ePk 4))))
  (sRetE (eC (.bool false)))
  sNil))
  (sSeq (sIf (bOr (eB (eOp2 gIs (ePk 5) (eC .none))) (eTr (eCallS m__law_less (aCons (ePk 10) (aCons (ePk 5) aNil)))))
  (sFz [10] (sSet 5 (eVar 10)))
  sNil)
  (sFz [2] (sFor (iRange1 (eC (.int 3))) (gNm 11) [0, 6, 7, 11, 12, 13, 14, 15, 16, 17] (b_law_1))))))))
noncomputable def b_law_3 : PV.Env → Out :=
  (sIf (bNot (eTr (eCallS (m__law_same 12) (aCons (eCallS m_touches (aCons (ePk 3) (aCons (ePk 7) (aCons (ePk 2) aNil)))) (aCons (eNot (eCallS m__law_less (aCons (eTup (aCons (eOp2 gMul (ePk 7) (ePk 7)) (aCons (eC (.int 1)) aNil))) (aCons (ePk 5) aNil)))) aNil)))))
  (sRetE (eC (.bool false)))
  sNil)
noncomputable def b_law_t9 : PV.Env → Out :=
  (sFz [2, 3] (sRetE (eOp2 gEq (eBi gRepr (aCons (eTup (aCons (eVar 2) (aCons (eVar 3) aNil))) aNil)) (ePk 4))))
noncomputable def b_law_t8 : PV.Env → Out :=
  (sSeq (sFor (iSeq (eV (eLst (aCons (eC (.int 0)) (aCons (eC (.int 1)) (aCons (eOp2 gMod (eOp2 gIdx (ePk 1) (eC (.int 20))) (eC (.int 13))) (aCons (eOp2 gMod (eOp2 gIdx (ePk 1) (eC (.int 21))) (eC (.int 13))) (aCons (eC (.int 40)) aNil)))))))) (gNm 7) [0, 1, 6, 7, 8, 9, 10, 11, 12, 13, 14, 15, 16, 17] (b_law_3))
  (b_law_t9))
noncomputable def b_law_t7 : PV.Env → Out :=
  (sSeq (sIf (bNot (eTr (eCallS (m__law_same 12) (aCons (eV (eCall m_distance_square (aCons (eOp2 gIdx (ePk 3) (eC (.int 0))) (aCons (eOp2 gIdx (ePk 2) (eC (.int 0))) (aCons (eOp2 gIdx (ePk 2) (eC (.int 0))) aNil))))) (aCons (eV (eCall m__law_square (aCons (eV (eCall m__law_spot (aCons (eOp2 gIdx (ePk 3) (eC (.int 0))) aNil))) (aCons (eV (eCall m__law_spot (aCons (eOp2 gIdx (ePk 2) (eC (.int 0))) aNil))) aNil)))) aNil)))))
  (sRetE (eC (.bool false)))
  sNil)
  (b_law_t8))
noncomputable def b_law_t6 : PV.Env → Out :=
  (sSeq (sFz [2, 3] (sFor (iRange2 (eC (.int 1)) (eBi gLen (aCons (ePk 3) aNil))) (gNm 6) [0, 6, 7, 8, 9, 10, 11, 12, 13, 14, 15, 16, 17] (b_law_2)))
  (b_law_t7))
noncomputable def b_law_t5 : PV.Env → Out :=
  (sSeq (sSet 5 (eC .none))
  (b_law_t6))
noncomputable def b_law_t4 : PV.Env → Out :=
  (sSeq (sFz [2, 3] (sSet 4 (eBi gRepr (aCons (eTup (aCons (eVar 2) (aCons (eVar 3) aNil))) aNil))))
  (b_law_t5))
noncomputable def b_law_t3 : PV.Env → Out :=
  (sSeq (sSetV 3 (eOp2 gAdd (eV (eComp (iRange1 (eBi gLen (aCons (ePk 3) aNil))) [6] (gNm 6) (bOr (eB (eOp2 gEq (ePk 6) (eC (.int 0)))) (eB (eOp2 gNe (eOp2 gIdx (ePk 3) (ePk 6)) (eOp2 gIdx (ePk 3) (eOp2 gSub (ePk 6) (eC (.int 1))))))) (eOp2 gIdx (ePk 3) (ePk 6)))) (eV (eLst (aCons (eTup (aCons (eC (.int 13)) (aCons (eC (.int 13)) aNil))) aNil)))))
  (b_law_t4))
noncomputable def b_law_t2 : PV.Env → Out :=
  (sSeq (sSetV 3 (eComp (iRange1 (eV (eOp2 gAdd (eC (.int 2)) (eOp2 gMod (eOp2 gIdx (ePk 1) (eC (.int 10))) (eC (.int 3)))))) [6] (gNm 6) bYes (eTup (aCons (eOp2 gSub (eOp2 gMod (eOp2 gIdx (ePk 1) (eV (eOp2 gAdd (eC (.int 4)) (ePk 6)))) (eC (.int 25))) (eC (.int 12))) (aCons (eOp2 gSub (eOp2 gMod (eOp2 gDiv (eOp2 gIdx (ePk 1) (eV (eOp2 gAdd (eC (.int 4)) (ePk 6)))) (eC (.int 25))) (eC (.int 25))) (eC (.int 12))) aNil)))))
  (b_law_t3))
noncomputable def b_law_t1 : PV.Env → Out :=
  (sSeq (sFz [1] (sSetV 2 (eCall m__law_ring (aCons (eVar 1) (aCons (eC (.int 0)) aNil)))))
  (b_law_t2))
noncomputable def b_law : PV.Env → Out :=
  (sSeq (sSetV 1 (eCall m__law_numbers (aCons (eCallS m__law_cell (aCons (ePk 0) (aCons (eC (.int 0)) aNil))) (aCons (eC (.int 30)) (aCons (eC (.int 5040)) aNil)))))
  (b_law_t1))
noncomputable def m_law : List D → Res RV := fnM 1 18 b_law
end G

set_option maxHeartbeats 4000000
/-! ### the program computes them -/
namespace G
open PySem PySem.Spec L2 PV
set_option autoImplicit false
set_option linter.all false
def topS (i : Nat) : Stmt := PySem.Challenge.pw_spotincommon_k64_whole_roads_that_touch.main.body.getD i (.Pass ⟨0, 0, 0, 0⟩)
structure Facts (K : PySem.W.Frag) (mg : Str → Option Value) : Prop where
  m_abs : mg "abs" = none
  m_any : mg "any" = none
  m_bool : mg "bool" = none
  m_int : mg "int" = none
  m_isinstance : mg "isinstance" = none
  m_len : mg "len" = none
  m_list : mg "list" = none
  m_max : mg "max" = none
  m_min : mg "min" = none
  m_range : mg "range" = none
  m_repr : mg "repr" = none
  m_str : mg "str" = none
  m_tuple : mg "tuple" = none
  i_gcd : mg "gcd" = some (.builtin "math.gcd")
  c_ZERO : Kst K mg "ZERO" (.tuple [(.int 0), (.int 1)])
section
variable {P : Program} {w : World} {K : PySem.W.Frag} {mg : Str → Option Value} {base : Heap}
abbrev s_fraction : Stmt := topS 3
theorem sc_fraction : FnScope ["top", "bottom", "common"] ["top", "bottom"] (defScope s_fraction) := ⟨rfl, rfl, rfl, by decide +kernel, rfl, by decide +kernel, by decide +kernel⟩
theorem ok_fraction (M : Facts K mg) {f : Addr} {fd : FuncData} (F : Fun K "fraction" "fraction" s_fraction f fd) : FnOk P w K mg base CX0 1 f fd ["top", "bottom"] (spD K m_fraction) :=
  fn_ok (body := b_fraction) F sc_fraction rfl rfl rfl (by decide) (fun cdv A outer s H E hr => by
    have S := sc_fraction
    have hu65 := hu65_of hr
    have hu66 := hu66_of hr
    exact (Ss_cons (S_if (T_cmp (op_ltG hr.units) gOrd_ok (P_var 1) (P_e E_int) (nomark _))
  (Ss_one (S_par 0 1 rfl S.nd (A_cons (E_neg (P_var 0)) (A_cons (E_neg (P_var 1)) A_nil))))
  Ss_nil)
  (Ss_cons (S_set 2 (E_bif cr_gcd gGcd_ok M.i_gcd (Ap_cons (P_var 0) (Ap_cons (P_var 1) Ap_nil))) S.nd)
  (Ss_one (S_retE (E_tup (A_cons (E_op2 op_divG gDiv_ok (P_var 0) (P_var 2)) (A_cons (E_op2 op_divG gDiv_ok (P_var 1) (P_var 2)) A_nil))))))))
abbrev s_whole : Stmt := topS 4
theorem sc_whole : FnScope ["number"] ["number"] (defScope s_whole) := ⟨rfl, rfl, rfl, by decide +kernel, rfl, by decide +kernel, by decide +kernel⟩
theorem ok_whole (M : Facts K mg) {f : Addr} {fd : FuncData} (F : Fun K "whole" "whole" s_whole f fd) : FnOk P w K mg base CX0 1 f fd ["number"] (spD K m_whole) :=
  fn_ok (body := b_whole) F sc_whole rfl rfl rfl (by decide) (fun cdv A outer s H E hr => by
    have S := sc_whole
    have hu65 := hu65_of hr
    have hu66 := hu66_of hr
    exact (Ss_one (S_retE (E_tup (A_cons (E_var 0) (A_cons E_int A_nil))))))
abbrev s_minus : Stmt := topS 5
theorem sc_minus : FnScope ["one", "other"] ["one", "other"] (defScope s_minus) := ⟨rfl, rfl, rfl, by decide +kernel, rfl, by decide +kernel, by decide +kernel⟩
theorem ok_minus (M : Facts K mg) (C_fraction : Cal P w K mg base "fraction" 1 m_fraction) {f : Addr} {fd : FuncData} (F : Fun K "minus" "minus" s_minus f fd) : FnOk P w K mg base CX0 2 f fd ["one", "other"] (spD K m_minus) :=
  fn_ok (body := b_minus) F sc_minus rfl rfl rfl (by decide) (fun cdv A outer s H E hr => by
    have S := sc_minus
    have hu65 := hu65_of hr
    have hu66 := hu66_of hr
    exact (Ss_one (S_retV (V_call C_fraction hr (A_cons (E_op2 op_sub gSub_ok (P_e (E_op2 op_mulG gMul_ok (P_e (E_idx (P_var 0) (P_e E_int))) (P_e (E_idx (P_var 1) (P_e E_int))))) (P_e (E_op2 op_mulG gMul_ok (P_e (E_idx (P_var 1) (P_e E_int))) (P_e (E_idx (P_var 0) (P_e E_int)))))) (A_cons (E_op2 op_mulG gMul_ok (P_e (E_idx (P_var 0) (P_e E_int))) (P_e (E_idx (P_var 1) (P_e E_int)))) A_nil))))))
abbrev s_times : Stmt := topS 6
theorem sc_times : FnScope ["one", "other"] ["one", "other"] (defScope s_times) := ⟨rfl, rfl, rfl, by decide +kernel, rfl, by decide +kernel, by decide +kernel⟩
theorem ok_times (M : Facts K mg) (C_fraction : Cal P w K mg base "fraction" 1 m_fraction) {f : Addr} {fd : FuncData} (F : Fun K "times" "times" s_times f fd) : FnOk P w K mg base CX0 2 f fd ["one", "other"] (spD K m_times) :=
  fn_ok (body := b_times) F sc_times rfl rfl rfl (by decide) (fun cdv A outer s H E hr => by
    have S := sc_times
    have hu65 := hu65_of hr
    have hu66 := hu66_of hr
    exact (Ss_one (S_retV (V_call C_fraction hr (A_cons (E_op2 op_mulG gMul_ok (P_e (E_idx (P_var 0) (P_e E_int))) (P_e (E_idx (P_var 1) (P_e E_int)))) (A_cons (E_op2 op_mulG gMul_ok (P_e (E_idx (P_var 0) (P_e E_int))) (P_e (E_idx (P_var 1) (P_e E_int)))) A_nil))))))
abbrev s_is_less : Stmt := topS 7
theorem sc_is_less : FnScope ["one", "other"] ["one", "other"] (defScope s_is_less) := ⟨rfl, rfl, rfl, by decide +kernel, rfl, by decide +kernel, by decide +kernel⟩
theorem ok_is_less (M : Facts K mg) {f : Addr} {fd : FuncData} (F : Fun K "is_less" "is_less" s_is_less f fd) : FnOk P w K mg base CX0 1 f fd ["one", "other"] (spD K m_is_less) :=
  fn_ok (body := b_is_less) F sc_is_less rfl rfl rfl (by decide) (fun cdv A outer s H E hr => by
    have S := sc_is_less
    have hu65 := hu65_of hr
    have hu66 := hu66_of hr
    exact (Ss_one (S_retE (E_cmp (op_ltG hr.units) gOrd_ok (P_e (E_op2 op_mulG gMul_ok (P_e (E_idx (P_var 0) (P_e E_int))) (P_e (E_idx (P_var 1) (P_e E_int))))) (P_e (E_op2 op_mulG gMul_ok (P_e (E_idx (P_var 1) (P_e E_int))) (P_e (E_idx (P_var 0) (P_e E_int))))) (nomark _)))))
abbrev s_lesser : Stmt := topS 8
theorem sc_lesser : FnScope ["one", "other"] ["one", "other"] (defScope s_lesser) := ⟨rfl, rfl, rfl, by decide +kernel, rfl, by decide +kernel, by decide +kernel⟩
theorem ok_lesser (M : Facts K mg) (C_is_less : Cal P w K mg base "is_less" 1 m_is_less) {f : Addr} {fd : FuncData} (F : Fun K "lesser" "lesser" s_lesser f fd) : FnOk P w K mg base CX0 2 f fd ["one", "other"] (spD K m_lesser) :=
  fn_ok (body := b_lesser) F sc_lesser rfl rfl rfl (by decide) (fun cdv A outer s H E hr => by
    have S := sc_lesser
    have hu65 := hu65_of hr
    have hu66 := hu66_of hr
    exact (Ss_cons (S_if (T_tru (P_e (E_callS C_is_less hr (Ap_cons (P_var 1) (Ap_cons (P_var 0) Ap_nil)))))
  (Ss_one (S_retVar 1))
  Ss_nil)
  (Ss_one (S_retVar 0))))
abbrev s_turn : Stmt := topS 10
theorem sc_turn : FnScope ["a", "b", "c"] ["a", "b", "c"] (defScope s_turn) := ⟨rfl, rfl, rfl, by decide +kernel, rfl, by decide +kernel, by decide +kernel⟩
theorem ok_turn (M : Facts K mg) {f : Addr} {fd : FuncData} (F : Fun K "turn" "turn" s_turn f fd) : FnOk P w K mg base CX0 1 f fd ["a", "b", "c"] (spD K m_turn) :=
  fn_ok (body := b_turn) F sc_turn rfl rfl rfl (by decide) (fun cdv A outer s H E hr => by
    have S := sc_turn
    have hu65 := hu65_of hr
    have hu66 := hu66_of hr
    exact (Ss_one (S_retE (E_op2 op_sub gSub_ok (P_e (E_op2 op_mulG gMul_ok (P_e (E_op2 op_sub gSub_ok (P_e (E_idx (P_var 1) (P_e E_int))) (P_e (E_idx (P_var 0) (P_e E_int))))) (P_e (E_op2 op_sub gSub_ok (P_e (E_idx (P_var 2) (P_e E_int))) (P_e (E_idx (P_var 0) (P_e E_int))))))) (P_e (E_op2 op_mulG gMul_ok (P_e (E_op2 op_sub gSub_ok (P_e (E_idx (P_var 1) (P_e E_int))) (P_e (E_idx (P_var 0) (P_e E_int))))) (P_e (E_op2 op_sub gSub_ok (P_e (E_idx (P_var 2) (P_e E_int))) (P_e (E_idx (P_var 0) (P_e E_int)))))))))))
abbrev s_spot_of : Stmt := topS 11
theorem sc_spot_of : FnScope ["stone"] ["stone"] (defScope s_spot_of) := ⟨rfl, rfl, rfl, by decide +kernel, rfl, by decide +kernel, by decide +kernel⟩
theorem ok_spot_of (M : Facts K mg) (C_whole : Cal P w K mg base "whole" 1 m_whole) {f : Addr} {fd : FuncData} (F : Fun K "spot_of" "spot_of" s_spot_of f fd) : FnOk P w K mg base CX0 2 f fd ["stone"] (spD K m_spot_of) :=
  fn_ok (body := b_spot_of) F sc_spot_of rfl rfl rfl (by decide) (fun cdv A outer s H E hr => by
    have S := sc_spot_of
    have hu65 := hu65_of hr
    have hu66 := hu66_of hr
    exact (Ss_one (S_retE (E_tup (A_cons (E_v (V_call C_whole hr (A_cons (E_idx (P_var 0) (P_e E_int)) A_nil))) (A_cons (E_v (V_call C_whole hr (A_cons (E_idx (P_var 0) (P_e E_int)) A_nil))) A_nil))))))
abbrev s_wide_turn : Stmt := topS 13
theorem sc_wide_turn : FnScope ["a", "b", "c", "first"] ["a", "b", "c"] (defScope s_wide_turn) := ⟨rfl, rfl, rfl, by decide +kernel, rfl, by decide +kernel, by decide +kernel⟩
theorem ok_wide_turn (M : Facts K mg) (C_minus : Cal P w K mg base "minus" 2 m_minus) (C_times : Cal P w K mg base "times" 2 m_times) {f : Addr} {fd : FuncData} (F : Fun K "wide_turn" "wide_turn" s_wide_turn f fd) : FnOk P w K mg base CX0 3 f fd ["a", "b", "c"] (spD K m_wide_turn) :=
  fn_ok (body := b_wide_turn) F sc_wide_turn rfl rfl rfl (by decide) (fun cdv A outer s H E hr => by
    have S := sc_wide_turn
    have hu65 := hu65_of hr
    have hu66 := hu66_of hr
    exact (Ss_cons (S_setV 3 (V_call C_times hr (A_cons (E_v (V_call C_minus hr (A_cons (E_idx (P_var 1) (P_e E_int)) (A_cons (E_idx (P_var 0) (P_e E_int)) A_nil)))) (A_cons (E_v (V_call C_minus hr (A_cons (E_idx (P_var 2) (P_e E_int)) (A_cons (E_idx (P_var 0) (P_e E_int)) A_nil)))) A_nil))) S.nd)
  (Ss_one (S_fz [3] (S_retV (V_call C_minus hr (A_cons (E_var 3) (A_cons (E_v (V_call C_times hr (A_cons (E_v (V_call C_minus hr (A_cons (E_idx (P_var 1) (P_e E_int)) (A_cons (E_idx (P_var 0) (P_e E_int)) A_nil)))) (A_cons (E_v (V_call C_minus hr (A_cons (E_idx (P_var 2) (P_e E_int)) (A_cons (E_idx (P_var 0) (P_e E_int)) A_nil)))) A_nil)))) A_nil))))))))
abbrev s_sides_of : Stmt := topS 15
theorem sc_sides_of : FnScope ["ring", "k"] ["ring"] (defScope s_sides_of) := ⟨rfl, rfl, rfl, by decide +kernel, rfl, by decide +kernel, by decide +kernel⟩
theorem ok_sides_of (M : Facts K mg) {f : Addr} {fd : FuncData} (F : Fun K "sides_of" "sides_of" s_sides_of f fd) : FnOk P w K mg base CX0 1 f fd ["ring"] (spD K m_sides_of) :=
  fn_ok (body := b_sides_of) F sc_sides_of rfl rfl rfl (by decide) (fun cdv A outer s H E hr => by
    have S := sc_sides_of
    have hu65 := hu65_of hr
    have hu66 := hu66_of hr
    exact (Ss_one (S_retV (V_comp (own := [("k", 1)]) rfl S.nd (blkOk_by (by rfl)) (Ip_of (I_range1 M.m_range (P_e (E_bi call_len gLen_ok PySem.boot_len M.m_len (Ap_cons (P_var 0) Ap_nil))))) (fun _ _ _ _ _ => (G_nm 1 S.nd)) (fun _ _ _ _ _ => Ts_nil) (fun _ _ _ _ _ => (E_tup (A_cons (E_idx (P_var 0) (P_var 1)) (A_cons (E_idx (P_var 0) (P_e (E_op2 op_modN gMod_ok (P_v (V_op2 op_addG gAdd_ok (P_var 1) (P_e E_int))) (P_e (E_bi call_len gLen_ok PySem.boot_len M.m_len (Ap_cons (P_var 0) Ap_nil)))))) A_nil))))))))
abbrev s_is_on : Stmt := topS 16
theorem sc_is_on : FnScope ["p", "q", "stone"] ["p", "q", "stone"] (defScope s_is_on) := ⟨rfl, rfl, rfl, by decide +kernel, rfl, by decide +kernel, by decide +kernel⟩
theorem ok_is_on (M : Facts K mg) (C_turn : Cal P w K mg base "turn" 1 m_turn) {f : Addr} {fd : FuncData} (F : Fun K "is_on" "is_on" s_is_on f fd) : FnOk P w K mg base CX0 2 f fd ["p", "q", "stone"] (spD K m_is_on) :=
  fn_ok (body := b_is_on) F sc_is_on rfl rfl rfl (by decide) (fun cdv A outer s H E hr => by
    have S := sc_is_on
    have hu65 := hu65_of hr
    have hu66 := hu66_of hr
    exact (Ss_cons (S_if (T_cmp (op_neD hr.units) gNe_ok (P_e (E_callS C_turn hr (Ap_cons (P_var 0) (Ap_cons (P_var 1) (Ap_cons (P_var 2) Ap_nil))))) (P_e E_int) (nomark _))
  (Ss_one (S_retE E_bl))
  Ss_nil)
  (Ss_one (S_retE (E_and (E_chain (op_leG hr.units) gOrd_ok (op_leG hr.units) gOrd_ok (P_e (E_bi (call_min2 rfl) gMin2_ok (by decide +kernel) M.m_min (Ap_cons (P_e (E_idx (P_var 0) (P_e E_int))) (Ap_cons (P_e (E_idx (P_var 1) (P_e E_int))) Ap_nil)))) (P_e (E_idx (P_var 2) (P_e E_int))) (P_e (E_bi (call_max2 rfl) gMax2_ok (by decide +kernel) M.m_max (Ap_cons (P_e (E_idx (P_var 0) (P_e E_int))) (Ap_cons (P_e (E_idx (P_var 1) (P_e E_int))) Ap_nil))))) (E_one (E_chain (op_leG hr.units) gOrd_ok (op_leG hr.units) gOrd_ok (P_e (E_bi (call_min2 rfl) gMin2_ok (by decide +kernel) M.m_min (Ap_cons (P_e (E_idx (P_var 0) (P_e E_int))) (Ap_cons (P_e (E_idx (P_var 1) (P_e E_int))) Ap_nil)))) (P_e (E_idx (P_var 2) (P_e E_int))) (P_e (E_bi (call_max2 rfl) gMax2_ok (by decide +kernel) M.m_max (Ap_cons (P_e (E_idx (P_var 0) (P_e E_int))) (Ap_cons (P_e (E_idx (P_var 1) (P_e E_int))) Ap_nil)))))))))))
abbrev s_parts_them : Stmt := topS 17
theorem sc_parts_them : FnScope ["p", "q", "r", "s", "one", "other"] ["p", "q", "r", "s"] (defScope s_parts_them) := ⟨rfl, rfl, rfl, by decide +kernel, rfl, by decide +kernel, by decide +kernel⟩
theorem ok_parts_them (M : Facts K mg) (C_turn : Cal P w K mg base "turn" 1 m_turn) {f : Addr} {fd : FuncData} (F : Fun K "parts_them" "parts_them" s_parts_them f fd) : FnOk P w K mg base CX0 2 f fd ["p", "q", "r", "s"] (spD K m_parts_them) :=
  fn_ok (body := b_parts_them) F sc_parts_them rfl rfl rfl (by decide) (fun cdv A outer s H E hr => by
    have S := sc_parts_them
    have hu65 := hu65_of hr
    have hu66 := hu66_of hr
    exact (Ss_cons (S_set 4 (E_callS C_turn hr (Ap_cons (P_var 0) (Ap_cons (P_var 1) (Ap_cons (P_var 2) Ap_nil)))) S.nd)
  (Ss_cons (S_set 5 (E_callS C_turn hr (Ap_cons (P_var 0) (Ap_cons (P_var 1) (Ap_cons (P_var 3) Ap_nil)))) S.nd)
  (Ss_one (S_retE (E_or (E_chain (op_gtG hr.units) gOrd_ok (op_gtG hr.units) gOrd_ok (P_var 4) (P_e E_int) (P_var 5)) (E_one (E_chain (op_gtG hr.units) gOrd_ok (op_gtG hr.units) gOrd_ok (P_var 5) (P_e E_int) (P_var 4)))))))))
abbrev s_have_common : Stmt := topS 18
theorem sc_have_common : FnScope ["p", "q", "r", "s"] ["p", "q", "r", "s"] (defScope s_have_common) := ⟨rfl, rfl, rfl, by decide +kernel, rfl, by decide +kernel, by decide +kernel⟩
theorem ok_have_common (M : Facts K mg) (C_is_on : Cal P w K mg base "is_on" 2 m_is_on) (C_parts_them : Cal P w K mg base "parts_them" 2 m_parts_them) {f : Addr} {fd : FuncData} (F : Fun K "have_common" "have_common" s_have_common f fd) : FnOk P w K mg base CX0 3 f fd ["p", "q", "r", "s"] (spD K m_have_common) :=
  fn_ok (body := b_have_common) F sc_have_common rfl rfl rfl (by decide) (fun cdv A outer s H E hr => by
    have S := sc_have_common
    have hu65 := hu65_of hr
    have hu66 := hu66_of hr
    exact (Ss_cons (S_if (T_w (W_and (T_tru (P_e (E_callS C_parts_them hr (Ap_cons (P_var 0) (Ap_cons (P_var 1) (Ap_cons (P_var 2) (Ap_cons (P_var 3) Ap_nil))))))) (W_and1 (T_tru (P_e (E_callS C_parts_them hr (Ap_cons (P_var 2) (Ap_cons (P_var 3) (Ap_cons (P_var 0) (Ap_cons (P_var 1) Ap_nil))))))))))
  (Ss_one (S_retE E_bl))
  Ss_nil)
  (Ss_one (S_retE (E_or (E_callS C_is_on hr (Ap_cons (P_var 0) (Ap_cons (P_var 1) (Ap_cons (P_var 2) Ap_nil)))) (E_or (E_callS C_is_on hr (Ap_cons (P_var 0) (Ap_cons (P_var 1) (Ap_cons (P_var 3) Ap_nil)))) (E_or (E_callS C_is_on hr (Ap_cons (P_var 2) (Ap_cons (P_var 3) (Ap_cons (P_var 0) Ap_nil)))) (E_one (E_callS C_is_on hr (Ap_cons (P_var 2) (Ap_cons (P_var 3) (Ap_cons (P_var 1) Ap_nil))))))))))))
abbrev s_is_between : Stmt := topS 19
theorem sc_is_between : FnScope ["one", "other", "value", "low", "high"] ["one", "other", "value"] (defScope s_is_between) := ⟨rfl, rfl, rfl, by decide +kernel, rfl, by decide +kernel, by decide +kernel⟩
theorem ok_is_between (M : Facts K mg) (C_is_less : Cal P w K mg base "is_less" 1 m_is_less) (C_whole : Cal P w K mg base "whole" 1 m_whole) {f : Addr} {fd : FuncData} (F : Fun K "is_between" "is_between" s_is_between f fd) : FnOk P w K mg base CX0 2 f fd ["one", "other", "value"] (spD K m_is_between) :=
  fn_ok (body := b_is_between) F sc_is_between rfl rfl rfl (by decide) (fun cdv A outer s H E hr => by
    have S := sc_is_between
    have hu65 := hu65_of hr
    have hu66 := hu66_of hr
    exact (Ss_cons (S_par 3 4 rfl S.nd (A_cons (E_v (V_call C_whole hr (A_cons (E_bi (call_min2 rfl) gMin2_ok (by decide +kernel) M.m_min (Ap_cons (P_var 0) (Ap_cons (P_var 1) Ap_nil))) A_nil))) (A_cons (E_v (V_call C_whole hr (A_cons (E_bi (call_max2 rfl) gMax2_ok (by decide +kernel) M.m_max (Ap_cons (P_var 0) (Ap_cons (P_var 1) Ap_nil))) A_nil))) A_nil)))
  (Ss_one (S_retE (E_and (E_not (E_callS C_is_less hr (Ap_cons (P_var 2) (Ap_cons (P_var 3) Ap_nil)))) (E_one (E_not (E_callS C_is_less hr (Ap_cons (P_var 4) (Ap_cons (P_var 2) Ap_nil))))))))))
abbrev s_is_spot_on : Stmt := topS 20
theorem sc_is_spot_on : FnScope ["p", "q", "spot"] ["p", "q", "spot"] (defScope s_is_spot_on) := ⟨rfl, rfl, rfl, by decide +kernel, rfl, by decide +kernel, by decide +kernel⟩
theorem ok_is_spot_on (M : Facts K mg) (C_is_between : Cal P w K mg base "is_between" 2 m_is_between) (C_spot_of : Cal P w K mg base "spot_of" 2 m_spot_of) (C_wide_turn : Cal P w K mg base "wide_turn" 3 m_wide_turn) {f : Addr} {fd : FuncData} (F : Fun K "is_spot_on" "is_spot_on" s_is_spot_on f fd) : FnOk P w K mg base CX0 4 f fd ["p", "q", "spot"] (spD K m_is_spot_on) :=
  fn_ok (body := b_is_spot_on) F sc_is_spot_on rfl rfl rfl (by decide) (fun cdv A outer s H E hr => by
    have S := sc_is_spot_on
    have hu65 := hu65_of hr
    have hu66 := hu66_of hr
    exact (Ss_cons (S_if (T_cmp (op_neD hr.units) gNe_ok (P_v (V_call C_wide_turn hr (A_cons (E_v (V_call C_spot_of hr (A_cons (E_var 0) A_nil))) (A_cons (E_v (V_call C_spot_of hr (A_cons (E_var 1) A_nil))) (A_cons (E_var 2) A_nil))))) (P_e (E_glob M.c_ZERO)) (nomark _))
  (Ss_one (S_retE E_bl))
  Ss_nil)
  (Ss_one (S_retE (E_and (E_callS C_is_between hr (Ap_cons (P_e (E_idx (P_var 0) (P_e E_int))) (Ap_cons (P_e (E_idx (P_var 1) (P_e E_int))) (Ap_cons (P_e (E_idx (P_var 2) (P_e E_int))) Ap_nil)))) (E_one (E_callS C_is_between hr (Ap_cons (P_e (E_idx (P_var 0) (P_e E_int))) (Ap_cons (P_e (E_idx (P_var 1) (P_e E_int))) (Ap_cons (P_e (E_idx (P_var 2) (P_e E_int))) Ap_nil))))))))))
abbrev s_is_crossed : Stmt := topS 21
theorem sc_is_crossed : FnScope ["p", "q", "spot", "above"] ["p", "q", "spot"] (defScope s_is_crossed) := ⟨rfl, rfl, rfl, by decide +kernel, rfl, by decide +kernel, by decide +kernel⟩
theorem ok_is_crossed (M : Facts K mg) (C_is_less : Cal P w K mg base "is_less" 1 m_is_less) (C_spot_of : Cal P w K mg base "spot_of" 2 m_spot_of) (C_whole : Cal P w K mg base "whole" 1 m_whole) (C_wide_turn : Cal P w K mg base "wide_turn" 3 m_wide_turn) {f : Addr} {fd : FuncData} (F : Fun K "is_crossed" "is_crossed" s_is_crossed f fd) : FnOk P w K mg base CX0 4 f fd ["p", "q", "spot"] (spD K m_is_crossed) :=
  fn_ok (body := b_is_crossed) F sc_is_crossed rfl rfl rfl (by decide) (fun cdv A outer s H E hr => by
    have S := sc_is_crossed
    have hu65 := hu65_of hr
    have hu66 := hu66_of hr
    exact (Ss_cons (S_set 3 (E_callS C_is_less hr (Ap_cons (P_e (E_idx (P_var 2) (P_e E_int))) (Ap_cons (P_v (V_call C_whole hr (A_cons (E_idx (P_var 1) (P_e E_int)) A_nil))) Ap_nil))) S.nd)
  (Ss_cons (S_if (T_cmp (op_eqD hr.units) gEq_ok (P_e (E_callS C_is_less hr (Ap_cons (P_e (E_idx (P_var 2) (P_e E_int))) (Ap_cons (P_v (V_call C_whole hr (A_cons (E_idx (P_var 0) (P_e E_int)) A_nil))) Ap_nil)))) (P_var 3) (nomark _))
  (Ss_one (S_retE E_bl))
  Ss_nil)
  (Ss_one (S_retE (E_cmp (op_eqD hr.units) gEq_ok (P_e (E_callS C_is_less hr (Ap_cons (P_e (E_glob M.c_ZERO)) (Ap_cons (P_v (V_call C_wide_turn hr (A_cons (E_v (V_call C_spot_of hr (A_cons (E_var 0) A_nil))) (A_cons (E_v (V_call C_spot_of hr (A_cons (E_var 1) A_nil))) (A_cons (E_var 2) A_nil))))) Ap_nil)))) (P_var 3) (nomark _)))))))
abbrev s_place_of : Stmt := topS 22
theorem sc_place_of : FnScope ["parcel", "spot", "sides", "crossed", "p", "q", "side"] ["parcel", "spot"] (defScope s_place_of) := ⟨rfl, rfl, rfl, by decide +kernel, rfl, by decide +kernel, by decide +kernel⟩
theorem ok_place_of (M : Facts K mg) (C_is_crossed : Cal P w K mg base "is_crossed" 4 m_is_crossed) (C_is_spot_on : Cal P w K mg base "is_spot_on" 4 m_is_spot_on) (C_sides_of : Cal P w K mg base "sides_of" 1 m_sides_of) {f : Addr} {fd : FuncData} (F : Fun K "place_of" "place_of" s_place_of f fd) : FnOk P w K mg base CX0 5 f fd ["parcel", "spot"] (spD K m_place_of) :=
  fn_ok (body := b_place_of) F sc_place_of rfl rfl rfl (by decide) (fun cdv A outer s H E hr => by
    have S := sc_place_of
    have hu65 := hu65_of hr
    have hu66 := hu66_of hr
    exact (Ss_cons (S_setV 2 (V_call C_sides_of hr (A_cons (E_var 0) A_nil)) S.nd)
  (Ss_cons (S_if (T_tru (P_e (E_bi (cr_any rfl) gAny_ok (by decide +kernel) M.m_any (Ap_cons (P_v (V_comp (own := [("p", 4), ("q", 5)]) rfl S.nd (blkOk_by (by rfl)) (Ip_seq (P_var 2)) (fun _ _ _ _ _ => (G_tp (n := 2) rfl (Gs_cons (G_nm 4 S.nd) (Gs_cons (G_nm 5 S.nd) Gs_nil)))) (fun _ _ _ _ _ => Ts_nil) (fun _ _ _ _ _ => (E_callS C_is_spot_on hr (Ap_cons (P_var 4) (Ap_cons (P_var 5) (Ap_cons (P_var 1) Ap_nil))))))) Ap_nil))))
  (Ss_one (S_retE E_str))
  Ss_nil)
  (Ss_cons (S_set 3 (E_bi call_len gLen_ok PySem.boot_len M.m_len (Ap_cons (P_v (V_comp (own := [("side", 6)]) rfl S.nd (blkOk_by (by rfl)) (Ip_seq (P_var 2)) (fun _ _ _ _ _ => (G_nm 6 S.nd)) (fun _ _ _ _ _ => (Ts_one (T_tru (P_e (E_callS C_is_crossed hr (Ap_cons (P_e (E_idx (P_var 6) (P_e E_int))) (Ap_cons (P_e (E_idx (P_var 6) (P_e E_int))) (Ap_cons (P_var 1) Ap_nil)))))))) (fun _ _ _ _ _ => (E_var 6)))) Ap_nil)) S.nd)
  (Ss_one (S_retE (E_if (T_cmp (op_eqD hr.units) gEq_ok (P_e (E_op2 op_modN gMod_ok (P_var 3) (P_e E_int))) (P_e E_int) (nomark _)) E_str E_str)))))))
abbrev s_square : Stmt := topS 24
theorem sc_square : FnScope ["one", "other"] ["one", "other"] (defScope s_square) := ⟨rfl, rfl, rfl, by decide +kernel, rfl, by decide +kernel, by decide +kernel⟩
theorem ok_square (M : Facts K mg) {f : Addr} {fd : FuncData} (F : Fun K "square" "square" s_square f fd) : FnOk P w K mg base CX0 1 f fd ["one", "other"] (spD K m_square) :=
  fn_ok (body := b_square) F sc_square rfl rfl rfl (by decide) (fun cdv A outer s H E hr => by
    have S := sc_square
    have hu65 := hu65_of hr
    have hu66 := hu66_of hr
    exact (Ss_one (S_retV (V_op2 op_addG gAdd_ok (P_e (E_op2 op_pow gPow_ok (P_e (E_op2 op_sub gSub_ok (P_e (E_idx (P_var 0) (P_e E_int))) (P_e (E_idx (P_var 1) (P_e E_int))))) (P_e E_int))) (P_e (E_op2 op_pow gPow_ok (P_e (E_op2 op_sub gSub_ok (P_e (E_idx (P_var 0) (P_e E_int))) (P_e (E_idx (P_var 1) (P_e E_int))))) (P_e E_int)))))))
abbrev s_distance_square : Stmt := topS 25
theorem sc_distance_square : FnScope ["stone", "one", "other", "along"] ["stone", "one", "other"] (defScope s_distance_square) := ⟨rfl, rfl, rfl, by decide +kernel, rfl, by decide +kernel, by decide +kernel⟩
theorem ok_distance_square (M : Facts K mg) (C_fraction : Cal P w K mg base "fraction" 1 m_fraction) (C_square : Cal P w K mg base "square" 1 m_square) (C_turn : Cal P w K mg base "turn" 1 m_turn) (C_whole : Cal P w K mg base "whole" 1 m_whole) {f : Addr} {fd : FuncData} (F : Fun K "distance_square" "distance_square" s_distance_square f fd) : FnOk P w K mg base CX0 2 f fd ["stone", "one", "other"] (spD K m_distance_square) :=
  fn_ok (body := b_distance_square) F sc_distance_square rfl rfl rfl (by decide) (fun cdv A outer s H E hr => by
    have S := sc_distance_square
    have hu65 := hu65_of hr
    have hu66 := hu66_of hr
    exact (Ss_cons (S_setV 3 (V_op2 op_addG gAdd_ok (P_e (E_op2 op_mulG gMul_ok (P_e (E_op2 op_sub gSub_ok (P_e (E_idx (P_var 0) (P_e E_int))) (P_e (E_idx (P_var 1) (P_e E_int))))) (P_e (E_op2 op_sub gSub_ok (P_e (E_idx (P_var 2) (P_e E_int))) (P_e (E_idx (P_var 1) (P_e E_int))))))) (P_e (E_op2 op_mulG gMul_ok (P_e (E_op2 op_sub gSub_ok (P_e (E_idx (P_var 0) (P_e E_int))) (P_e (E_idx (P_var 1) (P_e E_int))))) (P_e (E_op2 op_sub gSub_ok (P_e (E_idx (P_var 2) (P_e E_int))) (P_e (E_idx (P_var 1) (P_e E_int)))))))) S.nd)
  (Ss_cons (S_if (T_cmp (op_leG hr.units) gOrd_ok (P_var 3) (P_e E_int) (nomark _))
  (Ss_one (S_retV (V_call C_whole hr (A_cons (E_callS C_square hr (Ap_cons (P_var 0) (Ap_cons (P_var 1) Ap_nil))) A_nil))))
  Ss_nil)
  (Ss_cons (S_if (T_cmp (op_geG hr.units) gOrd_ok (P_var 3) (P_e (E_callS C_square hr (Ap_cons (P_var 1) (Ap_cons (P_var 2) Ap_nil)))) (nomark _))
  (Ss_one (S_retV (V_call C_whole hr (A_cons (E_callS C_square hr (Ap_cons (P_var 0) (Ap_cons (P_var 2) Ap_nil))) A_nil))))
  Ss_nil)
  (Ss_one (S_retV (V_call C_fraction hr (A_cons (E_op2 op_pow gPow_ok (P_e (E_callS C_turn hr (Ap_cons (P_var 1) (Ap_cons (P_var 2) (Ap_cons (P_var 0) Ap_nil))))) (P_e E_int)) (A_cons (E_callS C_square hr (Ap_cons (P_var 1) (Ap_cons (P_var 2) Ap_nil))) A_nil)))))))))
abbrev s_least_of : Stmt := topS 26
theorem sc_least_of : FnScope ["numbers", "found", "number"] ["numbers"] (defScope s_least_of) := ⟨rfl, rfl, rfl, by decide +kernel, rfl, by decide +kernel, by decide +kernel⟩
theorem ok_least_of (M : Facts K mg) (C_lesser : Cal P w K mg base "lesser" 2 m_lesser) {f : Addr} {fd : FuncData} (F : Fun K "least_of" "least_of" s_least_of f fd) : FnOk P w K mg base CX0 3 f fd ["numbers"] (spD K m_least_of) :=
  fn_ok (body := b_least_of) F sc_least_of rfl rfl rfl (by decide) (fun cdv A outer s H E hr => by
    have S := sc_least_of
    have hu65 := hu65_of hr
    have hu66 := hu66_of hr
    exact (Ss_cons (S_set 1 (E_idx (P_var 0) (P_e E_int)) S.nd)
  (Ss_cons (S_for [0, 2] PassesOwn.never rfl (I_seq (E_var 0)) (G_nm 2 S.nd)
  (show PSs _ _ (tS _ (b_least_of_1)) from (Ss_one (S_fz [1] (S_setV 1 (V_call C_lesser hr (A_cons (E_var 1) (A_cons (E_var 2) A_nil))) S.nd)))))
  (Ss_one (S_retVar 1)))))
abbrev s_near_square : Stmt := topS 27
theorem sc_near_square : FnScope ["one", "other", "parcel", "sides", "far", "end", "p", "q", "stone"] ["one", "other", "parcel"] (defScope s_near_square) := ⟨rfl, rfl, rfl, by decide +kernel, rfl, by decide +kernel, by decide +kernel⟩
theorem ok_near_square (M : Facts K mg) (C_distance_square : Cal P w K mg base "distance_square" 2 m_distance_square) (C_have_common : Cal P w K mg base "have_common" 3 m_have_common) (C_least_of : Cal P w K mg base "least_of" 3 m_least_of) (C_place_of : Cal P w K mg base "place_of" 5 m_place_of) (C_sides_of : Cal P w K mg base "sides_of" 1 m_sides_of) (C_spot_of : Cal P w K mg base "spot_of" 2 m_spot_of) {f : Addr} {fd : FuncData} (F : Fun K "near_square" "near_square" s_near_square f fd) : FnOk P w K mg base CX0 6 f fd ["one", "other", "parcel"] (spD K m_near_square) :=
  fn_ok (body := b_near_square) F sc_near_square rfl rfl rfl (by decide) (fun cdv A outer s H E hr => by
    have S := sc_near_square
    have hu65 := hu65_of hr
    have hu66 := hu66_of hr
    exact (Ss_cons (S_setV 3 (V_call C_sides_of hr (A_cons (E_var 2) A_nil)) S.nd)
  (Ss_cons (S_if (T_w (W_or (T_cmp (op_neD hr.units) gNe_ok (P_e (E_callS C_place_of hr (Ap_cons (P_var 2) (Ap_cons (P_v (V_call C_spot_of hr (A_cons (E_var 0) A_nil))) Ap_nil)))) (P_e E_str) (nomark _)) (W_or1 (T_tru (P_e (E_bi (cr_any rfl) gAny_ok (by decide +kernel) M.m_any (Ap_cons (P_v (V_comp (own := [("p", 6), ("q", 7)]) rfl S.nd (blkOk_by (by rfl)) (Ip_seq (P_var 3)) (fun _ _ _ _ _ => (G_tp (n := 2) rfl (Gs_cons (G_nm 6 S.nd) (Gs_cons (G_nm 7 S.nd) Gs_nil)))) (fun _ _ _ _ _ => Ts_nil) (fun _ _ _ _ _ => (E_callS C_have_common hr (Ap_cons (P_var 0) (Ap_cons (P_var 1) (Ap_cons (P_var 6) (Ap_cons (P_var 7) Ap_nil)))))))) Ap_nil)))))))
  (Ss_one (S_retE (E_glob M.c_ZERO)))
  Ss_nil)
  (Ss_cons (S_fz [3] (S_setComp2 4 (own := [("end", 5), ("p", 6), ("q", 7)]) (vs1 := [6, 7]) rfl S.nd (blkOk_by (by rfl)) (Ip_seq (P_e (E_tup (A_cons (E_var 0) (A_cons (E_var 1) A_nil))))) (fun _ _ _ _ _ => (G_nm 5 S.nd)) (fun _ _ _ _ _ => Ts_nil) (fun _ _ _ _ _ => (I_seq (E_var 3))) (fun _ _ _ _ _ => (G_tp (n := 2) rfl (Gs_cons (G_nm 6 S.nd) (Gs_cons (G_nm 7 S.nd) Gs_nil)))) (fun _ _ _ _ _ => Ts_nil) (fun _ _ _ _ _ => (E_v (V_call C_distance_square hr (A_cons (E_var 5) (A_cons (E_var 6) (A_cons (E_var 7) A_nil)))))) (sw_true rfl rfl rfl (by decide +kernel))))
  (Ss_one (S_retV (V_call C_least_of hr (A_cons (E_v (V_op2 op_addG gAdd_ok (P_var 4) (P_v (V_comp (own := [("stone", 8)]) rfl S.nd (blkOk_by (by rfl)) (Ip_seq (P_var 2)) (fun _ _ _ _ _ => (G_nm 8 S.nd)) (fun _ _ _ _ _ => Ts_nil) (fun _ _ _ _ _ => (E_v (V_call C_distance_square hr (A_cons (E_var 8) (A_cons (E_var 0) (A_cons (E_var 1) A_nil)))))))))) A_nil))))))))
abbrev s_touches : Stmt := topS 28
theorem sc_touches : FnScope ["road", "reach", "parcel", "goal", "k"] ["road", "reach", "parcel"] (defScope s_touches) := ⟨rfl, rfl, rfl, by decide +kernel, rfl, by decide +kernel, by decide +kernel⟩
theorem ok_touches (M : Facts K mg) (C_is_less : Cal P w K mg base "is_less" 1 m_is_less) (C_near_square : Cal P w K mg base "near_square" 6 m_near_square) (C_whole : Cal P w K mg base "whole" 1 m_whole) {f : Addr} {fd : FuncData} (F : Fun K "touches" "touches" s_touches f fd) : FnOk P w K mg base CX0 7 f fd ["road", "reach", "parcel"] (spD K m_touches) :=
  fn_ok (body := b_touches) F sc_touches rfl rfl rfl (by decide) (fun cdv A outer s H E hr => by
    have S := sc_touches
    have hu65 := hu65_of hr
    have hu66 := hu66_of hr
    exact (Ss_cons (S_setV 3 (V_call C_whole hr (A_cons (E_op2 op_mulG gMul_ok (P_var 1) (P_var 1)) A_nil)) S.nd)
  (Ss_one (S_retE (E_bi (cr_any rfl) gAny_ok (by decide +kernel) M.m_any (Ap_cons (P_v (V_comp (own := [("k", 4)]) rfl S.nd (blkOk_by (by rfl)) (Ip_of (I_range2 M.m_range (P_e E_int) (P_e (E_bi call_len gLen_ok PySem.boot_len M.m_len (Ap_cons (P_var 0) Ap_nil))))) (fun _ _ _ _ _ => (G_nm 4 S.nd)) (fun _ _ _ _ _ => Ts_nil) (fun _ _ _ _ _ => (E_not (E_callS C_is_less hr (Ap_cons (P_var 3) (Ap_cons (P_v (V_call C_near_square hr (A_cons (E_idx (P_var 0) (P_e (E_op2 op_sub gSub_ok (P_var 4) (P_e E_int)))) (A_cons (E_idx (P_var 0) (P_var 4)) (A_cons (E_var 2) A_nil))))) Ap_nil))))))) Ap_nil))))))
abbrev s__law_cell : Stmt := topS 30
theorem sc__law_cell : FnScope ["script", "k"] ["script", "k"] (defScope s__law_cell) := ⟨rfl, rfl, rfl, by decide +kernel, rfl, by decide +kernel, by decide +kernel⟩
theorem ok__law_cell (M : Facts K mg) {f : Addr} {fd : FuncData} (F : Fun K "_law_cell" "_law_cell" s__law_cell f fd) : FnOk P w K mg base CX0 1 f fd ["script", "k"] (spD K m__law_cell) :=
  fn_ok (body := b__law_cell) F sc__law_cell rfl rfl rfl (by decide) (fun cdv A outer s H E hr => by
    have S := sc__law_cell
    have hu65 := hu65_of hr
    have hu66 := hu66_of hr
    exact (Ss_cons (S_if (T_cmp (op_ltG hr.units) gOrd_ok (P_var 1) (P_e (E_bi call_len gLen_ok PySem.boot_len M.m_len (Ap_cons (P_var 0) Ap_nil))) (nomark _))
  (Ss_one (S_retE (E_ty call_int1 gIntT_ok (by decide +kernel) M.m_int (Ap_cons (P_e (E_idx (P_var 0) (P_var 1))) Ap_nil))))
  Ss_nil)
  (Ss_one (S_retE E_int))))
abbrev s__law_numbers : Stmt := topS 31
theorem sc__law_numbers : FnScope ["cell", "count", "limit", "found", "k", "mixed"] ["cell", "count", "limit"] (defScope s__law_numbers) := ⟨rfl, rfl, rfl, by decide +kernel, rfl, by decide +kernel, by decide +kernel⟩
theorem ok__law_numbers (M : Facts K mg) {f : Addr} {fd : FuncData} (F : Fun K "_law_numbers" "_law_numbers" s__law_numbers f fd) : FnOk P w K mg base CX0 1 f fd ["cell", "count", "limit"] (spD K m__law_numbers) :=
  fn_ok (body := b__law_numbers) F sc__law_numbers rfl rfl rfl (by decide) (fun cdv A outer s H E hr => by
    have S := sc__law_numbers
    have hu65 := hu65_of hr
    have hu66 := hu66_of hr
    exact (Ss_cons (S_setV 3 (V_lst A_nil) S.nd)
  (Ss_cons (S_if (T_cmp (op_geG hr.units) gOrd_ok (P_var 0) (P_e (E_op2 op_pow gPow_ok (P_e E_int) (P_e E_int))) (nomark _))
  (Ss_cons (S_for [1, 4, 5] PassesOwn.never rfl (I_range1 M.m_range (P_var 1)) (G_nm 4 S.nd)
  (show PSs _ _ (tS _ (b__law_numbers_1)) from (Ss_cons (S_app 3 (E_op2 op_modN gMod_ok (P_e (E_ty call_int1 gIntT_ok (by decide +kernel) M.m_int (Ap_cons (P_var 0) Ap_nil))) (P_var 2)))
  (Ss_one (S_set 0 (E_op2 op_divG gDiv_ok (P_e (E_ty call_int1 gIntT_ok (by decide +kernel) M.m_int (Ap_cons (P_var 0) Ap_nil))) (P_var 2)) S.nd)))))
  (Ss_one (S_retVar 3)))
  Ss_nil)
  (Ss_cons (S_for [1, 4, 5] PassesOwn.never rfl (I_range1 M.m_range (P_var 1)) (G_nm 4 S.nd)
  (show PSs _ _ (tS _ (b__law_numbers_2)) from (Ss_cons (S_set 5 (E_op2 op_modN gMod_ok (P_e (E_ty call_int1 gIntT_ok (by decide +kernel) M.m_int (Ap_cons (P_v (V_op2 op_addG gAdd_ok (P_v (V_op2 op_addG gAdd_ok (P_e (E_op2 op_mulG gMul_ok (P_var 0) (P_e E_int))) (P_e (E_op2 op_mulG gMul_ok (P_var 4) (P_e E_int))))) (P_e E_int))) Ap_nil))) (P_e E_int)) S.nd)
  (Ss_cons (S_set 5 (E_op2 op_modN gMod_ok (P_e (E_ty call_int1 gIntT_ok (by decide +kernel) M.m_int (Ap_cons (P_v (V_op2 op_addG gAdd_ok (P_v (V_op2 op_addG gAdd_ok (P_v (V_op2 op_addG gAdd_ok (P_e (E_op2 op_mulG gMul_ok (P_var 5) (P_var 5))) (P_e (E_op2 op_mulG gMul_ok (P_var 5) (P_e E_int))))) (P_e (E_op2 op_mulG gMul_ok (P_var 4) (P_e E_int))))) (P_e E_int))) Ap_nil))) (P_e E_int)) S.nd)
  (Ss_one (S_app 3 (E_op2 op_modN gMod_ok (P_e (E_ty call_int1 gIntT_ok (by decide +kernel) M.m_int (Ap_cons (P_e (E_op2 op_divG gDiv_ok (P_var 5) (P_e E_int))) Ap_nil))) (P_var 2))))))))
  (Ss_one (S_retVar 3))))))
abbrev s__law_common : Stmt := topS 32
theorem sc__law_common : FnScope ["one", "other", "step"] ["one", "other"] (defScope s__law_common) := ⟨rfl, rfl, rfl, by decide +kernel, rfl, by decide +kernel, by decide +kernel⟩
theorem ok__law_common (M : Facts K mg) {f : Addr} {fd : FuncData} (F : Fun K "_law_common" "_law_common" s__law_common f fd) : FnOk P w K mg base CX0 1 f fd ["one", "other"] (spD K m__law_common) :=
  fn_ok (body := b__law_common) F sc__law_common rfl rfl rfl (by decide) (fun cdv A outer s H E hr => by
    have S := sc__law_common
    have hu65 := hu65_of hr
    have hu66 := hu66_of hr
    exact (Ss_cons (S_set 0 (E_bi call_abs gAbs_ok (by decide +kernel) M.m_abs (Ap_cons (P_var 0) Ap_nil)) S.nd)
  (Ss_cons (S_set 1 (E_bi call_abs gAbs_ok (by decide +kernel) M.m_abs (Ap_cons (P_var 1) Ap_nil)) S.nd)
  (Ss_cons (S_for [2] PassesOwn.never rfl (I_range1 M.m_range (P_e E_int)) (G_nm 2 S.nd)
  (show PSs _ _ (tS _ (b__law_common_1)) from (Ss_cons (S_if (T_cmp (op_eqD hr.units) gEq_ok (P_var 1) (P_e E_int) (nomark _))
  (Ss_one (S_retVar 0))
  Ss_nil)
  (Ss_one (S_par 0 1 rfl S.nd (A_cons (E_var 1) (A_cons (E_op2 op_modN gMod_ok (P_e (E_ty call_int1 gIntT_ok (by decide +kernel) M.m_int (Ap_cons (P_var 0) Ap_nil))) (P_var 1)) A_nil)))))))
  (Ss_one (S_retVar 0))))))
abbrev s__law_frac : Stmt := topS 33
theorem sc__law_frac : FnScope ["top", "bottom", "common"] ["top", "bottom"] (defScope s__law_frac) := ⟨rfl, rfl, rfl, by decide +kernel, rfl, by decide +kernel, by decide +kernel⟩
theorem ok__law_frac (M : Facts K mg) (C__law_common : Cal P w K mg base "_law_common" 1 m__law_common) {f : Addr} {fd : FuncData} (F : Fun K "_law_frac" "_law_frac" s__law_frac f fd) : FnOk P w K mg base CX0 2 f fd ["top", "bottom"] (spD K m__law_frac) :=
  fn_ok (body := b__law_frac) F sc__law_frac rfl rfl rfl (by decide) (fun cdv A outer s H E hr => by
    have S := sc__law_frac
    have hu65 := hu65_of hr
    have hu66 := hu66_of hr
    exact (Ss_cons (S_if (T_cmp (op_ltG hr.units) gOrd_ok (P_var 1) (P_e E_int) (nomark _))
  (Ss_cons (S_set 0 (E_op2 op_sub gSub_ok (P_e E_int) (P_var 0)) S.nd)
  (Ss_one (S_set 1 (E_op2 op_sub gSub_ok (P_e E_int) (P_var 1)) S.nd)))
  Ss_nil)
  (Ss_cons (S_setV 2 (V_call C__law_common hr (A_cons (E_var 0) (A_cons (E_var 1) A_nil))) S.nd)
  (Ss_one (S_retE (E_tup (A_cons (E_op2 op_divG gDiv_ok (P_var 0) (P_var 2)) (A_cons (E_op2 op_divG gDiv_ok (P_var 1) (P_var 2)) A_nil))))))))
abbrev s__law_plus : Stmt := topS 34
theorem sc__law_plus : FnScope ["one", "other"] ["one", "other"] (defScope s__law_plus) := ⟨rfl, rfl, rfl, by decide +kernel, rfl, by decide +kernel, by decide +kernel⟩
theorem ok__law_plus (M : Facts K mg) (C__law_frac : Cal P w K mg base "_law_frac" 2 m__law_frac) {f : Addr} {fd : FuncData} (F : Fun K "_law_plus" "_law_plus" s__law_plus f fd) : FnOk P w K mg base CX0 3 f fd ["one", "other"] (spD K m__law_plus) :=
  fn_ok (body := b__law_plus) F sc__law_plus rfl rfl rfl (by decide) (fun cdv A outer s H E hr => by
    have S := sc__law_plus
    have hu65 := hu65_of hr
    have hu66 := hu66_of hr
    exact (Ss_one (S_retV (V_call C__law_frac hr (A_cons (E_v (V_op2 op_addG gAdd_ok (P_e (E_op2 op_mulG gMul_ok (P_e (E_idx (P_var 0) (P_e E_int))) (P_e (E_idx (P_var 1) (P_e E_int))))) (P_e (E_op2 op_mulG gMul_ok (P_e (E_idx (P_var 1) (P_e E_int))) (P_e (E_idx (P_var 0) (P_e E_int))))))) (A_cons (E_op2 op_mulG gMul_ok (P_e (E_idx (P_var 0) (P_e E_int))) (P_e (E_idx (P_var 1) (P_e E_int)))) A_nil))))))
abbrev s__law_minus : Stmt := topS 35
theorem sc__law_minus : FnScope ["one", "other"] ["one", "other"] (defScope s__law_minus) := ⟨rfl, rfl, rfl, by decide +kernel, rfl, by decide +kernel, by decide +kernel⟩
theorem ok__law_minus (M : Facts K mg) (C__law_frac : Cal P w K mg base "_law_frac" 2 m__law_frac) {f : Addr} {fd : FuncData} (F : Fun K "_law_minus" "_law_minus" s__law_minus f fd) : FnOk P w K mg base CX0 3 f fd ["one", "other"] (spD K m__law_minus) :=
  fn_ok (body := b__law_minus) F sc__law_minus rfl rfl rfl (by decide) (fun cdv A outer s H E hr => by
    have S := sc__law_minus
    have hu65 := hu65_of hr
    have hu66 := hu66_of hr
    exact (Ss_one (S_retV (V_call C__law_frac hr (A_cons (E_op2 op_sub gSub_ok (P_e (E_op2 op_mulG gMul_ok (P_e (E_idx (P_var 0) (P_e E_int))) (P_e (E_idx (P_var 1) (P_e E_int))))) (P_e (E_op2 op_mulG gMul_ok (P_e (E_idx (P_var 1) (P_e E_int))) (P_e (E_idx (P_var 0) (P_e E_int)))))) (A_cons (E_op2 op_mulG gMul_ok (P_e (E_idx (P_var 0) (P_e E_int))) (P_e (E_idx (P_var 1) (P_e E_int)))) A_nil))))))
abbrev s__law_times : Stmt := topS 36
theorem sc__law_times : FnScope ["one", "other"] ["one", "other"] (defScope s__law_times) := ⟨rfl, rfl, rfl, by decide +kernel, rfl, by decide +kernel, by decide +kernel⟩
theorem ok__law_times (M : Facts K mg) (C__law_frac : Cal P w K mg base "_law_frac" 2 m__law_frac) {f : Addr} {fd : FuncData} (F : Fun K "_law_times" "_law_times" s__law_times f fd) : FnOk P w K mg base CX0 3 f fd ["one", "other"] (spD K m__law_times) :=
  fn_ok (body := b__law_times) F sc__law_times rfl rfl rfl (by decide) (fun cdv A outer s H E hr => by
    have S := sc__law_times
    have hu65 := hu65_of hr
    have hu66 := hu66_of hr
    exact (Ss_one (S_retV (V_call C__law_frac hr (A_cons (E_op2 op_mulG gMul_ok (P_e (E_idx (P_var 0) (P_e E_int))) (P_e (E_idx (P_var 1) (P_e E_int)))) (A_cons (E_op2 op_mulG gMul_ok (P_e (E_idx (P_var 0) (P_e E_int))) (P_e (E_idx (P_var 1) (P_e E_int)))) A_nil))))))
abbrev s__law_less : Stmt := topS 37
theorem sc__law_less : FnScope ["one", "other"] ["one", "other"] (defScope s__law_less) := ⟨rfl, rfl, rfl, by decide +kernel, rfl, by decide +kernel, by decide +kernel⟩
theorem ok__law_less (M : Facts K mg) {f : Addr} {fd : FuncData} (F : Fun K "_law_less" "_law_less" s__law_less f fd) : FnOk P w K mg base CX0 1 f fd ["one", "other"] (spD K m__law_less) :=
  fn_ok (body := b__law_less) F sc__law_less rfl rfl rfl (by decide) (fun cdv A outer s H E hr => by
    have S := sc__law_less
    have hu65 := hu65_of hr
    have hu66 := hu66_of hr
    exact (Ss_one (S_retE (E_cmp (op_ltG hr.units) gOrd_ok (P_e (E_op2 op_mulG gMul_ok (P_e (E_idx (P_var 0) (P_e E_int))) (P_e (E_idx (P_var 1) (P_e E_int))))) (P_e (E_op2 op_mulG gMul_ok (P_e (E_idx (P_var 1) (P_e E_int))) (P_e (E_idx (P_var 0) (P_e E_int))))) (nomark _)))))
abbrev s__law_turn : Stmt := topS 38
theorem sc__law_turn : FnScope ["a", "b", "c"] ["a", "b", "c"] (defScope s__law_turn) := ⟨rfl, rfl, rfl, by decide +kernel, rfl, by decide +kernel, by decide +kernel⟩
theorem ok__law_turn (M : Facts K mg) {f : Addr} {fd : FuncData} (F : Fun K "_law_turn" "_law_turn" s__law_turn f fd) : FnOk P w K mg base CX0 1 f fd ["a", "b", "c"] (spD K m__law_turn) :=
  fn_ok (body := b__law_turn) F sc__law_turn rfl rfl rfl (by decide) (fun cdv A outer s H E hr => by
    have S := sc__law_turn
    have hu65 := hu65_of hr
    have hu66 := hu66_of hr
    exact (Ss_one (S_retE (E_op2 op_sub gSub_ok (P_e (E_op2 op_mulG gMul_ok (P_e (E_op2 op_sub gSub_ok (P_e (E_idx (P_var 1) (P_e E_int))) (P_e (E_idx (P_var 0) (P_e E_int))))) (P_e (E_op2 op_sub gSub_ok (P_e (E_idx (P_var 2) (P_e E_int))) (P_e (E_idx (P_var 0) (P_e E_int))))))) (P_e (E_op2 op_mulG gMul_ok (P_e (E_op2 op_sub gSub_ok (P_e (E_idx (P_var 1) (P_e E_int))) (P_e (E_idx (P_var 0) (P_e E_int))))) (P_e (E_op2 op_sub gSub_ok (P_e (E_idx (P_var 2) (P_e E_int))) (P_e (E_idx (P_var 0) (P_e E_int)))))))))))
abbrev s__law_same : Stmt := topS 39
theorem sc__law_same : FnScope ["told", "due", "k"] ["told", "due"] (defScope s__law_same) := ⟨rfl, rfl, rfl, by decide +kernel, rfl, by decide +kernel, by decide +kernel⟩
theorem ok__law_same (M : Facts K mg) {f : Addr} {fd : FuncData} (F : Fun K "_law_same" "_law_same" s__law_same f fd) (gx : mg "_law_same" = some (.ref f)) (bx : Binds K fd ["told", "due"] []) : ∀ n, FnOk P w K mg base CX0 (n + 0) f fd ["told", "due"] (spD K (m__law_same n))
  | 0 => fn_bad
  | n + 1 => by
    have C__law_same : Cal P w K mg base "_law_same" (n + 0) (m__law_same n) := cal_mk F gx bx (ok__law_same M F gx bx n)
    exact fn_ok (body := b__law_same (m__law_same n)) F sc__law_same rfl rfl rfl (by decide) (fun cdv A outer s H E hr => by
    have hr : Room (n + 0) _ := hr
    have S := sc__law_same
    have hu65 := hu65_of hr
    have hu66 := hu66_of hr
    exact (Ss_cons (S_if (T_tru (P_e (E_isi (T := "list") (P_var 1) M.m_isinstance M.m_list (by decide +kernel))))
  (Ss_one (S_if (T_w (W_or (T_not (T_tru (P_e (E_isi (T := "list") (P_var 0) M.m_isinstance M.m_list (by decide +kernel))))) (W_or1 (T_cmp (op_neD hr.units) gNe_ok (P_e (E_bi call_len gLen_ok PySem.boot_len M.m_len (Ap_cons (P_var 0) Ap_nil))) (P_e (E_bi call_len gLen_ok PySem.boot_len M.m_len (Ap_cons (P_var 1) Ap_nil))) (nomark _)))))
  (Ss_one (S_retE E_bl))
  Ss_nil))
  (Ss_one (S_if (T_tru (P_e (E_isi (T := "tuple") (P_var 1) M.m_isinstance M.m_tuple (by decide +kernel))))
  (Ss_one (S_if (T_w (W_or (T_not (T_tru (P_e (E_isi (T := "tuple") (P_var 0) M.m_isinstance M.m_tuple (by decide +kernel))))) (W_or1 (T_cmp (op_neD hr.units) gNe_ok (P_e (E_bi call_len gLen_ok PySem.boot_len M.m_len (Ap_cons (P_var 0) Ap_nil))) (P_e (E_bi call_len gLen_ok PySem.boot_len M.m_len (Ap_cons (P_var 1) Ap_nil))) (nomark _)))))
  (Ss_one (S_retE E_bl))
  Ss_nil))
  (Ss_one (S_if (T_cmp op_isG gIs_ok (P_var 1) (P_e E_non) (nomark _))
  (Ss_one (S_retE (E_cmp op_isG gIs_ok (P_var 0) (P_e E_non) (nomark _))))
  (Ss_one (S_if (T_tru (P_e (E_isi (T := "bool") (P_var 1) M.m_isinstance M.m_bool (by decide +kernel))))
  (Ss_one (S_retE (E_and (E_isi (T := "bool") (P_var 0) M.m_isinstance M.m_bool (by decide +kernel)) (E_one (E_cmp (op_eqD hr.units) gEq_ok (P_var 0) (P_var 1) (nomark _))))))
  (Ss_one (S_if (T_tru (P_e (E_isi (T := "int") (P_var 1) M.m_isinstance M.m_int (by decide +kernel))))
  (Ss_one (S_retE (E_and (E_isi (T := "int") (P_var 0) M.m_isinstance M.m_int (by decide +kernel)) (E_and (E_not (E_isi (T := "bool") (P_var 0) M.m_isinstance M.m_bool (by decide +kernel))) (E_one (E_cmp (op_eqD hr.units) gEq_ok (P_var 0) (P_var 1) (nomark _)))))))
  (Ss_one (S_retE (E_and (E_isi (T := "str") (P_var 0) M.m_isinstance M.m_str (by decide +kernel)) (E_one (E_cmp (op_eqD hr.units) gEq_ok (P_var 0) (P_var 1) (nomark _)))))))))))))))
  (Ss_cons (S_for [2] PassesOwn.never rfl (I_range1 M.m_range (P_e (E_bi call_len gLen_ok PySem.boot_len M.m_len (Ap_cons (P_var 1) Ap_nil)))) (G_nm 2 S.nd)
  (show PSs _ _ (tS _ (b__law_same_1 (m__law_same n))) from (Ss_one (S_if (T_not (T_tru (P_e (E_callS C__law_same hr (Ap_cons (P_e (E_idx (P_var 0) (P_var 2))) (Ap_cons (P_e (E_idx (P_var 1) (P_var 2))) Ap_nil)) (by omega)))))
  (Ss_one (S_retE E_bl))
  Ss_nil))))
  (Ss_one (S_retE E_bl)))))
abbrev s__law_spot : Stmt := topS 40
theorem sc__law_spot : FnScope ["stone"] ["stone"] (defScope s__law_spot) := ⟨rfl, rfl, rfl, by decide +kernel, rfl, by decide +kernel, by decide +kernel⟩
theorem ok__law_spot (M : Facts K mg) {f : Addr} {fd : FuncData} (F : Fun K "_law_spot" "_law_spot" s__law_spot f fd) : FnOk P w K mg base CX0 1 f fd ["stone"] (spD K m__law_spot) :=
  fn_ok (body := b__law_spot) F sc__law_spot rfl rfl rfl (by decide) (fun cdv A outer s H E hr => by
    have S := sc__law_spot
    have hu65 := hu65_of hr
    have hu66 := hu66_of hr
    exact (Ss_one (S_retE (E_tup (A_cons (E_tup (A_cons (E_idx (P_var 0) (P_e E_int)) (A_cons E_int A_nil))) (A_cons (E_tup (A_cons (E_idx (P_var 0) (P_e E_int)) (A_cons E_int A_nil))) A_nil))))))
abbrev s__law_begun : Stmt := topS 41
theorem sc__law_begun : FnScope ["ring", "at"] ["ring"] (defScope s__law_begun) := ⟨rfl, rfl, rfl, by decide +kernel, rfl, by decide +kernel, by decide +kernel⟩
theorem ok__law_begun (M : Facts K mg) {f : Addr} {fd : FuncData} (F : Fun K "_law_begun" "_law_begun" s__law_begun f fd) : FnOk P w K mg base CX0 1 f fd ["ring"] (spD K m__law_begun) :=
  fn_ok (body := b__law_begun) F sc__law_begun rfl rfl rfl (by decide) (fun cdv A outer s H E hr => by
    have S := sc__law_begun
    have hu65 := hu65_of hr
    have hu66 := hu66_of hr
    exact (Ss_cons (S_set 1 (E_index hu65 (P_var 0) (P_e (E_bi (cr_minD hu66 rfl) gBest_ok (by decide +kernel) M.m_min (Ap_cons (P_var 0) Ap_nil)))) S.nd)
  (Ss_one (S_retV (V_op2 op_addG gAdd_ok (P_v (V_sl (P_var 0) (O_some (P_var 1)) O_none)) (P_v (V_sl (P_var 0) (O_some (P_e E_int)) (O_some (P_var 1)))))))))
abbrev s__law_shape : Stmt := topS 42
theorem sc__law_shape : FnScope ["draws", "at", "kind", "w", "h"] ["draws", "at"] (defScope s__law_shape) := ⟨rfl, rfl, rfl, by decide +kernel, rfl, by decide +kernel, by decide +kernel⟩
theorem ok__law_shape (M : Facts K mg) {f : Addr} {fd : FuncData} (F : Fun K "_law_shape" "_law_shape" s__law_shape f fd) : FnOk P w K mg base CX0 1 f fd ["draws", "at"] (spD K m__law_shape) :=
  fn_ok (body := b__law_shape) F sc__law_shape rfl rfl rfl (by decide) (fun cdv A outer s H E hr => by
    have S := sc__law_shape
    have hu65 := hu65_of hr
    have hu66 := hu66_of hr
    exact (Ss_cons (S_set 2 (E_op2 op_modN gMod_ok (P_e (E_idx (P_var 0) (P_var 1))) (P_e E_int)) S.nd)
  (show PSs _ _ (tS _ (b__law_shape_t1)) from (Ss_cons (S_setV 3 (V_op2 op_addG gAdd_ok (P_e E_int) (P_e (E_op2 op_modN gMod_ok (P_e (E_idx (P_var 0) (P_v (V_op2 op_addG gAdd_ok (P_var 1) (P_e E_int))))) (P_e E_int)))) S.nd)
  (show PSs _ _ (tS _ (b__law_shape_t2)) from (Ss_cons (S_setV 4 (V_op2 op_addG gAdd_ok (P_e E_int) (P_e (E_op2 op_modN gMod_ok (P_e (E_op2 op_divG gDiv_ok (P_e (E_idx (P_var 0) (P_v (V_op2 op_addG gAdd_ok (P_var 1) (P_e E_int))))) (P_e E_int))) (P_e E_int)))) S.nd)
  (show PSs _ _ (tS _ (b__law_shape_t3)) from (Ss_cons (S_if (T_cmp (op_eqD hr.units) gEq_ok (P_var 2) (P_e E_int) (nomark _))
  (Ss_one (S_fz [3, 4] (S_retV (V_lst (A_cons (E_tup (A_cons E_int (A_cons E_int A_nil))) (A_cons (E_tup (A_cons (E_var 3) (A_cons E_int A_nil))) (A_cons (E_tup (A_cons (E_var 3) (A_cons (E_var 4) A_nil))) (A_cons (E_tup (A_cons E_int (A_cons (E_var 4) A_nil))) A_nil))))))))
  Ss_nil)
  (show PSs _ _ (tS _ (b__law_shape_t4)) from (Ss_cons (S_if (T_cmp (op_eqD hr.units) gEq_ok (P_var 2) (P_e E_int) (nomark _))
  (Ss_one (S_fz [3, 4] (S_retV (V_lst (A_cons (E_tup (A_cons E_int (A_cons E_int A_nil))) (A_cons (E_tup (A_cons (E_var 3) (A_cons E_int A_nil))) (A_cons (E_tup (A_cons (E_var 3) (A_cons E_int A_nil))) (A_cons (E_tup (A_cons E_int (A_cons E_int A_nil))) (A_cons (E_tup (A_cons E_int (A_cons (E_var 4) A_nil))) (A_cons (E_tup (A_cons E_int (A_cons (E_var 4) A_nil))) A_nil))))))))))
  Ss_nil)
  (show PSs _ _ (tS _ (b__law_shape_t5)) from (Ss_cons (S_if (T_cmp (op_eqD hr.units) gEq_ok (P_var 2) (P_e E_int) (nomark _))
  (Ss_one (S_fz [4] (S_retV (V_lst (A_cons (E_tup (A_cons E_int (A_cons E_int A_nil))) (A_cons (E_tup (A_cons E_int (A_cons E_int A_nil))) (A_cons (E_tup (A_cons E_int (A_cons (E_var 4) A_nil))) (A_cons (E_tup (A_cons E_int (A_cons (E_var 4) A_nil))) (A_cons (E_tup (A_cons E_int (A_cons E_int A_nil))) (A_cons (E_tup (A_cons E_int (A_cons E_int A_nil))) (A_cons (E_tup (A_cons E_int (A_cons (E_var 4) A_nil))) (A_cons (E_tup (A_cons E_int (A_cons (E_var 4) A_nil))) A_nil))))))))))))
  Ss_nil)
  (show PSs _ _ (tS _ (b__law_shape_t6)) from (Ss_cons (S_if (T_cmp (op_eqD hr.units) gEq_ok (P_var 2) (P_e E_int) (nomark _))
  (Ss_one (S_fz [3, 4] (S_retV (V_lst (A_cons (E_tup (A_cons E_int (A_cons E_int A_nil))) (A_cons (E_tup (A_cons E_int (A_cons E_int A_nil))) (A_cons (E_tup (A_cons (E_var 3) (A_cons E_int A_nil))) (A_cons (E_tup (A_cons (E_var 3) (A_cons (E_var 4) A_nil))) (A_cons (E_tup (A_cons E_int (A_cons (E_var 4) A_nil))) A_nil)))))))))
  Ss_nil)
  (show PSs _ _ (tS _ (b__law_shape_t7)) from (Ss_cons (S_if (T_cmp (op_eqD hr.units) gEq_ok (P_var 2) (P_e E_int) (nomark _))
  (Ss_one (S_fz [4] (S_retV (V_lst (A_cons (E_tup (A_cons E_int (A_cons E_int A_nil))) (A_cons (E_tup (A_cons E_int (A_cons E_int A_nil))) (A_cons (E_tup (A_cons E_int (A_cons E_int A_nil))) (A_cons (E_tup (A_cons E_int (A_cons E_int A_nil))) (A_cons (E_tup (A_cons E_int (A_cons (E_var 4) A_nil))) (A_cons (E_tup (A_cons E_int (A_cons (E_var 4) A_nil))) (A_cons (E_tup (A_cons E_int (A_cons E_int A_nil))) (A_cons (E_tup (A_cons E_int (A_cons E_int A_nil))) A_nil))))))))))))
  Ss_nil)
  (show PSs _ _ (tS _ (b__law_shape_t8)) from (Ss_cons (S_if (T_cmp (op_eqD hr.units) gEq_ok (P_var 2) (P_e E_int) (nomark _))
  (Ss_one (S_fz [3] (S_retV (V_lst (A_cons (E_tup (A_cons E_int (A_cons E_int A_nil))) (A_cons (E_tup (A_cons (E_var 3) (A_cons E_int A_nil))) (A_cons (E_tup (A_cons (E_var 3) (A_cons E_int A_nil))) (A_cons (E_tup (A_cons E_int (A_cons E_int A_nil))) (A_cons (E_tup (A_cons E_int (A_cons E_int A_nil))) (A_cons (E_tup (A_cons (E_var 3) (A_cons E_int A_nil))) (A_cons (E_tup (A_cons (E_var 3) (A_cons E_int A_nil))) (A_cons (E_tup (A_cons E_int (A_cons E_int A_nil))) A_nil))))))))))))
  Ss_nil)
  (show PSs _ _ (tS _ (b__law_shape_t9)) from (Ss_one (S_retV (V_lst (A_cons (E_tup (A_cons E_int (A_cons E_int A_nil))) (A_cons (E_tup (A_cons E_int (A_cons E_int A_nil))) (A_cons (E_tup (A_cons E_int (A_cons E_int A_nil))) (A_cons (E_tup (A_cons E_int (A_cons E_int A_nil))) A_nil))))))))))))))))))))))))))
abbrev s__law_ring : Stmt := topS 43
theorem sc__law_ring : FnScope ["draws", "at", "one", "other", "x", "y", "found", "p", "q"] ["draws", "at"] (defScope s__law_ring) := ⟨rfl, rfl, rfl, by decide +kernel, rfl, by decide +kernel, by decide +kernel⟩
theorem ok__law_ring (M : Facts K mg) (C__law_begun : Cal P w K mg base "_law_begun" 1 m__law_begun) (C__law_shape : Cal P w K mg base "_law_shape" 1 m__law_shape) {f : Addr} {fd : FuncData} (F : Fun K "_law_ring" "_law_ring" s__law_ring f fd) : FnOk P w K mg base CX0 2 f fd ["draws", "at"] (spD K m__law_ring) :=
  fn_ok (body := b__law_ring) F sc__law_ring rfl rfl rfl (by decide) (fun cdv A outer s H E hr => by
    have S := sc__law_ring
    have hu65 := hu65_of hr
    have hu66 := hu66_of hr
    exact (Ss_cons (S_set 2 (E_op2 op_modN gMod_ok (P_e (E_idx (P_var 0) (P_v (V_op2 op_addG gAdd_ok (P_var 1) (P_e E_int))))) (P_e E_int)) S.nd)
  (show PSs _ _ (tS _ (b__law_ring_t1)) from (Ss_cons (S_set 3 (E_op2 op_modN gMod_ok (P_e (E_op2 op_divG gDiv_ok (P_e (E_idx (P_var 0) (P_v (V_op2 op_addG gAdd_ok (P_var 1) (P_e E_int))))) (P_e E_int))) (P_e E_int)) S.nd)
  (show PSs _ _ (tS _ (b__law_ring_t2)) from (Ss_cons (S_set 4 (E_op2 op_sub gSub_ok (P_e (E_op2 op_modN gMod_ok (P_e (E_idx (P_var 0) (P_v (V_op2 op_addG gAdd_ok (P_var 1) (P_e E_int))))) (P_e E_int))) (P_e E_int)) S.nd)
  (show PSs _ _ (tS _ (b__law_ring_t3)) from (Ss_cons (S_set 5 (E_op2 op_sub gSub_ok (P_e (E_op2 op_modN gMod_ok (P_e (E_op2 op_divG gDiv_ok (P_e (E_idx (P_var 0) (P_v (V_op2 op_addG gAdd_ok (P_var 1) (P_e E_int))))) (P_e E_int))) (P_e E_int))) (P_e E_int)) S.nd)
  (show PSs _ _ (tS _ (b__law_ring_t4)) from (Ss_cons (S_setComp 6 (own := [("p", 7), ("q", 8)]) rfl S.nd (blkOk_by (by rfl)) (Ip_seq (P_v (V_call C__law_shape hr (A_cons (E_var 0) (A_cons (E_var 1) A_nil))))) (fun _ _ _ _ _ => (G_tp (n := 2) rfl (Gs_cons (G_nm 7 S.nd) (Gs_cons (G_nm 8 S.nd) Gs_nil)))) (fun _ _ _ _ _ => Ts_nil) (fun _ _ _ _ _ => (E_tup (A_cons (E_v (V_op2 op_addG gAdd_ok (P_v (V_op2 op_addG gAdd_ok (P_var 7) (P_e (E_op2 op_mulG gMul_ok (P_var 2) (P_var 8))))) (P_var 4))) (A_cons (E_v (V_op2 op_addG gAdd_ok (P_v (V_op2 op_addG gAdd_ok (P_e (E_op2 op_mulG gMul_ok (P_var 3) (P_var 7))) (P_e (E_op2 op_mulG gMul_ok (P_v (V_op2 op_addG gAdd_ok (P_e E_int) (P_e (E_op2 op_mulG gMul_ok (P_var 2) (P_var 3))))) (P_var 8))))) (P_var 5))) A_nil)))) (sw_true rfl rfl rfl (by decide +kernel)))
  (show PSs _ _ (tS _ (b__law_ring_t5)) from (Ss_cons (S_if (T_cmp (op_eqD hr.units) gEq_ok (P_e (E_op2 op_modN gMod_ok (P_e (E_idx (P_var 0) (P_var 1))) (P_e E_int))) (P_e E_int) (nomark _))
  (Ss_one (S_setComp 6 (own := [("p", 7), ("q", 8)]) rfl S.nd (blkOk_by (by rfl)) (Ip_seq (P_v (V_lst (A_cons (E_tup (A_cons E_int (A_cons E_int A_nil))) (A_cons (E_tup (A_cons (E_v (V_op2 op_addG gAdd_ok (P_e E_int) (P_e (E_op2 op_divG gDiv_ok (P_var 2) (P_e E_int))))) (A_cons E_int A_nil))) (A_cons (E_tup (A_cons E_int (A_cons E_int A_nil))) (A_cons (E_tup (A_cons E_int (A_cons E_int A_nil))) (A_cons (E_tup (A_cons E_int (A_cons (E_v (V_op2 op_addG gAdd_ok (P_e E_int) (P_var 3))) A_nil))) A_nil)))))))) (fun _ _ _ _ _ => (G_tp (n := 2) rfl (Gs_cons (G_nm 7 S.nd) (Gs_cons (G_nm 8 S.nd) Gs_nil)))) (fun _ _ _ _ _ => Ts_nil) (fun _ _ _ _ _ => (E_tup (A_cons (E_v (V_op2 op_addG gAdd_ok (P_var 7) (P_var 4))) (A_cons (E_v (V_op2 op_addG gAdd_ok (P_var 8) (P_var 5))) A_nil)))) (sw_true rfl rfl rfl (by decide +kernel))))
  Ss_nil)
  (show PSs _ _ (tS _ (b__law_ring_t6)) from (Ss_cons (S_if (T_cmp (op_eqD hr.units) gEq_ok (P_e (E_op2 op_modN gMod_ok (P_e (E_idx (P_var 0) (P_var 1))) (P_e E_int))) (P_e E_int) (nomark _))
  (Ss_one (S_setComp 6 (own := [("p", 7), ("q", 8)]) rfl S.nd (blkOk_by (by rfl)) (Ip_seq (P_v (V_lst (A_cons (E_tup (A_cons E_int (A_cons E_int A_nil))) (A_cons (E_tup (A_cons (E_v (V_op2 op_addG gAdd_ok (P_e E_int) (P_var 2))) (A_cons (E_op2 op_sub gSub_ok (P_e E_int) (P_var 3)) A_nil))) (A_cons (E_tup (A_cons E_int (A_cons E_int A_nil))) A_nil)))))) (fun _ _ _ _ _ => (G_tp (n := 2) rfl (Gs_cons (G_nm 7 S.nd) (Gs_cons (G_nm 8 S.nd) Gs_nil)))) (fun _ _ _ _ _ => Ts_nil) (fun _ _ _ _ _ => (E_tup (A_cons (E_v (V_op2 op_addG gAdd_ok (P_var 7) (P_var 4))) (A_cons (E_v (V_op2 op_addG gAdd_ok (P_var 8) (P_var 5))) A_nil)))) (sw_true rfl rfl rfl (by decide +kernel))))
  Ss_nil)
  (show PSs _ _ (tS _ (b__law_ring_t7)) from (Ss_one (S_fz [6] (S_retV (V_call C__law_begun hr (A_cons (E_var 6) A_nil))))))))))))))))))))
abbrev s__law_on : Stmt := topS 44
theorem sc__law_on : FnScope ["p", "q", "stone"] ["p", "q", "stone"] (defScope s__law_on) := ⟨rfl, rfl, rfl, by decide +kernel, rfl, by decide +kernel, by decide +kernel⟩
theorem ok__law_on (M : Facts K mg) (C__law_turn : Cal P w K mg base "_law_turn" 1 m__law_turn) {f : Addr} {fd : FuncData} (F : Fun K "_law_on" "_law_on" s__law_on f fd) : FnOk P w K mg base CX0 2 f fd ["p", "q", "stone"] (spD K m__law_on) :=
  fn_ok (body := b__law_on) F sc__law_on rfl rfl rfl (by decide) (fun cdv A outer s H E hr => by
    have S := sc__law_on
    have hu65 := hu65_of hr
    have hu66 := hu66_of hr
    exact (Ss_cons (S_if (T_cmp (op_neD hr.units) gNe_ok (P_e (E_callS C__law_turn hr (Ap_cons (P_var 0) (Ap_cons (P_var 1) (Ap_cons (P_var 2) Ap_nil))))) (P_e E_int) (nomark _))
  (Ss_one (S_retE E_bl))
  Ss_nil)
  (Ss_one (S_retE (E_cmp (op_leG hr.units) gOrd_ok (P_v (V_op2 op_addG gAdd_ok (P_e (E_op2 op_mulG gMul_ok (P_e (E_op2 op_sub gSub_ok (P_e (E_idx (P_var 2) (P_e E_int))) (P_e (E_idx (P_var 0) (P_e E_int))))) (P_e (E_op2 op_sub gSub_ok (P_e (E_idx (P_var 2) (P_e E_int))) (P_e (E_idx (P_var 1) (P_e E_int))))))) (P_e (E_op2 op_mulG gMul_ok (P_e (E_op2 op_sub gSub_ok (P_e (E_idx (P_var 2) (P_e E_int))) (P_e (E_idx (P_var 0) (P_e E_int))))) (P_e (E_op2 op_sub gSub_ok (P_e (E_idx (P_var 2) (P_e E_int))) (P_e (E_idx (P_var 1) (P_e E_int))))))))) (P_e E_int) (nomark _))))))
abbrev s__law_sides : Stmt := topS 45
theorem sc__law_sides : FnScope ["ring", "k"] ["ring"] (defScope s__law_sides) := ⟨rfl, rfl, rfl, by decide +kernel, rfl, by decide +kernel, by decide +kernel⟩
theorem ok__law_sides (M : Facts K mg) {f : Addr} {fd : FuncData} (F : Fun K "_law_sides" "_law_sides" s__law_sides f fd) : FnOk P w K mg base CX0 1 f fd ["ring"] (spD K m__law_sides) :=
  fn_ok (body := b__law_sides) F sc__law_sides rfl rfl rfl (by decide) (fun cdv A outer s H E hr => by
    have S := sc__law_sides
    have hu65 := hu65_of hr
    have hu66 := hu66_of hr
    exact (Ss_one (S_retV (V_comp (own := [("k", 1)]) rfl S.nd (blkOk_by (by rfl)) (Ip_of (I_range1 M.m_range (P_e (E_bi call_len gLen_ok PySem.boot_len M.m_len (Ap_cons (P_var 0) Ap_nil))))) (fun _ _ _ _ _ => (G_nm 1 S.nd)) (fun _ _ _ _ _ => Ts_nil) (fun _ _ _ _ _ => (E_tup (A_cons (E_idx (P_var 0) (P_var 1)) (A_cons (E_idx (P_var 0) (P_e (E_op2 op_modN gMod_ok (P_e (E_ty call_int1 gIntT_ok (by decide +kernel) M.m_int (Ap_cons (P_v (V_op2 op_addG gAdd_ok (P_var 1) (P_e E_int))) Ap_nil))) (P_e (E_bi call_len gLen_ok PySem.boot_len M.m_len (Ap_cons (P_var 0) Ap_nil)))))) A_nil))))))))
abbrev s__law_meet : Stmt := topS 46
theorem sc__law_meet : FnScope ["one", "other", "a", "b", "c", "d", "p", "q", "r", "s"] ["one", "other"] (defScope s__law_meet) := ⟨rfl, rfl, rfl, by decide +kernel, rfl, by decide +kernel, by decide +kernel⟩
theorem ok__law_meet (M : Facts K mg) (C__law_on : Cal P w K mg base "_law_on" 2 m__law_on) (C__law_turn : Cal P w K mg base "_law_turn" 1 m__law_turn) {f : Addr} {fd : FuncData} (F : Fun K "_law_meet" "_law_meet" s__law_meet f fd) : FnOk P w K mg base CX0 3 f fd ["one", "other"] (spD K m__law_meet) :=
  fn_ok (body := b__law_meet) F sc__law_meet rfl rfl rfl (by decide) (fun cdv A outer s H E hr => by
    have S := sc__law_meet
    have hu65 := hu65_of hr
    have hu66 := hu66_of hr
    exact (Ss_cons (S_asgE (E_var 0) (G_tp (n := 2) rfl (Gs_cons (G_nm 6 S.nd) (Gs_cons (G_nm 7 S.nd) Gs_nil))))
  (show PSs _ _ (tS _ (b__law_meet_t1)) from (Ss_cons (S_asgE (E_var 1) (G_tp (n := 2) rfl (Gs_cons (G_nm 8 S.nd) (Gs_cons (G_nm 9 S.nd) Gs_nil))))
  (show PSs _ _ (tS _ (b__law_meet_t2)) from (Ss_cons (S_if (T_w (W_or (T_tru (P_e (E_callS C__law_on hr (Ap_cons (P_var 6) (Ap_cons (P_var 7) (Ap_cons (P_var 8) Ap_nil)))))) (W_or (T_tru (P_e (E_callS C__law_on hr (Ap_cons (P_var 6) (Ap_cons (P_var 7) (Ap_cons (P_var 9) Ap_nil)))))) (W_or (T_tru (P_e (E_callS C__law_on hr (Ap_cons (P_var 8) (Ap_cons (P_var 9) (Ap_cons (P_var 6) Ap_nil)))))) (W_or1 (T_tru (P_e (E_callS C__law_on hr (Ap_cons (P_var 8) (Ap_cons (P_var 9) (Ap_cons (P_var 7) Ap_nil)))))))))))
  (Ss_one (S_retE E_bl))
  Ss_nil)
  (show PSs _ _ (tS _ (b__law_meet_t3)) from (Ss_cons (S_set 2 (E_callS C__law_turn hr (Ap_cons (P_var 6) (Ap_cons (P_var 7) (Ap_cons (P_var 8) Ap_nil)))) S.nd)
  (show PSs _ _ (tS _ (b__law_meet_t4)) from (Ss_cons (S_set 3 (E_callS C__law_turn hr (Ap_cons (P_var 6) (Ap_cons (P_var 7) (Ap_cons (P_var 9) Ap_nil)))) S.nd)
  (show PSs _ _ (tS _ (b__law_meet_t5)) from (Ss_cons (S_set 4 (E_callS C__law_turn hr (Ap_cons (P_var 8) (Ap_cons (P_var 9) (Ap_cons (P_var 6) Ap_nil)))) S.nd)
  (show PSs _ _ (tS _ (b__law_meet_t6)) from (Ss_cons (S_set 5 (E_callS C__law_turn hr (Ap_cons (P_var 8) (Ap_cons (P_var 9) (Ap_cons (P_var 7) Ap_nil)))) S.nd)
  (show PSs _ _ (tS _ (b__law_meet_t7)) from (Ss_one (S_retE (E_and (E_cmp (op_ltG hr.units) gOrd_ok (P_e (E_bi (call_min2 rfl) gMin2_ok (by decide +kernel) M.m_min (Ap_cons (P_var 2) (Ap_cons (P_var 3) Ap_nil)))) (P_e E_int) (nomark _)) (E_and (E_cmp (op_gtG hr.units) gOrd_ok (P_e (E_bi (call_max2 rfl) gMax2_ok (by decide +kernel) M.m_max (Ap_cons (P_var 2) (Ap_cons (P_var 3) Ap_nil)))) (P_e E_int) (nomark _)) (E_and (E_cmp (op_ltG hr.units) gOrd_ok (P_e (E_bi (call_min2 rfl) gMin2_ok (by decide +kernel) M.m_min (Ap_cons (P_var 4) (Ap_cons (P_var 5) Ap_nil)))) (P_e E_int) (nomark _)) (E_one (E_cmp (op_gtG hr.units) gOrd_ok (P_e (E_bi (call_max2 rfl) gMax2_ok (by decide +kernel) M.m_max (Ap_cons (P_var 4) (Ap_cons (P_var 5) Ap_nil)))) (P_e E_int) (nomark _)))))))))))))))))))))))
abbrev s__law_place : Stmt := topS 47
theorem sc__law_place : FnScope ["ring", "x", "y", "scale", "stones", "crossed", "p", "q"] ["ring", "x", "y", "scale"] (defScope s__law_place) := ⟨rfl, rfl, rfl, by decide +kernel, rfl, by decide +kernel, by decide +kernel⟩
theorem ok__law_place (M : Facts K mg) (C__law_on : Cal P w K mg base "_law_on" 2 m__law_on) (C__law_sides : Cal P w K mg base "_law_sides" 1 m__law_sides) (C__law_turn : Cal P w K mg base "_law_turn" 1 m__law_turn) {f : Addr} {fd : FuncData} (F : Fun K "_law_place" "_law_place" s__law_place f fd) : FnOk P w K mg base CX0 3 f fd ["ring", "x", "y", "scale"] (spD K m__law_place) :=
  fn_ok (body := b__law_place) F sc__law_place rfl rfl rfl (by decide) (fun cdv A outer s H E hr => by
    have S := sc__law_place
    have hu65 := hu65_of hr
    have hu66 := hu66_of hr
    exact (Ss_cons (S_setComp 4 (own := [("p", 6), ("q", 7)]) rfl S.nd (blkOk_by (by rfl)) (Ip_seq (P_var 0)) (fun _ _ _ _ _ => (G_tp (n := 2) rfl (Gs_cons (G_nm 6 S.nd) (Gs_cons (G_nm 7 S.nd) Gs_nil)))) (fun _ _ _ _ _ => Ts_nil) (fun _ _ _ _ _ => (E_tup (A_cons (E_op2 op_mulG gMul_ok (P_var 3) (P_var 6)) (A_cons (E_op2 op_mulG gMul_ok (P_var 3) (P_var 7)) A_nil)))) (sw_true rfl rfl rfl (by decide +kernel)))
  (Ss_cons (S_set 5 E_int S.nd)
  (Ss_cons (S_fz [4] (S_for [0, 3, 4, 6, 7] PassesOwn.never rfl (I_seq (E_v (V_call C__law_sides hr (A_cons (E_var 4) A_nil)))) (G_tp (n := 2) rfl (Gs_cons (G_nm 6 S.nd) (Gs_cons (G_nm 7 S.nd) Gs_nil)))
  (show PSs _ _ (tS _ (b__law_place_1)) from (Ss_cons (S_if (T_tru (P_e (E_callS C__law_on hr (Ap_cons (P_var 6) (Ap_cons (P_var 7) (Ap_cons (P_e (E_tup (A_cons (E_var 1) (A_cons (E_var 2) A_nil)))) Ap_nil))))))
  (Ss_one (S_retE E_str))
  Ss_nil)
  (Ss_cons (S_if (T_w (W_and (T_cmp (op_leG hr.units) gOrd_ok (P_e (E_idx (P_var 6) (P_e E_int))) (P_var 2) (nomark _)) (W_and (T_cmp (op_ltG hr.units) gOrd_ok (P_var 2) (P_e (E_idx (P_var 7) (P_e E_int))) (nomark _)) (W_and1 (T_cmp (op_gtG hr.units) gOrd_ok (P_e (E_callS C__law_turn hr (Ap_cons (P_var 6) (Ap_cons (P_var 7) (Ap_cons (P_e (E_tup (A_cons (E_var 1) (A_cons (E_var 2) A_nil)))) Ap_nil))))) (P_e E_int) (nomark _))))))
  (Ss_one (S_setV 5 (V_op2 op_addG gAdd_ok (P_var 5) (P_e E_int)) S.nd))
  Ss_nil)
  (Ss_one (S_if (T_w (W_and (T_cmp (op_leG hr.units) gOrd_ok (P_e (E_idx (P_var 7) (P_e E_int))) (P_var 2) (nomark _)) (W_and (T_cmp (op_ltG hr.units) gOrd_ok (P_var 2) (P_e (E_idx (P_var 6) (P_e E_int))) (nomark _)) (W_and1 (T_cmp (op_ltG hr.units) gOrd_ok (P_e (E_callS C__law_turn hr (Ap_cons (P_var 6) (Ap_cons (P_var 7) (Ap_cons (P_e (E_tup (A_cons (E_var 1) (A_cons (E_var 2) A_nil)))) Ap_nil))))) (P_e E_int) (nomark _))))))
  (Ss_one (S_set 5 (E_op2 op_sub gSub_ok (P_var 5) (P_e E_int)) S.nd))
  Ss_nil)))))))
  (Ss_one (S_retE (E_idx (P_v (V_lst (A_cons E_str (A_cons E_str A_nil)))) (P_e (E_ty call_int1 gIntT_ok (by decide +kernel) M.m_int (Ap_cons (P_e (E_cmp (op_neD hr.units) gNe_ok (P_var 5) (P_e E_int) (nomark _))) Ap_nil))))))))))
abbrev s__law_square : Stmt := topS 48
theorem sc__law_square : FnScope ["one", "other", "x", "y"] ["one", "other"] (defScope s__law_square) := ⟨rfl, rfl, rfl, by decide +kernel, rfl, by decide +kernel, by decide +kernel⟩
theorem ok__law_square (M : Facts K mg) (C__law_minus : Cal P w K mg base "_law_minus" 3 m__law_minus) (C__law_plus : Cal P w K mg base "_law_plus" 3 m__law_plus) (C__law_times : Cal P w K mg base "_law_times" 3 m__law_times) {f : Addr} {fd : FuncData} (F : Fun K "_law_square" "_law_square" s__law_square f fd) : FnOk P w K mg base CX0 4 f fd ["one", "other"] (spD K m__law_square) :=
  fn_ok (body := b__law_square) F sc__law_square rfl rfl rfl (by decide) (fun cdv A outer s H E hr => by
    have S := sc__law_square
    have hu65 := hu65_of hr
    have hu66 := hu66_of hr
    exact (Ss_cons (S_setV 2 (V_call C__law_minus hr (A_cons (E_idx (P_var 0) (P_e E_int)) (A_cons (E_idx (P_var 1) (P_e E_int)) A_nil))) S.nd)
  (Ss_cons (S_setV 3 (V_call C__law_minus hr (A_cons (E_idx (P_var 0) (P_e E_int)) (A_cons (E_idx (P_var 1) (P_e E_int)) A_nil))) S.nd)
  (Ss_one (S_fz [2, 3] (S_retV (V_call C__law_plus hr (A_cons (E_v (V_call C__law_times hr (A_cons (E_var 2) (A_cons (E_var 2) A_nil)))) (A_cons (E_v (V_call C__law_times hr (A_cons (E_var 3) (A_cons (E_var 3) A_nil)))) A_nil)))))))))
abbrev s__law_foot : Stmt := topS 49
theorem sc__law_foot : FnScope ["stone", "one", "other", "size", "along", "share"] ["stone", "one", "other"] (defScope s__law_foot) := ⟨rfl, rfl, rfl, by decide +kernel, rfl, by decide +kernel, by decide +kernel⟩
theorem ok__law_foot (M : Facts K mg) (C__law_frac : Cal P w K mg base "_law_frac" 2 m__law_frac) (C__law_plus : Cal P w K mg base "_law_plus" 3 m__law_plus) (C__law_times : Cal P w K mg base "_law_times" 3 m__law_times) {f : Addr} {fd : FuncData} (F : Fun K "_law_foot" "_law_foot" s__law_foot f fd) : FnOk P w K mg base CX0 4 f fd ["stone", "one", "other"] (spD K m__law_foot) :=
  fn_ok (body := b__law_foot) F sc__law_foot rfl rfl rfl (by decide) (fun cdv A outer s H E hr => by
    have S := sc__law_foot
    have hu65 := hu65_of hr
    have hu66 := hu66_of hr
    exact (Ss_cons (S_setV 3 (V_op2 op_addG gAdd_ok (P_e (E_op2 op_mulG gMul_ok (P_e (E_op2 op_sub gSub_ok (P_e (E_idx (P_var 2) (P_e E_int))) (P_e (E_idx (P_var 1) (P_e E_int))))) (P_e (E_op2 op_sub gSub_ok (P_e (E_idx (P_var 2) (P_e E_int))) (P_e (E_idx (P_var 1) (P_e E_int))))))) (P_e (E_op2 op_mulG gMul_ok (P_e (E_op2 op_sub gSub_ok (P_e (E_idx (P_var 2) (P_e E_int))) (P_e (E_idx (P_var 1) (P_e E_int))))) (P_e (E_op2 op_sub gSub_ok (P_e (E_idx (P_var 2) (P_e E_int))) (P_e (E_idx (P_var 1) (P_e E_int)))))))) S.nd)
  (Ss_cons (S_setV 4 (V_op2 op_addG gAdd_ok (P_e (E_op2 op_mulG gMul_ok (P_e (E_op2 op_sub gSub_ok (P_e (E_idx (P_var 0) (P_e E_int))) (P_e (E_idx (P_var 1) (P_e E_int))))) (P_e (E_op2 op_sub gSub_ok (P_e (E_idx (P_var 2) (P_e E_int))) (P_e (E_idx (P_var 1) (P_e E_int))))))) (P_e (E_op2 op_mulG gMul_ok (P_e (E_op2 op_sub gSub_ok (P_e (E_idx (P_var 0) (P_e E_int))) (P_e (E_idx (P_var 1) (P_e E_int))))) (P_e (E_op2 op_sub gSub_ok (P_e (E_idx (P_var 2) (P_e E_int))) (P_e (E_idx (P_var 1) (P_e E_int)))))))) S.nd)
  (Ss_cons (S_set 5 (E_tup (A_cons E_int (A_cons E_int A_nil))) S.nd)
  (Ss_cons (S_if (T_cmp (op_gtG hr.units) gOrd_ok (P_var 3) (P_e E_int) (nomark _))
  (Ss_one (S_fz [3] (S_setV 5 (V_call C__law_frac hr (A_cons (E_bi (call_min2 rfl) gMin2_ok (by decide +kernel) M.m_min (Ap_cons (P_var 3) (Ap_cons (P_e (E_bi (call_max2 rfl) gMax2_ok (by decide +kernel) M.m_max (Ap_cons (P_e E_int) (Ap_cons (P_var 4) Ap_nil)))) Ap_nil))) (A_cons (E_var 3) A_nil))) S.nd)))
  Ss_nil)
  (Ss_one (S_fz [5] (S_retE (E_tup (A_cons (E_v (V_call C__law_plus hr (A_cons (E_tup (A_cons (E_idx (P_var 1) (P_e E_int)) (A_cons E_int A_nil))) (A_cons (E_v (V_call C__law_times hr (A_cons (E_var 5) (A_cons (E_tup (A_cons (E_op2 op_sub gSub_ok (P_e (E_idx (P_var 2) (P_e E_int))) (P_e (E_idx (P_var 1) (P_e E_int)))) (A_cons E_int A_nil))) A_nil)))) A_nil)))) (A_cons (E_v (V_call C__law_plus hr (A_cons (E_tup (A_cons (E_idx (P_var 1) (P_e E_int)) (A_cons E_int A_nil))) (A_cons (E_v (V_call C__law_times hr (A_cons (E_var 5) (A_cons (E_tup (A_cons (E_op2 op_sub gSub_ok (P_e (E_idx (P_var 2) (P_e E_int))) (P_e (E_idx (P_var 1) (P_e E_int)))) (A_cons E_int A_nil))) A_nil)))) A_nil)))) A_nil)))))))))))
abbrev s__law_near : Stmt := topS 50
theorem sc__law_near : FnScope ["one", "other", "ring", "found", "p", "q", "some"] ["one", "other", "ring"] (defScope s__law_near) := ⟨rfl, rfl, rfl, by decide +kernel, rfl, by decide +kernel, by decide +kernel⟩
theorem ok__law_near (M : Facts K mg) (C__law_foot : Cal P w K mg base "_law_foot" 4 m__law_foot) (C__law_less : Cal P w K mg base "_law_less" 1 m__law_less) (C__law_meet : Cal P w K mg base "_law_meet" 3 m__law_meet) (C__law_place : Cal P w K mg base "_law_place" 3 m__law_place) (C__law_sides : Cal P w K mg base "_law_sides" 1 m__law_sides) (C__law_spot : Cal P w K mg base "_law_spot" 1 m__law_spot) (C__law_square : Cal P w K mg base "_law_square" 4 m__law_square) {f : Addr} {fd : FuncData} (F : Fun K "_law_near" "_law_near" s__law_near f fd) : FnOk P w K mg base CX0 5 f fd ["one", "other", "ring"] (spD K m__law_near) :=
  fn_ok (body := b__law_near) F sc__law_near rfl rfl rfl (by decide) (fun cdv A outer s H E hr => by
    have S := sc__law_near
    have hu65 := hu65_of hr
    have hu66 := hu66_of hr
    exact (Ss_cons (S_if (T_cmp (op_neD hr.units) gNe_ok (P_v (V_call C__law_place hr (A_cons (E_var 2) (A_cons (E_idx (P_var 0) (P_e E_int)) (A_cons (E_idx (P_var 0) (P_e E_int)) (A_cons E_int A_nil)))))) (P_e E_str) (nomark _))
  (Ss_one (S_retE (E_tup (A_cons E_int (A_cons E_int A_nil)))))
  Ss_nil)
  (Ss_cons (S_set 3 E_non S.nd)
  (Ss_cons (S_for [2, 4, 5, 6] PassesOwn.never rfl (I_seq (E_v (V_call C__law_sides hr (A_cons (E_var 2) A_nil)))) (G_tp (n := 2) rfl (Gs_cons (G_nm 4 S.nd) (Gs_cons (G_nm 5 S.nd) Gs_nil)))
  (show PSs _ _ (tS _ (b__law_near_2)) from (Ss_cons (S_if (T_tru (P_e (E_callS C__law_meet hr (Ap_cons (P_e (E_tup (A_cons (E_var 0) (A_cons (E_var 1) A_nil)))) (Ap_cons (P_e (E_tup (A_cons (E_var 4) (A_cons (E_var 5) A_nil)))) Ap_nil)))))
  (Ss_one (S_retE (E_tup (A_cons E_int (A_cons E_int A_nil)))))
  Ss_nil)
  (Ss_one (S_for [2, 4, 5, 6] PassesOwn.never rfl (I_seq (E_v (V_lst (A_cons (E_v (V_call C__law_square hr (A_cons (E_v (V_call C__law_spot hr (A_cons (E_var 0) A_nil))) (A_cons (E_v (V_call C__law_foot hr (A_cons (E_var 0) (A_cons (E_var 4) (A_cons (E_var 5) A_nil))))) A_nil)))) (A_cons (E_v (V_call C__law_square hr (A_cons (E_v (V_call C__law_spot hr (A_cons (E_var 1) A_nil))) (A_cons (E_v (V_call C__law_foot hr (A_cons (E_var 1) (A_cons (E_var 4) (A_cons (E_var 5) A_nil))))) A_nil)))) (A_cons (E_v (V_call C__law_square hr (A_cons (E_v (V_call C__law_spot hr (A_cons (E_var 4) A_nil))) (A_cons (E_v (V_call C__law_foot hr (A_cons (E_var 4) (A_cons (E_var 0) (A_cons (E_var 1) A_nil))))) A_nil)))) A_nil)))))) (G_nm 6 S.nd)
  (show PSs _ _ (tS _ (b__law_near_1)) from (Ss_one (S_if (T_w (W_or (T_cmp op_isG gIs_ok (P_var 3) (P_e E_non) (nomark _)) (W_or1 (T_tru (P_e (E_callS C__law_less hr (Ap_cons (P_var 6) (Ap_cons (P_var 3) Ap_nil))))))))
  (Ss_one (S_set 3 (E_var 6) S.nd))
  Ss_nil))))))))
  (Ss_one (S_retVar 3))))))
abbrev s_law : Stmt := topS 51
theorem sc_law : FnScope ["script", "draws", "ring", "road", "kept", "least", "k", "reach", "one", "other", "due", "turn_v", "share", "spot", "some", "goal", "p", "q"] ["script"] (defScope s_law) := ⟨rfl, rfl, rfl, by decide +kernel, rfl, by decide +kernel, by decide +kernel⟩
theorem ok_law (M : Facts K mg) (C__law_cell : Cal P w K mg base "_law_cell" 1 m__law_cell) (C__law_foot : Cal P w K mg base "_law_foot" 4 m__law_foot) (C__law_frac : Cal P w K mg base "_law_frac" 2 m__law_frac) (C__law_less : Cal P w K mg base "_law_less" 1 m__law_less) (C__law_near : Cal P w K mg base "_law_near" 5 m__law_near) (C__law_numbers : Cal P w K mg base "_law_numbers" 1 m__law_numbers) (C__law_ring : Cal P w K mg base "_law_ring" 2 m__law_ring) (C__law_same : Cal P w K mg base "_law_same" 12 (m__law_same 12)) (C__law_sides : Cal P w K mg base "_law_sides" 1 m__law_sides) (C__law_spot : Cal P w K mg base "_law_spot" 1 m__law_spot) (C__law_square : Cal P w K mg base "_law_square" 4 m__law_square) (C_distance_square : Cal P w K mg base "distance_square" 2 m_distance_square) (C_near_square : Cal P w K mg base "near_square" 6 m_near_square) (C_touches : Cal P w K mg base "touches" 7 m_touches) {f : Addr} {fd : FuncData} (F : Fun K "law" "law" s_law f fd) : LawOk P w K mg base f fd ["script"] m_law :=
  law_ok (k := 12) (body := b_law) F sc_law rfl rfl rfl (by decide) ⟨rfl, by decide, by decide⟩ (fun cdv s H E hr => by
    have S := sc_law
    have hu65 := hu65_of hr
    have hu66 := hu66_of hr
    exact (Ss_cons (S_setV 1 (V_call C__law_numbers hr (A_cons (E_callS C__law_cell hr (Ap_cons (P_var 0) (Ap_cons (P_e E_int) Ap_nil))) (A_cons E_int (A_cons E_int A_nil)))) S.nd)
  (show PSs _ _ (tS _ (b_law_t1)) from (Ss_cons (S_fz [1] (S_setV 2 (V_call C__law_ring hr (A_cons (E_var 1) (A_cons E_int A_nil))) S.nd))
  (show PSs _ _ (tS _ (b_law_t2)) from (Ss_cons (S_setV 3 (V_comp (own := [("k", 6)]) rfl S.nd (blkOk_by (by rfl)) (Ip_of (I_range1 M.m_range (P_v (V_op2 op_addG gAdd_ok (P_e E_int) (P_e (E_op2 op_modN gMod_ok (P_e (E_idx (P_var 1) (P_e E_int))) (P_e E_int))))))) (fun _ _ _ _ _ => (G_nm 6 S.nd)) (fun _ _ _ _ _ => Ts_nil) (fun _ _ _ _ _ => (E_tup (A_cons (E_op2 op_sub gSub_ok (P_e (E_op2 op_modN gMod_ok (P_e (E_idx (P_var 1) (P_v (V_op2 op_addG gAdd_ok (P_e E_int) (P_var 6))))) (P_e E_int))) (P_e E_int)) (A_cons (E_op2 op_sub gSub_ok (P_e (E_op2 op_modN gMod_ok (P_e (E_op2 op_divG gDiv_ok (P_e (E_idx (P_var 1) (P_v (V_op2 op_addG gAdd_ok (P_e E_int) (P_var 6))))) (P_e E_int))) (P_e E_int))) (P_e E_int)) A_nil))))) S.nd)
  (show PSs _ _ (tS _ (b_law_t3)) from (Ss_cons (S_setV 3 (V_op2 op_addG gAdd_ok (P_v (V_comp (own := [("k", 6)]) rfl S.nd (blkOk_by (by rfl)) (Ip_of (I_range1 M.m_range (P_e (E_bi call_len gLen_ok PySem.boot_len M.m_len (Ap_cons (P_var 3) Ap_nil))))) (fun _ _ _ _ _ => (G_nm 6 S.nd)) (fun _ _ _ _ _ => (Ts_one (T_w (W_or (T_cmp (op_eqD hr.units) gEq_ok (P_var 6) (P_e E_int) (nomark _)) (W_or1 (T_cmp (op_neD hr.units) gNe_ok (P_e (E_idx (P_var 3) (P_var 6))) (P_e (E_idx (P_var 3) (P_e (E_op2 op_sub gSub_ok (P_var 6) (P_e E_int))))) (nomark _))))))) (fun _ _ _ _ _ => (E_idx (P_var 3) (P_var 6))))) (P_v (V_lst (A_cons (E_tup (A_cons E_int (A_cons E_int A_nil))) A_nil)))) S.nd)
  (show PSs _ _ (tS _ (b_law_t4)) from (Ss_cons (S_fz [2, 3] (S_set 4 (E_bi (call_rep hu65 rfl) rep_ok (by decide +kernel) M.m_repr (Ap_cons (P_e (E_tup (A_cons (E_var 2) (A_cons (E_var 3) A_nil)))) Ap_nil)) S.nd))
  (show PSs _ _ (tS _ (b_law_t5)) from (Ss_cons (S_set 5 E_non S.nd)
  (show PSs _ _ (tS _ (b_law_t6)) from (Ss_cons (S_fz [2, 3] (S_for [0, 6, 7, 8, 9, 10, 11, 12, 13, 14, 15, 16, 17] PassesOwn.never rfl (I_range2 M.m_range (P_e E_int) (P_e (E_bi call_len gLen_ok PySem.boot_len M.m_len (Ap_cons (P_var 3) Ap_nil)))) (G_nm 6 S.nd)
  (show PSs _ _ (tS _ (b_law_2)) from (Ss_cons (S_set 8 (E_idx (P_var 3) (P_e (E_op2 op_sub gSub_ok (P_var 6) (P_e E_int)))) S.nd)
  (Ss_cons (S_set 9 (E_idx (P_var 3) (P_var 6)) S.nd)
  (Ss_cons (S_fz [2] (S_setV 10 (V_call C__law_near hr (A_cons (E_var 8) (A_cons (E_var 9) (A_cons (E_var 2) A_nil)))) S.nd))
  (Ss_cons (S_fz [2, 3] (S_if (T_w (W_or (T_not (T_tru (P_e (E_callS C__law_same hr (Ap_cons (P_v (V_call C_near_square hr (A_cons (E_var 8) (A_cons (E_var 9) (A_cons (E_var 2) A_nil))))) (Ap_cons (P_var 10) Ap_nil)))))) (W_or1 (T_cmp (op_neD hr.units) gNe_ok (P_e (E_bi (call_rep hu65 rfl) rep_ok (by decide +kernel) M.m_repr (Ap_cons (P_e (E_tup (A_cons (E_var 2) (A_cons (E_var 3) A_nil)))) Ap_nil))) (P_var 4) (nomark _)))))
  (Ss_one (S_retE E_bl))
  Ss_nil))
  (Ss_cons (S_if (T_w (W_or (T_cmp op_isG gIs_ok (P_var 5) (P_e E_non) (nomark _)) (W_or1 (T_tru (P_e (E_callS C__law_less hr (Ap_cons (P_var 10) (Ap_cons (P_var 5) Ap_nil))))))))
  (Ss_one (S_fz [10] (S_set 5 (E_var 10) S.nd)))
  Ss_nil)
  (Ss_one (S_fz [2] (S_for [0, 6, 7, 11, 12, 13, 14, 15, 16, 17] PassesOwn.never rfl (I_range1 M.m_range (P_e E_int)) (G_nm 11 S.nd)
  (show PSs _ _ (tS _ (b_law_1)) from (Ss_cons (S_fz [2] (S_asgE (E_idx (P_v (V_call C__law_sides hr (A_cons (E_var 2) A_nil))) (P_e (E_op2 op_modN gMod_ok (P_e (E_idx (P_var 1) (P_v (V_op2 op_addG gAdd_ok (P_e E_int) (P_var 11))))) (P_e (E_bi call_len gLen_ok PySem.boot_len M.m_len (Ap_cons (P_var 2) Ap_nil)))))) (G_tp (n := 2) rfl (Gs_cons (G_nm 16 S.nd) (Gs_cons (G_nm 17 S.nd) Gs_nil)))))
  (Ss_cons (S_set 12 (E_op2 op_modN gMod_ok (P_e (E_idx (P_var 1) (P_v (V_op2 op_addG gAdd_ok (P_e E_int) (P_var 11))))) (P_e E_int)) S.nd)
  (Ss_cons (S_set 13 (E_tup (A_cons (E_v (V_call C__law_frac hr (A_cons (E_v (V_op2 op_addG gAdd_ok (P_e (E_op2 op_mulG gMul_ok (P_e (E_idx (P_var 8) (P_e E_int))) (P_var 12))) (P_e (E_op2 op_mulG gMul_ok (P_e (E_idx (P_var 9) (P_e E_int))) (P_e (E_op2 op_sub gSub_ok (P_e E_int) (P_var 12))))))) (A_cons E_int A_nil)))) (A_cons (E_v (V_call C__law_frac hr (A_cons (E_v (V_op2 op_addG gAdd_ok (P_e (E_op2 op_mulG gMul_ok (P_e (E_idx (P_var 8) (P_e E_int))) (P_var 12))) (P_e (E_op2 op_mulG gMul_ok (P_e (E_idx (P_var 9) (P_e E_int))) (P_e (E_op2 op_sub gSub_ok (P_e E_int) (P_var 12))))))) (A_cons E_int A_nil)))) A_nil))) S.nd)
  (Ss_cons (S_set 14 (E_op2 op_modN gMod_ok (P_e (E_idx (P_var 1) (P_v (V_op2 op_addG gAdd_ok (P_e E_int) (P_var 11))))) (P_e E_int)) S.nd)
  (Ss_cons (S_set 15 (E_tup (A_cons (E_v (V_call C__law_frac hr (A_cons (E_v (V_op2 op_addG gAdd_ok (P_e (E_op2 op_mulG gMul_ok (P_e (E_idx (P_var 16) (P_e E_int))) (P_var 14))) (P_e (E_op2 op_mulG gMul_ok (P_e (E_idx (P_var 17) (P_e E_int))) (P_e (E_op2 op_sub gSub_ok (P_e E_int) (P_var 14))))))) (A_cons E_int A_nil)))) (A_cons (E_v (V_call C__law_frac hr (A_cons (E_v (V_op2 op_addG gAdd_ok (P_e (E_op2 op_mulG gMul_ok (P_e (E_idx (P_var 16) (P_e E_int))) (P_var 14))) (P_e (E_op2 op_mulG gMul_ok (P_e (E_idx (P_var 17) (P_e E_int))) (P_e (E_op2 op_sub gSub_ok (P_e E_int) (P_var 14))))))) (A_cons E_int A_nil)))) A_nil))) S.nd)
  (Ss_cons (S_if (T_tru (P_e (E_callS C__law_less hr (Ap_cons (P_v (V_call C__law_square hr (A_cons (E_var 13) (A_cons (E_var 15) A_nil)))) (Ap_cons (P_var 10) Ap_nil)))))
  (Ss_one (S_retE E_bl))
  Ss_nil)
  (Ss_one (S_if (T_not (T_tru (P_e (E_callS C__law_same hr (Ap_cons (P_v (V_call C_distance_square hr (A_cons (E_var 16) (A_cons (E_var 8) (A_cons (E_var 9) A_nil))))) (Ap_cons (P_v (V_call C__law_square hr (A_cons (E_v (V_call C__law_spot hr (A_cons (E_var 16) A_nil))) (A_cons (E_v (V_call C__law_foot hr (A_cons (E_var 16) (A_cons (E_var 8) (A_cons (E_var 9) A_nil))))) A_nil)))) Ap_nil))))))
  (Ss_one (S_retE E_bl))
  Ss_nil))))))))))))))))))))
  (show PSs _ _ (tS _ (b_law_t7)) from (Ss_cons (S_if (T_not (T_tru (P_e (E_callS C__law_same hr (Ap_cons (P_v (V_call C_distance_square hr (A_cons (E_idx (P_var 3) (P_e E_int)) (A_cons (E_idx (P_var 2) (P_e E_int)) (A_cons (E_idx (P_var 2) (P_e E_int)) A_nil))))) (Ap_cons (P_v (V_call C__law_square hr (A_cons (E_v (V_call C__law_spot hr (A_cons (E_idx (P_var 3) (P_e E_int)) A_nil))) (A_cons (E_v (V_call C__law_spot hr (A_cons (E_idx (P_var 2) (P_e E_int)) A_nil))) A_nil)))) Ap_nil))))))
  (Ss_one (S_retE E_bl))
  Ss_nil)
  (show PSs _ _ (tS _ (b_law_t8)) from (Ss_cons (S_for [0, 1, 6, 7, 8, 9, 10, 11, 12, 13, 14, 15, 16, 17] PassesOwn.never rfl (I_seq (E_v (V_lst (A_cons E_int (A_cons E_int (A_cons (E_op2 op_modN gMod_ok (P_e (E_idx (P_var 1) (P_e E_int))) (P_e E_int)) (A_cons (E_op2 op_modN gMod_ok (P_e (E_idx (P_var 1) (P_e E_int))) (P_e E_int)) (A_cons E_int A_nil)))))))) (G_nm 7 S.nd)
  (show PSs _ _ (tS _ (b_law_3)) from (Ss_one (S_if (T_not (T_tru (P_e (E_callS C__law_same hr (Ap_cons (P_e (E_callS C_touches hr (Ap_cons (P_var 3) (Ap_cons (P_var 7) (Ap_cons (P_var 2) Ap_nil))))) (Ap_cons (P_e (E_not (E_callS C__law_less hr (Ap_cons (P_e (E_tup (A_cons (E_op2 op_mulG gMul_ok (P_var 7) (P_var 7)) (A_cons E_int A_nil)))) (Ap_cons (P_var 5) Ap_nil))))) Ap_nil))))))
  (Ss_one (S_retE E_bl))
  Ss_nil))))
  (show PSs _ _ (tS _ (b_law_t9)) from (Ss_one (S_fz [2, 3] (S_retE (E_cmp (op_eqD hr.units) gEq_ok (P_e (E_bi (call_rep hu65 rfl) rep_ok (by decide +kernel) M.m_repr (Ap_cons (P_e (E_tup (A_cons (E_var 2) (A_cons (E_var 3) A_nil)))) Ap_nil))) (P_var 4) (nomark _))))))))))))))))))))))))
end
theorem all_mk {l : PySem.W.OpenLaw} {w : World} {K : PySem.W.Frag} {h : Heap} {mg : Str → Option Value} {fa : Addr} (X : K.In h) (GX : h.Ns mainGlobals mg) (hfa : mg "law" = some (.ref fa))
    {od_0 an_0 : Option Addr} {f_0 : Addr} {sl_0 : Array (Option Value)} {oc_0 kV_0 dc_0 pm_0 cd_0 ct_0 : Value}
    {od_1 an_1 : Option Addr} {f_1 : Addr} {sl_1 : Array (Option Value)} {oc_1 kV_1 dc_1 pm_1 cd_1 ct_1 : Value}
    {od_2 an_2 : Option Addr} {f_2 : Addr} {sl_2 : Array (Option Value)} {oc_2 kV_2 dc_2 pm_2 cd_2 ct_2 : Value}
    {od_3 an_3 : Option Addr} {f_3 : Addr} {sl_3 : Array (Option Value)} {oc_3 kV_3 dc_3 pm_3 cd_3 ct_3 : Value}
    {od_4 an_4 : Option Addr} {f_4 : Addr} {sl_4 : Array (Option Value)} {oc_4 kV_4 dc_4 pm_4 cd_4 ct_4 : Value}
    {od_5 an_5 : Option Addr} {f_5 : Addr} {sl_5 : Array (Option Value)} {oc_5 kV_5 dc_5 pm_5 cd_5 ct_5 : Value}
    {od_6 an_6 : Option Addr} {f_6 : Addr} {sl_6 : Array (Option Value)} {oc_6 kV_6 dc_6 pm_6 cd_6 ct_6 : Value}
    {od_7 an_7 : Option Addr} {f_7 : Addr} {sl_7 : Array (Option Value)} {oc_7 kV_7 dc_7 pm_7 cd_7 ct_7 : Value}
    {od_8 an_8 : Option Addr} {f_8 : Addr} {sl_8 : Array (Option Value)} {oc_8 kV_8 dc_8 pm_8 cd_8 ct_8 : Value}
    {od_9 an_9 : Option Addr} {f_9 : Addr} {sl_9 : Array (Option Value)} {oc_9 kV_9 dc_9 pm_9 cd_9 ct_9 : Value}
    {od_10 an_10 : Option Addr} {f_10 : Addr} {sl_10 : Array (Option Value)} {oc_10 kV_10 dc_10 pm_10 cd_10 ct_10 : Value}
    {od_11 an_11 : Option Addr} {f_11 : Addr} {sl_11 : Array (Option Value)} {oc_11 kV_11 dc_11 pm_11 cd_11 ct_11 : Value}
    {od_12 an_12 : Option Addr} {f_12 : Addr} {sl_12 : Array (Option Value)} {oc_12 kV_12 dc_12 pm_12 cd_12 ct_12 : Value}
    {od_13 an_13 : Option Addr} {f_13 : Addr} {sl_13 : Array (Option Value)} {oc_13 kV_13 dc_13 pm_13 cd_13 ct_13 : Value}
    {od_14 an_14 : Option Addr} {f_14 : Addr} {sl_14 : Array (Option Value)} {oc_14 kV_14 dc_14 pm_14 cd_14 ct_14 : Value}
    {od_15 an_15 : Option Addr} {f_15 : Addr} {sl_15 : Array (Option Value)} {oc_15 kV_15 dc_15 pm_15 cd_15 ct_15 : Value}
    {od_16 an_16 : Option Addr} {f_16 : Addr} {sl_16 : Array (Option Value)} {oc_16 kV_16 dc_16 pm_16 cd_16 ct_16 : Value}
    {od_17 an_17 : Option Addr} {f_17 : Addr} {sl_17 : Array (Option Value)} {oc_17 kV_17 dc_17 pm_17 cd_17 ct_17 : Value}
    {od_18 an_18 : Option Addr} {f_18 : Addr} {sl_18 : Array (Option Value)} {oc_18 kV_18 dc_18 pm_18 cd_18 ct_18 : Value}
    {od_19 an_19 : Option Addr} {f_19 : Addr} {sl_19 : Array (Option Value)} {oc_19 kV_19 dc_19 pm_19 cd_19 ct_19 : Value}
    {od_20 an_20 : Option Addr} {f_20 : Addr} {sl_20 : Array (Option Value)} {oc_20 kV_20 dc_20 pm_20 cd_20 ct_20 : Value}
    {od_21 an_21 : Option Addr} {f_21 : Addr} {sl_21 : Array (Option Value)} {oc_21 kV_21 dc_21 pm_21 cd_21 ct_21 : Value}
    {od_22 an_22 : Option Addr} {f_22 : Addr} {sl_22 : Array (Option Value)} {oc_22 kV_22 dc_22 pm_22 cd_22 ct_22 : Value}
    {od_23 an_23 : Option Addr} {f_23 : Addr} {sl_23 : Array (Option Value)} {oc_23 kV_23 dc_23 pm_23 cd_23 ct_23 : Value}
    {od_24 an_24 : Option Addr} {f_24 : Addr} {sl_24 : Array (Option Value)} {oc_24 kV_24 dc_24 pm_24 cd_24 ct_24 : Value}
    {od_25 an_25 : Option Addr} {f_25 : Addr} {sl_25 : Array (Option Value)} {oc_25 kV_25 dc_25 pm_25 cd_25 ct_25 : Value}
    {od_26 an_26 : Option Addr} {f_26 : Addr} {sl_26 : Array (Option Value)} {oc_26 kV_26 dc_26 pm_26 cd_26 ct_26 : Value}
    {od_27 an_27 : Option Addr} {f_27 : Addr} {sl_27 : Array (Option Value)} {oc_27 kV_27 dc_27 pm_27 cd_27 ct_27 : Value}
    {od_28 an_28 : Option Addr} {f_28 : Addr} {sl_28 : Array (Option Value)} {oc_28 kV_28 dc_28 pm_28 cd_28 ct_28 : Value}
    {od_29 an_29 : Option Addr} {f_29 : Addr} {sl_29 : Array (Option Value)} {oc_29 kV_29 dc_29 pm_29 cd_29 ct_29 : Value}
    {od_30 an_30 : Option Addr} {f_30 : Addr} {sl_30 : Array (Option Value)} {oc_30 kV_30 dc_30 pm_30 cd_30 ct_30 : Value}
    {od_31 an_31 : Option Addr} {f_31 : Addr} {sl_31 : Array (Option Value)} {oc_31 kV_31 dc_31 pm_31 cd_31 ct_31 : Value}
    {od_32 an_32 : Option Addr} {f_32 : Addr} {sl_32 : Array (Option Value)} {oc_32 kV_32 dc_32 pm_32 cd_32 ct_32 : Value}
    {od_33 an_33 : Option Addr} {f_33 : Addr} {sl_33 : Array (Option Value)} {oc_33 kV_33 dc_33 pm_33 cd_33 ct_33 : Value}
    {od_34 an_34 : Option Addr} {f_34 : Addr} {sl_34 : Array (Option Value)} {oc_34 kV_34 dc_34 pm_34 cd_34 ct_34 : Value}
    {od_35 an_35 : Option Addr} {f_35 : Addr} {sl_35 : Array (Option Value)} {oc_35 kV_35 dc_35 pm_35 cd_35 ct_35 : Value}
    {od_36 an_36 : Option Addr} {f_36 : Addr} {sl_36 : Array (Option Value)} {oc_36 kV_36 dc_36 pm_36 cd_36 ct_36 : Value}
    {od_37 an_37 : Option Addr} {f_37 : Addr} {sl_37 : Array (Option Value)} {oc_37 kV_37 dc_37 pm_37 cd_37 ct_37 : Value}
    {od_38 an_38 : Option Addr} {f_38 : Addr} {sl_38 : Array (Option Value)} {oc_38 kV_38 dc_38 pm_38 cd_38 ct_38 : Value}
    {od_39 an_39 : Option Addr} {f_39 : Addr} {sl_39 : Array (Option Value)} {oc_39 kV_39 dc_39 pm_39 cd_39 ct_39 : Value}
    {od_40 an_40 : Option Addr} {f_40 : Addr} {sl_40 : Array (Option Value)} {oc_40 kV_40 dc_40 pm_40 cd_40 ct_40 : Value}
    {od_41 an_41 : Option Addr} {f_41 : Addr} {sl_41 : Array (Option Value)} {oc_41 kV_41 dc_41 pm_41 cd_41 ct_41 : Value}
    {od_42 an_42 : Option Addr} {f_42 : Addr} {sl_42 : Array (Option Value)} {oc_42 kV_42 dc_42 pm_42 cd_42 ct_42 : Value}
    {od_43 an_43 : Option Addr} {f_43 : Addr} {sl_43 : Array (Option Value)} {oc_43 kV_43 dc_43 pm_43 cd_43 ct_43 : Value}
    (a_0 : PySem.W.nsIn K mainGlobals "fraction" = some (some (.ref f_0))) (l_0 : K.lookup f_0 = some ⟨oc_0, od_0, .func (PySem.W.fnOf "fraction" "fraction" (defArgs s_fraction) (defBody s_fraction) (defScope s_fraction) .none kV_0 dc_0 pm_0 an_0 cd_0 ct_0), sl_0⟩) (c_0 : PySem.W.codeIn K cd_0 "fraction" = true) (k_0 : PySem.W.keepIn K (.ref f_0) = true)
    (a_1 : PySem.W.nsIn K mainGlobals "whole" = some (some (.ref f_1))) (l_1 : K.lookup f_1 = some ⟨oc_1, od_1, .func (PySem.W.fnOf "whole" "whole" (defArgs s_whole) (defBody s_whole) (defScope s_whole) .none kV_1 dc_1 pm_1 an_1 cd_1 ct_1), sl_1⟩) (c_1 : PySem.W.codeIn K cd_1 "whole" = true) (k_1 : PySem.W.keepIn K (.ref f_1) = true)
    (a_2 : PySem.W.nsIn K mainGlobals "minus" = some (some (.ref f_2))) (l_2 : K.lookup f_2 = some ⟨oc_2, od_2, .func (PySem.W.fnOf "minus" "minus" (defArgs s_minus) (defBody s_minus) (defScope s_minus) .none kV_2 dc_2 pm_2 an_2 cd_2 ct_2), sl_2⟩) (c_2 : PySem.W.codeIn K cd_2 "minus" = true) (k_2 : PySem.W.keepIn K (.ref f_2) = true)
    (a_3 : PySem.W.nsIn K mainGlobals "times" = some (some (.ref f_3))) (l_3 : K.lookup f_3 = some ⟨oc_3, od_3, .func (PySem.W.fnOf "times" "times" (defArgs s_times) (defBody s_times) (defScope s_times) .none kV_3 dc_3 pm_3 an_3 cd_3 ct_3), sl_3⟩) (c_3 : PySem.W.codeIn K cd_3 "times" = true) (k_3 : PySem.W.keepIn K (.ref f_3) = true)
    (a_4 : PySem.W.nsIn K mainGlobals "is_less" = some (some (.ref f_4))) (l_4 : K.lookup f_4 = some ⟨oc_4, od_4, .func (PySem.W.fnOf "is_less" "is_less" (defArgs s_is_less) (defBody s_is_less) (defScope s_is_less) .none kV_4 dc_4 pm_4 an_4 cd_4 ct_4), sl_4⟩) (c_4 : PySem.W.codeIn K cd_4 "is_less" = true) (k_4 : PySem.W.keepIn K (.ref f_4) = true)
    (a_5 : PySem.W.nsIn K mainGlobals "lesser" = some (some (.ref f_5))) (l_5 : K.lookup f_5 = some ⟨oc_5, od_5, .func (PySem.W.fnOf "lesser" "lesser" (defArgs s_lesser) (defBody s_lesser) (defScope s_lesser) .none kV_5 dc_5 pm_5 an_5 cd_5 ct_5), sl_5⟩) (c_5 : PySem.W.codeIn K cd_5 "lesser" = true) (k_5 : PySem.W.keepIn K (.ref f_5) = true)
    (a_6 : PySem.W.nsIn K mainGlobals "turn" = some (some (.ref f_6))) (l_6 : K.lookup f_6 = some ⟨oc_6, od_6, .func (PySem.W.fnOf "turn" "turn" (defArgs s_turn) (defBody s_turn) (defScope s_turn) .none kV_6 dc_6 pm_6 an_6 cd_6 ct_6), sl_6⟩) (c_6 : PySem.W.codeIn K cd_6 "turn" = true) (k_6 : PySem.W.keepIn K (.ref f_6) = true)
    (a_7 : PySem.W.nsIn K mainGlobals "spot_of" = some (some (.ref f_7))) (l_7 : K.lookup f_7 = some ⟨oc_7, od_7, .func (PySem.W.fnOf "spot_of" "spot_of" (defArgs s_spot_of) (defBody s_spot_of) (defScope s_spot_of) .none kV_7 dc_7 pm_7 an_7 cd_7 ct_7), sl_7⟩) (c_7 : PySem.W.codeIn K cd_7 "spot_of" = true) (k_7 : PySem.W.keepIn K (.ref f_7) = true)
    (a_8 : PySem.W.nsIn K mainGlobals "wide_turn" = some (some (.ref f_8))) (l_8 : K.lookup f_8 = some ⟨oc_8, od_8, .func (PySem.W.fnOf "wide_turn" "wide_turn" (defArgs s_wide_turn) (defBody s_wide_turn) (defScope s_wide_turn) .none kV_8 dc_8 pm_8 an_8 cd_8 ct_8), sl_8⟩) (c_8 : PySem.W.codeIn K cd_8 "wide_turn" = true) (k_8 : PySem.W.keepIn K (.ref f_8) = true)
    (a_9 : PySem.W.nsIn K mainGlobals "sides_of" = some (some (.ref f_9))) (l_9 : K.lookup f_9 = some ⟨oc_9, od_9, .func (PySem.W.fnOf "sides_of" "sides_of" (defArgs s_sides_of) (defBody s_sides_of) (defScope s_sides_of) .none kV_9 dc_9 pm_9 an_9 cd_9 ct_9), sl_9⟩) (c_9 : PySem.W.codeIn K cd_9 "sides_of" = true) (k_9 : PySem.W.keepIn K (.ref f_9) = true)
    (a_10 : PySem.W.nsIn K mainGlobals "is_on" = some (some (.ref f_10))) (l_10 : K.lookup f_10 = some ⟨oc_10, od_10, .func (PySem.W.fnOf "is_on" "is_on" (defArgs s_is_on) (defBody s_is_on) (defScope s_is_on) .none kV_10 dc_10 pm_10 an_10 cd_10 ct_10), sl_10⟩) (c_10 : PySem.W.codeIn K cd_10 "is_on" = true) (k_10 : PySem.W.keepIn K (.ref f_10) = true)
    (a_11 : PySem.W.nsIn K mainGlobals "parts_them" = some (some (.ref f_11))) (l_11 : K.lookup f_11 = some ⟨oc_11, od_11, .func (PySem.W.fnOf "parts_them" "parts_them" (defArgs s_parts_them) (defBody s_parts_them) (defScope s_parts_them) .none kV_11 dc_11 pm_11 an_11 cd_11 ct_11), sl_11⟩) (c_11 : PySem.W.codeIn K cd_11 "parts_them" = true) (k_11 : PySem.W.keepIn K (.ref f_11) = true)
    (a_12 : PySem.W.nsIn K mainGlobals "have_common" = some (some (.ref f_12))) (l_12 : K.lookup f_12 = some ⟨oc_12, od_12, .func (PySem.W.fnOf "have_common" "have_common" (defArgs s_have_common) (defBody s_have_common) (defScope s_have_common) .none kV_12 dc_12 pm_12 an_12 cd_12 ct_12), sl_12⟩) (c_12 : PySem.W.codeIn K cd_12 "have_common" = true) (k_12 : PySem.W.keepIn K (.ref f_12) = true)
    (a_13 : PySem.W.nsIn K mainGlobals "is_between" = some (some (.ref f_13))) (l_13 : K.lookup f_13 = some ⟨oc_13, od_13, .func (PySem.W.fnOf "is_between" "is_between" (defArgs s_is_between) (defBody s_is_between) (defScope s_is_between) .none kV_13 dc_13 pm_13 an_13 cd_13 ct_13), sl_13⟩) (c_13 : PySem.W.codeIn K cd_13 "is_between" = true) (k_13 : PySem.W.keepIn K (.ref f_13) = true)
    (a_14 : PySem.W.nsIn K mainGlobals "is_spot_on" = some (some (.ref f_14))) (l_14 : K.lookup f_14 = some ⟨oc_14, od_14, .func (PySem.W.fnOf "is_spot_on" "is_spot_on" (defArgs s_is_spot_on) (defBody s_is_spot_on) (defScope s_is_spot_on) .none kV_14 dc_14 pm_14 an_14 cd_14 ct_14), sl_14⟩) (c_14 : PySem.W.codeIn K cd_14 "is_spot_on" = true) (k_14 : PySem.W.keepIn K (.ref f_14) = true)
    (a_15 : PySem.W.nsIn K mainGlobals "is_crossed" = some (some (.ref f_15))) (l_15 : K.lookup f_15 = some ⟨oc_15, od_15, .func (PySem.W.fnOf "is_crossed" "is_crossed" (defArgs s_is_crossed) (defBody s_is_crossed) (defScope s_is_crossed) .none kV_15 dc_15 pm_15 an_15 cd_15 ct_15), sl_15⟩) (c_15 : PySem.W.codeIn K cd_15 "is_crossed" = true) (k_15 : PySem.W.keepIn K (.ref f_15) = true)
    (a_16 : PySem.W.nsIn K mainGlobals "place_of" = some (some (.ref f_16))) (l_16 : K.lookup f_16 = some ⟨oc_16, od_16, .func (PySem.W.fnOf "place_of" "place_of" (defArgs s_place_of) (defBody s_place_of) (defScope s_place_of) .none kV_16 dc_16 pm_16 an_16 cd_16 ct_16), sl_16⟩) (c_16 : PySem.W.codeIn K cd_16 "place_of" = true) (k_16 : PySem.W.keepIn K (.ref f_16) = true)
    (a_17 : PySem.W.nsIn K mainGlobals "square" = some (some (.ref f_17))) (l_17 : K.lookup f_17 = some ⟨oc_17, od_17, .func (PySem.W.fnOf "square" "square" (defArgs s_square) (defBody s_square) (defScope s_square) .none kV_17 dc_17 pm_17 an_17 cd_17 ct_17), sl_17⟩) (c_17 : PySem.W.codeIn K cd_17 "square" = true) (k_17 : PySem.W.keepIn K (.ref f_17) = true)
    (a_18 : PySem.W.nsIn K mainGlobals "distance_square" = some (some (.ref f_18))) (l_18 : K.lookup f_18 = some ⟨oc_18, od_18, .func (PySem.W.fnOf "distance_square" "distance_square" (defArgs s_distance_square) (defBody s_distance_square) (defScope s_distance_square) .none kV_18 dc_18 pm_18 an_18 cd_18 ct_18), sl_18⟩) (c_18 : PySem.W.codeIn K cd_18 "distance_square" = true) (k_18 : PySem.W.keepIn K (.ref f_18) = true)
    (a_19 : PySem.W.nsIn K mainGlobals "least_of" = some (some (.ref f_19))) (l_19 : K.lookup f_19 = some ⟨oc_19, od_19, .func (PySem.W.fnOf "least_of" "least_of" (defArgs s_least_of) (defBody s_least_of) (defScope s_least_of) .none kV_19 dc_19 pm_19 an_19 cd_19 ct_19), sl_19⟩) (c_19 : PySem.W.codeIn K cd_19 "least_of" = true) (k_19 : PySem.W.keepIn K (.ref f_19) = true)
    (a_20 : PySem.W.nsIn K mainGlobals "near_square" = some (some (.ref f_20))) (l_20 : K.lookup f_20 = some ⟨oc_20, od_20, .func (PySem.W.fnOf "near_square" "near_square" (defArgs s_near_square) (defBody s_near_square) (defScope s_near_square) .none kV_20 dc_20 pm_20 an_20 cd_20 ct_20), sl_20⟩) (c_20 : PySem.W.codeIn K cd_20 "near_square" = true) (k_20 : PySem.W.keepIn K (.ref f_20) = true)
    (a_21 : PySem.W.nsIn K mainGlobals "touches" = some (some (.ref f_21))) (l_21 : K.lookup f_21 = some ⟨oc_21, od_21, .func (PySem.W.fnOf "touches" "touches" (defArgs s_touches) (defBody s_touches) (defScope s_touches) .none kV_21 dc_21 pm_21 an_21 cd_21 ct_21), sl_21⟩) (c_21 : PySem.W.codeIn K cd_21 "touches" = true) (k_21 : PySem.W.keepIn K (.ref f_21) = true)
    (a_22 : PySem.W.nsIn K mainGlobals "_law_cell" = some (some (.ref f_22))) (l_22 : K.lookup f_22 = some ⟨oc_22, od_22, .func (PySem.W.fnOf "_law_cell" "_law_cell" (defArgs s__law_cell) (defBody s__law_cell) (defScope s__law_cell) .none kV_22 dc_22 pm_22 an_22 cd_22 ct_22), sl_22⟩) (c_22 : PySem.W.codeIn K cd_22 "_law_cell" = true) (k_22 : PySem.W.keepIn K (.ref f_22) = true)
    (a_23 : PySem.W.nsIn K mainGlobals "_law_numbers" = some (some (.ref f_23))) (l_23 : K.lookup f_23 = some ⟨oc_23, od_23, .func (PySem.W.fnOf "_law_numbers" "_law_numbers" (defArgs s__law_numbers) (defBody s__law_numbers) (defScope s__law_numbers) .none kV_23 dc_23 pm_23 an_23 cd_23 ct_23), sl_23⟩) (c_23 : PySem.W.codeIn K cd_23 "_law_numbers" = true) (k_23 : PySem.W.keepIn K (.ref f_23) = true)
    (a_24 : PySem.W.nsIn K mainGlobals "_law_common" = some (some (.ref f_24))) (l_24 : K.lookup f_24 = some ⟨oc_24, od_24, .func (PySem.W.fnOf "_law_common" "_law_common" (defArgs s__law_common) (defBody s__law_common) (defScope s__law_common) .none kV_24 dc_24 pm_24 an_24 cd_24 ct_24), sl_24⟩) (c_24 : PySem.W.codeIn K cd_24 "_law_common" = true) (k_24 : PySem.W.keepIn K (.ref f_24) = true)
    (a_25 : PySem.W.nsIn K mainGlobals "_law_frac" = some (some (.ref f_25))) (l_25 : K.lookup f_25 = some ⟨oc_25, od_25, .func (PySem.W.fnOf "_law_frac" "_law_frac" (defArgs s__law_frac) (defBody s__law_frac) (defScope s__law_frac) .none kV_25 dc_25 pm_25 an_25 cd_25 ct_25), sl_25⟩) (c_25 : PySem.W.codeIn K cd_25 "_law_frac" = true) (k_25 : PySem.W.keepIn K (.ref f_25) = true)
    (a_26 : PySem.W.nsIn K mainGlobals "_law_plus" = some (some (.ref f_26))) (l_26 : K.lookup f_26 = some ⟨oc_26, od_26, .func (PySem.W.fnOf "_law_plus" "_law_plus" (defArgs s__law_plus) (defBody s__law_plus) (defScope s__law_plus) .none kV_26 dc_26 pm_26 an_26 cd_26 ct_26), sl_26⟩) (c_26 : PySem.W.codeIn K cd_26 "_law_plus" = true) (k_26 : PySem.W.keepIn K (.ref f_26) = true)
    (a_27 : PySem.W.nsIn K mainGlobals "_law_minus" = some (some (.ref f_27))) (l_27 : K.lookup f_27 = some ⟨oc_27, od_27, .func (PySem.W.fnOf "_law_minus" "_law_minus" (defArgs s__law_minus) (defBody s__law_minus) (defScope s__law_minus) .none kV_27 dc_27 pm_27 an_27 cd_27 ct_27), sl_27⟩) (c_27 : PySem.W.codeIn K cd_27 "_law_minus" = true) (k_27 : PySem.W.keepIn K (.ref f_27) = true)
    (a_28 : PySem.W.nsIn K mainGlobals "_law_times" = some (some (.ref f_28))) (l_28 : K.lookup f_28 = some ⟨oc_28, od_28, .func (PySem.W.fnOf "_law_times" "_law_times" (defArgs s__law_times) (defBody s__law_times) (defScope s__law_times) .none kV_28 dc_28 pm_28 an_28 cd_28 ct_28), sl_28⟩) (c_28 : PySem.W.codeIn K cd_28 "_law_times" = true) (k_28 : PySem.W.keepIn K (.ref f_28) = true)
    (a_29 : PySem.W.nsIn K mainGlobals "_law_less" = some (some (.ref f_29))) (l_29 : K.lookup f_29 = some ⟨oc_29, od_29, .func (PySem.W.fnOf "_law_less" "_law_less" (defArgs s__law_less) (defBody s__law_less) (defScope s__law_less) .none kV_29 dc_29 pm_29 an_29 cd_29 ct_29), sl_29⟩) (c_29 : PySem.W.codeIn K cd_29 "_law_less" = true) (k_29 : PySem.W.keepIn K (.ref f_29) = true)
    (a_30 : PySem.W.nsIn K mainGlobals "_law_turn" = some (some (.ref f_30))) (l_30 : K.lookup f_30 = some ⟨oc_30, od_30, .func (PySem.W.fnOf "_law_turn" "_law_turn" (defArgs s__law_turn) (defBody s__law_turn) (defScope s__law_turn) .none kV_30 dc_30 pm_30 an_30 cd_30 ct_30), sl_30⟩) (c_30 : PySem.W.codeIn K cd_30 "_law_turn" = true) (k_30 : PySem.W.keepIn K (.ref f_30) = true)
    (a_31 : PySem.W.nsIn K mainGlobals "_law_same" = some (some (.ref f_31))) (l_31 : K.lookup f_31 = some ⟨oc_31, od_31, .func (PySem.W.fnOf "_law_same" "_law_same" (defArgs s__law_same) (defBody s__law_same) (defScope s__law_same) .none kV_31 dc_31 pm_31 an_31 cd_31 ct_31), sl_31⟩) (c_31 : PySem.W.codeIn K cd_31 "_law_same" = true) (k_31 : PySem.W.keepIn K (.ref f_31) = true)
    (a_32 : PySem.W.nsIn K mainGlobals "_law_spot" = some (some (.ref f_32))) (l_32 : K.lookup f_32 = some ⟨oc_32, od_32, .func (PySem.W.fnOf "_law_spot" "_law_spot" (defArgs s__law_spot) (defBody s__law_spot) (defScope s__law_spot) .none kV_32 dc_32 pm_32 an_32 cd_32 ct_32), sl_32⟩) (c_32 : PySem.W.codeIn K cd_32 "_law_spot" = true) (k_32 : PySem.W.keepIn K (.ref f_32) = true)
    (a_33 : PySem.W.nsIn K mainGlobals "_law_begun" = some (some (.ref f_33))) (l_33 : K.lookup f_33 = some ⟨oc_33, od_33, .func (PySem.W.fnOf "_law_begun" "_law_begun" (defArgs s__law_begun) (defBody s__law_begun) (defScope s__law_begun) .none kV_33 dc_33 pm_33 an_33 cd_33 ct_33), sl_33⟩) (c_33 : PySem.W.codeIn K cd_33 "_law_begun" = true) (k_33 : PySem.W.keepIn K (.ref f_33) = true)
    (a_34 : PySem.W.nsIn K mainGlobals "_law_shape" = some (some (.ref f_34))) (l_34 : K.lookup f_34 = some ⟨oc_34, od_34, .func (PySem.W.fnOf "_law_shape" "_law_shape" (defArgs s__law_shape) (defBody s__law_shape) (defScope s__law_shape) .none kV_34 dc_34 pm_34 an_34 cd_34 ct_34), sl_34⟩) (c_34 : PySem.W.codeIn K cd_34 "_law_shape" = true) (k_34 : PySem.W.keepIn K (.ref f_34) = true)
    (a_35 : PySem.W.nsIn K mainGlobals "_law_ring" = some (some (.ref f_35))) (l_35 : K.lookup f_35 = some ⟨oc_35, od_35, .func (PySem.W.fnOf "_law_ring" "_law_ring" (defArgs s__law_ring) (defBody s__law_ring) (defScope s__law_ring) .none kV_35 dc_35 pm_35 an_35 cd_35 ct_35), sl_35⟩) (c_35 : PySem.W.codeIn K cd_35 "_law_ring" = true) (k_35 : PySem.W.keepIn K (.ref f_35) = true)
    (a_36 : PySem.W.nsIn K mainGlobals "_law_on" = some (some (.ref f_36))) (l_36 : K.lookup f_36 = some ⟨oc_36, od_36, .func (PySem.W.fnOf "_law_on" "_law_on" (defArgs s__law_on) (defBody s__law_on) (defScope s__law_on) .none kV_36 dc_36 pm_36 an_36 cd_36 ct_36), sl_36⟩) (c_36 : PySem.W.codeIn K cd_36 "_law_on" = true) (k_36 : PySem.W.keepIn K (.ref f_36) = true)
    (a_37 : PySem.W.nsIn K mainGlobals "_law_sides" = some (some (.ref f_37))) (l_37 : K.lookup f_37 = some ⟨oc_37, od_37, .func (PySem.W.fnOf "_law_sides" "_law_sides" (defArgs s__law_sides) (defBody s__law_sides) (defScope s__law_sides) .none kV_37 dc_37 pm_37 an_37 cd_37 ct_37), sl_37⟩) (c_37 : PySem.W.codeIn K cd_37 "_law_sides" = true) (k_37 : PySem.W.keepIn K (.ref f_37) = true)
    (a_38 : PySem.W.nsIn K mainGlobals "_law_meet" = some (some (.ref f_38))) (l_38 : K.lookup f_38 = some ⟨oc_38, od_38, .func (PySem.W.fnOf "_law_meet" "_law_meet" (defArgs s__law_meet) (defBody s__law_meet) (defScope s__law_meet) .none kV_38 dc_38 pm_38 an_38 cd_38 ct_38), sl_38⟩) (c_38 : PySem.W.codeIn K cd_38 "_law_meet" = true) (k_38 : PySem.W.keepIn K (.ref f_38) = true)
    (a_39 : PySem.W.nsIn K mainGlobals "_law_place" = some (some (.ref f_39))) (l_39 : K.lookup f_39 = some ⟨oc_39, od_39, .func (PySem.W.fnOf "_law_place" "_law_place" (defArgs s__law_place) (defBody s__law_place) (defScope s__law_place) .none kV_39 dc_39 pm_39 an_39 cd_39 ct_39), sl_39⟩) (c_39 : PySem.W.codeIn K cd_39 "_law_place" = true) (k_39 : PySem.W.keepIn K (.ref f_39) = true)
    (a_40 : PySem.W.nsIn K mainGlobals "_law_square" = some (some (.ref f_40))) (l_40 : K.lookup f_40 = some ⟨oc_40, od_40, .func (PySem.W.fnOf "_law_square" "_law_square" (defArgs s__law_square) (defBody s__law_square) (defScope s__law_square) .none kV_40 dc_40 pm_40 an_40 cd_40 ct_40), sl_40⟩) (c_40 : PySem.W.codeIn K cd_40 "_law_square" = true) (k_40 : PySem.W.keepIn K (.ref f_40) = true)
    (a_41 : PySem.W.nsIn K mainGlobals "_law_foot" = some (some (.ref f_41))) (l_41 : K.lookup f_41 = some ⟨oc_41, od_41, .func (PySem.W.fnOf "_law_foot" "_law_foot" (defArgs s__law_foot) (defBody s__law_foot) (defScope s__law_foot) .none kV_41 dc_41 pm_41 an_41 cd_41 ct_41), sl_41⟩) (c_41 : PySem.W.codeIn K cd_41 "_law_foot" = true) (k_41 : PySem.W.keepIn K (.ref f_41) = true)
    (a_42 : PySem.W.nsIn K mainGlobals "_law_near" = some (some (.ref f_42))) (l_42 : K.lookup f_42 = some ⟨oc_42, od_42, .func (PySem.W.fnOf "_law_near" "_law_near" (defArgs s__law_near) (defBody s__law_near) (defScope s__law_near) .none kV_42 dc_42 pm_42 an_42 cd_42 ct_42), sl_42⟩) (c_42 : PySem.W.codeIn K cd_42 "_law_near" = true) (k_42 : PySem.W.keepIn K (.ref f_42) = true)
    (a_43 : PySem.W.nsIn K mainGlobals "law" = some (some (.ref f_43))) (l_43 : K.lookup f_43 = some ⟨oc_43, od_43, .func (PySem.W.fnOf "law" "law" (defArgs s_law) (defBody s_law) (defScope s_law) .none kV_43 dc_43 pm_43 an_43 cd_43 ct_43), sl_43⟩) (c_43 : PySem.W.codeIn K cd_43 "law" = true) (k_43 : PySem.W.keepIn K (.ref f_43) = true)
    (z_abs : PySem.W.nsIn K mainGlobals "abs" = some none)
    (z_any : PySem.W.nsIn K mainGlobals "any" = some none)
    (z_bool : PySem.W.nsIn K mainGlobals "bool" = some none)
    (z_int : PySem.W.nsIn K mainGlobals "int" = some none)
    (z_isinstance : PySem.W.nsIn K mainGlobals "isinstance" = some none)
    (z_len : PySem.W.nsIn K mainGlobals "len" = some none)
    (z_list : PySem.W.nsIn K mainGlobals "list" = some none)
    (z_max : PySem.W.nsIn K mainGlobals "max" = some none)
    (z_min : PySem.W.nsIn K mainGlobals "min" = some none)
    (z_range : PySem.W.nsIn K mainGlobals "range" = some none)
    (z_repr : PySem.W.nsIn K mainGlobals "repr" = some none)
    (z_str : PySem.W.nsIn K mainGlobals "str" = some none)
    (z_tuple : PySem.W.nsIn K mainGlobals "tuple" = some none)
    (y_gcd : PySem.W.nsIn K mainGlobals "gcd" = some (some (.builtin "math.gcd")))
    {q_ZERO_0_t : Tok}
    {q_ZERO_1_t : Tok}
    {q_ZERO_a : Addr} {q_ZERO_d : Option Addr} {q_ZERO_n : Nat} {q_ZERO_s : Array (Option Value)}
    (q_ZERO : PySem.W.nsIn K mainGlobals "ZERO" = some (some (.ref q_ZERO_a)))
    (q_ZERO_l : K.lookup q_ZERO_a = some ⟨.type "tuple", q_ZERO_d, .seq ⟨[.int (0) q_ZERO_0_t, .int (1) q_ZERO_1_t]⟩ q_ZERO_n, q_ZERO_s⟩) :
    ∃ fd : FuncData, (∀ (s : Shared) (v : Value), BindsTo s fd ⟨[v], []⟩ [("script", v)]) ∧ ∀ base : Heap, K.In base → base.Ns mainGlobals mg → LawOk l.prog w K mg base fa fd ["script"] m_law := by
  have e := hfa.symm.trans (PySem.W.mg_of X GX a_43)
  cases e
  have F_0 := fun_mk (st := s_fraction) l_0 c_0 k_0
  have g_0 := PySem.W.mg_of X GX a_0
  have b_0 := F_0.binds (ps := ["top", "bottom"]) fun _ _ _ _ _ _ us hl => match us, hl with | [_, _], _ => rfl
  have F_1 := fun_mk (st := s_whole) l_1 c_1 k_1
  have g_1 := PySem.W.mg_of X GX a_1
  have b_1 := F_1.binds (ps := ["number"]) fun _ _ _ _ _ _ us hl => match us, hl with | [_], _ => rfl
  have F_2 := fun_mk (st := s_minus) l_2 c_2 k_2
  have g_2 := PySem.W.mg_of X GX a_2
  have b_2 := F_2.binds (ps := ["one", "other"]) fun _ _ _ _ _ _ us hl => match us, hl with | [_, _], _ => rfl
  have F_3 := fun_mk (st := s_times) l_3 c_3 k_3
  have g_3 := PySem.W.mg_of X GX a_3
  have b_3 := F_3.binds (ps := ["one", "other"]) fun _ _ _ _ _ _ us hl => match us, hl with | [_, _], _ => rfl
  have F_4 := fun_mk (st := s_is_less) l_4 c_4 k_4
  have g_4 := PySem.W.mg_of X GX a_4
  have b_4 := F_4.binds (ps := ["one", "other"]) fun _ _ _ _ _ _ us hl => match us, hl with | [_, _], _ => rfl
  have F_5 := fun_mk (st := s_lesser) l_5 c_5 k_5
  have g_5 := PySem.W.mg_of X GX a_5
  have b_5 := F_5.binds (ps := ["one", "other"]) fun _ _ _ _ _ _ us hl => match us, hl with | [_, _], _ => rfl
  have F_6 := fun_mk (st := s_turn) l_6 c_6 k_6
  have g_6 := PySem.W.mg_of X GX a_6
  have b_6 := F_6.binds (ps := ["a", "b", "c"]) fun _ _ _ _ _ _ us hl => match us, hl with | [_, _, _], _ => rfl
  have F_7 := fun_mk (st := s_spot_of) l_7 c_7 k_7
  have g_7 := PySem.W.mg_of X GX a_7
  have b_7 := F_7.binds (ps := ["stone"]) fun _ _ _ _ _ _ us hl => match us, hl with | [_], _ => rfl
  have F_8 := fun_mk (st := s_wide_turn) l_8 c_8 k_8
  have g_8 := PySem.W.mg_of X GX a_8
  have b_8 := F_8.binds (ps := ["a", "b", "c"]) fun _ _ _ _ _ _ us hl => match us, hl with | [_, _, _], _ => rfl
  have F_9 := fun_mk (st := s_sides_of) l_9 c_9 k_9
  have g_9 := PySem.W.mg_of X GX a_9
  have b_9 := F_9.binds (ps := ["ring"]) fun _ _ _ _ _ _ us hl => match us, hl with | [_], _ => rfl
  have F_10 := fun_mk (st := s_is_on) l_10 c_10 k_10
  have g_10 := PySem.W.mg_of X GX a_10
  have b_10 := F_10.binds (ps := ["p", "q", "stone"]) fun _ _ _ _ _ _ us hl => match us, hl with | [_, _, _], _ => rfl
  have F_11 := fun_mk (st := s_parts_them) l_11 c_11 k_11
  have g_11 := PySem.W.mg_of X GX a_11
  have b_11 := F_11.binds (ps := ["p", "q", "r", "s"]) fun _ _ _ _ _ _ us hl => match us, hl with | [_, _, _, _], _ => rfl
  have F_12 := fun_mk (st := s_have_common) l_12 c_12 k_12
  have g_12 := PySem.W.mg_of X GX a_12
  have b_12 := F_12.binds (ps := ["p", "q", "r", "s"]) fun _ _ _ _ _ _ us hl => match us, hl with | [_, _, _, _], _ => rfl
  have F_13 := fun_mk (st := s_is_between) l_13 c_13 k_13
  have g_13 := PySem.W.mg_of X GX a_13
  have b_13 := F_13.binds (ps := ["one", "other", "value"]) fun _ _ _ _ _ _ us hl => match us, hl with | [_, _, _], _ => rfl
  have F_14 := fun_mk (st := s_is_spot_on) l_14 c_14 k_14
  have g_14 := PySem.W.mg_of X GX a_14
  have b_14 := F_14.binds (ps := ["p", "q", "spot"]) fun _ _ _ _ _ _ us hl => match us, hl with | [_, _, _], _ => rfl
  have F_15 := fun_mk (st := s_is_crossed) l_15 c_15 k_15
  have g_15 := PySem.W.mg_of X GX a_15
  have b_15 := F_15.binds (ps := ["p", "q", "spot"]) fun _ _ _ _ _ _ us hl => match us, hl with | [_, _, _], _ => rfl
  have F_16 := fun_mk (st := s_place_of) l_16 c_16 k_16
  have g_16 := PySem.W.mg_of X GX a_16
  have b_16 := F_16.binds (ps := ["parcel", "spot"]) fun _ _ _ _ _ _ us hl => match us, hl with | [_, _], _ => rfl
  have F_17 := fun_mk (st := s_square) l_17 c_17 k_17
  have g_17 := PySem.W.mg_of X GX a_17
  have b_17 := F_17.binds (ps := ["one", "other"]) fun _ _ _ _ _ _ us hl => match us, hl with | [_, _], _ => rfl
  have F_18 := fun_mk (st := s_distance_square) l_18 c_18 k_18
  have g_18 := PySem.W.mg_of X GX a_18
  have b_18 := F_18.binds (ps := ["stone", "one", "other"]) fun _ _ _ _ _ _ us hl => match us, hl with | [_, _, _], _ => rfl
  have F_19 := fun_mk (st := s_least_of) l_19 c_19 k_19
  have g_19 := PySem.W.mg_of X GX a_19
  have b_19 := F_19.binds (ps := ["numbers"]) fun _ _ _ _ _ _ us hl => match us, hl with | [_], _ => rfl
  have F_20 := fun_mk (st := s_near_square) l_20 c_20 k_20
  have g_20 := PySem.W.mg_of X GX a_20
  have b_20 := F_20.binds (ps := ["one", "other", "parcel"]) fun _ _ _ _ _ _ us hl => match us, hl with | [_, _, _], _ => rfl
  have F_21 := fun_mk (st := s_touches) l_21 c_21 k_21
  have g_21 := PySem.W.mg_of X GX a_21
  have b_21 := F_21.binds (ps := ["road", "reach", "parcel"]) fun _ _ _ _ _ _ us hl => match us, hl with | [_, _, _], _ => rfl
  have F_22 := fun_mk (st := s__law_cell) l_22 c_22 k_22
  have g_22 := PySem.W.mg_of X GX a_22
  have b_22 := F_22.binds (ps := ["script", "k"]) fun _ _ _ _ _ _ us hl => match us, hl with | [_, _], _ => rfl
  have F_23 := fun_mk (st := s__law_numbers) l_23 c_23 k_23
  have g_23 := PySem.W.mg_of X GX a_23
  have b_23 := F_23.binds (ps := ["cell", "count", "limit"]) fun _ _ _ _ _ _ us hl => match us, hl with | [_, _, _], _ => rfl
  have F_24 := fun_mk (st := s__law_common) l_24 c_24 k_24
  have g_24 := PySem.W.mg_of X GX a_24
  have b_24 := F_24.binds (ps := ["one", "other"]) fun _ _ _ _ _ _ us hl => match us, hl with | [_, _], _ => rfl
  have F_25 := fun_mk (st := s__law_frac) l_25 c_25 k_25
  have g_25 := PySem.W.mg_of X GX a_25
  have b_25 := F_25.binds (ps := ["top", "bottom"]) fun _ _ _ _ _ _ us hl => match us, hl with | [_, _], _ => rfl
  have F_26 := fun_mk (st := s__law_plus) l_26 c_26 k_26
  have g_26 := PySem.W.mg_of X GX a_26
  have b_26 := F_26.binds (ps := ["one", "other"]) fun _ _ _ _ _ _ us hl => match us, hl with | [_, _], _ => rfl
  have F_27 := fun_mk (st := s__law_minus) l_27 c_27 k_27
  have g_27 := PySem.W.mg_of X GX a_27
  have b_27 := F_27.binds (ps := ["one", "other"]) fun _ _ _ _ _ _ us hl => match us, hl with | [_, _], _ => rfl
  have F_28 := fun_mk (st := s__law_times) l_28 c_28 k_28
  have g_28 := PySem.W.mg_of X GX a_28
  have b_28 := F_28.binds (ps := ["one", "other"]) fun _ _ _ _ _ _ us hl => match us, hl with | [_, _], _ => rfl
  have F_29 := fun_mk (st := s__law_less) l_29 c_29 k_29
  have g_29 := PySem.W.mg_of X GX a_29
  have b_29 := F_29.binds (ps := ["one", "other"]) fun _ _ _ _ _ _ us hl => match us, hl with | [_, _], _ => rfl
  have F_30 := fun_mk (st := s__law_turn) l_30 c_30 k_30
  have g_30 := PySem.W.mg_of X GX a_30
  have b_30 := F_30.binds (ps := ["a", "b", "c"]) fun _ _ _ _ _ _ us hl => match us, hl with | [_, _, _], _ => rfl
  have F_31 := fun_mk (st := s__law_same) l_31 c_31 k_31
  have g_31 := PySem.W.mg_of X GX a_31
  have b_31 := F_31.binds (ps := ["told", "due"]) fun _ _ _ _ _ _ us hl => match us, hl with | [_, _], _ => rfl
  have F_32 := fun_mk (st := s__law_spot) l_32 c_32 k_32
  have g_32 := PySem.W.mg_of X GX a_32
  have b_32 := F_32.binds (ps := ["stone"]) fun _ _ _ _ _ _ us hl => match us, hl with | [_], _ => rfl
  have F_33 := fun_mk (st := s__law_begun) l_33 c_33 k_33
  have g_33 := PySem.W.mg_of X GX a_33
  have b_33 := F_33.binds (ps := ["ring"]) fun _ _ _ _ _ _ us hl => match us, hl with | [_], _ => rfl
  have F_34 := fun_mk (st := s__law_shape) l_34 c_34 k_34
  have g_34 := PySem.W.mg_of X GX a_34
  have b_34 := F_34.binds (ps := ["draws", "at"]) fun _ _ _ _ _ _ us hl => match us, hl with | [_, _], _ => rfl
  have F_35 := fun_mk (st := s__law_ring) l_35 c_35 k_35
  have g_35 := PySem.W.mg_of X GX a_35
  have b_35 := F_35.binds (ps := ["draws", "at"]) fun _ _ _ _ _ _ us hl => match us, hl with | [_, _], _ => rfl
  have F_36 := fun_mk (st := s__law_on) l_36 c_36 k_36
  have g_36 := PySem.W.mg_of X GX a_36
  have b_36 := F_36.binds (ps := ["p", "q", "stone"]) fun _ _ _ _ _ _ us hl => match us, hl with | [_, _, _], _ => rfl
  have F_37 := fun_mk (st := s__law_sides) l_37 c_37 k_37
  have g_37 := PySem.W.mg_of X GX a_37
  have b_37 := F_37.binds (ps := ["ring"]) fun _ _ _ _ _ _ us hl => match us, hl with | [_], _ => rfl
  have F_38 := fun_mk (st := s__law_meet) l_38 c_38 k_38
  have g_38 := PySem.W.mg_of X GX a_38
  have b_38 := F_38.binds (ps := ["one", "other"]) fun _ _ _ _ _ _ us hl => match us, hl with | [_, _], _ => rfl
  have F_39 := fun_mk (st := s__law_place) l_39 c_39 k_39
  have g_39 := PySem.W.mg_of X GX a_39
  have b_39 := F_39.binds (ps := ["ring", "x", "y", "scale"]) fun _ _ _ _ _ _ us hl => match us, hl with | [_, _, _, _], _ => rfl
  have F_40 := fun_mk (st := s__law_square) l_40 c_40 k_40
  have g_40 := PySem.W.mg_of X GX a_40
  have b_40 := F_40.binds (ps := ["one", "other"]) fun _ _ _ _ _ _ us hl => match us, hl with | [_, _], _ => rfl
  have F_41 := fun_mk (st := s__law_foot) l_41 c_41 k_41
  have g_41 := PySem.W.mg_of X GX a_41
  have b_41 := F_41.binds (ps := ["stone", "one", "other"]) fun _ _ _ _ _ _ us hl => match us, hl with | [_, _, _], _ => rfl
  have F_42 := fun_mk (st := s__law_near) l_42 c_42 k_42
  have g_42 := PySem.W.mg_of X GX a_42
  have b_42 := F_42.binds (ps := ["one", "other", "ring"]) fun _ _ _ _ _ _ us hl => match us, hl with | [_, _, _], _ => rfl
  have F_43 := fun_mk (st := s_law) l_43 c_43 k_43
  have g_43 := PySem.W.mg_of X GX a_43
  have b_43 := F_43.binds (ps := ["script"]) fun _ _ _ _ _ _ us hl => match us, hl with | [_], _ => rfl
  refine ⟨PySem.W.fnOf "law" "law" (defArgs s_law) (defBody s_law) (defScope s_law) .none kV_43 dc_43 pm_43 an_43 cd_43 ct_43, fun s v => .of_eq rfl, fun base _ _ => ?_⟩
  have M : Facts K mg := ⟨PySem.W.mg_none_of X GX z_abs, PySem.W.mg_none_of X GX z_any, PySem.W.mg_none_of X GX z_bool, PySem.W.mg_none_of X GX z_int, PySem.W.mg_none_of X GX z_isinstance, PySem.W.mg_none_of X GX z_len, PySem.W.mg_none_of X GX z_list, PySem.W.mg_none_of X GX z_max, PySem.W.mg_none_of X GX z_min, PySem.W.mg_none_of X GX z_range, PySem.W.mg_none_of X GX z_repr, PySem.W.mg_none_of X GX z_str, PySem.W.mg_none_of X GX z_tuple, PySem.W.mg_of X GX y_gcd, kst_mk (PySem.W.mg_of X GX q_ZERO) (ki_tup q_ZERO_l (kis_cons ki_int (kis_cons ki_int kis_nil)))⟩
  have C_fraction : Cal l.prog w K mg base "fraction" 1 m_fraction := cal_mk F_0 g_0 b_0 (ok_fraction M F_0)
  have C_whole : Cal l.prog w K mg base "whole" 1 m_whole := cal_mk F_1 g_1 b_1 (ok_whole M F_1)
  have C_minus : Cal l.prog w K mg base "minus" 2 m_minus := cal_mk F_2 g_2 b_2 (ok_minus M C_fraction F_2)
  have C_times : Cal l.prog w K mg base "times" 2 m_times := cal_mk F_3 g_3 b_3 (ok_times M C_fraction F_3)
  have C_is_less : Cal l.prog w K mg base "is_less" 1 m_is_less := cal_mk F_4 g_4 b_4 (ok_is_less M F_4)
  have C_lesser : Cal l.prog w K mg base "lesser" 2 m_lesser := cal_mk F_5 g_5 b_5 (ok_lesser M C_is_less F_5)
  have C_turn : Cal l.prog w K mg base "turn" 1 m_turn := cal_mk F_6 g_6 b_6 (ok_turn M F_6)
  have C_spot_of : Cal l.prog w K mg base "spot_of" 2 m_spot_of := cal_mk F_7 g_7 b_7 (ok_spot_of M C_whole F_7)
  have C_wide_turn : Cal l.prog w K mg base "wide_turn" 3 m_wide_turn := cal_mk F_8 g_8 b_8 (ok_wide_turn M C_minus C_times F_8)
  have C_sides_of : Cal l.prog w K mg base "sides_of" 1 m_sides_of := cal_mk F_9 g_9 b_9 (ok_sides_of M F_9)
  have C_is_on : Cal l.prog w K mg base "is_on" 2 m_is_on := cal_mk F_10 g_10 b_10 (ok_is_on M C_turn F_10)
  have C_parts_them : Cal l.prog w K mg base "parts_them" 2 m_parts_them := cal_mk F_11 g_11 b_11 (ok_parts_them M C_turn F_11)
  have C_have_common : Cal l.prog w K mg base "have_common" 3 m_have_common := cal_mk F_12 g_12 b_12 (ok_have_common M C_is_on C_parts_them F_12)
  have C_is_between : Cal l.prog w K mg base "is_between" 2 m_is_between := cal_mk F_13 g_13 b_13 (ok_is_between M C_is_less C_whole F_13)
  have C_is_spot_on : Cal l.prog w K mg base "is_spot_on" 4 m_is_spot_on := cal_mk F_14 g_14 b_14 (ok_is_spot_on M C_is_between C_spot_of C_wide_turn F_14)
  have C_is_crossed : Cal l.prog w K mg base "is_crossed" 4 m_is_crossed := cal_mk F_15 g_15 b_15 (ok_is_crossed M C_is_less C_spot_of C_whole C_wide_turn F_15)
  have C_place_of : Cal l.prog w K mg base "place_of" 5 m_place_of := cal_mk F_16 g_16 b_16 (ok_place_of M C_is_crossed C_is_spot_on C_sides_of F_16)
  have C_square : Cal l.prog w K mg base "square" 1 m_square := cal_mk F_17 g_17 b_17 (ok_square M F_17)
  have C_distance_square : Cal l.prog w K mg base "distance_square" 2 m_distance_square := cal_mk F_18 g_18 b_18 (ok_distance_square M C_fraction C_square C_turn C_whole F_18)
  have C_least_of : Cal l.prog w K mg base "least_of" 3 m_least_of := cal_mk F_19 g_19 b_19 (ok_least_of M C_lesser F_19)
  have C_near_square : Cal l.prog w K mg base "near_square" 6 m_near_square := cal_mk F_20 g_20 b_20 (ok_near_square M C_distance_square C_have_common C_least_of C_place_of C_sides_of C_spot_of F_20)
  have C_touches : Cal l.prog w K mg base "touches" 7 m_touches := cal_mk F_21 g_21 b_21 (ok_touches M C_is_less C_near_square C_whole F_21)
  have C__law_cell : Cal l.prog w K mg base "_law_cell" 1 m__law_cell := cal_mk F_22 g_22 b_22 (ok__law_cell M F_22)
  have C__law_numbers : Cal l.prog w K mg base "_law_numbers" 1 m__law_numbers := cal_mk F_23 g_23 b_23 (ok__law_numbers M F_23)
  have C__law_common : Cal l.prog w K mg base "_law_common" 1 m__law_common := cal_mk F_24 g_24 b_24 (ok__law_common M F_24)
  have C__law_frac : Cal l.prog w K mg base "_law_frac" 2 m__law_frac := cal_mk F_25 g_25 b_25 (ok__law_frac M C__law_common F_25)
  have C__law_plus : Cal l.prog w K mg base "_law_plus" 3 m__law_plus := cal_mk F_26 g_26 b_26 (ok__law_plus M C__law_frac F_26)
  have C__law_minus : Cal l.prog w K mg base "_law_minus" 3 m__law_minus := cal_mk F_27 g_27 b_27 (ok__law_minus M C__law_frac F_27)
  have C__law_times : Cal l.prog w K mg base "_law_times" 3 m__law_times := cal_mk F_28 g_28 b_28 (ok__law_times M C__law_frac F_28)
  have C__law_less : Cal l.prog w K mg base "_law_less" 1 m__law_less := cal_mk F_29 g_29 b_29 (ok__law_less M F_29)
  have C__law_turn : Cal l.prog w K mg base "_law_turn" 1 m__law_turn := cal_mk F_30 g_30 b_30 (ok__law_turn M F_30)
  have C__law_same : Cal l.prog w K mg base "_law_same" 12 (m__law_same 12) := cal_mk F_31 g_31 b_31 ((ok__law_same M F_31 g_31 b_31 12).mono (by decide))
  have C__law_spot : Cal l.prog w K mg base "_law_spot" 1 m__law_spot := cal_mk F_32 g_32 b_32 (ok__law_spot M F_32)
  have C__law_begun : Cal l.prog w K mg base "_law_begun" 1 m__law_begun := cal_mk F_33 g_33 b_33 (ok__law_begun M F_33)
  have C__law_shape : Cal l.prog w K mg base "_law_shape" 1 m__law_shape := cal_mk F_34 g_34 b_34 (ok__law_shape M F_34)
  have C__law_ring : Cal l.prog w K mg base "_law_ring" 2 m__law_ring := cal_mk F_35 g_35 b_35 (ok__law_ring M C__law_begun C__law_shape F_35)
  have C__law_on : Cal l.prog w K mg base "_law_on" 2 m__law_on := cal_mk F_36 g_36 b_36 (ok__law_on M C__law_turn F_36)
  have C__law_sides : Cal l.prog w K mg base "_law_sides" 1 m__law_sides := cal_mk F_37 g_37 b_37 (ok__law_sides M F_37)
  have C__law_meet : Cal l.prog w K mg base "_law_meet" 3 m__law_meet := cal_mk F_38 g_38 b_38 (ok__law_meet M C__law_on C__law_turn F_38)
  have C__law_place : Cal l.prog w K mg base "_law_place" 3 m__law_place := cal_mk F_39 g_39 b_39 (ok__law_place M C__law_on C__law_sides C__law_turn F_39)
  have C__law_square : Cal l.prog w K mg base "_law_square" 4 m__law_square := cal_mk F_40 g_40 b_40 (ok__law_square M C__law_minus C__law_plus C__law_times F_40)
  have C__law_foot : Cal l.prog w K mg base "_law_foot" 4 m__law_foot := cal_mk F_41 g_41 b_41 (ok__law_foot M C__law_frac C__law_plus C__law_times F_41)
  have C__law_near : Cal l.prog w K mg base "_law_near" 5 m__law_near := cal_mk F_42 g_42 b_42 (ok__law_near M C__law_foot C__law_less C__law_meet C__law_place C__law_sides C__law_spot C__law_square F_42)
  exact ok_law M C__law_cell C__law_foot C__law_frac C__law_less C__law_near C__law_numbers C__law_ring C__law_same C__law_sides C__law_spot C__law_square C_distance_square C_near_square C_touches F_43
end G

/-! ### the helpers that every law has -/
namespace G
open PySem PySem.Spec L2 PV
set_option autoImplicit false
set_option linter.all false
theorem cell_spec (ns : List Int) (k : Nat) (h : k < ns.length ∨ ns.length ≤ k) : ∃ c : Int, m__law_cell [.list (ns.map PyData.int), .int (k : Int)] = .ok ⟨.int c, false⟩ := by
  by_cases hk : k < ns.length
  · refine ⟨ns[k], ?_⟩
    have e : atI (ns.map PyData.int) (k : Int) = some (.int ns[k]) := by
      rw [atI_map, atI_of (by omega) (by omega)]
      simp [hk]
    simp [m__law_cell, b__law_cell, e, hk]
  · refine ⟨0, ?_⟩
    have : ¬ ((k : Int) < (ns.length : Int)) := by omega
    simp [m__law_cell, b__law_cell, this, hk]

theorem get_lt {ds : List D} {i : Nat} {d : D} (h : ds[i]? = some d) : i < ds.length := (List.getElem?_eq_some_iff.mp h).1
theorem numbers_turn1 (lim c : Int) (ds : List Int) (j : Int) (hl : 0 < lim) (hl2 : lim < 1073741824) (hn : ds.length < 1000) : turn (gNm 4) [1, 4, 5] b__law_numbers_1 (.int j) [.fz (.int c), .no, .fz (.int lim), .own (ds.map PyData.int), .no, .no] =
    .next [.fz (.int (c.fdiv lim)), .no, .fz (.int lim), .own ((ds ++ [c.fmod lim]).map PyData.int), .no, .no] := by
  have h1 : modOk c lim = true := by simp [modOk]; omega
  have h2 : divOk c lim = true := by simp [divOk]; omega
  have h3 : ds.length < 1000000 := by omega
  simp [turn, b__law_numbers_1, h1, h2, h3]
theorem numbers_turn2 (lim c : Int) (ds : List Int) (j : Nat) (hl : 0 < lim) (hl2 : lim < 1073741824) (hn : ds.length < 1000) (hj : j < 1000) : ∃ z : Int, (0 ≤ z ∧ z < lim) ∧ turn (gNm 4) [1, 4, 5] b__law_numbers_2 (.int (0 + (j : Int))) [.fz (.int c), .no, .fz (.int lim), .own (ds.map PyData.int), .no, .no] =
    .next [.fz (.int c), .no, .fz (.int lim), .own ((ds ++ [z]).map PyData.int), .no, .no] := by
  have b0 : ∀ a : Int, mulOk a 48271 = true := fun a => by simp [mulOk]
  have b1 : mulOk (j : Int) 69621 = true := by simp [mulOk]
  have b2 : mulOk (j : Int) 16807 = true := by simp [mulOk]
  have b3 : ∀ a : Int, mulOk a 40692 = true := fun a => by simp [mulOk]
  have m1 : ∀ a : Int, modOk a 2147483647 = true := fun a => by simp [modOk]
  have m2 : ∀ a : Int, modOk a 2147483399 = true := fun a => by simp [modOk]
  have m3 : ∀ a : Int, modOk a lim = true := fun a => by simp [modOk]; omega
  have d1 : ∀ a : Int, divOk a 32 = true := fun a => by simp [divOk]
  have b4 : ∀ a : Int, mulOk (a.fmod 2147483647) (a.fmod 2147483647) = true := fun a => by
    have h1 : 0 ≤ a.fmod 2147483647 := Int.fmod_nonneg_of_pos a (by decide)
    have h2 : a.fmod 2147483647 < 2147483647 := Int.fmod_lt_of_pos a (by decide)
    have : (a.fmod 2147483647).natAbs < 2 ^ 64 := by omega
    simp [mulOk, this]
  have h3 : ds.length < 1000000 := by omega
  refine ⟨Int.fmod (Int.fdiv (Int.fmod (Int.fmod (c * 48271 + j * 69621 + 7) 2147483647 * Int.fmod (c * 48271 + j * 69621 + 7) 2147483647 + Int.fmod (c * 48271 + j * 69621 + 7) 2147483647 * 40692 + j * 16807 + 11) 2147483399) 32) lim, ⟨Int.fmod_nonneg_of_pos _ hl, Int.fmod_lt_of_pos _ hl⟩, ?_⟩
  simp [turn, b__law_numbers_2, b0, b1, b2, b3, b4, m1, m2, m3, d1, h3]
theorem numbers_spec (c lim : Int) (n : Nat) (hn : n ≤ 999) (hl : 0 < lim) (hl2 : lim < 1073741824) : ∃ ds : List Int, ds.length = n ∧ (∀ d ∈ ds, 0 ≤ d ∧ d < lim) ∧ m__law_numbers [.int c, .int (n : Int), .int lim] = .ok ⟨.list (ds.map PyData.int), true⟩ := by
  have key : ∀ (body : PV.Env → Out), (∀ (c : Int) (ds : List Int) (j : Nat), ds.length < 1000 → j < 1000 → (∀ d ∈ ds, 0 ≤ d ∧ d < lim) → ∃ c' z : Int, (0 ≤ z ∧ z < lim) ∧ turn (gNm 4) [1, 4, 5] body (.int (0 + (j : Int))) [.fz (.int c), .no, .fz (.int lim), .own (ds.map PyData.int), .no, .no] =
      .next [.fz (.int c'), .no, .fz (.int lim), .own ((ds ++ [z]).map PyData.int), .no, .no]) →
      ∃ (c' : Int) (ds : List Int), ds.length = n ∧ (∀ d ∈ ds, 0 ≤ d ∧ d < lim) ∧ forL (gNm 4) [1, 4, 5] body (rangeD 0 n) [.fz (.int c), .no, .fz (.int lim), .own [], .no, .no] = .next [.fz (.int c'), .no, .fz (.int lim), .own (ds.map PyData.int), .no, .no] := by
    intro body hb
    obtain ⟨e, h1, c', ds, rfl, h2, h3⟩ := forL_inv (g := gNm 4) (dead := [1, 4, 5]) (body := body) (ds := rangeD 0 n) (fun i e => ∃ (c' : Int) (ds : List Int), e = [.fz (.int c'), .no, .fz (.int lim), .own (ds.map PyData.int), .no, .no] ∧ ds.length = i ∧ ∀ d ∈ ds, 0 ≤ d ∧ d < lim)
      [.fz (.int c), .no, .fz (.int lim), .own [], .no, .no] ⟨c, [], rfl, rfl, by simp⟩ fun i d e hd ⟨c1, ds, he, h2, h3⟩ => by
        obtain ⟨hi, rfl⟩ := rangeD_get hd
        obtain ⟨c2, z, hz, ht⟩ := hb c1 ds i (by omega) (by omega) h3
        refine ⟨_, by rw [he]; exact ht, c2, ds ++ [z], rfl, by simp [h2], fun d hd => ?_⟩
        rcases List.mem_append.mp hd with hd | hd
        · exact h3 d hd
        · rw [List.mem_singleton] at hd; subst hd; exact hz
    rw [rangeD_length] at h2
    exact ⟨c', ds, h2, h3, h1⟩
  have sm : smallI (n : Int) = true := smallI_nat (by omega)
  have pw : powOk 10 18 = true := by simp [powOk]
  by_cases hc : (1000000000000000000 : Int) ≤ c
  · obtain ⟨c', ds, h1, h2, h3⟩ := key b__law_numbers_1 fun c ds j h _ _ => ⟨c.fdiv lim, c.fmod lim, ⟨Int.fmod_nonneg_of_pos _ hl, Int.fmod_lt_of_pos _ hl⟩, numbers_turn1 lim c ds _ hl hl2 h⟩
    refine ⟨ds, h1, h2, ?_⟩
    simp [m__law_numbers, b__law_numbers, sm, pw, hc, h3]
  · obtain ⟨c', ds, h1, h2, h3⟩ := key b__law_numbers_2 fun c ds j h hj _ => by
      obtain ⟨z, hz, ht⟩ := numbers_turn2 lim c ds j hl hl2 h hj
      exact ⟨c, z, hz, ht⟩
    refine ⟨ds, h1, h2, ?_⟩
    simp [m__law_numbers, b__law_numbers, sm, pw, hc, h3]
/-- two equal data are the same -/
theorem same_refl : ∀ (n : Nat) (d : D), Nice n d → m__law_same n [d, d] = .ok ⟨.bool true, false⟩
  | 0, _, h => h.elim
  | n + 1, .none, _ => by simp [m__law_same, b__law_same]
  | n + 1, .bool b, _ => by simp [m__law_same, b__law_same]
  | n + 1, .int i, _ => by simp [m__law_same, b__law_same]
  | n + 1, .str s, h => by
    have h' : PyData.strOk s = true := h
    simp [m__law_same, b__law_same, gEq_s s s h' h']
  | n + 1, .list xs, h => by
    have hl : xs.length < 1000000 := h.1
    have sm : smallI (xs.length : Int) = true := smallI_nat (by omega)
    have lp : forL (gNm 2) [2] (b__law_same_1 (m__law_same n)) (rangeD 0 xs.length) [.fz (.list xs), .fz (.list xs), .no] = .next [.fz (.list xs), .fz (.list xs), .no] := forL_same fun d hd => by
      obtain ⟨i, hi⟩ := List.mem_iff_getElem?.mp hd
      obtain ⟨hlt, rfl⟩ := rangeD_get hi
      have e : atI xs (i : Int) = some xs[i] := by rw [atI_of (by omega) (by omega)]; simp [hlt]
      have ih := same_refl n xs[i] (h.2 _ (List.getElem_mem hlt))
      simp [turn, b__law_same_1, e, ih]
    simp [m__law_same, b__law_same, sm, lp]
  | n + 1, .tuple xs, h => by
    have hl : xs.length < 1000000 := h.1
    have sm : smallI (xs.length : Int) = true := smallI_nat (by omega)
    have lp : forL (gNm 2) [2] (b__law_same_1 (m__law_same n)) (rangeD 0 xs.length) [.fz (.tuple xs), .fz (.tuple xs), .no] = .next [.fz (.tuple xs), .fz (.tuple xs), .no] := forL_same fun d hd => by
      obtain ⟨i, hi⟩ := List.mem_iff_getElem?.mp hd
      obtain ⟨hlt, rfl⟩ := rangeD_get hi
      have e : atI xs (i : Int) = some xs[i] := by rw [atI_of (by omega) (by omega)]; simp [hlt]
      have ih := same_refl n xs[i] (h.2 _ (List.getElem_mem hlt))
      simp [turn, b__law_same_1, e, ih]
    simp [m__law_same, b__law_same, sm, lp]
  | n + 1, .dict _, h => h.elim
end G

/-! ### the least and the greatest of numbers -/
namespace G
open PySem PySem.Spec L2 PV
set_option autoImplicit false
set_option linter.all false
def mxL : List Int → Int
  | [] => 0
  | a :: r => r.foldl max a
def mnL : List Int → Int
  | [] => 0
  | a :: r => r.foldl min a
theorem foldl_max (l : List Int) (a : Int) : l.foldl max a ∈ a :: l ∧ ∀ b ∈ a :: l, b ≤ l.foldl max a := by
  induction l generalizing a with
  | nil => simp
  | cons y r ih =>
    obtain ⟨h1, h2⟩ := ih (max a y)
    rw [List.foldl_cons]
    refine ⟨?_, fun b hb => ?_⟩
    · rcases List.mem_cons.mp h1 with h1 | h1
      · rw [h1]
        by_cases h : a ≤ y
        · rw [Int.max_eq_right h]; simp
        · rw [Int.max_eq_left (by omega)]; simp
      · exact List.mem_cons_of_mem _ (List.mem_cons_of_mem _ h1)
    · have h3 := h2 _ List.mem_cons_self
      rcases List.mem_cons.mp hb with rfl | hb
      · have := Int.le_max_left b y; omega
      · rcases List.mem_cons.mp hb with rfl | hb
        · have := Int.le_max_right a b; omega
        · exact h2 b (List.mem_cons_of_mem _ hb)
theorem foldl_min (l : List Int) (a : Int) : l.foldl min a ∈ a :: l ∧ ∀ b ∈ a :: l, l.foldl min a ≤ b := by
  induction l generalizing a with
  | nil => simp
  | cons y r ih =>
    obtain ⟨h1, h2⟩ := ih (min a y)
    rw [List.foldl_cons]
    refine ⟨?_, fun b hb => ?_⟩
    · rcases List.mem_cons.mp h1 with h1 | h1
      · rw [h1]
        by_cases h : a ≤ y
        · rw [Int.min_eq_left h]; simp
        · rw [Int.min_eq_right (by omega)]; simp
      · exact List.mem_cons_of_mem _ (List.mem_cons_of_mem _ h1)
    · have h3 := h2 _ List.mem_cons_self
      rcases List.mem_cons.mp hb with rfl | hb
      · have := Int.min_le_left b y; omega
      · rcases List.mem_cons.mp hb with rfl | hb
        · have := Int.min_le_right a b; omega
        · exact h2 b (List.mem_cons_of_mem _ hb)
theorem mxL_mem {l : List Int} (h : l ≠ []) : mxL l ∈ l := match l, h with
  | a :: r, _ => (foldl_max r a).1
theorem le_mxL {l : List Int} {b : Int} (h : b ∈ l) : b ≤ mxL l := match l, h with
  | a :: r, h => (foldl_max r a).2 b h
theorem mnL_mem {l : List Int} (h : l ≠ []) : mnL l ∈ l := match l, h with
  | a :: r, _ => (foldl_min r a).1
theorem mnL_le {l : List Int} {b : Int} (h : b ∈ l) : mnL l ≤ b := match l, h with
  | a :: r, h => (foldl_min r a).2 b h
theorem mxL_le {l : List Int} (h : l ≠ []) (c : Int) : mxL l ≤ c ↔ ∀ b ∈ l, b ≤ c := ⟨fun k b hb => Int.le_trans (le_mxL hb) k, fun k => k _ (mxL_mem h)⟩
theorem le_mnL {l : List Int} (h : l ≠ []) (c : Int) : c ≤ mnL l ↔ ∀ b ∈ l, c ≤ b := ⟨fun k b hb => Int.le_trans k (mnL_le hb), fun k => k _ (mnL_mem h)⟩
theorem depthAll_ints (xs : List Int) : PyData.depthAll (xs.map PyData.int) ≤ 64 := depthAll_le fun d hd => by
  obtain ⟨p, _, rfl⟩ := List.mem_map.mp hd
  simp only [PyData.depth]; omega
theorem int_alike (a b : Int) : PySem.W.alike (.int a) (.int b) = true := PySem.W.DatumOrd.alike (α := Int) a b
theorem max_ints {xs : List Int} (h : xs ≠ []) : gMaxL [.list (xs.map PyData.int)] = .ok (.int (mxL xs)) := by
  cases xs with
  | nil => exact absurd rfl h
  | cons a r =>
    have h1 := alikeL_maps int_alike (a :: r)
    have h2 := noNone_maps (f := PyData.int) (fun x e => by cases e) (a :: r)
    have h3 := depthAll_ints (a :: r)
    have e := PySem.W.maxD_ints a r
    simp only [List.map_cons] at h1 h2 h3 ⊢
    unfold gMaxL gBest
    simp only [h1, h2, h3, and_self, if_true, e]
    rfl
theorem min_ints {xs : List Int} (h : xs ≠ []) : gMinL [.list (xs.map PyData.int)] = .ok (.int (mnL xs)) := by
  cases xs with
  | nil => exact absurd rfl h
  | cons a r =>
    have h1 := alikeL_maps int_alike (a :: r)
    have h2 := noNone_maps (f := PyData.int) (fun x e => by cases e) (a :: r)
    have h3 := depthAll_ints (a :: r)
    have e := PySem.W.minD_ints a r
    simp only [List.map_cons] at h1 h2 h3 ⊢
    unfold gMinL gBest
    simp only [h1, h2, h3, and_self, if_true, e]
    rfl
def leI (a b : Int) : Bool := decide (a ≤ b)
theorem sorted_ints (l : List Int) : gSorted [.list (l.map PyData.int)] = .ok ⟨.list ((l.mergeSort leI).map PyData.int), true⟩ := by
  have h1 : sortableL (l.map PyData.int) = true := by
    unfold sortableL
    simp only [List.all_map, Bool.or_eq_true, List.all_eq_true, Function.comp]
    exact .inr fun x _ => trivial
  have e : (l.map PyData.int).mergeSort leD = (l.mergeSort leI).map PyData.int := (List.map_mergeSort fun a _ b _ => by
    have : PySem.W.dataLt (.int b) (.int a) = decide (b < a) := PySem.W.DatumOrd.lt_eq (α := Int) b a
    simp only [leD, PySem.W.dataLe_eq, this, leI]
    by_cases h : a ≤ b
    · simp [h, Int.not_lt.mpr h]
    · simp [h, Int.not_le.mp h]).symm
  unfold gSorted
  simp only [alikeL_maps int_alike, h1, depthAll_ints, and_self, if_true, e]
theorem lin_leI : LinB leI := ⟨fun a b => by simp only [leI, Bool.or_eq_true, decide_eq_true_eq]; omega, fun a b c h1 h2 => by simp only [leI, decide_eq_true_eq] at *; omega, fun a b h1 h2 => by simp only [leI, decide_eq_true_eq] at *; omega⟩
@[simp] theorem atI_1 {α : Type} (x y : α) (r : List α) : atI (x :: y :: r) 1 = some y := by rw [atI_of (by omega) (by simp only [List.length_cons]; omega)]; rfl
@[simp] theorem atI_2 {α : Type} (x y z : α) (r : List α) : atI (x :: y :: z :: r) 2 = some z := by rw [atI_of (by omega) (by simp only [List.length_cons]; omega)]; rfl
@[simp] theorem atI_3 {α : Type} (x y z w : α) (r : List α) : atI (x :: y :: z :: w :: r) 3 = some w := by rw [atI_of (by omega) (by simp only [List.length_cons]; omega)]; rfl
theorem str_eq {i j : Str} {b : Bool} (hi : PyData.strOk i = true) (hj : PyData.strOk j = true) (h : decide (i = j) = b) : gEq (.str i) (.str j) = .ok (.bool b) := by rw [gEq_s i j hi hj, h]
theorem str_ne {i j : Str} {b : Bool} (hi : PyData.strOk i = true) (hj : PyData.strOk j = true) (h : (!decide (i = j)) = b) : gNe (.str i) (.str j) = .ok (.bool b) := by rw [gNe_s i j hi hj, h]
theorem ePk_set {env : PV.Env} {v : Nat} (h : v < env.length) (d : D) : ePk v (env.set v (.fz d)) = .ok d := by
  simp [ePk, h]
/-! ### draws -/
theorem modOk_pos (a b : Int) (h : 0 < b) : modOk a b = true := by
  have : b ≠ 0 := by omega
  simp [modOk, this]
theorem divOk_pos (a b : Int) (h : 0 < b) (h2 : b < 1073741824) : divOk a b = true := by
  have : b ≠ 0 := by omega
  have h3 : b.natAbs < 1073741824 := by omega
  simp [divOk, this, h3]
theorem mulOk_small (a b : Int) (h : b.natAbs < 18446744073709551616) : mulOk a b = true := by simp [mulOk, h]
theorem mulOk_small' (a b : Int) (h : a.natAbs < 18446744073709551616) : mulOk a b = true := by simp [mulOk, h]
theorem fmod_bd (a b : Int) (h : 0 < b) : 0 ≤ a.fmod b ∧ a.fmod b < b := ⟨Int.fmod_nonneg_of_pos a h, Int.fmod_lt_of_pos a h⟩
def Dr (ds : List Int) (n : Int) : Prop := ∀ i : Int, 0 ≤ i → i < n → ∃ z, 0 ≤ z ∧ atI (ds.map PyData.int) i = some (.int z)
theorem Dr.mk {ds : List Int} {n : Nat} {lim : Int} (h1 : ds.length = n) (h2 : ∀ d ∈ ds, 0 ≤ d ∧ d < lim) : Dr ds n := fun i k1 k2 => ⟨ds[i.toNat]'(by omega), (h2 _ (List.getElem_mem _)).1, by
    rw [atI_map, atI_of k1 (by omega), List.getElem?_eq_getElem (by omega)]
    rfl⟩
end G

/-! ### fractions as rationals -/
namespace G
open PySem PySem.Spec L2 PV
set_option autoImplicit false
set_option linter.all false
def dQ (q : Rat) : D := .tuple [.int q.num, .int (q.den : Int)]
theorem log2_lt' {n k : Nat} (h : n < 2 ^ k) (hk : 0 < k) : n.log2 < k := by
  by_cases h0 : n = 0
  · subst h0; simpa using hk
  · exact (Nat.log2_lt h0).mpr h
theorem divOk_big (a : Int) {g : Nat} (h0 : 0 < g) (h : g < 2 ^ 250) : divOk a (g : Int) = true := by
  have h1 := log2_lt' h (by decide)
  have h2 : g.log2 < 9000 := Nat.lt_trans h1 (by decide)
  unfold divOk
  have h3 : (0 : Int) < (g : Int) := by omega
  simp only [Int.natAbs_natCast, decide_eq_true h2, decide_eq_true h3, Bool.and_self, Bool.or_true]
theorem mulOk_big (a b : Int) (h : a.natAbs < 2 ^ 250) (h' : b.natAbs < 2 ^ 250) : mulOk a b = true := by
  have h1 := log2_lt' h (by decide)
  have h2 := log2_lt' h' (by decide)
  have h3 : a.natAbs.log2 + b.natAbs.log2 < 1000000 := by omega
  unfold mulOk
  simp only [decide_eq_true h3, Bool.or_true]
theorem mulOk_den (a : Int) (d : Nat) (h : d < 2 ^ 60) : mulOk a (d : Int) = true := mulOk_small _ _ (by rw [Int.natAbs_natCast]; exact Nat.lt_trans h (by decide))
theorem mulOk_den' (a : Int) (d : Nat) (h : d < 2 ^ 60) : mulOk (d : Int) a = true := mulOk_small' _ _ (by rw [Int.natAbs_natCast]; exact Nat.lt_trans h (by decide))
theorem den_mul {a b : Nat} (h : a < 2 ^ 60) (h' : b < 2 ^ 60) : a * b < 2 ^ 120 := by
  have : a * b < 2 ^ 60 * 2 ^ 60 := Nat.mul_lt_mul_of_lt_of_lt h h'
  exact this
theorem divInt_parts (t : Int) (b : Nat) (hb : 0 < b) : (Rat.divInt t (b : Int)).num = t.fdiv ((Nat.gcd t.natAbs b : Nat) : Int) ∧ ((Rat.divInt t (b : Int)).den : Int) = (b : Int).fdiv ((Nat.gcd t.natAbs b : Nat) : Int) := by
  have hb' : (b : Int) ≠ 0 := by omega
  have e : (b : Int).gcd t = Nat.gcd t.natAbs b := by
    rw [Int.gcd_eq_natAbs_gcd_natAbs, Int.natAbs_natCast, Nat.gcd_comm]
  refine ⟨?_, ?_⟩
  · rw [Rat.num_divInt, e, Int.sign_eq_one_of_pos (by omega), Int.one_mul, Int.fdiv_eq_ediv_of_nonneg _ (by omega)]
  · rw [Rat.den_divInt, if_neg hb', e, Int.natAbs_natCast, Int.fdiv_eq_ediv_of_nonneg _ (by omega)]
    exact Int.natCast_ediv _ _
theorem rat_add (a b : Rat) : a + b = Rat.divInt (a.num * (b.den : Int) + b.num * (a.den : Int)) ((a.den : Int) * (b.den : Int)) := by
  rw [Rat.add_def', ← Rat.divInt_ofNat, Int.natCast_mul]
theorem rat_sub (a b : Rat) : a - b = Rat.divInt (a.num * (b.den : Int) - b.num * (a.den : Int)) ((a.den : Int) * (b.den : Int)) := by
  rw [Rat.sub_def, Rat.normalize_eq_mkRat, ← Rat.divInt_ofNat, Int.natCast_mul]
theorem rat_mul (a b : Rat) : a * b = Rat.divInt (a.num * b.num) ((a.den : Int) * (b.den : Int)) := by
  rw [Rat.mul_def, Rat.normalize_eq_mkRat, ← Rat.divInt_ofNat, Int.natCast_mul]
theorem dQ_nice (q : Rat) : Nice 2 (dQ q) := Nice.tuple (by simp) fun x hx => by
  simp only [List.mem_cons, List.not_mem_nil, or_false] at hx
  rcases hx with rfl | rfl <;> exact Nice.int
theorem dQ_eqv (a b : Rat) : PyData.eqv (dQ a) (dQ b) = decide (a = b) := by
  rw [Bool.eq_iff_iff]
  simp only [dQ, eqv_t, eqvAll_c, eqvAll_n, eqv_i, Bool.and_true, Bool.and_eq_true, decide_eq_true_eq]
  constructor
  · rintro ⟨h1, h2⟩
    exact Rat.ext h1 (by omega)
  · rintro rfl
    exact ⟨rfl, rfl⟩
theorem gEq_Q (a b : Rat) : gEq (dQ a) (dQ b) = .ok (.bool (decide (a = b))) := by rw [(dQ_nice a).eq (dQ_nice b), dQ_eqv]
theorem gNe_Q (a b : Rat) : gNe (dQ a) (dQ b) = .ok (.bool (!decide (a = b))) := by rw [(dQ_nice a).ne (dQ_nice b), dQ_eqv]
theorem dQ_int (n : Int) : dQ (n : Rat) = .tuple [.int n, .int 1] := rfl
end G

namespace G
open PySem PySem.Spec L2 PV
set_option autoImplicit false
set_option linter.all false
theorem frac_pos (t : Int) (b : Nat) (hb : 0 < b) (hs : b < 2 ^ 200) : m_fraction [.int t, .int (b : Int)] = .ok ⟨dQ (Rat.divInt t (b : Int)), false⟩ := by
  obtain ⟨h1, h2⟩ := divInt_parts t b hb
  have g0 : 0 < Nat.gcd t.natAbs b := Nat.gcd_pos_of_pos_right _ hb
  have g1 : Nat.gcd t.natAbs b < 2 ^ 250 := Nat.lt_of_le_of_lt (Nat.gcd_le_right _ hb) (Nat.lt_trans hs (by decide))
  have d1 := fun a => divOk_big a g0 g1
  have hn : ¬ (b : Int) < 0 := by omega
  have e : dQ (Rat.divInt t (b : Int)) = .tuple [.int (t.fdiv ((Nat.gcd t.natAbs b : Nat) : Int)), .int ((b : Int).fdiv ((Nat.gcd t.natAbs b : Nat) : Int))] := by unfold dQ; rw [h1, h2]
  rw [e]
  simp [m_fraction, b_fraction, hn, d1]
theorem frac_spec (t b : Int) (hb : b ≠ 0) (hs : b.natAbs < 2 ^ 200) : m_fraction [.int t, .int b] = .ok ⟨dQ (Rat.divInt t b), false⟩ := by
  by_cases hn : b < 0
  · have e1 : Rat.divInt t b = Rat.divInt (-t) ((b.natAbs : Nat) : Int) := by
      rw [show ((b.natAbs : Nat) : Int) = -b by omega, Rat.divInt_eq_divInt_iff hb (by omega)]
      rw [Int.neg_mul, Int.mul_neg]
    rw [e1]
    have hb0 : 0 < b.natAbs := by omega
    obtain ⟨h1, h2⟩ := divInt_parts (-t) b.natAbs hb0
    have g0 : 0 < Nat.gcd (-t).natAbs b.natAbs := Nat.gcd_pos_of_pos_right _ hb0
    have g1 : Nat.gcd (-t).natAbs b.natAbs < 2 ^ 250 := Nat.lt_of_le_of_lt (Nat.gcd_le_right _ hb0) (Nat.lt_trans hs (by decide))
    have d1 := fun a => divOk_big a g0 g1
    have e2 : ((b.natAbs : Nat) : Int) = -b := by omega
    have e : dQ (Rat.divInt (-t) ((b.natAbs : Nat) : Int)) = .tuple [.int ((-t).fdiv ((Nat.gcd (-t).natAbs b.natAbs : Nat) : Int)), .int ((-b).fdiv ((Nat.gcd (-t).natAbs b.natAbs : Nat) : Int))] := by
      unfold dQ; rw [h1, h2, e2]
    rw [e]
    simp only [Int.natAbs_neg] at d1 ⊢
    simp [m_fraction, b_fraction, hn, d1]
  · have := frac_pos t b.natAbs (by omega) hs
    rw [show ((b.natAbs : Nat) : Int) = b by omega] at this
    exact this
theorem minus_spec (a b : Rat) (h : a.den < 2 ^ 60) (h' : b.den < 2 ^ 60) : m_minus [dQ a, dQ b] = .ok ⟨dQ (a - b), false⟩ := by
  have f := frac_spec (a.num * (b.den : Int) - b.num * (a.den : Int)) ((a.den : Int) * (b.den : Int)) (by rw [← Int.natCast_mul]; have := Nat.mul_pos (Nat.pos_of_ne_zero a.den_nz) (Nat.pos_of_ne_zero b.den_nz); omega) (by rw [← Int.natCast_mul, Int.natAbs_natCast]; exact Nat.lt_trans (den_mul h h') (by decide))
  rw [← rat_sub] at f
  have m1 := fun z => mulOk_den z _ h
  have m2 := fun z => mulOk_den z _ h'
  have e1 : dQ a = .tuple [.int a.num, .int (a.den : Int)] := rfl
  have e2 : dQ b = .tuple [.int b.num, .int (b.den : Int)] := rfl
  simp [m_minus, b_minus, e1, e2, m1, m2, f]
theorem times_spec (a b : Rat) (h : a.den < 2 ^ 60) (h' : b.den < 2 ^ 60) (k : a.num.natAbs < 2 ^ 250) (k' : b.num.natAbs < 2 ^ 250) : m_times [dQ a, dQ b] = .ok ⟨dQ (a * b), false⟩ := by
  have f := frac_spec (a.num * b.num) ((a.den : Int) * (b.den : Int)) (by rw [← Int.natCast_mul]; have := Nat.mul_pos (Nat.pos_of_ne_zero a.den_nz) (Nat.pos_of_ne_zero b.den_nz); omega) (by rw [← Int.natCast_mul, Int.natAbs_natCast]; exact Nat.lt_trans (den_mul h h') (by decide))
  rw [← rat_mul] at f
  have m2 := fun z => mulOk_den z _ h'
  have m3 := mulOk_big _ _ k k'
  have e1 : dQ a = .tuple [.int a.num, .int (a.den : Int)] := rfl
  have e2 : dQ b = .tuple [.int b.num, .int (b.den : Int)] := rfl
  simp [m_times, b_times, e1, e2, m2, m3, f]
theorem less_spec (a b : Rat) (h : a.den < 2 ^ 60) (h' : b.den < 2 ^ 60) : m_is_less [dQ a, dQ b] = .ok ⟨.bool (decide (a < b)), false⟩ := by
  have m1 := fun z => mulOk_den z _ h
  have m2 := fun z => mulOk_den z _ h'
  have e1 : dQ a = .tuple [.int a.num, .int (a.den : Int)] := rfl
  have e2 : dQ b = .tuple [.int b.num, .int (b.den : Int)] := rfl
  simp [m_is_less, b_is_less, e1, e2, m1, m2, Rat.lt_iff]
end G

namespace G
open PySem PySem.Spec L2 PV
set_option autoImplicit false
set_option linter.all false
theorem half_pos (b r : Int) (h0 : 0 < r) (h1 : r < b) : 0 ≤ b.fmod r ∧ 2 * b.fmod r < b := by
  obtain ⟨k1, k2⟩ := fmod_bd b r h0
  refine ⟨k1, ?_⟩
  have e := Int.fmod_def b r
  have q : 1 ≤ b.fdiv r := by
    by_cases hq : 1 ≤ b.fdiv r
    · exact hq
    · have : r * b.fdiv r ≤ 0 := Int.mul_nonpos_of_nonneg_of_nonpos (by omega) (by omega)
      omega
  have : r * 1 ≤ r * b.fdiv r := Int.mul_le_mul_of_nonneg_left q (by omega)
  omega
theorem gcd_step (a b : Int) : Int.gcd b (a.fmod b) = Int.gcd a b := by
  rw [Int.fmod_def, show a - b * a.fdiv b = a + (-(a.fdiv b)) * b by rw [Int.neg_mul, Int.mul_comm (a.fdiv b) b]; omega, Int.gcd_add_mul_right_right, Int.gcd_comm]
theorem lg_turn0 (a : Int) (d : D) : turn (gNm 2) [2] b__law_common_1 d [.fz (.int a), .fz (.int 0), .no] = .ret ⟨.int a, false⟩ := by
  simp [turn, b__law_common_1]
theorem lg_turn1 (a b : Int) (hb : b ≠ 0) (d : D) : turn (gNm 2) [2] b__law_common_1 d [.fz (.int a), .fz (.int b), .no] = .next [.fz (.int b), .fz (.int (a.fmod b)), .no] := by
  have m : modOk a b = true := by simp [modOk, hb]
  simp [turn, b__law_common_1, hb, m]
theorem lg_loop : ∀ (m : Nat) (a b : Int) (ds : List D), 0 ≤ a → 0 ≤ b → b < 2 ^ m → 2 * m + 1 ≤ ds.length → forL (gNm 2) [2] b__law_common_1 ds [.fz (.int a), .fz (.int b), .no] = .ret ⟨.int (Int.gcd a b : Int), false⟩
  | _, _, _, [], _, _, _, h => absurd h (by simp)
  | m, a, b, d :: ds, ha, hb0, hb, hl => by
    by_cases h0 : b = 0
    · subst h0
      rw [forL_cons, lg_turn0, Int.gcd_zero_right]
      rw [show ((a.natAbs : Nat) : Int) = a by omega]
    · rw [forL_cons, lg_turn1 a b h0]
      simp only
      cases m with
      | zero => simp at hb; omega
      | succ m =>
        match ds, hl with
        | [], hl => simp at hl
        | d2 :: ds, hl =>
          have k := fmod_bd a b (by omega)
          by_cases h1 : a.fmod b = 0
          · have g := gcd_step a b
            rw [h1, Int.gcd_zero_right] at g
            rw [h1, forL_cons, lg_turn0, ← g]
            rw [show ((b.natAbs : Nat) : Int) = b by omega]
          · have t := half_pos b (a.fmod b) (by omega) k.2
            have g1 := gcd_step a b
            have g2 := gcd_step b (a.fmod b)
            rw [forL_cons, lg_turn1 b (a.fmod b) h1]
            simp only
            rw [lg_loop m (a.fmod b) (b.fmod (a.fmod b)) ds (by omega) (by omega) (by rw [Int.pow_succ] at hb; omega) (by simp only [List.length_cons] at hl; omega), g2, g1]
theorem lgcd_spec (a b : Int) (hb : b.natAbs < 2 ^ 190) : m__law_common [.int a, .int b] = .ok ⟨.int (Int.gcd a b : Int), false⟩ := by
  have hb' : (b.natAbs : Int) < 2 ^ 190 := by exact_mod_cast hb
  have l := lg_loop 190 (a.natAbs : Int) (b.natAbs : Int) (rangeD 0 900) (by omega) (by omega) hb' (by rw [rangeD_length]; omega)
  have sm : smallI 900 = true := by decide
  have e : ∀ z : Int, (if z < 0 then -z else z) = (z.natAbs : Int) := fun z => by split <;> omega
  have eg : Int.gcd (a.natAbs : Int) (b.natAbs : Int) = Int.gcd a b := by simp only [Int.gcd_eq_natAbs_gcd_natAbs, Int.natAbs_natCast]
  rw [eg] at l
  simp [m__law_common, b__law_common, sm, e, l]
theorem lfrac_spec (t : Int) (b : Nat) (hb : 0 < b) (hs : b < 2 ^ 190) : m__law_frac [.int t, .int (b : Int)] = .ok ⟨dQ (Rat.divInt t (b : Int)), false⟩ := by
  obtain ⟨h1, h2⟩ := divInt_parts t b hb
  have g0 : 0 < Nat.gcd t.natAbs b := Nat.gcd_pos_of_pos_right _ hb
  have g1 : Nat.gcd t.natAbs b < 2 ^ 250 := Nat.lt_of_le_of_lt (Nat.gcd_le_right _ hb) (Nat.lt_trans hs (by decide))
  have d1 := fun a => divOk_big a g0 g1
  have l := lgcd_spec t b (by rw [Int.natAbs_natCast]; exact hs)
  have eg : Int.gcd t b = Nat.gcd t.natAbs b := by rw [Int.gcd_eq_natAbs_gcd_natAbs, Int.natAbs_natCast]
  rw [eg] at l
  have hn : ¬ (b : Int) < 0 := by omega
  have e : dQ (Rat.divInt t (b : Int)) = .tuple [.int (t.fdiv ((Nat.gcd t.natAbs b : Nat) : Int)), .int ((b : Int).fdiv ((Nat.gcd t.natAbs b : Nat) : Int))] := by unfold dQ; rw [h1, h2]
  rw [e]
  simp [m__law_frac, b__law_frac, l, d1, hn]
theorem lplus_spec (a b : Rat) (h : a.den < 2 ^ 60) (h' : b.den < 2 ^ 60) : m__law_plus [dQ a, dQ b] = .ok ⟨dQ (a + b), false⟩ := by
  have f := lfrac_spec (a.num * (b.den : Int) + b.num * (a.den : Int)) (a.den * b.den) (Nat.mul_pos (Nat.pos_of_ne_zero a.den_nz) (Nat.pos_of_ne_zero b.den_nz)) (Nat.lt_trans (den_mul h h') (by decide))
  rw [Int.natCast_mul, ← rat_add] at f
  have m1 := fun z => mulOk_den z _ h
  have m2 := fun z => mulOk_den z _ h'
  have e1 : dQ a = .tuple [.int a.num, .int (a.den : Int)] := rfl
  have e2 : dQ b = .tuple [.int b.num, .int (b.den : Int)] := rfl
  simp [m__law_plus, b__law_plus, e1, e2, m1, m2, f]
theorem lminus_spec (a b : Rat) (h : a.den < 2 ^ 60) (h' : b.den < 2 ^ 60) : m__law_minus [dQ a, dQ b] = .ok ⟨dQ (a - b), false⟩ := by
  have f := lfrac_spec (a.num * (b.den : Int) - b.num * (a.den : Int)) (a.den * b.den) (Nat.mul_pos (Nat.pos_of_ne_zero a.den_nz) (Nat.pos_of_ne_zero b.den_nz)) (Nat.lt_trans (den_mul h h') (by decide))
  rw [Int.natCast_mul, ← rat_sub] at f
  have m1 := fun z => mulOk_den z _ h
  have m2 := fun z => mulOk_den z _ h'
  have e1 : dQ a = .tuple [.int a.num, .int (a.den : Int)] := rfl
  have e2 : dQ b = .tuple [.int b.num, .int (b.den : Int)] := rfl
  simp [m__law_minus, b__law_minus, e1, e2, m1, m2, f]
theorem ltimes_spec (a b : Rat) (h : a.den < 2 ^ 60) (h' : b.den < 2 ^ 60) (k : a.num.natAbs < 2 ^ 250) (k' : b.num.natAbs < 2 ^ 250) : m__law_times [dQ a, dQ b] = .ok ⟨dQ (a * b), false⟩ := by
  have f := lfrac_spec (a.num * b.num) (a.den * b.den) (Nat.mul_pos (Nat.pos_of_ne_zero a.den_nz) (Nat.pos_of_ne_zero b.den_nz)) (Nat.lt_trans (den_mul h h') (by decide))
  rw [Int.natCast_mul, ← rat_mul] at f
  have m2 := fun z => mulOk_den z _ h'
  have m3 := mulOk_big _ _ k k'
  have e1 : dQ a = .tuple [.int a.num, .int (a.den : Int)] := rfl
  have e2 : dQ b = .tuple [.int b.num, .int (b.den : Int)] := rfl
  simp [m__law_times, b__law_times, e1, e2, m2, m3, f]
theorem lless_spec (a b : Rat) (h : a.den < 2 ^ 60) (h' : b.den < 2 ^ 60) : m__law_less [dQ a, dQ b] = .ok ⟨.bool (decide (a < b)), false⟩ := by
  have m1 := fun z => mulOk_den z _ h
  have m2 := fun z => mulOk_den z _ h'
  have e1 : dQ a = .tuple [.int a.num, .int (a.den : Int)] := rfl
  have e2 : dQ b = .tuple [.int b.num, .int (b.den : Int)] := rfl
  simp [m__law_less, b__law_less, e1, e2, m1, m2, Rat.lt_iff]
end G

/-! ### written pairs, and bounds of bottoms -/
namespace G
open PySem PySem.Spec L2 PV
set_option autoImplicit false
set_option linter.all false
theorem den_divInt_le (a : Int) (b : Nat) (hb : 0 < b) : (Rat.divInt a (b : Int)).den ≤ b := by
  rw [Rat.den_divInt, if_neg (by omega), Int.natAbs_natCast]
  exact Nat.div_le_self _ _
theorem den_add_le (a b : Rat) : (a + b).den ≤ a.den * b.den := by
  rw [rat_add, ← Int.natCast_mul]
  exact den_divInt_le _ _ (Nat.mul_pos (Nat.pos_of_ne_zero a.den_nz) (Nat.pos_of_ne_zero b.den_nz))
theorem den_sub_le (a b : Rat) : (a - b).den ≤ a.den * b.den := by
  rw [rat_sub, ← Int.natCast_mul]
  exact den_divInt_le _ _ (Nat.mul_pos (Nat.pos_of_ne_zero a.den_nz) (Nat.pos_of_ne_zero b.den_nz))
theorem den_mul_le (a b : Rat) : (a * b).den ≤ a.den * b.den := by
  rw [rat_mul, ← Int.natCast_mul]
  exact den_divInt_le _ _ (Nat.mul_pos (Nat.pos_of_ne_zero a.den_nz) (Nat.pos_of_ne_zero b.den_nz))
/-- a pair as it is written: top and bottom -/
abbrev FP := Int × Int
def dF (p : FP) : D := .tuple [.int p.1, .int p.2]
def nrm (p : FP) : Bool := decide (p.2 ≥ 1) && decide (Int.gcd p.1 p.2 = 1)
def toQ (p : FP) : Rat := Rat.divInt p.1 p.2
theorem dF_nrm {p : FP} (h : nrm p = true) : dF p = dQ (toQ p) := by
  simp only [nrm, Bool.and_eq_true, decide_eq_true_eq] at h
  obtain ⟨h1, h2⟩ := h
  have hb : ((p.2.toNat : Nat) : Int) = p.2 := by omega
  obtain ⟨k1, k2⟩ := divInt_parts p.1 p.2.toNat (by omega)
  rw [hb] at k1 k2
  have g : Nat.gcd p.1.natAbs p.2.toNat = 1 := by
    rw [← h2, Int.gcd_eq_natAbs_gcd_natAbs]
    congr 1
    omega
  rw [g] at k1 k2
  unfold dF dQ toQ
  rw [k1, k2]
  simp
def pQ (q : Rat) : FP := (q.num, (q.den : Int))
theorem dF_pQ (q : Rat) : dF (pQ q) = dQ q := rfl
theorem nrm_pQ (q : Rat) : nrm (pQ q) = true := by
  have := q.reduced
  have h := Nat.pos_of_ne_zero q.den_nz
  have k1 : (q.den : Int) ≥ 1 := by omega
  have k2 : Int.gcd q.num (q.den : Int) = 1 := by
    rw [Int.gcd_eq_natAbs_gcd_natAbs, Int.natAbs_natCast]
    exact this
  show (decide ((q.den : Int) ≥ 1) && decide (Int.gcd q.num (q.den : Int) = 1)) = true
  rw [decide_eq_true k1, decide_eq_true k2]
  rfl
theorem toQ_pQ (q : Rat) : toQ (pQ q) = q := by
  have h1 : dF (pQ q) = dQ (toQ (pQ q)) := dF_nrm (nrm_pQ q)
  rw [dF_pQ] at h1
  have h2 := dQ_eqv q (toQ (pQ q))
  rw [← h1, (dQ_nice q).self] at h2
  exact (of_decide_eq_true h2.symm).symm
theorem toQ_den {p : FP} (h : nrm p = true) : ((toQ p).den : Int) = p.2 := by
  have e := dF_nrm h
  unfold dF dQ at e
  have := (PyData.tuple.injEq _ _).mp e
  simp only [List.cons.injEq, PyData.int.injEq] at this
  exact this.2.1.symm
theorem toQ_num {p : FP} (h : nrm p = true) : (toQ p).num = p.1 := by
  have e := dF_nrm h
  unfold dF dQ at e
  have := (PyData.tuple.injEq _ _).mp e
  simp only [List.cons.injEq, PyData.int.injEq] at this
  exact this.1.symm
theorem dF_nice (p : FP) : Nice 2 (dF p) := Nice.tuple (by simp) fun x hx => by
  simp only [List.mem_cons, List.not_mem_nil, or_false] at hx
  rcases hx with rfl | rfl <;> exact Nice.int
def absQ (q : Rat) : Rat := if q < 0 then -q else q
theorem den_absQ (q : Rat) : (absQ q).den = q.den := by
  unfold absQ
  split
  · exact Rat.neg_den q
  · rfl
end G

/-! ### points -/
namespace G
open PySem PySem.Spec L2 PV
set_option autoImplicit false
set_option linter.all false
abbrev Pt := Int × Int
def dP (p : Pt) : D := .tuple [.int p.1, .int p.2]
theorem dP_ap (p : Pt) : dP p = .tuple [.int p.1, .int p.2] := Eq.trans rfl rfl
def nth (hs : List Pt) (i : Nat) : Pt := hs.getD i (0, 0)
theorem nth_mem {hs : List Pt} {i : Nat} (h : i < hs.length) : nth hs i ∈ hs := by
  unfold nth
  rw [List.getD_eq_getElem?_getD, List.getElem?_eq_getElem h]
  exact List.getElem_mem h
theorem at_dP (hs : List Pt) (i : Int) (h0 : 0 ≤ i) (h1 : i < hs.length) : atI (hs.map dP) i = some (dP (nth hs i.toNat)) := by
  unfold nth
  rw [atI_map, atI_of h0 h1, List.getD_eq_getElem?_getD, List.getElem?_eq_getElem (by omega)]
  rfl
theorem at_nat (hs : List Pt) (i : Nat) (h1 : i < hs.length) : atI (hs.map dP) (i : Int) = some (dP (nth hs i)) := at_dP hs i (by omega) (by omega)
theorem dP_nice (p : Pt) : Nice 2 (dP p) := Nice.tuple (by simp) fun x hx => by
  simp only [List.mem_cons, List.not_mem_nil, or_false] at hx
  rcases hx with rfl | rfl <;> exact Nice.int
theorem dP_eqv (a b : Pt) : PyData.eqv (dP a) (dP b) = decide (a = b) := by
  rw [Bool.eq_iff_iff]
  simp only [dP, eqv_t, eqvAll_c, eqvAll_n, eqv_i, Bool.and_true, Bool.and_eq_true, decide_eq_true_eq, Prod.ext_iff]
theorem dPs_nice {hs : List Pt} (h : hs.length < 1000000) : Nice 3 (.list (hs.map dP)) := Nice.map h fun p _ => dP_nice p
theorem dPs_eq {xs ys : List Pt} (h : xs.length < 1000000) (h' : ys.length < 1000000) : gEq (.list (xs.map dP)) (.list (ys.map dP)) = .ok (.bool (decide (xs = ys))) := by
  rw [(dPs_nice h).eq (dPs_nice h'), eqv_l, eqvAll_maps dP_eqv]
theorem dPs_ne {xs ys : List Pt} (h : xs.length < 1000000) (h' : ys.length < 1000000) : gNe (.list (xs.map dP)) (.list (ys.map dP)) = .ok (.bool (!decide (xs = ys))) := by
  rw [(dPs_nice h).ne (dPs_nice h'), eqv_l, eqvAll_maps dP_eqv]
/-- a number of at most 60 bits -/
def sm (x : Int) : Prop := x.natAbs < 2 ^ 60
theorem mulOk_subr {a b : Int} (z : Int) (ha : sm a) (hb : sm b) : mulOk z (a - b) = true := mulOk_small _ _ (by unfold sm at *; omega)
theorem mulOk_subl {a b : Int} (z : Int) (ha : sm a) (hb : sm b) : mulOk (a - b) z = true := mulOk_small' _ _ (by unfold sm at *; omega)
theorem mulOk_sm {a : Int} (z : Int) (ha : sm a) : mulOk z a = true := mulOk_small _ _ (by unfold sm at *; omega)
theorem mulOk_sm' {a : Int} (z : Int) (ha : sm a) : mulOk a z = true := mulOk_small' _ _ (by unfold sm at *; omega)
/-! draws -/
def dg (ds : List Int) (i : Int) : Int := ds.getD i.toNat 0
theorem dg_at {ds : List Int} {n : Nat} (h1 : ds.length = n) (i : Int) (h0 : 0 ≤ i) (h : i < (n : Int)) : atI (ds.map PyData.int) i = some (.int (dg ds i)) := by
  rw [atI_map, atI_of h0 (by omega), List.getElem?_eq_getElem (by omega)]
  unfold dg
  rw [List.getD_eq_getElem?_getD, List.getElem?_eq_getElem (by omega)]
  rfl
theorem dg_bd {ds : List Int} {lim : Int} (h2 : ∀ d ∈ ds, 0 ≤ d ∧ d < lim) (hl : 0 < lim) (i : Int) : 0 ≤ dg ds i ∧ dg ds i < lim := by
  unfold dg
  rw [List.getD_eq_getElem?_getD]
  cases e : ds[i.toNat]? with
  | none => exact ⟨Int.le_refl _, hl⟩
  | some z => exact h2 z (List.mem_of_getElem? e)
/-- .. of a cell -/
theorem numbers_dg (c lim : Int) (n : Nat) (hn : n ≤ 999) (hl : 0 < lim) (hl2 : lim < 1073741824) : ∃ ds : List Int, ds.length = n ∧ (∀ i : Int, 0 ≤ i → i < (n : Int) → atI (ds.map PyData.int) i = some (.int (dg ds i))) ∧ (∀ i, 0 ≤ dg ds i ∧ dg ds i < lim) ∧ (∀ d ∈ ds, 0 ≤ d ∧ d < lim) ∧ m__law_numbers [.int c, .int (n : Int), .int lim] = .ok ⟨.list (ds.map PyData.int), true⟩ := by
  obtain ⟨ds, h1, h2, h3⟩ := numbers_spec c lim n hn hl hl2
  exact ⟨ds, h1, dg_at h1, dg_bd h2 hl, h2, h3⟩
theorem pick3 {z : Int} (h : 0 ≤ z) (h' : z < 3) {α : Type} (a b c : α) : atI [a, b, c] z = some (if z = 0 then a else if z = 1 then b else c) := by
  have : z = 0 ∨ z = 1 ∨ z = 2 := by omega
  rcases this with rfl | rfl | rfl <;> simp
theorem pick4 {z : Int} (h : 0 ≤ z) (h' : z < 4) {α : Type} (a b c d : α) : atI [a, b, c, d] z = some (if z = 0 then a else if z = 1 then b else if z = 2 then c else d) := by
  have : z = 0 ∨ z = 1 ∨ z = 2 ∨ z = 3 := by omega
  rcases this with rfl | rfl | rfl | rfl <;> simp
theorem pick {l : List Int} {z : Int} (h : 0 ≤ z) (h' : z < l.length) : ∃ u ∈ l, atI (l.map PyData.int) z = some (.int u) := by
  refine ⟨l[z.toNat]'(by omega), List.getElem_mem _, ?_⟩
  rw [atI_map, atI_of h h', List.getElem?_eq_getElem (by omega)]
  rfl
end G

/-! ### places by the program, in rational numbers -/
namespace G
open PySem PySem.Spec L2 PV
set_option autoImplicit false
set_option linter.all false
def dS (x y : Rat) : D := .tuple [dQ x, dQ y]
structure Sq (q : Rat) : Prop where
  den : q.den ≤ 10
  num : q.num.natAbs < 2 ^ 60
theorem isub_den (a b : Int) : ((a : Rat) - (b : Rat)).den = 1 := by rw [← Rat.intCast_sub, Rat.den_intCast]
theorem isub_num {a b : Int} (h : a.natAbs < 2 ^ 60) (h' : b.natAbs < 2 ^ 60) : ((a : Rat) - (b : Rat)).num.natAbs < 2 ^ 250 := by
  rw [← Rat.intCast_sub, Rat.num_intCast]
  omega
theorem qsub_den {q : Rat} (a : Int) (h : Sq q) : (q - (a : Rat)).den ≤ 10 := by
  have := den_sub_le q (a : Rat)
  rw [Rat.den_intCast, Nat.mul_one] at this
  exact Nat.le_trans this h.den
theorem divInt_num_le (a : Int) (b : Nat) (hb : 0 < b) : (Rat.divInt a (b : Int)).num.natAbs ≤ a.natAbs := by
  obtain ⟨h1, _⟩ := divInt_parts a b hb
  rw [h1]
  have g0 : 0 < Nat.gcd a.natAbs b := Nat.gcd_pos_of_pos_right _ hb
  obtain ⟨c, hc⟩ : ((Nat.gcd a.natAbs b : Nat) : Int) ∣ a := Int.ofNat_dvd_left.mpr (Nat.gcd_dvd_left _ _)
  generalize Nat.gcd a.natAbs b = g at *
  rw [Int.fdiv_eq_ediv_of_nonneg _ (by omega)]
  have : a / (g : Int) = c := by rw [hc]; exact Int.mul_ediv_cancel_left _ (by omega)
  rw [this, hc, Int.natAbs_mul]
  exact Nat.le_mul_of_pos_left _ (by omega)
theorem qsub_num {q : Rat} {a : Int} (h : Sq q) (ha : a.natAbs < 2 ^ 60) : (q - (a : Rat)).num.natAbs < 2 ^ 250 := by
  rw [rat_sub, ← Int.natCast_mul]
  refine Nat.lt_of_le_of_lt (divInt_num_le _ _ (Nat.mul_pos (Nat.pos_of_ne_zero q.den_nz) (Nat.pos_of_ne_zero (a : Rat).den_nz))) ?_
  rw [Rat.den_intCast, Rat.num_intCast]
  have h1 := h.num
  have h2 : (a * (q.den : Int)).natAbs ≤ 2 ^ 60 * 10 := by rw [Int.natAbs_mul, Int.natAbs_natCast]; exact Nat.mul_le_mul (Nat.le_of_lt ha) h.den
  generalize a * (q.den : Int) = z at *
  omega
def tq (p q : Pt) (x y : Rat) : Rat := ((q.1 : Rat) - p.1) * (y - p.2) - ((q.2 : Rat) - p.2) * (x - p.1)
def sm60 (p : Pt) : Prop := p.1.natAbs < 2 ^ 60 ∧ p.2.natAbs < 2 ^ 60
theorem wide_spec {p q : Pt} {x y : Rat} (hp : sm60 p) (hq : sm60 q) (hx : Sq x) (hy : Sq y) : m_wide_turn [.tuple [.tuple [.int p.1, .int 1], .tuple [.int p.2, .int 1]], .tuple [.tuple [.int q.1, .int 1], .tuple [.int q.2, .int 1]], .tuple [dQ x, dQ y]] = .ok ⟨dQ (tq p q x y), false⟩ := by
  have d1 : ∀ a : Int, ((a : Rat)).den < 2 ^ 60 := fun a => by rw [Rat.den_intCast]; decide
  have d10 : ∀ n : Nat, n ≤ 10 → n < 2 ^ 60 := fun n h => Nat.lt_of_le_of_lt h (by decide)
  have e1 := minus_spec (q.1 : Rat) (p.1 : Rat) (d1 _) (d1 _)
  have e2 := minus_spec y (p.2 : Rat) (d10 _ hy.den) (d1 _)
  have e3 := minus_spec (q.2 : Rat) (p.2 : Rat) (d1 _) (d1 _)
  have e4 := minus_spec x (p.1 : Rat) (d10 _ hx.den) (d1 _)
  have i1 : ((q.1 : Rat) - (p.1 : Rat)).den < 2 ^ 60 := by rw [isub_den]; decide
  have i3 : ((q.2 : Rat) - (p.2 : Rat)).den < 2 ^ 60 := by rw [isub_den]; decide
  have e5 := times_spec _ _ i1 (d10 _ (qsub_den p.2 hy)) (isub_num hq.1 hp.1) (qsub_num hy hp.2)
  have e6 := times_spec _ _ i3 (d10 _ (qsub_den p.1 hx)) (isub_num hq.2 hp.2) (qsub_num hx hp.1)
  have b5 : (((q.1 : Rat) - (p.1 : Rat)) * (y - (p.2 : Rat))).den < 2 ^ 60 := by
    have := den_mul_le ((q.1 : Rat) - (p.1 : Rat)) (y - (p.2 : Rat))
    rw [isub_den, Nat.one_mul] at this
    exact d10 _ (Nat.le_trans this (qsub_den p.2 hy))
  have b6 : (((q.2 : Rat) - (p.2 : Rat)) * (x - (p.1 : Rat))).den < 2 ^ 60 := by
    have := den_mul_le ((q.2 : Rat) - (p.2 : Rat)) (x - (p.1 : Rat))
    rw [isub_den, Nat.one_mul] at this
    exact d10 _ (Nat.le_trans this (qsub_den p.1 hx))
  have e7 := minus_spec _ _ b5 b6
  rw [dQ_int, dQ_int] at e1 e3
  rw [dQ_int] at e2 e4
  simp [m_wide_turn, b_wide_turn, e1, e2, e3, e4, e5, e6, e7, tq]
theorem tq_den {p q : Pt} {x y : Rat} (hx : Sq x) (hy : Sq y) : (tq p q x y).den < 2 ^ 60 := by
  unfold tq
  have a := den_mul_le ((q.1 : Rat) - (p.1 : Rat)) (y - (p.2 : Rat))
  have b := den_mul_le ((q.2 : Rat) - (p.2 : Rat)) (x - (p.1 : Rat))
  rw [isub_den, Nat.one_mul] at a b
  have a := Nat.le_trans a (qsub_den p.2 hy)
  have b := Nat.le_trans b (qsub_den p.1 hx)
  refine Nat.lt_of_le_of_lt (den_sub_le _ _) (Nat.lt_of_le_of_lt (Nat.mul_le_mul a b) (by decide))
def btQ (a b : Int) (v : Rat) : Bool := !decide (v < ((min a b : Int) : Rat)) && !decide (((max a b : Int) : Rat) < v)
theorem btw_spec {a b : Int} {v : Rat} (hv : Sq v) : m_is_between [.int a, .int b, dQ v] = .ok ⟨.bool (btQ a b v), false⟩ := by
  have d1 : ∀ a : Int, ((a : Rat)).den < 2 ^ 60 := fun a => by rw [Rat.den_intCast]; decide
  have l1 := less_spec v ((min a b : Int) : Rat) (Nat.lt_of_le_of_lt hv.den (by decide)) (d1 _)
  have l2 := less_spec ((max a b : Int) : Rat) v (d1 _) (Nat.lt_of_le_of_lt hv.den (by decide))
  rw [dQ_int] at l1 l2
  simp [m_is_between, b_is_between, m_whole, b_whole, l1, l2, btQ]
def onQ (p q : Pt) (x y : Rat) : Bool := decide (tq p q x y = 0) && (btQ p.1 q.1 x && btQ p.2 q.2 y)
def crQ (p q : Pt) (x y : Rat) : Bool := (decide (y < (p.2 : Rat)) != decide (y < (q.2 : Rat))) && (decide (0 < tq p q x y) == decide (y < (q.2 : Rat)))
theorem on_spec {p q : Pt} {x y : Rat} (hp : sm60 p) (hq : sm60 q) (hx : Sq x) (hy : Sq y) : m_is_spot_on [.tuple [.int p.1, .int p.2], .tuple [.int q.1, .int q.2], .tuple [dQ x, dQ y]] = .ok ⟨.bool (onQ p q x y), false⟩ := by
  have w := wide_spec hp hq hx hy
  have g := gNe_Q (tq p q x y) 0
  have z : dQ 0 = .tuple [.int 0, .int 1] := rfl
  rw [z] at g
  have b1 := btw_spec (a := p.1) (b := q.1) hx
  have b2 := btw_spec (a := p.2) (b := q.2) hy
  by_cases h : tq p q x y = 0
  · rw [decide_eq_true h] at g
    have h' : decide (tq p q x y = 0) = true := decide_eq_true h
    unfold onQ
    rw [h']
    simp [m_is_spot_on, b_is_spot_on, m_spot_of, b_spot_of, m_whole, b_whole, w, g, b1, b2]
  · rw [decide_eq_false h] at g
    have h' : decide (tq p q x y = 0) = false := decide_eq_false h
    unfold onQ
    rw [h']
    simp [m_is_spot_on, b_is_spot_on, m_spot_of, b_spot_of, m_whole, b_whole, w, g]
theorem cr_spec {p q : Pt} {x y : Rat} (hp : sm60 p) (hq : sm60 q) (hx : Sq x) (hy : Sq y) : m_is_crossed [.tuple [.int p.1, .int p.2], .tuple [.int q.1, .int q.2], .tuple [dQ x, dQ y]] = .ok ⟨.bool (crQ p q x y), false⟩ := by
  have d1 : ∀ a : Int, ((a : Rat)).den < 2 ^ 60 := fun a => by rw [Rat.den_intCast]; decide
  have w := wide_spec hp hq hx hy
  have l1 := less_spec y (q.2 : Rat) (Nat.lt_of_le_of_lt hy.den (by decide)) (d1 _)
  have l2 := less_spec y (p.2 : Rat) (Nat.lt_of_le_of_lt hy.den (by decide)) (d1 _)
  have l3 := less_spec 0 (tq p q x y) (by decide) (tq_den hx hy)
  have z : dQ 0 = .tuple [.int 0, .int 1] := rfl
  rw [dQ_int] at l1 l2
  rw [z] at l3
  unfold crQ
  generalize decide (y < (p.2 : Rat)) = b1 at *
  generalize decide (y < (q.2 : Rat)) = b2 at *
  generalize decide (0 < tq p q x y) = b3 at *
  cases b1 <;> cases b2 <;> cases b3 <;> simp [m_is_crossed, b_is_crossed, m_spot_of, b_spot_of, m_whole, b_whole, w, l1, l2, l3]
end G

/-! ### the sides of a round -/
namespace G
open PySem PySem.Spec L2 PV
set_option autoImplicit false
set_option linter.all false
def trn (a b c : Pt) : Int := (b.1 - a.1) * (c.2 - a.2) - (b.2 - a.2) * (c.1 - a.1)
def edges (r : List Pt) : List (Pt × Pt) := (List.range r.length).map fun k => (nth r k, nth r ((k + 1) % r.length))
def dE (e : Pt × Pt) : D := .tuple [dP e.1, dP e.2]
theorem at_mod (r : List Pt) (k : Nat) (h : k < r.length) : atI (r.map dP) (((k : Int) + 1).fmod (r.length : Int)) = some (dP (nth r ((k + 1) % r.length))) := by
  rw [emod_nat, at_nat _ _ (Nat.mod_lt _ (by omega))]
theorem edges_length (r : List Pt) : (edges r).length = r.length := by simp [edges]
theorem dE_ap (e : Pt × Pt) : dE e = .tuple [dP e.1, dP e.2] := Eq.trans rfl rfl
/-- scaled by a factor -/
def sc (f : Int) (p : Pt) : Pt := (f * p.1, f * p.2)
theorem edges_map (g : Pt → Pt) (r : List Pt) (h0 : 0 < r.length) : edges (r.map g) = (edges r).map fun e => (g e.1, g e.2) := by
  have e : ∀ k, k < r.length → nth (r.map g) k = g (nth r k) := fun k hk => by
    unfold nth
    rw [List.getD_eq_getElem?_getD, List.getD_eq_getElem?_getD, List.getElem?_map, List.getElem?_eq_getElem hk]
    rfl
  unfold edges
  rw [List.map_map, List.length_map]
  refine List.map_congr_left fun k hk => ?_
  have hk := List.mem_range.mp hk
  rw [e k hk, e _ (Nat.mod_lt _ h0)]
  rfl
theorem edges_cons (a : Pt) (t : List Pt) : edges (a :: t) = (a :: t).zip (t ++ [a]) := by
  refine List.ext_getElem (by simp [edges]) fun k h1 h2 => ?_
  have hk : k < t.length + 1 := by simpa [edges] using h1
  have e1 : nth (a :: t) k = (a :: t)[k] := by
    unfold nth
    rw [List.getD_eq_getElem?_getD, List.getElem?_eq_getElem (by simpa using hk)]
    rfl
  have e2 : nth (a :: t) ((k + 1) % (t.length + 1)) = (t ++ [a])[k]'(by simpa using hk) := by
    unfold nth
    by_cases c : k < t.length
    · rw [Nat.mod_eq_of_lt (by omega), List.getElem_append_left c]
      simp [c]
    · have : k = t.length := by omega
      subst this
      rw [Nat.mod_self]
      simp
  simp only [edges, List.getElem_map, List.getElem_range, List.getElem_zip, List.length_cons, e1, e2]
theorem edges_shift (a : Pt) (t : List Pt) : (edges (t ++ [a])).Perm (edges (a :: t)) := by
  cases t with
  | nil => exact List.Perm.refl _
  | cons b t =>
    rw [edges_cons, List.cons_append, edges_cons]
    have e : (b :: (t ++ [a])).zip (t ++ [a] ++ [b]) = (b :: t).zip (t ++ [a]) ++ [(a, b)] := by
      have : b :: (t ++ [a]) = (b :: t) ++ [a] := rfl
      rw [this, List.zip_append (by simp)]
      rfl
    rw [e]
    exact List.perm_append_singleton _ _
theorem edges_swap : ∀ (x y : List Pt), (edges (y ++ x)).Perm (edges (x ++ y))
  | [], y => by simp
  | a :: x, y => by
    have h1 := edges_swap x (y ++ [a])
    have h2 := edges_shift a (x ++ y)
    rw [List.append_assoc] at h2
    rw [List.append_assoc] at h1
    exact h1.trans h2
theorem edges_mem {r : List Pt} {e : Pt × Pt} (he : e ∈ edges r) : e.1 ∈ r ∧ e.2 ∈ r := by
  obtain ⟨k, hk, rfl⟩ := List.mem_map.mp he
  have hk := List.mem_range.mp hk
  exact ⟨nth_mem hk, nth_mem (Nat.mod_lt _ (by omega))⟩
end G

/-! ### places by the program and by the law -/
namespace G
open PySem PySem.Spec L2 PV
set_option autoImplicit false
set_option linter.all false
theorem sides_spec {r : List Pt} (h0 : 0 < r.length) (hl : r.length < 1000000) : m_sides_of [.list (r.map dP)] = .ok ⟨.list ((edges r).map dE), true⟩ := by
  have s1 : smallI (r.length : Int) = true := smallI_nat (by omega)
  have h1 := at_nat r
  have h2 := at_mod r
  have h3 : ∀ (z : Int), modOk z (r.length : Int) = true := fun z => modOk_pos _ _ (by omega)
  simp +contextual [m_sides_of, b_sides_of, s1, h1, h2, h3, hl, edges]
  intro a _
  rfl
theorem lsides_spec {r : List Pt} (h0 : 0 < r.length) (hl : r.length < 1000000) : m__law_sides [.list (r.map dP)] = .ok ⟨.list ((edges r).map dE), true⟩ := by
  have s1 : smallI (r.length : Int) = true := smallI_nat (by omega)
  have h1 := at_nat r
  have h2 := at_mod r
  have h3 : ∀ (z : Int), modOk z (r.length : Int) = true := fun z => modOk_pos _ _ (by omega)
  simp +contextual [m__law_sides, b__law_sides, s1, h1, h2, h3, hl, edges]
  intro a _
  rfl
def plQ (r : List Pt) (x y : Rat) : Str := if (edges r).any (fun e => onQ e.1 e.2 x y) = true then "edge" else if ((edges r).filter fun e => crQ e.1 e.2 x y).length % 2 = 1 then "in" else "out"
theorem place_of_spec {r : List Pt} {x y : Rat} (h0 : 0 < r.length) (hl : r.length < 1000) (hr : ∀ p ∈ r, sm60 p) (hx : Sq x) (hy : Sq y) : m_place_of [.list (r.map dP), dS x y] = .ok ⟨.str (plQ r x y), false⟩ := by
  have h2 := sides_spec h0 (by omega)
  have hm : ∀ e ∈ edges r, sm60 e.1 ∧ sm60 e.2 := fun e he => ⟨hr _ (edges_mem he).1, hr _ (edges_mem he).2⟩
  have h4 : ∀ e ∈ edges r, m_is_spot_on [.tuple [.int e.1.1, .int e.1.2], .tuple [.int e.2.1, .int e.2.2], .tuple [dQ x, dQ y]] = .ok ⟨.bool (onQ e.1 e.2 x y), false⟩ := fun e he => on_spec (hm e he).1 (hm e he).2 hx hy
  have h5 : ∀ e ∈ edges r, m_is_crossed [.tuple [.int e.1.1, .int e.1.2], .tuple [.int e.2.1, .int e.2.2], .tuple [dQ x, dQ y]] = .ok ⟨.bool (crQ e.1 e.2 x y), false⟩ := fun e he => cr_spec (hm e he).1 (hm e he).2 hx hy
  have h6 : ∀ p : Pt × Pt → Bool, ((edges r).filter p).length < 1000000 := fun p => Nat.lt_of_le_of_lt (List.length_filter_le _ _) (by rw [edges_length]; omega)
  have hl2 : r.length < 1000000 := by omega
  have h7 := fun z => modOk_pos z 2 (by decide)
  have h8 : ∀ n : Nat, ((n : Int).fmod 2 = 1) = (n % 2 = 1) := fun n => by
    rw [Int.fmod_eq_emod_of_nonneg _ (by omega), eq_iff_iff]
    omega
  generalize hR : r.map dP = R at *
  simp +contextual [m_place_of, b_place_of, dS, h2, dE_ap, dP_ap, edges_length, h4, h5, h6, hl2]
  simp only [h7, if_true, h8, plQ]
  split <;> (try split) <;> rfl
/-! the law -/
def upE (p q s : Pt) : Bool := (decide (p.2 ≤ s.2) && decide (s.2 < q.2)) && decide (0 < trn p q s)
def dnE (p q s : Pt) : Bool := (decide (q.2 ≤ s.2) && decide (s.2 < p.2)) && decide (trn p q s < 0)
def onL (p q s : Pt) : Bool := decide (trn p q s = 0) && decide ((s.1 - p.1) * (s.1 - q.1) + (s.2 - p.2) * (s.2 - q.2) ≤ 0)
def crE (p q s : Pt) : Int := (if upE p q s = true then 1 else 0) - (if dnE p q s = true then 1 else 0)
def wind (E : List (Pt × Pt)) (s : Pt) : Int := (E.map fun e => crE e.1 e.2 s).sum
def plL (E : List (Pt × Pt)) (s : Pt) : Str := if E.any (fun e => onL e.1 e.2 s) = true then "edge" else if wind E s = 0 then "out" else "in"
theorem lturn_spec {a b c d e f : Int} (h1 : sm a) (h2 : sm b) (h3 : sm e) (h4 : sm f) : m__law_turn [.tuple [.int a, .int b], .tuple [.int c, .int d], .tuple [.int e, .int f]] = .ok ⟨.int (trn (a, b) (c, d) (e, f)), false⟩ := by
  have k1 := fun z => mulOk_subr z h4 h2
  have k2 := fun z => mulOk_subr z h3 h1
  simp [m__law_turn, b__law_turn, k1, k2, trn]
theorem lon_spec {p q s : Pt} (h1 : sm p.1 ∧ sm p.2) (h2 : sm q.1 ∧ sm q.2) (h3 : sm s.1 ∧ sm s.2) : m__law_on [.tuple [.int p.1, .int p.2], .tuple [.int q.1, .int q.2], .tuple [.int s.1, .int s.2]] = .ok ⟨.bool (onL p q s), false⟩ := by
  have t := lturn_spec (c := q.1) (d := q.2) h1.1 h1.2 h3.1 h3.2
  have k1 := fun z => mulOk_subr z h3.1 h2.1
  have k2 := fun z => mulOk_subr z h3.2 h2.2
  have e : trn p q s = trn (p.1, p.2) (q.1, q.2) (s.1, s.2) := rfl
  unfold onL
  rw [e]
  generalize trn (p.1, p.2) (q.1, q.2) (s.1, s.2) = T at *
  by_cases c : T = 0 <;> simp [m__law_on, b__law_on, t, k1, k2, c]
theorem up_dn (p q s : Pt) : ¬ (upE p q s = true ∧ dnE p q s = true) := by
  simp only [upE, dnE, Bool.and_eq_true, decide_eq_true_eq]
  omega
theorem lplace_spec {r : List Pt} {x y S : Int} (h0 : 0 < r.length) (hl : r.length < 1000) (hS : sm S) (hr : ∀ p ∈ r, sm (S * p.1) ∧ sm (S * p.2)) (hx : sm x) (hy : sm y) :
    m__law_place [.list (r.map dP), .int x, .int y, .int S] = .ok ⟨.str (plL (edges (r.map (sc S))) (x, y)), false⟩ := by
  have mS : ∀ z : Int, mulOk S z = true := fun z => mulOk_sm' z hS
  have hl1 : r.length < 1000000 := by omega
  have e1 : r.map (fun p => PyData.tuple [.int (S * p.1), .int (S * p.2)]) = (r.map (sc S)).map dP := by rw [List.map_map]; rfl
  have h2 := lsides_spec (r := r.map (sc S)) (by rw [List.length_map]; exact h0) (by rw [List.length_map]; exact hl1)
  have hm : ∀ e ∈ edges (r.map (sc S)), (sm e.1.1 ∧ sm e.1.2) ∧ (sm e.2.1 ∧ sm e.2.2) := fun e he => by
    have m : ∀ p ∈ r.map (sc S), sm p.1 ∧ sm p.2 := fun p hp => by
      obtain ⟨q, hq, rfl⟩ := List.mem_map.mp hp
      exact hr q hq
    exact ⟨m _ (edges_mem he).1, m _ (edges_mem he).2⟩
  generalize hE : edges (r.map (sc S)) = E at *
  have w := forL_try (g := gTp 2 (gsCons (gNm 6) (gsCons (gNm 7) gsNil))) (dead := [0, 3, 4, 6, 7]) (body := b__law_place_1) dE (fun z : Int => [Sl.no, .fz (.int x), .fz (.int y), .no, .no, .fz (.int z), .no, .no])
    (fun z e => z + crE e.1 e.2 (x, y)) (fun e => onL e.1 e.2 (x, y)) (fun _ => ⟨.str "edge", false⟩) E 0 fun z e he => by
      obtain ⟨a1, a2⟩ := hm e he
      have o := lon_spec (s := (x, y)) a1 a2 ⟨hx, hy⟩
      have t := lturn_spec (c := e.2.1) (d := e.2.2) a1.1 a1.2 hx hy
      have te : trn (e.1.1, e.1.2) (e.2.1, e.2.2) (x, y) = trn e.1 e.2 (x, y) := rfl
      rw [te] at t
      have ud := up_dn e.1 e.2 (x, y)
      have hu : upE e.1 e.2 (x, y) = true ↔ (e.1.2 ≤ y ∧ y < e.2.2 ∧ 0 < trn e.1 e.2 (x, y)) := by simp only [upE, Bool.and_eq_true, decide_eq_true_eq, and_assoc]
      have hd : dnE e.1 e.2 (x, y) = true ↔ (e.2.2 ≤ y ∧ y < e.1.2 ∧ trn e.1 e.2 (x, y) < 0) := by simp only [dnE, Bool.and_eq_true, decide_eq_true_eq, and_assoc]
      simp only at o
      cases ho : onL e.1 e.2 (x, y) with
      | true =>
        rw [ho] at o
        simp [b__law_place_1, dE_ap, dP_ap, o]
      | false =>
        rw [ho] at o
        unfold crE
        generalize trn e.1 e.2 (x, y) = T at *
        by_cases c1 : upE e.1 e.2 (x, y) = true
        · have c2 : ¬ dnE e.1 e.2 (x, y) = true := fun h => ud ⟨c1, h⟩
          have c1' := hu.mp c1
          have c2' := mt hd.mpr c2
          simp [b__law_place_1, dE_ap, dP_ap, o, t, c1, c2, c1', c2']
        · by_cases c2 : dnE e.1 e.2 (x, y) = true
          · have c1' := mt hu.mpr c1
            have c2' := hd.mp c2
            simp [b__law_place_1, dE_ap, dP_ap, o, t, c1, c2, c1', c2']
            omega
          · have c1' := mt hu.mpr c1
            have c2' := mt hd.mpr c2
            simp [b__law_place_1, dE_ap, dP_ap, o, t, c1, c2, c1', c2']
  have fs : ∀ (E : List (Pt × Pt)) (z : Int), E.foldl (fun z e => z + crE e.1 e.2 (x, y)) z = z + wind E (x, y) := by
    intro E
    induction E with
    | nil => intro z; simp [wind]
    | cons e t ih => intro z; rw [List.foldl_cons, ih]; simp only [wind, List.map_cons, List.sum_cons]; omega
  rw [fs, Int.zero_add] at w
  rw [← e1] at h2
  unfold plL
  cases hf : E.find? fun e => onL e.1 e.2 (x, y) with
  | some v =>
    rw [hf] at w
    simp [m__law_place, b__law_place, dP_ap, mS, hl1, h2, w, any_of_find hf]
  | none =>
    rw [hf] at w
    simp only at w
    simp only [any_of_none hf]
    by_cases c : wind E (x, y) = 0
    · rw [c] at w
      simp [m__law_place, b__law_place, dP_ap, mS, hl1, h2, w, c]
    · generalize wind E (x, y) = W at *
      simp [m__law_place, b__law_place, dP_ap, mS, hl1, h2, w, c]
end G

/-! ### both tell the same, where the round is gone at most once -/
namespace G
open PySem PySem.Spec L2 PV
set_option autoImplicit false
set_option linter.all false
section
variable {S X Y : Int}
theorem dv_mul (hS : 0 < S) (X : Int) : Rat.divInt X S * (S : Rat) = (X : Rat) := by
  rw [Rat.divInt_eq_div]
  refine Rat.div_mul_cancel ?_
  intro z
  have : ((S : Int) : Rat) = ((0 : Int) : Rat) := z
  rw [Rat.intCast_inj] at this
  omega
theorem ratS (hS : 0 < S) : (0 : Rat) < (S : Rat) := by
  have := Rat.intCast_lt_intCast (a := 0) (b := S)
  exact this.mpr hS
theorem lt_sc (hS : 0 < S) (n : Int) : (Rat.divInt Y S < (n : Rat)) ↔ Y < S * n := by
  rw [← Rat.mul_lt_mul_right (ratS hS), dv_mul hS, ← Rat.intCast_mul, Rat.intCast_lt_intCast, Int.mul_comm]
theorem gt_sc (hS : 0 < S) (n : Int) : ((n : Rat) < Rat.divInt Y S) ↔ S * n < Y := by
  rw [← Rat.mul_lt_mul_right (ratS hS), dv_mul hS, ← Rat.intCast_mul, Rat.intCast_lt_intCast, Int.mul_comm]
theorem tq_sc (hS : 0 < S) (p q : Pt) : tq p q (Rat.divInt X S) (Rat.divInt Y S) * ((S : Rat) * (S : Rat)) = ((trn (sc S p) (sc S q) (X, Y) : Int) : Rat) := by
  have hx := dv_mul hS X
  have hy := dv_mul hS Y
  generalize Rat.divInt X S = x at *
  generalize Rat.divInt Y S = y at *
  simp only [trn, sc, tq, Rat.intCast_sub, Rat.intCast_mul, ← hx, ← hy]
  grind
theorem tq_zero (hS : 0 < S) (p q : Pt) : tq p q (Rat.divInt X S) (Rat.divInt Y S) = 0 ↔ trn (sc S p) (sc S q) (X, Y) = 0 := by
  have e := tq_sc hS (X := X) (Y := Y) p q
  have s2 : (S : Rat) * (S : Rat) ≠ 0 := by
    have := Rat.mul_pos (ratS hS) (ratS hS)
    intro z; rw [z] at this; exact absurd this (by decide)
  constructor
  · intro h
    rw [h, Rat.zero_mul] at e
    have : ((trn (sc S p) (sc S q) (X, Y) : Int) : Rat) = ((0 : Int) : Rat) := e.symm
    exact Rat.intCast_inj.mp this
  · intro h
    rw [h] at e
    have e : tq p q (Rat.divInt X S) (Rat.divInt Y S) * ((S : Rat) * (S : Rat)) = 0 := e
    rcases Rat.mul_eq_zero.mp e with e | e
    · exact e
    · exact absurd e s2
theorem tq_pos (hS : 0 < S) (p q : Pt) : 0 < tq p q (Rat.divInt X S) (Rat.divInt Y S) ↔ 0 < trn (sc S p) (sc S q) (X, Y) := by
  rw [← Rat.mul_lt_mul_right (Rat.mul_pos (ratS hS) (ratS hS)), tq_sc hS, Rat.zero_mul]
  exact Rat.intCast_lt_intCast (a := 0)
theorem bt_sc (hS : 0 < S) (a b : Int) : btQ a b (Rat.divInt Y S) = decide ((Y - S * a) * (Y - S * b) ≤ 0) := by
  have h1 := lt_sc hS (Y := Y) (min a b)
  have h2 := gt_sc hS (Y := Y) (max a b)
  unfold btQ
  rw [Bool.eq_iff_iff]
  simp only [Bool.and_eq_true, Bool.not_eq_true', decide_eq_false_iff_not, decide_eq_true_eq, h1, h2]
  have m1 : S * min a b = min (S * a) (S * b) := by
    rcases Int.le_total a b with h | h
    · rw [Int.min_eq_left h, Int.min_eq_left (Int.mul_le_mul_of_nonneg_left h (by omega))]
    · rw [Int.min_eq_right h, Int.min_eq_right (Int.mul_le_mul_of_nonneg_left h (by omega))]
  have m2 : S * max a b = max (S * a) (S * b) := by
    rcases Int.le_total a b with h | h
    · rw [Int.max_eq_right h, Int.max_eq_right (Int.mul_le_mul_of_nonneg_left h (by omega))]
    · rw [Int.max_eq_left h, Int.max_eq_left (Int.mul_le_mul_of_nonneg_left h (by omega))]
  rw [m1, m2]
  generalize S * a = u
  generalize S * b = v
  constructor
  · rintro ⟨k1, k2⟩
    rcases Int.le_total u v with h | h
    · exact Int.mul_nonpos_of_nonneg_of_nonpos (by omega) (by omega)
    · exact Int.mul_nonpos_of_nonpos_of_nonneg (by omega) (by omega)
  · intro k
    by_cases c1 : Y < u ∧ Y < v
    · have := Int.mul_pos_of_neg_of_neg (a := Y - u) (b := Y - v) (by omega) (by omega); omega
    · by_cases c2 : u < Y ∧ v < Y
      · have := Int.mul_pos (a := Y - u) (b := Y - v) (by omega) (by omega); omega
      · omega
theorem on_sc (hS : 0 < S) (p q : Pt) : onQ p q (Rat.divInt X S) (Rat.divInt Y S) = onL (sc S p) (sc S q) (X, Y) := by
  have z := tq_zero hS (X := X) (Y := Y) p q
  unfold onQ onL
  rw [bt_sc hS, bt_sc hS]
  by_cases h : trn (sc S p) (sc S q) (X, Y) = 0
  · rw [decide_eq_true (z.mpr h), decide_eq_true h, Bool.true_and, Bool.true_and, Bool.eq_iff_iff]
    simp only [Bool.and_eq_true, decide_eq_true_eq]
    simp only [sc]
    have e : (X - S * p.1) * (Y - S * q.2) = (Y - S * p.2) * (X - S * q.1) := by
      simp only [trn, sc] at h
      grind
    generalize X - S * p.1 = u1 at *
    generalize X - S * q.1 = v1 at *
    generalize Y - S * p.2 = u2 at *
    generalize Y - S * q.2 = v2 at *
    have k : (u1 * v1) * (u2 * v2) = (u1 * v2) * (u1 * v2) := by grind
    have nn : 0 ≤ (u1 * v2) * (u1 * v2) := by
      rcases Int.le_total 0 (u1 * v2) with h | h
      · exact Int.mul_nonneg h h
      · exact Int.mul_nonneg_of_nonpos_of_nonpos h h
    rw [← k] at nn
    generalize u1 * v1 = P at *
    generalize u2 * v2 = Q at *
    constructor
    · omega
    · intro hs
      by_cases c1 : 0 < P
      · have : Q < 0 := by omega
        have := Int.mul_neg_of_pos_of_neg c1 this
        omega
      · by_cases c2 : 0 < Q
        · have : P < 0 := by omega
          have := Int.mul_neg_of_neg_of_pos this c2
          omega
        · omega
  · rw [decide_eq_false (fun k => h (z.mp k)), decide_eq_false h, Bool.false_and, Bool.false_and]
theorem cr_sc (hS : 0 < S) (p q : Pt) (ho : onL (sc S p) (sc S q) (X, Y) = false) : crQ p q (Rat.divInt X S) (Rat.divInt Y S) = (upE (sc S p) (sc S q) (X, Y) || dnE (sc S p) (sc S q) (X, Y)) := by
  have l1 := lt_sc hS (Y := Y) p.2
  have l2 := lt_sc hS (Y := Y) q.2
  have l3 := tq_pos hS (X := X) (Y := Y) p q
  have nz : (S * p.2 ≤ Y ∧ Y < S * q.2 ∨ S * q.2 ≤ Y ∧ Y < S * p.2) → trn (sc S p) (sc S q) (X, Y) ≠ 0 := fun hb hz => by
    have : onL (sc S p) (sc S q) (X, Y) = true := by
      rw [← on_sc hS]
      unfold onQ
      rw [decide_eq_true ((tq_zero hS p q).mpr hz), bt_sc hS, bt_sc hS]
      simp only [Bool.true_and, Bool.and_eq_true, decide_eq_true_eq]
      have b2 : (Y - S * p.2) * (Y - S * q.2) ≤ 0 := by
        rcases hb with hb | hb
        · exact Int.mul_nonpos_of_nonneg_of_nonpos (by omega) (by omega)
        · exact Int.mul_nonpos_of_nonpos_of_nonneg (by omega) (by omega)
      refine ⟨?_, b2⟩
      have e : (X - S * p.1) * (Y - S * q.2) = (Y - S * p.2) * (X - S * q.1) := by
        simp only [trn, sc] at hz
        grind
      have nn : ¬ (Y - S * p.2 = 0 ∧ Y - S * q.2 = 0) := by omega
      generalize X - S * p.1 = u1 at *
      generalize X - S * q.1 = v1 at *
      generalize Y - S * p.2 = u2 at *
      generalize Y - S * q.2 = v2 at *
      by_cases c : 0 < u1 * v1
      · have k : (u1 * v1) * (v2 * v2) = (u2 * v2) * (v1 * v1) := by grind
        have sqn : ∀ z : Int, 0 ≤ z * z := fun z => by
          rcases Int.le_total 0 z with h | h
          · exact Int.mul_nonneg h h
          · exact Int.mul_nonneg_of_nonpos_of_nonpos h h
        have k2 : (u1 * v1) * (u2 * u2) = (u2 * v2) * (u1 * u1) := by grind
        have z1 : (u2 * v2) * (v1 * v1) ≤ 0 := Int.mul_nonpos_of_nonpos_of_nonneg b2 (sqn v1)
        have z2 : (u2 * v2) * (u1 * u1) ≤ 0 := Int.mul_nonpos_of_nonpos_of_nonneg b2 (sqn u1)
        rw [← k] at z1
        rw [← k2] at z2
        have v0 : v2 = 0 := by
          by_cases c2 : v2 = 0
          · exact c2
          · have : 0 < v2 * v2 := by
              have := sqn v2
              have : v2 * v2 ≠ 0 := fun z => c2 (by simpa using Int.mul_eq_zero.mp z)
              omega
            have := Int.mul_pos c this
            omega
        have u0 : u2 = 0 := by
          by_cases c2 : u2 = 0
          · exact c2
          · have : 0 < u2 * u2 := by
              have := sqn u2
              have : u2 * u2 ≠ 0 := fun z => c2 (by simpa using Int.mul_eq_zero.mp z)
              omega
            have := Int.mul_pos c this
            omega
        exact absurd ⟨u0, v0⟩ nn
      · omega
    rw [ho] at this
    cases this
  unfold crQ upE dnE
  simp only [l1, l2, l3]
  have e1 : (sc S p).2 = S * p.2 := rfl
  have e2 : (sc S q).2 = S * q.2 := rfl
  simp only [e1, e2]
  generalize trn (sc S p) (sc S q) (X, Y) = T at *
  generalize S * p.2 = a at *
  generalize S * q.2 = b at *
  by_cases c1 : Y < a <;> by_cases c2 : Y < b <;> by_cases c3 : 0 < T <;> by_cases c4 : T < 0 <;> by_cases c5 : a ≤ Y <;> by_cases c6 : b ≤ Y <;> simp [c1, c2, c3, c4, c5, c6] <;> omega
theorem par_wind (E : List (Pt × Pt)) (s : Pt) : (((E.filter fun e => upE e.1 e.2 s || dnE e.1 e.2 s).length : Nat) : Int) % 2 = wind E s % 2 := by
  induction E with
  | nil => rfl
  | cons e t ih =>
    have ud := up_dn e.1 e.2 s
    simp only [wind, List.map_cons, List.sum_cons] at ih ⊢
    have hc : crE e.1 e.2 s = (if upE e.1 e.2 s = true then 1 else 0) - (if dnE e.1 e.2 s = true then 1 else 0) := rfl
    rw [hc]
    cases h1 : upE e.1 e.2 s <;> cases h2 : dnE e.1 e.2 s
    · simp only [List.filter_cons, h1, h2, Bool.or_self, Bool.false_eq_true, if_false]; omega
    · simp only [List.filter_cons, h1, h2, Bool.false_or, if_true, List.length_cons, Bool.false_eq_true, if_false]; omega
    · simp only [List.filter_cons, h1, h2, Bool.true_or, if_true, List.length_cons, Bool.false_eq_true, if_false]; omega
    · exact absurd ⟨h1, h2⟩ ud
theorem place_eq {r : List Pt} (h0 : 0 < r.length) (hS : 0 < S) (hw : (∀ e ∈ edges (r.map (sc S)), onL e.1 e.2 (X, Y) = false) → -1 ≤ wind (edges (r.map (sc S))) (X, Y) ∧ wind (edges (r.map (sc S))) (X, Y) ≤ 1) :
    plQ r (Rat.divInt X S) (Rat.divInt Y S) = plL (edges (r.map (sc S))) (X, Y) := by
  have ee := edges_map (sc S) r h0
  have a : (edges r).any (fun e => onQ e.1 e.2 (Rat.divInt X S) (Rat.divInt Y S)) = (edges (r.map (sc S))).any fun e => onL e.1 e.2 (X, Y) := by
    rw [ee, List.any_map]
    simp only [Function.comp_def, on_sc hS]
  unfold plQ plL
  rw [a]
  by_cases c : ((edges (r.map (sc S))).any fun e => onL e.1 e.2 (X, Y)) = true
  · rw [if_pos c, if_pos c]
  · rw [if_neg c, if_neg c]
    have no : ∀ e ∈ edges (r.map (sc S)), onL e.1 e.2 (X, Y) = false := fun e he => by
      have := List.any_eq_false.mp (Bool.not_eq_true _ ▸ c) e he
      simpa using this
    have w := hw no
    have f : ((edges r).filter fun e => crQ e.1 e.2 (Rat.divInt X S) (Rat.divInt Y S)).length = ((edges (r.map (sc S))).filter fun e => upE e.1 e.2 (X, Y) || dnE e.1 e.2 (X, Y)).length := by
      rw [ee, List.filter_map, List.length_map]
      congr 1
      refine List.filter_congr fun e he => ?_
      have : onL (sc S e.1) (sc S e.2) (X, Y) = false := no (sc S e.1, sc S e.2) (by rw [ee]; exact List.mem_map.mpr ⟨e, he, rfl⟩)
      exact cr_sc hS e.1 e.2 this
    have p := par_wind (edges (r.map (sc S))) (X, Y)
    rw [f]
    generalize ((edges (r.map (sc S))).filter fun e => upE e.1 e.2 (X, Y) || dnE e.1 e.2 (X, Y)).length = n at *
    generalize wind (edges (r.map (sc S))) (X, Y) = W at *
    by_cases z : W = 0
    · have : ¬ n % 2 = 1 := by omega
      rw [if_neg this, if_pos z]
    · have : n % 2 = 1 := by omega
      rw [if_pos this, if_neg z]
end
end G

/-! ### how often a round goes about a spot: other rays -/
namespace G
open PySem PySem.Spec L2 PV
set_option autoImplicit false
set_option linter.all false
theorem perm_sum {l m : List Int} (h : l.Perm m) : l.sum = m.sum := by
  induction h with
  | nil => rfl
  | cons x _ ih => rw [List.sum_cons, List.sum_cons, ih]
  | swap x y l => simp only [List.sum_cons]; omega
  | trans _ _ a b => rw [a, b]
theorem wind_perm {E F : List (Pt × Pt)} (h : E.Perm F) (s : Pt) : wind E s = wind F s := perm_sum (h.map _)
theorem edges_fst (r : List Pt) (f : Pt → Int) : (edges r).map (fun e => f e.1) = r.map f := by
  cases r with
  | nil => rfl
  | cons a t =>
    rw [edges_cons]
    have : ((a :: t).zip (t ++ [a])).map (fun e => f e.1) = (((a :: t).zip (t ++ [a])).map (·.1)).map f := by rw [List.map_map]; rfl
    rw [this, List.map_fst_zip (by simp)]
theorem edges_snd (r : List Pt) (f : Pt → Int) : ((edges r).map fun e => f e.2).Perm (r.map f) := by
  cases r with
  | nil => exact List.Perm.refl _
  | cons a t =>
    rw [edges_cons]
    have : ((a :: t).zip (t ++ [a])).map (fun e => f e.2) = (((a :: t).zip (t ++ [a])).map (·.2)).map f := by rw [List.map_map]; rfl
    rw [this, List.map_snd_zip (by simp)]
    exact (List.perm_append_singleton a t).map f
theorem sum_add {α : Type} (f g : α → Int) (l : List α) : (l.map fun e => f e + g e).sum = (l.map f).sum + (l.map g).sum := by
  induction l with
  | nil => rfl
  | cons a r ih => simp only [List.map_cons, List.sum_cons, ih]; omega
theorem sum_sub {α : Type} (f g : α → Int) (l : List α) : (l.map fun e => f e - g e).sum = (l.map f).sum - (l.map g).sum := by
  induction l with
  | nil => rfl
  | cons a r ih => simp only [List.map_cons, List.sum_cons, ih]; omega
/-- what differs by a potential of the ends is the same in sum, all around -/
theorem sum_round (r : List Pt) (F H : Pt × Pt → Int) (φ : Pt → Int) (h : ∀ e ∈ edges r, F e = H e + (φ e.1 - φ e.2)) : ((edges r).map F).sum = ((edges r).map H).sum := by
  rw [List.map_congr_left h, sum_add, sum_sub, edges_fst, perm_sum (edges_snd r φ)]
  omega
def cS (n1 n2 T : Int) : Int := (if (n1 ≤ 0 ∧ 0 < n2) ∧ 0 < T then 1 else 0) - (if (n2 ≤ 0 ∧ 0 < n1) ∧ T < 0 then 1 else 0)
theorem crE_eq (p q s : Pt) : crE p q s = cS (p.2 - s.2) (q.2 - s.2) (trn p q s) := by
  unfold crE cS
  congr 1
  · have : upE p q s = true ↔ ((p.2 - s.2 ≤ 0 ∧ 0 < q.2 - s.2) ∧ 0 < trn p q s) := by
      simp only [upE, Bool.and_eq_true, decide_eq_true_eq]
      omega
    by_cases c : upE p q s = true
    · rw [if_pos c, if_pos (this.mp c)]
    · rw [if_neg c, if_neg (mt this.mpr c)]
  · have : dnE p q s = true ↔ ((q.2 - s.2 ≤ 0 ∧ 0 < p.2 - s.2) ∧ trn p q s < 0) := by
      simp only [dnE, Bool.and_eq_true, decide_eq_true_eq]
      omega
    by_cases c : dnE p q s = true
    · rw [if_pos c, if_pos (this.mp c)]
    · rw [if_neg c, if_neg (mt this.mpr c)]
theorem sgn (x y : Int) : (0 < x → 0 < y → 0 < x * y) ∧ (0 < x → y < 0 → x * y < 0) ∧ (x < 0 → 0 < y → x * y < 0) ∧ (x < 0 → y < 0 → 0 < x * y) ∧ (x = 0 → x * y = 0) ∧ (y = 0 → x * y = 0) :=
  ⟨Int.mul_pos, Int.mul_neg_of_pos_of_neg, Int.mul_neg_of_neg_of_pos, Int.mul_pos_of_neg_of_neg, fun h => by rw [h, Int.zero_mul], fun h => by rw [h, Int.mul_zero]⟩
def qd (a1 a2 : Int) : Int := if 0 < a1 ∧ a2 ≤ 0 then 1 else 0
theorem ray (a1 a2 b1 b2 T k : Int) (hk : 0 < k) (hT : a1 * b2 - a2 * b1 = k * T) (no : ¬ (T = 0 ∧ a1 * b1 ≤ 0 ∧ a2 * b2 ≤ 0)) : cS a1 b1 T = cS a2 b2 T + (qd b1 b2 - qd a1 a2) := by
  have pT : 0 < k * T ↔ 0 < T := by
    have : k * 0 < k * T ↔ 0 < T := Int.mul_lt_mul_left hk
    rw [Int.mul_zero] at this; exact this
  have nT : k * T < 0 ↔ T < 0 := by
    have : k * T < k * 0 ↔ T < 0 := Int.mul_lt_mul_left hk
    rw [Int.mul_zero] at this; exact this
  have zT : T = 0 → k * T = 0 := fun h => by rw [h, Int.mul_zero]
  have e1 : 0 < b1 → a2 * b1 = 0 → a2 * b2 = 0 := fun h z => by
    rcases Int.mul_eq_zero.mp z with z | z
    · rw [z, Int.zero_mul]
    · omega
  have e2 : 0 < a1 → a1 * b2 = 0 → a2 * b2 = 0 := fun h z => by
    rcases Int.mul_eq_zero.mp z with z | z
    · omega
    · rw [z, Int.mul_zero]
  unfold cS qd
  rw [← hT] at pT nT zT
  by_cases c0 : a1 ≤ 0
  · by_cases c1 : b1 ≤ 0
    · by_cases c2 : a2 ≤ 0
      · by_cases c3 : b2 ≤ 0
        · have f1 : 0 ≤ a1 * b2 := Int.mul_nonneg_of_nonpos_of_nonpos (by omega) (by omega)
          have f2 : 0 ≤ a2 * b1 := Int.mul_nonneg_of_nonpos_of_nonpos (by omega) (by omega)
          have f3 : 0 ≤ a1 * b1 := Int.mul_nonneg_of_nonpos_of_nonpos (by omega) (by omega)
          have f4 : 0 ≤ a2 * b2 := Int.mul_nonneg_of_nonpos_of_nonpos (by omega) (by omega)
          clear e1 e2 hT
          generalize a1 * b2 = u at *
          generalize a2 * b1 = v at *
          generalize a1 * b1 = w at *
          generalize a2 * b2 = z at *
          have p_a1 : (0 < a1) = False := by rw [eq_iff_iff]; constructor <;> intro h <;> first | trivial | omega
          have m_a1 : (a1 ≤ 0) = True := by rw [eq_iff_iff]; constructor <;> intro h <;> first | trivial | omega
          have p_b1 : (0 < b1) = False := by rw [eq_iff_iff]; constructor <;> intro h <;> first | trivial | omega
          have m_b1 : (b1 ≤ 0) = True := by rw [eq_iff_iff]; constructor <;> intro h <;> first | trivial | omega
          have p_a2 : (0 < a2) = False := by rw [eq_iff_iff]; constructor <;> intro h <;> first | trivial | omega
          have m_a2 : (a2 ≤ 0) = True := by rw [eq_iff_iff]; constructor <;> intro h <;> first | trivial | omega
          have p_b2 : (0 < b2) = False := by rw [eq_iff_iff]; constructor <;> intro h <;> first | trivial | omega
          have m_b2 : (b2 ≤ 0) = True := by rw [eq_iff_iff]; constructor <;> intro h <;> first | trivial | omega
          simp only [p_a1, p_b1, p_a2, p_b2, m_a1, m_b1, m_a2, m_b2, and_true, true_and, and_false, false_and, if_true, if_false]
          by_cases h1 : 0 < T <;> by_cases h2 : T < 0 <;> (try simp only [h1, h2, if_true, if_false]) <;> omega
        · have f1 : a1 * b2 ≤ 0 := Int.mul_nonpos_of_nonpos_of_nonneg (by omega) (by omega)
          have f2 : 0 ≤ a2 * b1 := Int.mul_nonneg_of_nonpos_of_nonpos (by omega) (by omega)
          have f3 : 0 ≤ a1 * b1 := Int.mul_nonneg_of_nonpos_of_nonpos (by omega) (by omega)
          have f4 : a2 * b2 ≤ 0 := Int.mul_nonpos_of_nonpos_of_nonneg (by omega) (by omega)
          clear e1 e2 hT
          generalize a1 * b2 = u at *
          generalize a2 * b1 = v at *
          generalize a1 * b1 = w at *
          generalize a2 * b2 = z at *
          have p_a1 : (0 < a1) = False := by rw [eq_iff_iff]; constructor <;> intro h <;> first | trivial | omega
          have m_a1 : (a1 ≤ 0) = True := by rw [eq_iff_iff]; constructor <;> intro h <;> first | trivial | omega
          have p_b1 : (0 < b1) = False := by rw [eq_iff_iff]; constructor <;> intro h <;> first | trivial | omega
          have m_b1 : (b1 ≤ 0) = True := by rw [eq_iff_iff]; constructor <;> intro h <;> first | trivial | omega
          have p_a2 : (0 < a2) = False := by rw [eq_iff_iff]; constructor <;> intro h <;> first | trivial | omega
          have m_a2 : (a2 ≤ 0) = True := by rw [eq_iff_iff]; constructor <;> intro h <;> first | trivial | omega
          have p_b2 : (0 < b2) = True := by rw [eq_iff_iff]; constructor <;> intro h <;> first | trivial | omega
          have m_b2 : (b2 ≤ 0) = False := by rw [eq_iff_iff]; constructor <;> intro h <;> first | trivial | omega
          simp only [p_a1, p_b1, p_a2, p_b2, m_a1, m_b1, m_a2, m_b2, and_true, true_and, and_false, false_and, if_true, if_false]
          by_cases h1 : 0 < T <;> by_cases h2 : T < 0 <;> (try simp only [h1, h2, if_true, if_false]) <;> omega
      · by_cases c3 : b2 ≤ 0
        · have f1 : 0 ≤ a1 * b2 := Int.mul_nonneg_of_nonpos_of_nonpos (by omega) (by omega)
          have f2 : a2 * b1 ≤ 0 := Int.mul_nonpos_of_nonneg_of_nonpos (by omega) (by omega)
          have f3 : 0 ≤ a1 * b1 := Int.mul_nonneg_of_nonpos_of_nonpos (by omega) (by omega)
          have f4 : a2 * b2 ≤ 0 := Int.mul_nonpos_of_nonneg_of_nonpos (by omega) (by omega)
          clear e1 e2 hT
          generalize a1 * b2 = u at *
          generalize a2 * b1 = v at *
          generalize a1 * b1 = w at *
          generalize a2 * b2 = z at *
          have p_a1 : (0 < a1) = False := by rw [eq_iff_iff]; constructor <;> intro h <;> first | trivial | omega
          have m_a1 : (a1 ≤ 0) = True := by rw [eq_iff_iff]; constructor <;> intro h <;> first | trivial | omega
          have p_b1 : (0 < b1) = False := by rw [eq_iff_iff]; constructor <;> intro h <;> first | trivial | omega
          have m_b1 : (b1 ≤ 0) = True := by rw [eq_iff_iff]; constructor <;> intro h <;> first | trivial | omega
          have p_a2 : (0 < a2) = True := by rw [eq_iff_iff]; constructor <;> intro h <;> first | trivial | omega
          have m_a2 : (a2 ≤ 0) = False := by rw [eq_iff_iff]; constructor <;> intro h <;> first | trivial | omega
          have p_b2 : (0 < b2) = False := by rw [eq_iff_iff]; constructor <;> intro h <;> first | trivial | omega
          have m_b2 : (b2 ≤ 0) = True := by rw [eq_iff_iff]; constructor <;> intro h <;> first | trivial | omega
          simp only [p_a1, p_b1, p_a2, p_b2, m_a1, m_b1, m_a2, m_b2, and_true, true_and, and_false, false_and, if_true, if_false]
          by_cases h1 : 0 < T <;> by_cases h2 : T < 0 <;> (try simp only [h1, h2, if_true, if_false]) <;> omega
        · have f1 : a1 * b2 ≤ 0 := Int.mul_nonpos_of_nonpos_of_nonneg (by omega) (by omega)
          have f2 : a2 * b1 ≤ 0 := Int.mul_nonpos_of_nonneg_of_nonpos (by omega) (by omega)
          have f3 : 0 ≤ a1 * b1 := Int.mul_nonneg_of_nonpos_of_nonpos (by omega) (by omega)
          have f4 : 0 < a2 * b2 := Int.mul_pos (by omega) (by omega)
          clear e1 e2 hT
          generalize a1 * b2 = u at *
          generalize a2 * b1 = v at *
          generalize a1 * b1 = w at *
          generalize a2 * b2 = z at *
          have p_a1 : (0 < a1) = False := by rw [eq_iff_iff]; constructor <;> intro h <;> first | trivial | omega
          have m_a1 : (a1 ≤ 0) = True := by rw [eq_iff_iff]; constructor <;> intro h <;> first | trivial | omega
          have p_b1 : (0 < b1) = False := by rw [eq_iff_iff]; constructor <;> intro h <;> first | trivial | omega
          have m_b1 : (b1 ≤ 0) = True := by rw [eq_iff_iff]; constructor <;> intro h <;> first | trivial | omega
          have p_a2 : (0 < a2) = True := by rw [eq_iff_iff]; constructor <;> intro h <;> first | trivial | omega
          have m_a2 : (a2 ≤ 0) = False := by rw [eq_iff_iff]; constructor <;> intro h <;> first | trivial | omega
          have p_b2 : (0 < b2) = True := by rw [eq_iff_iff]; constructor <;> intro h <;> first | trivial | omega
          have m_b2 : (b2 ≤ 0) = False := by rw [eq_iff_iff]; constructor <;> intro h <;> first | trivial | omega
          simp only [p_a1, p_b1, p_a2, p_b2, m_a1, m_b1, m_a2, m_b2, and_true, true_and, and_false, false_and, if_true, if_false]
          by_cases h1 : 0 < T <;> by_cases h2 : T < 0 <;> (try simp only [h1, h2, if_true, if_false]) <;> omega
    · by_cases c2 : a2 ≤ 0
      · by_cases c3 : b2 ≤ 0
        · have f1 : 0 ≤ a1 * b2 := Int.mul_nonneg_of_nonpos_of_nonpos (by omega) (by omega)
          have f2 : a2 * b1 ≤ 0 := Int.mul_nonpos_of_nonpos_of_nonneg (by omega) (by omega)
          have f3 : a1 * b1 ≤ 0 := Int.mul_nonpos_of_nonpos_of_nonneg (by omega) (by omega)
          have f4 : 0 ≤ a2 * b2 := Int.mul_nonneg_of_nonpos_of_nonpos (by omega) (by omega)
          have g1 := e1 (by omega)
          clear e1 e2 hT
          generalize a1 * b2 = u at *
          generalize a2 * b1 = v at *
          generalize a1 * b1 = w at *
          generalize a2 * b2 = z at *
          have p_a1 : (0 < a1) = False := by rw [eq_iff_iff]; constructor <;> intro h <;> first | trivial | omega
          have m_a1 : (a1 ≤ 0) = True := by rw [eq_iff_iff]; constructor <;> intro h <;> first | trivial | omega
          have p_b1 : (0 < b1) = True := by rw [eq_iff_iff]; constructor <;> intro h <;> first | trivial | omega
          have m_b1 : (b1 ≤ 0) = False := by rw [eq_iff_iff]; constructor <;> intro h <;> first | trivial | omega
          have p_a2 : (0 < a2) = False := by rw [eq_iff_iff]; constructor <;> intro h <;> first | trivial | omega
          have m_a2 : (a2 ≤ 0) = True := by rw [eq_iff_iff]; constructor <;> intro h <;> first | trivial | omega
          have p_b2 : (0 < b2) = False := by rw [eq_iff_iff]; constructor <;> intro h <;> first | trivial | omega
          have m_b2 : (b2 ≤ 0) = True := by rw [eq_iff_iff]; constructor <;> intro h <;> first | trivial | omega
          simp only [p_a1, p_b1, p_a2, p_b2, m_a1, m_b1, m_a2, m_b2, and_true, true_and, and_false, false_and, if_true, if_false]
          by_cases h1 : 0 < T <;> by_cases h2 : T < 0 <;> (try simp only [h1, h2, if_true, if_false]) <;> omega
        · have f1 : a1 * b2 ≤ 0 := Int.mul_nonpos_of_nonpos_of_nonneg (by omega) (by omega)
          have f2 : a2 * b1 ≤ 0 := Int.mul_nonpos_of_nonpos_of_nonneg (by omega) (by omega)
          have f3 : a1 * b1 ≤ 0 := Int.mul_nonpos_of_nonpos_of_nonneg (by omega) (by omega)
          have f4 : a2 * b2 ≤ 0 := Int.mul_nonpos_of_nonpos_of_nonneg (by omega) (by omega)
          have g1 := e1 (by omega)
          clear e1 e2 hT
          generalize a1 * b2 = u at *
          generalize a2 * b1 = v at *
          generalize a1 * b1 = w at *
          generalize a2 * b2 = z at *
          have p_a1 : (0 < a1) = False := by rw [eq_iff_iff]; constructor <;> intro h <;> first | trivial | omega
          have m_a1 : (a1 ≤ 0) = True := by rw [eq_iff_iff]; constructor <;> intro h <;> first | trivial | omega
          have p_b1 : (0 < b1) = True := by rw [eq_iff_iff]; constructor <;> intro h <;> first | trivial | omega
          have m_b1 : (b1 ≤ 0) = False := by rw [eq_iff_iff]; constructor <;> intro h <;> first | trivial | omega
          have p_a2 : (0 < a2) = False := by rw [eq_iff_iff]; constructor <;> intro h <;> first | trivial | omega
          have m_a2 : (a2 ≤ 0) = True := by rw [eq_iff_iff]; constructor <;> intro h <;> first | trivial | omega
          have p_b2 : (0 < b2) = True := by rw [eq_iff_iff]; constructor <;> intro h <;> first | trivial | omega
          have m_b2 : (b2 ≤ 0) = False := by rw [eq_iff_iff]; constructor <;> intro h <;> first | trivial | omega
          simp only [p_a1, p_b1, p_a2, p_b2, m_a1, m_b1, m_a2, m_b2, and_true, true_and, and_false, false_and, if_true, if_false]
          by_cases h1 : 0 < T <;> by_cases h2 : T < 0 <;> (try simp only [h1, h2, if_true, if_false]) <;> omega
      · by_cases c3 : b2 ≤ 0
        · have f1 : 0 ≤ a1 * b2 := Int.mul_nonneg_of_nonpos_of_nonpos (by omega) (by omega)
          have f2 : 0 < a2 * b1 := Int.mul_pos (by omega) (by omega)
          have f3 : a1 * b1 ≤ 0 := Int.mul_nonpos_of_nonpos_of_nonneg (by omega) (by omega)
          have f4 : a2 * b2 ≤ 0 := Int.mul_nonpos_of_nonneg_of_nonpos (by omega) (by omega)
          have g1 := e1 (by omega)
          clear e1 e2 hT
          generalize a1 * b2 = u at *
          generalize a2 * b1 = v at *
          generalize a1 * b1 = w at *
          generalize a2 * b2 = z at *
          have p_a1 : (0 < a1) = False := by rw [eq_iff_iff]; constructor <;> intro h <;> first | trivial | omega
          have m_a1 : (a1 ≤ 0) = True := by rw [eq_iff_iff]; constructor <;> intro h <;> first | trivial | omega
          have p_b1 : (0 < b1) = True := by rw [eq_iff_iff]; constructor <;> intro h <;> first | trivial | omega
          have m_b1 : (b1 ≤ 0) = False := by rw [eq_iff_iff]; constructor <;> intro h <;> first | trivial | omega
          have p_a2 : (0 < a2) = True := by rw [eq_iff_iff]; constructor <;> intro h <;> first | trivial | omega
          have m_a2 : (a2 ≤ 0) = False := by rw [eq_iff_iff]; constructor <;> intro h <;> first | trivial | omega
          have p_b2 : (0 < b2) = False := by rw [eq_iff_iff]; constructor <;> intro h <;> first | trivial | omega
          have m_b2 : (b2 ≤ 0) = True := by rw [eq_iff_iff]; constructor <;> intro h <;> first | trivial | omega
          simp only [p_a1, p_b1, p_a2, p_b2, m_a1, m_b1, m_a2, m_b2, and_true, true_and, and_false, false_and, if_true, if_false]
          by_cases h1 : 0 < T <;> by_cases h2 : T < 0 <;> (try simp only [h1, h2, if_true, if_false]) <;> omega
        · have f1 : a1 * b2 ≤ 0 := Int.mul_nonpos_of_nonpos_of_nonneg (by omega) (by omega)
          have f2 : 0 < a2 * b1 := Int.mul_pos (by omega) (by omega)
          have f3 : a1 * b1 ≤ 0 := Int.mul_nonpos_of_nonpos_of_nonneg (by omega) (by omega)
          have f4 : 0 < a2 * b2 := Int.mul_pos (by omega) (by omega)
          have g1 := e1 (by omega)
          clear e1 e2 hT
          generalize a1 * b2 = u at *
          generalize a2 * b1 = v at *
          generalize a1 * b1 = w at *
          generalize a2 * b2 = z at *
          have p_a1 : (0 < a1) = False := by rw [eq_iff_iff]; constructor <;> intro h <;> first | trivial | omega
          have m_a1 : (a1 ≤ 0) = True := by rw [eq_iff_iff]; constructor <;> intro h <;> first | trivial | omega
          have p_b1 : (0 < b1) = True := by rw [eq_iff_iff]; constructor <;> intro h <;> first | trivial | omega
          have m_b1 : (b1 ≤ 0) = False := by rw [eq_iff_iff]; constructor <;> intro h <;> first | trivial | omega
          have p_a2 : (0 < a2) = True := by rw [eq_iff_iff]; constructor <;> intro h <;> first | trivial | omega
          have m_a2 : (a2 ≤ 0) = False := by rw [eq_iff_iff]; constructor <;> intro h <;> first | trivial | omega
          have p_b2 : (0 < b2) = True := by rw [eq_iff_iff]; constructor <;> intro h <;> first | trivial | omega
          have m_b2 : (b2 ≤ 0) = False := by rw [eq_iff_iff]; constructor <;> intro h <;> first | trivial | omega
          simp only [p_a1, p_b1, p_a2, p_b2, m_a1, m_b1, m_a2, m_b2, and_true, true_and, and_false, false_and, if_true, if_false]
          by_cases h1 : 0 < T <;> by_cases h2 : T < 0 <;> (try simp only [h1, h2, if_true, if_false]) <;> omega
  · by_cases c1 : b1 ≤ 0
    · by_cases c2 : a2 ≤ 0
      · by_cases c3 : b2 ≤ 0
        · have f1 : a1 * b2 ≤ 0 := Int.mul_nonpos_of_nonneg_of_nonpos (by omega) (by omega)
          have f2 : 0 ≤ a2 * b1 := Int.mul_nonneg_of_nonpos_of_nonpos (by omega) (by omega)
          have f3 : a1 * b1 ≤ 0 := Int.mul_nonpos_of_nonneg_of_nonpos (by omega) (by omega)
          have f4 : 0 ≤ a2 * b2 := Int.mul_nonneg_of_nonpos_of_nonpos (by omega) (by omega)
          have g2 := e2 (by omega)
          clear e1 e2 hT
          generalize a1 * b2 = u at *
          generalize a2 * b1 = v at *
          generalize a1 * b1 = w at *
          generalize a2 * b2 = z at *
          have p_a1 : (0 < a1) = True := by rw [eq_iff_iff]; constructor <;> intro h <;> first | trivial | omega
          have m_a1 : (a1 ≤ 0) = False := by rw [eq_iff_iff]; constructor <;> intro h <;> first | trivial | omega
          have p_b1 : (0 < b1) = False := by rw [eq_iff_iff]; constructor <;> intro h <;> first | trivial | omega
          have m_b1 : (b1 ≤ 0) = True := by rw [eq_iff_iff]; constructor <;> intro h <;> first | trivial | omega
          have p_a2 : (0 < a2) = False := by rw [eq_iff_iff]; constructor <;> intro h <;> first | trivial | omega
          have m_a2 : (a2 ≤ 0) = True := by rw [eq_iff_iff]; constructor <;> intro h <;> first | trivial | omega
          have p_b2 : (0 < b2) = False := by rw [eq_iff_iff]; constructor <;> intro h <;> first | trivial | omega
          have m_b2 : (b2 ≤ 0) = True := by rw [eq_iff_iff]; constructor <;> intro h <;> first | trivial | omega
          simp only [p_a1, p_b1, p_a2, p_b2, m_a1, m_b1, m_a2, m_b2, and_true, true_and, and_false, false_and, if_true, if_false]
          by_cases h1 : 0 < T <;> by_cases h2 : T < 0 <;> (try simp only [h1, h2, if_true, if_false]) <;> omega
        · have f1 : 0 < a1 * b2 := Int.mul_pos (by omega) (by omega)
          have f2 : 0 ≤ a2 * b1 := Int.mul_nonneg_of_nonpos_of_nonpos (by omega) (by omega)
          have f3 : a1 * b1 ≤ 0 := Int.mul_nonpos_of_nonneg_of_nonpos (by omega) (by omega)
          have f4 : a2 * b2 ≤ 0 := Int.mul_nonpos_of_nonpos_of_nonneg (by omega) (by omega)
          have g2 := e2 (by omega)
          clear e1 e2 hT
          generalize a1 * b2 = u at *
          generalize a2 * b1 = v at *
          generalize a1 * b1 = w at *
          generalize a2 * b2 = z at *
          have p_a1 : (0 < a1) = True := by rw [eq_iff_iff]; constructor <;> intro h <;> first | trivial | omega
          have m_a1 : (a1 ≤ 0) = False := by rw [eq_iff_iff]; constructor <;> intro h <;> first | trivial | omega
          have p_b1 : (0 < b1) = False := by rw [eq_iff_iff]; constructor <;> intro h <;> first | trivial | omega
          have m_b1 : (b1 ≤ 0) = True := by rw [eq_iff_iff]; constructor <;> intro h <;> first | trivial | omega
          have p_a2 : (0 < a2) = False := by rw [eq_iff_iff]; constructor <;> intro h <;> first | trivial | omega
          have m_a2 : (a2 ≤ 0) = True := by rw [eq_iff_iff]; constructor <;> intro h <;> first | trivial | omega
          have p_b2 : (0 < b2) = True := by rw [eq_iff_iff]; constructor <;> intro h <;> first | trivial | omega
          have m_b2 : (b2 ≤ 0) = False := by rw [eq_iff_iff]; constructor <;> intro h <;> first | trivial | omega
          simp only [p_a1, p_b1, p_a2, p_b2, m_a1, m_b1, m_a2, m_b2, and_true, true_and, and_false, false_and, if_true, if_false]
          by_cases h1 : 0 < T <;> by_cases h2 : T < 0 <;> (try simp only [h1, h2, if_true, if_false]) <;> omega
      · by_cases c3 : b2 ≤ 0
        · have f1 : a1 * b2 ≤ 0 := Int.mul_nonpos_of_nonneg_of_nonpos (by omega) (by omega)
          have f2 : a2 * b1 ≤ 0 := Int.mul_nonpos_of_nonneg_of_nonpos (by omega) (by omega)
          have f3 : a1 * b1 ≤ 0 := Int.mul_nonpos_of_nonneg_of_nonpos (by omega) (by omega)
          have f4 : a2 * b2 ≤ 0 := Int.mul_nonpos_of_nonneg_of_nonpos (by omega) (by omega)
          have g2 := e2 (by omega)
          clear e1 e2 hT
          generalize a1 * b2 = u at *
          generalize a2 * b1 = v at *
          generalize a1 * b1 = w at *
          generalize a2 * b2 = z at *
          have p_a1 : (0 < a1) = True := by rw [eq_iff_iff]; constructor <;> intro h <;> first | trivial | omega
          have m_a1 : (a1 ≤ 0) = False := by rw [eq_iff_iff]; constructor <;> intro h <;> first | trivial | omega
          have p_b1 : (0 < b1) = False := by rw [eq_iff_iff]; constructor <;> intro h <;> first | trivial | omega
          have m_b1 : (b1 ≤ 0) = True := by rw [eq_iff_iff]; constructor <;> intro h <;> first | trivial | omega
          have p_a2 : (0 < a2) = True := by rw [eq_iff_iff]; constructor <;> intro h <;> first | trivial | omega
          have m_a2 : (a2 ≤ 0) = False := by rw [eq_iff_iff]; constructor <;> intro h <;> first | trivial | omega
          have p_b2 : (0 < b2) = False := by rw [eq_iff_iff]; constructor <;> intro h <;> first | trivial | omega
          have m_b2 : (b2 ≤ 0) = True := by rw [eq_iff_iff]; constructor <;> intro h <;> first | trivial | omega
          simp only [p_a1, p_b1, p_a2, p_b2, m_a1, m_b1, m_a2, m_b2, and_true, true_and, and_false, false_and, if_true, if_false]
          by_cases h1 : 0 < T <;> by_cases h2 : T < 0 <;> (try simp only [h1, h2, if_true, if_false]) <;> omega
        · have f1 : 0 < a1 * b2 := Int.mul_pos (by omega) (by omega)
          have f2 : a2 * b1 ≤ 0 := Int.mul_nonpos_of_nonneg_of_nonpos (by omega) (by omega)
          have f3 : a1 * b1 ≤ 0 := Int.mul_nonpos_of_nonneg_of_nonpos (by omega) (by omega)
          have f4 : 0 < a2 * b2 := Int.mul_pos (by omega) (by omega)
          have g2 := e2 (by omega)
          clear e1 e2 hT
          generalize a1 * b2 = u at *
          generalize a2 * b1 = v at *
          generalize a1 * b1 = w at *
          generalize a2 * b2 = z at *
          have p_a1 : (0 < a1) = True := by rw [eq_iff_iff]; constructor <;> intro h <;> first | trivial | omega
          have m_a1 : (a1 ≤ 0) = False := by rw [eq_iff_iff]; constructor <;> intro h <;> first | trivial | omega
          have p_b1 : (0 < b1) = False := by rw [eq_iff_iff]; constructor <;> intro h <;> first | trivial | omega
          have m_b1 : (b1 ≤ 0) = True := by rw [eq_iff_iff]; constructor <;> intro h <;> first | trivial | omega
          have p_a2 : (0 < a2) = True := by rw [eq_iff_iff]; constructor <;> intro h <;> first | trivial | omega
          have m_a2 : (a2 ≤ 0) = False := by rw [eq_iff_iff]; constructor <;> intro h <;> first | trivial | omega
          have p_b2 : (0 < b2) = True := by rw [eq_iff_iff]; constructor <;> intro h <;> first | trivial | omega
          have m_b2 : (b2 ≤ 0) = False := by rw [eq_iff_iff]; constructor <;> intro h <;> first | trivial | omega
          simp only [p_a1, p_b1, p_a2, p_b2, m_a1, m_b1, m_a2, m_b2, and_true, true_and, and_false, false_and, if_true, if_false]
          by_cases h1 : 0 < T <;> by_cases h2 : T < 0 <;> (try simp only [h1, h2, if_true, if_false]) <;> omega
    · by_cases c2 : a2 ≤ 0
      · by_cases c3 : b2 ≤ 0
        · have f1 : a1 * b2 ≤ 0 := Int.mul_nonpos_of_nonneg_of_nonpos (by omega) (by omega)
          have f2 : a2 * b1 ≤ 0 := Int.mul_nonpos_of_nonpos_of_nonneg (by omega) (by omega)
          have f3 : 0 < a1 * b1 := Int.mul_pos (by omega) (by omega)
          have f4 : 0 ≤ a2 * b2 := Int.mul_nonneg_of_nonpos_of_nonpos (by omega) (by omega)
          have g1 := e1 (by omega)
          have g2 := e2 (by omega)
          clear e1 e2 hT
          generalize a1 * b2 = u at *
          generalize a2 * b1 = v at *
          generalize a1 * b1 = w at *
          generalize a2 * b2 = z at *
          have p_a1 : (0 < a1) = True := by rw [eq_iff_iff]; constructor <;> intro h <;> first | trivial | omega
          have m_a1 : (a1 ≤ 0) = False := by rw [eq_iff_iff]; constructor <;> intro h <;> first | trivial | omega
          have p_b1 : (0 < b1) = True := by rw [eq_iff_iff]; constructor <;> intro h <;> first | trivial | omega
          have m_b1 : (b1 ≤ 0) = False := by rw [eq_iff_iff]; constructor <;> intro h <;> first | trivial | omega
          have p_a2 : (0 < a2) = False := by rw [eq_iff_iff]; constructor <;> intro h <;> first | trivial | omega
          have m_a2 : (a2 ≤ 0) = True := by rw [eq_iff_iff]; constructor <;> intro h <;> first | trivial | omega
          have p_b2 : (0 < b2) = False := by rw [eq_iff_iff]; constructor <;> intro h <;> first | trivial | omega
          have m_b2 : (b2 ≤ 0) = True := by rw [eq_iff_iff]; constructor <;> intro h <;> first | trivial | omega
          simp only [p_a1, p_b1, p_a2, p_b2, m_a1, m_b1, m_a2, m_b2, and_true, true_and, and_false, false_and, if_true, if_false]
          by_cases h1 : 0 < T <;> by_cases h2 : T < 0 <;> (try simp only [h1, h2, if_true, if_false]) <;> omega
        · have f1 : 0 < a1 * b2 := Int.mul_pos (by omega) (by omega)
          have f2 : a2 * b1 ≤ 0 := Int.mul_nonpos_of_nonpos_of_nonneg (by omega) (by omega)
          have f3 : 0 < a1 * b1 := Int.mul_pos (by omega) (by omega)
          have f4 : a2 * b2 ≤ 0 := Int.mul_nonpos_of_nonpos_of_nonneg (by omega) (by omega)
          have g1 := e1 (by omega)
          have g2 := e2 (by omega)
          clear e1 e2 hT
          generalize a1 * b2 = u at *
          generalize a2 * b1 = v at *
          generalize a1 * b1 = w at *
          generalize a2 * b2 = z at *
          have p_a1 : (0 < a1) = True := by rw [eq_iff_iff]; constructor <;> intro h <;> first | trivial | omega
          have m_a1 : (a1 ≤ 0) = False := by rw [eq_iff_iff]; constructor <;> intro h <;> first | trivial | omega
          have p_b1 : (0 < b1) = True := by rw [eq_iff_iff]; constructor <;> intro h <;> first | trivial | omega
          have m_b1 : (b1 ≤ 0) = False := by rw [eq_iff_iff]; constructor <;> intro h <;> first | trivial | omega
          have p_a2 : (0 < a2) = False := by rw [eq_iff_iff]; constructor <;> intro h <;> first | trivial | omega
          have m_a2 : (a2 ≤ 0) = True := by rw [eq_iff_iff]; constructor <;> intro h <;> first | trivial | omega
          have p_b2 : (0 < b2) = True := by rw [eq_iff_iff]; constructor <;> intro h <;> first | trivial | omega
          have m_b2 : (b2 ≤ 0) = False := by rw [eq_iff_iff]; constructor <;> intro h <;> first | trivial | omega
          simp only [p_a1, p_b1, p_a2, p_b2, m_a1, m_b1, m_a2, m_b2, and_true, true_and, and_false, false_and, if_true, if_false]
          by_cases h1 : 0 < T <;> by_cases h2 : T < 0 <;> (try simp only [h1, h2, if_true, if_false]) <;> omega
      · by_cases c3 : b2 ≤ 0
        · have f1 : a1 * b2 ≤ 0 := Int.mul_nonpos_of_nonneg_of_nonpos (by omega) (by omega)
          have f2 : 0 < a2 * b1 := Int.mul_pos (by omega) (by omega)
          have f3 : 0 < a1 * b1 := Int.mul_pos (by omega) (by omega)
          have f4 : a2 * b2 ≤ 0 := Int.mul_nonpos_of_nonneg_of_nonpos (by omega) (by omega)
          have g1 := e1 (by omega)
          have g2 := e2 (by omega)
          clear e1 e2 hT
          generalize a1 * b2 = u at *
          generalize a2 * b1 = v at *
          generalize a1 * b1 = w at *
          generalize a2 * b2 = z at *
          have p_a1 : (0 < a1) = True := by rw [eq_iff_iff]; constructor <;> intro h <;> first | trivial | omega
          have m_a1 : (a1 ≤ 0) = False := by rw [eq_iff_iff]; constructor <;> intro h <;> first | trivial | omega
          have p_b1 : (0 < b1) = True := by rw [eq_iff_iff]; constructor <;> intro h <;> first | trivial | omega
          have m_b1 : (b1 ≤ 0) = False := by rw [eq_iff_iff]; constructor <;> intro h <;> first | trivial | omega
          have p_a2 : (0 < a2) = True := by rw [eq_iff_iff]; constructor <;> intro h <;> first | trivial | omega
          have m_a2 : (a2 ≤ 0) = False := by rw [eq_iff_iff]; constructor <;> intro h <;> first | trivial | omega
          have p_b2 : (0 < b2) = False := by rw [eq_iff_iff]; constructor <;> intro h <;> first | trivial | omega
          have m_b2 : (b2 ≤ 0) = True := by rw [eq_iff_iff]; constructor <;> intro h <;> first | trivial | omega
          simp only [p_a1, p_b1, p_a2, p_b2, m_a1, m_b1, m_a2, m_b2, and_true, true_and, and_false, false_and, if_true, if_false]
          by_cases h1 : 0 < T <;> by_cases h2 : T < 0 <;> (try simp only [h1, h2, if_true, if_false]) <;> omega
        · have f1 : 0 < a1 * b2 := Int.mul_pos (by omega) (by omega)
          have f2 : 0 < a2 * b1 := Int.mul_pos (by omega) (by omega)
          have f3 : 0 < a1 * b1 := Int.mul_pos (by omega) (by omega)
          have f4 : 0 < a2 * b2 := Int.mul_pos (by omega) (by omega)
          have g1 := e1 (by omega)
          have g2 := e2 (by omega)
          clear e1 e2 hT
          generalize a1 * b2 = u at *
          generalize a2 * b1 = v at *
          generalize a1 * b1 = w at *
          generalize a2 * b2 = z at *
          have p_a1 : (0 < a1) = True := by rw [eq_iff_iff]; constructor <;> intro h <;> first | trivial | omega
          have m_a1 : (a1 ≤ 0) = False := by rw [eq_iff_iff]; constructor <;> intro h <;> first | trivial | omega
          have p_b1 : (0 < b1) = True := by rw [eq_iff_iff]; constructor <;> intro h <;> first | trivial | omega
          have m_b1 : (b1 ≤ 0) = False := by rw [eq_iff_iff]; constructor <;> intro h <;> first | trivial | omega
          have p_a2 : (0 < a2) = True := by rw [eq_iff_iff]; constructor <;> intro h <;> first | trivial | omega
          have m_a2 : (a2 ≤ 0) = False := by rw [eq_iff_iff]; constructor <;> intro h <;> first | trivial | omega
          have p_b2 : (0 < b2) = True := by rw [eq_iff_iff]; constructor <;> intro h <;> first | trivial | omega
          have m_b2 : (b2 ≤ 0) = False := by rw [eq_iff_iff]; constructor <;> intro h <;> first | trivial | omega
          simp only [p_a1, p_b1, p_a2, p_b2, m_a1, m_b1, m_a2, m_b2, and_true, true_and, and_false, false_and, if_true, if_false]
          by_cases h1 : 0 < T <;> by_cases h2 : T < 0 <;> (try simp only [h1, h2, if_true, if_false]) <;> omega
end G

/-! ### sheared shapes; the shapes -/
namespace G
open PySem PySem.Spec L2 PV
set_option autoImplicit false
set_option linter.all false
theorem sqn (z : Int) : 0 ≤ z * z := by
  rcases Int.le_total 0 z with h | h
  · exact Int.mul_nonneg h h
  · exact Int.mul_nonneg_of_nonpos_of_nonpos h h
theorem opp {β x1 x2 y1 y2 z1 z2 : Int} (hb : 0 < β) (h1 : β * x1 = y1 - z1) (h2 : β * x2 = y2 - z2) (hc : y1 * z2 = z1 * y2) (hy : y1 * y2 ≤ 0) (hz : z1 * z2 ≤ 0) : x1 * x2 ≤ 0 := by
  by_cases c : 0 < x1 * x2
  · have e : (β * x1) * (β * x2) = (β * β) * (x1 * x2) := by grind
    have p : 0 < (β * x1) * (β * x2) := by
      rw [e]
      exact Int.mul_pos (Int.mul_pos hb hb) c
    rw [h1, h2] at p
    have e2 : (y1 - z1) * (y2 - z2) = y1 * y2 + z1 * z2 - 2 * (y1 * z2) := by grind
    have e3 : (y1 * z2) * (y1 * z2) = (y1 * y2) * (z1 * z2) := by grind
    rw [e2] at p
    generalize y1 * y2 = P at *
    generalize z1 * z2 = R at *
    generalize y1 * z2 = K at *
    have q : 0 < (P + R - 2 * K) * (-(P + R) - 2 * K) := Int.mul_pos p (by omega)
    have q2 : (P + R - 2 * K) * (-(P + R) - 2 * K) = 4 * (K * K) - (P + R) * (P + R) := by grind
    rw [q2, e3] at q
    have q3 : 4 * (P * R) - (P + R) * (P + R) = -((P - R) * (P - R)) := by grind
    rw [q3] at q
    have := sqn (P - R)
    omega
  · omega
theorem op1 (α β u v : Int) : β * (u + α * v) = (β * u + (1 + α * β) * v) - v := by grind
theorem op2 (α β u1 v1 u2 v2 : Int) (h : u1 * v2 - v1 * u2 = 0) : (β * u1 + (1 + α * β) * v1) * v2 = v1 * (β * u2 + (1 + α * β) * v2) := by grind
theorem op3 (α β u1 v1 u2 v2 : Int) : (β * u1 + (1 + α * β) * v1) * v2 - v1 * (β * u2 + (1 + α * β) * v2) = β * (u1 * v2 - v1 * u2) := by grind
theorem flip2 (a b c : Int) : (a - b) * (a - c) = (b - a) * (c - a) := by grind
def aff (α β t1 t2 : Int) (p : Pt) : Pt := (p.1 + α * p.2 + t1, β * p.1 + (1 + α * β) * p.2 + t2)
theorem wind_aff {P : List Pt} (h0 : 0 < P.length) {α β t1 t2 S X Y : Int} (hb : 0 ≤ β) (no : ∀ e ∈ edges ((P.map (aff α β t1 t2)).map (sc S)), onL e.1 e.2 (X, Y) = false) :
    wind (edges ((P.map (aff α β t1 t2)).map (sc S))) (X, Y) = wind (edges (P.map (sc S))) ((1 + α * β) * (X - S * t1) - α * (Y - S * t2), (Y - S * t2) - β * (X - S * t1)) := by
  have e1 : edges ((P.map (aff α β t1 t2)).map (sc S)) = (edges P).map fun e => (sc S (aff α β t1 t2 e.1), sc S (aff α β t1 t2 e.2)) := by
    rw [List.map_map]
    exact edges_map _ P h0
  have e2 := edges_map (sc S) P h0
  obtain ⟨U, hU⟩ : ∃ U, U = (1 + α * β) * (X - S * t1) - α * (Y - S * t2) := ⟨_, rfl⟩
  obtain ⟨V, hV⟩ : ∃ V, V = (Y - S * t2) - β * (X - S * t1) := ⟨_, rfl⟩
  rw [← hU, ← hV]
  have k1 : ∀ p : Pt, (sc S (aff α β t1 t2 p)).2 - Y = β * (S * p.1 - U) + (1 + α * β) * (S * p.2 - V) := fun p => by
    simp only [sc, aff]; rw [hU, hV]; grind
  have k0 : ∀ p : Pt, (sc S (aff α β t1 t2 p)).1 - X = (S * p.1 - U) + α * (S * p.2 - V) := fun p => by
    simp only [sc, aff]; rw [hU, hV]; grind
  have kT : ∀ p q : Pt, trn (sc S (aff α β t1 t2 p)) (sc S (aff α β t1 t2 q)) (X, Y) = trn (sc S p) (sc S q) (U, V) := fun p q => by
    simp only [trn, sc, aff]; rw [hU, hV]; grind
  have kt : ∀ p q : Pt, trn (sc S p) (sc S q) (U, V) = (S * p.1 - U) * (S * q.2 - V) - (S * p.2 - V) * (S * q.1 - U) := fun p q => by
    simp only [trn, sc]; grind
  unfold wind
  rw [e1, e2, List.map_map, List.map_map]
  simp only [Function.comp_def]
  by_cases hβ : β = 0
  · congr 1
    refine List.map_congr_left fun e _ => ?_
    rw [crE_eq, crE_eq, kT, k1, k1, hβ]
    simp only [sc]
    congr 1 <;> omega
  · refine sum_round P _ _ (fun p => -qd (β * (S * p.1 - U) + (1 + α * β) * (S * p.2 - V)) (S * p.2 - V)) fun e he => ?_
    have n := no (sc S (aff α β t1 t2 e.1), sc S (aff α β t1 t2 e.2)) (by rw [e1]; exact List.mem_map.mpr ⟨e, he, rfl⟩)
    have r := ray (β * (S * e.1.1 - U) + (1 + α * β) * (S * e.1.2 - V)) (S * e.1.2 - V) (β * (S * e.2.1 - U) + (1 + α * β) * (S * e.2.2 - V)) (S * e.2.2 - V) (trn (sc S e.1) (sc S e.2) (U, V)) β (by omega) (by rw [kt]; exact op3 _ _ _ _ _ _) ?_
    · rw [crE_eq, crE_eq, kT, k1, k1, r]
      simp only [sc]
      omega
    · rintro ⟨z, zy, zz⟩
      have d : onL (sc S (aff α β t1 t2 e.1)) (sc S (aff α β t1 t2 e.2)) (X, Y) = true := by
        unfold onL
        rw [kT, decide_eq_true z, Bool.true_and, decide_eq_true_eq]
        have a1 := k0 e.1
        have a2 := k0 e.2
        have a3 := k1 e.1
        have a4 := k1 e.2
        simp only
        rw [flip2 X, flip2 Y, a1, a2, a3, a4]
        have o := opp (β := β) (x1 := S * e.1.1 - U + α * (S * e.1.2 - V)) (x2 := S * e.2.1 - U + α * (S * e.2.2 - V)) (y1 := β * (S * e.1.1 - U) + (1 + α * β) * (S * e.1.2 - V)) (y2 := β * (S * e.2.1 - U) + (1 + α * β) * (S * e.2.2 - V)) (z1 := S * e.1.2 - V) (z2 := S * e.2.2 - V)
          (by omega) (op1 _ _ _ _) (op1 _ _ _ _) (op2 _ _ _ _ _ _ (by rw [kt] at z; exact z)) zy zz
        omega
      rw [d] at n
      cases n
/-! shapes that lie along the axes -/
theorem cr_vert (c y0 y1 U V : Int) : crE (c, y0) (c, y1) (U, V) = (if (y0 ≤ V ∧ V < y1) ∧ U < c then 1 else 0) - (if (y1 ≤ V ∧ V < y0) ∧ U < c then 1 else 0) := by
  rw [crE_eq]
  have t : trn (c, y0) (c, y1) (U, V) = (c - U) * (y1 - y0) := by simp only [trn]; grind
  rw [t]
  unfold cS
  simp only
  have i1 : ((y0 - V ≤ 0 ∧ 0 < y1 - V) ∧ 0 < (c - U) * (y1 - y0)) ↔ ((y0 ≤ V ∧ V < y1) ∧ U < c) := by
    constructor
    · rintro ⟨⟨h1, h2⟩, h3⟩
      refine ⟨⟨by omega, by omega⟩, ?_⟩
      by_cases k : U < c
      · exact k
      · have := Int.mul_nonpos_of_nonpos_of_nonneg (a := c - U) (b := y1 - y0) (by omega) (by omega)
        omega
    · rintro ⟨⟨h1, h2⟩, h3⟩
      exact ⟨⟨by omega, by omega⟩, Int.mul_pos (by omega) (by omega)⟩
  have i2 : ((y1 - V ≤ 0 ∧ 0 < y0 - V) ∧ (c - U) * (y1 - y0) < 0) ↔ ((y1 ≤ V ∧ V < y0) ∧ U < c) := by
    constructor
    · rintro ⟨⟨h1, h2⟩, h3⟩
      refine ⟨⟨by omega, by omega⟩, ?_⟩
      by_cases k : U < c
      · exact k
      · have := Int.mul_nonneg_of_nonpos_of_nonpos (a := c - U) (b := y1 - y0) (by omega) (by omega)
        omega
    · rintro ⟨⟨h1, h2⟩, h3⟩
      exact ⟨⟨by omega, by omega⟩, Int.mul_neg_of_pos_of_neg (by omega) (by omega)⟩
  simp only [i1, i2]
theorem cr_hor (x0 x1 y : Int) (s : Pt) : crE (x0, y) (x1, y) s = 0 := by
  rw [crE_eq]
  unfold cS
  rw [if_neg (by omega), if_neg (by omega)]
  rfl
def BG (P : List Pt) : Prop := ∀ S U V : Int, 0 < S → -1 ≤ wind (edges (P.map (sc S))) (U, V) ∧ wind (edges (P.map (sc S))) (U, V) ≤ 1
theorem sw {S w : Int} (h : 0 < S) (hw : 2 ≤ w) : S * 2 ≤ S * w := Int.mul_le_mul_of_nonneg_left hw (by omega)
theorem bg0 {w h : Int} (hw : 2 ≤ w) (hh : 2 ≤ h) : BG [(0, 0), (w, 0), (w, h), (0, h)] := fun S U V hS => by
  have a1 := sw hS hw
  have a2 := sw hS hh
  simp only [List.map_cons, List.map_nil, sc, edges_cons, List.cons_append, List.nil_append, List.zip_cons_cons, List.zip_nil_right, wind, cr_hor, cr_vert, List.sum_cons, List.sum_nil, Int.mul_zero, Int.mul_one]
  generalize S * w = W at *
  generalize S * h = H at *
  repeat' split
  all_goals omega
end G

namespace G
open PySem PySem.Spec L2 PV
set_option autoImplicit false
set_option linter.all false
theorem bg1 {w h : Int} (hw : 2 ≤ w) (hh : 2 ≤ h) : BG [(0, 0), (w, 0), (w, 1), (1, 1), (1, h), (0, h)] := fun S U V hS => by
  have a1 := sw hS hw
  have a2 := sw hS hh
  simp only [List.map_cons, List.map_nil, sc, edges_cons, List.cons_append, List.nil_append, List.zip_cons_cons, List.zip_nil_right, wind, cr_hor, cr_vert, List.sum_cons, List.sum_nil, Int.mul_zero, Int.mul_one]
  generalize S * w = W at *
  generalize S * h = H at *
  repeat' split
  all_goals omega
theorem bg2 {h : Int} (hh : 2 ≤ h) : BG [(0, 0), (3, 0), (3, h), (2, h), (2, 1), (1, 1), (1, h), (0, h)] := fun S U V hS => by
  have a2 := sw hS hh
  simp only [List.map_cons, List.map_nil, sc, edges_cons, List.cons_append, List.nil_append, List.zip_cons_cons, List.zip_nil_right, wind, cr_hor, cr_vert, List.sum_cons, List.sum_nil, Int.mul_zero, Int.mul_one]
  generalize S * h = H at *
  repeat' split
  all_goals omega
theorem bg3 {w h : Int} (hw : 2 ≤ w) (hh : 2 ≤ h) : BG [(0, 0), (1, 0), (w, 0), (w, h), (0, h)] := fun S U V hS => by
  have a1 := sw hS hw
  have a2 := sw hS hh
  simp only [List.map_cons, List.map_nil, sc, edges_cons, List.cons_append, List.nil_append, List.zip_cons_cons, List.zip_nil_right, wind, cr_hor, cr_vert, List.sum_cons, List.sum_nil, Int.mul_zero, Int.mul_one]
  generalize S * w = W at *
  generalize S * h = H at *
  repeat' split
  all_goals omega
theorem bg4 {h : Int} (hh : 2 ≤ h) : BG [(0, 0), (3, 0), (3, 1), (2, 1), (2, h), (1, h), (1, 1), (0, 1)] := fun S U V hS => by
  have a2 := sw hS hh
  simp only [List.map_cons, List.map_nil, sc, edges_cons, List.cons_append, List.nil_append, List.zip_cons_cons, List.zip_nil_right, wind, cr_hor, cr_vert, List.sum_cons, List.sum_nil, Int.mul_zero, Int.mul_one]
  generalize S * h = H at *
  repeat' split
  all_goals omega
theorem bg5 {w : Int} (hw : 2 ≤ w) : BG [(0, 0), (w, 0), (w, 1), (1, 1), (1, 2), (w, 2), (w, 3), (0, 3)] := fun S U V hS => by
  have a1 := sw hS hw
  simp only [List.map_cons, List.map_nil, sc, edges_cons, List.cons_append, List.nil_append, List.zip_cons_cons, List.zip_nil_right, wind, cr_hor, cr_vert, List.sum_cons, List.sum_nil, Int.mul_zero, Int.mul_one]
  generalize S * w = W at *
  repeat' split
  all_goals omega
theorem bg6 : BG [(0, 0), (1, 0), (1, 1), (0, 1)] := fun S U V hS => by
  simp only [List.map_cons, List.map_nil, sc, edges_cons, List.cons_append, List.nil_append, List.zip_cons_cons, List.zip_nil_right, wind, cr_hor, cr_vert, List.sum_cons, List.sum_nil, Int.mul_zero, Int.mul_one]
  repeat' split
  all_goals omega
theorem cS_sc {S : Int} (hS : 0 < S) (n1 n2 L : Int) : cS n1 n2 (S * L) = cS n1 n2 L := by
  have p : 0 < S * L ↔ 0 < L := by
    have : S * 0 < S * L ↔ 0 < L := Int.mul_lt_mul_left hS
    rw [Int.mul_zero] at this; exact this
  have n : S * L < 0 ↔ L < 0 := by
    have : S * L < S * 0 ↔ L < 0 := Int.mul_lt_mul_left hS
    rw [Int.mul_zero] at this; exact this
  unfold cS
  simp only [p, n]
theorem cr_lin {S : Int} (hS : 0 < S) (p1 p2 q1 q2 U V : Int) : crE (S * p1, S * p2) (S * q1, S * q2) (U, V) = cS (S * p2 - V) (S * q2 - V) ((q1 - p1) * (V - S * p2) - (q2 - p2) * (U - S * p1)) := by
  rw [crE_eq]
  have t : trn (S * p1, S * p2) (S * q1, S * q2) (U, V) = S * ((q1 - p1) * (V - S * p2) - (q2 - p2) * (U - S * p1)) := by simp only [trn]; grind
  rw [t, cS_sc hS]
theorem cS_up {n1 n2 T : Int} (h : n1 < n2) : cS n1 n2 T = if (n1 ≤ 0 ∧ 0 < n2) ∧ 0 < T then 1 else 0 := by
  unfold cS
  rw [if_neg (c := (n2 ≤ 0 ∧ 0 < n1) ∧ T < 0) (by omega)]
  omega
theorem cS_down {n1 n2 T : Int} (h : n2 < n1) : cS n1 n2 T = -(if (n2 ≤ 0 ∧ 0 < n1) ∧ T < 0 then 1 else 0) := by
  unfold cS
  rw [if_neg (c := (n1 ≤ 0 ∧ 0 < n2) ∧ 0 < T) (by omega)]
  omega
theorem tri (a b : Int) (ha : 0 ≤ a ∧ a ≤ 2) (hb : 0 ≤ b ∧ b ≤ 2) : BG [(0, 0), (1 + a, 0 - b), (2, 3)] := fun S U V hS => by
  have h : (a = 0 ∨ a = 1 ∨ a = 2) ∧ (b = 0 ∨ b = 1 ∨ b = 2) := by omega
  simp only [List.map_cons, List.map_nil, sc, edges_cons, List.cons_append, List.nil_append, List.zip_cons_cons, List.zip_nil_right, wind, cr_lin hS, List.sum_cons, List.sum_nil]
  obtain ⟨rfl | rfl | rfl, rfl | rfl | rfl⟩ := h <;> (unfold cS; repeat' split) <;> omega
set_option maxHeartbeats 0 in
theorem pent (a b : Int) (ha : 0 ≤ a ∧ a ≤ 1) (hb : 0 ≤ b ∧ b ≤ 2) : BG [(0, 0), (2 + a, 1), (4, 0), (3, 3), (1, 2 + b)] := fun S U V hS => by
  have h : (a = 0 ∨ a = 1) ∧ (b = 0 ∨ b = 1 ∨ b = 2) := by omega
  simp only [List.map_cons, List.map_nil, sc, edges_cons, List.cons_append, List.nil_append, List.zip_cons_cons, List.zip_nil_right, wind, cr_lin hS, List.sum_cons, List.sum_nil]
  obtain ⟨rfl | rfl, rfl | rfl | rfl⟩ := h
  all_goals
    first
    | (rw [cS_up (by omega), cS_down (by omega), cS_up (by omega), cS_down (by omega), cS_down (by omega)]; repeat' split)
    | (rw [cS_up (by omega), cS_down (by omega), cS_up (by omega), cS_up (by omega), cS_down (by omega)]; repeat' split)
    | (unfold cS; repeat' split)
  all_goals omega
end G

/-! ### the least of points -/
namespace G
open PySem PySem.Spec L2 PV
set_option autoImplicit false
set_option linter.all false
def ltP (a b : Pt) : Bool := if a.1 = b.1 then decide (a.2 < b.2) else decide (a.1 < b.1)
theorem ltP_data (a b : Pt) : PySem.W.dataLt (dP a) (dP b) = ltP a b := PySem.W.DatumOrd.lt_eq (α := Int × Int) a b
theorem dP_alike (a b : Pt) : PySem.W.alike (dP a) (dP b) = true := PySem.W.DatumOrd.alike (α := Int × Int) a b
theorem dPs_depth (l : List Pt) : PyData.depthAll (l.map dP) ≤ 64 := depthAll_le fun d hd => by
  obtain ⟨p, _, rfl⟩ := List.mem_map.mp hd
  exact Nat.le_trans (dP_nice p).lay.2 (by decide)
def minP (a : Pt) (l : List Pt) : Pt := l.foldl (fun a y => if ltP y a = true then y else a) a
theorem min_spec (a : Pt) (l : List Pt) : gMinL [.list ((a :: l).map dP)] = .ok (dP (minP a l)) := by
  have e : PySem.W.minD (dP a) (l.map dP) = dP (minP a l) := by
    induction l generalizing a with
    | nil => rfl
    | cons y r ih =>
      show PySem.W.minD (if PySem.W.dataLt (dP y) (dP a) = true then dP y else dP a) (r.map dP) = dP (minP (if ltP y a = true then y else a) r)
      rw [ltP_data, ← ih]
      split <;> rfl
  have h1 := alikeL_maps dP_alike (a :: l)
  have h2 := noNone_maps (f := dP) (fun x e => by cases e) (a :: l)
  have h3 := dPs_depth (a :: l)
  simp only [List.map_cons] at h1 h2 h3 ⊢
  unfold gMinL gBest
  simp only [h1, h2, h3, and_self, if_true, e]
theorem minP_mem : ∀ (a : Pt) (l : List Pt), minP a l ∈ a :: l
  | a, [] => List.mem_cons_self
  | a, y :: r => by
    have e : minP a (y :: r) = minP (if ltP y a = true then y else a) r := rfl
    rw [e]
    have := minP_mem (if ltP y a = true then y else a) r
    rcases List.mem_cons.mp this with h | h
    · rw [h]
      split
      · exact List.mem_cons_of_mem _ List.mem_cons_self
      · exact List.mem_cons_self
    · exact List.mem_cons_of_mem _ (List.mem_cons_of_mem _ h)
end G

/-! ### the ring -/
namespace G
open PySem PySem.Spec L2 PV
set_option autoImplicit false
set_option linter.all false
def Good (r : List Pt) : Prop := ∀ S X Y : Int, 0 < S → (∀ e ∈ edges (r.map (sc S)), onL e.1 e.2 (X, Y) = false) → -1 ≤ wind (edges (r.map (sc S))) (X, Y) ∧ wind (edges (r.map (sc S))) (X, Y) ≤ 1
theorem good_aff {P : List Pt} (h0 : 0 < P.length) (h : BG P) {α β t1 t2 : Int} (hb : 0 ≤ β) : Good (P.map (aff α β t1 t2)) := fun S X Y hS no => by
  rw [wind_aff h0 hb no]
  exact h S _ _ hS
theorem good_rot {x y : List Pt} (h : Good (x ++ y)) : Good (y ++ x) := fun S X Y hS no => by
  have p := edges_swap (x.map (sc S)) (y.map (sc S))
  rw [← List.map_append, ← List.map_append] at p
  rw [wind_perm p]
  exact h S X Y hS fun e he => no e (p.mem_iff.mpr he)
theorem begun_spec {r : List Pt} (h0 : 0 < r.length) (hl : r.length < 1000) : ∃ x y : List Pt, r = x ++ y ∧ m__law_begun [.list (r.map dP)] = .ok ⟨.list ((y ++ x).map dP), true⟩ := by
  obtain ⟨a, t, rfl⟩ : ∃ a t, r = a :: t := by
    cases r with
    | nil => cases h0
    | cons a t => exact ⟨a, t, rfl⟩
  have mn := min_spec a t
  obtain ⟨j, h1, h2, h3⟩ := gIndex_map (xs := a :: t) dP_eqv dP_nice (by decide) (by omega) (minP_mem a t)
  have c1 : cutD ((a :: t).map dP) (some 0) (some (j : Int)) = ((a :: t).take j).map dP := by
    have := cutm_to (f := dP) (xs := a :: t) (b := (j : Int)) (by omega)
    rw [Int.toNat_natCast] at this; exact this
  have c2 : cutD ((a :: t).map dP) (some (j : Int)) none = ((a :: t).drop j).map dP := by
    have := cutm_from (f := dP) (xs := a :: t) (z := (j : Int)) (by omega)
    rw [Int.toNat_natCast] at this; exact this
  refine ⟨(a :: t).take j, (a :: t).drop j, (List.take_append_drop _ _).symm, ?_⟩
  have l1 : ((a :: t).drop j).length + ((a :: t).take j).length < 1000000 := by rw [List.length_drop, List.length_take]; omega
  generalize (a :: t).take j = T1 at *
  generalize (a :: t).drop j = T2 at *
  generalize (a :: t).map dP = R at *
  simp [m__law_begun, b__law_begun, mn, h3, c1, c2, l1]
end G

/-! ### the ring that is drawn -/
namespace G
open PySem PySem.Spec L2 PV
set_option autoImplicit false
set_option linter.all false
theorem shape_spec {ds : List Int} (hat : ∀ i : Int, 0 ≤ i → i < 4 → atI (ds.map PyData.int) i = some (.int (dg ds i))) : ∃ P : List Pt, m__law_shape [.list (ds.map PyData.int), .int 0] = .ok ⟨.list (P.map dP), true⟩ ∧ BG P ∧ 0 < P.length ∧ P.length ≤ 8 ∧ ∀ p ∈ P, (0 ≤ p.1 ∧ p.1 ≤ 4) ∧ 0 ≤ p.2 ∧ p.2 ≤ 4 := by
  have a0 := hat 0 (by decide) (by decide)
  have a1 := hat 1 (by decide) (by decide)
  have m7 := modOk_pos (dg ds 0) 7 (by decide)
  have m3 := modOk_pos (dg ds 1) 3 (by decide)
  have d3 := divOk_pos (dg ds 1) 3 (by decide) (by decide)
  have m3' := modOk_pos ((dg ds 1).fdiv 3) 3 (by decide)
  have b7 := fmod_bd (dg ds 0) 7 (by decide)
  have b3 := fmod_bd (dg ds 1) 3 (by decide)
  have b3' := fmod_bd ((dg ds 1).fdiv 3) 3 (by decide)
  obtain ⟨w, hw⟩ : ∃ w, w = 2 + (dg ds 1).fmod 3 := ⟨_, rfl⟩
  obtain ⟨h, hh⟩ : ∃ h, h = 2 + ((dg ds 1).fdiv 3).fmod 3 := ⟨_, rfl⟩
  have w1 : 2 ≤ w := by omega
  have h1 : 2 ≤ h := by omega
  have w2 : w ≤ 4 := by omega
  have h2 : h ≤ 4 := by omega
  generalize hk : (dg ds 0).fmod 7 = k at *
  have kk : k = 0 ∨ k = 1 ∨ k = 2 ∨ k = 3 ∨ k = 4 ∨ k = 5 ∨ k = 6 := by omega
  have go : ∀ P : List Pt, BG P → 0 < P.length → P.length ≤ 8 → (∀ p ∈ P, (0 ≤ p.1 ∧ p.1 ≤ 4) ∧ 0 ≤ p.2 ∧ p.2 ≤ 4) → m__law_shape [.list (ds.map PyData.int), .int 0] = .ok ⟨.list (P.map dP), true⟩ → ∃ P : List Pt, m__law_shape [.list (ds.map PyData.int), .int 0] = .ok ⟨.list (P.map dP), true⟩ ∧ BG P ∧ 0 < P.length ∧ P.length ≤ 8 ∧ ∀ p ∈ P, (0 ≤ p.1 ∧ p.1 ≤ 4) ∧ 0 ≤ p.2 ∧ p.2 ≤ 4 := fun P x1 x2 x3 x4 x5 => ⟨P, x5, x1, x2, x3, x4⟩
  generalize ds.map PyData.int = L at *
  rcases kk with rfl | rfl | rfl | rfl | rfl | rfl | rfl
  · refine go _ (bg0 w1 h1) (by simp) (by simp) (by simp; omega) ?_
    simp [m__law_shape, b__law_shape, b__law_shape_t1, b__law_shape_t2, b__law_shape_t3, b__law_shape_t4, b__law_shape_t5, b__law_shape_t6, b__law_shape_t7, b__law_shape_t8, b__law_shape_t9, a0, a1, m7, m3, d3, m3', hk, dP, ← hw, ← hh]
  · refine go _ (bg1 w1 h1) (by simp) (by simp) (by simp; omega) ?_
    simp [m__law_shape, b__law_shape, b__law_shape_t1, b__law_shape_t2, b__law_shape_t3, b__law_shape_t4, b__law_shape_t5, b__law_shape_t6, b__law_shape_t7, b__law_shape_t8, b__law_shape_t9, a0, a1, m7, m3, d3, m3', hk, dP, ← hw, ← hh]
  · refine go _ (bg2 h1) (by simp) (by simp) (by simp; omega) ?_
    simp [m__law_shape, b__law_shape, b__law_shape_t1, b__law_shape_t2, b__law_shape_t3, b__law_shape_t4, b__law_shape_t5, b__law_shape_t6, b__law_shape_t7, b__law_shape_t8, b__law_shape_t9, a0, a1, m7, m3, d3, m3', hk, dP, ← hw, ← hh]
  · refine go _ (bg3 w1 h1) (by simp) (by simp) (by simp; omega) ?_
    simp [m__law_shape, b__law_shape, b__law_shape_t1, b__law_shape_t2, b__law_shape_t3, b__law_shape_t4, b__law_shape_t5, b__law_shape_t6, b__law_shape_t7, b__law_shape_t8, b__law_shape_t9, a0, a1, m7, m3, d3, m3', hk, dP, ← hw, ← hh]
  · refine go _ (bg4 h1) (by simp) (by simp) (by simp; omega) ?_
    simp [m__law_shape, b__law_shape, b__law_shape_t1, b__law_shape_t2, b__law_shape_t3, b__law_shape_t4, b__law_shape_t5, b__law_shape_t6, b__law_shape_t7, b__law_shape_t8, b__law_shape_t9, a0, a1, m7, m3, d3, m3', hk, dP, ← hw, ← hh]
  · refine go _ (bg5 w1) (by simp) (by simp) (by simp; omega) ?_
    simp [m__law_shape, b__law_shape, b__law_shape_t1, b__law_shape_t2, b__law_shape_t3, b__law_shape_t4, b__law_shape_t5, b__law_shape_t6, b__law_shape_t7, b__law_shape_t8, b__law_shape_t9, a0, a1, m7, m3, d3, m3', hk, dP, ← hw, ← hh]
  · refine go _ bg6 (by simp) (by simp) (by simp) ?_
    simp [m__law_shape, b__law_shape, b__law_shape_t1, b__law_shape_t2, b__law_shape_t3, b__law_shape_t4, b__law_shape_t5, b__law_shape_t6, b__law_shape_t7, b__law_shape_t8, b__law_shape_t9, a0, a1, m7, m3, d3, m3', hk, dP, ← hw, ← hh]
end G

namespace G
open PySem PySem.Spec L2 PV
set_option autoImplicit false
set_option linter.all false
structure Ring (r : List Pt) : Prop where
  l0 : 0 < r.length
  l8 : r.length ≤ 8
  bd : ∀ p ∈ r, (-50 ≤ p.1 ∧ p.1 ≤ 50) ∧ -50 ≤ p.2 ∧ p.2 ≤ 50
  gd : Good r
theorem ring_aff {P : List Pt} (h : BG P) (h0 : 0 < P.length) (h8 : P.length ≤ 8) (hb : ∀ p ∈ P, (-2 ≤ p.1 ∧ p.1 ≤ 4) ∧ -2 ≤ p.2 ∧ p.2 ≤ 4) {α β t1 t2 : Int} (ha : 0 ≤ α ∧ α ≤ 2) (hβ : 0 ≤ β ∧ β ≤ 2) (ht : -4 ≤ t1 ∧ t1 ≤ 4) (ht' : -4 ≤ t2 ∧ t2 ≤ 4) : Ring (P.map (aff α β t1 t2)) where
  l0 := by rw [List.length_map]; exact h0
  l8 := by rw [List.length_map]; exact h8
  bd := fun p hp => by
    obtain ⟨q, hq, rfl⟩ := List.mem_map.mp hp
    have := hb q hq
    have a : α = 0 ∨ α = 1 ∨ α = 2 := by omega
    have b : β = 0 ∨ β = 1 ∨ β = 2 := by omega
    simp only [aff]
    rcases a with rfl | rfl | rfl <;> rcases b with rfl | rfl | rfl <;> omega
  gd := good_aff h0 h hβ.1
theorem begun_ring {r : List Pt} (h : Ring r) : ∃ r', Ring r' ∧ m__law_begun [.list (r.map dP)] = .ok ⟨.list (r'.map dP), true⟩ := by
  obtain ⟨x, y, rfl, hb⟩ := begun_spec h.l0 (by have := h.l8; omega)
  refine ⟨y ++ x, ⟨?_, ?_, ?_, good_rot h.gd⟩, hb⟩
  · have := h.l0; rw [List.length_append] at *; omega
  · have := h.l8; rw [List.length_append] at *; omega
  · intro p hp
    refine h.bd p ?_
    rw [List.mem_append] at *
    exact hp.symm
theorem ring_spec {ds : List Int} (hat : ∀ i : Int, 0 ≤ i → i < 4 → atI (ds.map PyData.int) i = some (.int (dg ds i))) : ∃ r : List Pt, Ring r ∧ m__law_ring [.list (ds.map PyData.int), .int 0] = .ok ⟨.list (r.map dP), true⟩ := by
  obtain ⟨P, hP, g, p0, p8, pb⟩ := shape_spec hat
  have a0 := hat 0 (by decide) (by decide)
  have a2 := hat 2 (by decide) (by decide)
  have a3 := hat 3 (by decide) (by decide)
  have m3 := fun z => modOk_pos z 3 (by decide)
  have m9 := fun z => modOk_pos z 9 (by decide)
  have m8 := fun z => modOk_pos z 8 (by decide)
  have d3 := fun z => divOk_pos z 3 (by decide) (by decide)
  have d9 := fun z => divOk_pos z 9 (by decide) (by decide)
  have d2 := fun z => divOk_pos z 2 (by decide) (by decide)
  have b1 := fmod_bd (dg ds 2) 3 (by decide)
  have b2 := fmod_bd ((dg ds 2).fdiv 3) 3 (by decide)
  have b3 := fmod_bd (dg ds 3) 9 (by decide)
  have b4 := fmod_bd ((dg ds 3).fdiv 9) 9 (by decide)
  generalize hα : (dg ds 2).fmod 3 = α at *
  generalize hβ : ((dg ds 2).fdiv 3).fmod 3 = β at *
  obtain ⟨t1, ht1⟩ : ∃ t1, t1 = (dg ds 3).fmod 9 - 4 := ⟨_, rfl⟩
  obtain ⟨t2, ht2⟩ : ∃ t2, t2 = ((dg ds 3).fdiv 9).fmod 9 - 4 := ⟨_, rfl⟩
  have c1 : -4 ≤ t1 ∧ t1 ≤ 4 := by omega
  have c2 : -4 ≤ t2 ∧ t2 ≤ 4 := by omega
  have q2 : 0 ≤ α.fdiv 2 ∧ α.fdiv 2 ≤ 1 := by rw [Int.fdiv_eq_ediv_of_nonneg _ (by decide)]; omega
  have mα : ∀ z : Int, mulOk α z = true := fun z => mulOk_small' _ _ (by omega)
  have mβ : ∀ z : Int, mulOk β z = true := fun z => mulOk_small' _ _ (by omega)
  have mαβ : ∀ z : Int, mulOk (1 + α * β) z = true := fun z => mulOk_small' _ _ (by
    have b : β = 0 ∨ β = 1 ∨ β = 2 := by omega
    rcases b with rfl | rfl | rfl <;> omega)
  have r1 : Ring (P.map (aff α β t1 t2)) := ring_aff g p0 p8 (fun p hp => by have := pb p hp; omega) (by omega) (by omega) c1 c2
  have r2 : Ring ([(0, 0), (2 + α.fdiv 2, 1), (4, 0), (3, 3), (1, 2 + β)].map (aff 0 0 t1 t2)) := ring_aff (pent (α.fdiv 2) β (by omega) (by omega)) (by simp) (by simp) (by simp; omega) (by omega) (by omega) c1 c2
  have r3 : Ring ([(0, 0), (1 + α, 0 - β), (2, 3)].map (aff 0 0 t1 t2)) := ring_aff (tri α β (by omega) (by omega)) (by simp) (by simp) (by simp; omega) (by omega) (by omega) c1 c2
  have e1 : P.map (fun p => PyData.tuple [.int (p.1 + α * p.2 + t1), .int (β * p.1 + (1 + α * β) * p.2 + t2)]) = (P.map (aff α β t1 t2)).map dP := by
    rw [List.map_map]; rfl
  have pl : P.length < 1000000 := by omega
  have rl : (P.map (aff α β t1 t2)).length < 1000000 := by rw [List.length_map]; exact pl
  generalize P.map (aff α β t1 t2) = R1 at *
  by_cases k8 : (dg ds 0).fmod 8 = 1
  · obtain ⟨r, hr, hb⟩ := begun_ring r3
    refine ⟨r, hr, ?_⟩
    generalize hD : r.map dP = D at *
    generalize ds.map PyData.int = L at *
    simp [dP, aff] at hb
    have t6 : ∀ x6 : Sl, b__law_ring_t6 [.fz (.list L), .fz (.int 0), .fz (.int α), .fz (.int β), .fz (.int t1), .fz (.int t2), x6, .no, .no] = .ret ⟨.list D, true⟩ := fun x6 => by
      simp [b__law_ring_t6, b__law_ring_t7, a0, m8, k8, hb]
    by_cases k3 : (dg ds 0).fmod 3 = 0
    · simp +contextual [m__law_ring, b__law_ring, b__law_ring_t1, b__law_ring_t2, b__law_ring_t3, b__law_ring_t4, b__law_ring_t5, a0, a2, a3, m3, m9, d3, d9, d2, pl, rl, hα, hβ, ← ht1, ← ht2, hP, dP_ap, mα, mβ, mαβ, k3, t6]
    · simp +contextual [m__law_ring, b__law_ring, b__law_ring_t1, b__law_ring_t2, b__law_ring_t3, b__law_ring_t4, b__law_ring_t5, a0, a2, a3, m3, m9, d3, d9, d2, pl, rl, hα, hβ, ← ht1, ← ht2, hP, dP_ap, mα, mβ, mαβ, k3, t6]
  · by_cases k3 : (dg ds 0).fmod 3 = 0
    · obtain ⟨r, hr, hb⟩ := begun_ring r2
      refine ⟨r, hr, ?_⟩
      generalize hD : r.map dP = D at *
      generalize ds.map PyData.int = L at *
      simp [dP, aff] at hb
      simp +contextual [m__law_ring, b__law_ring, b__law_ring_t1, b__law_ring_t2, b__law_ring_t3, b__law_ring_t4, b__law_ring_t5, b__law_ring_t6, b__law_ring_t7, a0, a2, a3, m3, m8, m9, d3, d9, d2, pl, rl, hα, hβ, ← ht1, ← ht2, hP, dP_ap, mα, mβ, mαβ, k3, k8, hb]
    · obtain ⟨r, hr, hb⟩ := begun_ring r1
      refine ⟨r, hr, ?_⟩
      generalize hD : r.map dP = D at *
      generalize ds.map PyData.int = L at *
      simp +contextual [m__law_ring, b__law_ring, b__law_ring_t1, b__law_ring_t2, b__law_ring_t3, b__law_ring_t4, b__law_ring_t5, b__law_ring_t6, b__law_ring_t7, a0, a2, a3, m3, m8, m9, d3, d9, d2, pl, rl, hα, hβ, ← ht1, ← ht2, hP, dP_ap, mα, mβ, mαβ, k3, k8, e1, hb]
end G

/-! ### how near two stretches are -/
namespace G
open PySem PySem.Spec L2 PV
set_option autoImplicit false
set_option linter.all false
def nq (x y : Rat) : Rat := x * x + y * y
theorem le_tot (a b : Rat) : a ≤ b ∨ b ≤ a := Rat.le_total
theorem sq_nn (x : Rat) : 0 ≤ x * x := by
  rcases le_tot 0 x with h | h
  · exact Rat.mul_nonneg h h
  · have : 0 ≤ -x := by grind
    have := Rat.mul_nonneg this this
    grind
theorem nq_nn (x y : Rat) : 0 ≤ nq x y := by
  have := sq_nn x
  have := sq_nn y
  unfold nq
  grind
theorem mul_le_l {a b c : Rat} (h : a ≤ b) (hc : 0 ≤ c) : a * c ≤ b * c := by
  have : 0 ≤ (b - a) * c := Rat.mul_nonneg (by grind) hc
  grind
theorem exit1 {t a : Rat} (h0 : 0 ≤ t) (h1 : t ≤ 1) (ha : a ≠ 0) : ∃ s : Rat, 0 ≤ s ∧ (t + s * a = 0 ∨ t + s * a = 1) ∧ ∀ r, 0 ≤ r → r ≤ s → 0 ≤ t + r * a ∧ t + r * a ≤ 1 := by
  rcases le_tot 0 a with h | h
  · have pos : 0 < a := by grind
    have ip : 0 < a⁻¹ := Rat.inv_pos.mpr pos
    have e : (1 - t) * a⁻¹ * a = 1 - t := by grind
    have s0 : 0 ≤ (1 - t) * a⁻¹ := Rat.mul_nonneg (by grind) (by grind)
    generalize (1 - t) * a⁻¹ = s at *
    refine ⟨s, s0, .inr (by grind), fun r r0 r1 => ?_⟩
    have k1 := mul_le_l r1 h
    have k2 := Rat.mul_nonneg r0 h
    constructor <;> grind
  · have pos : 0 < -a := by grind
    have ip : 0 < (-a)⁻¹ := Rat.inv_pos.mpr pos
    have e : t * (-a)⁻¹ * -a = t := by grind
    have s0 : 0 ≤ t * (-a)⁻¹ := Rat.mul_nonneg h0 (by grind)
    generalize t * (-a)⁻¹ = s at *
    refine ⟨s, s0, .inl (by grind), fun r r0 r1 => ?_⟩
    have hn : 0 ≤ -a := by grind
    have k1 := mul_le_l r1 hn
    have k2 := Rat.mul_nonneg r0 hn
    constructor <;> grind
theorem exit2 {t u a b : Rat} (t0 : 0 ≤ t) (t1 : t ≤ 1) (u0 : 0 ≤ u) (u1 : u ≤ 1) (h : a ≠ 0 ∨ b ≠ 0) : ∃ s : Rat, 0 ≤ s ∧ (∀ r, 0 ≤ r → r ≤ s → (0 ≤ t + r * a ∧ t + r * a ≤ 1) ∧ (0 ≤ u + r * b ∧ u + r * b ≤ 1)) ∧ ((t + s * a = 0 ∨ t + s * a = 1) ∨ (u + s * b = 0 ∨ u + s * b = 1)) := by
  by_cases ha : a = 0
  · have hb : b ≠ 0 := by
      rcases h with h | h
      · exact absurd ha h
      · exact h
    obtain ⟨s, s0, e, k⟩ := exit1 u0 u1 hb
    refine ⟨s, s0, fun r r0 r1 => ⟨?_, k r r0 r1⟩, .inr e⟩
    rw [ha, Rat.mul_zero, Rat.add_zero]
    exact ⟨t0, t1⟩
  · obtain ⟨s, s0, e, k⟩ := exit1 t0 t1 ha
    by_cases hb : b = 0
    · refine ⟨s, s0, fun r r0 r1 => ⟨k r r0 r1, ?_⟩, .inl e⟩
      rw [hb, Rat.mul_zero, Rat.add_zero]
      exact ⟨u0, u1⟩
    · obtain ⟨s', s0', e', k'⟩ := exit1 u0 u1 hb
      rcases le_tot s s' with c | c
      · exact ⟨s, s0, fun r r0 r1 => ⟨k r r0 r1, k' r r0 (Rat.le_trans r1 c)⟩, .inl e⟩
      · exact ⟨s', s0', fun r r0 r1 => ⟨k r r0 (Rat.le_trans r1 c), k' r r0 r1⟩, .inr e'⟩
def Fq (w1 w2 d1 d2 e1 e2 t u : Rat) : Rat := nq (w1 + t * d1 - u * e1) (w2 + t * d2 - u * e2)
section
variable {w1 w2 d1 d2 e1 e2 m : Rat}
theorem near_main (b0 : ∀ u, 0 ≤ u → u ≤ 1 → m ≤ Fq w1 w2 d1 d2 e1 e2 0 u) (b1 : ∀ u, 0 ≤ u → u ≤ 1 → m ≤ Fq w1 w2 d1 d2 e1 e2 1 u) (c0 : ∀ t, 0 ≤ t → t ≤ 1 → m ≤ Fq w1 w2 d1 d2 e1 e2 t 0) (c1 : ∀ t, 0 ≤ t → t ≤ 1 → m ≤ Fq w1 w2 d1 d2 e1 e2 t 1)
    (no : d1 * e2 - d2 * e1 ≠ 0 → ∀ t u, 0 ≤ t → t ≤ 1 → 0 ≤ u → u ≤ 1 → ¬ (w1 + t * d1 - u * e1 = 0 ∧ w2 + t * d2 - u * e2 = 0)) {t u : Rat} (t0 : 0 ≤ t) (t1 : t ≤ 1) (u0 : 0 ≤ u) (u1 : u ≤ 1) : m ≤ Fq w1 w2 d1 d2 e1 e2 t u := by
  have bd : ∀ t' u', (0 ≤ t' ∧ t' ≤ 1) → (0 ≤ u' ∧ u' ≤ 1) → ((t' = 0 ∨ t' = 1) ∨ (u' = 0 ∨ u' = 1)) → m ≤ Fq w1 w2 d1 d2 e1 e2 t' u' := fun t' u' ht hu h => by
    rcases h with (h | h) | (h | h)
    · rw [h]; exact b0 _ hu.1 hu.2
    · rw [h]; exact b1 _ hu.1 hu.2
    · rw [h]; exact c0 _ ht.1 ht.2
    · rw [h]; exact c1 _ ht.1 ht.2
  by_cases c : d1 * e2 - d2 * e1 = 0
  · have dir : ∃ a b : Rat, (a ≠ 0 ∨ b ≠ 0) ∧ a * d1 = b * e1 ∧ a * d2 = b * e2 := by
      by_cases x1 : e1 = 0
      · by_cases x2 : d1 = 0
        · by_cases x3 : e2 = 0
          · by_cases x4 : d2 = 0
            · exact ⟨1, 0, .inl (by decide), by grind, by grind⟩
            · exact ⟨e2, d2, .inr x4, by grind, by grind⟩
          · exact ⟨e2, d2, .inl x3, by grind, by grind⟩
        · exact ⟨e1, d1, .inr x2, by grind, by grind⟩
      · exact ⟨e1, d1, .inl x1, by grind, by grind⟩
    obtain ⟨a, b, hab, h1, h2⟩ := dir
    obtain ⟨s, s0, k, e⟩ := exit2 t0 t1 u0 u1 hab
    obtain ⟨k1, k2⟩ := k s s0 (Rat.le_refl)
    have r := bd _ _ k1 k2 e
    have e1 : w1 + (t + s * a) * d1 - (u + s * b) * e1 = w1 + t * d1 - u * e1 := by grind
    have e2 : w2 + (t + s * a) * d2 - (u + s * b) * e2 = w2 + t * d2 - u * e2 := by grind
    unfold Fq at r ⊢
    rw [e1, e2] at r
    exact r
  · have no := no c
    obtain ⟨W1, hW1⟩ : ∃ W1, W1 = w1 + t * d1 - u * e1 := ⟨_, rfl⟩
    obtain ⟨W2, hW2⟩ : ∃ W2, W2 = w2 + t * d2 - u * e2 := ⟨_, rfl⟩
    obtain ⟨a, ha⟩ : ∃ a, a = (e1 * W2 - W1 * e2) * (d1 * e2 - d2 * e1)⁻¹ := ⟨_, rfl⟩
    obtain ⟨b, hb⟩ : ∃ b, b = (d1 * W2 - d2 * W1) * (d1 * e2 - d2 * e1)⁻¹ := ⟨_, rfl⟩
    have q1 : a * d1 - b * e1 = -W1 := by rw [ha, hb]; grind
    have q2 : a * d2 - b * e2 = -W2 := by rw [ha, hb]; grind
    have hab : a ≠ 0 ∨ b ≠ 0 := by
      by_cases a0 : a = 0
      · by_cases b0 : b = 0
        · exfalso
          rw [a0, b0] at q1 q2
          exact no t u t0 t1 u0 u1 ⟨by rw [← hW1]; grind, by rw [← hW2]; grind⟩
        · exact .inr b0
      · exact .inl a0
    obtain ⟨s, s0, k, e⟩ := exit2 t0 t1 u0 u1 hab
    by_cases s1 : 1 ≤ s
    · exfalso
      obtain ⟨k1, k2⟩ := k 1 (by decide) s1
      exact no _ _ k1.1 k1.2 k2.1 k2.2 ⟨by grind, by grind⟩
    · obtain ⟨k1, k2⟩ := k s s0 (Rat.le_refl)
      have r := bd _ _ k1 k2 e
      have z1 : w1 + (t + s * a) * d1 - (u + s * b) * e1 = (1 - s) * W1 := by grind
      have z2 : w2 + (t + s * a) * d2 - (u + s * b) * e2 = (1 - s) * W2 := by grind
      unfold Fq at r ⊢
      rw [z1, z2] at r
      rw [← hW1, ← hW2]
      have n := nq_nn W1 W2
      have e3 : nq ((1 - s) * W1) ((1 - s) * W2) = ((1 - s) * (1 - s)) * nq W1 W2 := by unfold nq; grind
      have s2 : (1 - s) * (1 - s) ≤ 1 := by
        have : 0 ≤ s * (2 - s) := Rat.mul_nonneg s0 (by grind)
        grind
      have := mul_le_l s2 n
      grind
end
end G

/-! ### the distance of a stone from a stretch -/
namespace G
open PySem PySem.Spec L2 PV
set_option autoImplicit false
set_option linter.all false
def sqI (a b : Pt) : Int := (a.1 - b.1) * (a.1 - b.1) + (a.2 - b.2) * (a.2 - b.2)
def alg (s a b : Pt) : Int := (s.1 - a.1) * (b.1 - a.1) + (s.2 - a.2) * (b.2 - a.2)
def dsq (s a b : Pt) : Rat := if alg s a b ≤ 0 then (sqI s a : Rat) else if sqI a b ≤ alg s a b then (sqI s b : Rat) else Rat.divInt (trn a b s * trn a b s) (sqI a b)
def cut01 (s a b : Pt) : Int := min (sqI a b) (max 0 (alg s a b))
def shr (s a b : Pt) : Rat := if 0 < sqI a b then Rat.divInt (cut01 s a b) (sqI a b) else 0
def ft1 (s a b : Pt) : Rat := (a.1 : Rat) + shr s a b * ((b.1 - a.1 : Int) : Rat)
def ft2 (s a b : Pt) : Rat := (a.2 : Rat) + shr s a b * ((b.2 - a.2 : Int) : Rat)
theorem icle {a b : Int} : (a : Rat) ≤ (b : Rat) ↔ a ≤ b := by
  have h := Rat.intCast_lt_intCast (a := b) (b := a)
  constructor
  · intro k
    rcases Int.lt_or_le b a with c | c
    · exact absurd (h.mpr c) (Rat.not_lt.mpr k)
    · exact c
  · intro k
    rw [← Rat.not_lt]
    intro c
    have := h.mp c
    omega
theorem isq (z : Int) : 0 ≤ z * z := by
  rcases Int.le_total 0 z with h | h
  · exact Int.mul_nonneg h h
  · have := Int.mul_nonneg (show 0 ≤ -z by omega) (show 0 ≤ -z by omega)
    rw [Int.neg_mul_neg] at this
    exact this
theorem sqI_nn (a b : Pt) : 0 ≤ sqI a b := by
  unfold sqI
  have h1 := isq (a.1 - b.1)
  have h2 := isq (a.2 - b.2)
  omega
theorem sqI_zero {a b : Pt} (h : sqI a b = 0) : b.1 - a.1 = 0 ∧ b.2 - a.2 = 0 := by
  unfold sqI at h
  have h1 := isq (a.1 - b.1)
  have h2 := isq (a.2 - b.2)
  have e1 : (a.1 - b.1) * (a.1 - b.1) = 0 := by omega
  have e2 : (a.2 - b.2) * (a.2 - b.2) = 0 := by omega
  have z1 : a.1 - b.1 = 0 := by rcases Int.mul_eq_zero.mp e1 with h | h <;> exact h
  have z2 : a.2 - b.2 = 0 := by rcases Int.mul_eq_zero.mp e2 with h | h <;> exact h
  omega
section
variable (s a b : Pt)
theorem rA : ((alg s a b : Int) : Rat) = ((s.1 : Rat) - a.1) * ((b.1 : Rat) - a.1) + ((s.2 : Rat) - a.2) * ((b.2 : Rat) - a.2) := by
  simp only [alg, Rat.intCast_add, Rat.intCast_mul, Rat.intCast_sub]
theorem rZ : ((sqI a b : Int) : Rat) = ((b.1 : Rat) - a.1) * ((b.1 : Rat) - a.1) + ((b.2 : Rat) - a.2) * ((b.2 : Rat) - a.2) := by
  simp only [sqI, Rat.intCast_add, Rat.intCast_mul, Rat.intCast_sub]; grind
theorem rS : ((sqI s a : Int) : Rat) = ((s.1 : Rat) - a.1) * ((s.1 : Rat) - a.1) + ((s.2 : Rat) - a.2) * ((s.2 : Rat) - a.2) := by
  simp only [sqI, Rat.intCast_add, Rat.intCast_mul, Rat.intCast_sub]
theorem rB : ((sqI s b : Int) : Rat) = (((s.1 : Rat) - a.1) - ((b.1 : Rat) - a.1)) * (((s.1 : Rat) - a.1) - ((b.1 : Rat) - a.1)) + (((s.2 : Rat) - a.2) - ((b.2 : Rat) - a.2)) * (((s.2 : Rat) - a.2) - ((b.2 : Rat) - a.2)) := by
  simp only [sqI, Rat.intCast_add, Rat.intCast_mul, Rat.intCast_sub]; grind
theorem rT : ((trn a b s : Int) : Rat) = ((b.1 : Rat) - a.1) * ((s.2 : Rat) - a.2) - ((b.2 : Rat) - a.2) * ((s.1 : Rat) - a.1) := by
  simp only [trn, Rat.intCast_mul, Rat.intCast_sub]
end
theorem ratZ {z : Int} (h : 0 < z) : (0 : Rat) < (z : Rat) := Rat.intCast_lt_intCast (a := 0) |>.mpr h
theorem foot_min (s a b : Pt) {l : Rat} (h0 : 0 ≤ l) (h1 : l ≤ 1) : dsq s a b ≤ nq ((s.1 : Rat) - ((a.1 : Rat) + l * ((b.1 : Rat) - a.1))) ((s.2 : Rat) - ((a.2 : Rat) + l * ((b.2 : Rat) - a.2))) := by
  have eA := rA s a b
  have eZ := rZ a b
  have eS := rS s a
  have eB := rB s a b
  have eT := rT s a b
  have e1 : (s.1 : Rat) - ((a.1 : Rat) + l * ((b.1 : Rat) - a.1)) = ((s.1 : Rat) - a.1) - l * ((b.1 : Rat) - a.1) := by grind
  have e2 : (s.2 : Rat) - ((a.2 : Rat) + l * ((b.2 : Rat) - a.2)) = ((s.2 : Rat) - a.2) - l * ((b.2 : Rat) - a.2) := by grind
  rw [e1, e2]
  generalize (s.1 : Rat) - a.1 = V1 at *
  generalize (s.2 : Rat) - a.2 = V2 at *
  generalize (b.1 : Rat) - a.1 = D1 at *
  generalize (b.2 : Rat) - a.2 = D2 at *
  have zn := icle.mpr (sqI_nn a b)
  have zn : (0 : Rat) ≤ (sqI a b : Rat) := zn
  have ex : nq (V1 - l * D1) (V2 - l * D2) = (sqI s a : Rat) - 2 * l * (alg s a b : Rat) + l * l * (sqI a b : Rat) := by unfold nq; grind
  rw [ex]
  unfold dsq
  by_cases c1 : alg s a b ≤ 0
  · rw [if_pos c1]
    have c1 : (alg s a b : Rat) ≤ 0 := icle.mpr c1
    have k1 := Rat.mul_nonneg h0 (show 0 ≤ -(alg s a b : Rat) by grind)
    have k2 := Rat.mul_nonneg (Rat.mul_nonneg h0 h0) zn
    grind
  · rw [if_neg c1]
    by_cases c2 : sqI a b ≤ alg s a b
    · rw [if_pos c2]
      have c2 : (sqI a b : Rat) ≤ (alg s a b : Rat) := icle.mpr c2
      have e3 : (sqI s b : Rat) = (sqI s a : Rat) - 2 * (alg s a b : Rat) + (sqI a b : Rat) := by grind
      have k1 := Rat.mul_nonneg (show 0 ≤ 1 - l by grind) (show 0 ≤ (alg s a b : Rat) - (sqI a b : Rat) by grind)
      have k2 := Rat.mul_nonneg (Rat.mul_nonneg (show 0 ≤ 1 - l by grind) (show 0 ≤ 1 - l by grind)) zn
      grind
    · rw [if_neg c2]
      have z0 : 0 < sqI a b := by omega
      have zp := ratZ z0
      have zi := Rat.inv_pos.mpr zp
      rw [Rat.divInt_eq_div, Rat.div_def, Rat.intCast_mul]
      have key : (trn a b s : Rat) * (trn a b s : Rat) + ((alg s a b : Rat) - l * (sqI a b : Rat)) * ((alg s a b : Rat) - l * (sqI a b : Rat)) = ((sqI s a : Rat) - 2 * l * (alg s a b : Rat) + l * l * (sqI a b : Rat)) * (sqI a b : Rat) := by grind
      have sn := sq_nn ((alg s a b : Rat) - l * (sqI a b : Rat))
      have le : (trn a b s : Rat) * (trn a b s : Rat) ≤ ((sqI s a : Rat) - 2 * l * (alg s a b : Rat) + l * l * (sqI a b : Rat)) * (sqI a b : Rat) := by grind
      have le2 := mul_le_l le (Rat.le_of_lt zi)
      have e4 : ((sqI s a : Rat) - 2 * l * (alg s a b : Rat) + l * l * (sqI a b : Rat)) * (sqI a b : Rat) * (sqI a b : Rat)⁻¹ = ((sqI s a : Rat) - 2 * l * (alg s a b : Rat) + l * l * (sqI a b : Rat)) := by
        rw [Rat.mul_assoc, Rat.mul_inv_cancel _ (by grind), Rat.mul_one]
      rw [e4] at le2
      exact le2
theorem foot_sq (s a b : Pt) : nq ((s.1 : Rat) - ft1 s a b) ((s.2 : Rat) - ft2 s a b) = dsq s a b := by
  have eA := rA s a b
  have eZ := rZ a b
  have eS := rS s a
  have eB := rB s a b
  have eT := rT s a b
  have nn := sqI_nn a b
  unfold ft1 ft2
  rw [Rat.intCast_sub, Rat.intCast_sub]
  have e1 : (s.1 : Rat) - ((a.1 : Rat) + shr s a b * ((b.1 : Rat) - a.1)) = ((s.1 : Rat) - a.1) - shr s a b * ((b.1 : Rat) - a.1) := by grind
  have e2 : (s.2 : Rat) - ((a.2 : Rat) + shr s a b * ((b.2 : Rat) - a.2)) = ((s.2 : Rat) - a.2) - shr s a b * ((b.2 : Rat) - a.2) := by grind
  rw [e1, e2]
  have zD : sqI a b = 0 → alg s a b ≤ 0 := fun h => by
    obtain ⟨z1, z2⟩ := sqI_zero h
    unfold alg
    rw [z1, z2, Int.mul_zero, Int.mul_zero]
    decide
  generalize (s.1 : Rat) - a.1 = V1 at *
  generalize (s.2 : Rat) - a.2 = V2 at *
  generalize (b.1 : Rat) - a.1 = D1 at *
  generalize (b.2 : Rat) - a.2 = D2 at *
  unfold dsq shr cut01
  by_cases c1 : alg s a b ≤ 0
  · rw [if_pos c1]
    have m : min (sqI a b) (max 0 (alg s a b)) = 0 := by omega
    rw [m, Rat.zero_divInt, ite_self]
    unfold nq
    grind
  · rw [if_neg c1]
    have z0 : 0 < sqI a b := by
      rcases Int.lt_or_le 0 (sqI a b) with h | h
      · exact h
      · exact absurd (zD (by omega)) c1
    have zp := ratZ z0
    rw [if_pos z0]
    by_cases c2 : sqI a b ≤ alg s a b
    · rw [if_pos c2]
      have m : min (sqI a b) (max 0 (alg s a b)) = sqI a b := by omega
      rw [m, Rat.divInt_self' (by omega)]
      unfold nq
      grind
    · rw [if_neg c2]
      have m : min (sqI a b) (max 0 (alg s a b)) = alg s a b := by omega
      rw [m, Rat.divInt_eq_div, Rat.divInt_eq_div, Rat.intCast_mul, Rat.div_def, Rat.div_def]
      have zi : (sqI a b : Rat) * (sqI a b : Rat)⁻¹ = 1 := Rat.mul_inv_cancel _ (by grind)
      generalize (sqI a b : Rat)⁻¹ = I at *
      unfold nq
      grind
end G

/-! ### stretches that meet -/
namespace G
open PySem PySem.Spec L2 PV
set_option autoImplicit false
set_option linter.all false
theorem on_box (p q s : Pt) : onL p q s = (decide (trn p q s = 0) && (decide (min p.1 q.1 ≤ s.1 ∧ s.1 ≤ max p.1 q.1) && decide (min p.2 q.2 ≤ s.2 ∧ s.2 ≤ max p.2 q.2))) := by
  unfold onL
  by_cases h : trn p q s = 0
  · rw [decide_eq_true h, Bool.true_and, Bool.true_and, Bool.eq_iff_iff]
    simp only [Bool.and_eq_true, decide_eq_true_eq]
    have bx : ∀ a b z : Int, (min a b ≤ z ∧ z ≤ max a b) ↔ (z - a) * (z - b) ≤ 0 := fun a b z => by
      constructor
      · rintro ⟨k1, k2⟩
        rcases Int.le_total a b with h | h
        · exact Int.mul_nonpos_of_nonneg_of_nonpos (by omega) (by omega)
        · exact Int.mul_nonpos_of_nonpos_of_nonneg (by omega) (by omega)
      · intro k
        by_cases c1 : z < a ∧ z < b
        · have := Int.mul_pos_of_neg_of_neg (a := z - a) (b := z - b) (by omega) (by omega); omega
        · by_cases c2 : a < z ∧ b < z
          · have := Int.mul_pos (a := z - a) (b := z - b) (by omega) (by omega); omega
          · omega
    rw [bx, bx]
    have e : (s.1 - p.1) * (s.2 - q.2) = (s.2 - p.2) * (s.1 - q.1) := by
      simp only [trn] at h
      grind
    generalize s.1 - p.1 = u1 at *
    generalize s.1 - q.1 = v1 at *
    generalize s.2 - p.2 = u2 at *
    generalize s.2 - q.2 = v2 at *
    have k : (u1 * v1) * (u2 * v2) = (u1 * v2) * (u1 * v2) := by grind
    have nn := isq (u1 * v2)
    rw [← k] at nn
    generalize u1 * v1 = P at *
    generalize u2 * v2 = Q at *
    constructor
    · intro hs
      by_cases c1 : 0 < P
      · have : Q < 0 := by omega
        have := Int.mul_neg_of_pos_of_neg c1 this
        omega
      · by_cases c2 : 0 < Q
        · have : P < 0 := by omega
          have := Int.mul_neg_of_neg_of_pos this c2
          omega
        · omega
    · omega
  · rw [decide_eq_false h, Bool.false_and, Bool.false_and]
def oppB (x y : Int) : Bool := (decide (0 < x) && decide (y < 0)) || (decide (0 < y) && decide (x < 0))
def meetB (p q r s : Pt) : Bool := (onL p q r || (onL p q s || (onL r s p || onL r s q))) || (oppB (trn p q r) (trn p q s) && oppB (trn r s p) (trn r s q))
def sm2 (p : Pt) : Prop := sm p.1 ∧ sm p.2
theorem turn_spec {a b c : Pt} (ha : sm2 a) (hc : sm2 c) : m_turn [.tuple [.int a.1, .int a.2], .tuple [.int b.1, .int b.2], .tuple [.int c.1, .int c.2]] = .ok ⟨.int (trn a b c), false⟩ := by
  have k1 := fun z => mulOk_subr z hc.2 ha.2
  have k2 := fun z => mulOk_subr z hc.1 ha.1
  simp [m_turn, b_turn, k1, k2, trn]
theorem ison_spec {p q s : Pt} (h1 : sm2 p) (h3 : sm2 s) : m_is_on [.tuple [.int p.1, .int p.2], .tuple [.int q.1, .int q.2], .tuple [.int s.1, .int s.2]] = .ok ⟨.bool (onL p q s), false⟩ := by
  have t := turn_spec (b := q) h1 h3
  rw [on_box]
  generalize trn p q s = T at *
  by_cases c : T = 0
  · by_cases c1 : min p.1 q.1 ≤ s.1 <;> by_cases c2 : s.1 ≤ max p.1 q.1 <;> by_cases c3 : min p.2 q.2 ≤ s.2 <;> by_cases c4 : s.2 ≤ max p.2 q.2 <;> simp [m_is_on, b_is_on, t, c, c1, c2, c3, c4]
  · simp [m_is_on, b_is_on, t, c]
theorem parts_spec {p q r s : Pt} (h1 : sm2 p) (h2 : sm2 r) (h3 : sm2 s) : m_parts_them [.tuple [.int p.1, .int p.2], .tuple [.int q.1, .int q.2], .tuple [.int r.1, .int r.2], .tuple [.int s.1, .int s.2]] = .ok ⟨.bool (oppB (trn p q r) (trn p q s)), false⟩ := by
  have t1 := turn_spec (b := q) h1 h2
  have t2 := turn_spec (b := q) h1 h3
  unfold oppB
  generalize trn p q r = X at *
  generalize trn p q s = Y at *
  by_cases c1 : 0 < X <;> by_cases c2 : Y < 0 <;> by_cases c3 : 0 < Y <;> by_cases c4 : X < 0 <;> simp [m_parts_them, b_parts_them, t1, t2, c1, c2, c3, c4]
theorem common_spec {p q r s : Pt} (h1 : sm2 p) (h2 : sm2 q) (h3 : sm2 r) (h4 : sm2 s) : m_have_common [.tuple [.int p.1, .int p.2], .tuple [.int q.1, .int q.2], .tuple [.int r.1, .int r.2], .tuple [.int s.1, .int s.2]] = .ok ⟨.bool (meetB p q r s), false⟩ := by
  have a1 := parts_spec (q := q) h1 h3 h4
  have a2 := parts_spec (q := s) h3 h1 h2
  have o1 := ison_spec (q := q) h1 h3
  have o2 := ison_spec (q := q) h1 h4
  have o3 := ison_spec (q := s) h3 h1
  have o4 := ison_spec (q := s) h3 h2
  unfold meetB
  generalize oppB (trn p q r) (trn p q s) = P1 at *
  generalize oppB (trn r s p) (trn r s q) = P2 at *
  generalize onL p q r = O1 at *
  generalize onL p q s = O2 at *
  generalize onL r s p = O3 at *
  generalize onL r s q = O4 at *
  cases P1 <;> cases P2 <;> cases O1 <;> cases O2 <;> cases O3 <;> cases O4 <;> simp [m_have_common, b_have_common, a1, a2, o1, o2, o3, o4]
theorem lmeet_spec {p q r s : Pt} (h1 : sm2 p) (h2 : sm2 q) (h3 : sm2 r) (h4 : sm2 s) : m__law_meet [.tuple [.tuple [.int p.1, .int p.2], .tuple [.int q.1, .int q.2]], .tuple [.tuple [.int r.1, .int r.2], .tuple [.int s.1, .int s.2]]] = .ok ⟨.bool (meetB p q r s), false⟩ := by
  have t1 := lturn_spec (c := q.1) (d := q.2) h1.1 h1.2 h3.1 h3.2
  have t2 := lturn_spec (c := q.1) (d := q.2) h1.1 h1.2 h4.1 h4.2
  have t3 := lturn_spec (c := s.1) (d := s.2) h3.1 h3.2 h1.1 h1.2
  have t4 := lturn_spec (c := s.1) (d := s.2) h3.1 h3.2 h2.1 h2.2
  have o1 := lon_spec (p := p) (q := q) (s := r) h1 h2 h3
  have o2 := lon_spec (p := p) (q := q) (s := s) h1 h2 h4
  have o3 := lon_spec (p := r) (q := s) (s := p) h3 h4 h1
  have o4 := lon_spec (p := r) (q := s) (s := q) h3 h4 h2
  have e : ∀ x y : Int, oppB x y = (decide (min x y < 0) && decide (0 < max x y)) := fun x y => by
    unfold oppB
    rw [Bool.eq_iff_iff]
    simp only [Bool.or_eq_true, Bool.and_eq_true, decide_eq_true_eq]
    omega
  unfold meetB
  rw [e, e]
  have f1 : trn p q r = trn (p.1, p.2) (q.1, q.2) (r.1, r.2) := rfl
  have f2 : trn p q s = trn (p.1, p.2) (q.1, q.2) (s.1, s.2) := rfl
  have f3 : trn r s p = trn (r.1, r.2) (s.1, s.2) (p.1, p.2) := rfl
  have f4 : trn r s q = trn (r.1, r.2) (s.1, s.2) (q.1, q.2) := rfl
  rw [f1, f2, f3, f4]
  generalize trn (p.1, p.2) (q.1, q.2) (r.1, r.2) = X1 at *
  generalize trn (p.1, p.2) (q.1, q.2) (s.1, s.2) = X2 at *
  generalize trn (r.1, r.2) (s.1, s.2) (p.1, p.2) = X3 at *
  generalize trn (r.1, r.2) (s.1, s.2) (q.1, q.2) = X4 at *
  generalize onL p q r = O1 at *
  generalize onL p q s = O2 at *
  generalize onL r s p = O3 at *
  generalize onL r s q = O4 at *
  cases O1
  · cases O2
    · cases O3
      · cases O4
        · by_cases c1 : min X1 X2 < 0 <;> by_cases c2 : 0 < max X1 X2 <;> by_cases c3 : min X3 X4 < 0 <;> by_cases c4 : 0 < max X3 X4 <;> simp [m__law_meet, b__law_meet, b__law_meet_t1, b__law_meet_t2, b__law_meet_t3, b__law_meet_t4, b__law_meet_t5, b__law_meet_t6, b__law_meet_t7, t1, t2, t3, t4, o1, o2, o3, o4, c1, c2, c3, c4]
        · simp [m__law_meet, b__law_meet, b__law_meet_t1, b__law_meet_t2, o1, o2, o3, o4]
      · simp [m__law_meet, b__law_meet, b__law_meet_t1, b__law_meet_t2, o1, o2, o3]
    · simp [m__law_meet, b__law_meet, b__law_meet_t1, b__law_meet_t2, o1, o2]
  · simp [m__law_meet, b__law_meet, b__law_meet_t1, b__law_meet_t2, o1]
/-! spots -/
theorem onL_of {p q s : Pt} {l : Rat} (h0 : 0 ≤ l) (h1 : l ≤ 1) (e1 : (s.1 : Rat) - p.1 = l * ((q.1 : Rat) - p.1)) (e2 : (s.2 : Rat) - p.2 = l * ((q.2 : Rat) - p.2)) : onL p q s = true := by
  unfold onL
  rw [Bool.and_eq_true, decide_eq_true_eq, decide_eq_true_eq]
  constructor
  · have t := rT s p q
    rw [e1, e2] at t
    have : ((trn p q s : Int) : Rat) = ((0 : Int) : Rat) := by
      rw [t]
      have : ((0 : Int) : Rat) = 0 := rfl
      grind
    exact Rat.intCast_inj.mp this
  · have c : (((s.1 - p.1) * (s.1 - q.1) + (s.2 - p.2) * (s.2 - q.2) : Int) : Rat) = ((s.1 : Rat) - p.1) * (((s.1 : Rat) - p.1) - ((q.1 : Rat) - p.1)) + ((s.2 : Rat) - p.2) * (((s.2 : Rat) - p.2) - ((q.2 : Rat) - p.2)) := by
      simp only [Rat.intCast_add, Rat.intCast_mul, Rat.intCast_sub]; grind
    rw [e1, e2] at c
    refine icle.mp ?_
    rw [c]
    have n1 := sq_nn ((q.1 : Rat) - p.1)
    have n2 := sq_nn ((q.2 : Rat) - p.2)
    have k := Rat.mul_nonneg (Rat.mul_nonneg h0 (show 0 ≤ 1 - l by grind)) (show 0 ≤ ((q.1 : Rat) - p.1) * ((q.1 : Rat) - p.1) + ((q.2 : Rat) - p.2) * ((q.2 : Rat) - p.2) by grind)
    have z : ((0 : Int) : Rat) = 0 := rfl
    rw [z]
    generalize (q.1 : Rat) - p.1 = x at *
    generalize (q.2 : Rat) - p.2 = y at *
    grind
theorem iclt {a : Int} : (0 : Rat) < (a : Rat) ↔ 0 < a := Rat.intCast_lt_intCast (a := 0)
theorem iclt' {a : Int} : (a : Rat) < (0 : Rat) ↔ a < 0 := Rat.intCast_lt_intCast (b := 0)
theorem meet_of {a b p q : Pt} {t u : Rat} (t0 : 0 ≤ t) (t1 : t ≤ 1) (u0 : 0 ≤ u) (u1 : u ≤ 1) (c : ((b.1 : Rat) - a.1) * ((q.2 : Rat) - p.2) - ((b.2 : Rat) - a.2) * ((q.1 : Rat) - p.1) ≠ 0)
    (z1 : ((a.1 : Rat) - p.1) + t * ((b.1 : Rat) - a.1) - u * ((q.1 : Rat) - p.1) = 0) (z2 : ((a.2 : Rat) - p.2) + t * ((b.2 : Rat) - a.2) - u * ((q.2 : Rat) - p.2) = 0) : meetB a b p q = true := by
  unfold meetB
  by_cases h1 : u = 0
  · rw [onL_of (p := a) (q := b) (s := p) t0 t1 (by grind) (by grind)]; rfl
  by_cases h2 : u = 1
  · rw [onL_of (p := a) (q := b) (s := q) t0 t1 (by grind) (by grind), Bool.true_or, Bool.or_true]; rfl
  by_cases h3 : t = 0
  · rw [onL_of (p := p) (q := q) (s := a) u0 u1 (by grind) (by grind), Bool.true_or, Bool.or_true, Bool.or_true]; rfl
  by_cases h4 : t = 1
  · rw [onL_of (p := p) (q := q) (s := b) u0 u1 (by grind) (by grind), Bool.or_true, Bool.or_true, Bool.or_true]; rfl
  have eA := rT p a b
  have eB := rT q a b
  have eC := rT a p q
  have eD := rT b p q
  have sA : ((trn a b p : Int) : Rat) = -(u * (((b.1 : Rat) - a.1) * ((q.2 : Rat) - p.2) - ((b.2 : Rat) - a.2) * ((q.1 : Rat) - p.1))) := by rw [eA]; grind
  have sB : ((trn a b q : Int) : Rat) = (1 - u) * (((b.1 : Rat) - a.1) * ((q.2 : Rat) - p.2) - ((b.2 : Rat) - a.2) * ((q.1 : Rat) - p.1)) := by rw [eB]; grind
  have sC : ((trn p q a : Int) : Rat) = t * (((b.1 : Rat) - a.1) * ((q.2 : Rat) - p.2) - ((b.2 : Rat) - a.2) * ((q.1 : Rat) - p.1)) := by rw [eC]; grind
  have sD : ((trn p q b : Int) : Rat) = -((1 - t) * (((b.1 : Rat) - a.1) * ((q.2 : Rat) - p.2) - ((b.2 : Rat) - a.2) * ((q.1 : Rat) - p.1))) := by rw [eD]; grind
  generalize ((b.1 : Rat) - a.1) * ((q.2 : Rat) - p.2) - ((b.2 : Rat) - a.2) * ((q.1 : Rat) - p.1) = c' at *
  have hu0 : 0 < u := by grind
  have hu1 : 0 < 1 - u := by grind
  have ht0 : 0 < t := by grind
  have ht1 : 0 < 1 - t := by grind
  have pp : oppB (trn a b p) (trn a b q) = true ∧ oppB (trn p q a) (trn p q b) = true := by
    unfold oppB
    rcases le_tot 0 c' with h | h
    · have cp : 0 < c' := by grind
      have k1 := Rat.mul_pos hu0 cp
      have k2 := Rat.mul_pos hu1 cp
      have k3 := Rat.mul_pos ht0 cp
      have k4 := Rat.mul_pos ht1 cp
      have a1 : trn a b p < 0 := iclt'.mp (by rw [sA]; grind)
      have a2 : 0 < trn a b q := iclt.mp (by rw [sB]; grind)
      have a3 : 0 < trn p q a := iclt.mp (by rw [sC]; grind)
      have a4 : trn p q b < 0 := iclt'.mp (by rw [sD]; grind)
      simp [a1, a2, a3, a4]
    · have cp : 0 < -c' := by grind
      have k1 := Rat.mul_pos hu0 cp
      have k2 := Rat.mul_pos hu1 cp
      have k3 := Rat.mul_pos ht0 cp
      have k4 := Rat.mul_pos ht1 cp
      have a1 : 0 < trn a b p := iclt.mp (by rw [sA]; grind)
      have a2 : trn a b q < 0 := iclt'.mp (by rw [sB]; grind)
      have a3 : trn p q a < 0 := iclt'.mp (by rw [sC]; grind)
      have a4 : 0 < trn p q b := iclt.mp (by rw [sD]; grind)
      simp [a1, a2, a3, a4]
  rw [pp.1, pp.2]
  simp
end G

/-! ### distances by the program and by the law -/
namespace G
open PySem PySem.Spec L2 PV
set_option autoImplicit false
set_option linter.all false
def Bk (p : Pt) : Prop := (-60 ≤ p.1 ∧ p.1 ≤ 60) ∧ -60 ≤ p.2 ∧ p.2 ≤ 60
theorem Bk.sm {p : Pt} (h : Bk p) : sm2 p := by
  unfold sm2 G.sm
  unfold Bk at h
  omega
theorem pb {x y : Int} (h : x.natAbs ≤ 120) (h' : y.natAbs ≤ 120) : (x * y).natAbs ≤ 14400 := by
  rw [Int.natAbs_mul]
  exact Nat.le_trans (Nat.mul_le_mul h h') (by decide)
theorem Bk.d {a b : Pt} (ha : Bk a) (hb : Bk b) : (a.1 - b.1).natAbs ≤ 120 ∧ (a.2 - b.2).natAbs ≤ 120 := by
  unfold Bk at *
  omega
theorem sqI_le {a b : Pt} (ha : Bk a) (hb : Bk b) : sqI a b ≤ 28800 := by
  obtain ⟨h1, h2⟩ := ha.d hb
  have p1 := pb h1 h1
  have p2 := pb h2 h2
  unfold sqI
  omega
theorem trn_le {a b s : Pt} (ha : Bk a) (hb : Bk b) (hs : Bk s) : (trn a b s).natAbs ≤ 28800 := by
  obtain ⟨h1, h2⟩ := hb.d ha
  obtain ⟨k1, k2⟩ := hs.d ha
  have p1 := pb h1 k2
  have p2 := pb h2 k1
  unfold trn
  omega
theorem pow2 (z : Int) : z ^ 2 = z * z := by rw [Int.pow_succ, Int.pow_succ, Int.pow_zero, Int.one_mul]
theorem powOk2 {z : Int} (h : z.natAbs ≤ 28800) : powOk z 2 = true := by
  unfold powOk
  rw [decide_eq_true (show z.natAbs < 2 ^ 64 by omega)]
  decide
section
variable {s a b : Pt}
theorem square_spec (ha : Bk a) (hb : Bk b) : m_square [.tuple [.int a.1, .int a.2], .tuple [.int b.1, .int b.2]] = .ok ⟨.int (sqI a b), false⟩ := by
  obtain ⟨h1, h2⟩ := ha.d hb
  have p1 := powOk2 (z := a.1 - b.1) (by omega)
  have p2 := powOk2 (z := a.2 - b.2) (by omega)
  simp [m_square, b_square, p1, p2, pow2, sqI]
theorem ds_spec (hs : Bk s) (ha : Bk a) (hb : Bk b) : m_distance_square [.tuple [.int s.1, .int s.2], .tuple [.int a.1, .int a.2], .tuple [.int b.1, .int b.2]] = .ok ⟨dQ (dsq s a b), false⟩ := by
  have q1 := square_spec hs ha
  have q2 := square_spec hs hb
  have q3 := square_spec ha hb
  have t := turn_spec (b := b) ha.sm hs.sm
  have m1 : ∀ z : Int, mulOk (s.1 - a.1) z = true := fun z => mulOk_subl z hs.sm.1 ha.sm.1
  have m2 : ∀ z : Int, mulOk (s.2 - a.2) z = true := fun z => mulOk_subl z hs.sm.2 ha.sm.2
  have e : (s.1 - a.1) * (b.1 - a.1) + (s.2 - a.2) * (b.2 - a.2) = alg s a b := rfl
  have tl := powOk2 (trn_le ha hb hs)
  have zl := sqI_le ha hb
  have zn := sqI_nn a b
  have zD : sqI a b = 0 → alg s a b ≤ 0 := fun h => by
    obtain ⟨z1, z2⟩ := sqI_zero h
    unfold alg
    rw [z1, z2, Int.mul_zero, Int.mul_zero]
    decide
  unfold dsq
  by_cases c1 : alg s a b ≤ 0
  · rw [if_pos c1, dQ_int]
    simp [m_distance_square, b_distance_square, m1, m2, e, c1, q1, m_whole, b_whole]
  · rw [if_neg c1]
    by_cases c2 : sqI a b ≤ alg s a b
    · rw [if_pos c2, dQ_int]
      simp [m_distance_square, b_distance_square, m1, m2, e, c1, c2, q2, q3, m_whole, b_whole]
    · rw [if_neg c2]
      have f := frac_spec (trn a b s * trn a b s) (sqI a b) (by omega) (by omega)
      generalize trn a b s = T at *
      generalize Rat.divInt (T * T) (sqI a b) = R at *
      simp [m_distance_square, b_distance_square, m1, m2, e, c1, c2, q3, t, tl, pow2, f]
structure Sm (q : Rat) (d : Nat) : Prop where
  den : q.den ≤ d
  num : q.num.natAbs ≤ 2 ^ 80
theorem Sm.int {z : Int} (h : z.natAbs ≤ 2 ^ 80) : Sm (z : Rat) 1 := ⟨by rw [Rat.den_intCast]; omega, by rw [Rat.num_intCast]; exact h⟩
theorem sub_num {x y : Rat} {d d' : Nat} (hx : Sm x d) (hy : Sm y d') (h : d ≤ 30000) (h' : d' ≤ 30000) : (x - y).num.natAbs < 2 ^ 250 := by
  rw [rat_sub, ← Int.natCast_mul]
  refine Nat.lt_of_le_of_lt (divInt_num_le _ _ (Nat.mul_pos (Nat.pos_of_ne_zero x.den_nz) (Nat.pos_of_ne_zero y.den_nz))) ?_
  have a1 : (x.num * (y.den : Int)).natAbs ≤ 2 ^ 80 * 30000 := by rw [Int.natAbs_mul, Int.natAbs_natCast]; exact Nat.mul_le_mul hx.num (Nat.le_trans hy.den h')
  have a2 : (y.num * (x.den : Int)).natAbs ≤ 2 ^ 80 * 30000 := by rw [Int.natAbs_mul, Int.natAbs_natCast]; exact Nat.mul_le_mul hy.num (Nat.le_trans hx.den h)
  generalize x.num * (y.den : Int) = u at *
  generalize y.num * (x.den : Int) = v at *
  omega
theorem lsq_spec {x1 y1 x2 y2 : Rat} {d d' : Nat} (h1 : Sm x1 d) (h2 : Sm y1 d) (k1 : Sm x2 d') (k2 : Sm y2 d') (hd : d * d' ≤ 30000) (l : d ≤ 30000) (l' : d' ≤ 30000) : m__law_square [.tuple [dQ x1, dQ y1], .tuple [dQ x2, dQ y2]] = .ok ⟨dQ (nq (x1 - x2) (y1 - y2)), false⟩ := by
  have b60 : ∀ n : Nat, n ≤ 900000000 → n < 2 ^ 60 := fun n h => by omega
  have e1 := lminus_spec x1 x2 (b60 _ (Nat.le_trans h1.den (by omega))) (b60 _ (Nat.le_trans k1.den (by omega)))
  have e2 := lminus_spec y1 y2 (b60 _ (Nat.le_trans h2.den (by omega))) (b60 _ (Nat.le_trans k2.den (by omega)))
  have n1 := sub_num h1 k1 l l'
  have n2 := sub_num h2 k2 l l'
  have d1 : (x1 - x2).den ≤ 30000 := Nat.le_trans (den_sub_le _ _) (Nat.le_trans (Nat.mul_le_mul h1.den k1.den) hd)
  have d2 : (y1 - y2).den ≤ 30000 := Nat.le_trans (den_sub_le _ _) (Nat.le_trans (Nat.mul_le_mul h2.den k2.den) hd)
  generalize x1 - x2 = X at *
  generalize y1 - y2 = Y at *
  have e3 := ltimes_spec X X (b60 _ (by omega)) (b60 _ (by omega)) n1 n1
  have e4 := ltimes_spec Y Y (b60 _ (by omega)) (b60 _ (by omega)) n2 n2
  have d3 : (X * X).den ≤ 900000000 := Nat.le_trans (den_mul_le _ _) (Nat.mul_le_mul d1 d1)
  have d4 : (Y * Y).den ≤ 900000000 := Nat.le_trans (den_mul_le _ _) (Nat.mul_le_mul d2 d2)
  have e5 := lplus_spec (X * X) (Y * Y) (b60 _ d3) (b60 _ d4)
  unfold nq
  simp [m__law_square, b__law_square, e1, e2, e3, e4, e5]
theorem cut01_bd (ha : Bk a) (hb : Bk b) : 0 ≤ cut01 s a b ∧ cut01 s a b ≤ 28800 := by
  have := sqI_le ha hb
  have := sqI_nn a b
  unfold cut01
  omega
theorem shr_bd (ha : Bk a) (hb : Bk b) : (shr s a b).den ≤ 28800 ∧ (shr s a b).num.natAbs ≤ 28800 := by
  have l := sqI_le ha hb
  obtain ⟨c0, c1⟩ := cut01_bd (s := s) ha hb
  unfold shr
  split
  · rename_i z
    have e : sqI a b = ((sqI a b).toNat : Int) := by omega
    rw [e]
    exact ⟨Nat.le_trans (den_divInt_le _ _ (by omega)) (by omega), Nat.le_trans (divInt_num_le _ _ (by omega)) (by omega)⟩
  · exact ⟨by decide, by decide⟩
theorem ft_bd {x d : Int} {w : Rat} (hx : x.natAbs ≤ 60) (hd : d.natAbs ≤ 120) (hw : w.den ≤ 28800 ∧ w.num.natAbs ≤ 28800) : Sm ((x : Rat) + w * (d : Rat)) 28800 := by
  have d1 : (w * (d : Rat)).den ≤ 28800 := by
    have := den_mul_le w (d : Rat)
    rw [Rat.den_intCast, Nat.mul_one] at this
    exact Nat.le_trans this hw.1
  have n1 : (w * (d : Rat)).num.natAbs ≤ 28800 * 120 := by
    rw [rat_mul, ← Int.natCast_mul]
    refine Nat.le_trans (divInt_num_le _ _ (Nat.mul_pos (Nat.pos_of_ne_zero w.den_nz) (Nat.pos_of_ne_zero (d : Rat).den_nz))) ?_
    rw [Rat.num_intCast, Int.natAbs_mul]
    exact Nat.mul_le_mul hw.2 hd
  generalize w * (d : Rat) = y at *
  constructor
  · have := den_add_le (x : Rat) y
    rw [Rat.den_intCast, Nat.one_mul] at this
    exact Nat.le_trans this d1
  · rw [rat_add, ← Int.natCast_mul]
    refine Nat.le_trans (divInt_num_le _ _ (Nat.mul_pos (Nat.pos_of_ne_zero (x : Rat).den_nz) (Nat.pos_of_ne_zero y.den_nz))) ?_
    rw [Rat.num_intCast, Rat.den_intCast]
    have a1 : (x * (y.den : Int)).natAbs ≤ 60 * 28800 := by rw [Int.natAbs_mul, Int.natAbs_natCast]; exact Nat.mul_le_mul hx d1
    generalize x * (y.den : Int) = u at *
    omega
theorem lfoot_spec (hs : Bk s) (ha : Bk a) (hb : Bk b) : m__law_foot [.tuple [.int s.1, .int s.2], .tuple [.int a.1, .int a.2], .tuple [.int b.1, .int b.2]] = .ok ⟨.tuple [dQ (ft1 s a b), dQ (ft2 s a b)], false⟩ := by
  obtain ⟨x1, x2⟩ := hb.d ha
  obtain ⟨w1, w2⟩ := shr_bd (s := s) ha hb
  have b60 : ∀ n : Nat, n ≤ 900000000 → n < 2 ^ 60 := fun n h => by omega
  have m1 : ∀ z : Int, mulOk (b.1 - a.1) z = true := fun z => mulOk_subl z hb.sm.1 ha.sm.1
  have m2 : ∀ z : Int, mulOk (b.2 - a.2) z = true := fun z => mulOk_subl z hb.sm.2 ha.sm.2
  have m3 : ∀ z : Int, mulOk z (b.1 - a.1) = true := fun z => mulOk_subr z hb.sm.1 ha.sm.1
  have m4 : ∀ z : Int, mulOk z (b.2 - a.2) = true := fun z => mulOk_subr z hb.sm.2 ha.sm.2
  have eZ : (b.1 - a.1) * (b.1 - a.1) + (b.2 - a.2) * (b.2 - a.2) = sqI a b := by unfold sqI; grind
  have eA : (s.1 - a.1) * (b.1 - a.1) + (s.2 - a.2) * (b.2 - a.2) = alg s a b := rfl
  have t1 := ltimes_spec (shr s a b) ((b.1 - a.1 : Int) : Rat) (b60 _ (by omega)) (by rw [Rat.den_intCast]; decide) (by omega) (by rw [Rat.num_intCast]; omega)
  have t2 := ltimes_spec (shr s a b) ((b.2 - a.2 : Int) : Rat) (b60 _ (by omega)) (by rw [Rat.den_intCast]; decide) (by omega) (by rw [Rat.num_intCast]; omega)
  have dn : ∀ z : Int, (shr s a b * (z : Rat)).den < 2 ^ 60 := fun z => by
    have := den_mul_le (shr s a b) (z : Rat)
    rw [Rat.den_intCast, Nat.mul_one] at this
    exact b60 _ (by omega)
  have p1 := lplus_spec (a.1 : Rat) (shr s a b * ((b.1 - a.1 : Int) : Rat)) (by rw [Rat.den_intCast]; decide) (dn _)
  have p2 := lplus_spec (a.2 : Rat) (shr s a b * ((b.2 - a.2 : Int) : Rat)) (by rw [Rat.den_intCast]; decide) (dn _)
  rw [dQ_int] at t1 t2 p1 p2
  have f1 : dQ (ft1 s a b) = dQ ((a.1 : Rat) + shr s a b * ((b.1 - a.1 : Int) : Rat)) := rfl
  have f2 : dQ (ft2 s a b) = dQ ((a.2 : Rat) + shr s a b * ((b.2 - a.2 : Int) : Rat)) := rfl
  rw [f1, f2]
  have zl := sqI_le ha hb
  generalize dQ ((a.1 : Rat) + shr s a b * ((b.1 - a.1 : Int) : Rat)) = F1 at *
  generalize dQ ((a.2 : Rat) + shr s a b * ((b.2 - a.2 : Int) : Rat)) = F2 at *
  generalize dQ (shr s a b * ((b.1 - a.1 : Int) : Rat)) = G1 at *
  generalize dQ (shr s a b * ((b.2 - a.2 : Int) : Rat)) = G2 at *
  by_cases c : 0 < sqI a b
  · have sh : shr s a b = Rat.divInt (cut01 s a b) ((sqI a b).toNat : Int) := by
      unfold shr
      rw [if_pos c]
      have : ((sqI a b).toNat : Int) = sqI a b := by omega
      rw [this]
    have fr := lfrac_spec (cut01 s a b) (sqI a b).toNat (by omega) (by omega)
    rw [← sh] at fr
    have : ((sqI a b).toNat : Int) = sqI a b := by omega
    rw [this] at fr
    unfold cut01 at fr
    generalize dQ (shr s a b) = SH at *
    simp [m__law_foot, b__law_foot, m1, m2, m3, m4, eZ, eA, c, fr, t1, t2, p1, p2]
  · have sh : dQ (shr s a b) = .tuple [.int 0, .int 1] := by
      unfold shr
      rw [if_neg c]
      rfl
    rw [sh] at t1 t2
    simp [m__law_foot, b__law_foot, m1, m2, m3, m4, eZ, eA, c, t1, t2, p1, p2]
theorem ldist_spec (hs : Bk s) (ha : Bk a) (hb : Bk b) : m__law_square [.tuple [.tuple [.int s.1, .int 1], .tuple [.int s.2, .int 1]], .tuple [dQ (ft1 s a b), dQ (ft2 s a b)]] = .ok ⟨dQ (dsq s a b), false⟩ := by
  obtain ⟨x1, x2⟩ := hb.d ha
  have w := shr_bd (s := s) ha hb
  have a1 : a.1.natAbs ≤ 60 ∧ a.2.natAbs ≤ 60 := by unfold Bk at ha; omega
  have s1 : s.1.natAbs ≤ 60 ∧ s.2.natAbs ≤ 60 := by unfold Bk at hs; omega
  have := lsq_spec (Sm.int (z := s.1) (by omega)) (Sm.int (z := s.2) (by omega)) (ft_bd a1.1 x1 w) (ft_bd a1.2 x2 w) (by omega) (by omega) (by omega)
  have e := foot_sq s a b
  unfold ft1 ft2 at e ⊢
  rw [e, dQ_int, dQ_int] at this
  exact this
end
end G

/-! ### the least of distances -/
namespace G
open PySem PySem.Spec L2 PV
set_option autoImplicit false
set_option linter.all false
abbrev Qb := {q : Rat // q.den ≤ 28800}
def dB (q : Qb) : D := dQ q.1
theorem dB_ap (q : Qb) : dB q = dQ q.1 := Eq.trans rfl rfl
def mnQ (x y : Qb) : Qb := if y.1 < x.1 then y else x
def ofo (o : Option Qb) (x : Qb) : Option Qb := match o with
  | none => some x
  | some f => some (mnQ f x)
theorem dsq_den {s a b : Pt} (ha : Bk a) (hb : Bk b) : (dsq s a b).den ≤ 28800 := by
  have l := sqI_le ha hb
  have n := sqI_nn a b
  unfold dsq
  split
  · rw [Rat.den_intCast]; decide
  · split
    · rw [Rat.den_intCast]; decide
    · by_cases c : 0 < sqI a b
      · have e : sqI a b = ((sqI a b).toNat : Int) := by omega
        rw [e]
        exact Nat.le_trans (den_divInt_le _ _ (by omega)) (by omega)
      · have e : sqI a b = 0 := by omega
        rw [e, Rat.divInt_zero]
        decide
def dsb (s a b : Pt) : Qb := if h : (dsq s a b).den ≤ 28800 then ⟨dsq s a b, h⟩ else ⟨0, by decide⟩
theorem dsb_val {s a b : Pt} (ha : Bk a) (hb : Bk b) : (dsb s a b).1 = dsq s a b := by
  unfold dsb
  rw [dif_pos (dsq_den ha hb)]
theorem mnQ_le (x y : Qb) : (mnQ x y).1 ≤ x.1 ∧ (mnQ x y).1 ≤ y.1 := by
  unfold mnQ
  split
  · rename_i h
    exact ⟨Rat.le_of_lt h, Rat.le_refl⟩
  · rename_i h
    exact ⟨Rat.le_refl, Rat.not_lt.mp h⟩
theorem mnQ_mem (x y : Qb) : mnQ x y = x ∨ mnQ x y = y := by
  unfold mnQ
  split
  · exact .inr rfl
  · exact .inl rfl
theorem foldmn : ∀ (l : List Qb) (x : Qb), (l.foldl mnQ x ∈ x :: l) ∧ ∀ y ∈ x :: l, (l.foldl mnQ x).1 ≤ y.1
  | [], x => ⟨by simp, fun y hy => by
      rw [List.mem_singleton] at hy
      subst hy
      exact Rat.le_refl⟩
  | z :: l, x => by
    obtain ⟨h1, h2⟩ := foldmn l (mnQ x z)
    rw [List.foldl_cons]
    constructor
    · rcases List.mem_cons.mp h1 with h | h
      · rw [h]
        rcases mnQ_mem x z with e | e
        · rw [e]; exact List.mem_cons_self
        · rw [e]; exact List.mem_cons_of_mem _ List.mem_cons_self
      · exact List.mem_cons_of_mem _ (List.mem_cons_of_mem _ h)
    · intro y hy
      have k := h2 _ List.mem_cons_self
      have m := mnQ_le x z
      rcases List.mem_cons.mp hy with rfl | hy
      · exact Rat.le_trans k m.1
      · rcases List.mem_cons.mp hy with rfl | hy
        · exact Rat.le_trans k m.2
        · exact h2 y (List.mem_cons_of_mem _ hy)
theorem foldofo : ∀ (l : List Qb) (x : Qb), l.foldl ofo (some x) = some (l.foldl mnQ x)
  | [], _ => rfl
  | z :: l, x => by
    rw [List.foldl_cons, List.foldl_cons]
    exact foldofo l (mnQ x z)
/-- the least of a list is told by its elements alone -/
theorem least_uni {x y : Qb} {l m : List Qb} (h : ∀ z, z ∈ x :: l ↔ z ∈ y :: m) : (l.foldl mnQ x).1 = (m.foldl mnQ y).1 := by
  obtain ⟨a1, a2⟩ := foldmn l x
  obtain ⟨b1, b2⟩ := foldmn m y
  exact Rat.le_antisymm (a2 _ ((h _).mpr b1)) (b2 _ ((h _).mp a1))
theorem q60 (x : Qb) : x.1.den < 2 ^ 60 := Nat.lt_of_le_of_lt x.2 (by decide)
theorem lesser_spec (x y : Qb) : m_lesser [dB x, dB y] = .ok ⟨dB (mnQ x y), false⟩ := by
  have l := less_spec y.1 x.1 (q60 y) (q60 x)
  rw [← dB_ap, ← dB_ap] at l
  unfold mnQ
  by_cases c : y.1 < x.1
  · simp [m_lesser, b_lesser, l, c]
  · simp [m_lesser, b_lesser, l, c]
theorem least_spec (x : Qb) (l : List Qb) : m_least_of [.list ((x :: l).map dB)] = .ok ⟨dB ((x :: l).foldl mnQ x), false⟩ := by
  have w := forL_st (g := gNm 2) (dead := [0, 2]) (body := b_least_of_1) dB (fun f : Qb => [.no, .fz (dB f), .no]) mnQ (fun _ => True) (x :: l) x trivial fun f y _ _ => by
    have ls := lesser_spec f y
    exact ⟨by simp [b_least_of_1, ls], trivial⟩
  have a : atI ((x :: l).map dB) 0 = some (dB x) := by simp
  generalize (x :: l).map dB = LL at *
  generalize (x :: l).foldl mnQ x = f at *
  simp [m_least_of, b_least_of, a, w]
end G

/-! ### near_square and _law_near -/
namespace G
open PySem PySem.Spec L2 PV
set_option autoImplicit false
set_option linter.all false
theorem di1 (z : Int) : Rat.divInt z 1 = (z : Rat) := by
  rw [Rat.divInt_eq_div, Rat.div_def]
  have : ((1 : Int) : Rat) = 1 := rfl
  rw [this]
  grind
theorem plL_ok (E : List (Pt × Pt)) (s : Pt) : PyData.strOk (plL E s) = true := by
  unfold plL
  split
  · decide +kernel
  · split <;> decide +kernel
def plc (r : List Pt) (a : Pt) : Str := plL (edges (r.map (sc 1))) a
def stopB (r : List Pt) (a b : Pt) : Bool := (!decide (plc r a = "out")) || (edges r).any fun e => meetB a b e.1 e.2
def LP (r : List Pt) (a b : Pt) : List Qb := ([a, b].flatMap fun s => (edges r).map fun e => dsb s e.1 e.2) ++ r.map fun s => dsb s a b
def LA (r : List Pt) (a b : Pt) : List Qb := (edges r).flatMap fun e => [dsb a e.1 e.2, dsb b e.1 e.2, dsb e.1 a b]
section
variable {r : List Pt} {a b : Pt}
theorem Ring.bk (R : Ring r) {p : Pt} (h : p ∈ r) : Bk p := by
  have := R.bd p h
  unfold Bk
  omega
theorem place1 (R : Ring r) (ha : Bk a) : m_place_of [.list (r.map dP), .tuple [.tuple [.int a.1, .int 1], .tuple [.int a.2, .int 1]]] = .ok ⟨.str (plc r a), false⟩ := by
  have l8 := R.l8
  have l0 := R.l0
  have sq : ∀ z : Int, -60 ≤ z ∧ z ≤ 60 → Sq (z : Rat) := fun z hz => ⟨by rw [Rat.den_intCast]; decide, by rw [Rat.num_intCast]; omega⟩
  have p := place_of_spec l0 (by omega) (fun p hp => by have := R.bd p hp; unfold sm60; omega) (sq a.1 ha.1) (sq a.2 ha.2)
  have e := place_eq (X := a.1) (Y := a.2) (S := 1) l0 (by decide) (R.gd 1 a.1 a.2 (by decide))
  rw [di1, di1] at e
  rw [e] at p
  unfold dS at p
  rw [dQ_int, dQ_int] at p
  exact p
theorem lplace1 (R : Ring r) (ha : Bk a) : m__law_place [.list (r.map dP), .int a.1, .int a.2, .int 1] = .ok ⟨.str (plc r a), false⟩ := by
  have l8 := R.l8
  have l0 := R.l0
  exact lplace_spec l0 (by omega) (by unfold sm; decide) (fun p hp => by have := R.bd p hp; unfold sm; omega) ha.sm.1 ha.sm.2
theorem near_prog (R : Ring r) (ha : Bk a) (hb : Bk b) : ∃ v : Qb, (stopB r a b = true → v.1 = 0) ∧ (stopB r a b = false → ∃ x l, LP r a b = x :: l ∧ v = l.foldl mnQ x) ∧
    m_near_square [.tuple [.int a.1, .int a.2], .tuple [.int b.1, .int b.2], .list (r.map dP)] = .ok ⟨dB v, false⟩ := by
  have l8 := R.l8
  have l0 := R.l0
  have h2 := sides_spec l0 (by omega)
  have pl := place1 R ha
  have ne := gNe_s (plc r a) "out" (plL_ok _ _) (by decide +kernel)
  have bE : ∀ e ∈ edges r, Bk e.1 ∧ Bk e.2 := fun e he => ⟨R.bk (edges_mem he).1, R.bk (edges_mem he).2⟩
  have hc : ∀ e ∈ edges r, m_have_common [.tuple [.int a.1, .int a.2], .tuple [.int b.1, .int b.2], .tuple [.int e.1.1, .int e.1.2], .tuple [.int e.2.1, .int e.2.2]] = .ok ⟨.bool (meetB a b e.1 e.2), false⟩ := fun e he =>
    common_spec ha.sm hb.sm (bE e he).1.sm (bE e he).2.sm
  have le : (edges r).length < 1000000 := by rw [edges_length]; omega
  have leM : ((edges r).map dE).length < 1000000 := by rw [List.length_map]; exact le
  by_cases c1 : plc r a = "out"
  · rw [decide_eq_true c1] at ne
    cases c2 : (edges r).any fun e => meetB a b e.1 e.2 with
    | true =>
      refine ⟨⟨0, by decide⟩, fun _ => rfl, fun h => ?_, ?_⟩
      · unfold stopB at h
        rw [c2, Bool.or_true] at h
        cases h
      · have z : dB ⟨0, by decide⟩ = .tuple [.int 0, .int 1] := rfl
        rw [z]
        generalize edges r = E at *
        generalize r.map dP = RR at *
        simp +contextual [m_near_square, b_near_square, m_spot_of, b_spot_of, m_whole, b_whole, h2, pl, ne, dE_ap, dP_ap, hc, le, c2]
    | false =>
      have ds1 : ∀ t ∈ [a, b], ∀ e ∈ edges r, m_distance_square [.tuple [.int t.1, .int t.2], .tuple [.int e.1.1, .int e.1.2], .tuple [.int e.2.1, .int e.2.2]] = .ok ⟨dB (dsb t e.1 e.2), false⟩ := fun t ht e he => by
        have bt : Bk t := by
          simp only [List.mem_cons, List.not_mem_nil, or_false] at ht
          rcases ht with rfl | rfl
          · exact ha
          · exact hb
        rw [dB_ap, dsb_val (bE e he).1 (bE e he).2]
        exact ds_spec bt (bE e he).1 (bE e he).2
      have ds2 : ∀ p ∈ r, m_distance_square [.tuple [.int p.1, .int p.2], .tuple [.int a.1, .int a.2], .tuple [.int b.1, .int b.2]] = .ok ⟨dB (dsb p a b), false⟩ := fun p hp => by
        rw [dB_ap, dsb_val ha hb]
        exact ds_spec (R.bk hp) ha hb
      obtain ⟨x, l, hL⟩ : ∃ x l, LP r a b = x :: l := by
        cases h : LP r a b with
        | cons x l => exact ⟨x, l, rfl⟩
        | nil =>
          have : (LP r a b).length = 0 := by rw [h]; rfl
          unfold LP at this
          rw [List.length_append, List.length_map] at this
          omega
      have ls := least_spec x l
      have fx : (x :: l).foldl mnQ x = l.foldl mnQ x := by
        rw [List.foldl_cons]
        have : mnQ x x = x := by
          unfold mnQ
          rw [if_neg Rat.lt_irrefl]
        rw [this]
      rw [fx, ← hL] at ls
      refine ⟨l.foldl mnQ x, fun h => ?_, fun _ => ⟨x, l, hL, rfl⟩, ?_⟩
      · unfold stopB at h
        rw [c1, decide_eq_true rfl, c2] at h
        cases h
      · have e1 : (LP r a b).map dB = ([a, b].flatMap fun s => (edges r).map fun e => dB (dsb s e.1 e.2)) ++ r.map fun s => dB (dsb s a b) := by
          unfold LP
          rw [List.map_append, List.map_map, List.map_flatMap]
          simp only [List.map_map]
          rfl
        rw [e1] at ls
        have rl : r.length < 1000000 := by omega
        have c2' : ∀ x4 : Sl, comp2L (gNm 5) bYes (iSeq (eVar 3)) [6, 7] (gTp 2 (gsCons (gNm 6) (gsCons (gNm 7) gsNil))) bYes (eV (eCall m_distance_square (aCons (eVar 5) (aCons (eVar 6) (aCons (eVar 7) aNil)))))
            [.fz (.tuple [.int a.1, .int a.2]), .fz (.tuple [.int b.1, .int b.2]), .fz (.list (r.map dP)), .fz (.list ((edges r).map dE)), x4, .no, .no, .no, .no] ([a, b].map dP) = .ok ([a, b].flatMap fun s => (edges r).map fun e => dB (dsb s e.1 e.2)) := fun x4 => by
          refine comp2L_map dP _ [a, b] fun t ht => ?_
          have ds1t := ds1 t ht
          generalize edges r = E at *
          generalize r.map dP = RR at *
          simp +contextual [dE_ap, dP_ap, ds1t, le]
        have c3 := c2' .no
        have e2 : [a, b].map dP = [.tuple [.int a.1, .int a.2], .tuple [.int b.1, .int b.2]] := rfl
        rw [e2] at c3
        have lf : ([a, b].flatMap fun s => (edges r).map fun e => dB (dsb s e.1 e.2)).length < 1000000 := by
          simp only [List.flatMap_cons, List.flatMap_nil, List.length_append, List.length_map, edges_length, List.length_nil]
          omega
        have lf2 : ([a, b].flatMap fun s => (edges r).map fun e => dB (dsb s e.1 e.2)).length + r.length < 1000000 := by
          simp only [List.flatMap_cons, List.flatMap_nil, List.length_append, List.length_map, edges_length, List.length_nil]
          omega
        generalize ([a, b].flatMap fun s => (edges r).map fun e => dB (dsb s e.1 e.2)) = FF at *
        generalize edges r = E at *
        simp +contextual [m_near_square, b_near_square, m_spot_of, b_spot_of, m_whole, b_whole, h2, pl, ne, dE_ap, dP_ap, hc, le, c2, c3, ds2, rl, lf, lf2, ls]
  · rw [decide_eq_false c1] at ne
    refine ⟨⟨0, by decide⟩, fun _ => rfl, fun h => ?_, ?_⟩
    · unfold stopB at h
      rw [decide_eq_false c1] at h
      cases h
    · have z : dB ⟨0, by decide⟩ = .tuple [.int 0, .int 1] := rfl
      rw [z]
      generalize r.map dP = RR at *
      simp [m_near_square, b_near_square, m_spot_of, b_spot_of, m_whole, b_whole, h2, pl, ne]
end
end G

namespace G
open PySem PySem.Spec L2 PV
set_option autoImplicit false
set_option linter.all false
def stO (o : Option Qb) : Sl := match o with
  | none => .fz .none
  | some f => .fz (dB f)
theorem isN_dB (f : Qb) : isNone (dB f) = false := Eq.trans rfl rfl
theorem near1 (o : Option Qb) (x : Qb) {x0 x1 : Sl} : turn (gNm 6) [2, 4, 5, 6] b__law_near_1 (dB x) [x0, x1, .no, stO o, .no, .no, .no] = .next [x0, x1, .no, stO (ofo o x), .no, .no, .no] := by
  cases o with
  | none => simp [b__law_near_1, stO, ofo]
  | some f =>
    have l := lless_spec x.1 f.1 (q60 x) (q60 f)
    rw [← dB_ap, ← dB_ap] at l
    have i := isN_dB f
    unfold ofo mnQ stO
    simp only
    by_cases c : x.1 < f.1
    · simp [b__law_near_1, i, l, c]
    · simp [b__law_near_1, i, l, c]
theorem foldl_fm {α β γ : Type} (f : γ → β → γ) (g : α → List β) : ∀ (E : List α) (o : γ), (E.flatMap g).foldl f o = E.foldl (fun o e => (g e).foldl f o) o
  | [], _ => rfl
  | e :: E, o => by
    rw [List.flatMap_cons, List.foldl_append, List.foldl_cons]
    exact foldl_fm f g E _
section
variable {r : List Pt} {a b : Pt}
theorem near_law (R : Ring r) (ha : Bk a) (hb : Bk b) : ∃ v : Qb, (stopB r a b = true → v.1 = 0) ∧ (stopB r a b = false → ∃ x l, LA r a b = x :: l ∧ v = l.foldl mnQ x) ∧
    m__law_near [.tuple [.int a.1, .int a.2], .tuple [.int b.1, .int b.2], .list (r.map dP)] = .ok ⟨dB v, false⟩ := by
  have l8 := R.l8
  have l0 := R.l0
  have h2 := lsides_spec l0 (by omega)
  have pl := lplace1 R ha
  have ne := gNe_s (plc r a) "out" (plL_ok _ _) (by decide +kernel)
  have bE : ∀ e ∈ edges r, Bk e.1 ∧ Bk e.2 := fun e he => ⟨R.bk (edges_mem he).1, R.bk (edges_mem he).2⟩
  have z : dB ⟨0, by decide⟩ = .tuple [.int 0, .int 1] := rfl
  by_cases c1 : plc r a = "out"
  · rw [decide_eq_true c1] at ne
    have w := forL_try (g := gTp 2 (gsCons (gNm 4) (gsCons (gNm 5) gsNil))) (dead := [2, 4, 5, 6]) (body := b__law_near_2) dE
      (fun o : Option Qb => [.fz (.tuple [.int a.1, .int a.2]), .fz (.tuple [.int b.1, .int b.2]), .no, stO o, .no, .no, .no])
      (fun o e => [dsb a e.1 e.2, dsb b e.1 e.2, dsb e.1 a b].foldl ofo o) (fun e => meetB a b e.1 e.2) (fun _ => ⟨.tuple [.int 0, .int 1], false⟩) (edges r) none fun o e he => by
        obtain ⟨k1, k2⟩ := bE e he
        have m := lmeet_spec ha.sm hb.sm k1.sm k2.sm
        cases c : meetB a b e.1 e.2 with
        | true =>
          rw [c] at m
          simp [b__law_near_2, dE_ap, dP_ap, m]
        | false =>
          rw [c] at m
          have f1 := lfoot_spec (s := a) ha k1 k2
          have f2 := lfoot_spec (s := b) hb k1 k2
          have f3 := lfoot_spec (s := e.1) k1 ha hb
          have d1 := ldist_spec (s := a) ha k1 k2
          have d2 := ldist_spec (s := b) hb k1 k2
          have d3 := ldist_spec (s := e.1) k1 ha hb
          rw [← dsb_val k1 k2, ← dB_ap] at d1 d2
          rw [← dsb_val ha hb, ← dB_ap] at d3
          have w3 := forL_st (g := gNm 6) (dead := [2, 4, 5, 6]) (body := b__law_near_1) dB (fun o : Option Qb => [.fz (.tuple [.int a.1, .int a.2]), .fz (.tuple [.int b.1, .int b.2]), .no, stO o, .no, .no, .no]) ofo (fun _ => True)
            [dsb a e.1 e.2, dsb b e.1 e.2, dsb e.1 a b] o trivial fun o x _ _ => ⟨near1 o x, trivial⟩
          simp only [List.map_cons, List.map_nil] at w3
          generalize dsb a e.1 e.2 = X at *
          generalize dsb b e.1 e.2 = Y at *
          generalize dsb e.1 a b = Z at *
          generalize hF : ([X, Y, Z].foldl ofo o) = oo at *
          generalize dB X = XX at *
          generalize dB Y = YY at *
          generalize dB Z = ZZ at *
          generalize dQ (ft1 a e.1 e.2) = G1 at *
          generalize dQ (ft2 a e.1 e.2) = G2 at *
          generalize dQ (ft1 b e.1 e.2) = G3 at *
          generalize dQ (ft2 b e.1 e.2) = G4 at *
          generalize dQ (ft1 e.1 a b) = G5 at *
          generalize dQ (ft2 e.1 a b) = G6 at *
          generalize stO o = so at *
          generalize stO oo = soo at *
          simp [b__law_near_2, dE_ap, dP_ap, m, f1, f2, f3, d1, d2, d3, m__law_spot, b__law_spot, w3, -forL_cons']
    cases hf : (edges r).find? fun e => meetB a b e.1 e.2 with
    | some e =>
      rw [hf] at w
      have an := any_of_find hf
      refine ⟨⟨0, by decide⟩, fun _ => rfl, fun h => ?_, ?_⟩
      · unfold stopB at h
        rw [an, Bool.or_true] at h
        cases h
      · rw [z]
        simp only at w
        generalize edges r = E at *
        generalize r.map dP = RR at *
        simp [m__law_near, b__law_near, h2, pl, ne, w, stO]
        simp only [stO] at w
        simp [w]
    | none =>
      rw [hf] at w
      have an := any_of_none hf
      obtain ⟨x, l, hL⟩ : ∃ x l, LA r a b = x :: l := by
        cases h : LA r a b with
        | cons x l => exact ⟨x, l, rfl⟩
        | nil =>
          exfalso
          have hlen := edges_length r
          cases hE : edges r with
          | nil => rw [hE] at hlen; simp at hlen; omega
          | cons e t =>
            unfold LA at h
            rw [hE, List.flatMap_cons] at h
            cases h
      have fo : (edges r).foldl (fun o e => [dsb a e.1 e.2, dsb b e.1 e.2, dsb e.1 a b].foldl ofo o) none = some (l.foldl mnQ x) := by
        rw [← foldl_fm]
        have : ((edges r).flatMap fun e => [dsb a e.1 e.2, dsb b e.1 e.2, dsb e.1 a b]) = x :: l := hL
        rw [this, List.foldl_cons]
        exact foldofo l x
      rw [fo] at w
      refine ⟨l.foldl mnQ x, fun h => ?_, fun _ => ⟨x, l, hL, rfl⟩, ?_⟩
      · unfold stopB at h
        rw [c1, decide_eq_true rfl, an] at h
        cases h
      · generalize l.foldl mnQ x = v at *
        simp only [stO] at w
        generalize edges r = E at *
        generalize r.map dP = RR at *
        generalize dB v = V at *
        simp [m__law_near, b__law_near, h2, pl, ne, w]
  · rw [decide_eq_false c1] at ne
    refine ⟨⟨0, by decide⟩, fun _ => rfl, fun h => ?_, ?_⟩
    · unfold stopB at h
      rw [decide_eq_false c1] at h
      cases h
    · rw [z]
      generalize r.map dP = RR at *
      simp [m__law_near, b__law_near, pl, ne]
end
end G

/-! ### both tell the same, and nothing is nearer -/
namespace G
open PySem PySem.Spec L2 PV
set_option autoImplicit false
set_option linter.all false
theorem edge_at {r : List Pt} {p : Pt} (h : p ∈ r) : ∃ e ∈ edges r, e.1 = p := by
  obtain ⟨k, hk, e⟩ := List.getElem_of_mem h
  refine ⟨(nth r k, nth r ((k + 1) % r.length)), ?_, ?_⟩
  · unfold edges
    exact List.mem_map.mpr ⟨k, List.mem_range.mpr hk, rfl⟩
  · show nth r k = p
    unfold nth
    rw [List.getD_eq_getElem?_getD, List.getElem?_eq_getElem hk, ← e]
    rfl
theorem LP_LA (r : List Pt) (a b : Pt) (z : Qb) : z ∈ LP r a b ↔ z ∈ LA r a b := by
  unfold LP LA
  rw [List.mem_append, List.mem_flatMap, List.mem_flatMap]
  constructor
  · rintro (⟨s, hs, h⟩ | h)
    · obtain ⟨e, he, rfl⟩ := List.mem_map.mp h
      simp only [List.mem_cons, List.not_mem_nil, or_false] at hs
      rcases hs with rfl | rfl
      · exact ⟨e, he, by simp⟩
      · exact ⟨e, he, by simp⟩
    · obtain ⟨p, hp, rfl⟩ := List.mem_map.mp h
      obtain ⟨e, he, rfl⟩ := edge_at hp
      exact ⟨e, he, by simp⟩
  · rintro ⟨e, he, h⟩
    simp only [List.mem_cons, List.not_mem_nil, or_false] at h
    rcases h with rfl | rfl | rfl
    · exact .inl ⟨a, by simp, List.mem_map.mpr ⟨e, he, rfl⟩⟩
    · exact .inl ⟨b, by simp, List.mem_map.mpr ⟨e, he, rfl⟩⟩
    · exact .inr (List.mem_map.mpr ⟨e.1, (edges_mem he).1, rfl⟩)
section
variable {r : List Pt} {a b : Pt}
theorem nq_neg {x y x' y' : Rat} (h : x = -x') (h' : y = -y') : nq x y = nq x' y' := by
  rw [h, h']
  unfold nq
  grind
/-- no spot of the stretch is nearer to a side than v -/
def Near (v : Rat) (r : List Pt) (a b : Pt) : Prop := ∀ e ∈ edges r, ∀ t u : Rat, 0 ≤ t → t ≤ 1 → 0 ≤ u → u ≤ 1 →
  v ≤ nq (((a.1 : Rat) - e.1.1) + t * ((b.1 : Rat) - a.1) - u * ((e.2.1 : Rat) - e.1.1)) (((a.2 : Rat) - e.1.2) + t * ((b.2 : Rat) - a.2) - u * ((e.2.2 : Rat) - e.1.2))
theorem near_spec (R : Ring r) (ha : Bk a) (hb : Bk b) : ∃ v : Qb, m_near_square [.tuple [.int a.1, .int a.2], .tuple [.int b.1, .int b.2], .list (r.map dP)] = .ok ⟨dB v, false⟩ ∧
    m__law_near [.tuple [.int a.1, .int a.2], .tuple [.int b.1, .int b.2], .list (r.map dP)] = .ok ⟨dB v, false⟩ ∧ Near v.1 r a b := by
  obtain ⟨v, v1, v2, hv⟩ := near_prog R ha hb
  obtain ⟨w, w1, w2, hw⟩ := near_law R ha hb
  cases c : stopB r a b with
  | true =>
    have e1 := v1 c
    have e2 := w1 c
    have : v = w := Subtype.ext (e1.trans e2.symm)
    subst this
    refine ⟨v, hv, hw, fun e he t u _ _ _ _ => ?_⟩
    rw [e1]
    exact nq_nn _ _
  | false =>
    obtain ⟨x, l, hL, e1⟩ := v2 c
    obtain ⟨y, m, hM, e2⟩ := w2 c
    have : v = w := by
      refine Subtype.ext ?_
      rw [e1, e2]
      refine least_uni fun z => ?_
      rw [← hL, ← hM]
      exact LP_LA r a b z
    subst this
    have low : ∀ z ∈ LP r a b, v.1 ≤ z.1 := fun z hz => by
      rw [e1]
      rw [hL] at hz
      exact (foldmn l x).2 z hz
    refine ⟨v, hv, hw, fun e he t u t0 t1 u0 u1 => ?_⟩
    have bp := R.bk (edges_mem he).1
    have bq := R.bk (edges_mem he).2
    have nm : meetB a b e.1 e.2 = false := by
      unfold stopB at c
      rw [Bool.or_eq_false_iff] at c
      have := List.any_eq_false.mp c.2 e he
      exact Bool.eq_false_iff.mpr this
    have l1 : v.1 ≤ dsq a e.1 e.2 := by
      rw [← dsb_val bp bq]
      exact low _ (List.mem_append.mpr (.inl (List.mem_flatMap.mpr ⟨a, by simp, List.mem_map.mpr ⟨e, he, rfl⟩⟩)))
    have l2 : v.1 ≤ dsq b e.1 e.2 := by
      rw [← dsb_val bp bq]
      exact low _ (List.mem_append.mpr (.inl (List.mem_flatMap.mpr ⟨b, by simp, List.mem_map.mpr ⟨e, he, rfl⟩⟩)))
    have l3 : v.1 ≤ dsq e.1 a b := by
      rw [← dsb_val ha hb]
      exact low _ (List.mem_append.mpr (.inr (List.mem_map.mpr ⟨e.1, (edges_mem he).1, rfl⟩)))
    have l4 : v.1 ≤ dsq e.2 a b := by
      rw [← dsb_val ha hb]
      exact low _ (List.mem_append.mpr (.inr (List.mem_map.mpr ⟨e.2, (edges_mem he).2, rfl⟩)))
    have main := near_main (w1 := (a.1 : Rat) - e.1.1) (w2 := (a.2 : Rat) - e.1.2) (d1 := (b.1 : Rat) - a.1) (d2 := (b.2 : Rat) - a.2) (e1 := (e.2.1 : Rat) - e.1.1) (e2 := (e.2.2 : Rat) - e.1.2) (m := v.1)
      (fun u u0 u1 => by
        refine Rat.le_trans l1 (Rat.le_trans (foot_min a e.1 e.2 u0 u1) ?_)
        unfold Fq nq
        grind)
      (fun u u0 u1 => by
        refine Rat.le_trans l2 (Rat.le_trans (foot_min b e.1 e.2 u0 u1) ?_)
        unfold Fq nq
        grind)
      (fun t t0 t1 => by
        refine Rat.le_trans l3 (Rat.le_trans (foot_min e.1 a b t0 t1) ?_)
        unfold Fq nq
        grind)
      (fun t t0 t1 => by
        refine Rat.le_trans l4 (Rat.le_trans (foot_min e.2 a b t0 t1) ?_)
        unfold Fq nq
        grind)
      (fun c t u t0 t1 u0 u1 h => by
        have := meet_of (a := a) (b := b) (p := e.1) (q := e.2) t0 t1 u0 u1 c h.1 h.2
        rw [nm] at this
        cases this) t0 t1 u0 u1
    exact main
end
end G

/-! ### the law's turns -/
namespace G
open PySem PySem.Spec L2 PV
set_option autoImplicit false
set_option linter.all false
theorem dQ_same (q : Rat) : m__law_same 12 [dQ q, dQ q] = .ok ⟨.bool true, false⟩ := same_refl 12 (dQ q) ((dQ_nice q).mono (by decide))
theorem bool_same (b : Bool) : m__law_same 12 [.bool b, .bool b] = .ok ⟨.bool true, false⟩ := same_refl 12 (.bool b) True.intro
theorem div5 (x y s : Int) : Rat.divInt (x * s + y * (5 - s)) 5 = (x : Rat) + ((5 : Rat) - s) * (5 : Rat)⁻¹ * ((y : Rat) - x) := by
  rw [Rat.divInt_eq_div, Rat.div_def, Rat.intCast_add, Rat.intCast_mul, Rat.intCast_mul, Rat.intCast_sub]
  have : ((5 : Int) : Rat) = 5 := rfl
  rw [this]
  grind
theorem Sm5 {N : Int} (h : N.natAbs ≤ 1000) : Sm (Rat.divInt N 5) 5 := ⟨den_divInt_le N 5 (by decide), Nat.le_trans (divInt_num_le N 5 (by decide)) (by omega)⟩
theorem mix_bd {x y s : Int} (hx : -60 ≤ x ∧ x ≤ 60) (hy : -60 ≤ y ∧ y ≤ 60) (hs : 0 ≤ s ∧ s ≤ 5) : (x * s + y * (5 - s)).natAbs ≤ 1000 := by
  have : s = 0 ∨ s = 1 ∨ s = 2 ∨ s = 3 ∨ s = 4 ∨ s = 5 := by omega
  rcases this with rfl | rfl | rfl | rfl | rfl | rfl <;> omega
theorem nq_den {x y : Rat} (h1 : x.den ≤ 30000) (h2 : y.den ≤ 30000) : (nq x y).den < 2 ^ 60 := by
  have d1 := Nat.le_trans (den_mul_le x x) (Nat.mul_le_mul h1 h1)
  have d2 := Nat.le_trans (den_mul_le y y) (Nat.mul_le_mul h2 h2)
  have d3 := Nat.le_trans (den_add_le (x * x) (y * y)) (Nat.mul_le_mul d1 d2)
  unfold nq
  omega
theorem share_bd {s : Int} (h : 0 ≤ s ∧ s ≤ 5) : 0 ≤ ((5 : Rat) - s) * (5 : Rat)⁻¹ ∧ ((5 : Rat) - s) * (5 : Rat)⁻¹ ≤ 1 := by
  have : s = 0 ∨ s = 1 ∨ s = 2 ∨ s = 3 ∨ s = 4 ∨ s = 5 := by omega
  rcases this with rfl | rfl | rfl | rfl | rfl | rfl <;> decide +kernel
section
variable {r : List Pt} {a b : Pt}
theorem law1 {ds : List Int} (hat : ∀ i : Int, 0 ≤ i → i < 30 → atI (ds.map PyData.int) i = some (.int (dg ds i))) (R : Ring r) (ha : Bk a) (hb : Bk b) {v : Qb} (N : Near v.1 r a b) {x3 x4 x5 : Sl} (i : Nat) (hi : i < 3) :
    turn (gNm 11) [0, 6, 7, 11, 12, 13, 14, 15, 16, 17] b_law_1 (.int (0 + (i : Int))) [.no, .fz (.list (ds.map PyData.int)), .fz (.list (r.map dP)), x3, x4, x5, .no, .no, .fz (.tuple [.int a.1, .int a.2]), .fz (.tuple [.int b.1, .int b.2]), .fz (dB v), .no, .no, .no, .no, .no, .no, .no] =
      .next [.no, .fz (.list (ds.map PyData.int)), .fz (.list (r.map dP)), x3, x4, x5, .no, .no, .fz (.tuple [.int a.1, .int a.2]), .fz (.tuple [.int b.1, .int b.2]), .fz (dB v), .no, .no, .no, .no, .no, .no, .no] := by
  have l8 := R.l8
  have l0 := R.l0
  have hs := lsides_spec l0 (by omega)
  have a11 := hat (11 + (i : Int)) (by omega) (by omega)
  have a14 := hat (14 + (i : Int)) (by omega) (by omega)
  have a17 := hat (17 + (i : Int)) (by omega) (by omega)
  generalize dg ds (11 + (i : Int)) = w at *
  generalize dg ds (14 + (i : Int)) = s' at *
  generalize dg ds (17 + (i : Int)) = m' at *
  have m6 := fun z => modOk_pos z 6 (by decide)
  have ml := modOk_pos w (r.length : Int) (by omega)
  have fl := fmod_bd w (r.length : Int) (by omega)
  have b1 := fmod_bd s' 6 (by decide)
  have b2 := fmod_bd m' 6 (by decide)
  obtain ⟨e, he, ae⟩ : ∃ e ∈ edges r, atI ((edges r).map dE) (w.fmod (r.length : Int)) = some (dE e) := by
    have hl := edges_length r
    refine ⟨(edges r)[(w.fmod (r.length : Int)).toNat]'(by omega), List.getElem_mem _, ?_⟩
    rw [atI_map, atI_of fl.1 (by omega), List.getElem?_eq_getElem (by omega)]
    rfl
  generalize hw : w.fmod (r.length : Int) = w' at *
  generalize hsh : s'.fmod 6 = sh at *
  generalize hso : m'.fmod 6 = so at *
  have bp := R.bk (edges_mem he).1
  have bq := R.bk (edges_mem he).2
  have f5 : ∀ n : Int, m__law_frac [.int n, .int 5] = .ok ⟨dQ (Rat.divInt n 5), false⟩ := fun n => lfrac_spec n 5 (by decide) (by decide)
  have q1 := f5 (a.1 * sh + b.1 * (5 - sh))
  have q2 := f5 (a.2 * sh + b.2 * (5 - sh))
  have q3 := f5 (e.1.1 * so + e.2.1 * (5 - so))
  have q4 := f5 (e.1.2 * so + e.2.2 * (5 - so))
  have S1 := Sm5 (mix_bd (s := sh) ha.1 hb.1 (by omega))
  have S2 := Sm5 (mix_bd (s := sh) ha.2 hb.2 (by omega))
  have S3 := Sm5 (mix_bd (s := so) bp.1 bq.1 (by omega))
  have S4 := Sm5 (mix_bd (s := so) bp.2 bq.2 (by omega))
  have sq := lsq_spec S1 S2 S3 S4 (by decide) (by decide) (by decide)
  have d1 : (Rat.divInt (a.1 * sh + b.1 * (5 - sh)) 5 - Rat.divInt (e.1.1 * so + e.2.1 * (5 - so)) 5).den ≤ 30000 := Nat.le_trans (den_sub_le _ _) (Nat.le_trans (Nat.mul_le_mul S1.den S3.den) (by decide))
  have d2 : (Rat.divInt (a.2 * sh + b.2 * (5 - sh)) 5 - Rat.divInt (e.1.2 * so + e.2.2 * (5 - so)) 5).den ≤ 30000 := Nat.le_trans (den_sub_le _ _) (Nat.le_trans (Nat.mul_le_mul S2.den S4.den) (by decide))
  have ll := lless_spec _ v.1 (nq_den d1 d2) (q60 v)
  have t := share_bd (s := sh) (by omega)
  have u := share_bd (s := so) (by omega)
  have near := N e he _ _ t.1 t.2 u.1 u.2
  have en1 : Rat.divInt (a.1 * sh + b.1 * (5 - sh)) 5 - Rat.divInt (e.1.1 * so + e.2.1 * (5 - so)) 5 = ((a.1 : Rat) - e.1.1) + ((5 : Rat) - sh) * (5 : Rat)⁻¹ * ((b.1 : Rat) - a.1) - ((5 : Rat) - so) * (5 : Rat)⁻¹ * ((e.2.1 : Rat) - e.1.1) := by
    rw [div5, div5]
    generalize ((5 : Rat) - sh) * (5 : Rat)⁻¹ = T
    generalize ((5 : Rat) - so) * (5 : Rat)⁻¹ = U
    grind
  have en2 : Rat.divInt (a.2 * sh + b.2 * (5 - sh)) 5 - Rat.divInt (e.1.2 * so + e.2.2 * (5 - so)) 5 = ((a.2 : Rat) - e.1.2) + ((5 : Rat) - sh) * (5 : Rat)⁻¹ * ((b.2 : Rat) - a.2) - ((5 : Rat) - so) * (5 : Rat)⁻¹ * ((e.2.2 : Rat) - e.1.2) := by
    rw [div5, div5]
    generalize ((5 : Rat) - sh) * (5 : Rat)⁻¹ = T
    generalize ((5 : Rat) - so) * (5 : Rat)⁻¹ = U
    grind
  rw [← en1, ← en2] at near
  rw [decide_eq_false (Rat.not_lt.mpr near)] at ll
  rw [← dB_ap] at ll
  have mA1 : ∀ z : Int, mulOk a.1 z = true := fun z => mulOk_sm' z ha.sm.1
  have mA2 : ∀ z : Int, mulOk a.2 z = true := fun z => mulOk_sm' z ha.sm.2
  have mB1 : ∀ z : Int, mulOk b.1 z = true := fun z => mulOk_sm' z hb.sm.1
  have mB2 : ∀ z : Int, mulOk b.2 z = true := fun z => mulOk_sm' z hb.sm.2
  have mP1 : ∀ z : Int, mulOk e.1.1 z = true := fun z => mulOk_sm' z bp.sm.1
  have mP2 : ∀ z : Int, mulOk e.1.2 z = true := fun z => mulOk_sm' z bp.sm.2
  have mQ1 : ∀ z : Int, mulOk e.2.1 z = true := fun z => mulOk_sm' z bq.sm.1
  have mQ2 : ∀ z : Int, mulOk e.2.2 z = true := fun z => mulOk_sm' z bq.sm.2
  have g1 := ds_spec (s := e.1) bp ha hb
  have g2 := lfoot_spec (s := e.1) bp ha hb
  have g3 := ldist_spec (s := e.1) bp ha hb
  have sm := dQ_same (dsq e.1 a b)
  have lr : (r.map dP).length = r.length := List.length_map ..
  generalize dQ (nq (Rat.divInt (a.1 * sh + b.1 * (5 - sh)) 5 - Rat.divInt (e.1.1 * so + e.2.1 * (5 - so)) 5) (Rat.divInt (a.2 * sh + b.2 * (5 - sh)) 5 - Rat.divInt (e.1.2 * so + e.2.2 * (5 - so)) 5)) = NQ at *
  generalize dQ (Rat.divInt (a.1 * sh + b.1 * (5 - sh)) 5) = X1 at *
  generalize dQ (Rat.divInt (a.2 * sh + b.2 * (5 - sh)) 5) = X2 at *
  generalize dQ (Rat.divInt (e.1.1 * so + e.2.1 * (5 - so)) 5) = X3 at *
  generalize dQ (Rat.divInt (e.1.2 * so + e.2.2 * (5 - so)) 5) = X4 at *
  generalize dQ (dsq e.1 a b) = DQ at *
  generalize dQ (ft1 e.1 a b) = G1 at *
  generalize dQ (ft2 e.1 a b) = G2 at *
  rw [dE_ap, dP_ap, dP_ap] at ae
  generalize edges r = E at *
  generalize ds.map PyData.int = DD at *
  generalize r.map dP = RR at *
  generalize dB v = V at *
  clear en1 en2 near
  simp [b_law_1, hs, a11, a14, a17, m6, lr, ml, hw, ae, hsh, hso, mA1, mA2, mB1, mB2, mP1, mP2, mQ1, mQ2, q1, q2, q3, q4, sq, ll, g1, g2, g3, sm, m__law_spot, b__law_spot]
end
end G

namespace G
open PySem PySem.Spec L2 PV
set_option autoImplicit false
set_option linter.all false
section
variable {r road : List Pt} {V : Pt → Pt → Qb}
/-- what V tells -/
structure NV (r : List Pt) (V : Pt → Pt → Qb) : Prop where
  prog : ∀ a b, Bk a → Bk b → m_near_square [dP a, dP b, .list (r.map dP)] = .ok ⟨dB (V a b), false⟩
  law : ∀ a b, Bk a → Bk b → m__law_near [dP a, dP b, .list (r.map dP)] = .ok ⟨dB (V a b), false⟩
  near : ∀ a b, Bk a → Bk b → Near (V a b).1 r a b
theorem nv_ex (R : Ring r) : ∃ V : Pt → Pt → Qb, NV r V := by
  classical
  have h : ∀ a b : Pt, ∃ v : Qb, Bk a → Bk b → m_near_square [dP a, dP b, .list (r.map dP)] = .ok ⟨dB v, false⟩ ∧ m__law_near [dP a, dP b, .list (r.map dP)] = .ok ⟨dB v, false⟩ ∧ Near v.1 r a b := fun a b => by
    by_cases ha : Bk a
    · by_cases hb : Bk b
      · obtain ⟨v, h⟩ := near_spec R ha hb
        exact ⟨v, fun _ _ => h⟩
      · exact ⟨⟨0, by decide⟩, fun _ k => absurd k hb⟩
    · exact ⟨⟨0, by decide⟩, fun k => absurd k ha⟩
  refine ⟨fun a b => Classical.choose (h a b), fun a b ha hb => (Classical.choose_spec (h a b) ha hb).1, fun a b ha hb => (Classical.choose_spec (h a b) ha hb).2.1, fun a b ha hb => (Classical.choose_spec (h a b) ha hb).2.2⟩
theorem touch_spec (N : NV r V) (hr : ∀ p ∈ road, Bk p) (hl : road.length < 100) {g : Int} (hg : 0 ≤ g ∧ g ≤ 40) :
    m_touches [.list (road.map dP), .int g, .list (r.map dP)] = .ok ⟨.bool ((List.range (road.length - 1)).any fun k => !decide (((g * g : Int) : Rat) < (V (nth road k) (nth road (k + 1))).1)), false⟩ := by
  have bk : ∀ k, k < road.length → Bk (nth road k) := fun k hk => hr _ (nth_mem hk)
  have q1 : ∀ k, k < road.length - 1 → atI (road.map dP) (k : Int) = some (dP (nth road k)) := fun k hk => at_nat road k (by omega)
  have q2 : ∀ k, k < road.length - 1 → atI (road.map dP) (1 + (k : Int)) = some (dP (nth road (k + 1))) := fun k hk => by
    have := at_nat road (k + 1) (by omega)
    rw [← this]
    congr 1
    omega
  have nr : ∀ k, k < road.length - 1 → m_near_square [dP (nth road k), dP (nth road (k + 1)), .list (r.map dP)] = .ok ⟨dB (V (nth road k) (nth road (k + 1))), false⟩ := fun k hk => N.prog _ _ (bk _ (by omega)) (bk _ (by omega))
  have ls : ∀ v : Qb, m_is_less [.tuple [.int (g * g), .int 1], dB v] = .ok ⟨.bool (decide (((g * g : Int) : Rat) < v.1)), false⟩ := fun v => by
    have := less_spec ((g * g : Int) : Rat) v.1 (by rw [Rat.den_intCast]; decide) (q60 v)
    rw [dQ_int] at this
    exact this
  have mg : mulOk g g = true := mulOk_small _ _ (by omega)
  have lr : (road.map dP).length = road.length := List.length_map ..
  have s1 : smallI 1 = true := by decide
  have sn : smallI (road.length : Int) = true := smallI_nat (by omega)
  have e : ((road.length : Int) - 1).toNat = road.length - 1 := by omega
  have l1 : road.length - 1 < 1000000 := by omega
  have e1 : ∀ k : Nat, 1 + (k : Int) - 1 = (k : Int) := fun k => by omega
  generalize r.map dP = RR at *
  generalize road.map dP = DR at *
  simp +contextual [m_touches, b_touches, m_whole, b_whole, mg, lr, s1, sn, e, e1, q1, q2, nr, ls, l1]
/-- the least of the roads' stretches -/
def W (V : Pt → Pt → Qb) (road : List Pt) (k : Nat) : Qb := V (nth road k) (nth road (k + 1))
theorem any_least {m : Nat} {f : Qb} (hm : (List.range m).foldl (fun o k => ofo o (W V road k)) none = some f) (g : Rat) : ((List.range m).any fun k => !decide (g < (W V road k).1)) = !decide (g < f.1) := by
  have e : ((List.range m).map (W V road)).foldl ofo none = some f := by rw [List.foldl_map]; exact hm
  rw [Bool.eq_iff_iff, List.any_eq_true]
  simp only [Bool.not_eq_true', decide_eq_false_iff_not, Rat.not_lt]
  cases h : (List.range m).map (W V road) with
  | nil =>
    rw [h] at e
    cases e
  | cons x l =>
    rw [h, List.foldl_cons] at e
    have e2 : l.foldl ofo (some x) = some f := e
    rw [foldofo] at e2
    cases e2
    obtain ⟨m1, m2⟩ := foldmn l x
    rw [← h] at m1 m2
    constructor
    · rintro ⟨k, hk, le⟩
      exact Rat.le_trans (m2 _ (List.mem_map.mpr ⟨k, hk, rfl⟩)) le
    · intro le
      obtain ⟨k, hk, e⟩ := List.mem_map.mp m1
      exact ⟨k, hk, by rw [e]; exact le⟩
theorem law2 {ds : List Int} (hat : ∀ i : Int, 0 ≤ i → i < 30 → atI (ds.map PyData.int) i = some (.int (dg ds i))) (R : Ring r) (N : NV r V) (hr : ∀ p ∈ road, Bk p) (hl : road.length < 100) {tx : Str} (ht : PyData.strOk tx = true) (gr : gRepr [.tuple [.list (r.map dP), .list (road.map dP)]] = .ok (.str tx)) (i : Nat) (hi : i < road.length - 1) (o : Option Qb) :
    turn (gNm 6) [0, 6, 7, 8, 9, 10, 11, 12, 13, 14, 15, 16, 17] b_law_2 (.int (1 + (i : Int))) [.no, .fz (.list (ds.map PyData.int)), .fz (.list (r.map dP)), .fz (.list (road.map dP)), .fz (.str tx), stO o, .no, .no, .no, .no, .no, .no, .no, .no, .no, .no, .no, .no] =
      .next [.no, .fz (.list (ds.map PyData.int)), .fz (.list (r.map dP)), .fz (.list (road.map dP)), .fz (.str tx), stO (ofo o (W V road i)), .no, .no, .no, .no, .no, .no, .no, .no, .no, .no, .no, .no] := by
  have q1 := at_nat road i (by omega)
  have q2 : atI (road.map dP) (1 + (i : Int)) = some (dP (nth road (i + 1))) := by
    have := at_nat road (i + 1) (by omega)
    rw [← this]
    congr 1
    omega
  have ba : Bk (nth road i) := hr _ (nth_mem (by omega))
  have bb : Bk (nth road (i + 1)) := hr _ (nth_mem (by omega))
  have n1 := N.prog _ _ ba bb
  have n2 := N.law _ _ ba bb
  have n3 := N.near _ _ ba bb
  have w : ∀ x5 : Sl, forL (gNm 11) [0, 6, 7, 11, 12, 13, 14, 15, 16, 17] b_law_1 (rangeD 0 3) [.no, .fz (.list (ds.map PyData.int)), .fz (.list (r.map dP)), .fz (.list (road.map dP)), .fz (.str tx), x5, .no, .no, .fz (dP (nth road i)), .fz (dP (nth road (i + 1))), .fz (dB (W V road i)), .no, .no, .no, .no, .no, .no, .no] =
      .next [.no, .fz (.list (ds.map PyData.int)), .fz (.list (r.map dP)), .fz (.list (road.map dP)), .fz (.str tx), x5, .no, .no, .fz (dP (nth road i)), .fz (dP (nth road (i + 1))), .fz (dB (W V road i)), .no, .no, .no, .no, .no, .no, .no] := fun x5 => by
    obtain ⟨_, h, _⟩ := forL_exN (g := gNm 11) (dead := [0, 6, 7, 11, 12, 13, 14, 15, 16, 17]) (body := b_law_1) 0 3
      (fun _ : Unit => [.no, .fz (.list (ds.map PyData.int)), .fz (.list (r.map dP)), .fz (.list (road.map dP)), .fz (.str tx), x5, .no, .no, .fz (dP (nth road i)), .fz (dP (nth road (i + 1))), .fz (dB (W V road i)), .no, .no, .no, .no, .no, .no, .no])
      (fun _ _ => True) () trivial fun j _ hj _ => ⟨(), law1 hat R ba bb n3 j hj, trivial⟩
    exact h
  have sm : m__law_same 12 [dB (W V road i), dB (W V road i)] = .ok ⟨.bool true, false⟩ := dQ_same _
  have ns := gNe_s tx tx ht ht
  rw [decide_eq_true rfl] at ns
  have eW : V (nth road i) (nth road (i + 1)) = W V road i := rfl
  rw [eW] at n1 n2
  have s3 : smallI 3 = true := by decide
  have e1 : 1 + (i : Int) - 1 = (i : Int) := by omega
  have less : ∀ f : Qb, m__law_less [dB (W V road i), dB f] = .ok ⟨.bool (decide ((W V road i).1 < f.1)), false⟩ := fun f => lless_spec _ _ (q60 _) (q60 _)
  generalize W V road i = v at *
  generalize dP (nth road i) = A at *
  generalize dP (nth road (i + 1)) = B at *
  generalize ds.map PyData.int = DD at *
  generalize r.map dP = RR at *
  generalize road.map dP = RO at *
  clear n3 ba bb eW
  cases o with
  | none =>
    have w' := w (.fz (dB v))
    generalize hX : dB v = X at *
    simp [b_law_2, e1, q1, q2, n1, n2, sm, gr, ns, s3, stO, ofo, hX, w', -forL_cons']
  | some f =>
    have isn := isN_dB f
    have lf := less f
    unfold ofo mnQ stO
    simp only
    by_cases c : v.1 < f.1
    · have w' := w (.fz (dB v))
      simp [b_law_2, e1, q1, q2, n1, n2, sm, gr, ns, s3, isn, lf, c, w', -forL_cons']
    · have w' := w (.fz (dB f))
      simp [b_law_2, e1, q1, q2, n1, n2, sm, gr, ns, s3, isn, lf, c, w', -forL_cons']
end
end G

namespace G
open PySem PySem.Spec L2 PV
set_option autoImplicit false
set_option linter.all false
theorem filt_spec {road0 : List Pt} (hl : road0.length < 100) {x0 x1 x2 x4 x5 x6 x7 x8 x9 x10 x11 x12 x13 x14 x15 x16 x17 : Sl} :
    compL (gNm 6) (bOr (eB (eOp2 gEq (ePk 6) (eC (.int 0)))) (eB (eOp2 gNe (eOp2 gIdx (ePk 3) (ePk 6)) (eOp2 gIdx (ePk 3) (eOp2 gSub (ePk 6) (eC (.int 1))))))) (eOp2 gIdx (ePk 3) (ePk 6))
      [x0, x1, x2, .own (road0.map dP), x4, x5, x6, x7, x8, x9, x10, x11, x12, x13, x14, x15, x16, x17] (rangeD 0 road0.length) =
      .ok ((((List.range road0.length).filter fun k => decide (k = 0) || !decide (nth road0 k = nth road0 (k - 1))).map fun k => nth road0 k).map dP) := by
  have h := compL_filter (g := gNm 6) (c := bOr (eB (eOp2 gEq (ePk 6) (eC (.int 0)))) (eB (eOp2 gNe (eOp2 gIdx (ePk 3) (ePk 6)) (eOp2 gIdx (ePk 3) (eOp2 gSub (ePk 6) (eC (.int 1)))))))
    (fe := eOp2 gIdx (ePk 3) (ePk 6)) (env := [x0, x1, x2, .own (road0.map dP), x4, x5, x6, x7, x8, x9, x10, x11, x12, x13, x14, x15, x16, x17]) (fun k : Nat => .int (0 + (k : Int))) (fun k => decide (k = 0) || !decide (nth road0 k = nth road0 (k - 1))) (fun k => dP (nth road0 k)) (List.range road0.length) fun k hk => by
      have hk := List.mem_range.mp hk
      have q1 := at_nat road0 k hk
      by_cases c : k = 0
      · subst c
        have q1 : atI (road0.map dP) 0 = some (dP (nth road0 0)) := q1
        generalize road0.map dP = RO at *
        simp [cturn, q1]
      · have e : (k : Int) - 1 = ((k - 1 : Nat) : Int) := by omega
        have q2 := at_nat road0 (k - 1) (by omega)
        have ne := (dP_nice (nth road0 k)).ne (dP_nice (nth road0 (k - 1)))
        rw [dP_eqv] at ne
        have c' : ¬ (k : Int) = 0 := by omega
        generalize road0.map dP = RO at *
        generalize nth road0 k = A at *
        generalize nth road0 (k - 1) = B at *
        by_cases ab : A = B
        · subst ab
          rw [decide_eq_true rfl] at ne
          simp [cturn, q1, q2, e, ne, c, c']
        · rw [decide_eq_false ab] at ne
          simp [cturn, q1, q2, e, ne, c, c', ab]
  have e : rangeD 0 road0.length = (List.range road0.length).map fun k : Nat => PyData.int (0 + (k : Int)) := rfl
  rw [e, h, List.map_map]
  rfl
end G

/-! ### the law -/
namespace G
open PySem PySem.Spec L2 PV
set_option autoImplicit false
set_option linter.all false
theorem rp_pts {xs : List Pt} (h : ∀ p ∈ xs, Bk p) (hl : xs.length ≤ 10) : Rp 2 1000 (.list (xs.map dP)) := by
  refine Rp.list (n := 1) (k := 84) (fun x hx => ?_) (by rw [List.length_map]; omega)
  obtain ⟨p, hp, rfl⟩ := List.mem_map.mp hx
  have b := h p hp
  unfold Bk at b
  rw [dP_ap]
  refine Rp.tuple (n := 0) (k := 41) (fun y hy => ?_) (by simp)
  simp only [List.mem_cons, List.not_mem_nil, or_false] at hy
  rcases hy with rfl | rfl <;> exact Rp.int (by omega) (by decide)
theorem rp_two {xs ys : List Pt} (h : ∀ p ∈ xs, Bk p) (hl : xs.length ≤ 10) (h' : ∀ p ∈ ys, Bk p) (hl' : ys.length ≤ 10) : Rp 3 3000 (.tuple [.list (xs.map dP), .list (ys.map dP)]) := by
  refine Rp.tuple (n := 2) (k := 1000) (fun y hy => ?_) (by simp)
  simp only [List.mem_cons, List.not_mem_nil, or_false] at hy
  rcases hy with rfl | rfl
  · exact rp_pts h hl
  · exact rp_pts h' hl'
section
variable {r road : List Pt} {V : Pt → Pt → Qb}
theorem law3 (N : NV r V) (hr : ∀ p ∈ road, Bk p) (hl : road.length < 100) {f : Qb} (hm : (List.range (road.length - 1)).foldl (fun o k => ofo o (W V road k)) none = some f) {x4 : Sl} {g : Int} (hg : 0 ≤ g ∧ g ≤ 40) :
    turn (gNm 7) [0, 1, 6, 7, 8, 9, 10, 11, 12, 13, 14, 15, 16, 17] b_law_3 (.int g) [.no, .no, .fz (.list (r.map dP)), .fz (.list (road.map dP)), x4, .fz (dB f), .no, .no, .no, .no, .no, .no, .no, .no, .no, .no, .no, .no] =
      .next [.no, .no, .fz (.list (r.map dP)), .fz (.list (road.map dP)), x4, .fz (dB f), .no, .no, .no, .no, .no, .no, .no, .no, .no, .no, .no, .no] := by
  have t := touch_spec N hr hl hg
  have e := any_least hm ((g * g : Int) : Rat)
  unfold W at e
  rw [e] at t
  have l := lless_spec ((g * g : Int) : Rat) f.1 (by rw [Rat.den_intCast]; decide) (q60 f)
  rw [dQ_int, ← dB_ap] at l
  have mg : mulOk g g = true := mulOk_small _ _ (by omega)
  have sm := bool_same (!decide (((g * g : Int) : Rat) < f.1))
  generalize decide (((g * g : Int) : Rat) < f.1) = B at *
  generalize dB f = FF at *
  generalize r.map dP = RR at *
  generalize road.map dP = RO at *
  simp [b_law_3, t, l, mg, sm]
theorem dsq_same (s a : Pt) : dsq s a a = nq ((s.1 : Rat) - a.1) ((s.2 : Rat) - a.2) := by
  unfold dsq
  have : alg s a a = 0 := by unfold alg; rw [Int.sub_self, Int.sub_self, Int.mul_zero, Int.mul_zero]; rfl
  rw [this, if_pos (Int.le_refl 0), rS]
  rfl
end
theorem main (ns : List Int) (h : ns.length ≤ 63) : ∃ r, m_law [.list (ns.map PyData.int)] = .ok r ∧ r.d = .bool true := by
  obtain ⟨c, hc⟩ := cell_spec ns 0 (by omega)
  obtain ⟨ds, hl, hat, hbd, _, hd⟩ := numbers_dg c 5040 30 (by decide) (by decide) (by decide)
  have hc' : m__law_cell [.list (ns.map PyData.int), .int 0] = .ok ⟨.int c, false⟩ := hc
  have hd' : m__law_numbers [.int c, .int 30, .int 5040] = .ok ⟨.list (ds.map PyData.int), true⟩ := hd
  obtain ⟨r, R, hr⟩ := ring_spec (ds := ds) fun i h0 h1 => hat i h0 (by omega)
  have l8 := R.l8
  have l0 := R.l0
  obtain ⟨V, N⟩ := nv_ex R
  have a10 := hat 10 (by decide) (by decide)
  have a20 := hat 20 (by decide) (by decide)
  have a21 := hat 21 (by decide) (by decide)
  have m3 := modOk_pos (dg ds 10) 3 (by decide)
  have b3 := fmod_bd (dg ds 10) 3 (by decide)
  have m13 := fun z => modOk_pos z 13 (by decide)
  have b20 := fmod_bd (dg ds 20) 13 (by decide)
  have b21 := fmod_bd (dg ds 21) 13 (by decide)
  have m25 := fun z => modOk_pos z 25 (by decide)
  have d25 := fun z => divOk_pos z 25 (by decide) (by decide)
  obtain ⟨n, hn⟩ : ∃ n : Nat, 2 + (dg ds 10).fmod 3 = (n : Int) := ⟨(2 + (dg ds 10).fmod 3).toNat, by omega⟩
  have n4 : 2 ≤ n ∧ n ≤ 4 := by omega
  have ak : ∀ k, k < n → atI (ds.map PyData.int) (4 + (k : Int)) = some (.int (dg ds (4 + (k : Int)))) := fun k hk => hat _ (by omega) (by omega)
  obtain ⟨road0, h0⟩ : ∃ road0 : List Pt, road0 = (List.range n).map fun (k : Nat) => ((dg ds (4 + (k : Int))).fmod 25 - 12, ((dg ds (4 + (k : Int))).fdiv 25).fmod 25 - 12) := ⟨_, rfl⟩
  have len0 : road0.length = n := by rw [h0, List.length_map, List.length_range]
  have bd0 : ∀ p ∈ road0, Bk p := fun p hp => by
    rw [h0] at hp
    obtain ⟨k, _, rfl⟩ := List.mem_map.mp hp
    have c1 := fmod_bd (dg ds (4 + (k : Int))) 25 (by decide)
    have c2 := fmod_bd ((dg ds (4 + (k : Int))).fdiv 25) 25 (by decide)
    unfold Bk
    simp only
    omega
  have e0 : road0.map dP = (List.range n).map fun (k : Nat) => PyData.tuple [.int ((dg ds (4 + (k : Int))).fmod 25 - 12), .int (((dg ds (4 + (k : Int))).fdiv 25).fmod 25 - 12)] := by
    rw [h0, List.map_map]; rfl
  obtain ⟨X, hX⟩ : ∃ X : List Pt, X = ((List.range road0.length).filter fun k => decide (k = 0) || !decide (nth road0 k = nth road0 (k - 1))).map fun k => nth road0 k := ⟨_, rfl⟩
  have fs := @filt_spec road0 (by omega)
  rw [← hX] at fs
  have bX : ∀ p ∈ X, Bk p := fun p hp => by
    rw [hX] at hp
    obtain ⟨k, hk, rfl⟩ := List.mem_map.mp hp
    exact bd0 _ (nth_mem (List.mem_range.mp (List.mem_filter.mp hk).1))
  have lX : X.length ≤ 4 := by
    rw [hX, List.length_map]
    have := List.length_filter_le (fun k => decide (k = 0) || !decide (nth road0 k = nth road0 (k - 1))) (List.range road0.length)
    rw [List.length_range] at this
    omega
  have pX : 0 < X.length := by
    rw [hX, List.length_map]
    refine List.length_pos_of_mem (a := 0) (List.mem_filter.mpr ⟨List.mem_range.mpr (by omega), rfl⟩)
  obtain ⟨road, hroad⟩ : ∃ road, road = X ++ [((13 : Int), (13 : Int))] := ⟨_, rfl⟩
  have lr : road.length = X.length + 1 := by rw [hroad, List.length_append]; rfl
  have bR : ∀ p ∈ road, Bk p := fun p hp => by
    rw [hroad] at hp
    rcases List.mem_append.mp hp with hp | hp
    · exact bX p hp
    · rw [List.mem_singleton] at hp
      subst hp
      unfold Bk
      decide
  have rp := rp_two (fun p hp => R.bk hp) (by omega) bR (by omega)
  have gr := gRepr_ok rp rfl (by decide) (by decide)
  have ok := rp.ok
  generalize PyData.shown (.tuple [.list (r.map dP), .list (road.map dP)]) = tx at *
  have gs := gEq_s tx tx ok ok
  rw [decide_eq_true rfl] at gs
  obtain ⟨f, hf⟩ : ∃ f, (List.range (road.length - 1)).foldl (fun o k => ofo o (W V road k)) none = some f := by
    have e : road.length - 1 = (X.length - 1) + 1 := by omega
    rw [e, List.range_succ_eq_map, List.foldl_cons]
    have e2 : ∀ (l : List Nat) (q : Qb), ∃ f, l.foldl (fun o k => ofo o (W V road k)) (some q) = some f := fun l => by
      induction l with
      | nil => exact fun q => ⟨q, rfl⟩
      | cons k l ih => exact fun q => by rw [List.foldl_cons]; exact ih _
    exact e2 _ _
  have w2 := forL_st (g := gNm 6) (dead := [0, 6, 7, 8, 9, 10, 11, 12, 13, 14, 15, 16, 17]) (body := b_law_2) (fun i : Nat => PyData.int (1 + (i : Int)))
    (fun o : Option Qb => [.no, .fz (.list (ds.map PyData.int)), .fz (.list (r.map dP)), .fz (.list (road.map dP)), .fz (.str tx), stO o, .no, .no, .no, .no, .no, .no, .no, .no, .no, .no, .no, .no])
    (fun o k => ofo o (W V road k)) (fun _ => True) (List.range (road.length - 1)) none trivial fun o i hi _ => ⟨law2 hat R N bR (by omega) ok gr i (List.mem_range.mp hi) o, trivial⟩
  rw [hf] at w2
  have er : (List.range (road.length - 1)).map (fun i : Nat => PyData.int (1 + (i : Int))) = rangeD 1 (road.length - 1) := rfl
  rw [er] at w2
  have w3 := forL_same (g := gNm 7) (dead := [0, 1, 6, 7, 8, 9, 10, 11, 12, 13, 14, 15, 16, 17]) (body := b_law_3)
    (env := [.no, .no, .fz (.list (r.map dP)), .fz (.list (road.map dP)), .fz (.str tx), .fz (dB f), .no, .no, .no, .no, .no, .no, .no, .no, .no, .no, .no, .no])
    (ds := [.int 0, .int 1, .int ((dg ds 20).fmod 13), .int ((dg ds 21).fmod 13), .int 40]) fun d hd => by
      simp only [List.mem_cons, List.not_mem_nil, or_false] at hd
      rcases hd with rfl | rfl | rfl | rfl | rfl
      · exact law3 N bR (by omega) hf (by decide)
      · exact law3 N bR (by omega) hf (by decide)
      · exact law3 N bR (by omega) hf (by omega)
      · exact law3 N bR (by omega) hf (by omega)
      · exact law3 N bR (by omega) hf (by decide)
  have q1 : atI (road.map dP) 0 = some (dP (nth road 0)) := at_nat road 0 (by omega)
  have q2 : atI (r.map dP) 0 = some (dP (nth r 0)) := at_nat r 0 (by omega)
  have ba : Bk (nth road 0) := bR _ (nth_mem (by omega))
  have bb : Bk (nth r 0) := R.bk (nth_mem (by omega))
  have g1 := ds_spec ba bb bb
  have g2 := lsq_spec (Sm.int (z := (nth road 0).1) (by unfold Bk at ba; omega)) (Sm.int (z := (nth road 0).2) (by unfold Bk at ba; omega)) (Sm.int (z := (nth r 0).1) (by unfold Bk at bb; omega)) (Sm.int (z := (nth r 0).2) (by unfold Bk at bb; omega)) (by decide) (by decide) (by decide)
  rw [← dsq_same, dQ_int, dQ_int, dQ_int, dQ_int] at g2
  have sm := dQ_same (dsq (nth road 0) (nth r 0) (nth r 0))
  rw [dP_ap] at q1 q2
  generalize nth road 0 = p0 at *
  generalize nth r 0 = r0 at *
  generalize dQ (dsq p0 r0 r0) = DQ at *
  have s1 : smallI 1 = true := by decide
  have sn : smallI (n : Int) = true := smallI_nat (by omega)
  have sr : smallI (road.length : Int) = true := smallI_nat (by omega)
  have er2 : ((road.length : Int) - 1).toNat = road.length - 1 := by omega
  have lD : (road.map dP).length = road.length := List.length_map ..
  have lM : (road0.map dP).length = n := by rw [List.length_map]; exact len0
  have n6 : n < 1000000 := by omega
  have X6 : X.length < 1000000 := by omega
  have X7 : X.length + 1 < 1000000 := by omega
  have eR : road.map dP = X.map dP ++ [.tuple [.int 13, .int 13]] := by rw [hroad, List.map_append]; rfl
  rw [len0] at fs
  refine ⟨⟨.bool true, false⟩, ?_, rfl⟩
  have t5 : ∀ x0 x6 : Sl, b_law_t4 [x0, .fz (.list (ds.map PyData.int)), .own (r.map dP), .own (road.map dP), .no, .no, x6, .no, .no, .no, .no, .no, .no, .no, .no, .no, .no, .no] = .ret ⟨.bool true, false⟩ := fun x0 x6 => by
    simp only [stO] at w2
    clear eR hroad
    generalize dB f = FF at *
    generalize ds.map PyData.int = DD at *
    generalize r.map dP = RR at *
    generalize road.map dP = RO at *
    simp [b_law_t4, b_law_t5, b_law_t6, b_law_t7, b_law_t8, b_law_t9, gr, s1, sr, lD, er2, w2, q1, q2, g1, g2, sm, m__law_spot, b__law_spot, a20, a21, m13, w3, gs, -forL_cons']
  rw [eR] at t5
  rw [e0] at fs lM
  generalize hr2 : r.map dP = RR at *
  generalize ds.map PyData.int = DD at *
  simp +contextual [m_law, b_law, b_law_t1, b_law_t2, b_law_t3, hc', hd', hr, a10, m3, hn, sn, ak, m25, d25, n6, lM, fs, X6, X7, t5]
end G

open PySem PySem.W PyProof.Rows
set_option maxHeartbeats 0 in
theorem PySem.Challenge.cw_spotincommon_k64_whole_roads_that_touch_holds : PySem.Challenge.rw_spotincommon_k64_whole_roads_that_touch.Holds := by
  w_on; o_law; k_head; (case hw => w_witness2)
  k_fill
  refine PV.walk_top (l := PySem.Challenge.rw_spotincommon_k64_whole_roads_that_touch) (n := 63) (x := "script") (m := G.m_law) rfl (by decide) rfl (fun w h Y => PySem.W.kIn_of Y) ?F G.main
  case F =>
    intro w mg fa h KX GX hmg
    refine' G.all_mk KX GX hmg ?a_0 ?l_0 ?c_0 ?k_0 ?a_1 ?l_1 ?c_1 ?k_1 ?a_2 ?l_2 ?c_2 ?k_2 ?a_3 ?l_3 ?c_3 ?k_3 ?a_4 ?l_4 ?c_4 ?k_4 ?a_5 ?l_5 ?c_5 ?k_5 ?a_6 ?l_6 ?c_6 ?k_6 ?a_7 ?l_7 ?c_7 ?k_7 ?a_8 ?l_8 ?c_8 ?k_8 ?a_9 ?l_9 ?c_9 ?k_9 ?a_10 ?l_10 ?c_10 ?k_10 ?a_11 ?l_11 ?c_11 ?k_11 ?a_12 ?l_12 ?c_12 ?k_12 ?a_13 ?l_13 ?c_13 ?k_13 ?a_14 ?l_14 ?c_14 ?k_14 ?a_15 ?l_15 ?c_15 ?k_15 ?a_16 ?l_16 ?c_16 ?k_16 ?a_17 ?l_17 ?c_17 ?k_17 ?a_18 ?l_18 ?c_18 ?k_18 ?a_19 ?l_19 ?c_19 ?k_19 ?a_20 ?l_20 ?c_20 ?k_20 ?a_21 ?l_21 ?c_21 ?k_21 ?a_22 ?l_22 ?c_22 ?k_22 ?a_23 ?l_23 ?c_23 ?k_23 ?a_24 ?l_24 ?c_24 ?k_24 ?a_25 ?l_25 ?c_25 ?k_25 ?a_26 ?l_26 ?c_26 ?k_26 ?a_27 ?l_27 ?c_27 ?k_27 ?a_28 ?l_28 ?c_28 ?k_28 ?a_29 ?l_29 ?c_29 ?k_29 ?a_30 ?l_30 ?c_30 ?k_30 ?a_31 ?l_31 ?c_31 ?k_31 ?a_32 ?l_32 ?c_32 ?k_32 ?a_33 ?l_33 ?c_33 ?k_33 ?a_34 ?l_34 ?c_34 ?k_34 ?a_35 ?l_35 ?c_35 ?k_35 ?a_36 ?l_36 ?c_36 ?k_36 ?a_37 ?l_37 ?c_37 ?k_37 ?a_38 ?l_38 ?c_38 ?k_38 ?a_39 ?l_39 ?c_39 ?k_39 ?a_40 ?l_40 ?c_40 ?k_40 ?a_41 ?l_41 ?c_41 ?k_41 ?a_42 ?l_42 ?c_42 ?k_42 ?a_43 ?l_43 ?c_43 ?k_43 ?z_abs ?z_any ?z_bool ?z_int ?z_isinstance ?z_len ?z_list ?z_max ?z_min ?z_range ?z_repr ?z_str ?z_tuple ?y_gcd ?q_ZERO ?q_ZERO_l
    (case a_0 => k_is); (case l_0 => k_is); (case c_0 => k_is); (case k_0 => k_is); (case a_1 => k_is); (case l_1 => k_is); (case c_1 => k_is); (case k_1 => k_is); (case a_2 => k_is); (case l_2 => k_is); (case c_2 => k_is); (case k_2 => k_is); (case a_3 => k_is); (case l_3 => k_is); (case c_3 => k_is); (case k_3 => k_is); (case a_4 => k_is); (case l_4 => k_is); (case c_4 => k_is); (case k_4 => k_is); (case a_5 => k_is); (case l_5 => k_is); (case c_5 => k_is); (case k_5 => k_is); (case a_6 => k_is); (case l_6 => k_is); (case c_6 => k_is); (case k_6 => k_is); (case a_7 => k_is); (case l_7 => k_is); (case c_7 => k_is); (case k_7 => k_is); (case a_8 => k_is); (case l_8 => k_is); (case c_8 => k_is); (case k_8 => k_is); (case a_9 => k_is); (case l_9 => k_is); (case c_9 => k_is); (case k_9 => k_is); (case a_10 => k_is); (case l_10 => k_is); (case c_10 => k_is); (case k_10 => k_is); (case a_11 => k_is); (case l_11 => k_is); (case c_11 => k_is); (case k_11 => k_is); (case a_12 => k_is); (case l_12 => k_is); (case c_12 => k_is); (case k_12 => k_is); (case a_13 => k_is); (case l_13 => k_is); (case c_13 => k_is); (case k_13 => k_is); (case a_14 => k_is); (case l_14 => k_is); (case c_14 => k_is); (case k_14 => k_is); (case a_15 => k_is); (case l_15 => k_is); (case c_15 => k_is); (case k_15 => k_is); (case a_16 => k_is); (case l_16 => k_is); (case c_16 => k_is); (case k_16 => k_is); (case a_17 => k_is); (case l_17 => k_is); (case c_17 => k_is); (case k_17 => k_is); (case a_18 => k_is); (case l_18 => k_is); (case c_18 => k_is); (case k_18 => k_is); (case a_19 => k_is); (case l_19 => k_is); (case c_19 => k_is); (case k_19 => k_is); (case a_20 => k_is); (case l_20 => k_is); (case c_20 => k_is); (case k_20 => k_is); (case a_21 => k_is); (case l_21 => k_is); (case c_21 => k_is); (case k_21 => k_is); (case a_22 => k_is); (case l_22 => k_is); (case c_22 => k_is); (case k_22 => k_is); (case a_23 => k_is); (case l_23 => k_is); (case c_23 => k_is); (case k_23 => k_is); (case a_24 => k_is); (case l_24 => k_is); (case c_24 => k_is); (case k_24 => k_is); (case a_25 => k_is); (case l_25 => k_is); (case c_25 => k_is); (case k_25 => k_is); (case a_26 => k_is); (case l_26 => k_is); (case c_26 => k_is); (case k_26 => k_is); (case a_27 => k_is); (case l_27 => k_is); (case c_27 => k_is); (case k_27 => k_is); (case a_28 => k_is); (case l_28 => k_is); (case c_28 => k_is); (case k_28 => k_is); (case a_29 => k_is); (case l_29 => k_is); (case c_29 => k_is); (case k_29 => k_is); (case a_30 => k_is); (case l_30 => k_is); (case c_30 => k_is); (case k_30 => k_is); (case a_31 => k_is); (case l_31 => k_is); (case c_31 => k_is); (case k_31 => k_is); (case a_32 => k_is); (case l_32 => k_is); (case c_32 => k_is); (case k_32 => k_is); (case a_33 => k_is); (case l_33 => k_is); (case c_33 => k_is); (case k_33 => k_is); (case a_34 => k_is); (case l_34 => k_is); (case c_34 => k_is); (case k_34 => k_is); (case a_35 => k_is); (case l_35 => k_is); (case c_35 => k_is); (case k_35 => k_is); (case a_36 => k_is); (case l_36 => k_is); (case c_36 => k_is); (case k_36 => k_is); (case a_37 => k_is); (case l_37 => k_is); (case c_37 => k_is); (case k_37 => k_is); (case a_38 => k_is); (case l_38 => k_is); (case c_38 => k_is); (case k_38 => k_is); (case a_39 => k_is); (case l_39 => k_is); (case c_39 => k_is); (case k_39 => k_is); (case a_40 => k_is); (case l_40 => k_is); (case c_40 => k_is); (case k_40 => k_is); (case a_41 => k_is); (case l_41 => k_is); (case c_41 => k_is); (case k_41 => k_is); (case a_42 => k_is); (case l_42 => k_is); (case c_42 => k_is); (case k_42 => k_is); (case a_43 => k_is); (case l_43 => k_is); (case c_43 => k_is); (case k_43 => k_is); (case z_abs => k_is); (case z_any => k_is); (case z_bool => k_is); (case z_int => k_is); (case z_isinstance => k_is); (case z_len => k_is); (case z_list => k_is); (case z_max => k_is); (case z_min => k_is); (case z_range => k_is); (case z_repr => k_is); (case z_str => k_is); (case z_tuple => k_is); (case y_gcd => k_is); (case q_ZERO => k_is); (case q_ZERO_l => k_is)
