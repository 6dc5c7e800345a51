import PyProof.Rows.All
import Wide.All
import OpenK.AllK
import Wide.FinOn
import HandS.ForMost
import HandS.Deep
import HandS.IsInst
import HandS.Wide
import HandS.Gcd
import HandS.Zip
import HandS.SortInts
import HandS.TupSets
import HandS.Flow
import HandS.NoneIn
import HandS.Style
import KE.DataCmp
import KE.DataMinMax
import KE.SortData
import HandS.RevRange
import HandS.TryOnly
import KE.DatumOrd
import HandS.SetBool
import HandS.DictComp
import HandS.Strs
import HandS.Conv
import HandS.Flt
import PyProof.ReprRoads
import PyProof.ReprLen
import KE.KDictSum
import HandS.ExcValue
import HandS.Rev
import HandS.RevTup
import PyProof.ListNew
import HandS.ExcOwn
import HandS.ExcIs
import HandS.TryMany
import HandS.WordsExc
import PyProof.StrBlock2
import PyProof.ListMulRoad
import HandS.SetFor
import PySem.Challenge.RW_spotincommon_k12_lines_of_stones_and_the
set_option Elab.async false
set_option linter.all false
set_option maxRecDepth 100000
set_option Elab.async false
set_option linter.all false
set_option maxRecDepth 100000
namespace PV
open PySem PySem.Spec L2
set_option autoImplicit false
/-! ### deep values, outcomes -/
abbrev D := PyData
inductive Res (α : Type) where
  | ok (a : α)
  | exc (c : Str)
  | bad
def Res.bind {α β : Type} (r : Res α) (f : α → Res β) : Res β := match r with
  | .ok a => f a
  | .exc c => .exc c
  | .bad => .bad
@[simp] theorem Res.bind_ok {α β : Type} (a : α) (f : α → Res β) : (Res.ok a).bind f = f a := Eq.trans rfl rfl
@[simp] theorem Res.bind_bad {α β : Type} (f : α → Res β) : (Res.bad : Res α).bind f = .bad := Eq.trans rfl rfl
@[simp] theorem Res.bind_exc {α β : Type} (c : Str) (f : α → Res β) : (Res.exc c : Res α).bind f = .exc c := Eq.trans rfl rfl
theorem Res.bind_eq {α β : Type} {r : Res α} {f : α → Res β} {b : β} (h : r.bind f = .ok b) : ∃ a, r = .ok a ∧ f a = .ok b := by
  cases r with
  | ok a => exact ⟨a, rfl, h⟩
  | exc c => cases h
  | bad => cases h
/-- a value; whether it is a list that nobody else has -/
structure RV where
  d : D
  fr : Bool
/-- other objects of one's own: a list whose items are new lists too -/
inductive ObK where
  | newl (ds : List D)
  /-- a dict, its keys tuples of ints -/
  | dkt (ks : List (List Int))
/-- a slot: nothing told, a value that stays as it is, a list of its own -/
inductive Sl where
  | no
  | fz (d : D)
  | own (ds : List D)
  | at (a : Addr)
  | ob (k : ObK)
/-- a slot whose object nobody else has -/
def Sl.ow : Sl → Bool
  | .own _ => true
  | .ob _ => true
  | _ => false
abbrev Env := List Sl

/-! ### what stands -/
section
variable {K : PySem.W.Frag} {H H' H1 H2 Z Z' Z1 Z2 H0 Z0 : Hp} {a p : Addr} {vs : List V} {v : V} {d : D} {ds : List D}
theorem seqT (e : Same H H') (h : SqT K H a vs) : SqT K H' a vs := by
  rcases h with (h | ⟨o, h⟩) | h
  · exact .inl (.inl (e _ _ h))
  · exact .inl (.inr ⟨o, e _ _ h⟩)
  · exact .inr h
mutual
theorem dp_mono (e : Same H H') : ∀ {v : V} {d : D}, Dp K H v d → Dp K H' v d
  | _, _, .non => .non
  | _, _, .bl b => .bl b
  | _, _, .int i => .int i
  | _, _, .str x => .str x
  | _, _, .lst h1 h2 => .lst (e.seq h1) (dps_mono e h2)
  | _, _, .tup h1 h2 => .tup (seqT e h1) (dps_mono e h2)
theorem dps_mono (e : Same H H') : ∀ {vs : List V} {ds : List D}, DpAll K H vs ds → DpAll K H' vs ds
  | _, _, .nil => .nil
  | _, _, .cons h1 h2 => .cons (dp_mono e h1) (dps_mono e h2)
end
theorem dps_length : ∀ {vs : List V} {ds : List D}, DpAll K H vs ds → vs.length = ds.length
  | _, _, .nil => rfl
  | _, _, .cons _ h => congrArg (· + 1) (dps_length h)
theorem dps_get : ∀ {vs : List V} {ds : List D} {i : Nat} {d : D}, DpAll K H vs ds → ds[i]? = some d → ∃ v, vs[i]? = some v ∧ Dp K H v d
  | _, _, _, _, .nil, e => by simp at e
  | _, _, 0, _, .cons h _, e => by simp at e; subst e; exact ⟨_, rfl, h⟩
  | _, _, i + 1, d, .cons _ h, e => by
    obtain ⟨v, h1, h2⟩ := dps_get (i := i) (d := d) h (by simpa using e)
    exact ⟨v, by simpa using h1, h2⟩
theorem dps_get' : ∀ {vs : List V} {ds : List D} {i : Nat} {v : V}, DpAll K H vs ds → vs[i]? = some v → ∃ d, ds[i]? = some d ∧ Dp K H v d
  | _, _, _, _, .nil, e => by simp at e
  | _, _, 0, _, .cons h _, e => by simp at e; subst e; exact ⟨_, rfl, h⟩
  | _, _, i + 1, d, .cons _ h, e => by
    obtain ⟨v, h1, h2⟩ := dps_get' (i := i) (v := d) h (by simpa using e)
    exact ⟨v, by simpa using h1, h2⟩
theorem dps_append : ∀ {vs ws : List V} {ds es : List D}, DpAll K H vs ds → DpAll K H ws es → DpAll K H (vs ++ ws) (ds ++ es)
  | _, _, _, _, .nil, h => h
  | _, _, _, _, .cons h1 h2, h => .cons h1 (dps_append h2 h)
theorem dps_set : ∀ {vs : List V} {ds : List D} (i : Nat) {v : V} {d : D}, DpAll K H vs ds → Dp K H v d → DpAll K H (vs.set i v) (ds.set i d)
  | _, _, _, _, _, .nil, _ => .nil
  | _, _, 0, _, _, .cons _ h2, h => .cons h h2
  | _, _, i + 1, _, _, .cons h1 h2, h => .cons h1 (dps_set i h2 h)
theorem dps_take : ∀ {vs : List V} {ds : List D} (n : Nat), DpAll K H vs ds → DpAll K H (vs.take n) (ds.take n)
  | _, _, 0, _ => .nil
  | _, _, _ + 1, .nil => .nil
  | _, _, n + 1, .cons h1 h2 => .cons h1 (dps_take n h2)
theorem dps_drop : ∀ {vs : List V} {ds : List D} (n : Nat), DpAll K H vs ds → DpAll K H (vs.drop n) (ds.drop n)
  | _, _, 0, h => h
  | _, _, _ + 1, .nil => .nil
  | _, _, n + 1, .cons _ h2 => dps_drop n h2
theorem dps_ints : ∀ {ns : List Int} {vs : List V}, DpAll K H vs (ns.map PyData.int) → vs = ns.map V.int
  | [], _, .nil => rfl
  | n :: r, _, .cons h1 h2 => by cases h1; rw [dps_ints h2]; rfl
theorem ints_dps : ∀ (ns : List Int), DpAll K H (ns.map V.int) (ns.map PyData.int)
  | [] => .nil
  | n :: r => .cons (.int n) (ints_dps r)
theorem dps_bools : ∀ {bs : List Bool} {vs : List V}, DpAll K H vs (bs.map PyData.bool) → vs = bs.map V.bl
  | [], _, .nil => rfl
  | n :: r, _, .cons h1 h2 => by cases h1; rw [dps_bools h2]; rfl
theorem same_upd {o : HO} (h : H p = none) : Same H (upd H p o) := fun b x e => by
  rw [upd_ne (ne_of_none e h)]
  exact e
theorem same_updR {o : HO} (h : Z p = none) (s : Same Z H) : Same Z (upd H p o) := fun b x e => by
  rw [upd_ne (ne_of_none e h)]
  exact s b x e

/-- the frozen part Z and the heap H have grown -/
structure Ext (Z H Z' H' : Hp) : Prop where
  hh : Same H H'
  zz : Same Z Z'
  zh : Same Z' H'
  no : ∀ a, H a ≠ none → Z a = none → Z' a = none
theorem Ext.refl (h : Same Z H) : Ext Z H Z H := ⟨Same.refl _, Same.refl _, h, fun _ _ e => e⟩
theorem not_none {a : Addr} (s : Same H H') (h : H a ≠ none) : H' a ≠ none := fun e => h (s.free e)
theorem Ext.trans (a : Ext Z H Z1 H1) (b : Ext Z1 H1 Z2 H2) : Ext Z H Z2 H2 :=
  ⟨a.hh.trans b.hh, a.zz.trans b.zz, b.zh, fun c h e => b.no c (not_none a.hh h) (a.no c h e)⟩
/-- a new object, frozen at once -/
theorem Ext.new {o : HO} (h : Same Z H) (hp : H p = none) : Ext Z H (upd Z p o) (upd H p o) := by
  have zp : Z p = none := h.free hp
  refine ⟨same_upd hp, same_upd zp, fun b x e => ?_, fun a ha e => ?_⟩
  · by_cases hb : b = p
    · subst hb; rw [upd_same] at e ⊢; exact e
    · rw [upd_ne hb] at e ⊢; exact h b x e
  · have : a ≠ p := fun q => ha (q ▸ hp)
    rw [upd_ne this]; exact e
/-- a new object, not frozen -/
theorem Ext.made {o : HO} (h : Same Z H) (hp : H p = none) : Ext Z H Z (upd H p o) :=
  ⟨same_upd hp, Same.refl _, same_updR (h.free hp) h, fun _ _ e => e⟩
/-- a list of one's own is frozen -/
theorem Ext.freeze {o : HO} (e : Ext Z H Z' H') (hp : H p = none) (hp' : H' p = some o) (zp : Z' p = none) : Ext Z H (upd Z' p o) H' := by
  refine ⟨e.hh, e.zz.trans (same_upd zp), fun b x q => ?_, fun a ha q => ?_⟩
  · by_cases hb : b = p
    · subst hb; rw [upd_same] at q; rw [hp']; exact q
    · rw [upd_ne hb] at q; exact e.zh b x q
  · have : a ≠ p := fun z => ha (z ▸ hp)
    rw [upd_ne this]; exact e.no a ha q

/-- a value that may be a list of one's own at its top -/
def DpP (K : PySem.W.Frag) (Z H : Hp) (v : V) (d : D) : Prop := Dp K Z v d ∨ ∃ p vs ds, v = .ref p ∧ d = .list ds ∧ H p = some (.lst vs) ∧ DpAll K Z vs ds
theorem DpP.ext (h : DpP K Z H v d) (e : Ext Z H Z' H') : DpP K Z' H' v d := by
  rcases h with h | ⟨p, vs, ds, h1, h2, h3, h4⟩
  · exact .inl (dp_mono e.zz h)
  · exact .inr ⟨p, vs, ds, h1, h2, e.hh _ _ h3, dps_mono e.zz h4⟩
theorem DpP.cur (h : DpP K Z H v d) (s : Same Z H) : Dp K H v d := by
  rcases h with h | ⟨p, vs, ds, rfl, rfl, h3, h4⟩
  · exact dp_mono s h
  · exact .lst (.of h3) (dps_mono s h4)
/-- a list that is read -/
theorem DpP.list (h : DpP K Z H v (.list ds)) (s : Same Z H) : ∃ p vs, v = .ref p ∧ SqL K H p vs ∧ DpAll K Z vs ds := by
  rcases h with h | ⟨p, vs, ds', rfl, e, h3, h4⟩
  · cases h with
    | lst h1 h2 => exact ⟨_, _, rfl, s.seq h1, h2⟩
  · cases e
    exact ⟨p, vs, rfl, .of h3, h4⟩
theorem DpP.tup (h : DpP K Z H v (.tuple ds)) (s : Same Z H) : ∃ p vs, v = .ref p ∧ SqT K H p vs ∧ DpAll K Z vs ds := by
  rcases h with h | ⟨p, vs, ds', rfl, e, h3, h4⟩
  · cases h with
    | tup h1 h2 => exact ⟨_, _, rfl, seqT s h1, h2⟩
  · cases e
theorem DpP.int {i : Int} (h : DpP K Z H v (.int i)) : v = .int i := by
  rcases h with h | ⟨p, vs, ds', rfl, e, h3, h4⟩
  · cases h; rfl
  · cases e
theorem DpP.bool {i : Bool} (h : DpP K Z H v (.bool i)) : v = .bl i := by
  rcases h with h | ⟨p, vs, ds', rfl, e, h3, h4⟩
  · cases h; rfl
  · cases e
theorem DpP.str {i : Str} (h : DpP K Z H v (.str i)) : v = .str i := by
  rcases h with h | ⟨p, vs, ds', rfl, e, h3, h4⟩
  · cases h; rfl
  · cases e
theorem DpP.none (h : DpP K Z H v .none) : v = .non := by
  rcases h with h | ⟨p, vs, ds', rfl, e, h3, h4⟩
  · cases h; rfl
  · cases e
abbrev DpPs (K : PySem.W.Frag) (Z H : Hp) : List V → List D → Prop := Paired (DpP K Z H)
theorem DpPs.ext : ∀ {vs : List V} {ds : List D}, DpPs K Z H vs ds → Ext Z H Z' H' → DpPs K Z' H' vs ds
  | _, _, .nil, _ => .nil
  | _, _, .cons a b, e => .cons (a.ext e) (DpPs.ext b e)

/-- a value that has come: a new list of one's own, or a frozen value -/
def RepV (K : PySem.W.Frag) (H Z' H' : Hp) (v : V) (r : RV) : Prop :=
  if r.fr = true then ∃ p vs ds, v = .ref p ∧ r.d = .list ds ∧ H p = none ∧ Z' p = none ∧ H' p = some (.lst vs) ∧ DpAll K Z' vs ds else Dp K Z' v r.d
/-- .. freeze it -/
theorem RepV.frozen {r : RV} (h : RepV K H Z' H' v r) (e : Ext Z H Z' H') : ∃ Z2, Ext Z H Z2 H' ∧ Dp K Z2 v r.d := by
  unfold RepV at h
  split at h
  · obtain ⟨p, vs, ds, rfl, e1, h1, h2, h3, h4⟩ := h
    refine ⟨_, e.freeze (o := .lst vs) h1 h3 h2, ?_⟩
    rw [e1]
    exact .lst (.of upd_same) (dps_mono (same_upd h2) h4)
  · exact ⟨Z', e, h⟩
theorem RepV.peek {r : RV} (h : RepV K H Z' H' v r) : DpP K Z' H' v r.d := by
  unfold RepV at h
  split at h
  · obtain ⟨p, vs, ds, rfl, e1, h1, h2, h3, h4⟩ := h
    exact .inr ⟨p, vs, ds, rfl, e1, h3, h4⟩
  · exact .inl h

end
section
open PyProof.Rows
structure DictT0 (P : Program) (w : World) (h : Heap) (d : Addr) (xs : List (List Int × Addr × Value)) : Prop where
  ne : (d == sysModules) = false
  ex : ∃ o es ep, h.get? d = some o ∧ o.ExactDict ∧ o.data = .dict es ep ∧ es.toList = xs.map (entryOfKey (TK P w)) ∧ (xs.map (·.1)).Nodup
def DTO (P : Program) (w : World) (d : Addr) (xs : List (List Int × Addr × Value)) : HO := .ext fun h => DictT0 P w h d xs
end
section
variable {K : PySem.W.Frag} {H H' H1 H2 Z Z' Z1 Z2 H0 Z0 : Hp} {a p : Addr} {vs : List V} {v : V} {d : D} {ds : List D}
def ObOk (K : PySem.W.Frag) (H0 Z : Hp) (a : Addr) (o : HO) : ObK → Prop
  | .dkt ks => ∃ (P : Program) (w : World) (xs : List (List Int × Addr × Value)), o = DTO P w a xs ∧ xs.map (·.1) = ks ∧ ∀ x ∈ xs, SqT K Z x.2.1 (x.1.map V.int)
  | .newl ds => ∃ vs, o = .lst vs ∧ DpAll K Z vs ds ∧ ∀ (k : Nat) (es : List D), ds[k]? = some (.list es) → ∃ q ws, vs[k]? = some (.ref q) ∧ H0 q = none ∧ Z q = some (.lst ws) ∧ ws.length = es.length
theorem ObOk.mono {o : HO} {k : ObK} (h : ObOk K H0 Z a o k) (e : Same Z Z') : ObOk K H0 Z' a o k := by
  cases k with
  | dkt ks =>
    obtain ⟨P, w, xs, h1, h2, h3⟩ := h
    exact ⟨P, w, xs, h1, h2, fun x hx => seqT e (h3 x hx)⟩
  | newl ds =>
    obtain ⟨vs, h1, h2, h3⟩ := h
    exact ⟨vs, h1, dps_mono e h2, fun k es hk => let ⟨q, ws, a, b, c, d⟩ := h3 k es hk; ⟨q, ws, a, b, e _ _ c, d⟩⟩
def OwAt (env : Env) (j : Nat) : Prop := ∃ s, env[j]? = some s ∧ s.ow = true
theorem OwAt.own {env : Env} {j : Nat} {ds : List D} (h : env[j]? = some (.own ds)) : OwAt env j := ⟨_, h, rfl⟩
theorem OwAt.ob {env : Env} {j : Nat} {k : ObK} (h : env[j]? = some (.ob k)) : OwAt env j := ⟨_, h, rfl⟩
def SlOk (K : PySem.W.Frag) (H0 Z H : Hp) : Sl → Option V → Prop
  | .no, _ => True
  | .fz d, o => ∃ v, o = some v ∧ Dp K Z v d
  | .own ds, o => ∃ p vs, o = some (.ref p) ∧ H p = some (.lst vs) ∧ Z p = none ∧ H0 p = none ∧ DpAll K Z vs ds
  | .at a, o => o = some (.ref a)
  | .ob k, o => ∃ p x, o = some (.ref p) ∧ H p = some x ∧ Z p = none ∧ H0 p = none ∧ ObOk K H0 Z p x k
structure EnvOk (K : PySem.W.Frag) (H0 Z0 Z H : Hp) (σ : St) (env : Env) : Prop where
  sz : Same Z H
  s0 : Same H0 H
  z0 : Same Z0 Z
  no : ∀ a, H0 a ≠ none → Z0 a = none → Z a = none
  len : σ.length = env.length
  at_ : ∀ (i : Nat) (s : Sl), env[i]? = some s → ∃ o, σ[i]? = some o ∧ SlOk K H0 Z H s o
  sep : ∀ (i j : Nat) (p : Addr), i ≠ j → OwAt env i → OwAt env j → σ[i]? = some (some (.ref p)) → σ[j]? = some (some (.ref p)) → False
variable {σ : St} {env : Env}
theorem SlOk.ext {s : Sl} {o : Option V} (h : SlOk K H0 Z H s o) (e : Ext Z H Z' H') : SlOk K H0 Z' H' s o := by
  cases s with
  | no => exact True.intro
  | fz d => obtain ⟨v, h1, h2⟩ := h; exact ⟨v, h1, dp_mono e.zz h2⟩
  | own ds =>
    obtain ⟨p, vs, h1, h2, h3, h4, h5⟩ := h
    exact ⟨p, vs, h1, e.hh _ _ h2, e.no p (by rw [h2]; exact fun z => nomatch z) h3, h4, dps_mono e.zz h5⟩
  | «at» a => exact h
  | ob k =>
    obtain ⟨p, x, h1, h2, h3, h4, h5⟩ := h
    exact ⟨p, x, h1, e.hh _ _ h2, e.no p (by rw [h2]; exact fun z => nomatch z) h3, h4, h5.mono e.zz⟩
theorem EnvOk.ext (h : EnvOk K H0 Z0 Z H σ env) (e : Ext Z H Z' H') : EnvOk K H0 Z0 Z' H' σ env :=
  ⟨e.zh, h.s0.trans e.hh, h.z0.trans e.zz, fun a h1 h2 => e.no a (not_none h.s0 h1) (h.no a h1 h2), h.len, fun i s q => let ⟨o, h1, h2⟩ := h.at_ i s q; ⟨o, h1, h2.ext e⟩, h.sep⟩
/-- the entry told anew: the frozen part as it stands -/
theorem EnvOk.rebase (h : EnvOk K H0 Z0 Z H σ env) : EnvOk K H0 Z Z H σ env :=
  ⟨h.sz, h.s0, Same.refl _, fun _ _ e => e, h.len, h.at_, h.sep⟩
theorem EnvOk.unbase {env' : Env} {σ' : St} (h : EnvOk K H0 Z0 Z H σ env) (h' : EnvOk K H0 Z Z' H' σ' env') : EnvOk K H0 Z0 Z' H' σ' env' :=
  ⟨h'.sz, h'.s0, h.z0.trans h'.z0, fun a h1 h2 => h'.no a h1 (h.no a h1 h2), h'.len, h'.at_, h'.sep⟩
end
end PV

set_option Elab.async false
set_option linter.all false
set_option maxRecDepth 100000
namespace PV
open PySem PySem.Spec L2
set_option autoImplicit false
/-! ### readings -/
def tE (K : PySem.W.Frag) (f : Env → Res D) : TE := fun σ H Q => ∃ H0 Z0 Z env d, EnvOk K H0 Z0 Z H σ env ∧ f env = .ok d ∧ ∀ v H' Z', Ext Z H Z' H' → Dp K Z' v d → Q v H'
def tP (K : PySem.W.Frag) (f : Env → Res D) : TE := fun σ H Q => ∃ H0 Z0 Z env d, EnvOk K H0 Z0 Z H σ env ∧ f env = .ok d ∧ ∀ v H' Z', Ext Z H Z' H' → DpP K Z' H' v d → Q v H'
def tV (K : PySem.W.Frag) (f : Env → Res RV) : TE := fun σ H Q => ∃ H0 Z0 Z env r, EnvOk K H0 Z0 Z H σ env ∧ f env = .ok r ∧ ∀ v H' Z', Ext Z H Z' H' → RepV K H Z' H' v r → Q v H'
def tA (K : PySem.W.Frag) (f : Env → Res (List D)) : TA := fun σ H Q => ∃ H0 Z0 Z env ds, EnvOk K H0 Z0 Z H σ env ∧ f env = .ok ds ∧ ∀ vs H' Z', Ext Z H Z' H' → DpAll K Z' vs ds → Q vs H'
def tAp (K : PySem.W.Frag) (f : Env → Res (List D)) : TA := fun σ H Q => ∃ H0 Z0 Z env ds, EnvOk K H0 Z0 Z H σ env ∧ f env = .ok ds ∧ ∀ vs H' Z', Ext Z H Z' H' → DpPs K Z' H' vs ds → Q vs H'
def tT (K : PySem.W.Frag) (f : Env → Res Bool) : TT := fun σ H Q => ∃ H0 Z0 Z env b, EnvOk K H0 Z0 Z H σ env ∧ f env = .ok b ∧ ∀ H' Z', Ext Z H Z' H' → Q b H'
section
variable {X : Cx} {e a b : Expr} {es : List Expr} {pos p : Pos} {op : Operator} {t t' : TE} {fa fb f : Env → Res D} {fv : Env → Res RV} {K : PySem.W.Frag}
theorem pe_mono (h : PE X e t) (k : ∀ σ H Q, t' σ H Q → t σ H Q) : PE X e t' := ⟨fun pins s σ H Q I q => h.run pins s σ H Q I (k σ H Q q)⟩
theorem pt_mono {c c' : TT} (h : PT X e c) (k : ∀ σ H Q, c' σ H Q → c σ H Q) : PT X e c' := ⟨fun pins s σ H Q I q => h.run pins s σ H Q I (k σ H Q q)⟩
theorem pw_mono {c c' : TT} (h : PW X e c) (k : ∀ σ H Q, c' σ H Q → c σ H Q) : PW X e c' := ⟨fun wh pins s σ H Q I q => h.run wh pins s σ H Q I (k σ H Q q)⟩
theorem pa_mono {c c' : TA} (h : PA X es c) (k : ∀ σ H Q, c' σ H Q → c σ H Q) : PA X es c' := ⟨fun wh pins s σ H Q I q => h.run wh pins s σ H Q I (k σ H Q q)⟩
theorem ps_mono {st : Stmt} {c c' : TS} (h : PS X st c) (k : ∀ D σ H, c' D σ H → c D σ H) : PS X st c' := ⟨fun pins s σ H D I q => h.run pins s σ H D I (k D σ H q)⟩
theorem pss_mono {st : List Stmt} {c c' : TS} (h : PSs X st c) (k : ∀ D σ H, c' D σ H → c D σ H) : PSs X st c' := ⟨fun pins s σ H D I q => h.run pins s σ H D I (k D σ H q)⟩

/-! ### from one reading to another -/
def eV (f : Env → Res RV) : Env → Res D := fun env => (f env).bind fun r => .ok r.d
def eE (f : Env → Res D) : Env → Res RV := fun env => (f env).bind fun d => .ok ⟨d, false⟩
theorem E_v (h : PE X e (tV X.K fv)) : PE X e (tE X.K (eV fv)) := pe_mono h fun σ H Q ⟨H0, Z0, Z, env, d, hE, hf, q⟩ => by
  obtain ⟨r, h1, h2⟩ := Res.bind_eq hf
  cases h2
  exact ⟨H0, Z0, Z, env, r, hE, h1, fun v H' Z' e hr => let ⟨Z2, e2, h2⟩ := hr.frozen e; q v H' Z2 e2 h2⟩
theorem P_v (h : PE X e (tV X.K fv)) : PE X e (tP X.K (eV fv)) := pe_mono h fun σ H Q ⟨H0, Z0, Z, env, d, hE, hf, q⟩ => by
  obtain ⟨r, h1, h2⟩ := Res.bind_eq hf
  cases h2
  exact ⟨H0, Z0, Z, env, r, hE, h1, fun v H' Z' e hr => q v H' Z' e hr.peek⟩
theorem P_e (h : PE X e (tE X.K f)) : PE X e (tP X.K f) := pe_mono h fun σ H Q ⟨H0, Z0, Z, env, d, hE, hf, q⟩ => ⟨H0, Z0, Z, env, d, hE, hf, fun v H' Z' e hr => q v H' Z' e (.inl hr)⟩
theorem V_e (h : PE X e (tE X.K f)) : PE X e (tV X.K (eE f)) := pe_mono h fun σ H Q ⟨H0, Z0, Z, env, d, hE, hf, q⟩ => by
  obtain ⟨r, h1, h2⟩ := Res.bind_eq hf
  cases h2
  exact ⟨H0, Z0, Z, env, r, hE, h1, fun v H' Z' e hr => q v H' Z' e hr⟩

/-! ### names, constants -/
def eVar (i : Nat) : Env → Res D := fun env => match env[i]? with
  | some (.fz d) => .ok d
  | _ => .bad
def ePk (i : Nat) : Env → Res D := fun env => match env[i]? with
  | some (.fz d) => .ok d
  | some (.own ds) => .ok (.list ds)
  | _ => .bad
def eC (d : D) : Env → Res D := fun _ => .ok d
theorem eVar_eq {i : Nat} {env : Env} {d : D} (h : eVar i env = .ok d) : env[i]? = some (.fz d) := by
  unfold eVar at h
  split at h
  · rename_i x e; cases h; exact e
  · cases h
theorem ePk_eq {i : Nat} {env : Env} {d : D} (h : ePk i env = .ok d) : env[i]? = some (.fz d) ∨ ∃ ds, env[i]? = some (.own ds) ∧ d = .list ds := by
  unfold ePk at h
  split at h
  · rename_i x e; cases h; exact .inl e
  · rename_i x e; cases h; exact .inr ⟨_, e, rfl⟩
  · cases h
theorem E_var (i : Nat) {x : Str} (hN : X.N[i]? = some x := by rfl) (hv : Vis X.env.scope x := by first | exact Or.inl rfl | exact Or.inr (Or.inl rfl) | exact Or.inr (Or.inr rfl)) (hd : (x == ("__debug__" : Str)) = false := by decide)
    (hcd : (x == ("__classdict__" : Str)) = false := by decide) : PE X (.Name x pos) (tE X.K (eVar i)) := pe_mono (pe_var hN hv hd hcd) fun σ H Q ⟨H0, Z0, Z, env, d, hE, hf, q⟩ => by
  obtain ⟨o, h1, v, h2, h3⟩ := hE.at_ i _ (eVar_eq hf)
  subst h2
  exact ⟨v, h1, q v H Z (.refl hE.sz) h3⟩
theorem P_var (i : Nat) {x : Str} (hN : X.N[i]? = some x := by rfl) (hv : Vis X.env.scope x := by first | exact Or.inl rfl | exact Or.inr (Or.inl rfl) | exact Or.inr (Or.inr rfl)) (hd : (x == ("__debug__" : Str)) = false := by decide)
    (hcd : (x == ("__classdict__" : Str)) = false := by decide) : PE X (.Name x pos) (tP X.K (ePk i)) := pe_mono (pe_var hN hv hd hcd) fun σ H Q ⟨H0, Z0, Z, env, d, hE, hf, q⟩ => by
  rcases ePk_eq hf with he | ⟨ds, he, rfl⟩
  · obtain ⟨o, h1, v, h2, h3⟩ := hE.at_ i _ he
    subst h2
    exact ⟨v, h1, q v H Z (.refl hE.sz) (.inl h3)⟩
  · obtain ⟨o, h1, p, vs, h2, h3, h4, h5, h6⟩ := hE.at_ i _ he
    subst h2
    exact ⟨_, h1, q _ H Z (.refl hE.sz) (.inr ⟨p, vs, ds, rfl, rfl, h3, h6⟩)⟩
theorem E_c {v : V} {d : D} (h : PE X e (tC v)) (hd : ∀ Z, Dp X.K Z v d) : PE X e (tE X.K (eC d)) := pe_mono h fun σ H Q ⟨H0, Z0, Z, env, d', hE, hf, q⟩ => by
  cases hf
  exact q v H Z (.refl hE.sz) (hd Z)
theorem E_int {i : Int} {j} : PE X (.Constant (.int i) j pos) (tE X.K (eC (.int i))) := E_c pe_int fun _ => .int i
theorem E_bl {i : Bool} {j} : PE X (.Constant (.bool i) j pos) (tE X.K (eC (.bool i))) := E_c pe_bl fun _ => .bl i
theorem E_non {j} : PE X (.Constant .none j pos) (tE X.K (eC .none)) := E_c pe_non fun _ => .non
theorem E_str {i : Str} {j} : PE X (.Constant (.str i) j pos) (tE X.K (eC (.str i))) := E_c pe_str fun _ => .str i

/-! ### two values -/
def eOp2 {α : Type} (g : D → D → Res α) (fa fb : Env → Res D) : Env → Res α := fun env => (fa env).bind fun x => (fb env).bind fun y => g x y
def eOp1 {α : Type} (g : D → Res α) (fa : Env → Res D) : Env → Res α := fun env => (fa env).bind g
/-- what an operator's rule asks, over deep values -/
def OpD (K : PySem.W.Frag) (r : R2) (g : D → D → Res D) : Prop := ∀ (Z H : Hp) (v w : V) (x y d : D) (Q : VK), Same Z H → DpP K Z H v x → DpP K Z H w y → g x y = .ok d → (∀ u H' Z', Ext Z H Z' H' → Dp K Z' u d → Q u H') → r v w H Q
def OpV (K : PySem.W.Frag) (r : R2) (g : D → D → Res RV) : Prop := ∀ (Z H : Hp) (v w : V) (x y : D) (d : RV) (Q : VK), Same Z H → DpP K Z H v x → DpP K Z H w y → g x y = .ok d → (∀ u H' Z', Ext Z H Z' H' → RepV K H Z' H' u d → Q u H') → r v w H Q
theorem op2_red {ta tb : TE} {r : R2} {g : D → D → Res D} (hg : OpD K r g) (ha : ∀ σ H Q, tP K fa σ H Q → ta σ H Q) (hb : ∀ σ H Q, tP K fb σ H Q → tb σ H Q) (σ : L2.St) (H : Hp) (Q : VK) (h : tE K (eOp2 g fa fb) σ H Q) : tOp r ta tb σ H Q := by
  obtain ⟨H0, Z0, Z, env, d, hE, hf, q⟩ := h
  obtain ⟨x, h1, hf⟩ := Res.bind_eq hf
  obtain ⟨y, h2, hf⟩ := Res.bind_eq hf
  refine ha _ _ _ ⟨H0, Z0, Z, env, x, hE, h1, fun v H1 Z1 e1 d1 => hb _ _ _ ⟨H0, Z0, Z1, env, y, hE.ext e1, h2, fun w H2 Z2 e2 d2 => ?_⟩⟩
  exact hg Z2 H2 v w x y d Q e2.zh (d1.ext e2) d2 hf fun u H' Z' e3 h3 => q u H' Z' ((e1.trans e2).trans e3) h3
theorem RepV.pre {r : RV} {H Hm Z' H' : Hp} {v : V} (h : RepV K Hm Z' H' v r) (s : Same H Hm) : RepV K H Z' H' v r := by
  unfold RepV at h ⊢
  split at h
  · obtain ⟨p, vs, ds, h1, h2, h3, h4⟩ := h
    rename_i hc
    rw [if_pos hc]
    exact ⟨p, vs, ds, h1, h2, s.free h3, h4⟩
  · rename_i hc
    rw [if_neg hc]
    exact h
theorem opV_red {ta tb : TE} {r : R2} {g : D → D → Res RV} (hg : OpV K r g) (ha : ∀ σ H Q, tP K fa σ H Q → ta σ H Q) (hb : ∀ σ H Q, tP K fb σ H Q → tb σ H Q) (σ : L2.St) (H : Hp) (Q : VK) (h : tV K (eOp2 g fa fb) σ H Q) : tOp r ta tb σ H Q := by
  obtain ⟨H0, Z0, Z, env, d, hE, hf, q⟩ := h
  obtain ⟨x, h1, hf⟩ := Res.bind_eq hf
  obtain ⟨y, h2, hf⟩ := Res.bind_eq hf
  refine ha _ _ _ ⟨H0, Z0, Z, env, x, hE, h1, fun v H1 Z1 e1 d1 => hb _ _ _ ⟨H0, Z0, Z1, env, y, hE.ext e1, h2, fun w H2 Z2 e2 d2 => ?_⟩⟩
  exact hg Z2 H2 v w x y d Q e2.zh (d1.ext e2) d2 hf fun u H' Z' e3 h3 => q u H' Z' ((e1.trans e2).trans e3) (h3.pre ((e1.trans e2).hh))
theorem E_op2 {r : R2} {g : D → D → Res D} (ho : OpR X (binaryOp op) r) (hg : OpD X.K r g) (ha : PE X a (tP X.K fa)) (hb : PE X b (tP X.K fb)) : PE X (.BinOp a op b pos) (tE X.K (eOp2 g fa fb)) :=
  pe_mono (pe_op ho ha hb) (op2_red hg (fun _ _ _ h => h) fun _ _ _ h => h)
theorem V_op2 {r : R2} {g : D → D → Res RV} (ho : OpR X (binaryOp op) r) (hg : OpV X.K r g) (ha : PE X a (tP X.K fa)) (hb : PE X b (tP X.K fb)) : PE X (.BinOp a op b pos) (tV X.K (eOp2 g fa fb)) :=
  pe_mono (pe_op ho ha hb) (opV_red hg (fun _ _ _ h => h) fun _ _ _ h => h)
theorem E_cmp {op : CmpOp} {r : R2} {g : D → D → Res D} (ho : OpR X (compareOp op) r) (hg : OpD X.K r g) (ha : PE X a (tP X.K fa)) (hb : PE X b (tP X.K fb)) (hm : behindInMarks op b = false) : PE X (.Compare a [op] [b] pos) (tE X.K (eOp2 g fa fb)) :=
  pe_mono (pe_cmpR ho ha hb hm) (op2_red hg (fun _ _ _ h => h) fun _ _ _ h => h)
/-- a bool's truth -/
def toB (d : D) : Res Bool := match d with
  | .bool b => .ok b
  | _ => .bad
def eB (f : Env → Res D) : Env → Res Bool := fun env => (f env).bind toB
theorem toB_eq {d : D} {b : Bool} (h : toB d = .ok b) : d = .bool b := by
  unfold toB at h
  split at h
  · cases h; rfl
  · cases h
theorem T_cmp {op : CmpOp} {r : R2} {g : D → D → Res D} (ho : OpR X (compareOp op) r) (hg : OpD X.K r g) (ha : PE X a (tP X.K fa)) (hb : PE X b (tP X.K fb)) (hm : behindInMarks op b = false) : PT X (.Compare a [op] [b] pos) (tT X.K (eB (eOp2 g fa fb))) :=
  pt_mono (pt_cmpR ho ha hb hm) fun σ H Q ⟨H0, Z0, Z, env, b, hE, hf, q⟩ => by
    obtain ⟨d, h1, h2⟩ := Res.bind_eq hf
    have := toB_eq h2
    subst this
    refine op2_red hg (fun _ _ _ h => h) (fun _ _ _ h => h) σ H _ ⟨H0, Z0, Z, env, _, hE, h1, fun v H' Z' e hd => ?_⟩
    cases hd
    exact ⟨b, rfl, q H' Z' e⟩
/-- a bool as a test -/
theorem T_val (h : PE X e (tE X.K f)) (he : ∀ whole, isTrue e X.env whole = (do let v ← whole; standAt e.pos; holding [v] (truthy v)) := by intro _; rfl) : PT X e (tT X.K (eB f)) :=
  pt_mono (pt_val h he) fun σ H Q ⟨H0, Z0, Z, env, b, hE, hf, q⟩ => by
    obtain ⟨d, h1, h2⟩ := Res.bind_eq hf
    have := toB_eq h2
    subst this
    refine ⟨H0, Z0, Z, env, _, hE, h1, fun v H' Z' e hd => ?_⟩
    cases hd
    exact ⟨b, rfl, q H' Z' e⟩
/-- any value's truth -/
def truD (d : D) : Res Bool := match d with
  | .none => .ok false
  | .bool b => .ok b
  | .int i => .ok (i != 0)
  | .list xs => .ok (!xs.isEmpty)
  | .tuple xs => .ok (!xs.isEmpty)
  | _ => .bad
def eTr (f : Env → Res D) : Env → Res Bool := fun env => (f env).bind truD
theorem dps_empty {Z : Hp} {vs : List V} {ds : List D} (h : DpAll K Z vs ds) : vs.isEmpty = ds.isEmpty := by cases h <;> rfl
theorem T_tru (h : PE X e (tP X.K f)) (he : ∀ whole, isTrue e X.env whole = (do let v ← whole; standAt e.pos; holding [v] (truthy v)) := by intro _; rfl) : PT X e (tT X.K (eTr f)) :=
  pt_mono (pt_truth h he) fun σ H Q ⟨H0, Z0, Z, env, b, hE, hf, q⟩ => by
    obtain ⟨d, h1, h2⟩ := Res.bind_eq hf
    refine ⟨H0, Z0, Z, env, _, hE, h1, fun v H' Z' e hd => ?_⟩
    unfold truD at h2
    split at h2 <;> (try cases h2)
    · have := hd.none; subst this; exact ⟨false, rfl, q H' Z' e⟩
    · have := hd.bool; subst this; exact ⟨_, rfl, q H' Z' e⟩
    · have := hd.int; subst this; exact ⟨_, rfl, q H' Z' e⟩
    · obtain ⟨p, vs, rfl, h3, h4⟩ := hd.list e.zh
      exact ⟨_, .inl ⟨vs, h3, by rw [dps_empty h4]⟩, q H' Z' e⟩
    · obtain ⟨p, vs, rfl, h3, h4⟩ := hd.tup e.zh
      exact ⟨_, .inr (.inl ⟨vs, h3, by rw [dps_empty h4]⟩), q H' Z' e⟩
/-! ### and, or, not, if -/
def bAnd (f g : Env → Res Bool) : Env → Res Bool := fun env => (f env).bind fun b => if b = true then g env else .ok false
def bOr (f g : Env → Res Bool) : Env → Res Bool := fun env => (f env).bind fun b => if b = true then .ok true else g env
def bNot (f : Env → Res Bool) : Env → Res Bool := fun env => (f env).bind fun b => .ok (!b)
variable {ta tb : Env → Res Bool} {rest : List Expr}
theorem W_and1 (ha : PT X a (tT X.K ta)) : PW X (.BoolOp .And [a] pos) (tT X.K ta) := pw_and1 ha
theorem W_or1 (ha : PT X a (tT X.K ta)) : PW X (.BoolOp .Or [a] pos) (tT X.K ta) := pw_or1 ha
theorem W_and (ha : PT X a (tT X.K ta)) (hb : PW X (.BoolOp .And (b :: rest) pos) (tT X.K tb)) : PW X (.BoolOp .And (a :: b :: rest) pos) (tT X.K (bAnd ta tb)) := pw_mono (pw_and ha hb) fun σ H Q ⟨H0, Z0, Z, env, r, hE, hf, q⟩ => by
  obtain ⟨c, h1, h2⟩ := Res.bind_eq hf
  refine ⟨H0, Z0, Z, env, c, hE, h1, fun H1 Z1 e1 => ?_⟩
  cases c with
  | true =>
    rw [if_pos rfl] at h2 ⊢
    exact ⟨H0, Z0, Z1, env, r, hE.ext e1, h2, fun H2 Z2 e2 => q H2 Z2 (e1.trans e2)⟩
  | false =>
    rw [if_neg Bool.false_ne_true] at h2 ⊢
    cases h2
    exact q H1 Z1 e1
theorem W_or (ha : PT X a (tT X.K ta)) (hb : PW X (.BoolOp .Or (b :: rest) pos) (tT X.K tb)) : PW X (.BoolOp .Or (a :: b :: rest) pos) (tT X.K (bOr ta tb)) := pw_mono (pw_or ha hb) fun σ H Q ⟨H0, Z0, Z, env, r, hE, hf, q⟩ => by
  obtain ⟨c, h1, h2⟩ := Res.bind_eq hf
  refine ⟨H0, Z0, Z, env, c, hE, h1, fun H1 Z1 e1 => ?_⟩
  cases c with
  | true =>
    rw [if_pos rfl] at h2 ⊢
    cases h2
    exact q H1 Z1 e1
  | false =>
    rw [if_neg Bool.false_ne_true] at h2 ⊢
    exact ⟨H0, Z0, Z1, env, r, hE.ext e1, h2, fun H2 Z2 e2 => q H2 Z2 (e1.trans e2)⟩
theorem T_w (h : PW X e (tT X.K ta)) : PT X e (tT X.K ta) := h.pt
theorem T_not (ha : PT X a (tT X.K ta)) : PT X (.UnaryOp .Not a pos) (tT X.K (bNot ta)) := pt_mono (pt_not ha) fun σ H Q ⟨H0, Z0, Z, env, r, hE, hf, q⟩ => by
  obtain ⟨c, h1, h2⟩ := Res.bind_eq hf
  cases h2
  exact ⟨H0, Z0, Z, env, c, hE, h1, fun H1 Z1 e1 => q H1 Z1 e1⟩
/-- .. as values -/
def eAnd (f g : Env → Res D) : Env → Res D := fun env => ((f env).bind toB).bind fun b => if b = true then g env else .ok (.bool false)
def eOr (f g : Env → Res D) : Env → Res D := fun env => ((f env).bind toB).bind fun b => if b = true then .ok (.bool true) else g env
def eNot (f : Env → Res D) : Env → Res D := fun env => ((f env).bind toB).bind fun b => .ok (.bool (!b))
theorem E_one {o : BoolOp} (h : PE X a (tE X.K f)) : PE X (.BoolOp o [a] pos) (tE X.K f) := pe_one h
theorem E_and (ha : PE X a (tE X.K fa)) (hb : PE X (.BoolOp .And (b :: rest) pos) (tE X.K fb)) : PE X (.BoolOp .And (a :: b :: rest) pos) (tE X.K (eAnd fa fb)) := pe_mono (pe_and ha hb) fun σ H Q ⟨H0, Z0, Z, env, r, hE, hf, q⟩ => by
  obtain ⟨c, h1, h2⟩ := Res.bind_eq hf
  obtain ⟨d, h0, h1⟩ := Res.bind_eq h1
  have := toB_eq h1
  subst this
  refine ⟨H0, Z0, Z, env, _, hE, h0, fun v H1 Z1 e1 hd => ?_⟩
  cases hd
  refine ⟨c, rfl, ?_⟩
  cases c with
  | true =>
    rw [if_pos rfl] at h2 ⊢
    exact ⟨H0, Z0, Z1, env, r, hE.ext e1, h2, fun v H2 Z2 e2 => q v H2 Z2 (e1.trans e2)⟩
  | false =>
    rw [if_neg Bool.false_ne_true] at h2 ⊢
    cases h2
    exact q _ H1 Z1 e1 (.bl false)
theorem E_or (ha : PE X a (tE X.K fa)) (hb : PE X (.BoolOp .Or (b :: rest) pos) (tE X.K fb)) : PE X (.BoolOp .Or (a :: b :: rest) pos) (tE X.K (eOr fa fb)) := pe_mono (pe_or ha hb) fun σ H Q ⟨H0, Z0, Z, env, r, hE, hf, q⟩ => by
  obtain ⟨c, h1, h2⟩ := Res.bind_eq hf
  obtain ⟨d, h0, h1⟩ := Res.bind_eq h1
  have := toB_eq h1
  subst this
  refine ⟨H0, Z0, Z, env, _, hE, h0, fun v H1 Z1 e1 hd => ?_⟩
  cases hd
  refine ⟨c, rfl, ?_⟩
  cases c with
  | true =>
    rw [if_pos rfl] at h2 ⊢
    cases h2
    exact q _ H1 Z1 e1 (.bl true)
  | false =>
    rw [if_neg Bool.false_ne_true] at h2 ⊢
    exact ⟨H0, Z0, Z1, env, r, hE.ext e1, h2, fun v H2 Z2 e2 => q v H2 Z2 (e1.trans e2)⟩
theorem E_not (ha : PE X a (tE X.K fa)) : PE X (.UnaryOp .Not a pos) (tE X.K (eNot fa)) := pe_mono (pe_not ha) fun σ H Q ⟨H0, Z0, Z, env, r, hE, hf, q⟩ => by
  obtain ⟨c, h1, h2⟩ := Res.bind_eq hf
  obtain ⟨d, h0, h1⟩ := Res.bind_eq h1
  have := toB_eq h1
  subst this
  cases h2
  refine ⟨H0, Z0, Z, env, _, hE, h0, fun v H1 Z1 e1 hd => ?_⟩
  cases hd
  exact ⟨c, rfl, q _ H1 Z1 e1 (.bl _)⟩
def eIf {α : Type} (c : Env → Res Bool) (f g : Env → Res α) : Env → Res α := fun env => (c env).bind fun b => if b = true then f env else g env
theorem E_if {c : Expr} {fc : Env → Res Bool} (hc : PT X c (tT X.K fc)) (ha : PE X a (tE X.K fa)) (hb : PE X b (tE X.K fb)) : PE X (.IfExp c a b pos) (tE X.K (eIf fc fa fb)) := pe_mono (pe_ifExp hc ha hb) fun σ H Q ⟨H0, Z0, Z, env, r, hE, hf, q⟩ => by
  obtain ⟨c, h1, h2⟩ := Res.bind_eq hf
  refine ⟨H0, Z0, Z, env, c, hE, h1, fun H1 Z1 e1 => ?_⟩
  cases c with
  | true =>
    rw [if_pos rfl] at h2 ⊢
    exact ⟨H0, Z0, Z1, env, r, hE.ext e1, h2, fun v H2 Z2 e2 => q v H2 Z2 (e1.trans e2)⟩
  | false =>
    rw [if_neg Bool.false_ne_true] at h2 ⊢
    exact ⟨H0, Z0, Z1, env, r, hE.ext e1, h2, fun v H2 Z2 e2 => q v H2 Z2 (e1.trans e2)⟩
theorem V_if {c : Expr} {fc : Env → Res Bool} {fv gv : Env → Res RV} (hc : PT X c (tT X.K fc)) (ha : PE X a (tV X.K fv)) (hb : PE X b (tV X.K gv)) : PE X (.IfExp c a b pos) (tV X.K (eIf fc fv gv)) := pe_mono (pe_ifExp hc ha hb) fun σ H Q ⟨H0, Z0, Z, env, r, hE, hf, q⟩ => by
  obtain ⟨c, h1, h2⟩ := Res.bind_eq hf
  refine ⟨H0, Z0, Z, env, c, hE, h1, fun H1 Z1 e1 => ?_⟩
  cases c with
  | true =>
    rw [if_pos rfl] at h2 ⊢
    exact ⟨H0, Z0, Z1, env, r, hE.ext e1, h2, fun v H2 Z2 e2 h3 => q v H2 Z2 (e1.trans e2) (h3.pre e1.hh)⟩
  | false =>
    rw [if_neg Bool.false_ne_true] at h2 ⊢
    exact ⟨H0, Z0, Z1, env, r, hE.ext e1, h2, fun v H2 Z2 e2 h3 => q v H2 Z2 (e1.trans e2) (h3.pre e1.hh)⟩
theorem P_if {c : Expr} {fc : Env → Res Bool} (hc : PT X c (tT X.K fc)) (ha : PE X a (tP X.K fa)) (hb : PE X b (tP X.K fb)) : PE X (.IfExp c a b pos) (tP X.K (eIf fc fa fb)) := pe_mono (pe_ifExp hc ha hb) fun σ H Q ⟨H0, Z0, Z, env, r, hE, hf, q⟩ => by
  obtain ⟨c, h1, h2⟩ := Res.bind_eq hf
  refine ⟨H0, Z0, Z, env, c, hE, h1, fun H1 Z1 e1 => ?_⟩
  cases c with
  | true =>
    rw [if_pos rfl] at h2 ⊢
    exact ⟨H0, Z0, Z1, env, r, hE.ext e1, h2, fun v H2 Z2 e2 => q v H2 Z2 (e1.trans e2)⟩
  | false =>
    rw [if_neg Bool.false_ne_true] at h2 ⊢
    exact ⟨H0, Z0, Z1, env, r, hE.ext e1, h2, fun v H2 Z2 e2 => q v H2 Z2 (e1.trans e2)⟩
/-! ### arguments, displays -/
def aNil : Env → Res (List D) := fun _ => .ok []
def aCons (f : Env → Res D) (g : Env → Res (List D)) : Env → Res (List D) := fun env => (f env).bind fun d => (g env).bind fun ds => .ok (d :: ds)
variable {fs : Env → Res (List D)}
theorem A_nil : PA X [] (tA X.K aNil) := pa_mono pa_nil fun σ H Q ⟨H0, Z0, Z, env, r, hE, hf, q⟩ => by
  cases hf
  exact q [] H Z (.refl hE.sz) .nil
theorem Ap_nil : PA X [] (tAp X.K aNil) := pa_mono pa_nil fun σ H Q ⟨H0, Z0, Z, env, r, hE, hf, q⟩ => by
  cases hf
  exact q [] H Z (.refl hE.sz) .nil
theorem A_cons (ha : PE X e (tE X.K f)) (hr : PA X es (tA X.K fs)) (hs : starEach (e :: es) X.env = (false, eval e X.env) :: starEach es X.env := by rfl) : PA X (e :: es) (tA X.K (aCons f fs)) := pa_mono (pa_cons ha hr hs) fun σ H Q ⟨H0, Z0, Z, env, r, hE, hf, q⟩ => by
  obtain ⟨d, h1, h0⟩ := Res.bind_eq hf
  obtain ⟨ds, h2, h3⟩ := Res.bind_eq h0
  cases h3
  exact ⟨H0, Z0, Z, env, d, hE, h1, fun v H1 Z1 e1 d1 => ⟨H0, Z0, Z1, env, ds, hE.ext e1, h2, fun vs H2 Z2 e2 d2 => q _ H2 Z2 (e1.trans e2) (.cons (dp_mono e2.zz d1) d2)⟩⟩
theorem Ap_cons (ha : PE X e (tP X.K f)) (hr : PA X es (tAp X.K fs)) (hs : starEach (e :: es) X.env = (false, eval e X.env) :: starEach es X.env := by rfl) : PA X (e :: es) (tAp X.K (aCons f fs)) := pa_mono (pa_cons ha hr hs) fun σ H Q ⟨H0, Z0, Z, env, r, hE, hf, q⟩ => by
  obtain ⟨d, h1, h0⟩ := Res.bind_eq hf
  obtain ⟨ds, h2, h3⟩ := Res.bind_eq h0
  cases h3
  exact ⟨H0, Z0, Z, env, d, hE, h1, fun v H1 Z1 e1 d1 => ⟨H0, Z0, Z1, env, ds, hE.ext e1, h2, fun vs H2 Z2 e2 d2 => q _ H2 Z2 (e1.trans e2) (.cons (d1.ext e2) d2)⟩⟩
def eTup (fs : Env → Res (List D)) : Env → Res D := fun env => (fs env).bind fun ds => if ds.length < 1000000 then .ok (.tuple ds) else .bad
def eLst (fs : Env → Res (List D)) : Env → Res RV := fun env => (fs env).bind fun ds => if ds.length < 1000000 then .ok ⟨.list ds, true⟩ else .bad
theorem lim_ok {n : Nat} (h : n < 1000000) : n < sizeLine := by rw [sizeLine_eq]; omega
theorem ite_ok {α : Type} {c : Prop} [Decidable c] {x : Res α} {y : α} (h : (if c then x else .bad) = .ok y) : c ∧ x = .ok y := by
  by_cases hc : c
  · rw [if_pos hc] at h; exact ⟨hc, h⟩
  · rw [if_neg hc] at h; cases h
theorem E_tup {x1} (h : PA X es (tA X.K fs)) : PE X (.Tuple es x1 pos) (tE X.K (eTup fs)) := pe_mono (pe_tup h) fun σ H Q ⟨H0, Z0, Z, env, r, hE, hf, q⟩ => by
  obtain ⟨ds, h1, h0⟩ := Res.bind_eq hf
  obtain ⟨h2, h3⟩ := ite_ok h0
  cases h3
  refine ⟨H0, Z0, Z, env, ds, hE, h1, fun vs H1 Z1 e1 d1 => ⟨?_, fun p hp => ?_⟩⟩
  · rw [dps_length d1]; exact Nat.le_of_lt (lim_ok h2)
  · exact q _ _ _ (e1.trans (Ext.new e1.zh hp)) (.tup (.of upd_same) (dps_mono (same_upd (e1.zh.free hp)) d1))
theorem V_lst (h : PA X es (tA X.K fs)) : PE X (.List es pos) (tV X.K (eLst fs)) := pe_mono (pe_lst h) fun σ H Q ⟨H0, Z0, Z, env, r, hE, hf, q⟩ => by
  obtain ⟨ds, h1, h0⟩ := Res.bind_eq hf
  obtain ⟨h2, h3⟩ := ite_ok h0
  cases h3
  refine ⟨H0, Z0, Z, env, ds, hE, h1, fun vs H1 Z1 e1 d1 => ⟨?_, fun p hp => ?_⟩⟩
  · rw [dps_length d1]; exact Nat.le_of_lt (lim_ok h2)
  · exact q _ _ _ (e1.trans (Ext.made e1.zh hp)) ⟨p, vs, ds, rfl, rfl, e1.hh.free hp, e1.zh.free hp, upd_same, d1⟩
end
end PV

set_option Elab.async false
set_option linter.all false
set_option maxRecDepth 100000
namespace PV
open PySem PySem.Spec L2
set_option autoImplicit false
/-! ### rules of the library over data -/
section
variable {X : Cx}
theorem op_catG : OpR X (binaryOp .Add) (fun x y H Q => ∃ l b xs zs, x = .ref l ∧ y = .ref b ∧ SqL X.K H l xs ∧ SqL X.K H b zs ∧ xs.length + zs.length ≤ sizeLine ∧ ∀ p, H p = none → Q (.ref p) (upd H p (.lst (xs ++ zs)))) := by
  intro pins s σ H x y v u Q I rx ry h
  obtain ⟨l, b, xs, zs, rfl, rfl, hH, hB, hz, q⟩ := h
  cases rx
  cases ry
  obtain ⟨its, r, ⟨⟨cls, dd, data, sl⟩, n, e, e1, e2, e3⟩, z1⟩ := I.list hH
  obtain ⟨its2, r2, ⟨⟨cls', dd', data', sl'⟩, n2, f, f1, f2, f3⟩, z2⟩ := I.list hB
  simp only at e1 e2 e3 f1 f2 f3
  subst e1 e2 e3 f1 f2 f3
  have h1 := r.length
  have h2 := r2.length
  refine concat_meets ⟨_, e, rfl⟩ ⟨_, f, rfl⟩ noFill_list_add seq_list_add PySem.F.slot_list_add PySem.F.entry_list_add (PySem.F.args_list_add_2 _ _) (PyProof.Rows.list_addW l b its.toArray its2.toArray n n2 none none sl sl' (by simp; omega)) ⟨e, f, ?_⟩
  have ea : its.toArray ++ its2.toArray = (its ++ its2).toArray := by simp
  rw [ea]
  exact ⟨.ref _, _, I.lnew (t' := s.toks) (r.append r2) (by rw [List.length_append]; omega), rfl, q _ I.fresh⟩
def ltOk (d e : D) : Bool := PySem.W.alike d e && (match d with | .none => false | _ => true) && decide (min d.depth e.depth ≤ 64)
def rOrd (K : PySem.W.Frag) (g : D → D → Bool) : R2 := fun x y H Q => ∃ d e, Dp K H x d ∧ Dp K H y e ∧ ltOk d e = true ∧ Q (.bl (g d e)) H
theorem ltOk_ok {d e : D} (h : ltOk d e = true) : PySem.W.alike d e = true ∧ d ≠ .none ∧ min d.depth e.depth ≤ 64 := by
  unfold ltOk at h
  simp only [Bool.and_eq_true, decide_eq_true_eq] at h
  refine ⟨h.1.1, fun z => ?_, h.2⟩
  subst z
  exact Bool.noConfusion h.1.2
theorem op_ltD (hu : X.A.units + 64 < cLine) : OpR X (compareOp .Lt) (rOrd X.K fun d e => PySem.W.dataLt d e) := by
  intro pins s σ H x y v u Q I rx ry h
  obtain ⟨d, e, hd, he, hk, q⟩ := h
  obtain ⟨as, r1⟩ := Dp.reads I d x v hd rx
  obtain ⟨bs, r2⟩ := Dp.reads I e y u he ry
  obtain ⟨k1, k2, k3⟩ := ltOk_ok hk
  exact PySem.W.lt_data r1 r2 k1 k2 (by omega) ⟨.bl _, H, I, rfl, q⟩
theorem op_gtD (hu : X.A.units + 64 < cLine) : OpR X (compareOp .Gt) (rOrd X.K fun d e => PySem.W.dataLt e d) := by
  intro pins s σ H x y v u Q I rx ry h
  obtain ⟨d, e, hd, he, hk, q⟩ := h
  obtain ⟨as, r1⟩ := Dp.reads I d x v hd rx
  obtain ⟨bs, r2⟩ := Dp.reads I e y u he ry
  obtain ⟨k1, k2, k3⟩ := ltOk_ok hk
  exact PySem.W.gt_data r1 r2 k1 k2 (by omega) ⟨.bl _, H, I, rfl, q⟩
theorem op_leD (hu : X.A.units + 64 < cLine) : OpR X (compareOp .LtE) (rOrd X.K fun d e => !PySem.W.dataLt e d) := by
  intro pins s σ H x y v u Q I rx ry h
  obtain ⟨d, e, hd, he, hk, q⟩ := h
  obtain ⟨as, r1⟩ := Dp.reads I d x v hd rx
  obtain ⟨bs, r2⟩ := Dp.reads I e y u he ry
  obtain ⟨k1, k2, k3⟩ := ltOk_ok hk
  exact PySem.W.le_data r1 r2 k1 k2 (by omega) ⟨.bl _, H, I, rfl, q⟩
theorem op_geD (hu : X.A.units + 64 < cLine) : OpR X (compareOp .GtE) (rOrd X.K fun d e => !PySem.W.dataLt d e) := by
  intro pins s σ H x y v u Q I rx ry h
  obtain ⟨d, e, hd, he, hk, q⟩ := h
  obtain ⟨as, r1⟩ := Dp.reads I d x v hd rx
  obtain ⟨bs, r2⟩ := Dp.reads I e y u he ry
  obtain ⟨k1, k2, k3⟩ := ltOk_ok hk
  exact PySem.W.ge_data r1 r2 k1 k2 (by omega) ⟨.bl _, H, I, rfl, q⟩
/-- x in t, data of any depth -/
theorem op_inTD (hu : X.A.units + 65 < cLine) : OpR X (compareOp .In) (fun x y H Q => ∃ d ds, Dp X.K H x d ∧ Dp X.K H y (.tuple ds) ∧ SeqAt.shaped d = true ∧ SeqAt.shaped (.tuple ds) = true ∧ Q (.bl (ds.any fun z => PyData.eqv z d)) H) := by
  intro pins s σ H x y v u Q I rx ry h
  obtain ⟨d, ds, hd, he, sd, se, q⟩ := h
  obtain ⟨as, r1⟩ := Dp.reads I d x v hd rx
  obtain ⟨bs, r2⟩ := Dp.reads I (.tuple ds) y u he ry
  exact SeqAt.in_tuple_reads r2 r1 (SeqAt.canLay_of_shaped se) (SeqAt.canLay_of_shaped sd) (PyProof.Rows.room_in_shaped sd hu) ⟨.bl _, H, I, rfl, q⟩
theorem op_notInTD (hu : X.A.units + 65 < cLine) : OpR X (compareOp .NotIn) (fun x y H Q => ∃ d ds, Dp X.K H x d ∧ Dp X.K H y (.tuple ds) ∧ SeqAt.shaped d = true ∧ SeqAt.shaped (.tuple ds) = true ∧ Q (.bl (!ds.any fun z => PyData.eqv z d)) H) := by
  intro pins s σ H x y v u Q I rx ry h
  obtain ⟨d, ds, hd, he, sd, se, q⟩ := h
  obtain ⟨as, r1⟩ := Dp.reads I d x v hd rx
  obtain ⟨bs, r2⟩ := Dp.reads I (.tuple ds) y u he ry
  exact SeqAt.notIn_tuple_reads r2 r1 (SeqAt.canLay_of_shaped se) (SeqAt.canLay_of_shaped sd) (PyProof.Rows.room_in_shaped sd hu) ⟨.bl _, H, I, rfl, q⟩
end
/-! ### operators over deep values -/
section
variable {K : PySem.W.Frag} {Z H Z' H' : Hp}
theorem fin_e {Q : VK} {u : V} {d : D} (s : Same Z H) (q : ∀ u H' Z', Ext Z H Z' H' → Dp K Z' u d → Q u H') (h : Dp K Z u d) : Q u H := q u H Z (.refl s) h
theorem fin_v {Q : VK} {u : V} {r : RV} (s : Same Z H) (q : ∀ u H' Z', Ext Z H Z' H' → RepV K H Z' H' u r → Q u H') (hr : r.fr = false) (h : Dp K Z u r.d) : Q u H := q u H Z (.refl s) (by
  unfold RepV
  rw [hr]
  exact h)
theorem fin_new {Q : VK} {vs : List V} {ds : List D} {p : Addr} (s : Same Z H) (q : ∀ u H' Z', Ext Z H Z' H' → RepV K H Z' H' u ⟨.list ds, true⟩ → Q u H') (hp : H p = none) (h : DpAll K Z vs ds) : Q (.ref p) (upd H p (.lst vs)) :=
  q _ _ _ (.made s hp) ⟨p, vs, ds, rfl, rfl, hp, s.free hp, upd_same, h⟩
theorem fin_tup {Q : VK} {vs : List V} {ds : List D} {p : Addr} (s : Same Z H) (q : ∀ u H' Z', Ext Z H Z' H' → Dp K Z' u (.tuple ds) → Q u H') (hp : H p = none) (h : DpAll K Z vs ds) : Q (.ref p) (upd H p (.tup vs)) :=
  q _ _ _ (.new s hp) (.tup (.of upd_same) (dps_mono (same_upd (s.free hp)) h))
theorem fin_tupV {Q : VK} {vs : List V} {ds : List D} {p : Addr} (s : Same Z H) (q : ∀ u H' Z', Ext Z H Z' H' → RepV K H Z' H' u ⟨.tuple ds, false⟩ → Q u H') (hp : H p = none) (h : DpAll K Z vs ds) : Q (.ref p) (upd H p (.tup vs)) :=
  q _ _ _ (.new s hp) (show Dp K (upd Z p (.tup vs)) (.ref p) (.tuple ds) from .tup (.of upd_same) (dps_mono (same_upd (s.free hp)) h))

def gAdd : D → D → Res RV
  | .int i, .int j => .ok ⟨.int (i + j), false⟩
  | .str x, .str y => if x.length + y.length < 1000000 then .ok ⟨.str (x ++ y), false⟩ else .bad
  | .list xs, .list ys => if xs.length + ys.length < 1000000 then .ok ⟨.list (xs ++ ys), true⟩ else .bad
  | .tuple xs, .tuple ys => if xs ≠ [] ∧ ys ≠ [] ∧ xs.length + ys.length < 1000000 then .ok ⟨.tuple (xs ++ ys), false⟩ else .bad
  | _, _ => .bad
def rAddG (K : PySem.W.Frag) : R2 := fun x y H Q => (∃ i j, x = .int i ∧ y = .int j ∧ Q (.int (i + j)) H) ∨ (∃ i j, x = .str i ∧ y = .str j ∧ i.length + j.length ≤ sizeLine ∧ Q (.str (i ++ j)) H) ∨
  (∃ l b xs zs, x = .ref l ∧ y = .ref b ∧ SqL K H l xs ∧ SqL K H b zs ∧ xs.length + zs.length ≤ sizeLine ∧ ∀ p, H p = none → Q (.ref p) (upd H p (.lst (xs ++ zs)))) ∨ rCatT K x y H Q
theorem op_addG {X : Cx} : OpR X (binaryOp .Add) (rAddG X.K) := op_add.or (op_add_str.or (op_catG.or op_catT))
theorem dps_nil_iff {vs : List V} {ds : List D} (h : DpAll K Z vs ds) : vs = [] ↔ ds = [] := by cases h <;> simp
theorem gAdd_ok : OpV K (rAddG K) gAdd := by
  intro Z H v w x y d Q s hx hy hg q
  unfold gAdd at hg
  split at hg
  · cases hg
    have := hx.int; subst this
    have := hy.int; subst this
    exact .inl ⟨_, _, rfl, rfl, fin_v s q rfl (.int _)⟩
  · obtain ⟨hl, e⟩ := ite_ok hg
    cases e
    have := hx.str; subst this
    have := hy.str; subst this
    exact .inr (.inl ⟨_, _, rfl, rfl, Nat.le_of_lt (lim_ok hl), fin_v s q rfl (.str _)⟩)
  · obtain ⟨hl, e⟩ := ite_ok hg
    cases e
    obtain ⟨p, vs, rfl, h1, h2⟩ := hx.list s
    obtain ⟨p', ws, rfl, h3, h4⟩ := hy.list s
    exact .inr (.inr (.inl ⟨p, p', vs, ws, rfl, rfl, h1, h3, by rw [dps_length h2, dps_length h4]; exact Nat.le_of_lt (lim_ok hl), fun a ha => fin_new s q ha (dps_append h2 h4)⟩))
  · obtain ⟨⟨n1, n2, hl⟩, e⟩ := ite_ok hg
    cases e
    obtain ⟨p, vs, rfl, h1, h2⟩ := hx.tup s
    obtain ⟨p', ws, rfl, h3, h4⟩ := hy.tup s
    exact .inr (.inr (.inr ⟨p, p', vs, ws, rfl, rfl, h1, h3, fun z => n1 ((dps_nil_iff h2).mp z), by rw [dps_length h2, dps_length h4]; exact Nat.le_of_lt (lim_ok hl), fun z => absurd ((dps_nil_iff h4).mp z) n2, fun _ a ha => fin_tupV s q ha (dps_append h2 h4)⟩))
  · cases hg
/-- two ints -/
def gInt (c : Int → Int → Bool) (g : Int → Int → D) : D → D → Res D
  | .int i, .int j => if c i j = true then .ok (g i j) else .bad
  | _, _ => .bad
def cTrue (_ _ : Int) : Bool := true
def mulOk (i j : Int) : Bool := decide (i.natAbs < 2 ^ 64) || decide (j.natAbs < 2 ^ 64) || decide (i.natAbs.log2 + j.natAbs.log2 < 1000000)
def divOk (_ j : Int) : Bool := (decide (j ≠ 0) && decide (j.natAbs < 1073741824)) || (decide (0 < j) && decide (j.natAbs.log2 < 9000))
def modOk (_ j : Int) : Bool := decide (j ≠ 0)
def powOk (i j : Int) : Bool := decide (0 ≤ j) && decide (j ≤ 1000000) && decide (i.natAbs < 2 ^ 64)
abbrev gSub := gInt cTrue fun i j => .int (i - j)
abbrev gMul := gInt mulOk fun i j => .int (i * j)
abbrev gDiv := gInt divOk fun i j => .int (i.fdiv j)
abbrev gMod := gInt modOk fun i j => .int (i.fmod j)
abbrev gPow := gInt powOk fun i j => .int (i ^ j.toNat)
theorem gInt_ok {r : R2} {c : Int → Int → Bool} {g : Int → Int → D} {gv : Int → Int → V} (hg : ∀ i j Z, Dp K Z (gv i j) (g i j)) (h : ∀ i j H Q, c i j = true → Q (gv i j) H → r (.int i) (.int j) H Q) : OpD K r (gInt c g) := by
  intro Z H v w x y d Q s hx hy e q
  unfold gInt at e
  split at e
  · obtain ⟨hc, e⟩ := ite_ok e
    cases e
    have := hx.int; subst this
    have := hy.int; subst this
    exact h _ _ H Q hc (fin_e s q (hg _ _ Z))
  · cases e
theorem gSub_ok : OpD K (rI0 fun i j => .int (i - j)) gSub := gInt_ok (gv := fun i j => .int (i - j)) (fun i j Z => .int (i - j)) fun i j H Q _ q => ⟨i, j, rfl, rfl, q⟩
def rMulG : R2 := fun x y H Q => rI CMul (fun i j => .int (i * j)) x y H Q ∨ rI CMulW (fun i j => .int (i * j)) x y H Q
theorem op_mulG {X : Cx} : OpR X (binaryOp .Mult) rMulG := op_mul.or op_mulW
theorem gMul_ok : OpD K rMulG gMul := gInt_ok (gv := fun i j => .int (i * j)) (fun i j Z => .int (i * j)) fun i j H Q c q => by
  unfold mulOk at c
  simp only [Bool.or_eq_true, decide_eq_true_eq] at c
  rcases c with (c | c) | c
  · exact .inl ⟨i, j, rfl, rfl, .inl (by omega), q⟩
  · exact .inl ⟨i, j, rfl, rfl, .inr (by omega), q⟩
  · exact .inr ⟨i, j, rfl, rfl, c, q⟩
def rDivG : R2 := fun x y H Q => rI CDivN (fun i j => .int (i.fdiv j)) x y H Q ∨ rI CDivW (fun i j => .int (i / j)) x y H Q
theorem op_divG {X : Cx} : OpR X (binaryOp .FloorDiv) rDivG := op_fdivN.or op_fdivW
theorem gDiv_ok : OpD K rDivG gDiv := gInt_ok (gv := fun i j => .int (i.fdiv j)) (fun i j Z => .int (i.fdiv j)) fun i j H Q c q => by
  unfold divOk at c
  simp only [Bool.or_eq_true, Bool.and_eq_true, decide_eq_true_eq] at c
  rcases c with c | c
  · exact .inl ⟨i, j, rfl, rfl, c, q⟩
  · refine .inr ⟨i, j, rfl, rfl, c, ?_⟩
    have h1 : (0 : Int) < j := c.1
    show Q (V.int (i / j)) H
    rw [← Int.fdiv_eq_ediv_of_nonneg i (by omega)]
    exact q
theorem gMod_ok : OpD K (rI (fun _ j => j ≠ 0) fun i j => .int (i.fmod j)) gMod := gInt_ok (gv := fun i j => .int (i.fmod j)) (fun i j Z => .int (i.fmod j)) fun i j H Q c q => ⟨i, j, rfl, rfl, of_decide_eq_true c, q⟩
theorem gPow_ok : OpD K (rI CPow fun i j => .int (i ^ j.toNat)) gPow := gInt_ok (gv := fun i j => .int (i ^ j.toNat)) (fun i j Z => .int (i ^ j.toNat)) fun i j H Q c q => by
  unfold powOk at c
  simp only [Bool.and_eq_true, decide_eq_true_eq] at c
  exact ⟨i, j, rfl, rfl, ⟨c.1.1, c.1.2, c.2⟩, q⟩
/-! comparisons -/
def gOrd (p : Int → Int → Bool) (g : D → D → Bool) : D → D → Res D
  | .int i, .int j => .ok (.bool (p i j))
  | d, e => if ltOk d e = true then .ok (.bool (g d e)) else .bad
abbrev gLt := gOrd (fun i j => decide (i < j)) fun d e => PySem.W.dataLt d e
abbrev gGt := gOrd (fun i j => decide (j < i)) fun d e => PySem.W.dataLt e d
abbrev gLe := gOrd (fun i j => decide (i ≤ j)) fun d e => !PySem.W.dataLt e d
abbrev gGe := gOrd (fun i j => decide (j ≤ i)) fun d e => !PySem.W.dataLt d e
def rOrdG (K : PySem.W.Frag) (p : Int → Int → Bool) (g : D → D → Bool) : R2 := fun x y H Q => rI0 (fun i j => .bl (p i j)) x y H Q ∨ rOrd K g x y H Q
theorem gOrd_ok {p : Int → Int → Bool} {g : D → D → Bool} : OpD K (rOrdG K p g) (gOrd p g) := by
  intro Z H v w x y d Q s hx hy e q
  unfold gOrd at e
  split at e
  · cases e
    have := hx.int; subst this
    have := hy.int; subst this
    exact .inl ⟨_, _, rfl, rfl, fin_e s q (.bl _)⟩
  · obtain ⟨hc, e⟩ := ite_ok e
    cases e
    exact .inr ⟨_, _, hx.cur s, hy.cur s, hc, fin_e s q (.bl _)⟩
section
variable {X : Cx} (hu : X.A.units + 64 < cLine)
include hu
theorem op_ltG : OpR X (compareOp .Lt) (rOrdG X.K (fun i j => decide (i < j)) fun d e => PySem.W.dataLt d e) := op_lt.or (op_ltD hu)
theorem op_gtG : OpR X (compareOp .Gt) (rOrdG X.K (fun i j => decide (j < i)) fun d e => PySem.W.dataLt e d) := op_gt.or (op_gtD hu)
theorem op_leG : OpR X (compareOp .LtE) (rOrdG X.K (fun i j => decide (i ≤ j)) fun d e => !PySem.W.dataLt e d) := op_le.or (op_leD hu)
theorem op_geG : OpR X (compareOp .GtE) (rOrdG X.K (fun i j => decide (j ≤ i)) fun d e => !PySem.W.dataLt d e) := op_ge.or (op_geD hu)
end
def gEq : D → D → Res D := fun d e => if SeqAt.shaped d = true ∧ SeqAt.shaped e = true then .ok (.bool (PyData.eqv d e)) else .bad
def gNe : D → D → Res D := fun d e => if SeqAt.shaped d = true ∧ SeqAt.shaped e = true then .ok (.bool (!PyData.eqv d e)) else .bad
theorem gEq_ok : OpD K (rEqD K) gEq := by
  intro Z H v w x y d Q s hx hy e q
  obtain ⟨⟨h1, h2⟩, e⟩ := ite_ok e
  cases e
  exact ⟨_, _, hx.cur s, hy.cur s, h1, h2, fin_e s q (.bl _)⟩
theorem gNe_ok : OpD K (rNeD K) gNe := by
  intro Z H v w x y d Q s hx hy e q
  obtain ⟨⟨h1, h2⟩, e⟩ := ite_ok e
  cases e
  exact ⟨_, _, hx.cur s, hy.cur s, h1, h2, fin_e s q (.bl _)⟩
def isNone : D → Bool
  | .none => true
  | _ => false
theorem isNone_iff {Z : Hp} {v : V} {d : D} (h : DpP K Z H v d) : decide (v = .non) = isNone d := by
  rcases h with h | ⟨p, vs, ds, rfl, rfl, _⟩
  · cases h <;> rfl
  · rfl
/-- the right one is None (or a bool) -/
def gIs : D → D → Res D
  | d, .none => .ok (.bool (isNone d))
  | .bool a, .bool b => .ok (.bool (decide (a = b)))
  | _, _ => .bad
def gIsNot : D → D → Res D
  | d, .none => .ok (.bool (!isNone d))
  | .bool a, .bool b => .ok (.bool (!decide (a = b)))
  | _, _ => .bad
def rIsG : R2 := fun x y H Q => (y = .non ∧ Q (.bl (decide (x = .non))) H) ∨ rIsB x y H Q
def rIsNotG : R2 := fun x y H Q => (y = .non ∧ Q (.bl (!decide (x = .non))) H) ∨ rNotB x y H Q
theorem op_isG {X : Cx} : OpR X (compareOp .Is) rIsG := op_isN.or op_isBl
theorem op_isNotG {X : Cx} : OpR X (compareOp .IsNot) rIsNotG := op_notN.or op_notBl
theorem gIs_ok : OpD K rIsG gIs := by
  intro Z H v w x y d Q s hx hy e q
  unfold gIs at e
  split at e
  · cases e
    refine .inl ⟨hy.none, ?_⟩
    rw [isNone_iff hx]
    exact fin_e s q (.bl _)
  · cases e
    exact .inr ⟨_, _, hx.bool, hy.bool, fin_e s q (.bl _)⟩
  · cases e
theorem gIsNot_ok : OpD K rIsNotG gIsNot := by
  intro Z H v w x y d Q s hx hy e q
  unfold gIsNot at e
  split at e
  · cases e
    refine .inl ⟨hy.none, ?_⟩
    rw [isNone_iff hx]
    exact fin_e s q (.bl _)
  · cases e
    exact .inr ⟨_, _, hx.bool, hy.bool, fin_e s q (.bl _)⟩
  · cases e
def gIn : D → D → Res D
  | d, .list ds => if SeqAt.shaped d = true ∧ SeqAt.shaped (.list ds) = true then .ok (.bool (ds.any fun z => PyData.eqv z d)) else .bad
  | d, .tuple ds => if SeqAt.shaped d = true ∧ SeqAt.shaped (.tuple ds) = true then .ok (.bool (ds.any fun z => PyData.eqv z d)) else .bad
  | _, _ => .bad
def gNotIn : D → D → Res D
  | d, .list ds => if SeqAt.shaped d = true ∧ SeqAt.shaped (.list ds) = true then .ok (.bool (!ds.any fun z => PyData.eqv z d)) else .bad
  | d, .tuple ds => if SeqAt.shaped d = true ∧ SeqAt.shaped (.tuple ds) = true then .ok (.bool (!ds.any fun z => PyData.eqv z d)) else .bad
  | _, _ => .bad
def rInG (K : PySem.W.Frag) : R2 := fun x y H Q => rInD K x y H Q ∨ (∃ d ds, Dp K H x d ∧ Dp K H y (.tuple ds) ∧ SeqAt.shaped d = true ∧ SeqAt.shaped (.tuple ds) = true ∧ Q (.bl (ds.any fun z => PyData.eqv z d)) H)
def rNotInG (K : PySem.W.Frag) : R2 := fun x y H Q => rNotInD K x y H Q ∨ (∃ d ds, Dp K H x d ∧ Dp K H y (.tuple ds) ∧ SeqAt.shaped d = true ∧ SeqAt.shaped (.tuple ds) = true ∧ Q (.bl (!ds.any fun z => PyData.eqv z d)) H)
theorem op_inG {X : Cx} (hu : X.A.units + 65 < cLine) : OpR X (compareOp .In) (rInG X.K) := (op_inD hu).or (op_inTD hu)
theorem op_notInG {X : Cx} (hu : X.A.units + 65 < cLine) : OpR X (compareOp .NotIn) (rNotInG X.K) := (op_notInD hu).or (op_notInTD hu)
theorem gIn_ok : OpD K (rInG K) gIn := by
  intro Z H v w x y d Q s hx hy e q
  unfold gIn at e
  split at e
  · obtain ⟨⟨h1, h2⟩, e⟩ := ite_ok e
    cases e
    exact .inl ⟨_, _, hx.cur s, hy.cur s, h1, h2, fin_e s q (.bl _)⟩
  · obtain ⟨⟨h1, h2⟩, e⟩ := ite_ok e
    cases e
    exact .inr ⟨_, _, hx.cur s, hy.cur s, h1, h2, fin_e s q (.bl _)⟩
  · cases e
theorem gNotIn_ok : OpD K (rNotInG K) gNotIn := by
  intro Z H v w x y d Q s hx hy e q
  unfold gNotIn at e
  split at e
  · obtain ⟨⟨h1, h2⟩, e⟩ := ite_ok e
    cases e
    exact .inl ⟨_, _, hx.cur s, hy.cur s, h1, h2, fin_e s q (.bl _)⟩
  · obtain ⟨⟨h1, h2⟩, e⟩ := ite_ok e
    cases e
    exact .inr ⟨_, _, hx.cur s, hy.cur s, h1, h2, fin_e s q (.bl _)⟩
  · cases e
/-! one value -/
def gNeg : D → Res D
  | .int i => .ok (.int (-i))
  | _ => .bad
theorem E_neg {X : Cx} {a : Expr} {pos : Pos} {fa : Env → Res D} (ha : PE X a (tP X.K fa)) : PE X (.UnaryOp .USub a pos) (tE X.K (eOp1 gNeg fa)) := pe_mono (pe_un un_neg ha) fun σ H Q ⟨H0, Z0, Z, env, d, hE, hf, q⟩ => by
  obtain ⟨x, h1, h2⟩ := Res.bind_eq hf
  unfold gNeg at h2
  split at h2
  · cases h2
    exact ⟨H0, Z0, Z, env, _, hE, h1, fun v H1 Z1 e1 d1 => ⟨_, d1.int, q _ H1 Z1 e1 (.int _)⟩⟩
  · cases h2
/-! subscripts -/
def gIdx : D → D → Res D
  | .list xs, .int i => match atI xs i with
    | some d => .ok d
    | none => .bad
  | .tuple xs, .int i => match atI xs i with
    | some d => .ok d
    | none => .bad
  | _, _ => .bad
theorem at_dps {vs : List V} {ds : List D} {i : Int} {d : D} (h : DpAll K Z vs ds) (e : atI ds i = some d) : ∃ v, atI vs i = some v ∧ Dp K Z v d := by
  unfold atI at e ⊢
  rw [dps_length h]
  cases hx : ixN ds.length i with
  | none => rw [hx] at e; cases e
  | some j =>
    rw [hx] at e
    exact dps_get h e
theorem gIdx_ok : OpD K (fun x y H Q => rIxL K x y H Q ∨ rIxT K x y H Q) gIdx := by
  intro Z H v w x y d Q s hx hy e q
  unfold gIdx at e
  split at e
  · split at e
    · rename_i hd
      cases e
      obtain ⟨p, vs, rfl, h1, h2⟩ := hx.list s
      obtain ⟨u, h3, h4⟩ := at_dps h2 hd
      exact .inl ⟨p, vs, _, u, rfl, hy.int, h1, h3, fin_e s q h4⟩
    · cases e
  · split at e
    · rename_i hd
      cases e
      obtain ⟨p, vs, rfl, h1, h2⟩ := hx.tup s
      obtain ⟨u, h3, h4⟩ := at_dps h2 hd
      exact .inr ⟨p, vs, _, u, rfl, hy.int, h1, h3, fin_e s q h4⟩
    · cases e
  · cases e
theorem E_idx {X : Cx} {a b : Expr} {pos : Pos} {fa fb : Env → Res D} (ha : PE X a (tP X.K fa)) (hb : PE X b (tP X.K fb)) (hs : PlainIx b := by intro _ _; rfl) : PE X (.Subscript a b pos) (tE X.K (eOp2 gIdx fa fb)) :=
  pe_mono (pe_ix (ix_list.or ix_tup) ha hb hs) (op2_red gIdx_ok (fun _ _ _ h => h) fun _ _ _ h => h)
/-! slices -/
def eOpt (f : Env → Res D) : Env → Res (Option Int) := fun env => (f env).bind fun d => match d with
  | .int i => .ok (some i)
  | _ => .bad
def eNo : Env → Res (Option Int) := fun _ => .ok none
def cutD (xs : List D) (lo hi : Option Int) : List D := (xs.drop (HT.sIx xs.length 0 lo)).take (HT.sIx xs.length xs.length hi - HT.sIx xs.length 0 lo)
def gSl : D → Option Int → Option Int → Res RV
  | .list xs, lo, hi => .ok ⟨.list (cutD xs lo hi), true⟩
  | .tuple xs, lo, hi => if ¬ (HT.sIx xs.length 0 lo = 0 ∧ HT.sIx xs.length xs.length hi = xs.length) then .ok ⟨.tuple (cutD xs lo hi), false⟩ else .bad
  | _, _, _ => .bad
def eSl (fa : Env → Res D) (fl fh : Env → Res (Option Int)) : Env → Res RV := fun env => (fa env).bind fun x => (fl env).bind fun l => (fh env).bind fun u => gSl x l u
def tO (K : PySem.W.Frag) (f : Env → Res (Option Int)) : TO := fun σ H Q => ∃ H0 Z0 Z env o, EnvOk K H0 Z0 Z H σ env ∧ f env = .ok o ∧ ∀ H' Z', Ext Z H Z' H' → Q o H'
theorem po_mono {X : Cx} {e : Option Expr} {t t' : TO} (h : PO X e t) (k : ∀ σ H Q, t' σ H Q → t σ H Q) : PO X e t' := ⟨fun pins s σ H Q I q => h.run pins s σ H Q I (k σ H Q q)⟩
theorem O_none {X : Cx} : PO X none (tO X.K eNo) := po_mono po_none fun σ H Q ⟨H0, Z0, Z, env, o, hE, hf, q⟩ => by
  cases hf
  exact q H Z (.refl hE.sz)
theorem O_some {X : Cx} {e : Expr} {f : Env → Res D} (h : PE X e (tP X.K f)) : PO X (some e) (tO X.K (eOpt f)) := po_mono (po_some h) fun σ H Q ⟨H0, Z0, Z, env, o, hE, hf, q⟩ => by
  obtain ⟨d, h1, h2⟩ := Res.bind_eq hf
  split at h2
  · cases h2
    exact ⟨H0, Z0, Z, env, _, hE, h1, fun v H1 Z1 e1 d1 => ⟨_, d1.int, q H1 Z1 e1⟩⟩
  · cases h2
theorem dps_cut {vs : List V} {ds : List D} (h : DpAll K Z vs ds) (lo hi : Option Int) : DpAll K Z (cutV vs lo hi) (cutD ds lo hi) := by
  unfold cutV cutD
  rw [dps_length h]
  exact dps_take _ (dps_drop _ h)
theorem V_sl {X : Cx} {e : Expr} {lo hi : Option Expr} {p2 pos : Pos} {fa : Env → Res D} {fl fh : Env → Res (Option Int)} (he : PE X e (tP X.K fa)) (hl : PO X lo (tO X.K fl)) (hh : PO X hi (tO X.K fh)) : PE X (.Subscript e (.Slice lo hi none p2) pos) (tV X.K (eSl fa fl fh)) :=
  pe_mono (pe_slice (sl_list.or sl_tup) he hl hh) fun σ H Q ⟨H0, Z0, Z, env, r, hE, hf, q⟩ => by
    obtain ⟨x, h1, hf⟩ := Res.bind_eq hf
    obtain ⟨l, h2, hf⟩ := Res.bind_eq hf
    obtain ⟨u, h3, hf⟩ := Res.bind_eq hf
    refine ⟨H0, Z0, Z, env, x, hE, h1, fun v H1 Z1 e1 d1 => ⟨H0, Z0, Z1, env, l, hE.ext e1, h2, fun H2 Z2 e2 => ⟨H0, Z0, Z2, env, u, (hE.ext e1).ext e2, h3, fun H3 Z3 e3 => ?_⟩⟩⟩
    have eA := (e1.trans e2).trans e3
    have d3 := (d1.ext e2).ext e3
    have q3 : ∀ u H' Z', Ext Z3 H3 Z' H' → RepV X.K H3 Z' H' u r → Q u H' := fun u H' Z' e k => q u H' Z' (eA.trans e) (k.pre eA.hh)
    unfold gSl at hf
    split at hf
    · cases hf
      obtain ⟨p, vs, rfl, k1, k2⟩ := d3.list eA.zh
      exact .inl ⟨p, vs, rfl, k1, fun a ha => fin_new eA.zh q3 ha (dps_cut k2 _ _)⟩
    · obtain ⟨hc, hf⟩ := ite_ok hf
      cases hf
      obtain ⟨p, vs, rfl, k1, k2⟩ := d3.tup eA.zh
      refine .inr ⟨p, vs, rfl, k1, ?_, fun a ha => fin_tupV eA.zh q3 ha (dps_cut k2 _ _)⟩
      rw [dps_length k2]
      exact hc
    · cases hf
end
end PV

set_option Elab.async false
set_option linter.all false
set_option maxRecDepth 100000
namespace PV
open PySem PySem.Spec L2
set_option autoImplicit false
/-! ### built-in calls -/
def CallD (K : PySem.W.Frag) (r : List V → Hp → VK → Prop) (g : List D → Res D) : Prop := ∀ (Z H : Hp) (vs : List V) (ds : List D) (d : D) (Q : VK), Same Z H → DpPs K Z H vs ds → g ds = .ok d → (∀ u H' Z', Ext Z H Z' H' → Dp K Z' u d → Q u H') → r vs H Q
def CallV (K : PySem.W.Frag) (r : List V → Hp → VK → Prop) (g : List D → Res RV) : Prop := ∀ (Z H : Hp) (vs : List V) (ds : List D) (d : RV) (Q : VK), Same Z H → DpPs K Z H vs ds → g ds = .ok d → (∀ u H' Z', Ext Z H Z' H' → RepV K H Z' H' u d → Q u H') → r vs H Q
def eBi {α : Type} (g : List D → Res α) (fs : Env → Res (List D)) : Env → Res α := fun env => (fs env).bind g
section
variable {X : Cx} {x : Str} {p pos : Pos} {e : Expr} {es : List Expr} {fs : Env → Res (List D)} {id T : String} {r : List V → Hp → VK → Prop}
theorem cb_red {t : TE} {g : List D → Res D} (hg : CallD X.K r g) (k : ∀ σ H Q, tCB r (tAp X.K fs) σ H Q → t σ H Q) : ∀ σ H Q, tE X.K (eBi g fs) σ H Q → t σ H Q := fun σ H Q ⟨H0, Z0, Z, env, d, hE, hf, q⟩ => by
  obtain ⟨ds, h1, h2⟩ := Res.bind_eq hf
  exact k _ _ _ ⟨H0, Z0, Z, env, ds, hE, h1, fun vs H1 Z1 e1 d1 => hg Z1 H1 vs ds d Q e1.zh d1 h2 fun u H' Z' e3 h3 => q u H' Z' (e1.trans e3) h3⟩
theorem cbv_red {t : TE} {g : List D → Res RV} (hg : CallV X.K r g) (k : ∀ σ H Q, tCB r (tAp X.K fs) σ H Q → t σ H Q) : ∀ σ H Q, tV X.K (eBi g fs) σ H Q → t σ H Q := fun σ H Q ⟨H0, Z0, Z, env, d, hE, hf, q⟩ => by
  obtain ⟨ds, h1, h2⟩ := Res.bind_eq hf
  exact k _ _ _ ⟨H0, Z0, Z, env, ds, hE, h1, fun vs H1 Z1 e1 d1 => hg Z1 H1 vs ds d Q e1.zh d1 h2 fun u H' Z' e3 h3 => q u H' Z' (e1.trans e3) (h3.pre e1.hh)⟩
theorem E_bi {g : List D → Res D} (hc : CallR X (.builtin id) r) (hd : CallD X.K r g) (hv : bootBuiltins x = some (.builtin id)) (hm : X.mg x = none) (ha : PA X (e :: es) (tAp X.K fs)) (hg : Gl X x := by rfl) (hn : x ≠ "__name__" := by decide) (hdb : (x == ("__debug__" : Str)) = false := by decide)
    (he : starEach (e :: es) X.env = (false, eval e X.env) :: starEach es X.env := by rfl) (hpl : (backTo pos (starEach es X.env)).any (·.1) = false := by rfl) : PE X (.Call (.Name x p) (e :: es) [] pos) (tE X.K (eBi g fs)) :=
  pe_mono (pe_callB hc hg hm hv ha hn hdb he hpl) (cb_red hd fun _ _ _ h => h)
theorem V_bi {g : List D → Res RV} (hc : CallR X (.builtin id) r) (hd : CallV X.K r g) (hv : bootBuiltins x = some (.builtin id)) (hm : X.mg x = none) (ha : PA X (e :: es) (tAp X.K fs)) (hg : Gl X x := by rfl) (hn : x ≠ "__name__" := by decide) (hdb : (x == ("__debug__" : Str)) = false := by decide)
    (he : starEach (e :: es) X.env = (false, eval e X.env) :: starEach es X.env := by rfl) (hpl : (backTo pos (starEach es X.env)).any (·.1) = false := by rfl) : PE X (.Call (.Name x p) (e :: es) [] pos) (tV X.K (eBi g fs)) :=
  pe_mono (pe_callB hc hg hm hv ha hn hdb he hpl) (cbv_red hd fun _ _ _ h => h)
theorem E_ty {g : List D → Res D} (hc : CallR X (.type T) r) (hd : CallD X.K r g) (hv : bootBuiltins x = some (.type T)) (hm : X.mg x = none) (ha : PA X (e :: es) (tAp X.K fs)) (hg : Gl X x := by rfl) (hn : x ≠ "__name__" := by decide) (hdb : (x == ("__debug__" : Str)) = false := by decide)
    (he : starEach (e :: es) X.env = (false, eval e X.env) :: starEach es X.env := by rfl) (hpl : (backTo pos (starEach es X.env)).any (·.1) = false := by rfl) : PE X (.Call (.Name x p) (e :: es) [] pos) (tE X.K (eBi g fs)) :=
  pe_mono (pe_callTy hc hg hm hv ha hn hdb he hpl) (cb_red hd fun _ _ _ h => h)
theorem V_ty {g : List D → Res RV} (hc : CallR X (.type T) r) (hd : CallV X.K r g) (hv : bootBuiltins x = some (.type T)) (hm : X.mg x = none) (ha : PA X (e :: es) (tAp X.K fs)) (hg : Gl X x := by rfl) (hn : x ≠ "__name__" := by decide) (hdb : (x == ("__debug__" : Str)) = false := by decide)
    (he : starEach (e :: es) X.env = (false, eval e X.env) :: starEach es X.env := by rfl) (hpl : (backTo pos (starEach es X.env)).any (·.1) = false := by rfl) : PE X (.Call (.Name x p) (e :: es) [] pos) (tV X.K (eBi g fs)) :=
  pe_mono (pe_callTy hc hg hm hv ha hn hdb he hpl) (cbv_red hd fun _ _ _ h => h)
theorem E_bif {g : List D → Res D} (hc : CallR X (.builtin id) r) (hd : CallD X.K r g) (hm : X.mg x = some (.builtin id)) (ha : PA X (e :: es) (tAp X.K fs)) (hg : Gl X x := by rfl) (hdb : (x == ("__debug__" : Str)) = false := by decide)
    (he : starEach (e :: es) X.env = (false, eval e X.env) :: starEach es X.env := by rfl) (hpl : (backTo pos (starEach es X.env)).any (·.1) = false := by rfl) : PE X (.Call (.Name x p) (e :: es) [] pos) (tE X.K (eBi g fs)) :=
  pe_mono (pe_callBfun hc hg hm ha hdb he hpl) (cb_red hd fun _ _ _ h => h)
end
section
variable {K : PySem.W.Frag} {Z H Z' H' : Hp}
theorem ps1 {vs : List V} {d : D} (h : DpPs K Z H vs [d]) : ∃ v, vs = [v] ∧ DpP K Z H v d := by
  cases h with
  | cons a b => cases b; exact ⟨_, rfl, a⟩
theorem ps2 {vs : List V} {d e : D} (h : DpPs K Z H vs [d, e]) : ∃ v w, vs = [v, w] ∧ DpP K Z H v d ∧ DpP K Z H w e := by
  cases h with
  | cons a b =>
    obtain ⟨w, rfl, c⟩ := ps1 b
    exact ⟨_, _, rfl, a, c⟩
theorem ps3 {vs : List V} {d e f : D} (h : DpPs K Z H vs [d, e, f]) : ∃ v w u, vs = [v, w, u] ∧ DpP K Z H v d ∧ DpP K Z H w e ∧ DpP K Z H u f := by
  cases h with
  | cons a b =>
    obtain ⟨w, u, rfl, c, d⟩ := ps2 b
    exact ⟨_, _, _, rfl, a, c, d⟩
/-! len -/
def gLen : List D → Res D
  | [.list xs] => .ok (.int xs.length)
  | [.tuple xs] => .ok (.int xs.length)
  | [.str x] => if x.length < 1000000 then .ok (.int x.length) else .bad
  | _ => .bad
theorem gLen_ok : CallD K (fun xs H Q => ∃ x n, xs = [x] ∧ LenV K x H n ∧ Q (.int n) H) gLen := by
  intro Z H vs ds d Q s h e q
  unfold gLen at e
  split at e
  · cases e
    obtain ⟨v, rfl, hv⟩ := ps1 h
    obtain ⟨p, ws, rfl, h1, h2⟩ := hv.list s
    exact ⟨_, _, rfl, .inl ⟨ws, h1, (dps_length h2).symm⟩, fin_e s q (.int _)⟩
  · cases e
    obtain ⟨v, rfl, hv⟩ := ps1 h
    obtain ⟨p, ws, rfl, h1, h2⟩ := hv.tup s
    exact ⟨_, _, rfl, .inr ⟨ws, h1, (dps_length h2).symm⟩, fin_e s q (.int _)⟩
  · obtain ⟨hc, e⟩ := ite_ok e
    cases e
    obtain ⟨v, rfl, hv⟩ := ps1 h
    have := hv.str; subst this
    exact ⟨_, _, rfl, ⟨Nat.le_of_lt (lim_ok hc), rfl⟩, fin_e s q (.int _)⟩
  · cases e
/-! abs, max, min of two, int -/
def gAbs : List D → Res D
  | [.int i] => .ok (.int (if i < 0 then -i else i))
  | _ => .bad
theorem gAbs_ok : CallD K (fun xs H Q => ∃ i, xs = [.int i] ∧ Q (.int (if i < 0 then -i else i)) H) gAbs := by
  intro Z H vs ds d Q s h e q
  unfold gAbs at e
  split at e
  · cases e
    obtain ⟨v, rfl, hv⟩ := ps1 h
    have := hv.int; subst this
    exact ⟨_, rfl, fin_e s q (.int _)⟩
  · cases e
def gMax2 : List D → Res D
  | [.int i, .int j] => .ok (.int (if j > i then j else i))
  | _ => .bad
theorem gMax2_ok : CallD K (fun xs H Q => ∃ i j, xs = [.int i, .int j] ∧ Q (.int (if j > i then j else i)) H) gMax2 := by
  intro Z H vs ds d Q s h e q
  unfold gMax2 at e
  split at e
  · cases e
    obtain ⟨v, w, rfl, hv, hw⟩ := ps2 h
    have := hv.int; subst this
    have := hw.int; subst this
    exact ⟨_, _, rfl, fin_e s q (.int _)⟩
  · cases e
def gMin2 : List D → Res D
  | [.int i, .int j] => .ok (.int (if j < i then j else i))
  | _ => .bad
theorem gMin2_ok : CallD K (fun xs H Q => ∃ i j, xs = [.int i, .int j] ∧ Q (.int (if j < i then j else i)) H) gMin2 := by
  intro Z H vs ds d Q s h e q
  unfold gMin2 at e
  split at e
  · cases e
    obtain ⟨v, w, rfl, hv, hw⟩ := ps2 h
    have := hv.int; subst this
    have := hw.int; subst this
    exact ⟨_, _, rfl, fin_e s q (.int _)⟩
  · cases e
def gIntT : List D → Res D
  | [.int i] => .ok (.int i)
  | [.bool b] => .ok (.int (if b then 1 else 0))
  | _ => .bad
theorem gIntT_ok : CallD K (fun xs H Q => (∃ i, xs = [.int i] ∧ Q (.int i) H) ∨ ∃ k, xs = [.bl k] ∧ Q (.int (if k then 1 else 0)) H) gIntT := by
  intro Z H vs ds d Q s h e q
  unfold gIntT at e
  split at e
  · cases e
    obtain ⟨v, rfl, hv⟩ := ps1 h
    have := hv.int; subst this
    exact .inl ⟨_, rfl, fin_e s q (.int _)⟩
  · cases e
    obtain ⟨v, rfl, hv⟩ := ps1 h
    have := hv.bool; subst this
    exact .inr ⟨_, rfl, fin_e s q (.int _)⟩
  · cases e
def gGcd : List D → Res D
  | [.int i, .int j] => .ok (.int (Nat.gcd i.natAbs j.natAbs : Nat))
  | _ => .bad
theorem gGcd_ok : CallD K rGcd gGcd := by
  intro Z H vs ds d Q s h e q
  unfold gGcd at e
  split at e
  · cases e
    obtain ⟨v, w, rfl, hv, hw⟩ := ps2 h
    have := hv.int; subst this
    have := hw.int; subst this
    exact ⟨_, _, rfl, fin_e s q (.int _)⟩
  · cases e
/-! lists of ints, of bools -/
def asInts : List D → Option (List Int)
  | [] => some []
  | .int i :: r => (asInts r).map (i :: ·)
  | _ :: _ => none
@[simp] theorem asInts_map : ∀ ns : List Int, asInts (ns.map PyData.int) = some ns
  | [] => rfl
  | n :: r => by
    show (asInts (r.map PyData.int)).map (n :: ·) = _
    rw [asInts_map r]; rfl
theorem asInts_eq : ∀ {ds : List D} {ns : List Int}, asInts ds = some ns → ds = ns.map PyData.int
  | [], _, h => by cases h; rfl
  | .int i :: r, ns, h => by
    have h' : (asInts r).map (i :: ·) = some ns := h
    cases hr : asInts r with
    | none => rw [hr] at h'; cases h'
    | some ms => rw [hr] at h'; cases h'; rw [asInts_eq hr]; rfl
  | .none :: _, _, h => by cases h
  | .bool _ :: _, _, h => by cases h
  | .str _ :: _, _, h => by cases h
  | .list _ :: _, _, h => by cases h
  | .tuple _ :: _, _, h => by cases h
  | .dict _ :: _, _, h => by cases h
def asBools : List D → Option (List Bool)
  | [] => some []
  | .bool i :: r => (asBools r).map (i :: ·)
  | _ :: _ => none
@[simp] theorem asBools_map : ∀ ns : List Bool, asBools (ns.map PyData.bool) = some ns
  | [] => rfl
  | n :: r => by
    show (asBools (r.map PyData.bool)).map (n :: ·) = _
    rw [asBools_map r]; rfl
theorem asBools_eq : ∀ {ds : List D} {ns : List Bool}, asBools ds = some ns → ds = ns.map PyData.bool
  | [], _, h => by cases h; rfl
  | .bool i :: r, ns, h => by
    have h' : (asBools r).map (i :: ·) = some ns := h
    cases hr : asBools r with
    | none => rw [hr] at h'; cases h'
    | some ms => rw [hr] at h'; cases h'; rw [asBools_eq hr]; rfl
  | .none :: _, _, h => by cases h
  | .int _ :: _, _, h => by cases h
  | .str _ :: _, _, h => by cases h
  | .list _ :: _, _, h => by cases h
  | .tuple _ :: _, _, h => by cases h
  | .dict _ :: _, _, h => by cases h
def gSum : List D → Res D
  | [.list ds] => match asInts ds with
    | some ns => .ok (.int ns.sum)
    | none => .bad
  | _ => .bad
theorem gSum_ok : CallD K (rSum K) gSum := by
  intro Z H vs ds d Q s h e q
  unfold gSum at e
  split at e
  · split at e
    · rename_i hn
      cases e
      obtain ⟨v, rfl, hv⟩ := ps1 h
      obtain ⟨p, ws, rfl, h1, h2⟩ := hv.list s
      rw [asInts_eq hn] at h2
      rw [dps_ints h2] at h1
      exact ⟨p, _, rfl, h1, fin_e s q (.int _)⟩
    · cases e
  · cases e
def gAll : List D → Res D
  | [.list ds] => match asBools ds with
    | some ns => .ok (.bool (ns.all id))
    | none => .bad
  | _ => .bad
theorem gAll_ok : CallD K (rAll K) gAll := by
  intro Z H vs ds d Q s h e q
  unfold gAll at e
  split at e
  · split at e
    · rename_i hn
      cases e
      obtain ⟨v, rfl, hv⟩ := ps1 h
      obtain ⟨p, ws, rfl, h1, h2⟩ := hv.list s
      rw [asBools_eq hn] at h2
      rw [dps_bools h2] at h1
      exact ⟨p, _, rfl, h1, fin_e s q (.bl _)⟩
    · cases e
  · cases e
def gAny : List D → Res D
  | [.list ds] => match asBools ds with
    | some ns => .ok (.bool (ns.any id))
    | none => .bad
  | _ => .bad
theorem gAny_ok : CallD K (rAny K) gAny := by
  intro Z H vs ds d Q s h e q
  unfold gAny at e
  split at e
  · split at e
    · rename_i hn
      cases e
      obtain ⟨v, rfl, hv⟩ := ps1 h
      obtain ⟨p, ws, rfl, h1, h2⟩ := hv.list s
      rw [asBools_eq hn] at h2
      rw [dps_bools h2] at h1
      exact ⟨p, _, rfl, h1, fin_e s q (.bl _)⟩
    · cases e
  · cases e
/-! list, tuple -/
def gList : List D → Res RV
  | [.list ds] => .ok ⟨.list ds, true⟩
  | [.tuple ds] => .ok ⟨.list ds, true⟩
  | _ => .bad
theorem gList_ok : CallV K (fun xs H Q => ∃ p ys, xs = [.ref p] ∧ (SqL K H p ys ∨ SqT K H p ys) ∧ ∀ l, H l = none → Q (.ref l) (upd H l (.lst ys))) gList := by
  intro Z H vs ds d Q s h e q
  unfold gList at e
  split at e
  · cases e
    obtain ⟨v, rfl, hv⟩ := ps1 h
    obtain ⟨p, ws, rfl, h1, h2⟩ := hv.list s
    exact ⟨p, ws, rfl, .inl h1, fun a ha => fin_new s q ha h2⟩
  · cases e
    obtain ⟨v, rfl, hv⟩ := ps1 h
    obtain ⟨p, ws, rfl, h1, h2⟩ := hv.tup s
    exact ⟨p, ws, rfl, .inr h1, fun a ha => fin_new s q ha h2⟩
  · cases e
def gTuple : List D → Res D
  | [.list ds] => .ok (.tuple ds)
  | _ => .bad
theorem gTuple_ok : CallD K (fun xs H Q => ∃ p ys, xs = [.ref p] ∧ ((SqL K H p ys ∧ ∀ l, H l = none → Q (.ref l) (upd H l (.tup ys))) ∨ (SqT K H p ys ∧ Q (.ref p) H))) gTuple := by
  intro Z H vs ds d Q s h e q
  unfold gTuple at e
  split at e
  · cases e
    obtain ⟨v, rfl, hv⟩ := ps1 h
    obtain ⟨p, ws, rfl, h1, h2⟩ := hv.list s
    exact ⟨p, ws, rfl, .inl ⟨h1, fun a ha => fin_tup s q ha h2⟩⟩
  · cases e
/-! min, max of a list of data -/
def alikeL (ds : List D) : Bool := (ds.all fun x => ds.all fun y => PySem.W.alike x y)
def noNone (ds : List D) : Bool := ds.all fun x => match x with
  | .none => false
  | _ => true
theorem alikeL_ok {ds : List D} (h : alikeL ds = true) : PySem.W.AllAlike ds := by
  intro x hx y hy
  unfold alikeL at h
  rw [List.all_eq_true] at h
  have := h x hx
  rw [List.all_eq_true] at this
  exact this y hy
theorem noNone_ok {ds : List D} (h : noNone ds = true) : ∀ x ∈ ds, x ≠ .none := by
  intro x hx e
  unfold noNone at h
  rw [List.all_eq_true] at h
  have := h x hx
  rw [e] at this
  exact Bool.noConfusion this
def gBest (best : D → List D → D) : List D → Res D
  | [.list (d :: ds)] => if alikeL (d :: ds) = true ∧ noNone (d :: ds) = true ∧ PyData.depthAll (d :: ds) ≤ 64 then .ok (best d ds) else .bad
  | [.tuple (d :: ds)] => if alikeL (d :: ds) = true ∧ noNone (d :: ds) = true ∧ PyData.depthAll (d :: ds) ≤ 64 then .ok (best d ds) else .bad
  | _ => .bad
abbrev gMinL := gBest PySem.W.minD
abbrev gMaxL := gBest PySem.W.maxD
def rBest (K : PySem.W.Frag) (best : D → List D → D) : List V → Hp → VK → Prop := fun vs H Q => ∃ a xs d ds, vs = [.ref a] ∧ (SqL K H a xs ∨ SqT K H a xs) ∧ DpAll K H xs (d :: ds) ∧ alikeL (d :: ds) = true ∧ noNone (d :: ds) = true ∧ PyData.depthAll (d :: ds) ≤ 64 ∧
  ∀ (i : Nat) (w : V), xs[i]? = some w → (d :: ds)[i]? = some (best d ds) → Q w H
theorem fold_mem (f : D → D → Bool) : ∀ (ds : List D) (x : D), ds.foldl (fun a y => if f a y = true then y else a) x ∈ x :: ds
  | [], x => List.mem_cons_self
  | y :: r, x => by
    rw [List.foldl_cons]
    have h := fold_mem f r (if f x y = true then y else x)
    rcases List.mem_cons.mp h with h | h
    · rw [h]
      by_cases c : f x y = true
      · rw [if_pos c]; exact List.mem_cons_of_mem _ List.mem_cons_self
      · rw [if_neg c]; exact List.mem_cons_self
    · exact List.mem_cons_of_mem _ (List.mem_cons_of_mem _ h)
theorem best_core {X : Cx} {pins : List (Addr × Obj)} {s : Shared} {σ : L2.St} {its : List Value} {xs : List V} {ds : List D} {b : D} {i : Nat} {v : Value} {h' : Heap} {tk : Nat} {bs : List Addr} {Q : VK}
    (I : Inv X pins σ H s) (rv : Vals xs its) (hd : DpAll X.K H xs ds) (ha : alikeL ds = true) (hb : b ∈ ds) (hv : its.toArray[i]? = some v) (hr : Reads h' v b bs) (hk : ∀ c o, s.heap.get? c = some o → h'.get? c = some o)
    (q : ∀ (i : Nat) (w : V), xs[i]? = some w → ds[i]? = some b → Q w H) : EP X pins σ Q v { s with heap := h', toks := tk } := by
  have hi : its[i]? = some v := by simpa using hv
  have hlt : i < its.length := (List.getElem?_eq_some_iff.mp hi).1
  have hlen := rv.length
  have hx : xs[i]? = some xs[i] := List.getElem?_eq_getElem (by omega)
  obtain ⟨u, e1, ru⟩ := rv.get hx
  rw [hi] at e1; cases e1
  obtain ⟨d, e2, hd2⟩ := dps_get' hd hx
  obtain ⟨as, r1⟩ := Dp.reads I d _ _ hd2 ru
  have r2 : Reads h' v d as := PyProof.Rows.Reads.keeps hk r1
  have e3 : b = d := PySem.W.alike_unique _ _ _ _ _ (alikeL_ok ha b hb d (List.mem_of_getElem? e2)) hr r2
  subst e3
  exact ⟨xs[i], H, I.kept hk, ru, q i _ hx e2⟩
theorem cr_minD {X : Cx} (hu : X.A.units + 66 < cLine) (hc : X.calm = true) : CallR X (.builtin "min") (rBest X.K PySem.W.minD) := by
  intro pins s σ H vs us Q I r h
  obtain ⟨a, xs, d, ds, rfl, hs, hd, h1, h2, h3, q⟩ := h
  rw [Vals.ref1 r]
  rcases hs with hs | hs
  · obtain ⟨its, rv, hl, hz⟩ := I.list hs
    obtain ⟨as, hr⟩ := Dp.readsAll I _ _ _ hd rv
    refine PySem.W.min_list_data (I.ok.hd hc) hl.isList hr ⟨alikeL_ok h1, noNone_ok h2⟩ (by omega) fun i v h' tk bs hv hr' hk => ?_
    exact best_core I rv hd h1 (by unfold PySem.W.minD; exact fold_mem (fun a y => PySem.W.dataLt y a) ds d) hv hr' hk q
  · obtain ⟨its, rv, hl, hz⟩ := I.tuple hs
    obtain ⟨as, hr⟩ := Dp.readsAll I _ _ _ hd rv
    refine PySem.W.min_tuple_data (I.ok.hd hc) hl hr ⟨alikeL_ok h1, noNone_ok h2⟩ (by omega) fun i v h' tk bs hv hr' hk => ?_
    exact best_core I rv hd h1 (by unfold PySem.W.minD; exact fold_mem (fun a y => PySem.W.dataLt y a) ds d) hv hr' hk q
theorem cr_maxD {X : Cx} (hu : X.A.units + 66 < cLine) (hc : X.calm = true) : CallR X (.builtin "max") (rBest X.K PySem.W.maxD) := by
  intro pins s σ H vs us Q I r h
  obtain ⟨a, xs, d, ds, rfl, hs, hd, h1, h2, h3, q⟩ := h
  rw [Vals.ref1 r]
  rcases hs with hs | hs
  · obtain ⟨its, rv, hl, hz⟩ := I.list hs
    obtain ⟨as, hr⟩ := Dp.readsAll I _ _ _ hd rv
    refine PySem.W.max_list_data (I.ok.hd hc) hl.isList hr ⟨alikeL_ok h1, noNone_ok h2⟩ (by omega) fun i v h' tk bs hv hr' hk => ?_
    exact best_core I rv hd h1 (by unfold PySem.W.maxD; exact fold_mem (fun a y => PySem.W.dataLt a y) ds d) hv hr' hk q
  · obtain ⟨its, rv, hl, hz⟩ := I.tuple hs
    obtain ⟨as, hr⟩ := Dp.readsAll I _ _ _ hd rv
    refine PySem.W.max_tuple_data (I.ok.hd hc) hl hr ⟨alikeL_ok h1, noNone_ok h2⟩ (by omega) fun i v h' tk bs hv hr' hk => ?_
    exact best_core I rv hd h1 (by unfold PySem.W.maxD; exact fold_mem (fun a y => PySem.W.dataLt a y) ds d) hv hr' hk q
theorem gBest_ok {best : D → List D → D} : CallD K (rBest K best) (gBest best) := by
  intro Z H vs ds d Q s h e q
  unfold gBest at e
  split at e
  · obtain ⟨⟨h1, h2, h3⟩, e⟩ := ite_ok e
    cases e
    obtain ⟨v, rfl, hv⟩ := ps1 h
    obtain ⟨p, ws, rfl, k1, k2⟩ := hv.list s
    refine ⟨p, ws, _, _, rfl, .inl k1, dps_mono s k2, h1, h2, h3, fun i w e1 e2 => ?_⟩
    obtain ⟨d', e3, h4⟩ := dps_get' k2 e1
    rw [e2] at e3; cases e3
    exact fin_e s q h4
  · obtain ⟨⟨h1, h2, h3⟩, e⟩ := ite_ok e
    cases e
    obtain ⟨v, rfl, hv⟩ := ps1 h
    obtain ⟨p, ws, rfl, k1, k2⟩ := hv.tup s
    refine ⟨p, ws, _, _, rfl, .inr k1, dps_mono s k2, h1, h2, h3, fun i w e1 e2 => ?_⟩
    obtain ⟨d', e3, h4⟩ := dps_get' k2 e1
    rw [e2] at e3; cases e3
    exact fin_e s q h4
  · cases e
/-! sorted -/
def sortableL (ds : List D) : Bool := (ds.all fun d => match d with
  | .tuple (_ :: _) => true
  | _ => false) || (ds.all fun d => match d with
  | .none => false
  | .tuple _ => false
  | _ => true)
theorem sortableL_ok {ds : List D} (h : sortableL ds = true) : PySem.W.Sortable ds := by
  unfold sortableL at h
  rw [Bool.or_eq_true, List.all_eq_true, List.all_eq_true] at h
  rcases h with h | h
  · refine .inl fun d hd => ?_
    have := h d hd
    cases d with
    | tuple xs =>
      cases xs with
      | nil => exact Bool.noConfusion this
      | cons x r => exact ⟨_, _, rfl⟩
    | _ => exact Bool.noConfusion this
  · refine .inr fun d hd => ?_
    have := h d hd
    cases d with
    | tuple xs => exact Bool.noConfusion this
    | none => exact Bool.noConfusion this
    | _ => exact ⟨(fun z => nomatch z), (fun _ z => nomatch z)⟩
def leD : D → D → Bool := PySem.W.dataLe false (fun d : D => d)
def gSorted : List D → Res RV
  | [.list ds] => if alikeL ds = true ∧ sortableL ds = true ∧ PyData.depthAll ds ≤ 64 then .ok ⟨.list (ds.mergeSort leD), true⟩ else .bad
  | _ => .bad
def rSortedD (K : PySem.W.Frag) : List V → Hp → VK → Prop := fun vs H Q => ∃ a xs ds, vs = [.ref a] ∧ SqL K H a xs ∧ DpAll K H xs ds ∧ alikeL ds = true ∧ sortableL ds = true ∧ PyData.depthAll ds ≤ 64 ∧
  ∀ p, H p = none → Q (.ref p) (upd H p (.lst (((xs.zip ds).mergeSort (PySem.W.dataLe false (fun b : V × D => b.2))).map (·.1))))
theorem depth_mem : ∀ {ds : List D} {d : D}, d ∈ ds → d.depth ≤ PyData.depthAll ds
  | x :: r, d, h => by
    rw [PyData.depthAll]
    rcases List.mem_cons.mp h with rfl | h
    · omega
    · have := depth_mem h; omega
theorem each_of : ∀ {xs : List V} {us : List Value} {ds : List D} {R : Value → V × D → Prop}, Vals xs us → DpAll K H xs ds → (∀ v u d, RelV v u → Dp K H v d → R u (v, d)) → PySem.W.EachIs R us (xs.zip ds)
  | _, _, _, _, .nil, .nil, _ => .nil
  | _, _, _, _, .cons a b, .cons c d, h => .cons (h _ _ _ a c) (each_of b d h)
theorem each_vals : ∀ {us : List Value} {bs : List (V × D)}, PySem.W.EachIs (fun (u : Value) (b : V × D) => RelV b.1 u) us bs → Vals (bs.map (·.1)) us
  | _, _, .nil => .nil
  | _, _, .cons a b => .cons a (each_vals b)
theorem zip_snd : ∀ {xs : List V} {ds : List D}, xs.length = ds.length → (xs.zip ds).map (·.2) = ds
  | [], [], _ => rfl
  | x :: r, d :: s, h => by
    rw [List.zip_cons_cons, List.map_cons, zip_snd (by simpa using h)]
theorem cr_sortedD {X : Cx} (hu : X.A.units + 66 < cLine) : CallR X (.builtin "sorted") (rSortedD X.K) := by
  intro pins s σ H vs us Q I r h
  obtain ⟨a, xs, ds, rfl, hs, hd, h1, h2, h3, q⟩ := h
  obtain ⟨its, rv, hl, hz⟩ := I.list hs
  rw [Vals.ref1 r]
  have ez := zip_snd (dps_length hd)
  have lz : (xs.zip ds).length = xs.length := by rw [List.length_zip, dps_length hd]; omega
  refine PySem.W.sorted_data (R := fun (u : Value) (b : V × D) => RelV b.1 u) (enc := fun b : V × D => b.2) (bs := xs.zip ds) hl.isList (each_of rv hd fun v u d a _ => a) (each_of rv hd fun v u d a b => Dp.reads I d v u b a) (by rw [ez]; exact alikeL_ok h1) (by rw [ez]; exact sortableL_ok h2) (by rw [lz]; exact hz)
    (fun b hb => ?_) fun out ho eo => ?_
  · have : b.2 ∈ ds := by rw [← ez]; exact List.mem_map_of_mem hb
    have := depth_mem this
    omega
  · obtain ⟨ep, he'⟩ := PyProof.Rows.sortedAll_at s.heap its out.toArray
    have v2 := each_vals eo
    have hlen := v2.length
    have l3 : out.length ≤ sizeLine := by rw [ho, lz]; exact hz
    exact ⟨.ref _, upd H (s.heap.objs.size + 1) (.lst _), I.laid (t' := s.toks) (fun _ _ => PyProof.Rows.sortedAll_old) (Nat.le_succ _) ⟨by rw [hlen]; exact l3, out, ep, v2, he'⟩, rfl, q _ (I.hok.fresh (Nat.le_succ _))⟩
theorem dps_of_zip {Z : Hp} : ∀ {bs : List (V × D)}, (∀ b ∈ bs, Dp K Z b.1 b.2) → DpAll K Z (bs.map (·.1)) (bs.map (·.2))
  | [], _ => .nil
  | b :: r, h => .cons (h b List.mem_cons_self) (dps_of_zip fun c hc => h c (List.mem_cons_of_mem _ hc))
theorem dps_zip {Z : Hp} : ∀ {xs : List V} {ds : List D}, DpAll K Z xs ds → ∀ b ∈ xs.zip ds, Dp K Z b.1 b.2
  | _, _, .nil, b, hb => by simp at hb
  | _, _, .cons a c, b, hb => by
    rw [List.zip_cons_cons] at hb
    rcases List.mem_cons.mp hb with rfl | hb
    · exact a
    · exact dps_zip c b hb
theorem gSorted_ok : CallV K (rSortedD K) gSorted := by
  intro Z H vs ds d Q s h e q
  unfold gSorted at e
  split at e
  · rename_i ds
    obtain ⟨⟨h1, h2, h3⟩, e⟩ := ite_ok e
    cases e
    obtain ⟨v, rfl, hv⟩ := ps1 h
    obtain ⟨p, ws, rfl, k1, k2⟩ := hv.list s
    refine ⟨p, ws, _, rfl, k1, dps_mono s k2, h1, h2, h3, fun a ha => fin_new s q ha ?_⟩
    have e1 : ds.mergeSort leD = ((ws.zip ds).mergeSort (PySem.W.dataLe false (fun b : V × D => b.2))).map (·.2) := by
      have z := List.map_mergeSort (r := PySem.W.dataLe false (fun b : V × D => b.2)) (s := leD) (f := fun b : V × D => b.2) (l := ws.zip ds) (fun _ _ _ _ => rfl)
      rw [zip_snd (dps_length k2)] at z
      exact z.symm
    rw [e1]
    exact dps_of_zip fun b hb => dps_zip k2 b ((List.mergeSort_perm _ _).mem_iff.mp hb)
  · cases e
/-! isinstance -/
def tyD : D → Option String
  | .none => some "NoneType"
  | .bool _ => some "bool"
  | .int _ => some "int"
  | .str _ => some "str"
  | .list _ => some "list"
  | .tuple _ => some "tuple"
  | _ => none
def gIsa (T : String) (d : D) : Res D := match tyD d with
  | some a => match kitB a T with
    | some b => .ok (.bool b)
    | none => .bad
  | none => .bad
theorem tyX_of {v : V} {d : D} (s : Same Z H) (h : DpP K Z H v d) {a : String} (e : tyD d = some a) : TyX K H v (.type a) := by
  have hc := h.cur s
  cases hc with
  | non => cases e; exact .base .non
  | bl b => cases e; exact .base (.bl b)
  | int b => cases e; exact .base (.int b)
  | str b => cases e; exact .base (.str b)
  | lst h1 h2 =>
    cases e
    rcases h1 with (h1 | ⟨o, h1⟩) | ⟨o, its, n, h1, h3, _⟩
    · exact .base (.lst h1)
    · exact .base (.frz h1)
    · exact .kList h1 h3
  | tup h1 h2 =>
    cases e
    rcases h1 with (h1 | ⟨o, h1⟩) | ⟨o, its, n, h1, h3, _⟩
    · exact .base (.tup h1)
    · exact .fTuple h1
    · exact .kTuple h1 h3
end
end PV

set_option Elab.async false
set_option linter.all false
set_option maxRecDepth 100000
namespace PV
open PySem PySem.Spec L2
set_option autoImplicit false
section
variable {X : Cx} {p p2 pos : Pos} {e : Expr} {es : List Expr} {f : Env → Res D} {fs : Env → Res (List D)}
theorem E_isi {y : Str} {T : String} (he : PE X e (tP X.K f)) (m : X.mg "isinstance" = none) (mT : X.mg y = none) (hv : bootBuiltins y = some (.type T)) (hg : Gl X "isinstance" := by rfl) (hgT : Gl X y := by rfl) (hn : y ≠ "__name__" := by decide) (hdb : (y == ("__debug__" : Str)) = false := by decide)
    (h1 : starEach [e, .Name y p2] X.env = (false, eval e X.env) :: starEach [.Name y p2] X.env := by rfl) (h2 : starEach [.Name y p2] X.env = (false, eval (.Name y p2) X.env) :: starEach [] X.env := by rfl) (hpl : (backTo pos (starEach [.Name y p2] X.env)).any (·.1) = false := by rfl) :
    PE X (.Call (.Name "isinstance" p) [e, .Name y p2] [] pos) (tE X.K (eOp1 (gIsa T) f)) :=
  pe_mono (pe_callB (call_isi (X := X)) hg m PyProof.Rows.boot_isinstance (pa_cons he (pa_cons (pe_bltn (v := .ty T) hgT mT hv rfl hn hdb) pa_nil h2) h1) (by decide) (by decide) h1 hpl) fun σ H Q ⟨H0, Z0, Z, env, d, hE, hf, q⟩ => by
    obtain ⟨x, k1, k2⟩ := Res.bind_eq hf
    unfold gIsa at k2
    split at k2
    · rename_i a ha
      split at k2
      · rename_i b hb
        cases k2
        exact ⟨H0, Z0, Z, env, x, hE, k1, fun v H1 Z1 e1 d1 => ⟨v, .ty T, .type a, .type T, b, rfl, .ty T, tyX_of e1.zh d1 ha, kit_ty hb, q _ H1 Z1 e1 (.bl b)⟩⟩
      · cases k2
    · cases k2
end
/-! ### defs -/
def spD (K : PySem.W.Frag) (m : List D → Res RV) : Sp := fun vs H Q _ => ∃ Z ds r, Same Z H ∧ DpAll K Z vs ds ∧ m ds = .ok r ∧ ∀ v H' Z', Ext Z H Z' H' → RepV K H Z' H' v r → Q v H'
/-- a def of the module: what it hands back -/
structure Cal (P : Program) (w : World) (K : PySem.W.Frag) (mg : Str → Option Value) (base : Heap) (x : Str) (k : Nat) (m : List D → Res RV) : Prop where
  ex : ∃ f fd ps, FnOk P w K mg base CX0 k f fd ps (spD K m) ∧ mg x = some (.ref f) ∧ PySem.W.keepIn K (.ref f) = true ∧ Binds K fd ps []
def eCall (m : List D → Res RV) (fs : Env → Res (List D)) : Env → Res RV := fun env => (fs env).bind m
section
variable {X : Cx} {x : Str} {k j : Nat} {p p2 pos : Pos} {e : Expr} {es : List Expr} {f : Env → Res D} {fs : Env → Res (List D)} {m : List D → Res RV}
theorem Room.le {A : Around} (r : Room j A) (h : k ≤ j) : Room k A := r.mono h
theorem V_call (C : Cal X.prog X.w X.K X.mg X.base x k m) (hr : Room j X.A) (ha : PA X (e :: es) (tA X.K fs)) (hk : k ≤ j := by decide) (hg : Gl X x := by rfl) (hdb : (x == ("__debug__" : Str)) = false := by decide)
    (he : starEach (e :: es) X.env = (false, eval e X.env) :: starEach es X.env := by rfl) (hpl : (backTo pos (starEach es X.env)).any (·.1) = false := by rfl) : PE X (.Call (.Name x p) (e :: es) [] pos) (tV X.K (eCall m fs)) := by
  obtain ⟨f, fd, ps, F, hm, kp, b⟩ := C.ex
  refine pe_mono (pe_call F (hr.mono hk) hg hm kp b .nil pass0 ha hdb he hpl) fun σ H Q ⟨H0, Z0, Z, env, r, hE, hf, q⟩ => ?_
  obtain ⟨ds, h1, h2⟩ := Res.bind_eq hf
  refine ⟨H0, Z0, Z, env, ds, hE, h1, fun vs H1 Z1 e1 d1 => ⟨Z1, ds, r, e1.zh, by rw [List.append_nil]; exact d1, h2, fun v H' Z' e2 hr => q v H' Z' (e1.trans e2) (hr.pre e1.hh)⟩⟩
theorem V_call0 (C : Cal X.prog X.w X.K X.mg X.base x k m) (hr : Room j X.A) (hk : k ≤ j := by decide) (hg : Gl X x := by rfl) (hdb : (x == ("__debug__" : Str)) = false := by decide) : PE X (.Call (.Name x p) [] [] pos) (tV X.K (eCall m aNil)) := by
  obtain ⟨f, fd, ps, F, hm, kp, b⟩ := C.ex
  refine pe_mono (pe_call0 F (hr.mono hk) hg hm kp b .nil pass0 hdb) fun σ H Q ⟨H0, Z0, Z, env, r, hE, hf, q⟩ => ?_
  obtain ⟨ds, h1, h2⟩ := Res.bind_eq hf
  cases h1
  exact ⟨Z, [], r, hE.sz, .nil, h2, fun v H' Z' e2 hr => q v H' Z' e2 hr⟩
end
/-! ### environments that change -/
section
variable {K : PySem.W.Frag} {H0 Z0 Z H : Hp} {σ : L2.St} {env : Env} {i : Nat} {v : V} {d : D} {p : Addr} {vs : List V} {ds es : List D}
theorem EnvOk.lt (h : EnvOk K H0 Z0 Z H σ env) {s : Sl} (e : env[i]? = some s) : i < σ.length := by
  rw [h.len]
  exact (List.getElem?_eq_some_iff.mp e).1
theorem get_set {α : Type} {l : List α} {i j : Nat} {x y : α} (h : (l.set i x)[j]? = some y) : (i = j ∧ y = x) ∨ (i ≠ j ∧ l[j]? = some y) := by
  by_cases c : i = j
  · subst c
    rw [List.getElem?_set] at h
    simp only [if_true] at h
    split at h
    · cases h; exact .inl ⟨rfl, rfl⟩
    · cases h
  · rw [List.getElem?_set_ne c] at h
    exact .inr ⟨c, h⟩
theorem OwAt.set {env : Env} {i j : Nat} {s : Sl} (h : OwAt (env.set i s) j) : (i = j ∧ s.ow = true) ∨ (i ≠ j ∧ OwAt env j) := by
  obtain ⟨t, h1, h2⟩ := h
  rcases get_set h1 with ⟨a, rfl⟩ | ⟨a, b⟩
  · exact .inl ⟨a, h2⟩
  · exact .inr ⟨a, t, b, h2⟩
/-- a slot gets a frozen value -/
theorem EnvOk.setFz (h : EnvOk K H0 Z0 Z H σ env) (hi : i < env.length) (hd : Dp K Z v d) : EnvOk K H0 Z0 Z H (σ.set i (some v)) (env.set i (.fz d)) := by
  refine ⟨h.sz, h.s0, h.z0, h.no, by rw [List.length_set, List.length_set, h.len], fun j s e => ?_, fun a b q hab e1 e2 e3 e4 => ?_⟩
  · rcases get_set e with ⟨rfl, rfl⟩ | ⟨c, e⟩
    · exact ⟨some v, by rw [List.getElem?_set_self (by rw [h.len]; exact hi)], v, rfl, hd⟩
    · obtain ⟨o, h1, h2⟩ := h.at_ j s e
      exact ⟨o, by rw [List.getElem?_set_ne c]; exact h1, h2⟩
  · rcases e1.set with ⟨_, z⟩ | ⟨c1, e1⟩
    · cases z
    · rcases e2.set with ⟨_, z⟩ | ⟨c2, e2⟩
      · cases z
      · rw [List.getElem?_set_ne c1] at e3
        rw [List.getElem?_set_ne c2] at e4
        exact h.sep a b q hab e1 e2 e3 e4
/-- a slot is forgotten -/
theorem EnvOk.setNo (h : EnvOk K H0 Z0 Z H σ env) (i : Nat) : EnvOk K H0 Z0 Z H σ (env.set i .no) := by
  refine ⟨h.sz, h.s0, h.z0, h.no, by rw [List.length_set, h.len], fun j s e => ?_, fun a b q hab e1 e2 e3 e4 => ?_⟩
  · rcases get_set e with ⟨rfl, rfl⟩ | ⟨c, e⟩
    · have hi : i < env.length := by
        have := (List.getElem?_eq_some_iff.mp e).1
        rw [List.length_set] at this
        exact this
      obtain ⟨o, h1, _⟩ := h.at_ i _ (List.getElem?_eq_getElem hi)
      exact ⟨o, h1, True.intro⟩
    · exact h.at_ j s e
  · rcases e1.set with ⟨_, z⟩ | ⟨c1, e1⟩
    · cases z
    · rcases e2.set with ⟨_, z⟩ | ⟨c2, e2⟩
      · cases z
      · exact h.sep a b q hab e1 e2 e3 e4
def clr (is : List Nat) (env : Env) : Env := is.foldl (fun e i => e.set i .no) env
theorem EnvOk.clr : ∀ (is : List Nat) {env : Env}, EnvOk K H0 Z0 Z H σ env → EnvOk K H0 Z0 Z H σ (PV.clr is env)
  | [], _, h => h
  | i :: r, _, h => EnvOk.clr r (h.setNo i)
/-- a slot gets a list of its own -/
theorem EnvOk.setOwn (h : EnvOk K H0 Z0 Z H σ env) (hi : i < env.length) (hp : H p = some (.lst vs)) (zp : Z p = none) (h0 : H0 p = none) (hd : DpAll K Z vs ds)
    (hn : ∀ (j : Nat), OwAt env j → σ[j]? = some (some (.ref p)) → False) : EnvOk K H0 Z0 Z H (σ.set i (some (.ref p))) (env.set i (.own ds)) := by
  refine ⟨h.sz, h.s0, h.z0, h.no, by rw [List.length_set, List.length_set, h.len], fun j s e => ?_, fun a b q hab e1 e2 e3 e4 => ?_⟩
  · rcases get_set e with ⟨rfl, rfl⟩ | ⟨c, e⟩
    · exact ⟨some (.ref p), by rw [List.getElem?_set_self (by rw [h.len]; exact hi)], p, vs, rfl, hp, zp, h0, hd⟩
    · obtain ⟨o, h1, h2⟩ := h.at_ j s e
      exact ⟨o, by rw [List.getElem?_set_ne c]; exact h1, h2⟩
  · rcases e1.set with ⟨rfl, z⟩ | ⟨c1, e1⟩
    · rcases e2.set with ⟨z2, _⟩ | ⟨c2, e2⟩
      · exact hab z2
      · rw [List.getElem?_set_self (by rw [h.len]; exact hi)] at e3
        cases e3
        rw [List.getElem?_set_ne c2] at e4
        exact hn b e2 e4
    · rw [List.getElem?_set_ne c1] at e3
      rcases e2.set with ⟨rfl, z⟩ | ⟨c2, e2⟩
      · rw [List.getElem?_set_self (by rw [h.len]; exact hi)] at e4
        cases e4
        exact hn a e1 e3
      · rw [List.getElem?_set_ne c2] at e4
        exact h.sep a b q hab e1 e2 e3 e4
/-- what stands at a slot that is a list of its own -/
theorem EnvOk.own (h : EnvOk K H0 Z0 Z H σ env) (e : env[i]? = some (.own ds)) : ∃ p vs, σ[i]? = some (some (.ref p)) ∧ H p = some (.lst vs) ∧ Z p = none ∧ H0 p = none ∧ DpAll K Z vs ds := by
  obtain ⟨o, h1, p, vs, rfl, h2⟩ := h.at_ i _ e
  exact ⟨p, vs, h1, h2⟩
theorem EnvOk.owat (h : EnvOk K H0 Z0 Z H σ env) {j : Nat} (e : OwAt env j) : ∃ p, σ[j]? = some (some (.ref p)) ∧ H p ≠ none := by
  obtain ⟨s, h1, h2⟩ := e
  obtain ⟨o, k1, k2⟩ := h.at_ j s h1
  cases s with
  | own ds => obtain ⟨p, vs, rfl, k3, _⟩ := k2; exact ⟨p, k1, by rw [k3]; exact fun z => nomatch z⟩
  | ob k => obtain ⟨p, x, rfl, k3, _⟩ := k2; exact ⟨p, k1, by rw [k3]; exact fun z => nomatch z⟩
  | no => cases h2
  | fz d => cases h2
  | «at» a => cases h2
/-- .. which is changed -/
theorem EnvOk.mut (h : EnvOk K H0 Z0 Z H σ env) (e : env[i]? = some (.own ds)) (hp : σ[i]? = some (some (.ref p))) (hd : DpAll K Z vs es) : EnvOk K H0 Z0 Z (upd H p (.lst vs)) σ (env.set i (.own es)) := by
  obtain ⟨p', ws, h1, h2, h3, h4, h5⟩ := h.own e
  rw [hp] at h1; cases h1
  refine ⟨same_updR h3 h.sz, same_updR h4 h.s0, h.z0, h.no, by rw [List.length_set, h.len], fun j s e' => ?_, fun a b q hab e1 e2 e3 e4 => ?_⟩
  · rcases get_set e' with ⟨rfl, rfl⟩ | ⟨c, e'⟩
    · exact ⟨_, hp, p, vs, rfl, upd_same, h3, h4, hd⟩
    · obtain ⟨o, k1, k2⟩ := h.at_ j s e'
      refine ⟨o, k1, ?_⟩
      cases s with
      | no => exact True.intro
      | fz d => exact k2
      | own zs =>
        obtain ⟨q, us, rfl, k3, k4⟩ := k2
        have : q ≠ p := fun z => h.sep i j p c (.own e) (.own e') hp (by rw [k1, z])
        exact ⟨q, us, rfl, by rw [upd_ne this]; exact k3, k4⟩
      | «at» b => exact k2
      | ob k =>
        obtain ⟨q, x, rfl, k3, k4⟩ := k2
        have : q ≠ p := fun z => h.sep i j p c (.own e) (.ob e') hp (by rw [k1, z])
        exact ⟨q, x, rfl, by rw [upd_ne this]; exact k3, k4⟩
  · have get : ∀ (c : Nat), OwAt (env.set i (.own es)) c → OwAt env c := fun c z => by
      rcases z.set with ⟨rfl, _⟩ | ⟨_, z⟩
      · exact .own e
      · exact z
    exact h.sep a b q hab (get a e1) (get b e2) e3 e4
/-- .. which is frozen -/
theorem EnvOk.freeze (h : EnvOk K H0 Z0 Z H σ env) (e : env[i]? = some (.own ds)) : ∃ Z', EnvOk K H0 Z0 Z' H σ (env.set i (.fz (.list ds))) := by
  obtain ⟨p, vs, h1, h2, h3, h4, h5⟩ := h.own e
  have sz : Same Z (upd Z p (.lst vs)) := same_upd h3
  refine ⟨upd Z p (.lst vs), fun b o q => ?_, h.s0, h.z0.trans sz, fun a ha hz => ?_, by rw [List.length_set, h.len], fun j s e' => ?_, fun a b q hab e1 e2 e3 e4 => ?_⟩
  · by_cases hb : b = p
    · subst hb; rw [upd_same] at q; rw [h2]; exact q
    · rw [upd_ne hb] at q; exact h.sz b o q
  · have : a ≠ p := fun z => ha (z ▸ h4)
    rw [upd_ne this]
    exact h.no a ha hz
  · rcases get_set e' with ⟨rfl, rfl⟩ | ⟨c, e'⟩
    · exact ⟨_, h1, _, rfl, .lst (.of upd_same) (dps_mono sz h5)⟩
    · obtain ⟨o, k1, k2⟩ := h.at_ j s e'
      refine ⟨o, k1, ?_⟩
      cases s with
      | no => exact True.intro
      | fz d => obtain ⟨v, k3, k4⟩ := k2; exact ⟨v, k3, dp_mono sz k4⟩
      | own zs =>
        obtain ⟨q, us, rfl, k3, k4, k5, k6⟩ := k2
        have : q ≠ p := fun z => h.sep i j p c (.own e) (.own e') h1 (by rw [k1, z])
        exact ⟨q, us, rfl, k3, by rw [upd_ne this]; exact k4, k5, dps_mono sz k6⟩
      | «at» b => exact k2
      | ob k =>
        obtain ⟨q, x, rfl, k3, k4, k5, k6⟩ := k2
        have : q ≠ p := fun z => h.sep i j p c (.own e) (.ob e') h1 (by rw [k1, z])
        exact ⟨q, x, rfl, k3, by rw [upd_ne this]; exact k4, k5, k6.mono sz⟩
  · rcases e1.set with ⟨_, z⟩ | ⟨c1, e1⟩
    · cases z
    · rcases e2.set with ⟨_, z⟩ | ⟨c2, e2⟩
      · cases z
      · exact h.sep a b q hab e1 e2 e3 e4
end
/-! ### statements -/
inductive Out where
  | next (e : Env)
  | ret (r : RV)
  | brk (e : Env)
  | cont (e : Env)
  | exc (c : Str)
  | bad
def RetOk (K : PySem.W.Frag) (H0 Z0 Z' H' : Hp) (v : V) (r : RV) : Prop := Ext Z0 H0 Z' H' ∧ RepV K H0 Z' H' v r
/-- what is wished of an exception that leaves: its class's name, the heap -/
structure WO where
  x : Option (Str → Hp → Prop)
  /-- whether what is handed back must have new items -/
  n : Bool
abbrev W0 : WO := ⟨none, false⟩
/-- the items that are lists are new lists -/
def IsNew (H0 H : Hp) (p : Addr) (vs : List V) (ds : List D) : Prop := vs.length = ds.length ∧ ∀ (k : Nat) (es : List D), ds[k]? = some (.list es) → ∃ q ws, vs[k]? = some (.ref q) ∧ q ≠ p ∧ H0 q = none ∧ H q = some (.lst ws) ∧ ws.length = es.length
/-- a new list, or a tuple, whose lists are new -/
def NewV (H0 H : Hp) (v : V) : D → Prop
  | .list ds => ∃ p vs, v = .ref p ∧ H0 p = none ∧ H p = some (.lst vs) ∧ IsNew H0 H p vs ds
  | .tuple ds => ∃ p vs, v = .ref p ∧ H0 p = none ∧ H p = some (.tup vs) ∧ IsNew H0 H p vs ds
  | _ => False
def OutOk (K : PySem.W.Frag) (W : WO) (H0 Z0 : Hp) (E : Ends) : Out → Prop
  | .next env => ∀ Z σ H, EnvOk K H0 Z0 Z H σ env → E.nx σ H
  | .brk env => ∀ Z σ H, EnvOk K H0 Z0 Z H σ env → E.bk σ H
  | .cont env => ∀ Z σ H, EnvOk K H0 Z0 Z H σ env → E.ct σ H
  | .ret r => ∀ Z v H, RetOk K H0 Z0 Z H v r → (W.n = true → NewV H0 H v r.d) → E.rt v H
  | .exc c => match W.x with | none => False | some w => ∀ Z H, Ext Z0 H0 Z H → w c H
  | .bad => False
def tS (K : PySem.W.Frag) (W : WO) (m : Env → Out) : TS := fun E σ H => ∃ H0 Z0 Z env, EnvOk K H0 Z0 Z H σ env ∧ OutOk K W H0 Z0 E (m env)
def sNil : Env → Out := fun env => .next env
def Out.andThen (o : Out) (g : Env → Out) : Out := match o with
  | .next e => g e
  | .ret r => .ret r
  | .brk e => .brk e
  | .cont e => .cont e
  | .exc c => .exc c
  | .bad => .bad
def sSeq (f g : Env → Out) : Env → Out := fun env => (f env).andThen g
theorem OutOk.rebase {K : PySem.W.Frag} {W : WO} {H0 Z0 Z H : Hp} {σ : L2.St} {env : Env} {E : Ends} {o : Out} (h : EnvOk K H0 Z0 Z H σ env) (q : OutOk K W H0 Z0 E o) : OutOk K W H0 Z E o := by
  cases o with
  | next e => exact fun Z' σ' H' h' => q Z' σ' H' (h.unbase h')
  | brk e => exact fun Z' σ' H' h' => q Z' σ' H' (h.unbase h')
  | cont e => exact fun Z' σ' H' h' => q Z' σ' H' (h.unbase h')
  | ret r => exact fun Z' v H' ⟨h1, h2⟩ hn => q Z' v H' ⟨⟨h1.hh, h.z0.trans h1.zz, h1.zh, fun a ha hz => h1.no a ha (h.no a ha hz)⟩, h2⟩ hn
  | exc c =>
    obtain ⟨wx, wn⟩ := W
    cases wx with
    | none => exact q
    | some w => exact fun Z' H' h1 => q Z' H' ⟨h1.hh, h.z0.trans h1.zz, h1.zh, fun a ha hz => h1.no a ha (h.no a ha hz)⟩
  | bad => exact q
section
variable {X : Cx} {W : WO} {st : Stmt} {rest : List Stmt} {f g : Env → Out} {e : Expr} {pos : Pos} {fe : Env → Res D} {fv : Env → Res RV}
theorem Ss_nil : PSs X [] (tS X.K W sNil) := pss_mono pss_nil fun E σ H ⟨H0, Z0, Z, env, hE, q⟩ => q Z σ H hE
theorem Ss_cons (h1 : PS X st (tS X.K W f)) (h2 : PSs X rest (tS X.K W g)) : PSs X (st :: rest) (tS X.K W (sSeq f g)) := pss_mono (pss_cons h1 h2) fun E σ H ⟨H0, Z0, Z, env, hE, q⟩ => by
  refine ⟨H0, Z0, Z, env, hE, ?_⟩
  unfold sSeq at q
  cases hf : f env with
  | next e => rw [hf] at q; exact fun Z' σ' H' h' => ⟨H0, Z0, Z', e, h', q⟩
  | ret r => rw [hf] at q; exact q
  | brk e => rw [hf] at q; exact q
  | cont e => rw [hf] at q; exact q
  | exc c => rw [hf] at q; exact q
  | bad => rw [hf] at q; exact q
theorem Ss_one (h1 : PS X st (tS X.K W f)) : PSs X [st] (tS X.K W f) := pss_one h1
theorem S_pass : PS X (.Pass pos) (tS X.K W sNil) := ps_mono ps_pass fun E σ H ⟨H0, Z0, Z, env, hE, q⟩ => q Z σ H hE
def sBrk : Env → Out := fun env => .brk env
def sCont : Env → Out := fun env => .cont env
theorem S_brk : PS X (.Break pos) (tS X.K W sBrk) := ps_mono ps_break fun E σ H ⟨H0, Z0, Z, env, hE, q⟩ => q Z σ H hE
theorem S_cont : PS X (.Continue pos) (tS X.K W sCont) := ps_mono ps_continue fun E σ H ⟨H0, Z0, Z, env, hE, q⟩ => q Z σ H hE
/-! freezing ahead of a statement -/
def fz1 (i : Nat) (env : Env) : Env := match env[i]? with
  | some (.own ds) => env.set i (.fz (.list ds))
  | _ => env
def sFz (is : List Nat) (f : Env → Out) : Env → Out := fun env => f (is.foldl (fun e i => fz1 i e) env)
theorem EnvOk.fz1 {K : PySem.W.Frag} {H0 Z0 Z H : Hp} {σ : L2.St} {env : Env} (h : EnvOk K H0 Z0 Z H σ env) (i : Nat) : ∃ Z', EnvOk K H0 Z0 Z' H σ (PV.fz1 i env) := by
  unfold PV.fz1
  split
  · rename_i ds e; exact h.freeze e
  · exact ⟨Z, h⟩
theorem EnvOk.fzs {K : PySem.W.Frag} {H0 Z0 H : Hp} {σ : L2.St} : ∀ (is : List Nat) {Z : Hp} {env : Env}, EnvOk K H0 Z0 Z H σ env → ∃ Z', EnvOk K H0 Z0 Z' H σ (is.foldl (fun e i => PV.fz1 i e) env)
  | [], Z, _, h => ⟨Z, h⟩
  | i :: r, _, _, h => let ⟨_, h1⟩ := h.fz1 i; EnvOk.fzs r h1
theorem S_fz (is : List Nat) (h : PS X st (tS X.K W f)) : PS X st (tS X.K W (sFz is f)) := ps_mono h fun E σ H ⟨H0, Z0, Z, env, hE, q⟩ =>
  let ⟨Z', h'⟩ := EnvOk.fzs is hE
  ⟨H0, Z0, Z', _, h', q⟩
/-- slots that nobody reads any more -/
def sClr (is : List Nat) : (Env → Out) → Env → Out := fun f env => f (clr is env)
theorem S_clr (is : List Nat) (h : PS X st (tS X.K W f)) : PS X st (tS X.K W (sClr is f)) := ps_mono h fun E σ H ⟨H0, Z0, Z, env, hE, q⟩ => ⟨H0, Z0, Z, _, hE.clr is, q⟩
/-! expressions as statements, return -/
def Res.out {α : Type} (r : Res α) (k : α → Out) : Out := match r with
  | .ok a => k a
  | .exc _ => .bad
  | .bad => .bad
@[simp] theorem Res.out_ok {α : Type} (a : α) (k : α → Out) : (Res.ok a).out k = k a := Eq.trans rfl rfl
@[simp] theorem Res.out_bad {α : Type} (k : α → Out) : (Res.bad : Res α).out k = .bad := Eq.trans rfl rfl
theorem Res.out_eq {α : Type} {K : PySem.W.Frag} {W : WO} {H0 Z0 : Hp} {E : Ends} {r : Res α} {k : α → Out} (h : OutOk K W H0 Z0 E (r.out k)) : ∃ a, r = .ok a ∧ OutOk K W H0 Z0 E (k a) := by
  cases r with
  | ok a => exact ⟨a, rfl, h⟩
  | exc c => exact h.elim
  | bad => exact h.elim
def sExpr (f : Env → Res RV) : Env → Out := fun env => (f env).out fun _ => .next env
theorem S_expr (he : PE X e (tV X.K fv)) (hs : swapsWith e none pos.line X.env = pure false := by rfl) : PS X (.Expr e pos) (tS X.K W (sExpr fv)) := ps_mono (ps_expr he hs) fun E σ H ⟨H0, Z0, Z, env, hE, q⟩ => by
  obtain ⟨r, h1, h2⟩ := Res.out_eq q
  exact ⟨H0, Z0, Z, env, r, hE, h1, fun v H' Z' e hr => h2 Z' σ H' (hE.ext e)⟩
def sRetV (f : Env → Res RV) : Env → Out := fun env => (f env).out fun r => .ret r
theorem EnvOk.toExt {K : PySem.W.Frag} {H0 Z0 Z H : Hp} {σ : L2.St} {env : Env} (h : EnvOk K H0 Z0 Z H σ env) : Ext Z0 H0 Z H := ⟨h.s0, h.z0, h.sz, h.no⟩
theorem S_retV (he : PE X e (tV X.K fv)) (hW : W.n = false := by rfl) : PS X (.Return (some e) pos) (tS X.K W (sRetV fv)) := ps_mono (ps_ret he) fun E σ H ⟨H0, Z0, Z, env, hE, q⟩ => by
  obtain ⟨r, h1, h2⟩ := Res.out_eq q
  exact ⟨H0, Z0, Z, env, r, hE, h1, fun v H' Z' e hr => h2 Z' v H' ⟨hE.toExt.trans e, hr.pre hE.s0⟩ (fun z => by rw [hW] at z; cases z)⟩
def sRetE (f : Env → Res D) : Env → Out := fun env => (f env).out fun d => .ret ⟨d, false⟩
theorem S_retE (he : PE X e (tE X.K fe)) (hW : W.n = false := by rfl) : PS X (.Return (some e) pos) (tS X.K W (sRetE fe)) := ps_mono (ps_ret he) fun E σ H ⟨H0, Z0, Z, env, hE, q⟩ => by
  obtain ⟨r, h1, h2⟩ := Res.out_eq q
  exact ⟨H0, Z0, Z, env, r, hE, h1, fun v H' Z' e hr => h2 Z' v H' ⟨hE.toExt.trans e, hr⟩ (fun z => by rw [hW] at z; cases z)⟩
def sRetVar (i : Nat) : Env → Out := fun env => match env[i]? with
  | some (.fz d) => .ret ⟨d, false⟩
  | some (.own ds) => .ret ⟨.list ds, true⟩
  | _ => .bad
theorem S_retVar (i : Nat) {x : Str} {p : Pos} (hN : X.N[i]? = some x := by rfl) (hv : Vis X.env.scope x := by first | exact Or.inl rfl | exact Or.inr (Or.inl rfl) | exact Or.inr (Or.inr rfl)) (hd : (x == ("__debug__" : Str)) = false := by decide)
    (hcd : (x == ("__classdict__" : Str)) = false := by decide) (hW : W.n = false := by rfl) : PS X (.Return (some (.Name x p)) pos) (tS X.K W (sRetVar i)) := ps_mono (ps_ret (pe_var hN hv hd hcd)) fun E σ H ⟨H0, Z0, Z, env, hE, q⟩ => by
  unfold sRetVar at q
  split at q
  · rename_i d e
    obtain ⟨o, h1, v, rfl, h3⟩ := hE.at_ i _ e
    exact ⟨v, h1, q Z v H ⟨hE.toExt, h3⟩ (fun z => by rw [hW] at z; cases z)⟩
  · rename_i ds e
    obtain ⟨p, vs, h1, h2, h3, h4, h5⟩ := hE.own e
    exact ⟨_, h1, q Z _ H ⟨hE.toExt, p, vs, ds, rfl, rfl, h4, h3, h2, h5⟩ (fun z => by rw [hW] at z; cases z)⟩
  · exact q.elim
def sRetN : Env → Out := fun _ => .ret ⟨.none, false⟩
theorem S_retN (hW : W.n = false := by rfl) : PS X (.Return none pos) (tS X.K W sRetN) := ps_mono ps_retN fun E σ H ⟨H0, Z0, Z, env, hE, q⟩ => q Z .non H ⟨hE.toExt, .non⟩ (fun z => by rw [hW] at z; cases z)
/-! if -/
def sIf (c : Env → Res Bool) (f g : Env → Out) : Env → Out := fun env => (c env).out fun b => if b = true then f env else g env
theorem S_if {c : Expr} {a b : List Stmt} {tc : Env → Res Bool} (hc : PT X c (tT X.K tc)) (ha : PSs X a (tS X.K W f)) (hb : PSs X b (tS X.K W g)) : PS X (.If c a b pos) (tS X.K W (sIf tc f g)) := ps_mono (ps_if hc ha hb) fun E σ H ⟨H0, Z0, Z, env, hE, q⟩ => by
  obtain ⟨b, h1, h2⟩ := Res.out_eq q
  refine ⟨H0, Z0, Z, env, b, hE, h1, fun H' Z' e => ?_⟩
  cases b with
  | true => rw [if_pos rfl] at h2 ⊢; exact ⟨H0, Z0, Z', env, hE.ext e, h2⟩
  | false => rw [if_neg Bool.false_ne_true] at h2 ⊢; exact ⟨H0, Z0, Z', env, hE.ext e, h2⟩
/-! targets -/
structure Tg where
  f : D → Env → Res Env
  ix : List Nat
def tG (K : PySem.W.Frag) (g : Tg) : TG := fun v σ H Q => ∃ H0 Z0 Z env d env', EnvOk K H0 Z0 Z H σ env ∧ Dp K Z v d ∧ g.f d env = .ok env' ∧ ∀ σ', EnvOk K H0 Z0 Z H σ' env' → σ'.length = σ.length → (∀ j, j ∉ g.ix → σ'[j]? = σ[j]?) → (∀ (j : Nat), OwAt env' j → OwAt env j ∧ σ'[j]? = σ[j]?) → Q σ' H
def gNm (i : Nat) : Tg := ⟨fun d env => if i < env.length then .ok (env.set i (.fz d)) else .bad, [i]⟩
theorem pg_mono {tg : Expr} {t t' : TG} (h : PG X tg t) (k : ∀ v σ H Q, t' v σ H Q → t v σ H Q) : PG X tg t' := ⟨fun pins s σ H v u Q I r q => h.run pins s σ H v u Q I r (k v σ H Q q)⟩
theorem G_nm (i : Nat) {x : Str} (hN : X.N.Nodup) (hi : X.N[i]? = some x := by rfl) (hx : Loc X.env.scope x := by first | exact Or.inl rfl | exact Or.inr rfl) (hf : X.fn x = true ∨ X.env.scope.names.lookup x = some .local := by first | exact .inl rfl | exact .inr rfl) : PG X (.Name x pos) (tG X.K (gNm i)) :=
  pg_mono (pg_name hN hi hx hf) fun v σ H Q ⟨H0, Z0, Z, env, d, env', hE, hd, hg, q⟩ => by
    obtain ⟨hl, e⟩ := ite_ok hg
    cases e
    exact q _ (hE.setFz hl hd) (List.length_set ..) (fun j hj => List.getElem?_set_ne fun z => hj (by rw [z]; exact List.mem_singleton.mpr rfl)) fun j e => by
      rcases e.set with ⟨_, z⟩ | ⟨c, e⟩
      · cases z
      · exact ⟨e, List.getElem?_set_ne c⟩
structure Tgs where
  f : List D → Env → Res Env
  ix : List Nat
def tGs (K : PySem.W.Frag) (g : Tgs) : TGs := fun vs σ H Q => ∃ H0 Z0 Z env ds env', EnvOk K H0 Z0 Z H σ env ∧ DpAll K Z vs ds ∧ g.f ds env = .ok env' ∧ ∀ σ', EnvOk K H0 Z0 Z H σ' env' → σ'.length = σ.length → (∀ j, j ∉ g.ix → σ'[j]? = σ[j]?) → (∀ (j : Nat), OwAt env' j → OwAt env j ∧ σ'[j]? = σ[j]?) → Q σ' H
theorem pgs_mono {ts : List Expr} {t t' : TGs} (h : PGs X ts t) (k : ∀ v σ H Q, t' v σ H Q → t v σ H Q) : PGs X ts t' := ⟨fun pins s σ H v u Q I r q => h.run pins s σ H v u Q I r (k v σ H Q q)⟩
def gsNil : Tgs := ⟨fun ds env => match ds with | [] => .ok env | _ => .bad, []⟩
def gsCons (g : Tg) (r : Tgs) : Tgs := ⟨fun ds env => match ds with | d :: ds => (g.f d env).bind fun env1 => r.f ds env1 | _ => .bad, g.ix ++ r.ix⟩
theorem Gs_nil : PGs X [] (tGs X.K gsNil) := pgs_mono pgs_nil fun vs σ H Q ⟨H0, Z0, Z, env, ds, env', hE, hd, hg, q⟩ => by
  cases hd with
  | nil => cases hg; exact ⟨rfl, q σ hE rfl (fun _ _ => rfl) fun _ e => ⟨e, rfl⟩⟩
  | cons a b => cases hg
theorem Gs_cons {t : Expr} {ts : List Expr} {g : Tg} {r : Tgs} (h1 : PG X t (tG X.K g)) (h2 : PGs X ts (tGs X.K r)) (hs : (assignEach (t :: ts) X.env).map (·.2) = assign t X.env :: (assignEach ts X.env).map (·.2) := by rfl) : PGs X (t :: ts) (tGs X.K (gsCons g r)) :=
  pgs_mono (pgs_cons h1 h2 hs) fun vs σ H Q ⟨H0, Z0, Z, env, ds, env', hE, hd, hg, q⟩ => by
    cases hd with
    | nil => cases hg
    | cons a b =>
      obtain ⟨env1, k1, k2⟩ := Res.bind_eq hg
      exact ⟨_, _, rfl, H0, Z0, Z, env, _, env1, hE, a, k1, fun σ1 hE1 l1 n1 o1 => ⟨H0, Z0, Z, env1, _, env', hE1, b, k2, fun σ2 hE2 l2 n2 o2 => q σ2 hE2 (l2.trans l1) (fun j hj => by
        rw [n2 j (fun z => hj (List.mem_append_right _ z)), n1 j (fun z => hj (List.mem_append_left _ z))]) fun j e => let ⟨e1, f1⟩ := o2 j e; let ⟨e2, f2⟩ := o1 j e1; ⟨e2, f1.trans f2⟩⟩⟩
def gTp (n : Nat) (gs : Tgs) : Tg := ⟨fun d env => match d with | .tuple ds => if ds.length = n then gs.f ds env else .bad | .list ds => if ds.length = n then gs.f ds env else .bad | _ => .bad, gs.ix⟩
theorem G_tp {es : List Expr} {k n : Nat} {gs : Tgs} (hc : X.calm = true) (h : PGs X es (tGs X.K gs)) (hn : (assignEach es X.env).length = n := by rfl) (hst : (assignEach es X.env).findIdx? (·.1) = none := by rfl) : PG X (.Tuple es k pos) (tG X.K (gTp n gs)) :=
  ⟨fun pins s σ H v u Q I r ⟨H0, Z0, Z, env, d, env', hE, hd, hg, q⟩ => by
    cases d with
    | tuple ds =>
      obtain ⟨hl, hg⟩ := ite_ok hg
      cases hd with
      | tup h1 h2 => exact (pg_tup hc h hn hst).run pins s σ H _ u Q I r ⟨_, _, rfl, seqT hE.sz h1, (dps_length h2).trans hl, H0, Z0, Z, env, ds, env', hE, h2, hg, q⟩
    | list ds =>
      obtain ⟨hl, hg⟩ := ite_ok hg
      cases hd with
      | lst h1 h2 => exact (pg_lst hc h hn hst).run pins s σ H _ u Q I r ⟨_, _, rfl, hE.sz.seq h1, (dps_length h2).trans hl, H0, Z0, Z, env, ds, env', hE, h2, hg, q⟩
    | _ => cases hg⟩
/-! assignments -/
def sSetE (g : Tg) (f : Env → Res D) : Env → Out := fun env => (f env).out fun d => (g.f d env).out fun e => .next e
theorem S_asgE {tg : Expr} {g : Tg} (he : PE X e (tE X.K fe)) (hg : PG X tg (tG X.K g)) (hs : swapsWithSole [tg] e pos.line X.env = pure false := by rfl) (hw : swappedStores [tg] e X.env = pure none := by rfl)
    (h1 : (assignEach [tg] X.env).map (·.2) = [assign tg X.env] := by rfl) : PS X (.Assign [tg] e pos) (tS X.K W (sSetE g fe)) := ps_mono (ps_asg he hg hs hw h1) fun E σ H ⟨H0, Z0, Z, env, hE, q⟩ => by
  obtain ⟨d, k1, k2⟩ := Res.out_eq q
  obtain ⟨env', k2, k3⟩ := Res.out_eq k2
  exact ⟨H0, Z0, Z, env, d, hE, k1, fun v H' Z' e hd => ⟨H0, Z0, Z', env, d, env', hE.ext e, hd, k2, fun σ' hE' _ _ _ => k3 Z' σ' H' hE'⟩⟩
def sSet (i : Nat) (f : Env → Res D) : Env → Out := fun env => (f env).out fun d => if i < env.length then .next (env.set i (.fz d)) else .bad
theorem S_set (i : Nat) {x : Str} {p : Pos} (he : PE X e (tE X.K fe)) (hN : X.N.Nodup) (hi : X.N[i]? = some x := by rfl) (hx : Loc X.env.scope x := by first | exact Or.inl rfl | exact Or.inr rfl) (hs : swapsWith e (some (.Name x p)) pos.line X.env = pure false := by rfl) (hf : X.fn x = true ∨ X.env.scope.names.lookup x = some .local := by first | exact .inl rfl | exact .inr rfl) :
    PS X (.Assign [.Name x p] e pos) (tS X.K W (sSet i fe)) := ps_mono (ps_set hN hi hx he hs hf) fun E σ H ⟨H0, Z0, Z, env, hE, q⟩ => by
  obtain ⟨d, k1, k2⟩ := Res.out_eq q
  refine ⟨H0, Z0, Z, env, d, hE, k1, fun v H' Z' e hd => ?_⟩
  by_cases hl : i < env.length
  · rw [if_pos hl] at k2; exact k2 Z' _ H' ((hE.ext e).setFz hl hd)
  · rw [if_neg hl] at k2; exact k2.elim
def slOf (r : RV) : Sl := match r with
  | ⟨.list ds, true⟩ => .own ds
  | ⟨d, _⟩ => .fz d
def sSetV (i : Nat) (f : Env → Res RV) : Env → Out := fun env => (f env).out fun r => if i < env.length then .next (env.set i (slOf r)) else .bad
theorem EnvOk.setV {K : PySem.W.Frag} {H0 Z0 Z H Z' H' : Hp} {σ : L2.St} {env : Env} {i : Nat} {v : V} {r : RV} (h : EnvOk K H0 Z0 Z H σ env) (hi : i < env.length) (e : Ext Z H Z' H') (hr : RepV K H Z' H' v r) : ∃ Z2, EnvOk K H0 Z0 Z2 H' (σ.set i (some v)) (env.set i (slOf r)) := by
  obtain ⟨d, fr⟩ := r
  cases fr with
  | true =>
    obtain ⟨p, vs, ds, rfl, e1, h1, h2, h3, h4⟩ := hr
    have e1 : d = .list ds := e1
    subst e1
    refine ⟨Z', (h.ext e).setOwn hi h3 h2 (h.s0.free h1) h4 fun j k1 k2 => ?_⟩
    obtain ⟨q, k3, k4⟩ := h.owat k1
    rw [k3] at k2
    cases k2
    exact k4 h1
  | false =>
    have hr : Dp K Z' v d := hr
    have : slOf ⟨d, false⟩ = .fz d := by cases d <;> rfl
    rw [this]
    exact ⟨Z', (h.ext e).setFz hi hr⟩
theorem S_setV (i : Nat) {x : Str} {p : Pos} (he : PE X e (tV X.K fv)) (hN : X.N.Nodup) (hi : X.N[i]? = some x := by rfl) (hx : Loc X.env.scope x := by first | exact Or.inl rfl | exact Or.inr rfl) (hs : swapsWith e (some (.Name x p)) pos.line X.env = pure false := by rfl) (hf : X.fn x = true ∨ X.env.scope.names.lookup x = some .local := by first | exact .inl rfl | exact .inr rfl) :
    PS X (.Assign [.Name x p] e pos) (tS X.K W (sSetV i fv)) := ps_mono (ps_set hN hi hx he hs hf) fun E σ H ⟨H0, Z0, Z, env, hE, q⟩ => by
  obtain ⟨r, k1, k2⟩ := Res.out_eq q
  refine ⟨H0, Z0, Z, env, r, hE, k1, fun v H' Z' e hr => ?_⟩
  by_cases hl : i < env.length
  · rw [if_pos hl] at k2
    obtain ⟨Z2, h2⟩ := hE.setV hl e hr
    exact k2 Z2 _ H' h2
  · rw [if_neg hl] at k2; exact k2.elim
/-- a, b = x, y -/
def sPar (i j : Nat) (fs : Env → Res (List D)) : Env → Out := fun env => (fs env).out fun ds => match ds with
  | [d, d'] => if i < env.length ∧ j < env.length then .next ((env.set i (.fz d)).set j (.fz d')) else .bad
  | _ => .bad
theorem S_par (i j : Nat) {x y : Str} {a b : Expr} {fs : Env → Res (List D)} {px py pt : Pos} {kt k2 pt2} (hc : X.calm = true) (hN : X.N.Nodup) (ha : PA X [a, b] (tA X.K fs)) (hi : X.N[i]? = some x := by rfl) (hj : X.N[j]? = some y := by rfl) (hij : i ≠ j := by decide)
    (hx : X.env.scope.names.lookup x = some .local := by rfl) (hy : X.env.scope.names.lookup y = some .local := by rfl)
    (hw : swappedStores [.Tuple [.Name x px, .Name y py] kt pt] (.Tuple [a, b] k2 pt2) X.env = pure (some [x, y]) := by rfl)
    (hs : swapsWithSole [.Tuple [.Name x px, .Name y py] kt pt] (.Tuple [a, b] k2 pt2) pos.line X.env = pure false := by rfl) :
    PS X (.Assign [.Tuple [.Name x px, .Name y py] kt pt] (.Tuple [a, b] k2 pt2) pos) (tS X.K W (sPar i j fs)) := ps_mono (ps_par hc hN hi hj hij hx hy ha hw hs) fun E σ H ⟨H0, Z0, Z, env, hE, q⟩ => by
  obtain ⟨ds, k1, k2⟩ := Res.out_eq q
  refine ⟨H0, Z0, Z, env, ds, hE, k1, fun vs H' Z' e hd => ?_⟩
  cases hd with
  | nil => exact k2.elim
  | cons h1 hd =>
    cases hd with
    | nil => exact k2.elim
    | cons h2 hd =>
      cases hd with
      | cons _ _ => exact k2.elim
      | nil =>
        by_cases hl : i < env.length ∧ j < env.length
        · have k2 : OutOk X.K W H0 Z0 E (if i < env.length ∧ j < env.length then .next ((env.set i (.fz _)).set j (.fz _)) else .bad) := k2
          rw [if_pos hl] at k2
          exact ⟨_, _, rfl, k2 Z' _ H' (((hE.ext e).setFz hl.1 h1).setFz (by rw [List.length_set]; exact hl.2) h2)⟩
        · have k2 : OutOk X.K W H0 Z0 E (if i < env.length ∧ j < env.length then .next ((env.set i (.fz _)).set j (.fz _)) else .bad) := k2
          rw [if_neg hl] at k2
          exact k2.elim
/-- x op= e, two ints -/
def sAug (i : Nat) (g : D → D → Res D) (f : Env → Res D) : Env → Out := fun env => (eVar i env).out fun x => (f env).out fun y => (g x y).out fun d => .next (env.set i (.fz d))
theorem S_aug (i : Nat) {x : Str} {op : Operator} {p : Pos} {h : Int → Int → Int} (ho : PIp X op (ipI h)) (hN : X.N.Nodup) (he : PE X e (tE X.K fe)) (hi : X.N[i]? = some x := by rfl) (hx : Loc X.env.scope x := by first | exact Or.inl rfl | exact Or.inr rfl) (hf : X.fn x = true ∨ X.env.scope.names.lookup x = some .local := by first | exact .inl rfl | exact .inr rfl) :
    PS X (.AugAssign (.Name x p) op e pos) (tS X.K W (sAug i (gInt cTrue fun i j => .int (h i j)) fe)) := ps_mono (ps_aug hN hi hx he ho hf) fun E σ H ⟨H0, Z0, Z, env, hE, q⟩ => by
  obtain ⟨d, k1, k2⟩ := Res.out_eq q
  obtain ⟨d', k3, k4⟩ := Res.out_eq k2
  obtain ⟨r, k5, k6⟩ := Res.out_eq k4
  have e0 := eVar_eq k1
  obtain ⟨o, h1, v, rfl, h3⟩ := hE.at_ i _ e0
  have hl : i < env.length := (List.getElem?_eq_some_iff.mp e0).1
  unfold gInt at k5
  split at k5
  · obtain ⟨_, k5⟩ := ite_ok k5
    cases k5
    cases h3
    refine ⟨_, h1, H0, Z0, Z, env, _, hE, k3, fun w H' Z' e hd => ?_⟩
    cases hd
    exact ⟨_, _, rfl, rfl, k6 Z' _ H' ((hE.ext e).setFz hl (.int _))⟩
  · cases k5
/-- x[k] = e -/
def sSetIx (i : Nat) (fi fe : Env → Res D) : Env → Out := fun env => (fe env).out fun d => (fi env).out fun k => match env[i]?, k with
  | some (.own ds), .int z => match ixN ds.length z with
    | some j => .next (env.set i (.own (ds.set j d)))
    | none => .bad
  | _, _ => .bad
theorem S_setIx (i : Nat) {x : Str} {b : Expr} {p p2 : Pos} {fi : Env → Res D} (he : PE X e (tE X.K fe)) (hb : PE X b (tE X.K fi)) (hN : X.N[i]? = some x := by rfl) (hv : Vis X.env.scope x := by first | exact Or.inl rfl | exact Or.inr (Or.inl rfl) | exact Or.inr (Or.inr rfl)) (hd : (x == ("__debug__" : Str)) = false := by decide)
    (hcd : (x == ("__classdict__" : Str)) = false := by decide) (hs : swapsWithSole [.Subscript (.Name x p) b p2] e pos.line X.env = pure false := by rfl) (hw : swappedStores [.Subscript (.Name x p) b p2] e X.env = pure none := by rfl)
    (h1 : (assignEach [.Subscript (.Name x p) b p2] X.env).map (·.2) = [assign (.Subscript (.Name x p) b p2) X.env] := by rfl)
    (ha : ∀ v, assign (.Subscript (.Name x p) b p2) X.env v = (do
      let ov ← holding [v] (eval (.Name x p) X.env)
      let iv ← holding [v, ov] (eval b X.env)
      standAt p2
      holding [v, ov, iv] (setItem ov iv v)
      release [v, ov, iv] []) := by intro _; rfl) : PS X (.Assign [.Subscript (.Name x p) b p2] e pos) (tS X.K W (sSetIx i fi fe)) :=
  ps_mono (ps_asg he (pg_sub (pe_var hN hv hd hcd) hb set_list ha) hs hw h1) fun E σ H ⟨H0, Z0, Z, env, hE, q⟩ => by
    obtain ⟨d, k1, k2⟩ := Res.out_eq q
    obtain ⟨k, k3, k4⟩ := Res.out_eq k2
    refine ⟨H0, Z0, Z, env, d, hE, k1, fun v H1 Z1 e1 hd => ?_⟩
    split at k4
    · rename_i ds z e0
      split at k4
      · rename_i j hj
        have hE1 := hE.ext e1
        obtain ⟨p, vs, g1, g2, g3, g4, g5⟩ := hE1.own e0
        refine ⟨_, g1, H0, Z0, Z1, env, _, hE1, k3, fun iv H2 Z2 e2 hi => ?_⟩
        cases hi
        have hE2 := hE1.ext e2
        obtain ⟨p', vs', f1, f2, f3, f4, f5⟩ := hE2.own e0
        rw [g1] at f1; cases f1
        have l := dps_length f5
        refine ⟨p, vs', z, j, rfl, rfl, f2, by rw [l]; exact hj, k4 Z2 σ _ (hE2.mut e0 g1 (dps_set j f5 (dp_mono e2.zz hd)))⟩
      · exact k4.elim
    · exact k4.elim
/-- x.append(e) -/
def sApp (i : Nat) (fe : Env → Res D) : Env → Out := fun env => (fe env).out fun d => match env[i]? with
  | some (.own ds) => if ds.length < 1000000 then .next (env.set i (.own (ds ++ [d]))) else .bad
  | _ => .bad
theorem S_app (i : Nat) {x : Str} {p apos cpos : Pos} (he : PE X e (tE X.K fe)) (hN : X.N[i]? = some x := by rfl) (hv : Vis X.env.scope x := by first | exact Or.inl rfl | exact Or.inr (Or.inl rfl) | exact Or.inr (Or.inr rfl)) (hd : (x == ("__debug__" : Str)) = false := by decide)
    (hcd : (x == ("__classdict__" : Str)) = false := by decide)
    (hbase : attributeBase (.Name x p) "append" X.env (eval (.Name x p) X.env) = eval (.Name x p) X.env := by rfl)
    (hfew : ((backTo cpos (starEach [e] X.env)).all (fun x => !x.1) && (backToKw cpos (keywordEach [] X.env)).all (fun x => x.1.isSome)
      && decide ([e].length + ([] : List Keyword).length + (if ([] : List Keyword).isEmpty then 0 else 1) < 30)) = true := by rfl)
    (hline : (apos.endLine == cpos.line) = true := by rfl) (hs : starEach [e] X.env = (false, eval e X.env) :: starEach [] X.env := by rfl) (hplain : (backTo cpos (starEach [] X.env)).any (·.1) = false := by rfl)
    (hs2 : swapsWith (.Call (.Attribute (.Name x p) "append" apos) [e] [] cpos) none pos.line X.env = pure false := by rfl) :
    PS X (.Expr (.Call (.Attribute (.Name x p) "append" apos) [e] [] cpos) pos) (tS X.K W (sApp i fe)) :=
  ps_mono (ps_expr (pe_bm PySem.F.plainAttrs_list PySem.F.slot_list_append PySem.F.type_list_append mt_append (pe_var hN hv hd hcd) (pa_cons he pa_nil hs) hbase hfew hline hs hplain) hs2) fun E σ H ⟨H0, Z0, Z, env, hE, q⟩ => by
    obtain ⟨d, k1, k2⟩ := Res.out_eq q
    split at k2
    · rename_i ds e0
      by_cases hl : ds.length < 1000000
      · rw [if_pos hl] at k2
        obtain ⟨p, vs, g1, g2, g3, g4, g5⟩ := hE.own e0
        refine ⟨_, g1, .inl ⟨rfl, vs, .of g2⟩, H0, Z0, Z, env, d, hE, k1, fun v H1 Z1 e1 hd => ?_⟩
        have hE1 := hE.ext e1
        obtain ⟨p', vs', f1, f2, f3, f4, f5⟩ := hE1.own e0
        rw [g1] at f1; cases f1
        exact ⟨p, vs', v, rfl, rfl, f2, by rw [dps_length f5]; exact lim_ok hl, k2 Z1 σ _ (hE1.mut e0 g1 (dps_append f5 (.cons hd .nil)))⟩
      · rw [if_neg hl] at k2; exact k2.elim
    · exact k2.elim
end
end PV

set_option Elab.async false
set_option linter.all false
set_option maxRecDepth 100000
namespace PV
open PySem PySem.Spec L2
set_option autoImplicit false
/-! ### what a loop walks -/
/-- the iterator yields ds, as long as Hs (a part of the heap) and Z stand -/
def ItOk (K : PySem.W.Frag) (Z Hs : Hp) (J : It) (ds : List D) : Prop := ∀ (i : Nat) (Z1 H : Hp), Same Z Z1 → Same Z1 H → Same Hs H →
  (ds.length ≤ i → J.stop i H) ∧ (i < ds.length → J.go i H) ∧ ∀ d x H', ds[i]? = some d → J.yld i H x H' → ∃ Z2, Ext Z1 H Z2 H' ∧ Dp K Z2 x d
/-- frozen (Z alone), or as the heap stands -/
def tI (K : PySem.W.Frag) (f : Env → Res (List D)) : TI := fun σ H R => ∃ H0 Z0 Z env ds, EnvOk K H0 Z0 Z H σ env ∧ f env = .ok ds ∧ ∀ J H' Z', Ext Z H Z' H' → ItOk K Z' Z' J ds → R J H'
def tIp (K : PySem.W.Frag) (f : Env → Res (List D)) : TI := fun σ H R => ∃ H0 Z0 Z env ds, EnvOk K H0 Z0 Z H σ env ∧ f env = .ok ds ∧ ∀ J H' Z', Ext Z H Z' H' → ItOk K Z' H' J ds → R J H'
def seqD : D → Res (List D)
  | .list xs => .ok xs
  | .tuple xs => .ok xs
  | _ => .bad
def iSeq (f : Env → Res D) : Env → Res (List D) := fun env => (f env).bind seqD
section
variable {X : Cx} {tg it e : Expr} {K : PySem.W.Frag} {Z Hs H : Hp} {a b : Addr} {vs ws : List V} {ds es : List D} {f g : Env → Res D} {fs : Env → Res (List D)}
theorem pi_mono {w w' : TI} (h : PI X tg it w) (k : ∀ σ H R, w' σ H R → w σ H R) : PI X tg it w' := ⟨fun pins s σ H R I q => h.run pins s σ H R I (k σ H R q)⟩
theorem pi_or {w w' : TI} (h : PI X tg it w) (h' : PI X tg it w') : PI X tg it (fun σ H R => w σ H R ∨ w' σ H R) := ⟨fun pins s σ H R I q => q.elim (h.run pins s σ H R I) (h'.run pins s σ H R I)⟩
theorem sq_get {i : Nat} {d : D} (h : DpAll K Z vs ds) (e : ds[i]? = some d) : ∃ v, vs[i]? = some v ∧ Dp K Z v d := dps_get h e
theorem it_list (h : SqL K Hs a vs) (hd : DpAll K Z vs ds) : ItOk K Z Hs (Itl K a) ds := fun i Z1 H s1 s2 s3 => by
  have hH := s3.seq h
  have l := dps_length hd
  refine ⟨fun hi => ⟨vs, hH, by omega⟩, fun hi => ⟨vs, vs[i]'(by omega), hH, List.getElem?_eq_getElem (by omega)⟩, fun d x H' e y => ?_⟩
  obtain ⟨rfl, y⟩ := y
  obtain ⟨v, h1, h2⟩ := dps_get hd e
  rw [y vs hH] at h1; cases h1
  exact ⟨Z1, .refl s2, dp_mono s1 h2⟩
theorem it_tup (h : SqT K Hs a vs) (hd : DpAll K Z vs ds) : ItOk K Z Hs (Itt K a) ds := fun i Z1 H s1 s2 s3 => by
  have hH := seqT s3 h
  have l := dps_length hd
  refine ⟨fun hi => ⟨vs, hH, by omega⟩, fun hi => ⟨vs, vs[i]'(by omega), hH, List.getElem?_eq_getElem (by omega)⟩, fun d x H' e y => ?_⟩
  obtain ⟨rfl, y⟩ := y
  obtain ⟨v, h1, h2⟩ := dps_get hd e
  rw [y vs hH] at h1; cases h1
  exact ⟨Z1, .refl s2, dp_mono s1 h2⟩
theorem I_seq (h : PE X e (tE X.K f)) : PI X tg e (tI X.K (iSeq f)) := pi_mono (pi_or (pi_list h) (pi_tup h)) fun σ H R ⟨H0, Z0, Z, env, ds, hE, hf, q⟩ => by
  obtain ⟨d, h1, h2⟩ := Res.bind_eq hf
  unfold seqD at h2
  split at h2
  · cases h2
    refine .inl ⟨H0, Z0, Z, env, _, hE, h1, fun v H' Z' e hd => ?_⟩
    cases hd with
    | lst k1 k2 => exact ⟨_, rfl, ⟨_, e.zh.seq k1⟩, q _ H' Z' e (it_list k1 k2)⟩
  · cases h2
    refine .inr ⟨H0, Z0, Z, env, _, hE, h1, fun v H' Z' e hd => ?_⟩
    cases hd with
    | tup k1 k2 => exact ⟨_, rfl, ⟨_, seqT e.zh k1⟩, q _ H' Z' e (it_tup k1 k2)⟩
  · cases h2
theorem Ip_seq (h : PE X e (tP X.K f)) : PI X tg e (tIp X.K (iSeq f)) := pi_mono (pi_or (pi_list h) (pi_tup h)) fun σ H R ⟨H0, Z0, Z, env, ds, hE, hf, q⟩ => by
  obtain ⟨d, h1, h2⟩ := Res.bind_eq hf
  unfold seqD at h2
  split at h2
  · cases h2
    refine .inl ⟨H0, Z0, Z, env, _, hE, h1, fun v H' Z' e hd => ?_⟩
    obtain ⟨p, vs, rfl, k1, k2⟩ := hd.list e.zh
    exact ⟨_, rfl, ⟨_, k1⟩, q _ H' Z' e (it_list k1 k2)⟩
  · cases h2
    refine .inr ⟨H0, Z0, Z, env, _, hE, h1, fun v H' Z' e hd => ?_⟩
    obtain ⟨p, vs, rfl, k1, k2⟩ := hd.tup e.zh
    exact ⟨_, rfl, ⟨_, k1⟩, q _ H' Z' e (it_tup k1 k2)⟩
  · cases h2
theorem Ip_of (h : PI X tg it (tI X.K fs)) : PI X tg it (tIp X.K fs) := pi_mono h fun σ H R ⟨H0, Z0, Z, env, ds, hE, hf, q⟩ => ⟨H0, Z0, Z, env, ds, hE, hf, fun J H' Z' e hJ => q J H' Z' e fun i Z1 H1 s1 s2 s3 => hJ i Z1 H1 s1 s2 (s1.trans s2)⟩
/-! range -/
def rangeD (lo : Int) (n : Nat) : List D := (List.range n).map fun (k : Nat) => .int (lo + (k : Int))
theorem rangeD_get {lo : Int} {n i : Nat} {d : D} (h : (rangeD lo n)[i]? = some d) : i < n ∧ d = .int (lo + (i : Int)) := by
  unfold rangeD at h
  rw [List.getElem?_map] at h
  by_cases hi : i < n
  · rw [List.getElem?_range hi] at h
    cases h
    exact ⟨hi, rfl⟩
  · rw [List.getElem?_eq_none (by simp; omega)] at h
    cases h
theorem rangeD_length {lo : Int} {n : Nat} : (rangeD lo n).length = n := by unfold rangeD; simp
theorem it_range {lo : Int} {n : Nat} : ItOk K Z Hs (Itr lo n) (rangeD lo n) := fun i Z1 H s1 s2 s3 => by
  refine ⟨fun hi => by rw [rangeD_length] at hi; exact hi, fun hi => by rw [rangeD_length] at hi; exact hi, fun d x H' e y => ?_⟩
  obtain ⟨rfl, rfl⟩ := y
  obtain ⟨_, rfl⟩ := rangeD_get e
  exact ⟨Z1, .refl s2, .int _⟩
def smallI (i : Int) : Bool := Nat.ble i.natAbs 1000000000000
theorem smallI_ok {i : Int} (h : smallI i = true) : -(2 ^ 62) ≤ i ∧ i < 2 ^ 62 := by
  unfold smallI at h
  have := Nat.le_of_ble_eq_true h
  omega
def iRange1 (f : Env → Res D) : Env → Res (List D) := fun env => (f env).bind fun d => match d with
  | .int j => if smallI j = true then .ok (rangeD 0 j.toNat) else .bad
  | _ => .bad
def iRange2 (f g : Env → Res D) : Env → Res (List D) := fun env => (f env).bind fun d => (g env).bind fun e => match d, e with
  | .int i, .int j => if smallI i = true ∧ smallI j = true then .ok (rangeD i (j - i).toNat) else .bad
  | _, _ => .bad
theorem I_range1 {p pos : Pos} (hm : X.mg "range" = none) (ha : PE X e (tP X.K f)) (hg : Gl X "range" := by rfl) (hs : starEach [e] X.env = [(false, eval e X.env)] := by rfl) : PI X tg (.Call (.Name "range" p) [e] [] pos) (tI X.K (iRange1 f)) := pi_mono (pi_range1 hg hm (pa_cons ha pa_nil hs) hs) fun σ H R ⟨H0, Z0, Z, env, ds, hE, hf, q⟩ => by
  obtain ⟨d, h1, h2⟩ := Res.bind_eq hf
  refine ⟨H0, Z0, Z, env, d, hE, h1, fun v H' Z' e hd => ?_⟩
  split at h2
  · obtain ⟨hc, h2⟩ := ite_ok h2
    cases h2
    have := hd.int; subst this
    exact ⟨_, rfl, (smallI_ok hc).1, (smallI_ok hc).2, q _ H' Z' e it_range⟩
  · cases h2
theorem I_range2 {p pos : Pos} {e2 : Expr} (hm : X.mg "range" = none) (ha : PE X e (tP X.K f)) (hb : PE X e2 (tP X.K g)) (hg : Gl X "range" := by rfl) (hs : starEach [e, e2] X.env = [(false, eval e X.env), (false, eval e2 X.env)] := by rfl) (hs2 : starEach [e2] X.env = [(false, eval e2 X.env)] := by rfl) :
    PI X tg (.Call (.Name "range" p) [e, e2] [] pos) (tI X.K (iRange2 f g)) := pi_mono (pi_range2 hg hm (pa_cons ha (pa_cons hb pa_nil hs2) (by rw [hs, hs2])) hs hs2) fun σ H R ⟨H0, Z0, Z, env, ds, hE, hf, q⟩ => by
  obtain ⟨d, h1, h2⟩ := Res.bind_eq hf
  obtain ⟨d2, h3, h4⟩ := Res.bind_eq h2
  refine ⟨H0, Z0, Z, env, d, hE, h1, fun v H1 Z1 e1 hd => ⟨H0, Z0, Z1, env, d2, hE.ext e1, h3, fun w H' Z' e2 hd2 => ?_⟩⟩
  split at h4
  · obtain ⟨hc, h4⟩ := ite_ok h4
    cases h4
    have := hd.int; subst this
    have := hd2.int; subst this
    exact ⟨_, _, rfl, ⟨(smallI_ok hc.1).1, (smallI_ok hc.1).2, (smallI_ok hc.2).1, (smallI_ok hc.2).2⟩, q _ H' Z' (e1.trans e2) it_range⟩
  · cases h4
/-! range(a, b, -1) -/
def rangeDn (lo : Int) (n : Nat) : List D := (List.range n).map fun (k : Nat) => .int (lo + (k : Int) * (-1))
theorem rangeDn_get {lo : Int} {n i : Nat} {d : D} (h : (rangeDn lo n)[i]? = some d) : i < n ∧ d = .int (lo + (i : Int) * (-1)) := by
  unfold rangeDn at h
  rw [List.getElem?_map] at h
  by_cases hi : i < n
  · rw [List.getElem?_range hi] at h
    cases h
    exact ⟨hi, rfl⟩
  · rw [List.getElem?_eq_none (by simp; omega)] at h
    cases h
theorem it_rangeDn {lo : Int} {n : Nat} : ItOk K Z Hs (Itc lo (-1) n) (rangeDn lo n) := fun i Z1 H s1 s2 s3 => by
  have hl : (rangeDn lo n).length = n := by unfold rangeDn; simp
  refine ⟨fun hi => by rw [hl] at hi; exact hi, fun hi => by rw [hl] at hi; exact hi, fun d x H' e y => ?_⟩
  obtain ⟨rfl, rfl⟩ := y
  obtain ⟨_, rfl⟩ := rangeDn_get e
  exact ⟨Z1, .refl s2, .int _⟩
def iRangeR (f : Env → Res D) : Env → Res (List D) := fun env => (f env).bind fun d => match d with
  | .int j => if smallI j = true then .ok (rangeDn (0 + ((j - 0).toNat : Int) - 1) (j - 0).toNat) else .bad
  | _ => .bad
theorem I_revRange {p p2 pos pos2 : Pos} (hm : X.mg "range" = none) (hr : X.mg "reversed" = none) (ha : PE X e (tP X.K f)) (hg : Gl X "range" := by rfl) (hg2 : Gl X "reversed" := by rfl) (na : starEach [e] X.env = (false, eval e X.env) :: starEach [] X.env := by rfl)
    (nb : starEach [.Call (.Name "range" p) [e] [] pos] X.env = (false, eval (.Call (.Name "range" p) [e] [] pos) X.env) :: starEach [] X.env := by rfl) :
    PI X tg (.Call (.Name "reversed" p2) [.Call (.Name "range" p) [e] [] pos] [] pos2) (tI X.K (iRangeR f)) := pi_mono (pi_revR hg2 hr (prg_1 hg hm ha na) nb) fun σ H R ⟨H0, Z0, Z, env, ds, hE, hf, q⟩ => by
  obtain ⟨d, h1, h2⟩ := Res.bind_eq hf
  refine ⟨H0, Z0, Z, env, d, hE, h1, fun v H' Z' e hd => ?_⟩
  split at h2
  · obtain ⟨hc, h2⟩ := ite_ok h2
    cases h2
    have := hd.int; subst this
    exact ⟨_, rfl, by decide, by decide, (smallI_ok hc).1, (smallI_ok hc).2, q _ H' Z' e it_rangeDn⟩
  · cases h2
/-! enumerate, zip, reversed -/
def enumD (ds : List D) : List D := ds.zipIdx.map fun p => .tuple [.int (p.2 : Int), p.1]
theorem enumD_get {ds : List D} {i : Nat} {d : D} (h : (enumD ds)[i]? = some d) : ∃ e, ds[i]? = some e ∧ d = .tuple [.int (i : Int), e] := by
  unfold enumD at h
  rw [List.getElem?_map, List.getElem?_zipIdx] at h
  cases hd : ds[i]? with
  | none => rw [hd] at h; cases h
  | some e =>
    rw [hd] at h
    refine ⟨e, rfl, ?_⟩
    have h' : PyData.tuple [.int ((0 + i : Nat) : Int), e] = d := Option.some.inj h
    rw [Nat.zero_add] at h'
    exact h'.symm
theorem enumD_length {ds : List D} : (enumD ds).length = ds.length := by unfold enumD; simp
theorem it_enum (h : SqL K Hs a vs) (hd : DpAll K Z vs ds) : ItOk K Z Hs (Ite K a) (enumD ds) := fun i Z1 H s1 s2 s3 => by
  have hH := s3.seq h
  have l := dps_length hd
  rw [enumD_length]
  refine ⟨fun hi => ⟨vs, hH, by omega⟩, fun hi => ⟨vs, vs[i]'(by omega), hH, List.getElem?_eq_getElem (by omega)⟩, fun d x H' e y => ?_⟩
  obtain ⟨T, x', rfl, nT, rfl, y⟩ := y
  obtain ⟨e', g1, rfl⟩ := enumD_get e
  obtain ⟨v, h1, h2⟩ := dps_get hd g1
  rw [y vs hH] at h1; cases h1
  exact ⟨_, .new s2 nT, .tup (.of upd_same) (.cons (.int _) (.cons (dp_mono (s1.trans (same_upd (s2.free nT))) h2) .nil))⟩
def listD : D → Res (List D)
  | .list xs => .ok xs
  | _ => .bad
def iEnumD (f : Env → Res D) : Env → Res (List D) := fun env => ((f env).bind listD).bind fun ds => .ok (enumD ds)
def iRevD (f : Env → Res D) : Env → Res (List D) := fun env => ((f env).bind listD).bind fun ds => .ok ds.reverse
theorem listD_eq {d : D} {ds : List D} (h : listD d = .ok ds) : d = .list ds := by
  unfold listD at h
  split at h
  · cases h; rfl
  · cases h
variable {elts : List Expr} {kk : Nat} {tpos p pos : Pos}
theorem Ip_enum (hm : X.mg "enumerate" = none) (ha : PE X e (tP X.K f)) (hg : Gl X "enumerate" := by rfl) (hs : starEach [e] X.env = [(false, eval e X.env)] := by rfl) : PI X (.Tuple elts kk tpos) (.Call (.Name "enumerate" p) [e] [] pos) (tIp X.K (iEnumD f)) := pi_mono (pi_enum hg hm (pa_cons ha pa_nil hs) hs) fun σ H R ⟨H0, Z0, Z, env, ds, hE, hf, q⟩ => by
  obtain ⟨es, h1, h2⟩ := Res.bind_eq hf
  obtain ⟨d, h0, h1⟩ := Res.bind_eq h1
  have := listD_eq h1; subst this
  cases h2
  refine ⟨H0, Z0, Z, env, _, hE, h0, fun v H' Z' e hd => ?_⟩
  obtain ⟨p, vs, rfl, k1, k2⟩ := hd.list e.zh
  exact ⟨p, vs, rfl, k1, q _ H' Z' e (it_enum k1 k2)⟩
theorem I_enum (hm : X.mg "enumerate" = none) (ha : PE X e (tE X.K f)) (hg : Gl X "enumerate" := by rfl) (hs : starEach [e] X.env = [(false, eval e X.env)] := by rfl) : PI X (.Tuple elts kk tpos) (.Call (.Name "enumerate" p) [e] [] pos) (tI X.K (iEnumD f)) := pi_mono (pi_enum hg hm (pa_cons ha pa_nil hs) hs) fun σ H R ⟨H0, Z0, Z, env, ds, hE, hf, q⟩ => by
  obtain ⟨es, h1, h2⟩ := Res.bind_eq hf
  obtain ⟨d, h0, h1⟩ := Res.bind_eq h1
  have := listD_eq h1; subst this
  cases h2
  refine ⟨H0, Z0, Z, env, _, hE, h0, fun v H' Z' e hd => ?_⟩
  cases hd with
  | lst k1 k2 => exact ⟨_, _, rfl, e.zh.seq k1, q _ H' Z' e (it_enum k1 k2)⟩
theorem it_rev (h : SqL K Hs a vs) (hd : DpAll K Z vs ds) : ItOk K Z Hs (Itv K a vs.length) ds.reverse := fun i Z1 H s1 s2 s3 => by
  have hH := s3.seq h
  have l := dps_length hd
  rw [List.length_reverse]
  refine ⟨fun hi => by show vs.length ≤ i; omega, fun hi => ⟨by omega, vs, vs[vs.length - 1 - i]'(by omega), hH, List.getElem?_eq_getElem (by omega)⟩, fun d x H' e y => ?_⟩
  obtain ⟨rfl, y⟩ := y
  have hi : i < ds.length := by
    have := (List.getElem?_eq_some_iff.mp e).1
    rw [List.length_reverse] at this
    exact this
  rw [List.getElem?_reverse hi] at e
  obtain ⟨v, h1, h2⟩ := dps_get hd e
  rw [← l, y vs hH] at h1; cases h1
  exact ⟨Z1, .refl s2, dp_mono s1 h2⟩
theorem I_rev (hm : X.mg "reversed" = none) (ha : PE X e (tE X.K f)) (hg : Gl X "reversed" := by rfl) (hs : starEach [e] X.env = [(false, eval e X.env)] := by rfl) : PI X tg (.Call (.Name "reversed" p) [e] [] pos) (tI X.K (iRevD f)) := pi_mono (pi_reversed hg hm (pa_cons ha pa_nil hs) hs) fun σ H R ⟨H0, Z0, Z, env, ds, hE, hf, q⟩ => by
  obtain ⟨es, h1, h2⟩ := Res.bind_eq hf
  obtain ⟨d, h0, h1⟩ := Res.bind_eq h1
  have := listD_eq h1; subst this
  cases h2
  refine ⟨H0, Z0, Z, env, _, hE, h0, fun v H' Z' e hd => ?_⟩
  cases hd with
  | lst k1 k2 => exact ⟨_, _, rfl, e.zh.seq k1, q _ H' Z' e (it_rev k1 k2)⟩
theorem Ip_rev (hm : X.mg "reversed" = none) (ha : PE X e (tP X.K f)) (hg : Gl X "reversed" := by rfl) (hs : starEach [e] X.env = [(false, eval e X.env)] := by rfl) : PI X tg (.Call (.Name "reversed" p) [e] [] pos) (tIp X.K (iRevD f)) := pi_mono (pi_reversed hg hm (pa_cons ha pa_nil hs) hs) fun σ H R ⟨H0, Z0, Z, env, ds, hE, hf, q⟩ => by
  obtain ⟨es, h1, h2⟩ := Res.bind_eq hf
  obtain ⟨d, h0, h1⟩ := Res.bind_eq h1
  have := listD_eq h1; subst this
  cases h2
  refine ⟨H0, Z0, Z, env, _, hE, h0, fun v H' Z' e hd => ?_⟩
  obtain ⟨p, vs, rfl, k1, k2⟩ := hd.list e.zh
  exact ⟨p, vs, rfl, k1, q _ H' Z' e (it_rev k1 k2)⟩
def zipD (xs ys : List D) : List D := (xs.zip ys).map fun p => .tuple [p.1, p.2]
theorem zipD_get {xs ys : List D} {i : Nat} {d : D} (h : (zipD xs ys)[i]? = some d) : ∃ a b, xs[i]? = some a ∧ ys[i]? = some b ∧ d = .tuple [a, b] := by
  unfold zipD at h
  rw [List.getElem?_map, List.zip, List.getElem?_zipWith] at h
  cases ha : xs[i]? with
  | none => rw [ha] at h; cases h
  | some a =>
    cases hb : ys[i]? with
    | none => rw [ha, hb] at h; cases h
    | some b =>
      rw [ha, hb] at h
      exact ⟨a, b, rfl, rfl, (Option.some.inj h).symm⟩
theorem zipD_length {xs ys : List D} : (zipD xs ys).length = min xs.length ys.length := by unfold zipD; simp
theorem it_zip (h : SqL K Hs a vs) (h' : SqL K Hs b ws) (hd : DpAll K Z vs ds) (he : DpAll K Z ws es) : ItOk K Z Hs (Itz K a b) (zipD ds es) := fun i Z1 H s1 s2 s3 => by
  have hH := s3.seq h
  have hH' := s3.seq h'
  have l := dps_length hd
  have l' := dps_length he
  rw [zipD_length]
  refine ⟨fun hi => ⟨vs, ws, hH, hH', by omega⟩, fun hi => ⟨vs, ws, vs[i]'(by omega), ws[i]'(by omega), hH, hH', List.getElem?_eq_getElem (by omega), List.getElem?_eq_getElem (by omega)⟩, fun d x H' e y => ?_⟩
  obtain ⟨T, x1, x2, rfl, nT, rfl, y1, y2⟩ := y
  obtain ⟨a', b', g1, g2, rfl⟩ := zipD_get e
  obtain ⟨v, h1, h2⟩ := dps_get hd g1
  obtain ⟨w, h3, h4⟩ := dps_get he g2
  rw [y1 vs hH] at h1; cases h1
  rw [y2 ws hH'] at h3; cases h3
  have s5 := s1.trans (same_upd (o := .tup [x1, x2]) (s2.free nT))
  exact ⟨_, .new s2 nT, .tup (.of upd_same) (.cons (dp_mono s5 h2) (.cons (dp_mono s5 h4) .nil))⟩
theorem it_zipT (h : SqT K Hs a vs) (h' : SqT K Hs b ws) (hd : DpAll K Z vs ds) (he : DpAll K Z ws es) : ItOk K Z Hs (RZ.ItzT K a b) (zipD ds es) := fun i Z1 H s1 s2 s3 => by
  have hH := seqT s3 h
  have hH' := seqT s3 h'
  have l := dps_length hd
  have l' := dps_length he
  rw [zipD_length]
  refine ⟨fun hi => ⟨vs, ws, hH, hH', by omega⟩, fun hi => ⟨vs, ws, vs[i]'(by omega), ws[i]'(by omega), hH, hH', List.getElem?_eq_getElem (by omega), List.getElem?_eq_getElem (by omega)⟩, fun d x H' e y => ?_⟩
  obtain ⟨T, x1, x2, rfl, nT, rfl, y1, y2⟩ := y
  obtain ⟨a', b', g1, g2, rfl⟩ := zipD_get e
  obtain ⟨v, h1, h2⟩ := dps_get hd g1
  obtain ⟨w, h3, h4⟩ := dps_get he g2
  rw [y1 vs hH] at h1; cases h1
  rw [y2 ws hH'] at h3; cases h3
  have s5 := s1.trans (same_upd (o := .tup [x1, x2]) (s2.free nT))
  exact ⟨_, .new s2 nT, .tup (.of upd_same) (.cons (dp_mono s5 h2) (.cons (dp_mono s5 h4) .nil))⟩
def gZip : D → D → Res (List D)
  | .list xs, .list ys => .ok (zipD xs ys)
  | .tuple xs, .tuple ys => .ok (zipD xs ys)
  | _, _ => .bad
variable {e2 : Expr}
theorem Ip_zip (hm : X.mg "zip" = none) (ha : PE X e (tP X.K f)) (hb : PE X e2 (tP X.K g)) (hg : Gl X "zip" := by rfl)
    (hs : starEach [e, e2] X.env = (false, eval e X.env) :: starEach [e2] X.env := by rfl) (hs2 : starEach [e2] X.env = (false, eval e2 X.env) :: starEach [] X.env := by rfl) (hpl : (backTo pos (starEach [e2] X.env)).any (·.1) = false := by rfl) :
    PI X (.Tuple elts kk tpos) (.Call (.Name "zip" p) [e, e2] [] pos) (tIp X.K (eOp2 gZip f g)) := pi_mono (RZ.pi_zipA hg hm (pa_cons ha (pa_cons hb pa_nil hs2) hs) hs hpl) fun σ H R ⟨H0, Z0, Z, env, ds, hE, hf, q⟩ => by
  obtain ⟨d, h1, h2⟩ := Res.bind_eq hf
  obtain ⟨d2, h3, h4⟩ := Res.bind_eq h2
  refine ⟨H0, Z0, Z, env, d, hE, h1, fun v H1 Z1 e1 hd => ⟨H0, Z0, Z1, env, d2, hE.ext e1, h3, fun w H' Z' e2 hd2 => ?_⟩⟩
  have eA := e1.trans e2
  have hd := hd.ext e2
  unfold gZip at h4
  split at h4
  · cases h4
    obtain ⟨p, vs, rfl, k1, k2⟩ := hd.list eA.zh
    obtain ⟨p', ws, rfl, k3, k4⟩ := hd2.list eA.zh
    exact ⟨p, p', vs, ws, rfl, .inl ⟨k1, k3, q _ H' Z' eA (it_zip k1 k3 k2 k4)⟩⟩
  · cases h4
    obtain ⟨p, vs, rfl, k1, k2⟩ := hd.tup eA.zh
    obtain ⟨p', ws, rfl, k3, k4⟩ := hd2.tup eA.zh
    exact ⟨p, p', vs, ws, rfl, .inr ⟨k1, k3, q _ H' Z' eA (it_zipT k1 k3 k2 k4)⟩⟩
  · cases h4
theorem I_zip (hm : X.mg "zip" = none) (ha : PE X e (tE X.K f)) (hb : PE X e2 (tE X.K g)) (hg : Gl X "zip" := by rfl)
    (hs : starEach [e, e2] X.env = (false, eval e X.env) :: starEach [e2] X.env := by rfl) (hs2 : starEach [e2] X.env = (false, eval e2 X.env) :: starEach [] X.env := by rfl) (hpl : (backTo pos (starEach [e2] X.env)).any (·.1) = false := by rfl) :
    PI X (.Tuple elts kk tpos) (.Call (.Name "zip" p) [e, e2] [] pos) (tI X.K (eOp2 gZip f g)) := pi_mono (RZ.pi_zipA hg hm (pa_cons ha (pa_cons hb pa_nil hs2) hs) hs hpl) fun σ H R ⟨H0, Z0, Z, env, ds, hE, hf, q⟩ => by
  obtain ⟨d, h1, h2⟩ := Res.bind_eq hf
  obtain ⟨d2, h3, h4⟩ := Res.bind_eq h2
  refine ⟨H0, Z0, Z, env, d, hE, h1, fun v H1 Z1 e1 hd => ⟨H0, Z0, Z1, env, d2, hE.ext e1, h3, fun w H' Z' e2 hd2 => ?_⟩⟩
  have eA := e1.trans e2
  have hd := dp_mono e2.zz hd
  unfold gZip at h4
  split at h4
  · cases h4
    cases hd with
    | lst k1 k2 =>
      cases hd2 with
      | lst k3 k4 => exact ⟨_, _, _, _, rfl, .inl ⟨eA.zh.seq k1, eA.zh.seq k3, q _ H' Z' eA (it_zip k1 k3 k2 k4)⟩⟩
  · cases h4
    cases hd with
    | tup k1 k2 =>
      cases hd2 with
      | tup k3 k4 => exact ⟨_, _, _, _, rfl, .inr ⟨seqT eA.zh k1, seqT eA.zh k3, q _ H' Z' eA (it_zipT k1 k3 k2 k4)⟩⟩
  · cases h4
end
/-! ### for -/
def forL (g : Tg) (dead : List Nat) (body : Env → Out) : List D → Env → Out
  | [], env => .next env
  | d :: ds, env => (g.f d env).out fun e1 => match body e1 with
    | .next e2 => forL g dead body ds (clr dead e2)
    | .cont e2 => forL g dead body ds (clr dead e2)
    | .brk e2 => .next (clr dead e2)
    | .ret r => .ret r
    | .exc c => .exc c
    | .bad => .bad
def sFor (fi : Env → Res (List D)) (g : Tg) (dead : List Nat) (body : Env → Out) : Env → Out := fun env => (fi env).out fun ds => forL g dead body ds (clr dead env)
theorem OutOk.imp {K : PySem.W.Frag} {W : WO} {H0 Z0 : Hp} {E E' : Ends} {o : Out} (h : OutOk K W H0 Z0 E o) (hn : ∀ e, o = .next e → ∀ Z σ H, EnvOk K H0 Z0 Z H σ e → E'.nx σ H) (hr : ∀ r, o = .ret r → ∀ v H, E.rt v H → E'.rt v H)
    (hb : ∀ e, o = .brk e → ∀ Z σ H, EnvOk K H0 Z0 Z H σ e → E'.bk σ H) (hc : ∀ e, o = .cont e → ∀ Z σ H, EnvOk K H0 Z0 Z H σ e → E'.ct σ H) : OutOk K W H0 Z0 E' o := by
  cases o with
  | next e => exact hn e rfl
  | ret r => exact fun Z v H q hn => hr r rfl v H (h Z v H q hn)
  | brk e => exact hb e rfl
  | cont e => exact hc e rfl
  | exc c => exact h
  | bad => exact h
section
variable {X : Cx} {W : WO} {tg it : Expr} {body : List Stmt} {pos : Pos} {g : Tg} {fi : Env → Res (List D)} {m : Env → Out}
theorem S_for (dead : List Nat) (hp : PassesOwn (model X.prog X.w) X.A X.env X.xe) (hc : X.calm = true) (hi : PI X tg it (tI X.K fi)) (hg : PG X tg (tG X.K g)) (hb : PSs X body (tS X.K W m)) (hs : ∀ x, foldedSetIterable it X.env x = pure x := by intro _; rfl) : PS X (.For tg it body [] pos) (tS X.K W (sFor fi g dead m)) :=
  ps_mono (ps_for hp hc hi hg hb hs) fun E σ H ⟨H0, Z0, Z, env, hE, q⟩ => by
    obtain ⟨ds, k1, k2⟩ := Res.out_eq q
    refine ⟨H0, Z0, Z, env, ds, hE, k1, fun J H1 Z1 e1 hJ => ?_⟩
    have hE1 := (hE.ext e1).clr dead
    refine ⟨fun i n σ H => n = ds.length - i ∧ i ≤ ds.length ∧ ∃ Z2 env, EnvOk X.K H0 Z1 Z2 H σ env ∧ OutOk X.K W H0 Z1 E (forL g dead m (ds.drop i) env), ⟨ds.length, rfl, Nat.zero_le _, Z1, _, hE1.rebase, OutOk.rebase hE1 k2⟩, ?_⟩
    rintro i n σ2 H2 ⟨rfl, hi, Z2, env2, hE2, hq⟩
    obtain ⟨j1, j2, j3⟩ := hJ i Z2 H2 hE2.z0 hE2.sz (hE2.z0.trans hE2.sz)
    by_cases hlt : i < ds.length
    · refine .inr ⟨j2 hlt, fun σ3 H3 => ∃ Z3 env3, EnvOk X.K H0 Z1 Z3 H3 σ3 env3 ∧ OutOk X.K W H0 Z1 E (forL g dead m (ds.drop (i + 1)) env3), fun σ3 H3 ⟨Z3, env3, h1, h2⟩ => ⟨ds.length - (i + 1), by omega, rfl, hlt, Z3, env3, h1, h2⟩, fun x H3 hy => ?_⟩
      obtain ⟨Z3, e3, hd⟩ := j3 ds[i] x H3 (List.getElem?_eq_getElem hlt) hy
      rw [List.drop_eq_getElem_cons hlt] at hq
      obtain ⟨env3, g1, g2⟩ := Res.out_eq hq
      refine ⟨H0, Z1, Z3, env2, _, env3, hE2.ext e3, hd, g1, fun σ4 hE4 _ _ _ => ⟨H0, Z1, Z3, env3, hE4, ?_⟩⟩
      cases hm : m env3 with
      | next e2 => rw [hm] at g2; exact fun Z5 σ5 H5 hE5 => ⟨Z5, _, hE5.clr dead, g2⟩
      | cont e2 => rw [hm] at g2; exact fun Z5 σ5 H5 hE5 => ⟨Z5, _, hE5.clr dead, g2⟩
      | brk e2 => rw [hm] at g2; exact fun Z5 σ5 H5 hE5 => g2 Z5 σ5 H5 (hE5.clr dead)
      | ret r => rw [hm] at g2; exact g2
      | exc c => rw [hm] at g2; exact g2
      | bad => rw [hm] at g2; exact g2
    · refine .inl ⟨j1 (by omega), ?_⟩
      rw [List.drop_of_length_le (by omega)] at hq
      exact hq Z2 σ2 H2 hE2
/-! ### while -/
def whileL (dead : List Nat) (c : Env → Res Bool) (body : Env → Out) : Nat → Env → Out
  | 0, _ => .bad
  | n + 1, env => (c env).out fun b => if b = true then (match body env with
    | .next e2 => whileL dead c body n (clr dead e2)
    | .cont e2 => whileL dead c body n (clr dead e2)
    | .brk e2 => .next (clr dead e2)
    | .ret r => .ret r
    | .exc c => .exc c
    | .bad => .bad) else .next env
theorem fuel_ex : ∃ n : Nat, 10 ^ 200 ≤ n := ⟨_, Nat.le_refl _⟩
noncomputable def FUEL : Nat := Classical.choose fuel_ex
theorem FUEL_ge : 10 ^ 200 ≤ FUEL := Classical.choose_spec fuel_ex
noncomputable def sWhile (dead : List Nat) (c : Env → Res Bool) (body : Env → Out) : Env → Out := fun env => whileL dead c body FUEL (clr dead env)
theorem S_while (dead : List Nat) {c : Expr} {fc : Env → Res Bool} (hp : PassesOwn (model X.prog X.w) X.A X.env X.xe) (hc : PT X c (tT X.K fc)) (hb : PSs X body (tS X.K W m)) : PS X (.While c body [] pos) (tS X.K W (sWhile dead fc m)) :=
  ps_mono (ps_while hp hc hb) fun E σ H ⟨H0, Z0, Z, env, hE, q⟩ => by
    refine ⟨fun n σ H => ∃ Z env, EnvOk X.K H0 Z0 Z H σ env ∧ OutOk X.K W H0 Z0 E (whileL dead fc m n env), ⟨FUEL, Z, _, hE.clr dead, q⟩, ?_⟩
    rintro n σ2 H2 ⟨Z2, env2, hE2, hq⟩
    cases n with
    | zero => exact hq.elim
    | succ n =>
      obtain ⟨b, g1, g2⟩ := Res.out_eq hq
      refine ⟨H0, Z0, Z2, env2, b, hE2, g1, fun H3 Z3 e3 => ?_⟩
      cases b with
      | false =>
        rw [if_neg Bool.false_ne_true] at g2 ⊢
        exact g2 Z3 σ2 H3 (hE2.ext e3)
      | true =>
        rw [if_pos rfl] at g2 ⊢
        refine ⟨fun σ4 H4 => ∃ Z4 env4, EnvOk X.K H0 Z0 Z4 H4 σ4 env4 ∧ OutOk X.K W H0 Z0 E (whileL dead fc m n env4), fun σ4 H4 ⟨Z4, env4, h1, h2⟩ => ⟨n, Nat.lt_succ_self n, Z4, env4, h1, h2⟩, H0, Z0, Z3, env2, hE2.ext e3, ?_⟩
        cases hm : m env2 with
        | next e2 => rw [hm] at g2; exact fun Z5 σ5 H5 hE5 => ⟨Z5, _, hE5.clr dead, g2⟩
        | cont e2 => rw [hm] at g2; exact fun Z5 σ5 H5 hE5 => ⟨Z5, _, hE5.clr dead, g2⟩
        | brk e2 => rw [hm] at g2; exact fun Z5 σ5 H5 hE5 => g2 Z5 σ5 H5 (hE5.clr dead)
        | ret r => rw [hm] at g2; exact g2
        | exc c => rw [hm] at g2; exact g2
        | bad => rw [hm] at g2; exact g2
end
end PV

set_option Elab.async false
set_option linter.all false
set_option maxRecDepth 100000
namespace PV
open PySem PySem.Spec L2
set_option autoImplicit false
/-! ### comprehensions -/
def compL (g : Tg) (c : Env → Res Bool) (fe : Env → Res D) (env : Env) : List D → Res (List D)
  | [] => .ok []
  | d :: ds => (g.f d env).bind fun e1 => (c e1).bind fun b => if b = true then (fe e1).bind fun y => (compL g c fe env ds).bind fun ys => .ok (y :: ys) else compL g c fe env ds
def eComp (fi : Env → Res (List D)) (own : List Nat) (g : Tg) (c : Env → Res Bool) (fe : Env → Res D) : Env → Res RV := fun env => (fi env).bind fun ds => (compL g c fe (clr own env) ds).bind fun ys => if ys.length < 1000000 then .ok ⟨.list ys, true⟩ else .bad
def comp2L (g : Tg) (c : Env → Res Bool) (fi1 : Env → Res (List D)) (vs1 : List Nat) (g1 : Tg) (c1 : Env → Res Bool) (fe : Env → Res D) (env : Env) : List D → Res (List D)
  | [] => .ok []
  | d :: ds => (g.f d env).bind fun e1 => (c e1).bind fun b => if b = true then (fi1 e1).bind fun ds1 => (compL g1 c1 fe (clr vs1 e1) ds1).bind fun xs => (comp2L g c fi1 vs1 g1 c1 fe env ds).bind fun ys => .ok (xs ++ ys) else comp2L g c fi1 vs1 g1 c1 fe env ds
def eComp2 (fi : Env → Res (List D)) (own : List Nat) (g : Tg) (c : Env → Res Bool) (fi1 : Env → Res (List D)) (vs1 : List Nat) (g1 : Tg) (c1 : Env → Res Bool) (fe : Env → Res D) : Env → Res RV := fun env => (fi env).bind fun ds => (comp2L g c fi1 vs1 g1 c1 fe (clr own env) ds).bind fun ys => if ys.length < 1000000 then .ok ⟨.list ys, true⟩ else .bad
def bYes : Env → Res Bool := fun _ => .ok true
section
variable {K : PySem.W.Frag} {H0 Z0 Z H : Hp} {σ : L2.St} {env : Env}
theorem wipe_get {i : Nat} : ∀ {is : List Nat}, i ∉ is → (wipe σ is)[i]? = σ[i]?
  | [], _ => rfl
  | a :: r, h => by
    unfold wipe
    rw [List.getElem?_set_ne (fun z => h (by rw [z]; exact List.mem_cons_self)), wipe_get fun z => h (List.mem_cons_of_mem _ z)]
theorem wipe_in {i : Nat} : ∀ {is : List Nat}, i ∈ is → i < σ.length → (wipe σ is)[i]? = some none
  | a :: r, h, hl => by
    unfold wipe
    by_cases c : a = i
    · subst c
      rw [List.getElem?_set_self (by rw [wipe_length]; exact hl)]
    · rw [List.getElem?_set_ne c]
      rcases List.mem_cons.mp h with e | h
      · exact absurd e.symm c
      · exact wipe_in h hl
theorem clr_get {i : Nat} {s : Sl} : ∀ {is : List Nat} {env : Env}, (clr is env)[i]? = some s → (i ∉ is ∧ env[i]? = some s) ∨ s = .no
  | [], _, h => .inl ⟨by simp, h⟩
  | a :: r, env, h => by
    have h' : (clr r (env.set a .no))[i]? = some s := h
    rcases clr_get h' with ⟨h1, h2⟩ | h1
    · rcases get_set h2 with ⟨rfl, rfl⟩ | ⟨c, h2⟩
      · exact .inr rfl
      · exact .inl ⟨by simp only [List.mem_cons, not_or]; exact ⟨fun z => c z.symm, h1⟩, h2⟩
    · exact .inr h1
theorem OwAt.clr {is : List Nat} {env : Env} {j : Nat} (h : OwAt (clr is env) j) : j ∉ is ∧ OwAt env j := by
  obtain ⟨s, h1, h2⟩ := h
  rcases clr_get h1 with ⟨a, b⟩ | rfl
  · exact ⟨a, s, b, h2⟩
  · cases h2
theorem clr_length : ∀ {is : List Nat} {env : Env}, (clr is env).length = env.length
  | [], _ => rfl
  | a :: r, env => by
    show (clr r (env.set a .no)).length = _
    rw [clr_length, List.length_set]
theorem EnvOk.wiped (h : EnvOk K H0 Z0 Z H σ env) (is : List Nat) : EnvOk K H0 Z0 Z H (wipe σ is) (PV.clr is env) := by
  refine ⟨h.sz, h.s0, h.z0, h.no, by rw [wipe_length, clr_length, h.len], fun j s e => ?_, fun a b q hab e1 e2 e3 e4 => ?_⟩
  · rcases clr_get e with ⟨h1, h2⟩ | rfl
    · obtain ⟨o, k1, k2⟩ := h.at_ j s h2
      exact ⟨o, by rw [wipe_get h1]; exact k1, k2⟩
    · have hj : j < σ.length := by
        have := (List.getElem?_eq_some_iff.mp e).1
        rw [clr_length] at this
        rw [h.len]; exact this
      exact ⟨(wipe σ is)[j]'(by rw [wipe_length]; exact hj), List.getElem?_eq_getElem _, True.intro⟩
  · obtain ⟨h1, e1⟩ := e1.clr
    obtain ⟨h2, e2⟩ := e2.clr
    rw [wipe_get h1] at e3
    rw [wipe_get h2] at e4
    exact h.sep a b q hab e1 e2 e3 e4
theorem wipe_same {σ σ' : L2.St} {is : List Nat} (hl : σ'.length = σ.length) (h : ∀ j, j ∉ is → σ'[j]? = σ[j]?) : wipe σ' is = wipe σ is := by
  apply List.ext_getElem?
  intro i
  by_cases hi : i ∈ is
  · by_cases hl2 : i < σ.length
    · rw [wipe_in hi (by rw [hl]; exact hl2), wipe_in hi hl2]
    · rw [List.getElem?_eq_none (by rw [wipe_length]; omega), List.getElem?_eq_none (by rw [wipe_length]; omega)]
  · rw [wipe_get hi, wipe_get hi]
    exact h i hi
end
theorem wipe_wipe {σ : L2.St} {is : List Nat} : wipe (wipe σ is) is = wipe σ is := wipe_same (wipe_length _ _) fun j hj => wipe_get hj
section
variable {X : Cx} {W : WO} {elt tg iter tg1 iter1 : Expr} {ifs ifs1 : List Expr} {scope : Scope} {own : List (Str × Nat)} {vs1 : List Nat} {pos : Pos} {g g1 : Tg} {fi fi1 : Env → Res (List D)} {c c1 : Env → Res Bool} {fe : Env → Res D}
theorem Ts_nil : PTs X [] (tT X.K bYes) := by
  have h := pts_nil (X := X)
  exact ⟨fun pins s σ H Q I ⟨H0, Z0, Z, env, b, hE, hf, q⟩ => h.run pins s σ H Q I (by cases hf; exact q H Z (.refl hE.sz))⟩
theorem Ts_one {e : Expr} (h : PT X e (tT X.K c)) : PTs X [e] (tT X.K c) := pts_one h
/-- what a comprehension's list is while it is made -/
structure Acc (K : PySem.W.Frag) (Z1 H1 Z2 H : Hp) (L : Addr) (acc : List D) : Prop where
  ext : Ext Z1 H1 Z2 H
  at_ : ∃ vs, H L = some (.lst vs) ∧ Z2 L = none ∧ DpAll K Z2 vs acc
theorem Acc.step {K : PySem.W.Frag} {Z1 H1 Z2 H Z3 H3 : Hp} {L : Addr} {acc : List D} (h : Acc K Z1 H1 Z2 H L acc) (e : Ext Z2 H Z3 H3) : Acc K Z1 H1 Z3 H3 L acc := by
  obtain ⟨vs, h1, h2, h3⟩ := h.at_
  exact ⟨h.ext.trans e, vs, e.hh _ _ h1, e.no L (by rw [h1]; exact fun z => nomatch z) h2, dps_mono e.zz h3⟩
theorem Acc.app {K : PySem.W.Frag} {Z1 H1 Z2 H : Hp} {L : Addr} {acc : List D} {v : V} {d : D} (h : Acc K Z1 H1 Z2 H L acc) (hL : H1 L = none) (hd : Dp K Z2 v d) (hl : acc.length < 1000000) : ∃ vs, H L = some (.lst vs) ∧ vs.length < sizeLine ∧ Acc K Z1 H1 Z2 (upd H L (.lst (vs ++ [v]))) L (acc ++ [d]) := by
  obtain ⟨vs, h1, h2, h3⟩ := h.at_
  refine ⟨vs, h1, by rw [dps_length h3]; exact lim_ok hl, ⟨same_updR hL h.ext.hh, h.ext.zz, same_updR h2 h.ext.zh, h.ext.no⟩, _, upd_same, h2, dps_append h3 (.cons hd .nil)⟩
theorem EnvOk.off {K : PySem.W.Frag} {H0 Z0 Z H : Hp} {σ : L2.St} {env : Env} {L : Addr} {o : HO} (h : EnvOk K H0 Z0 Z H σ env) (hz : Z L = none) (h0 : H0 L = none) (hn : ∀ (j : Nat), OwAt env j → σ[j]? = some (some (.ref L)) → False) : EnvOk K H0 Z0 Z (upd H L o) σ env := by
  refine ⟨same_updR hz h.sz, same_updR h0 h.s0, h.z0, h.no, h.len, fun j s e => ?_, h.sep⟩
  obtain ⟨x, h1, h2⟩ := h.at_ j s e
  refine ⟨x, h1, ?_⟩
  cases s with
  | no => exact True.intro
  | fz d => exact h2
  | own xs =>
    obtain ⟨p, vs, rfl, k1, k2⟩ := h2
    have : p ≠ L := fun z => hn j (.own e) (by rw [h1, z])
    exact ⟨p, vs, rfl, by rw [upd_ne this]; exact k1, k2⟩
  | «at» b => exact h2
  | ob k =>
    obtain ⟨p, x, rfl, k1, k2⟩ := h2
    have : p ≠ L := fun z => hn j (.ob e) (by rw [h1, z])
    exact ⟨p, x, rfl, by rw [upd_ne this]; exact k1, k2⟩
/-- grown, all but L -/
structure ExtL (L : Addr) (Z H Z' H' : Hp) : Prop where
  hh : ∀ b o, b ≠ L → H b = some o → H' b = some o
  hL : H L ≠ none → H' L ≠ none
  zz : Same Z Z'
  zh : Same Z' H'
  no : ∀ a, H a ≠ none → Z a = none → Z' a = none
theorem ExtL.of {L : Addr} {Z H Z' H' : Hp} (e : Ext Z H Z' H') : ExtL L Z H Z' H' := ⟨fun b o _ h => e.hh b o h, fun h => not_none e.hh h, e.zz, e.zh, e.no⟩
theorem ExtL.not {L : Addr} {Z H Z' H' : Hp} (e : ExtL L Z H Z' H') {a : Addr} (h : H a ≠ none) : H' a ≠ none := by
  by_cases c : a = L
  · subst c; exact e.hL h
  · cases q : H a with
    | none => exact absurd q h
    | some o => rw [e.hh a o c q]; exact fun z => nomatch z
theorem ExtL.trans {L : Addr} {Z H Z1 H1 Z2 H2 : Hp} (a : ExtL L Z H Z1 H1) (b : ExtL L Z1 H1 Z2 H2) : ExtL L Z H Z2 H2 :=
  ⟨fun c o n h => b.hh c o n (a.hh c o n h), fun h => b.hL (a.hL h), a.zz.trans b.zz, b.zh, fun c h e => b.no c (a.not h) (a.no c h e)⟩
theorem ExtL.upd {L : Addr} {Z H : Hp} {o : HO} (s : Same Z H) (zL : Z L = none) : ExtL L Z H Z (upd H L o) :=
  ⟨fun b o n h => by rw [upd_ne n]; exact h, (fun _ => by rw [upd_same]; exact (fun z => nomatch z)), Same.refl _, same_updR zL s, fun _ _ e => e⟩
theorem EnvOk.extL {K : PySem.W.Frag} {H0 Z0 Z H Z' H' : Hp} {σ : L2.St} {env : Env} {L : Addr} (h : EnvOk K H0 Z0 Z H σ env) (e : ExtL L Z H Z' H') (h0 : H0 L = none) (hn : ∀ (j : Nat), OwAt env j → σ[j]? = some (some (.ref L)) → False) : EnvOk K H0 Z0 Z' H' σ env := by
  refine ⟨e.zh, fun b o q => e.hh b o (fun z => by rw [z, h0] at q; cases q) (h.s0 b o q), h.z0.trans e.zz, fun a h1 h2 => e.no a (not_none h.s0 h1) (h.no a h1 h2), h.len, fun j s q => ?_, h.sep⟩
  obtain ⟨x, h1, h2⟩ := h.at_ j s q
  refine ⟨x, h1, ?_⟩
  cases s with
  | no => exact True.intro
  | fz d => obtain ⟨v, k1, k2⟩ := h2; exact ⟨v, k1, dp_mono e.zz k2⟩
  | own xs =>
    obtain ⟨p, vs, rfl, k1, k2, k3, k4⟩ := h2
    have : p ≠ L := fun z => hn j (.own q) (by rw [h1, z])
    exact ⟨p, vs, rfl, e.hh _ _ this k1, e.no p (by rw [k1]; exact fun z => nomatch z) k2, k3, dps_mono e.zz k4⟩
  | «at» b => exact h2
  | ob k =>
    obtain ⟨p, x, rfl, k1, k2, k3, k4⟩ := h2
    have : p ≠ L := fun z => hn j (.ob q) (by rw [h1, z])
    exact ⟨p, x, rfl, e.hh _ _ this k1, e.no p (by rw [k1]; exact fun z => nomatch z) k2, k3, k4.mono e.zz⟩
/-- the reading of a block's loop (of the first clause or the second) -/
theorem loop_red {K : PySem.W.Frag} {J : It} {ds out pre : List D} {H0 Z0 Za Ha Z1 H1 Zs Hs : Hp} {L : Addr} {σ : L2.St} {env : Env} {is : List Nat} {te : TE} {tt : TT} {tgr : TG} {Nx : Hp → Prop} {g : Tg} {c : Env → Res Bool} {fe : Env → Res D}
    (hg : ∀ v σ H Q, tG K g v σ H Q → tgr v σ H Q) (ht : ∀ σ H Q, tT K c σ H Q → tt σ H Q) (he : ∀ σ H Q, tE K fe σ H Q → te σ H Q) (hix : ∀ j ∈ g.ix, j ∈ is)
    (hE : EnvOk K H0 Z0 Z1 H1 (wipe σ is) env) (hno : ∀ (j : Nat), OwAt env j → (wipe σ is)[j]? = some (some (.ref L)) → False)
    (hJ : ItOk K Zs Hs J ds) (hZs : Same Zs Z1) (hHs : ∀ Z2 H2 acc, Same Z1 Z2 → Acc K Za Ha Z2 H2 L acc → Same Hs H2) (hL : Ha L = none) (h0 : H0 L = none) (hA : Acc K Za Ha Z1 H1 L pre) (hc : compL g c fe env ds = .ok out) (hlen : pre.length + out.length < 1000000)
    (hn : ∀ Z2 H, ExtL L Z1 H1 Z2 H → Acc K Za Ha Z2 H L (pre ++ out) → Nx H) :
    ∃ W : Nat → Nat → Hp → Prop, (∃ m, W 0 m H1) ∧ ∀ i m H, W i m H →
      (J.stop i H ∧ Nx H) ∨ (J.go i H ∧ ∃ Nx1 : Hp → Prop, (∀ H', Nx1 H' → ∃ m', m' < m ∧ W (i + 1) m' H') ∧ ∀ x H', J.yld i H x H' → tgr x (wipe σ is) H' fun σ2 H2 => wipe σ2 is = wipe σ is ∧ tt σ2 H2 fun b H3 =>
        if b = true then te σ2 H3 fun y H4 => ∃ acc, H4 L = some (.lst acc) ∧ acc.length < sizeLine ∧ Nx1 (upd H4 L (.lst (acc ++ [y]))) else Nx1 H3) := by
  refine ⟨fun i m H => m = ds.length - i ∧ i ≤ ds.length ∧ ∃ Z2 acc rest, ExtL L Z1 H1 Z2 H ∧ EnvOk K H0 Z0 Z2 H (wipe σ is) env ∧ Acc K Za Ha Z2 H L acc ∧ compL g c fe env (ds.drop i) = .ok rest ∧ acc ++ rest = pre ++ out,
    ⟨ds.length, rfl, Nat.zero_le _, Z1, pre, out, .of (.refl hE.sz), hE, hA, hc, rfl⟩, ?_⟩
  rintro i m H ⟨rfl, hi, Z2, acc, rest, s12, hE2, hA2, hc2, hsum⟩
  obtain ⟨j1, j2, j3⟩ := hJ i Z2 H (hZs.trans s12.zz) hE2.sz (hHs Z2 H acc s12.zz hA2)
  by_cases hlt : i < ds.length
  · refine .inr ⟨j2 hlt, fun H' => ∃ Z2 acc rest, ExtL L Z1 H1 Z2 H' ∧ EnvOk K H0 Z0 Z2 H' (wipe σ is) env ∧ Acc K Za Ha Z2 H' L acc ∧ compL g c fe env (ds.drop (i + 1)) = .ok rest ∧ acc ++ rest = pre ++ out, fun H' hN => ⟨ds.length - (i + 1), by omega, rfl, hlt, hN⟩, fun x H' hy => ?_⟩
    obtain ⟨Z3, e3, hd⟩ := j3 ds[i] x H' (List.getElem?_eq_getElem hlt) hy
    rw [List.drop_eq_getElem_cons hlt] at hc2
    obtain ⟨env1, c1, c2⟩ := Res.bind_eq hc2
    obtain ⟨b, c3, c4⟩ := Res.bind_eq c2
    refine hg _ _ _ _ ⟨H0, Z0, Z3, env, _, env1, hE2.ext e3, hd, c1, fun σ4 hE4 l4 n4 _ => ⟨?_, ht _ _ _ ⟨H0, Z0, Z3, env1, b, hE4, c3, fun H5 Z5 e5 => ?_⟩⟩⟩
    · rw [wipe_same l4 fun j hj => n4 j fun z => hj (hix j z), wipe_wipe]
    · cases b with
      | true =>
        rw [if_pos rfl] at c4 ⊢
        obtain ⟨y, c5, c6⟩ := Res.bind_eq c4
        obtain ⟨ys, c7, c8⟩ := Res.bind_eq c6
        cases c8
        refine he _ _ _ ⟨H0, Z0, Z5, env1, y, hE4.ext e5, c5, fun v H6 Z6 e6 hd6 => ?_⟩
        have eA := (e3.trans e5).trans e6
        have hA6 := hA2.step eA
        have hl : acc.length < 1000000 := by
          have := congrArg List.length hsum
          simp only [List.length_append, List.length_cons] at this
          omega
        obtain ⟨vs, k1, k2, k3⟩ := hA6.app hL hd6 hl
        obtain ⟨_, _, zL, _⟩ := hA6.at_
        exact ⟨vs, k1, k2, Z6, acc ++ [y], ys, (s12.trans (.of eA)).trans (.upd eA.zh zL), (hE2.ext eA).off zL h0 hno, k3, c7, by rw [← hsum]; simp⟩
      | false =>
        rw [if_neg Bool.false_ne_true] at c4 ⊢
        have eA := e3.trans e5
        exact ⟨Z5, acc, rest, s12.trans (.of eA), hE2.ext eA, hA2.step eA, c4, hsum⟩
  · refine .inl ⟨j1 (by omega), ?_⟩
    rw [List.drop_of_length_le (by omega)] at hc2
    cases hc2
    rw [List.append_nil] at hsum
    rw [hsum] at hA2
    exact hn Z2 H s12 hA2
theorem notOwn {K : PySem.W.Frag} {H0 Z0 Z H : Hp} {σ : L2.St} {env : Env} {L : Addr} (h : EnvOk K H0 Z0 Z H σ env) (hL : H L = none) : ∀ (j : Nat), OwAt env j → σ[j]? = some (some (.ref L)) → False := fun j e1 e2 => by
  obtain ⟨p, k1, k2⟩ := h.owat e1
  rw [e2] at k1; cases k1
  exact k2 hL
theorem comp_red {is : List Nat} {K : PySem.W.Frag} (hix : ∀ j ∈ g.ix, j ∈ is) (σ : L2.St) (H : Hp) (Q : VK) (h : tV K (eComp fi is g c fe) σ H Q) : tLc (tIp K fi) (tG K g) (tT K c) (tE K fe) is σ H Q := by
  obtain ⟨H0, Z0, Z, env, r, hE, hf, q⟩ := h
  obtain ⟨ds, k1, k2⟩ := Res.bind_eq hf
  obtain ⟨out, k3, k4⟩ := Res.bind_eq k2
  obtain ⟨k5, k6⟩ := ite_ok k4
  cases k6
  refine ⟨H0, Z0, Z, env, ds, hE, k1, fun J H1 Z1 e1 hJ L hL => ?_⟩
  have hE1 := hE.ext e1
  have hEw := hE1.wiped is
  have zL := e1.zh.free hL
  have h0 := hE1.s0.free hL
  have m1 : Ext Z1 H1 Z1 (upd H1 L (.lst [])) := .made e1.zh hL
  exact loop_red (Za := Z1) (Ha := H1) (pre := []) (fun _ _ _ _ h => h) (fun _ _ _ h => h) (fun _ _ _ h => h) hix (hEw.ext m1) (notOwn hEw hL) hJ (Same.refl _) (fun Z2 H2 acc _ hA => hA.ext.hh) hL h0 ⟨m1, [], upd_same, zL, .nil⟩ k3 (by simpa using k5) fun Z2 H2 _ hA => by
    obtain ⟨vs, a1, a2, a3⟩ := hA.at_
    exact q _ H2 Z2 (e1.trans hA.ext) ⟨L, vs, out, rfl, rfl, e1.hh.free hL, a2, a1, a3⟩
theorem V_comp (hc : X.calm = true) (hN : X.N.Nodup) (ok : BlkOk X.N X.env.scope scope own) (hi : PI X tg iter (tIp X.K fi))
    (hg : ∀ (s : Shared) (H : Hp) (C : Addr) (cl : List (Str × Addr)) (fp : List Addr), PG (X.blk s H scope (compEnvC scope cl C X.env) fp) tg (tG X.K g)) (ht : ∀ (s : Shared) (H : Hp) (C : Addr) (cl : List (Str × Addr)) (fp : List Addr), PTs (X.blk s H scope (compEnvC scope cl C X.env) fp) ifs (tT X.K c))
    (he : ∀ (s : Shared) (H : Hp) (C : Addr) (cl : List (Str × Addr)) (fp : List Addr), PE (X.blk s H scope (compEnvC scope cl C X.env) fp) elt (tE X.K fe)) (hix : ∀ j ∈ g.ix, j ∈ own.map (·.2) := by decide) (hs : ∀ x, foldedSetIterable iter X.env x = pure x := by intro _; rfl) :
    PE X (.ListComp elt [⟨tg, iter, ifs, 0⟩] scope pos) (tV X.K (eComp fi (own.map (·.2)) g c fe)) := pe_mono (pe_lc hc hN hi ok hg ht he hs) (comp_red hix)
/-- name = [..] on one line, the name a local -/
theorem S_setComp (i : Nat) {y : Str} {py spos : Pos} (hc : X.calm = true) (hN : X.N.Nodup) (ok : BlkOk X.N X.env.scope scope own) (hi : PI X tg iter (tIp X.K fi))
    (hg : ∀ (s : Shared) (H : Hp) (C : Addr) (cl : List (Str × Addr)) (fp : List Addr), PG (X.blk s H scope (compEnvC scope cl C X.env) fp) tg (tG X.K g)) (ht : ∀ (s : Shared) (H : Hp) (C : Addr) (cl : List (Str × Addr)) (fp : List Addr), PTs (X.blk s H scope (compEnvC scope cl C X.env) fp) ifs (tT X.K c))
    (he : ∀ (s : Shared) (H : Hp) (C : Addr) (cl : List (Str × Addr)) (fp : List Addr), PE (X.blk s H scope (compEnvC scope cl C X.env) fp) elt (tE X.K fe)) (hsw : swapsWith (.ListComp elt [⟨tg, iter, ifs, 0⟩] scope pos) (some (.Name y py)) spos.line X.env = pure true)
    (hix : ∀ j ∈ g.ix, j ∈ own.map (·.2) := by decide) (hy : X.N[i]? = some y := by rfl) (hyl : X.env.scope.names.lookup y = some .local := by rfl) (hs : ∀ x, foldedSetIterable iter X.env x = pure x := by intro _; rfl) :
    PS X (.Assign [.Name y py] (.ListComp elt [⟨tg, iter, ifs, 0⟩] scope pos) spos) (tS X.K W (sSetV i (eComp fi (own.map (·.2)) g c fe))) := ps_mono (ps_setLc hc hN hy hyl hsw hi ok hg ht he hs) fun E σ H ⟨H0, Z0, Z, env, hE, q⟩ => by
  obtain ⟨r, k1, k2⟩ := Res.out_eq q
  refine comp_red hix σ H _ ⟨H0, Z0, Z, env, r, hE, k1, fun v H' Z' e hr => ?_⟩
  by_cases hl : i < env.length
  · rw [if_pos hl] at k2
    obtain ⟨Z2, h2⟩ := hE.setV hl e hr
    exact k2 Z2 _ H' h2
  · rw [if_neg hl] at k2; exact k2.elim
/-! two clauses -/
theorem clr_own {is : List Nat} {env : Env} {j : Nat} {xs : List D} (h : (clr is env)[j]? = some (.own xs)) : env[j]? = some (.own xs) := by
  rcases clr_get h with ⟨_, h⟩ | h
  · exact h
  · cases h
theorem comp2_red {is : List Nat} {K : PySem.W.Frag} (hix : ∀ j ∈ g.ix, j ∈ is) (hix1 : ∀ j ∈ g1.ix, j ∈ vs1) (hv : ∀ j ∈ vs1, j ∈ is) (σ : L2.St) (H : Hp) (Q : VK) (h : tV K (eComp2 fi is g c fi1 vs1 g1 c1 fe) σ H Q) : tLc2 (tIp K fi) (tG K g) (tT K c) (tI K fi1) (tG K g1) (tT K c1) (tE K fe) is vs1 σ H Q := by
  obtain ⟨H0, Z0, Z, env, r, hE, hf, q⟩ := h
  obtain ⟨ds, k1, k2⟩ := Res.bind_eq hf
  obtain ⟨out, k3, k4⟩ := Res.bind_eq k2
  obtain ⟨k5, k6⟩ := ite_ok k4
  cases k6
  refine ⟨H0, Z0, Z, env, ds, hE, k1, fun J H1 Z1 e1 hJ L hL => ?_⟩
  have hE1 := hE.ext e1
  have hEw := hE1.wiped is
  have zL := e1.zh.free hL
  have h0 := hE1.s0.free hL
  have m1 : Ext Z1 H1 Z1 (upd H1 L (.lst [])) := .made e1.zh hL
  have hno := notOwn hEw hL
  refine ⟨fun i m H => m = ds.length - i ∧ i ≤ ds.length ∧ ∃ Z2 acc rest, Same Z1 Z2 ∧ EnvOk K H0 Z0 Z2 H (wipe σ is) (clr is env) ∧ Acc K Z1 H1 Z2 H L acc ∧ comp2L g c fi1 vs1 g1 c1 fe (clr is env) (ds.drop i) = .ok rest ∧ acc ++ rest = out,
    ⟨ds.length, rfl, Nat.zero_le _, Z1, [], out, Same.refl _, hEw.ext m1, ⟨m1, [], upd_same, zL, .nil⟩, k3, rfl⟩, ?_⟩
  rintro i m H ⟨rfl, hi, Z2, acc, rest, s12, hE2, hA2, hc2, hsum⟩
  obtain ⟨j1, j2, j3⟩ := hJ i Z2 H s12 hE2.sz hA2.ext.hh
  by_cases hlt : i < ds.length
  · refine .inr ⟨j2 hlt, fun H' => ∃ Z2 acc rest, Same Z1 Z2 ∧ EnvOk K H0 Z0 Z2 H' (wipe σ is) (clr is env) ∧ Acc K Z1 H1 Z2 H' L acc ∧ comp2L g c fi1 vs1 g1 c1 fe (clr is env) (ds.drop (i + 1)) = .ok rest ∧ acc ++ rest = out, fun H' hN => ⟨ds.length - (i + 1), by omega, rfl, hlt, hN⟩, fun x H' hy => ?_⟩
    obtain ⟨Z3, e3, hd⟩ := j3 ds[i] x H' (List.getElem?_eq_getElem hlt) hy
    rw [List.drop_eq_getElem_cons hlt] at hc2
    obtain ⟨env1, c1', c2⟩ := Res.bind_eq hc2
    obtain ⟨b, c3, c4⟩ := Res.bind_eq c2
    refine ⟨H0, Z0, Z3, _, _, env1, hE2.ext e3, hd, c1', fun σ4 hE4 l4 n4 o4 => ⟨?_, H0, Z0, Z3, env1, b, hE4, c3, fun H5 Z5 e5 => ?_⟩⟩
    · rw [wipe_same l4 fun j hj => n4 j fun z => hj (hix j z), wipe_wipe]
    · cases b with
      | true =>
        rw [if_pos rfl] at c4 ⊢
        obtain ⟨ds1, c5, c6⟩ := Res.bind_eq c4
        obtain ⟨xs, c7, c8⟩ := Res.bind_eq c6
        obtain ⟨ys, c9, c10⟩ := Res.bind_eq c8
        cases c10
        refine ⟨H0, Z0, Z5, env1, ds1, hE4.ext e5, c5, fun J1 H6 Z6 e6 hJ1 => ?_⟩
        have eA := (e3.trans e5).trans e6
        have hE6 := ((hE4.ext e5).ext e6)
        have hA6 := hA2.step eA
        have hl : acc.length + xs.length < 1000000 := by
          have := congrArg List.length hsum
          simp only [List.length_append] at this
          omega
        have no4 : ∀ (j : Nat), OwAt env1 j → σ4[j]? = some (some (.ref L)) → False := fun j f1 f2 => by
          obtain ⟨g1, g2⟩ := o4 j f1
          rw [g2] at f2
          exact hno j g1 f2
        refine loop_red (Za := Z1) (Ha := H1) (pre := acc) (fun _ _ _ _ h => h) (fun _ _ _ h => h) (fun _ _ _ h => h) hix1 (hE6.wiped vs1) (fun j f1 f2 => no4 j f1.clr.2 (wipe_some f2).1) hJ1 (Same.refl _) (fun Z2 H2 acc s hA => s.trans hA.ext.zh) hL h0 hA6 c7 hl fun Z7 H7 s67 hA7 => ?_
        exact ⟨Z7, acc ++ xs, ys, s12.trans (eA.zz.trans s67.zz), (hE2.ext eA).extL s67 h0 hno, hA7, c9, by rw [List.append_assoc]; exact hsum⟩
      | false =>
        rw [if_neg Bool.false_ne_true] at c4 ⊢
        have eA := e3.trans e5
        exact ⟨Z5, acc, rest, s12.trans eA.zz, hE2.ext eA, hA2.step eA, c4, hsum⟩
  · refine .inl ⟨j1 (by omega), ?_⟩
    rw [List.drop_of_length_le (by omega)] at hc2
    cases hc2
    rw [List.append_nil] at hsum
    subst hsum
    obtain ⟨vs, a1, a2, a3⟩ := hA2.at_
    exact q _ H Z2 (e1.trans hA2.ext) ⟨L, vs, _, rfl, rfl, e1.hh.free hL, a2, a1, a3⟩
theorem V_comp2 (hc : X.calm = true) (hN : X.N.Nodup) (ok : BlkOk X.N X.env.scope scope own) (hi : PI X tg iter (tIp X.K fi))
    (hg : ∀ (s : Shared) (H : Hp) (C : Addr) (cl : List (Str × Addr)) (fp : List Addr), PG (X.blk s H scope (compEnvC scope cl C X.env) fp) tg (tG X.K g)) (ht : ∀ (s : Shared) (H : Hp) (C : Addr) (cl : List (Str × Addr)) (fp : List Addr), PTs (X.blk s H scope (compEnvC scope cl C X.env) fp) ifs (tT X.K c))
    (hi1 : ∀ (s : Shared) (H : Hp) (C : Addr) (cl : List (Str × Addr)) (fp : List Addr), PI (X.blk s H scope (compEnvC scope cl C X.env) fp) tg1 iter1 (tI X.K fi1))
    (hg1 : ∀ (s : Shared) (H : Hp) (C : Addr) (cl : List (Str × Addr)) (fp : List Addr), PG (X.blk s H scope (compEnvC scope cl C X.env) fp) tg1 (tG X.K g1)) (ht1 : ∀ (s : Shared) (H : Hp) (C : Addr) (cl : List (Str × Addr)) (fp : List Addr), PTs (X.blk s H scope (compEnvC scope cl C X.env) fp) ifs1 (tT X.K c1))
    (he : ∀ (s : Shared) (H : Hp) (C : Addr) (cl : List (Str × Addr)) (fp : List Addr), PE (X.blk s H scope (compEnvC scope cl C X.env) fp) elt (tE X.K fe)) (hix : ∀ j ∈ g.ix, j ∈ own.map (·.2) := by decide) (hix1 : ∀ j ∈ g1.ix, j ∈ vs1 := by decide) (hv : ∀ j ∈ vs1, j ∈ own.map (·.2) := by decide)
    (hs : ∀ x, foldedSetIterable iter X.env x = pure x := by intro _; rfl) (hs1 : ∀ env x, foldedSetIterable iter1 env x = pure x := by intro _ _; rfl) :
    PE X (.ListComp elt [⟨tg, iter, ifs, 0⟩, ⟨tg1, iter1, ifs1, 0⟩] scope pos) (tV X.K (eComp2 fi (own.map (·.2)) g c fi1 vs1 g1 c1 fe)) := pe_mono (pe_lc2 hc hN hi ok hv hg ht hi1 hg1 ht1 he hs hs1) (comp2_red hix hix1 hv)
theorem S_setComp2 (i : Nat) {y : Str} {py spos : Pos} (hc : X.calm = true) (hN : X.N.Nodup) (ok : BlkOk X.N X.env.scope scope own) (hi : PI X tg iter (tIp X.K fi))
    (hg : ∀ (s : Shared) (H : Hp) (C : Addr) (cl : List (Str × Addr)) (fp : List Addr), PG (X.blk s H scope (compEnvC scope cl C X.env) fp) tg (tG X.K g)) (ht : ∀ (s : Shared) (H : Hp) (C : Addr) (cl : List (Str × Addr)) (fp : List Addr), PTs (X.blk s H scope (compEnvC scope cl C X.env) fp) ifs (tT X.K c))
    (hi1 : ∀ (s : Shared) (H : Hp) (C : Addr) (cl : List (Str × Addr)) (fp : List Addr), PI (X.blk s H scope (compEnvC scope cl C X.env) fp) tg1 iter1 (tI X.K fi1))
    (hg1 : ∀ (s : Shared) (H : Hp) (C : Addr) (cl : List (Str × Addr)) (fp : List Addr), PG (X.blk s H scope (compEnvC scope cl C X.env) fp) tg1 (tG X.K g1)) (ht1 : ∀ (s : Shared) (H : Hp) (C : Addr) (cl : List (Str × Addr)) (fp : List Addr), PTs (X.blk s H scope (compEnvC scope cl C X.env) fp) ifs1 (tT X.K c1))
    (he : ∀ (s : Shared) (H : Hp) (C : Addr) (cl : List (Str × Addr)) (fp : List Addr), PE (X.blk s H scope (compEnvC scope cl C X.env) fp) elt (tE X.K fe)) (hsw : swapsWith (.ListComp elt [⟨tg, iter, ifs, 0⟩, ⟨tg1, iter1, ifs1, 0⟩] scope pos) (some (.Name y py)) spos.line X.env = pure true)
    (hix : ∀ j ∈ g.ix, j ∈ own.map (·.2) := by decide) (hix1 : ∀ j ∈ g1.ix, j ∈ vs1 := by decide) (hv : ∀ j ∈ vs1, j ∈ own.map (·.2) := by decide)
    (hy : X.N[i]? = some y := by rfl) (hyl : X.env.scope.names.lookup y = some .local := by rfl) (hs : ∀ x, foldedSetIterable iter X.env x = pure x := by intro _; rfl) (hs1 : ∀ env x, foldedSetIterable iter1 env x = pure x := by intro _ _; rfl) :
    PS X (.Assign [.Name y py] (.ListComp elt [⟨tg, iter, ifs, 0⟩, ⟨tg1, iter1, ifs1, 0⟩] scope pos) spos) (tS X.K W (sSetV i (eComp2 fi (own.map (·.2)) g c fi1 vs1 g1 c1 fe))) := ps_mono (ps_setLc2 hc hN hy hyl hsw hi ok hv hg ht hi1 hg1 ht1 he hs hs1) fun E σ H ⟨H0, Z0, Z, env, hE, q⟩ => by
  obtain ⟨r, k1, k2⟩ := Res.out_eq q
  refine comp2_red hix hix1 hv σ H _ ⟨H0, Z0, Z, env, r, hE, k1, fun v H' Z' e hr => ?_⟩
  by_cases hl : i < env.length
  · rw [if_pos hl] at k2
    obtain ⟨Z2, h2⟩ := hE.setV hl e hr
    exact k2 Z2 _ H' h2
  · rw [if_neg hl] at k2; exact k2.elim
end
/-! ### defs, the law -/
def fnM (np n : Nat) (body : Env → Out) (ds : List D) : Res RV := if ds.length = np then (match body (ds.map Sl.fz ++ List.replicate (n - ds.length) Sl.no) with
  | .ret r => .ok r
  | .next _ => .ok ⟨.none, false⟩
  | .exc c => .exc c
  | _ => .bad) else .bad
section
variable {P : Program} {w : World} {K : PySem.W.Frag} {mg : Str → Option Value} {base : Heap}
theorem env_start {H Z : Hp} {vs : List V} {ds : List D} {N : List Str} (s : Same Z H) (h : DpAll K Z vs ds) (hl : vs.length ≤ N.length) : EnvOk K H Z Z H (L2.start N vs) (ds.map Sl.fz ++ List.replicate (N.length - ds.length) Sl.no) := by
  have l := dps_length h
  refine ⟨s, Same.refl _, Same.refl _, fun _ _ e => e, ?_, fun i sl e => ?_, fun i j p _ e1 _ _ _ => ?_⟩
  · unfold L2.start
    simp [l]
  · unfold L2.start
    by_cases hi : i < ds.length
    · rw [List.getElem?_append_left (by simpa using hi), List.getElem?_map, List.getElem?_eq_getElem hi] at e
      cases e
      obtain ⟨v, h1, h2⟩ := dps_get h (List.getElem?_eq_getElem hi)
      refine ⟨some v, ?_, v, rfl, h2⟩
      rw [List.getElem?_append_left (by simp; omega), List.getElem?_map, h1]
      rfl
    · rw [List.getElem?_append_right (by simp; omega)] at e
      have e1 := e
      rw [List.getElem?_replicate] at e
      split at e
      · cases e
        rename_i hlt
        simp at hlt
        refine ⟨none, ?_, True.intro⟩
        rw [List.getElem?_append_right (by simp; omega), List.getElem?_replicate, if_pos (by simp; omega)]
      · cases e
  · obtain ⟨t, e1, e2⟩ := e1
    by_cases hi : i < ds.length
    · rw [List.getElem?_append_left (by simpa using hi), List.getElem?_map, List.getElem?_eq_getElem hi] at e1
      cases e1
      cases e2
    · rw [List.getElem?_append_right (by simp; omega), List.getElem?_replicate] at e1
      split at e1
      · cases e1; cases e2
      · cases e1
theorem fn_ok {x qual : Str} {st : Stmt} {f : Addr} {fd : FuncData} {N ps : List Str} {k np n : Nat} {body : Env → Out} {m : List D → Res RV} (F : Fun K x qual st f fd) (S : FnScope N ps (defScope st)) (hm : m = fnM np n body) (hnp : ps.length = np) (hn : N.length = n) (hN : np ≤ n)
    (hbody : ∀ (cdv : Value) (A : Around) (outer : List PySem.Env) (s : Shared) (H : Hp) (E : XK), Room k (A.deeper (PyProof.Rows.envOfC qual (defScope st) s.heap.objs.size f cdv)) →
      PSs (cxOf CX0 P w K mg base N qual (defScope st) f cdv A outer s H E).nox (defBody st) (tS K W0 body)) : FnOk P w K mg base CX0 (k + 1) f fd ps (spD K m) := by
  subst hm hnp hn
  have len : ∀ vs H Q E, spD K (fnM ps.length N.length body) vs H Q E → vs.length = ps.length := fun vs H Q E ⟨Z, ds, r, _, h, hm, _⟩ => by
    rw [dps_length h]
    exact (ite_ok hm).1
  refine F.ok S len fun cdv A outer s H vs Q E hr h => ⟨_, hbody cdv A outer s H E hr, ?_⟩
  have hl := len vs H Q E h
  obtain ⟨Z, ds, r, sz, hd, hm, q⟩ := h
  have hm := (ite_ok hm).2
  refine ⟨H, Z, Z, _, env_start sz hd (by rw [hl]; exact hN), ?_⟩
  cases hb : body (ds.map Sl.fz ++ List.replicate (N.length - ds.length) Sl.no) with
  | ret r' =>
    rw [hb] at hm
    cases hm
    exact fun Z' v H' ⟨e, hr⟩ _ => q v H' Z' e hr
  | next env' =>
    rw [hb] at hm
    cases hm
    exact fun Z' σ' H' hE => q .non H' Z' hE.toExt .non
  | exc c => rw [hb] at hm; cases hm
  | bad => rw [hb] at hm; cases hm
  | brk e => rw [hb] at hm; cases hm
  | cont e => rw [hb] at hm; cases hm
theorem cal_mk {x : Str} {st : Stmt} {f : Addr} {fd : FuncData} {ps : List Str} {k : Nat} {m : List D → Res RV} (F : Fun K x x st f fd) (g : mg x = some (.ref f)) (b : Binds K fd ps []) (h : FnOk P w K mg base CX0 k f fd ps (spD K m)) : Cal P w K mg base x k m :=
  ⟨f, fd, ps, h, g, F.kp, b⟩
/-- the law's own promise -/
theorem law_sp {m : List D → Res RV} {ns : List Int} {a : Addr} {H : Hp} (hS : SqL K H a (ns.map V.int)) (h : ∃ r, m [.list (ns.map PyData.int)] = .ok r ∧ r.d = .bool true) : spD K m [.ref a] H (fun v _ => v = .bl true) fun _ _ _ => False := by
  obtain ⟨r, h1, h2⟩ := h
  refine ⟨H, _, r, Same.refl _, .cons (.lst hS (ints_dps ns)) .nil, h1, fun v H' Z' e hr => ?_⟩
  obtain ⟨Z2, _, hd⟩ := hr.frozen e
  rw [h2] at hd
  cases hd
  rfl
end
end PV

set_option Elab.async false
set_option linter.all false
set_option maxRecDepth 100000
namespace PV
open PySem PySem.Spec L2
set_option autoImplicit false
theorem hu65_of {k : Nat} {A : Around} (r : Room k A) : A.units + 65 < cLine := by have := r.un; omega
theorem hu66_of {k : Nat} {A : Around} (r : Room k A) : A.units + 66 < cLine := by have := r.un; omega
theorem fn_bad {P : Program} {w : World} {K : PySem.W.Frag} {mg : Str → Option Value} {base : Heap} {f : Addr} {fd : FuncData} {ps : List Str} {k : Nat} : FnOk P w K mg base CX0 k f fd ps (spD K fun _ => .bad) :=
  ⟨(fun _ _ _ _ ⟨_, _, _, _, _, h, _⟩ => nomatch h), (fun _ _ _ _ _ _ _ _ _ _ _ _ _ ⟨_, _, _, _, _, h, _⟩ => nomatch h)⟩
/-! a < b < c -/
def eChain (g g' : D → D → Res D) (fa fb fc : Env → Res D) : Env → Res D := fun env => (fa env).bind fun x => (fb env).bind fun y => ((g x y).bind toB).bind fun k => if k = true then (fc env).bind fun z => g' y z else .ok (.bool false)
section
variable {X : Cx} {a b c : Expr} {pos : Pos} {op op' : CmpOp} {r r' : R2} {g g' : D → D → Res D} {fa fb fc : Env → Res D}
theorem chain_red (hg : OpD X.K r g) (hg' : OpD X.K r' g') : ∀ σ H Q, tE X.K (eChain g g' fa fb fc) σ H Q → tChain r r' (tP X.K fa) (tP X.K fb) (tP X.K fc) σ H Q := fun σ H Q ⟨H0, Z0, Z, env, d, hE, hf, q⟩ => by
  obtain ⟨x, h1, hf⟩ := Res.bind_eq hf
  obtain ⟨y, h2, hf⟩ := Res.bind_eq hf
  obtain ⟨k, h3, hf⟩ := Res.bind_eq hf
  obtain ⟨kd, h4, h5⟩ := Res.bind_eq h3
  have := toB_eq h5
  subst this
  refine ⟨H0, Z0, Z, env, x, hE, h1, fun v H1 Z1 e1 d1 => ⟨H0, Z0, Z1, env, y, hE.ext e1, h2, fun w H2 Z2 e2 d2 => ?_⟩⟩
  refine hg Z2 H2 v w x y _ _ e2.zh (d1.ext e2) d2 h4 fun u H3 Z3 e3 hu => ?_
  cases hu
  refine ⟨k, rfl, ?_⟩
  have eA := (e1.trans e2).trans e3
  cases k with
  | true =>
    rw [if_pos rfl] at hf ⊢
    obtain ⟨z, h6, h7⟩ := Res.bind_eq hf
    exact ⟨H0, Z0, Z3, env, z, hE.ext eA, h6, fun u H4 Z4 e4 d4 => hg' Z4 H4 w u y z d Q e4.zh ((d2.ext e3).ext e4) d4 h7 fun s H' Z' e5 hs => q s H' Z' ((eA.trans e4).trans e5) hs⟩
  | false =>
    rw [if_neg Bool.false_ne_true] at hf ⊢
    cases hf
    exact q _ H3 Z3 eA (.bl false)
theorem E_chain (ho : OpR X (compareOp op) r) (hg : OpD X.K r g) (ho' : OpR X (compareOp op') r') (hg' : OpD X.K r' g') (ha : PE X a (tP X.K fa)) (hb : PE X b (tP X.K fb)) (hc : PE X c (tP X.K fc))
    (hm : lastMarks [op, op'] [b, c] = false := by with_unfolding_all rfl) : PE X (.Compare a [op, op'] [b, c] pos) (tE X.K (eChain g g' fa fb fc)) := pe_mono (pe_chain ho ho' ha hb hc hm) (chain_red hg hg')
theorem T_chain (ho : OpR X (compareOp op) r) (hg : OpD X.K r g) (ho' : OpR X (compareOp op') r') (hg' : OpD X.K r' g') (ha : PE X a (tP X.K fa)) (hb : PE X b (tP X.K fb)) (hc : PE X c (tP X.K fc))
    (hm : lastMarks [op, op'] [b, c] = false := by with_unfolding_all rfl) : PT X (.Compare a [op, op'] [b, c] pos) (tT X.K (eB (eChain g g' fa fb fc))) := pt_mono (pt_chain ho ho' ha hb hc hm) fun σ H Q ⟨H0, Z0, Z, env, k, hE, hf, q⟩ => by
  obtain ⟨d, h1, h2⟩ := Res.bind_eq hf
  have := toB_eq h2
  subst this
  refine chain_red hg hg' σ H _ ⟨H0, Z0, Z, env, _, hE, h1, fun v H' Z' e hd => ?_⟩
  cases hd
  exact ⟨k, rfl, q H' Z' e⟩
end
/-! [x] * n, xs[::-1] -/
def gRep : RV → D → Res RV
  | ⟨.list xs, true⟩, .int k => if smallI k = true ∧ xs.length * k.toNat < 1000000 then .ok ⟨.list (List.replicate k.toNat xs).flatten, true⟩ else .bad
  | _, _ => .bad
def eRep (fa : Env → Res RV) (fb : Env → Res D) : Env → Res RV := fun env => (fa env).bind fun x => (fb env).bind fun y => gRep x y
def eRevSl (fa : Env → Res D) : Env → Res RV := fun env => ((fa env).bind listD).bind fun ds => .ok ⟨.list ds.reverse, true⟩
section
variable {X : Cx} {K : PySem.W.Frag} {Z : Hp} {a b e : Expr} {pos p1 p2 p3 : Pos} {fa : Env → Res RV} {fb f : Env → Res D}
theorem dps_rep {vs : List V} {ds : List D} (h : DpAll K Z vs ds) : ∀ n : Nat, DpAll K Z (List.replicate n vs).flatten (List.replicate n ds).flatten
  | 0 => .nil
  | n + 1 => by
    rw [List.replicate_succ, List.replicate_succ, List.flatten_cons, List.flatten_cons]
    exact dps_append h (dps_rep h n)
theorem dps_rev : ∀ {vs : List V} {ds : List D}, DpAll K Z vs ds → DpAll K Z vs.reverse ds.reverse
  | _, _, .nil => .nil
  | _, _, .cons h1 h2 => by
    rw [List.reverse_cons, List.reverse_cons]
    exact dps_append (dps_rev h2) (.cons h1 .nil)
theorem V_rep (ha : PE X a (tV X.K fa)) (hb : PE X b (tP X.K fb)) : PE X (.BinOp a .Mult b pos) (tV X.K (eRep fa fb)) := pe_mono (pe_op op_rep ha hb) fun σ H Q ⟨H0, Z0, Z, env, r, hE, hf, q⟩ => by
  obtain ⟨x, h1, hf⟩ := Res.bind_eq hf
  obtain ⟨y, h2, hf⟩ := Res.bind_eq hf
  refine ⟨H0, Z0, Z, env, x, hE, h1, fun v H1 Z1 e1 d1 => ⟨H0, Z0, Z1, env, y, hE.ext e1, h2, fun w H2 Z2 e2 d2 => ?_⟩⟩
  unfold gRep at hf
  split at hf
  · obtain ⟨⟨k1, k2⟩, hf⟩ := ite_ok hf
    cases hf
    obtain ⟨p, vs, ds, rfl, g1, g2, g3, g4, g5⟩ := d1
    cases g1
    have := d2.int; subst this
    have eA := e1.trans e2
    have s1 := smallI_ok k1
    refine ⟨p, _, vs, rfl, rfl, e2.hh _ _ g4, by omega, by omega, by rw [dps_length g5]; exact Nat.le_of_lt (lim_ok k2), fun p' hp => ?_⟩
    exact q _ _ _ (eA.trans (.made eA.zh hp)) ⟨p', _, _, rfl, rfl, eA.hh.free hp, eA.zh.free hp, upd_same, dps_rep (dps_mono e2.zz g5) _⟩
  · cases hf
theorem V_revSl {k : Nat} (he : PE X e (tP X.K f)) : PE X (.Subscript e (.Slice none none (some (.UnaryOp .USub (.Constant (.int 1) k p1) p2)) p3) pos) (tV X.K (eRevSl f)) := pe_mono (pe_revL he) fun σ H Q ⟨H0, Z0, Z, env, r, hE, hf, q⟩ => by
  obtain ⟨ds, h1, h2⟩ := Res.bind_eq hf
  obtain ⟨d, h0, h1⟩ := Res.bind_eq h1
  have := listD_eq h1; subst this
  cases h2
  refine ⟨H0, Z0, Z, env, _, hE, h0, fun v H1 Z1 e1 d1 => ?_⟩
  obtain ⟨p, vs, rfl, k1, k2⟩ := d1.list e1.zh
  exact ⟨p, vs, rfl, k1, fun a ha => q _ _ _ (e1.trans (.made e1.zh ha)) ⟨a, _, _, rfl, rfl, e1.hh.free ha, e1.zh.free ha, upd_same, dps_rev k2⟩⟩
end
end PV

set_option Elab.async false
set_option linter.all false
set_option maxRecDepth 100000
namespace PV
open PySem PySem.Spec L2
set_option autoImplicit false
/-! ### a call whose answer is plain: the arguments may be lists of one's own -/
def plainD : D → Bool
  | .none => true
  | .bool _ => true
  | .int _ => true
  | .str _ => true
  | _ => false
def eCallS (m : List D → Res RV) (fs : Env → Res (List D)) : Env → Res D := fun env => ((fs env).bind m).bind fun r => if plainD r.d = true then .ok r.d else .bad
section
variable {X : Cx} {x : Str} {k j : Nat} {p p2 pos : Pos} {e : Expr} {es : List Expr} {fs : Env → Res (List D)} {m : List D → Res RV} {K : PySem.W.Frag} {Z H : Hp}
theorem ps_cur : ∀ {vs : List V} {ds : List D}, DpPs K Z H vs ds → Same Z H → DpAll K H vs ds
  | _, _, .nil, _ => .nil
  | _, _, .cons a b, s => .cons (a.cur s) (ps_cur b s)
theorem plain_dp {H' : Hp} {v : V} {d : D} (h : Dp K H v d) (hp : plainD d = true) : Dp K H' v d := by
  cases h with
  | non => exact .non
  | bl b => exact .bl b
  | int i => exact .int i
  | str x => exact .str x
  | lst _ _ => cases hp
  | tup _ _ => cases hp
theorem E_callS (C : Cal X.prog X.w X.K X.mg X.base x k m) (hr : Room j X.A) (ha : PA X (e :: es) (tAp X.K fs)) (hk : k ≤ j := by decide) (hg : Gl X x := by rfl) (hdb : (x == ("__debug__" : Str)) = false := by decide)
    (he : starEach (e :: es) X.env = (false, eval e X.env) :: starEach es X.env := by rfl) (hpl : (backTo pos (starEach es X.env)).any (·.1) = false := by rfl) : PE X (.Call (.Name x p) (e :: es) [] pos) (tE X.K (eCallS m fs)) := by
  obtain ⟨f, fd, ps, F, hm, kp, b⟩ := C.ex
  refine pe_mono (pe_call F (hr.mono hk) hg hm kp b .nil pass0 ha hdb he hpl) fun σ H Q ⟨H0, Z0, Z, env, d, hE, hf, q⟩ => ?_
  obtain ⟨r, h1, h3⟩ := Res.bind_eq hf
  obtain ⟨ds, h1, h2⟩ := Res.bind_eq h1
  obtain ⟨h4, h5⟩ := ite_ok h3
  cases h5
  refine ⟨H0, Z0, Z, env, ds, hE, h1, fun vs H1 Z1 e1 d1 => ⟨H1, ds, r, Same.refl _, by rw [List.append_nil]; exact ps_cur d1 e1.zh, h2, fun v H' Z' e2 hr => ?_⟩⟩
  obtain ⟨Z2, _, hd⟩ := hr.frozen e2
  exact q v H' Z1 (e1.trans ⟨e2.hh, Same.refl _, e1.zh.trans e2.hh, fun _ _ h => h⟩) (plain_dp hd h4)
end
/-! ### evaluation -/
section
variable {α β : Type}
@[simp] theorem eC_ev (d : D) (env : Env) : eC d env = .ok d := Eq.trans rfl rfl
@[simp] theorem eVar_0 (d : D) (r : Env) : eVar 0 (.fz d :: r) = .ok d := Eq.trans rfl rfl
@[simp] theorem eVar_s (i : Nat) (s : Sl) (r : Env) : eVar (i + 1) (s :: r) = eVar i r := Eq.trans rfl rfl
@[simp] theorem ePk_0 (d : D) (r : Env) : ePk 0 (.fz d :: r) = .ok d := Eq.trans rfl rfl
@[simp] theorem ePk_0o (ds : List D) (r : Env) : ePk 0 (.own ds :: r) = .ok (.list ds) := Eq.trans rfl rfl
@[simp] theorem ePk_s (i : Nat) (s : Sl) (r : Env) : ePk (i + 1) (s :: r) = ePk i r := Eq.trans rfl rfl
@[simp] theorem eV_ev (f : Env → Res RV) (env : Env) : eV f env = (f env).bind fun r => .ok r.d := Eq.trans rfl rfl
@[simp] theorem eE_ev (f : Env → Res D) (env : Env) : eE f env = (f env).bind fun d => .ok ⟨d, false⟩ := Eq.trans rfl rfl
@[simp] theorem eOp2_ev (g : D → D → Res α) (fa fb : Env → Res D) (env : Env) : eOp2 g fa fb env = (fa env).bind fun x => (fb env).bind fun y => g x y := Eq.trans rfl rfl
@[simp] theorem eOp1_ev (g : D → Res α) (fa : Env → Res D) (env : Env) : eOp1 g fa env = (fa env).bind g := Eq.trans rfl rfl
@[simp] theorem eBi_ev (g : List D → Res α) (fs : Env → Res (List D)) (env : Env) : eBi g fs env = (fs env).bind g := Eq.trans rfl rfl
@[simp] theorem eCall_ev (m : List D → Res RV) (fs : Env → Res (List D)) (env : Env) : eCall m fs env = (fs env).bind m := Eq.trans rfl rfl
@[simp] theorem eCallS_ev (m : List D → Res RV) (fs : Env → Res (List D)) (env : Env) : eCallS m fs env = ((fs env).bind m).bind fun r => if plainD r.d = true then .ok r.d else .bad := Eq.trans rfl rfl
@[simp] theorem aNil_ev (env : Env) : aNil env = .ok [] := Eq.trans rfl rfl
@[simp] theorem aCons_ev (f : Env → Res D) (g : Env → Res (List D)) (env : Env) : aCons f g env = (f env).bind fun d => (g env).bind fun ds => .ok (d :: ds) := Eq.trans rfl rfl
@[simp] theorem eTup_ev (fs : Env → Res (List D)) (env : Env) : eTup fs env = (fs env).bind fun ds => if ds.length < 1000000 then .ok (.tuple ds) else .bad := Eq.trans rfl rfl
@[simp] theorem eLst_ev (fs : Env → Res (List D)) (env : Env) : eLst fs env = (fs env).bind fun ds => if ds.length < 1000000 then .ok ⟨.list ds, true⟩ else .bad := Eq.trans rfl rfl
@[simp] theorem eB_ev (f : Env → Res D) (env : Env) : eB f env = (f env).bind toB := Eq.trans rfl rfl
@[simp] theorem toB_b (b : Bool) : toB (.bool b) = .ok b := Eq.trans rfl rfl
@[simp] theorem eTr_ev (f : Env → Res D) (env : Env) : eTr f env = (f env).bind truD := Eq.trans rfl rfl
@[simp] theorem truD_b (b : Bool) : truD (.bool b) = .ok b := Eq.trans rfl rfl
@[simp] theorem truD_l (xs : List D) : truD (.list xs) = .ok (!xs.isEmpty) := Eq.trans rfl rfl
@[simp] theorem truD_t (xs : List D) : truD (.tuple xs) = .ok (!xs.isEmpty) := Eq.trans rfl rfl
@[simp] theorem truD_i (i : Int) : truD (.int i) = .ok (i != 0) := Eq.trans rfl rfl
@[simp] theorem truD_n : truD .none = .ok false := Eq.trans rfl rfl
@[simp] theorem bAnd_ev (f g : Env → Res Bool) (env : Env) : bAnd f g env = (f env).bind fun b => if b = true then g env else .ok false := Eq.trans rfl rfl
@[simp] theorem bOr_ev (f g : Env → Res Bool) (env : Env) : bOr f g env = (f env).bind fun b => if b = true then .ok true else g env := Eq.trans rfl rfl
@[simp] theorem bNot_ev (f : Env → Res Bool) (env : Env) : bNot f env = (f env).bind fun b => .ok (!b) := Eq.trans rfl rfl
@[simp] theorem bYes_ev (env : Env) : bYes env = .ok true := Eq.trans rfl rfl
@[simp] theorem eAnd_ev (f g : Env → Res D) (env : Env) : eAnd f g env = ((f env).bind toB).bind fun b => if b = true then g env else .ok (.bool false) := Eq.trans rfl rfl
@[simp] theorem eOr_ev (f g : Env → Res D) (env : Env) : eOr f g env = ((f env).bind toB).bind fun b => if b = true then .ok (.bool true) else g env := Eq.trans rfl rfl
@[simp] theorem eNot_ev (f : Env → Res D) (env : Env) : eNot f env = ((f env).bind toB).bind fun b => .ok (.bool (!b)) := Eq.trans rfl rfl
@[simp] theorem eIf_ev (c : Env → Res Bool) (f g : Env → Res α) (env : Env) : eIf c f g env = (c env).bind fun b => if b = true then f env else g env := Eq.trans rfl rfl
@[simp] theorem eChain_ev (g g' : D → D → Res D) (fa fb fc : Env → Res D) (env : Env) : eChain g g' fa fb fc env = (fa env).bind fun x => (fb env).bind fun y => ((g x y).bind toB).bind fun k => if k = true then (fc env).bind fun z => g' y z else .ok (.bool false) := Eq.trans rfl rfl
@[simp] theorem eOpt_ev (f : Env → Res D) (env : Env) : eOpt f env = (f env).bind fun d => match d with | .int i => .ok (some i) | _ => .bad := Eq.trans rfl rfl
@[simp] theorem eNo_ev (env : Env) : eNo env = .ok none := Eq.trans rfl rfl
@[simp] theorem eSl_ev (fa : Env → Res D) (fl fh : Env → Res (Option Int)) (env : Env) : eSl fa fl fh env = (fa env).bind fun x => (fl env).bind fun l => (fh env).bind fun u => gSl x l u := Eq.trans rfl rfl
@[simp] theorem gSl_l (xs : List D) (lo hi : Option Int) : gSl (.list xs) lo hi = .ok ⟨.list (cutD xs lo hi), true⟩ := Eq.trans rfl rfl
@[simp] theorem eRep_ev (fa : Env → Res RV) (fb : Env → Res D) (env : Env) : eRep fa fb env = (fa env).bind fun x => (fb env).bind fun y => gRep x y := Eq.trans rfl rfl
@[simp] theorem eRevSl_ev (fa : Env → Res D) (env : Env) : eRevSl fa env = ((fa env).bind listD).bind fun ds => .ok ⟨.list ds.reverse, true⟩ := Eq.trans rfl rfl
@[simp] theorem listD_l (xs : List D) : listD (.list xs) = .ok xs := Eq.trans rfl rfl
/-! values -/
@[simp] theorem gAdd_i (i j : Int) : gAdd (.int i) (.int j) = .ok ⟨.int (i + j), false⟩ := Eq.trans rfl rfl
@[simp] theorem gAdd_l (xs ys : List D) : gAdd (.list xs) (.list ys) = if xs.length + ys.length < 1000000 then .ok ⟨.list (xs ++ ys), true⟩ else .bad := Eq.trans rfl rfl
@[simp] theorem gAdd_t (xs ys : List D) : gAdd (.tuple xs) (.tuple ys) = if xs ≠ [] ∧ ys ≠ [] ∧ xs.length + ys.length < 1000000 then .ok ⟨.tuple (xs ++ ys), false⟩ else .bad := Eq.trans rfl rfl
@[simp] theorem gInt_i (c : Int → Int → Bool) (g : Int → Int → D) (i j : Int) : gInt c g (.int i) (.int j) = if c i j = true then .ok (g i j) else .bad := Eq.trans rfl rfl
@[simp] theorem cTrue_t (i j : Int) : cTrue i j = true := Eq.trans rfl rfl
@[simp] theorem gOrd_i (p : Int → Int → Bool) (g : D → D → Bool) (i j : Int) : gOrd p g (.int i) (.int j) = .ok (.bool (p i j)) := Eq.trans rfl rfl
@[simp] theorem gNeg_i (i : Int) : gNeg (.int i) = .ok (.int (-i)) := Eq.trans rfl rfl
theorem shaped_i (i : Int) : SeqAt.shaped (.int i) = true := by simp [SeqAt.shaped, PyData.canLay0, PyData.depth]
theorem shaped_b (i : Bool) : SeqAt.shaped (.bool i) = true := by simp [SeqAt.shaped, PyData.canLay0, PyData.depth]
theorem shaped_s (i : Str) (h : PyData.strOk i = true) : SeqAt.shaped (.str i) = true := by simp [SeqAt.shaped, PyData.canLay0, PyData.depth, h]
theorem shaped_n : SeqAt.shaped .none = true := by simp [SeqAt.shaped, PyData.canLay0, PyData.depth]
theorem gEq_ev (d e : D) (h : SeqAt.shaped d = true) (h' : SeqAt.shaped e = true) : gEq d e = .ok (.bool (PyData.eqv d e)) := by unfold gEq; rw [if_pos ⟨h, h'⟩]
theorem gNe_ev (d e : D) (h : SeqAt.shaped d = true) (h' : SeqAt.shaped e = true) : gNe d e = .ok (.bool (!PyData.eqv d e)) := by unfold gNe; rw [if_pos ⟨h, h'⟩]
@[simp] theorem gEq_i (i j : Int) : gEq (.int i) (.int j) = .ok (.bool (decide (i = j))) := by
  rw [gEq_ev _ _ (shaped_i i) (shaped_i j)]; simp only [PyData.eqv]; congr 2
@[simp] theorem gNe_i (i j : Int) : gNe (.int i) (.int j) = .ok (.bool (!decide (i = j))) := by
  rw [gNe_ev _ _ (shaped_i i) (shaped_i j)]; simp only [PyData.eqv]; congr 3
@[simp] theorem gEq_b (i j : Bool) : gEq (.bool i) (.bool j) = .ok (.bool (decide (i = j))) := by
  rw [gEq_ev _ _ (shaped_b i) (shaped_b j)]; simp only [PyData.eqv]; congr 2
@[simp] theorem gNe_b (i j : Bool) : gNe (.bool i) (.bool j) = .ok (.bool (!decide (i = j))) := by
  rw [gNe_ev _ _ (shaped_b i) (shaped_b j)]; simp only [PyData.eqv]; congr 3
theorem gEq_s (i j : Str) (hi : PyData.strOk i = true) (hj : PyData.strOk j = true) : gEq (.str i) (.str j) = .ok (.bool (decide (i = j))) := by
  rw [gEq_ev _ _ (shaped_s i hi) (shaped_s j hj)]; simp only [PyData.eqv]; congr 2
theorem gNe_s (i j : Str) (hi : PyData.strOk i = true) (hj : PyData.strOk j = true) : gNe (.str i) (.str j) = .ok (.bool (!decide (i = j))) := by
  rw [gNe_ev _ _ (shaped_s i hi) (shaped_s j hj)]; simp only [PyData.eqv]; congr 3
@[simp] theorem gIs_n (d : D) : gIs d .none = .ok (.bool (isNone d)) := by cases d <;> rfl
@[simp] theorem gIs_b (a b : Bool) : gIs (.bool a) (.bool b) = .ok (.bool (decide (a = b))) := Eq.trans rfl rfl
@[simp] theorem gIsNot_n (d : D) : gIsNot d .none = .ok (.bool (!isNone d)) := by cases d <;> rfl
@[simp] theorem gIsNot_b (a b : Bool) : gIsNot (.bool a) (.bool b) = .ok (.bool (!decide (a = b))) := Eq.trans rfl rfl
@[simp] theorem isNone_i (i : Int) : isNone (.int i) = false := Eq.trans rfl rfl
@[simp] theorem isNone_b (i : Bool) : isNone (.bool i) = false := Eq.trans rfl rfl
@[simp] theorem isNone_t (i : List D) : isNone (.tuple i) = false := Eq.trans rfl rfl
@[simp] theorem isNone_l (i : List D) : isNone (.list i) = false := Eq.trans rfl rfl
@[simp] theorem isNone_s (i : Str) : isNone (.str i) = false := Eq.trans rfl rfl
@[simp] theorem isNone_n : isNone .none = true := Eq.trans rfl rfl
/-! subscripts -/
def optR {α : Type} : Option α → Res α
  | some a => .ok a
  | none => .bad
@[simp] theorem optR_some {α : Type} (a : α) : optR (some a) = .ok a := Eq.trans rfl rfl
@[simp] theorem optR_none {α : Type} : optR (none : Option α) = .bad := Eq.trans rfl rfl
@[simp] theorem gIdx_l (xs : List D) (i : Int) : gIdx (.list xs) (.int i) = optR (atI xs i) := by
  show (match atI xs i with | some d => Res.ok d | none => .bad) = _
  cases atI xs i <;> rfl
@[simp] theorem gIdx_t (xs : List D) (i : Int) : gIdx (.tuple xs) (.int i) = optR (atI xs i) := by
  show (match atI xs i with | some d => Res.ok d | none => .bad) = _
  cases atI xs i <;> rfl
theorem atI_of {α : Type} {xs : List α} {i : Int} (h0 : 0 ≤ i) (h1 : i < xs.length) : atI xs i = xs[i.toNat]? := by
  unfold atI ixN
  rw [if_pos h0, if_pos h1]
  rfl
theorem atI_neg {α : Type} {xs : List α} {i : Int} (h0 : i < 0) (h1 : -(xs.length : Int) ≤ i) : atI xs i = xs[(i + xs.length).toNat]? := by
  unfold atI ixN
  rw [if_neg (by omega), if_pos h1]
  rfl
@[simp] theorem atI_0 {α : Type} (x : α) (r : List α) : atI (x :: r) 0 = some x := by rw [atI_of (by omega) (by simp only [List.length_cons]; omega)]; rfl
theorem atI_map {α β : Type} (f : α → β) (xs : List α) (i : Int) : atI (xs.map f) i = (atI xs i).map f := by
  unfold atI
  rw [List.length_map]
  cases ixN xs.length i with
  | none => rfl
  | some j => simp
/-! built-ins -/
@[simp] theorem gLen_l (xs : List D) : gLen [.list xs] = .ok (.int xs.length) := Eq.trans rfl rfl
@[simp] theorem gLen_t (xs : List D) : gLen [.tuple xs] = .ok (.int xs.length) := Eq.trans rfl rfl
@[simp] theorem gAbs_i (i : Int) : gAbs [.int i] = .ok (.int (i.natAbs : Int)) := by
  have : (if i < 0 then -i else i) = (i.natAbs : Int) := by split <;> omega
  rw [← this]; rfl
@[simp] theorem gMax2_i (i j : Int) : gMax2 [.int i, .int j] = .ok (.int (max i j)) := by
  have : (if j > i then j else i) = max i j := by split <;> omega
  rw [← this]; rfl
@[simp] theorem gMin2_i (i j : Int) : gMin2 [.int i, .int j] = .ok (.int (min i j)) := by
  have : (if j < i then j else i) = min i j := by split <;> omega
  rw [← this]; rfl
@[simp] theorem gIntT_i (i : Int) : gIntT [.int i] = .ok (.int i) := Eq.trans rfl rfl
@[simp] theorem gIntT_b (b : Bool) : gIntT [.bool b] = .ok (.int (if b then 1 else 0)) := Eq.trans rfl rfl
@[simp] theorem gGcd_i (i j : Int) : gGcd [.int i, .int j] = .ok (.int (Nat.gcd i.natAbs j.natAbs : Nat)) := Eq.trans rfl rfl
@[simp] theorem gSum_i (ns : List Int) : gSum [.list (ns.map PyData.int)] = .ok (.int ns.sum) := by simp [gSum]
@[simp] theorem gAll_b (ns : List Bool) : gAll [.list (ns.map PyData.bool)] = .ok (.bool (ns.all id)) := by simp [gAll]
@[simp] theorem gAny_b (ns : List Bool) : gAny [.list (ns.map PyData.bool)] = .ok (.bool (ns.any id)) := by simp [gAny]
@[simp] theorem gList_l (xs : List D) : gList [.list xs] = .ok ⟨.list xs, true⟩ := Eq.trans rfl rfl
@[simp] theorem gList_t (xs : List D) : gList [.tuple xs] = .ok ⟨.list xs, true⟩ := Eq.trans rfl rfl
@[simp] theorem gTuple_l (xs : List D) : gTuple [.list xs] = .ok (.tuple xs) := Eq.trans rfl rfl
/-! statements -/
@[simp] theorem andThen_next (e : Env) (g : Env → Out) : (Out.next e).andThen g = g e := Eq.trans rfl rfl
@[simp] theorem andThen_ret (r : RV) (g : Env → Out) : (Out.ret r).andThen g = .ret r := Eq.trans rfl rfl
@[simp] theorem andThen_brk (e : Env) (g : Env → Out) : (Out.brk e).andThen g = .brk e := Eq.trans rfl rfl
@[simp] theorem andThen_cont (e : Env) (g : Env → Out) : (Out.cont e).andThen g = .cont e := Eq.trans rfl rfl
@[simp] theorem andThen_bad (g : Env → Out) : Out.bad.andThen g = .bad := Eq.trans rfl rfl
@[simp] theorem andThen_ite (c : Prop) [Decidable c] (a b : Out) (g : Env → Out) : (if c then a else b).andThen g = if c then a.andThen g else b.andThen g := by split <;> rfl
@[simp] theorem bind_ite (c : Prop) [Decidable c] (a b : Res α) (g : α → Res β) : (if c then a else b).bind g = if c then a.bind g else b.bind g := by split <;> rfl
@[simp] theorem out_ite (c : Prop) [Decidable c] (a b : Res α) (g : α → Out) : (if c then a else b).out g = if c then a.out g else b.out g := by split <;> rfl
@[simp] theorem sNil_ev (env : Env) : sNil env = .next env := Eq.trans rfl rfl
@[simp] theorem sSeq_ev (f g : Env → Out) (env : Env) : sSeq f g env = (f env).andThen g := Eq.trans rfl rfl
@[simp] theorem sBrk_ev (env : Env) : sBrk env = .brk env := Eq.trans rfl rfl
@[simp] theorem sCont_ev (env : Env) : sCont env = .cont env := Eq.trans rfl rfl
@[simp] theorem fz1_0 (ds : List D) (r : Env) : fz1 0 (.own ds :: r) = .fz (.list ds) :: r := Eq.trans rfl rfl
@[simp] theorem fz1_0f (d : D) (r : Env) : fz1 0 (.fz d :: r) = .fz d :: r := Eq.trans rfl rfl
@[simp] theorem fz1_0n (r : Env) : fz1 0 (.no :: r) = .no :: r := Eq.trans rfl rfl
@[simp] theorem fz1_s (i : Nat) (s : Sl) (r : Env) : fz1 (i + 1) (s :: r) = s :: fz1 i r := by
  unfold fz1
  rw [List.getElem?_cons_succ]
  cases r[i]? with
  | none => rfl
  | some x => cases x <;> rfl
@[simp] theorem sFz_ev (is : List Nat) (f : Env → Out) (env : Env) : sFz is f env = f (is.foldl (fun e i => fz1 i e) env) := Eq.trans rfl rfl
@[simp] theorem sExpr_ev (f : Env → Res RV) (env : Env) : sExpr f env = (f env).out fun _ => .next env := Eq.trans rfl rfl
@[simp] theorem sRetV_ev (f : Env → Res RV) (env : Env) : sRetV f env = (f env).out fun r => .ret r := Eq.trans rfl rfl
@[simp] theorem sRetE_ev (f : Env → Res D) (env : Env) : sRetE f env = (f env).out fun d => .ret ⟨d, false⟩ := Eq.trans rfl rfl
@[simp] theorem sRetVar_0f (d : D) (r : Env) : sRetVar 0 (.fz d :: r) = .ret ⟨d, false⟩ := Eq.trans rfl rfl
@[simp] theorem sRetVar_0o (ds : List D) (r : Env) : sRetVar 0 (.own ds :: r) = .ret ⟨.list ds, true⟩ := Eq.trans rfl rfl
@[simp] theorem sRetVar_s (i : Nat) (s : Sl) (r : Env) : sRetVar (i + 1) (s :: r) = sRetVar i r := Eq.trans rfl rfl
@[simp] theorem sRetN_ev (env : Env) : sRetN env = .ret ⟨.none, false⟩ := Eq.trans rfl rfl
@[simp] theorem sIf_ev (c : Env → Res Bool) (f g : Env → Out) (env : Env) : sIf c f g env = (c env).out fun b => if b = true then f env else g env := Eq.trans rfl rfl
@[simp] theorem gNm_f (i : Nat) (d : D) (env : Env) : (gNm i).f d env = if i < env.length then .ok (env.set i (.fz d)) else .bad := Eq.trans rfl rfl
@[simp] theorem gTp_f (n : Nat) (gs : Tgs) (ds : List D) (env : Env) : (gTp n gs).f (.tuple ds) env = if ds.length = n then gs.f ds env else .bad := Eq.trans rfl rfl
@[simp] theorem gsNil_f (env : Env) : gsNil.f [] env = .ok env := Eq.trans rfl rfl
@[simp] theorem gsCons_f (g : Tg) (r : Tgs) (d : D) (ds : List D) (env : Env) : (gsCons g r).f (d :: ds) env = (g.f d env).bind fun env1 => r.f ds env1 := Eq.trans rfl rfl
@[simp] theorem sSetE_ev (g : Tg) (f : Env → Res D) (env : Env) : sSetE g f env = (f env).out fun d => (g.f d env).out fun e => .next e := Eq.trans rfl rfl
@[simp] theorem sSet_ev (i : Nat) (f : Env → Res D) (env : Env) : sSet i f env = (f env).out fun d => if i < env.length then .next (env.set i (.fz d)) else .bad := Eq.trans rfl rfl
@[simp] theorem sSetV_ev (i : Nat) (f : Env → Res RV) (env : Env) : sSetV i f env = (f env).out fun r => if i < env.length then .next (env.set i (slOf r)) else .bad := Eq.trans rfl rfl
@[simp] theorem slOf_l (ds : List D) : slOf ⟨.list ds, true⟩ = .own ds := Eq.trans rfl rfl
@[simp] theorem slOf_f (d : D) : slOf ⟨d, false⟩ = .fz d := by cases d <;> rfl
@[simp] theorem sPar_ev (i j : Nat) (fs : Env → Res (List D)) (env : Env) : sPar i j fs env = (fs env).out fun ds => match ds with
  | [d, d'] => if i < env.length ∧ j < env.length then .next ((env.set i (.fz d)).set j (.fz d')) else .bad
  | _ => .bad := Eq.trans rfl rfl
@[simp] theorem sAug_ev (i : Nat) (g : D → D → Res D) (f : Env → Res D) (env : Env) : sAug i g f env = (eVar i env).out fun x => (f env).out fun y => (g x y).out fun d => .next (env.set i (.fz d)) := Eq.trans rfl rfl
@[simp] theorem sApp_ev (i : Nat) (fe : Env → Res D) (env : Env) : sApp i fe env = (fe env).out fun d => match env[i]? with
  | some (.own ds) => if ds.length < 1000000 then .next (env.set i (.own (ds ++ [d]))) else .bad
  | _ => .bad := Eq.trans rfl rfl
@[simp] theorem sSetIx_ev (i : Nat) (fi fe : Env → Res D) (env : Env) : sSetIx i fi fe env = (fe env).out fun d => (fi env).out fun k => match env[i]?, k with
  | some (.own ds), .int z => match ixN ds.length z with
    | some j => .next (env.set i (.own (ds.set j d)))
    | none => .bad
  | _, _ => .bad := Eq.trans rfl rfl
@[simp] theorem clr_nil (env : Env) : clr [] env = env := Eq.trans rfl rfl
@[simp] theorem clr_cons (i : Nat) (r : List Nat) (env : Env) : clr (i :: r) env = clr r (env.set i .no) := Eq.trans rfl rfl
def outR : Out → Res RV
  | .ret r => .ok r
  | .next _ => .ok ⟨.none, false⟩
  | .exc c => .exc c
  | _ => .bad
@[simp] theorem outR_ret (r : RV) : outR (.ret r) = .ok r := Eq.trans rfl rfl
@[simp] theorem outR_next (e : Env) : outR (.next e) = .ok ⟨.none, false⟩ := Eq.trans rfl rfl
@[simp] theorem outR_exc (c : Str) : outR (.exc c) = .exc c := Eq.trans rfl rfl
@[simp] theorem outR_bad : outR .bad = .bad := Eq.trans rfl rfl
@[simp] theorem outR_ite (c : Prop) [Decidable c] (a b : Out) : outR (if c then a else b) = if c then outR a else outR b := by split <;> rfl
@[simp] theorem fnM_ev (np n : Nat) (body : Env → Out) (ds : List D) : fnM np n body ds = if ds.length = np then outR (body (ds.map Sl.fz ++ List.replicate (n - ds.length) Sl.no)) else .bad := by
  unfold fnM
  split
  · cases body (ds.map Sl.fz ++ List.replicate (n - ds.length) Sl.no) <;> rfl
  · rfl
/-! what is walked -/
@[simp] theorem iSeq_ev (f : Env → Res D) (env : Env) : iSeq f env = (f env).bind seqD := Eq.trans rfl rfl
@[simp] theorem seqD_l (xs : List D) : seqD (.list xs) = .ok xs := Eq.trans rfl rfl
@[simp] theorem seqD_t (xs : List D) : seqD (.tuple xs) = .ok xs := Eq.trans rfl rfl
@[simp] theorem iRange1_ev (f : Env → Res D) (env : Env) : iRange1 f env = (f env).bind fun d => match d with
  | .int j => if smallI j = true then .ok (rangeD 0 j.toNat) else .bad
  | _ => .bad := Eq.trans rfl rfl
@[simp] theorem iRange2_ev (f g : Env → Res D) (env : Env) : iRange2 f g env = (f env).bind fun d => (g env).bind fun e => match d, e with
  | .int i, .int j => if smallI i = true ∧ smallI j = true then .ok (rangeD i (j - i).toNat) else .bad
  | _, _ => .bad := Eq.trans rfl rfl
@[simp] theorem iEnumD_ev (f : Env → Res D) (env : Env) : iEnumD f env = ((f env).bind listD).bind fun ds => .ok (enumD ds) := Eq.trans rfl rfl
@[simp] theorem iRevD_ev (f : Env → Res D) (env : Env) : iRevD f env = ((f env).bind listD).bind fun ds => .ok ds.reverse := Eq.trans rfl rfl
@[simp] theorem gZip_l (xs ys : List D) : gZip (.list xs) (.list ys) = .ok (zipD xs ys) := Eq.trans rfl rfl
@[simp] theorem gZip_t (xs ys : List D) : gZip (.tuple xs) (.tuple ys) = .ok (zipD xs ys) := Eq.trans rfl rfl
theorem smallI_of {i : Int} (h : -1000000000000 ≤ i) (h' : i ≤ 1000000000000) : smallI i = true := by
  unfold smallI
  exact Nat.ble_eq_true_of_le (by omega)
theorem smallI_nat {n : Nat} (h : n ≤ 1000000000000) : smallI (n : Int) = true := smallI_of (by omega) (by omega)
/-! ### loops -/
/-- one turn of a for loop -/
def turn (g : Tg) (dead : List Nat) (body : Env → Out) (d : D) (env : Env) : Out := (g.f d env).out fun e1 => match body e1 with
  | .next e2 => .next (clr dead e2)
  | .cont e2 => .next (clr dead e2)
  | .brk e2 => .brk (clr dead e2)
  | .ret r => .ret r
  | .exc c => .exc c
  | .bad => .bad
def turnO (dead : List Nat) : Out → Out
  | .next e2 => .next (clr dead e2)
  | .cont e2 => .next (clr dead e2)
  | .brk e2 => .brk (clr dead e2)
  | .ret r => .ret r
  | .exc c => .exc c
  | .bad => .bad
@[simp] theorem turnO_next (dead : List Nat) (e : Env) : turnO dead (.next e) = .next (clr dead e) := Eq.trans rfl rfl
@[simp] theorem turnO_cont (dead : List Nat) (e : Env) : turnO dead (.cont e) = .next (clr dead e) := Eq.trans rfl rfl
@[simp] theorem turnO_brk (dead : List Nat) (e : Env) : turnO dead (.brk e) = .brk (clr dead e) := Eq.trans rfl rfl
@[simp] theorem turnO_ret (dead : List Nat) (r : RV) : turnO dead (.ret r) = .ret r := Eq.trans rfl rfl
@[simp] theorem turnO_exc (dead : List Nat) (c : Str) : turnO dead (.exc c) = .exc c := Eq.trans rfl rfl
@[simp] theorem turnO_bad (dead : List Nat) : turnO dead .bad = .bad := Eq.trans rfl rfl
@[simp] theorem turnO_ite (dead : List Nat) (c : Prop) [Decidable c] (a b : Out) : turnO dead (if c then a else b) = if c then turnO dead a else turnO dead b := by split <;> rfl
@[simp] theorem turn_ev (g : Tg) (dead : List Nat) (body : Env → Out) (d : D) (env : Env) : turn g dead body d env = (g.f d env).out fun e1 => turnO dead (body e1) := by
  unfold turn
  cases g.f d env with
  | ok e => cases h : body e <;> simp [h]
  | exc c => rfl
  | bad => rfl
theorem forL_nil (g : Tg) (dead : List Nat) (body : Env → Out) (env : Env) : forL g dead body [] env = .next env := rfl
theorem forL_cons (g : Tg) (dead : List Nat) (body : Env → Out) (d : D) (ds : List D) (env : Env) : forL g dead body (d :: ds) env = match turn g dead body d env with
  | .next e => forL g dead body ds e
  | .brk e => .next e
  | o => o := by
  show (g.f d env).out _ = _
  unfold turn
  cases hg : g.f d env with
  | ok e1 =>
    simp only [Res.out_ok]
    cases body e1 <;> rfl
  | exc c => rfl
  | bad => rfl
/-- a loop that folds: a state st s, a step -/
theorem forL_fold {S : Type} {g : Tg} {dead : List Nat} {body : Env → Out} (enc : α → D) (st : S → Env) (step : S → α → S) (P : S → Prop) : ∀ (xs : List α) (s : S), P s →
    (∀ s x, x ∈ xs → P s → turn g dead body (enc x) (st s) = .next (st (step s x)) ∧ P (step s x)) → forL g dead body (xs.map enc) (st s) = .next (st (xs.foldl step s)) ∧ P (xs.foldl step s)
  | [], s, h, _ => ⟨rfl, h⟩
  | x :: r, s, h, hs => by
    obtain ⟨h1, h2⟩ := hs s x List.mem_cons_self h
    rw [List.map_cons, forL_cons, h1]
    exact forL_fold enc st step P r (step s x) h2 fun s y hy => hs s y (List.mem_cons_of_mem _ hy)
/-- a loop by an invariant over the items gone through -/
theorem forL_inv {g : Tg} {dead : List Nat} {body : Env → Out} {ds : List D} (P : Nat → Env → Prop) : ∀ (env : Env), P 0 env →
    (∀ (i : Nat) d env, ds[i]? = some d → P i env → ∃ e, turn g dead body d env = .next e ∧ P (i + 1) e) → ∃ e, forL g dead body ds env = .next e ∧ P ds.length e := by
  induction ds generalizing P with
  | nil => exact fun env h _ => ⟨env, rfl, h⟩
  | cons d r ih =>
    intro env h hs
    obtain ⟨e, h1, h2⟩ := hs 0 d env rfl h
    obtain ⟨e', h3, h4⟩ := ih (fun i => P (i + 1)) e h2 fun i d' env' hd hp => hs (i + 1) d' env' hd hp
    exact ⟨e', by rw [forL_cons, h1]; exact h3, h4⟩
/-- a loop whose turns change nothing -/
theorem forL_same {g : Tg} {dead : List Nat} {body : Env → Out} {env : Env} : ∀ {ds : List D}, (∀ d ∈ ds, turn g dead body d env = .next env) → forL g dead body ds env = .next env
  | [], _ => rfl
  | d :: r, h => by
    rw [forL_cons, h d List.mem_cons_self]
    exact forL_same fun d' hd => h d' (List.mem_cons_of_mem _ hd)
/-- a loop that looks for the first item that makes it return -/
theorem forL_find {g : Tg} {dead : List Nat} {body : Env → Out} {env : Env} (enc : α → D) (p : α → Option RV) : ∀ (xs : List α), (∀ x ∈ xs, turn g dead body (enc x) env = match p x with | some r => .ret r | none => .next env) →
    forL g dead body (xs.map enc) env = match xs.findSome? p with | some r => .ret r | none => .next env
  | [], _ => rfl
  | x :: r, h => by
    rw [List.map_cons, forL_cons, h x List.mem_cons_self, List.findSome?_cons]
    cases hp : p x with
    | some v => rfl
    | none => exact forL_find enc p r fun y hy => h y (List.mem_cons_of_mem _ hy)
/-- one item of a comprehension -/
def cturn (g : Tg) (c : Env → Res Bool) (fe : Env → Res D) (env : Env) (d : D) : Res (Option D) := (g.f d env).bind fun e1 => (c e1).bind fun b => if b = true then (fe e1).bind fun y => .ok (some y) else .ok none
theorem compL_cons (g : Tg) (c : Env → Res Bool) (fe : Env → Res D) (env : Env) (d : D) (ds : List D) : compL g c fe env (d :: ds) = (cturn g c fe env d).bind fun o => (compL g c fe env ds).bind fun ys => .ok (match o with | some y => y :: ys | none => ys) := by
  show (g.f d env).bind _ = _
  unfold cturn
  cases g.f d env with
  | ok e1 =>
    simp only [Res.bind_ok]
    cases c e1 with
    | ok b =>
      simp only [Res.bind_ok]
      cases b with
      | true =>
        simp only [if_true]
        cases fe e1 <;> rfl
      | false =>
        simp only [Bool.false_eq_true, if_false, Res.bind_ok]
        cases compL g c fe env ds <;> rfl
    | exc c => rfl
    | bad => rfl
  | exc c => rfl
  | bad => rfl
theorem compL_map {g : Tg} {c : Env → Res Bool} {fe : Env → Res D} {env : Env} (enc : α → D) (f : α → D) : ∀ (xs : List α), (∀ x ∈ xs, cturn g c fe env (enc x) = .ok (some (f x))) → compL g c fe env (xs.map enc) = .ok (xs.map f)
  | [], _ => rfl
  | x :: r, h => by
    rw [List.map_cons, compL_cons, h x List.mem_cons_self, compL_map enc f r fun y hy => h y (List.mem_cons_of_mem _ hy)]
    rfl
theorem compL_filter {g : Tg} {c : Env → Res Bool} {fe : Env → Res D} {env : Env} (enc : α → D) (p : α → Bool) (f : α → D) : ∀ (xs : List α), (∀ x ∈ xs, cturn g c fe env (enc x) = .ok (if p x = true then some (f x) else none)) → compL g c fe env (xs.map enc) = .ok ((xs.filter p).map f)
  | [], _ => rfl
  | x :: r, h => by
    rw [List.map_cons, compL_cons, h x List.mem_cons_self, compL_filter enc p f r fun y hy => h y (List.mem_cons_of_mem _ hy)]
    cases hp : p x with
    | true => simp [hp]
    | false => simp [hp]
@[simp] theorem eComp_ev (fi : Env → Res (List D)) (own : List Nat) (g : Tg) (c : Env → Res Bool) (fe : Env → Res D) (env : Env) : eComp fi own g c fe env = (fi env).bind fun ds => (compL g c fe (clr own env) ds).bind fun ys => if ys.length < 1000000 then .ok ⟨.list ys, true⟩ else .bad := Eq.trans rfl rfl
@[simp] theorem sFor_ev (fi : Env → Res (List D)) (g : Tg) (dead : List Nat) (body : Env → Out) (env : Env) : sFor fi g dead body env = (fi env).out fun ds => forL g dead body ds (clr dead env) := Eq.trans rfl rfl
end
end PV

set_option Elab.async false
set_option linter.all false
set_option maxRecDepth 100000
namespace PV
open PySem PySem.Spec L2
set_option autoImplicit false
@[simp] theorem isa_list_none : gIsa "list" .none = .ok (.bool false) := by
  have h : kitB "NoneType" "list" = some false := by decide +kernel
  simp only [gIsa, tyD, h]
@[simp] theorem isa_list_bool (x : Bool) : gIsa "list" (.bool x) = .ok (.bool false) := by
  have h : kitB "bool" "list" = some false := by decide +kernel
  simp only [gIsa, tyD, h]
@[simp] theorem isa_list_int (x : Int) : gIsa "list" (.int x) = .ok (.bool false) := by
  have h : kitB "int" "list" = some false := by decide +kernel
  simp only [gIsa, tyD, h]
@[simp] theorem isa_list_str (x : Str) : gIsa "list" (.str x) = .ok (.bool false) := by
  have h : kitB "str" "list" = some false := by decide +kernel
  simp only [gIsa, tyD, h]
@[simp] theorem isa_list_list (x : List D) : gIsa "list" (.list x) = .ok (.bool true) := by
  have h : kitB "list" "list" = some true := by decide +kernel
  simp only [gIsa, tyD, h]
@[simp] theorem isa_list_tuple (x : List D) : gIsa "list" (.tuple x) = .ok (.bool false) := by
  have h : kitB "tuple" "list" = some false := by decide +kernel
  simp only [gIsa, tyD, h]
@[simp] theorem isa_tuple_none : gIsa "tuple" .none = .ok (.bool false) := by
  have h : kitB "NoneType" "tuple" = some false := by decide +kernel
  simp only [gIsa, tyD, h]
@[simp] theorem isa_tuple_bool (x : Bool) : gIsa "tuple" (.bool x) = .ok (.bool false) := by
  have h : kitB "bool" "tuple" = some false := by decide +kernel
  simp only [gIsa, tyD, h]
@[simp] theorem isa_tuple_int (x : Int) : gIsa "tuple" (.int x) = .ok (.bool false) := by
  have h : kitB "int" "tuple" = some false := by decide +kernel
  simp only [gIsa, tyD, h]
@[simp] theorem isa_tuple_str (x : Str) : gIsa "tuple" (.str x) = .ok (.bool false) := by
  have h : kitB "str" "tuple" = some false := by decide +kernel
  simp only [gIsa, tyD, h]
@[simp] theorem isa_tuple_list (x : List D) : gIsa "tuple" (.list x) = .ok (.bool false) := by
  have h : kitB "list" "tuple" = some false := by decide +kernel
  simp only [gIsa, tyD, h]
@[simp] theorem isa_tuple_tuple (x : List D) : gIsa "tuple" (.tuple x) = .ok (.bool true) := by
  have h : kitB "tuple" "tuple" = some true := by decide +kernel
  simp only [gIsa, tyD, h]
@[simp] theorem isa_bool_none : gIsa "bool" .none = .ok (.bool false) := by
  have h : kitB "NoneType" "bool" = some false := by decide +kernel
  simp only [gIsa, tyD, h]
@[simp] theorem isa_bool_bool (x : Bool) : gIsa "bool" (.bool x) = .ok (.bool true) := by
  have h : kitB "bool" "bool" = some true := by decide +kernel
  simp only [gIsa, tyD, h]
@[simp] theorem isa_bool_int (x : Int) : gIsa "bool" (.int x) = .ok (.bool false) := by
  have h : kitB "int" "bool" = some false := by decide +kernel
  simp only [gIsa, tyD, h]
@[simp] theorem isa_bool_str (x : Str) : gIsa "bool" (.str x) = .ok (.bool false) := by
  have h : kitB "str" "bool" = some false := by decide +kernel
  simp only [gIsa, tyD, h]
@[simp] theorem isa_bool_list (x : List D) : gIsa "bool" (.list x) = .ok (.bool false) := by
  have h : kitB "list" "bool" = some false := by decide +kernel
  simp only [gIsa, tyD, h]
@[simp] theorem isa_bool_tuple (x : List D) : gIsa "bool" (.tuple x) = .ok (.bool false) := by
  have h : kitB "tuple" "bool" = some false := by decide +kernel
  simp only [gIsa, tyD, h]
@[simp] theorem isa_int_none : gIsa "int" .none = .ok (.bool false) := by
  have h : kitB "NoneType" "int" = some false := by decide +kernel
  simp only [gIsa, tyD, h]
@[simp] theorem isa_int_bool (x : Bool) : gIsa "int" (.bool x) = .ok (.bool true) := by
  have h : kitB "bool" "int" = some true := by decide +kernel
  simp only [gIsa, tyD, h]
@[simp] theorem isa_int_int (x : Int) : gIsa "int" (.int x) = .ok (.bool true) := by
  have h : kitB "int" "int" = some true := by decide +kernel
  simp only [gIsa, tyD, h]
@[simp] theorem isa_int_str (x : Str) : gIsa "int" (.str x) = .ok (.bool false) := by
  have h : kitB "str" "int" = some false := by decide +kernel
  simp only [gIsa, tyD, h]
@[simp] theorem isa_int_list (x : List D) : gIsa "int" (.list x) = .ok (.bool false) := by
  have h : kitB "list" "int" = some false := by decide +kernel
  simp only [gIsa, tyD, h]
@[simp] theorem isa_int_tuple (x : List D) : gIsa "int" (.tuple x) = .ok (.bool false) := by
  have h : kitB "tuple" "int" = some false := by decide +kernel
  simp only [gIsa, tyD, h]
@[simp] theorem isa_str_none : gIsa "str" .none = .ok (.bool false) := by
  have h : kitB "NoneType" "str" = some false := by decide +kernel
  simp only [gIsa, tyD, h]
@[simp] theorem isa_str_bool (x : Bool) : gIsa "str" (.bool x) = .ok (.bool false) := by
  have h : kitB "bool" "str" = some false := by decide +kernel
  simp only [gIsa, tyD, h]
@[simp] theorem isa_str_int (x : Int) : gIsa "str" (.int x) = .ok (.bool false) := by
  have h : kitB "int" "str" = some false := by decide +kernel
  simp only [gIsa, tyD, h]
@[simp] theorem isa_str_str (x : Str) : gIsa "str" (.str x) = .ok (.bool true) := by
  have h : kitB "str" "str" = some true := by decide +kernel
  simp only [gIsa, tyD, h]
@[simp] theorem isa_str_list (x : List D) : gIsa "str" (.list x) = .ok (.bool false) := by
  have h : kitB "list" "str" = some false := by decide +kernel
  simp only [gIsa, tyD, h]
@[simp] theorem isa_str_tuple (x : List D) : gIsa "str" (.tuple x) = .ok (.bool false) := by
  have h : kitB "tuple" "str" = some false := by decide +kernel
  simp only [gIsa, tyD, h]
@[simp] theorem plainD_b (b : Bool) : plainD (.bool b) = true := Eq.trans rfl rfl
@[simp] theorem plainD_i (b : Int) : plainD (.int b) = true := Eq.trans rfl rfl
@[simp] theorem plainD_n : plainD .none = true := Eq.trans rfl rfl
@[simp] theorem plainD_s (b : Str) : plainD (.str b) = true := Eq.trans rfl rfl
/-- plain data: depth below n, lists not too long, texts that can be told -/
def Nice : Nat → D → Prop
  | 0, _ => False
  | _ + 1, .none => True
  | _ + 1, .bool _ => True
  | _ + 1, .int _ => True
  | _ + 1, .str s => PyData.strOk s = true
  | n + 1, .list xs => xs.length < 1000000 ∧ ∀ x ∈ xs, Nice n x
  | n + 1, .tuple xs => xs.length < 1000000 ∧ ∀ x ∈ xs, Nice n x
  | _ + 1, .dict _ => False
theorem Nice.mono : ∀ {n m : Nat} {d : D}, Nice n d → n ≤ m → Nice m d
  | 0, _, _, h, _ => h.elim
  | n + 1, 0, _, _, h => absurd h (by omega)
  | n + 1, m + 1, .none, _, _ => True.intro
  | n + 1, m + 1, .bool _, _, _ => True.intro
  | n + 1, m + 1, .int _, _, _ => True.intro
  | n + 1, m + 1, .str _, h, _ => h
  | n + 1, m + 1, .list xs, h, hl => ⟨h.1, fun x hx => Nice.mono (h.2 x hx) (by omega)⟩
  | n + 1, m + 1, .tuple xs, h, hl => ⟨h.1, fun x hx => Nice.mono (h.2 x hx) (by omega)⟩
  | n + 1, m + 1, .dict _, h, _ => h.elim
theorem depthAll_le : ∀ {ds : List D} {n : Nat}, (∀ d ∈ ds, d.depth ≤ n) → PyData.depthAll ds ≤ n
  | [], _, _ => by simp [PyData.depthAll]
  | d :: r, n, h => by
    have h1 := h d List.mem_cons_self
    have h2 := depthAll_le fun x hx => h x (List.mem_cons_of_mem _ hx)
    simp only [PyData.depthAll]
    omega
theorem canLayAll_of : ∀ {ds : List D}, (∀ d ∈ ds, d.canLay0 = true) → PyData.canLayAll0 ds = true
  | [], _ => by simp [PyData.canLayAll0]
  | d :: r, h => by
    have h1 := h d List.mem_cons_self
    have h2 := canLayAll_of fun x hx => h x (List.mem_cons_of_mem _ hx)
    simp only [PyData.canLayAll0, h1, h2, Bool.and_self]
theorem Nice.lay : ∀ {n : Nat} {d : D}, Nice n d → d.canLay0 = true ∧ d.depth ≤ n
  | 0, _, h => h.elim
  | n + 1, .none, _ => ⟨by simp [PyData.canLay0], by simp only [PyData.depth]; omega⟩
  | n + 1, .bool _, _ => ⟨by simp [PyData.canLay0], by simp only [PyData.depth]; omega⟩
  | n + 1, .int _, _ => ⟨by simp [PyData.canLay0], by simp only [PyData.depth]; omega⟩
  | n + 1, .str s, h => ⟨by simp only [PyData.canLay0]; exact h, by simp only [PyData.depth]; omega⟩
  | n + 1, .list xs, h => by
    refine ⟨by simp only [PyData.canLay0]; exact canLayAll_of fun d hd => (Nice.lay (h.2 d hd)).1, ?_⟩
    simp only [PyData.depth]
    exact Nat.succ_le_succ (depthAll_le fun d hd => (Nice.lay (h.2 d hd)).2)
  | n + 1, .tuple xs, h => by
    refine ⟨by simp only [PyData.canLay0]; exact canLayAll_of fun d hd => (Nice.lay (h.2 d hd)).1, ?_⟩
    simp only [PyData.depth]
    exact Nat.succ_le_succ (depthAll_le fun d hd => (Nice.lay (h.2 d hd)).2)
  | n + 1, .dict _, h => h.elim
theorem Nice.shaped {n : Nat} {d : D} (h : Nice n d) (hn : n ≤ 64 := by decide) : SeqAt.shaped d = true := by
  obtain ⟨h1, h2⟩ := h.lay
  unfold SeqAt.shaped
  simp only [Bool.and_eq_true, decide_eq_true_eq]
  exact ⟨h1, by omega⟩
theorem Nice.int {n : Nat} {i : Int} : Nice (n + 1) (.int i) := True.intro
theorem Nice.bool {n : Nat} {i : Bool} : Nice (n + 1) (.bool i) := True.intro
theorem Nice.none {n : Nat} : Nice (n + 1) .none := True.intro
theorem Nice.str {n : Nat} {s : Str} (h : PyData.strOk s = true) : Nice (n + 1) (.str s) := h
theorem Nice.list {n : Nat} {xs : List D} (hl : xs.length < 1000000) (h : ∀ x ∈ xs, Nice n x) : Nice (n + 1) (.list xs) := ⟨hl, h⟩
theorem Nice.tuple {n : Nat} {xs : List D} (hl : xs.length < 1000000) (h : ∀ x ∈ xs, Nice n x) : Nice (n + 1) (.tuple xs) := ⟨hl, h⟩
theorem Nice.map {α : Type} {n : Nat} {xs : List α} {f : α → D} (hl : xs.length < 1000000) (h : ∀ x ∈ xs, Nice n (f x)) : Nice (n + 1) (.list (xs.map f)) := ⟨by rw [List.length_map]; exact hl, fun d hd => by
  obtain ⟨x, hx, rfl⟩ := List.mem_map.mp hd
  exact h x hx⟩
theorem Nice.ints {n : Nat} {xs : List Int} (hl : xs.length < 1000000) : Nice (n + 2) (.list (xs.map PyData.int)) := Nice.map hl fun _ _ => Nice.int
theorem Nice.eq {n m : Nat} {d e : D} (h : Nice n d) (h' : Nice m e) (hn : n ≤ 64 := by decide) (hm : m ≤ 64 := by decide) : gEq d e = .ok (.bool (PyData.eqv d e)) := gEq_ev d e (h.shaped hn) (h'.shaped hm)
theorem Nice.ne {n m : Nat} {d e : D} (h : Nice n d) (h' : Nice m e) (hn : n ≤ 64 := by decide) (hm : m ≤ 64 := by decide) : gNe d e = .ok (.bool (!PyData.eqv d e)) := gNe_ev d e (h.shaped hn) (h'.shaped hm)
theorem eqvAll_self {n : Nat} : ∀ {ds : List D}, (∀ d ∈ ds, PyData.eqv d d = true) → PyData.eqvAll ds ds = true
  | [], _ => by simp [PyData.eqvAll]
  | d :: r, h => by
    simp only [PyData.eqvAll, h d List.mem_cons_self, eqvAll_self (n := n) fun x hx => h x (List.mem_cons_of_mem _ hx), Bool.and_self]
theorem Nice.self : ∀ {n : Nat} {d : D}, Nice n d → PyData.eqv d d = true
  | 0, _, h => h.elim
  | n + 1, .none, _ => by simp [PyData.eqv]
  | n + 1, .bool _, _ => by simp [PyData.eqv]
  | n + 1, .int _, _ => by simp [PyData.eqv]
  | n + 1, .str s, h => by simp [PyData.eqv]
  | n + 1, .list xs, h => by simp only [PyData.eqv]; exact eqvAll_self (n := n) fun d hd => Nice.self (h.2 d hd)
  | n + 1, .tuple xs, h => by simp only [PyData.eqv]; exact eqvAll_self (n := n) fun d hd => Nice.self (h.2 d hd)
  | n + 1, .dict _, h => h.elim
@[simp] theorem eqv_i (i j : Int) : PyData.eqv (.int i) (.int j) = decide (i = j) := by simp only [PyData.eqv]; exact Bool.beq_eq_decide_eq i j
@[simp] theorem eqv_t (xs ys : List D) : PyData.eqv (.tuple xs) (.tuple ys) = PyData.eqvAll xs ys := by simp only [PyData.eqv]
@[simp] theorem eqv_l (xs ys : List D) : PyData.eqv (.list xs) (.list ys) = PyData.eqvAll xs ys := by simp only [PyData.eqv]
@[simp] theorem eqvAll_c (x y : D) (xs ys : List D) : PyData.eqvAll (x :: xs) (y :: ys) = (PyData.eqv x y && PyData.eqvAll xs ys) := by simp only [PyData.eqvAll]
@[simp] theorem eqvAll_n : PyData.eqvAll [] [] = true := by simp only [PyData.eqvAll]
@[simp] theorem eqvAll_cn (x : D) (xs : List D) : PyData.eqvAll (x :: xs) [] = false := by simp only [PyData.eqvAll]
@[simp] theorem eqvAll_nc (x : D) (xs : List D) : PyData.eqvAll [] (x :: xs) = false := by simp only [PyData.eqvAll]
/-- equality of lists whose items are told by an encoding -/
theorem eqvAll_maps {α : Type} [DecidableEq α] {f : α → D} (hf : ∀ x y, PyData.eqv (f x) (f y) = decide (x = y)) : ∀ xs ys : List α, PyData.eqvAll (xs.map f) (ys.map f) = decide (xs = ys)
  | [], [] => by simp
  | [], y :: ys => by simp
  | x :: xs, [] => by simp
  | x :: xs, y :: ys => by
    rw [List.map_cons, List.map_cons, eqvAll_c, hf, eqvAll_maps hf xs ys, ← Bool.decide_and]
    exact decide_eq_decide.mpr (by rw [List.cons.injEq])
/-- in a list whose items are told by an encoding -/
theorem any_maps {α : Type} [DecidableEq α] {f : α → D} (hf : ∀ x y, PyData.eqv (f x) (f y) = decide (x = y)) (xs : List α) (x : α) : ((xs.map f).any fun z => PyData.eqv z (f x)) = decide (x ∈ xs) := by
  rw [Bool.eq_iff_iff, List.any_eq_true, decide_eq_true_eq]
  constructor
  · rintro ⟨d, hd, h⟩
    obtain ⟨y, hy, rfl⟩ := List.mem_map.mp hd
    rw [hf, decide_eq_true_eq] at h
    rw [← h]; exact hy
  · intro h
    exact ⟨f x, List.mem_map_of_mem h, by rw [hf]; simp⟩
theorem gIn_maps {α : Type} [DecidableEq α] {f : α → D} {n : Nat} (hf : ∀ x y, PyData.eqv (f x) (f y) = decide (x = y)) (hn : ∀ x, Nice n (f x)) (h64 : n < 64) {xs : List α} (hl : xs.length < 1000000) (x : α) : gIn (f x) (.list (xs.map f)) = .ok (.bool (decide (x ∈ xs))) := by
  unfold gIn
  simp only
  rw [if_pos ⟨(hn x).shaped (by omega), (Nice.map hl fun y _ => hn y).shaped (by omega)⟩, any_maps hf]
theorem gNotIn_maps {α : Type} [DecidableEq α] {f : α → D} {n : Nat} (hf : ∀ x y, PyData.eqv (f x) (f y) = decide (x = y)) (hn : ∀ x, Nice n (f x)) (h64 : n < 64) {xs : List α} (hl : xs.length < 1000000) (x : α) : gNotIn (f x) (.list (xs.map f)) = .ok (.bool (!decide (x ∈ xs))) := by
  unfold gNotIn
  simp only
  rw [if_pos ⟨(hn x).shaped (by omega), (Nice.map hl fun y _ => hn y).shaped (by omega)⟩, any_maps hf]
/-! ### order, sorting, the least -/
open PySem.W in
theorem alikeL_maps {α : Type} {f : α → D} (h : ∀ x y, alike (f x) (f y) = true) (xs : List α) : alikeL (xs.map f) = true := by
  unfold alikeL
  simp only [List.all_map, List.all_eq_true, Function.comp]
  exact fun x _ y _ => h x y
theorem noNone_maps {α : Type} {f : α → D} (h : ∀ x, f x ≠ .none) (xs : List α) : noNone (xs.map f) = true := by
  unfold noNone
  simp only [List.all_map, List.all_eq_true, Function.comp]
  intro x _
  have := h x
  split
  · rename_i e; exact absurd e this
  · rfl
/-- a linear order by a Bool relation -/
structure LinB {α : Type} (le : α → α → Bool) : Prop where
  total : ∀ a b, (le a b || le b a) = true
  trans : ∀ a b c, le a b = true → le b c = true → le a c = true
  anti : ∀ a b, le a b = true → le b a = true → a = b
theorem sort_perm_eq {α : Type} {le : α → α → Bool} (h : LinB le) {xs ys : List α} (hp : xs.Perm ys) : xs.mergeSort le = ys.mergeSort le :=
  ((List.mergeSort_perm xs le).trans (hp.trans (List.mergeSort_perm ys le).symm)).eq_of_pairwise (le := fun a b => le a b = true)
    (fun a b _ _ h1 h2 => h.anti a b h1 h2) (List.pairwise_mergeSort (fun a b c h1 h2 => h.trans a b c h1 h2) (fun a b => h.total a b) xs) (List.pairwise_mergeSort (fun a b c h1 h2 => h.trans a b c h1 h2) (fun a b => h.total a b) ys)
theorem sort_eq_perm {α : Type} {le : α → α → Bool} {xs ys : List α} (h : xs.mergeSort le = ys.mergeSort le) : xs.Perm ys :=
  (List.mergeSort_perm xs le).symm.trans (by rw [h]; exact List.mergeSort_perm ys le)

/-- a loop that folds, told by the number of the turn -/
theorem forL_foldI {α S : Type} {g : Tg} {dead : List Nat} {body : Env → Out} (enc : α → D) (st : S → Env) (step : S → α → S) : ∀ (xs : List α) (P : Nat → S → Prop) (s : S), P 0 s →
    (∀ (i : Nat) s x, xs[i]? = some x → P i s → turn g dead body (enc x) (st s) = .next (st (step s x)) ∧ P (i + 1) (step s x)) → forL g dead body (xs.map enc) (st s) = .next (st (xs.foldl step s)) ∧ P xs.length (xs.foldl step s)
  | [], P, s, h, _ => ⟨rfl, h⟩
  | x :: r, P, s, h, hs => by
    obtain ⟨h1, h2⟩ := hs 0 s x rfl h
    rw [List.map_cons, forL_cons, h1]
    exact forL_foldI enc st step r (fun i => P (i + 1)) (step s x) h2 fun i s y hy => hs (i + 1) s y hy
theorem foldl_filter {α β : Type} (p : α → Bool) (f : α → β) : ∀ (xs : List α) (s : List β), xs.foldl (fun s x => if p x = true then s ++ [f x] else s) s = s ++ (xs.filter p).map f
  | [], s => by simp
  | x :: r, s => by
    rw [List.foldl_cons, foldl_filter p f r]
    cases h : p x with
    | true => simp [h]
    | false => simp [h]
theorem foldl_snoc {α β : Type} (f : α → β) : ∀ (xs : List α) (s : List β), xs.foldl (fun s x => s ++ [f x]) s = s ++ xs.map f
  | [], s => by simp
  | x :: r, s => by rw [List.foldl_cons, foldl_snoc f r]; simp
end PV

set_option Elab.async false
set_option linter.all false
set_option maxRecDepth 100000
namespace PV
open PySem PySem.Spec L2 PyProof.Rows
set_option autoImplicit false
/-! a < b < c < d -/
def tChain3 (r r' r'' : R2) (ta tb tc td : TE) : TE := fun σ H Q => ta σ H fun x H1 => tb σ H1 fun y H2 => r x y H2 fun z H3 => ∃ k, z = .bl k ∧
  (if k = true then tc σ H3 fun w' H4 => r' y w' H4 fun z2 H5 => ∃ k2, z2 = .bl k2 ∧ (if k2 = true then td σ H5 fun u' H6 => r'' w' u' H6 Q else Q (.bl false) H5) else Q (.bl false) H3)
section
variable {X : Cx} {a b c d : Expr} {pos : Pos} {op op' op'' : CmpOp} {r r' r'' : R2} {ta tb tc td : TE}
theorem pe_chain3 (ho : OpR X (compareOp op) r) (ho' : OpR X (compareOp op') r') (ho'' : OpR X (compareOp op'') r'') (ha : PE X a ta) (hb : PE X b tb) (hc : PE X c tc) (hd : PE X d td)
    (hm : lastMarks [op, op', op''] [b, c, d] = false := by with_unfolding_all rfl) : PE X (.Compare a [op, op', op''] [b, c, d] pos) (tChain3 r r' r'' ta tb tc td) := by
  refine ⟨fun pins s σ H Q I h => ?_⟩
  refine Compare_chain (thn (ha.run pins s σ H _ I h) fun v s1 ⟨x, H1, I1, r1, q1⟩ => chain_link (thn (hb.run pins s1 σ H1 _ I1 q1) fun u s2 ⟨y, H2, I2, r2, q2⟩ =>
    thn (ho pins s2 σ H2 x y v u _ I2 r1 r2 q2) fun d s3 ⟨z, H3, I3, r3, k, e, q3⟩ => ?_)) hm
  subst e
  cases r3
  refine wpAny_truthy_bool ?_
  cases k with
  | false => exact ite_ff ⟨.bl false, H3, I3, rfl, q3⟩
  | true =>
    refine ite_tt (chain_link (thn (hc.run pins s3 σ H3 _ I3 q3) fun w' s4 ⟨z', H4, I4, r4, q4⟩ => thn (ho' pins s4 σ H4 y z' u w' _ I4 r2 r4 q4) fun d' s5 ⟨z2, H5, I5, r5, k2, e2, q5⟩ => ?_))
    subst e2
    cases r5
    refine wpAny_truthy_bool ?_
    cases k2 with
    | false => exact ite_ff ⟨.bl false, H5, I5, rfl, q5⟩
    | true => exact ite_tt (chain_last (thn (hd.run pins s5 σ H5 _ I5 q5) fun u' s6 ⟨z3, H6, I6, r6, q6⟩ => ho'' pins s6 σ H6 z' z3 w' u' Q I6 r4 r6 q6))
theorem pt_chain3 (ho : OpR X (compareOp op) r) (ho' : OpR X (compareOp op') r') (ho'' : OpR X (compareOp op'') r'') (ha : PE X a ta) (hb : PE X b tb) (hc : PE X c tc) (hd : PE X d td)
    (hm : lastMarks [op, op', op''] [b, c, d] = false := by with_unfolding_all rfl) : PT X (.Compare a [op, op', op''] [b, c, d] pos) (tTest (tChain3 r r' r'' ta tb tc td)) := by
  refine ⟨fun pins s σ H Q I h => ?_⟩
  refine isTrue_chain (thn (ha.run pins s σ H _ I h) fun v s1 ⟨x, H1, I1, r1, q1⟩ => test_link (thn (hb.run pins s1 σ H1 _ I1 q1) fun u s2 ⟨y, H2, I2, r2, q2⟩ =>
    thn (ho pins s2 σ H2 x y v u _ I2 r1 r2 q2) fun d s3 ⟨z, H3, I3, r3, k, e, q3⟩ => ?_)) hm
  subst e
  cases r3
  refine wpAny_truthy_bool ?_
  cases k with
  | false =>
    obtain ⟨k', e', q'⟩ := q3
    cases e'
    exact ite_ff ⟨H3, I3, q'⟩
  | true =>
    refine ite_tt (test_link (thn (hc.run pins s3 σ H3 _ I3 q3) fun w' s4 ⟨z', H4, I4, r4, q4⟩ => thn (ho' pins s4 σ H4 y z' u w' _ I4 r2 r4 q4) fun d' s5 ⟨z2, H5, I5, r5, k2, e2, q5⟩ => ?_))
    subst e2
    cases r5
    refine wpAny_truthy_bool ?_
    cases k2 with
    | false =>
      obtain ⟨k', e', q'⟩ := q5
      cases e'
      exact ite_ff ⟨H5, I5, q'⟩
    | true =>
      refine ite_tt (test_last (thn (hd.run pins s5 σ H5 _ I5 q5) fun u' s6 ⟨z3, H6, I6, r6, q6⟩ => thn (ho'' pins s6 σ H6 z' z3 w' u' _ I6 r4 r6 q6) fun d' s7 ⟨z4, H7, I7, r7, k3, e3, q7⟩ => ?_))
      subst e3
      cases r7
      exact wpAny_truthy_bool ⟨H7, I7, q7⟩
end
def eChain3 (g g' g'' : D → D → Res D) (fa fb fc fd : Env → Res D) : Env → Res D := fun env => (fa env).bind fun x => (fb env).bind fun y => ((g x y).bind toB).bind fun k => if k = true then (fc env).bind fun z => ((g' y z).bind toB).bind fun k2 => if k2 = true then (fd env).bind fun u => g'' z u else .ok (.bool false) else .ok (.bool false)
@[simp] theorem eChain3_ev (g g' g'' : D → D → Res D) (fa fb fc fd : Env → Res D) (env : Env) : eChain3 g g' g'' fa fb fc fd env = (fa env).bind fun x => (fb env).bind fun y => ((g x y).bind toB).bind fun k => if k = true then (fc env).bind fun z => ((g' y z).bind toB).bind fun k2 => if k2 = true then (fd env).bind fun u => g'' z u else .ok (.bool false) else .ok (.bool false) := Eq.trans rfl rfl
section
variable {X : Cx} {a b c d : Expr} {pos : Pos} {op op' op'' : CmpOp} {r r' r'' : R2} {g g' g'' : D → D → Res D} {fa fb fc fd : Env → Res D}
theorem chain3_red (hg : OpD X.K r g) (hg' : OpD X.K r' g') (hg'' : OpD X.K r'' g'') : ∀ σ H Q, tE X.K (eChain3 g g' g'' fa fb fc fd) σ H Q → tChain3 r r' r'' (tP X.K fa) (tP X.K fb) (tP X.K fc) (tP X.K fd) σ H Q := fun σ H Q ⟨H0, Z0, Z, env, d, hE, hf, q⟩ => by
  obtain ⟨x, h1, hf⟩ := Res.bind_eq hf
  obtain ⟨y, h2, hf⟩ := Res.bind_eq hf
  obtain ⟨k, h3, hf⟩ := Res.bind_eq hf
  obtain ⟨kd, h4, h5⟩ := Res.bind_eq h3
  have := toB_eq h5
  subst this
  refine ⟨H0, Z0, Z, env, x, hE, h1, fun v H1 Z1 e1 d1 => ⟨H0, Z0, Z1, env, y, hE.ext e1, h2, fun w H2 Z2 e2 d2 => ?_⟩⟩
  refine hg Z2 H2 v w x y _ _ e2.zh (d1.ext e2) d2 h4 fun u H3 Z3 e3 hu => ?_
  cases hu
  refine ⟨k, rfl, ?_⟩
  have eA := (e1.trans e2).trans e3
  cases k with
  | true =>
    rw [if_pos rfl] at hf ⊢
    obtain ⟨z, h6, hf⟩ := Res.bind_eq hf
    obtain ⟨k2, h7, hf⟩ := Res.bind_eq hf
    obtain ⟨kd2, h8, h9⟩ := Res.bind_eq h7
    have := toB_eq h9
    subst this
    refine ⟨H0, Z0, Z3, env, z, hE.ext eA, h6, fun u H4 Z4 e4 d4 => ?_⟩
    refine hg' Z4 H4 w u y z _ _ e4.zh ((d2.ext e3).ext e4) d4 h8 fun s H5 Z5 e5 hs => ?_
    cases hs
    refine ⟨k2, rfl, ?_⟩
    have eB := (eA.trans e4).trans e5
    cases k2 with
    | true =>
      rw [if_pos rfl] at hf ⊢
      obtain ⟨z3, h10, h11⟩ := Res.bind_eq hf
      exact ⟨H0, Z0, Z5, env, z3, hE.ext eB, h10, fun u' H6 Z6 e6 d6 => hg'' Z6 H6 u u' z z3 d Q e6.zh ((d4.ext e5).ext e6) d6 h11 fun s H' Z' e7 hs => q s H' Z' ((eB.trans e6).trans e7) hs⟩
    | false =>
      rw [if_neg Bool.false_ne_true] at hf ⊢
      cases hf
      exact q _ H5 Z5 eB (.bl false)
  | false =>
    rw [if_neg Bool.false_ne_true] at hf ⊢
    cases hf
    exact q _ H3 Z3 eA (.bl false)
theorem E_chain3 (ho : OpR X (compareOp op) r) (hg : OpD X.K r g) (ho' : OpR X (compareOp op') r') (hg' : OpD X.K r' g') (ho'' : OpR X (compareOp op'') r'') (hg'' : OpD X.K r'' g'') (ha : PE X a (tP X.K fa)) (hb : PE X b (tP X.K fb)) (hc : PE X c (tP X.K fc)) (hd : PE X d (tP X.K fd))
    (hm : lastMarks [op, op', op''] [b, c, d] = false := by with_unfolding_all rfl) : PE X (.Compare a [op, op', op''] [b, c, d] pos) (tE X.K (eChain3 g g' g'' fa fb fc fd)) := pe_mono (pe_chain3 ho ho' ho'' ha hb hc hd hm) (chain3_red hg hg' hg'')
theorem T_chain3 (ho : OpR X (compareOp op) r) (hg : OpD X.K r g) (ho' : OpR X (compareOp op') r') (hg' : OpD X.K r' g') (ho'' : OpR X (compareOp op'') r'') (hg'' : OpD X.K r'' g'') (ha : PE X a (tP X.K fa)) (hb : PE X b (tP X.K fb)) (hc : PE X c (tP X.K fc)) (hd : PE X d (tP X.K fd))
    (hm : lastMarks [op, op', op''] [b, c, d] = false := by with_unfolding_all rfl) : PT X (.Compare a [op, op', op''] [b, c, d] pos) (tT X.K (eB (eChain3 g g' g'' fa fb fc fd))) := pt_mono (pt_chain3 ho ho' ho'' ha hb hc hd hm) fun σ H Q ⟨H0, Z0, Z, env, k, hE, hf, q⟩ => by
  obtain ⟨d, h1, h2⟩ := Res.bind_eq hf
  have := toB_eq h2
  subst this
  refine chain3_red hg hg' hg'' σ H _ ⟨H0, Z0, Z, env, _, hE, h1, fun v H' Z' e hd => ?_⟩
  cases hd
  exact ⟨k, rfl, q H' Z' e⟩
end
end PV

set_option Elab.async false
set_option linter.all false
set_option maxRecDepth 100000
namespace PV
open PySem PySem.Spec L2
set_option autoImplicit false
/-! constants of the module -/
def KItem (K : PySem.W.Frag) (u : Value) (d : D) : Prop := ∃ v, RelV v u ∧ ∀ H, Dp K H v d
def KItems (K : PySem.W.Frag) (us : List Value) (ds : List D) : Prop := ∃ vs, Vals vs us ∧ ∀ H, DpAll K H vs ds
def Kst (K : PySem.W.Frag) (mg : Str → Option Value) (x : Str) (d : D) : Prop := ∃ u, mg x = some u ∧ KItem K u d
section
variable {K : PySem.W.Frag} {mg : Str → Option Value} {x : Str}
theorem kst_mk {u : Value} {d : D} (e : mg x = some u) (h : KItem K u d) : Kst K mg x d := ⟨u, e, h⟩
theorem ki_int {i : Int} {t : Tok} : KItem K (.int i t) (.int i) := ⟨.int i, ⟨t, rfl⟩, fun _ => .int i⟩
theorem ki_str {i : Str} {t : Tok} : KItem K (.str i t) (.str i) := ⟨.str i, ⟨t, rfl⟩, fun _ => .str i⟩
theorem ki_bool {i : Bool} : KItem K (.bool i) (.bool i) := ⟨.bl i, rfl, fun _ => .bl i⟩
theorem ki_none : KItem K .none .none := ⟨.non, rfl, fun _ => .non⟩
theorem kis_nil : KItems K [] [] := ⟨[], .nil, fun _ => .nil⟩
theorem kis_cons {u : Value} {us : List Value} {d : D} {ds : List D} (h : KItem K u d) (t : KItems K us ds) : KItems K (u :: us) (d :: ds) := by
  obtain ⟨v, h1, h2⟩ := h
  obtain ⟨vs, h3, h4⟩ := t
  exact ⟨v :: vs, .cons h1 h3, fun H => .cons (h2 H) (h4 H)⟩
theorem ki_tup {a : Addr} {dc : Option Addr} {us : List Value} {n : Nat} {sl : Array (Option Value)} {ds : List D} (l : K.lookup a = some ⟨.type "tuple", dc, .seq ⟨us⟩ n, sl⟩) (h : KItems K us ds) (hs : Nat.ble us.length 10000 = true := by rfl) : KItem K (.ref a) (.tuple ds) := by
  obtain ⟨vs, h1, h2⟩ := h
  exact ⟨.ref a, rfl, fun H => .tup (.inr ⟨_, ⟨us⟩, n, l, rfl, rfl, Nat.le_trans (Nat.le_of_ble_eq_true hs) (by decide), h1⟩) (h2 H)⟩
theorem ki_lst {a : Addr} {us : List Value} {n : Nat} {sl : Array (Option Value)} {ds : List D} (l : K.lookup a = some ⟨.type "list", none, .seq ⟨us⟩ n, sl⟩) (h : KItems K us ds) (hs : Nat.ble us.length 10000 = true := by rfl) : KItem K (.ref a) (.list ds) := by
  obtain ⟨vs, h1, h2⟩ := h
  exact ⟨.ref a, rfl, fun H => .lst (.inr ⟨_, ⟨us⟩, n, l, rfl, rfl, rfl, Nat.le_trans (Nat.le_of_ble_eq_true hs) (by decide), h1⟩) (h2 H)⟩
end
theorem E_glob {X : Cx} {x : Str} {d : D} {pos : Pos} (h : Kst X.K X.mg x d) (hg : Gl X x := by rfl) (hdb : (x == ("__debug__" : Str)) = false := by decide) : PE X (.Name x pos) (tE X.K (eC d)) := by
  obtain ⟨u, h1, v, h2, h3⟩ := h
  exact E_c (pe_glob hg h1 h2 (hd := hdb)) h3
end PV

set_option Elab.async false
set_option linter.all false
set_option maxRecDepth 100000
namespace PV
open PySem PySem.Spec L2
set_option autoImplicit false
/-! xs.index(x) -/
def gIndex : D → D → Res D
  | .list ds, d => if SeqAt.shaped (.list ds) = true ∧ SeqAt.shaped d = true then (match ds.findIdx? fun z => PyData.eqv z d with
    | some j => .ok (.int (j : Int))
    | none => .bad) else .bad
  | _, _ => .bad
section
variable {X : Cx} {o e : Expr} {apos cpos : Pos} {fo fe : Env → Res D}
theorem index_red : ∀ σ H Q, tE X.K (eOp2 gIndex fo fe) σ H Q → tBM X.K "list" (rIndexD X.K) (tP X.K fo) (tCons (tP X.K fe) tNil) σ H Q := fun σ H Q ⟨H0, Z0, Z, env, r, hE, hf, q⟩ => by
  obtain ⟨x, h1, hfa⟩ := Res.bind_eq hf
  obtain ⟨y, h2, hfb⟩ := Res.bind_eq hfa
  clear hf hfa
  refine ⟨H0, Z0, Z, env, x, hE, h1, fun v H1 Z1 e1 d1 => ?_⟩
  unfold gIndex at hfb
  split at hfb
  · rename_i ds
    obtain ⟨⟨k1, k2⟩, hfc⟩ := ite_ok hfb
    clear hfb
    split at hfc
    · rename_i j hj
      cases hfc
      obtain ⟨p, vs, rfl, g1, g2⟩ := d1.list e1.zh
      refine ⟨.inl ⟨rfl, vs, g1⟩, ?_⟩
      refine ⟨H0, Z0, Z1, env, y, hE.ext e1, h2, fun w H2 Z2 e2 d2 => ?_⟩
      obtain ⟨hlt, hp, hno⟩ := List.findIdx?_eq_some_iff_getElem.mp hj
      refine ⟨p, w, y, ds, j, ds[j], rfl, rfl, (d1.ext e2).cur e2.zh, d2.cur e2.zh, k1, k2, List.getElem?_eq_getElem hlt, hp, fun m z' hm hz => ?_, q _ H2 Z2 (e1.trans e2) (.int _)⟩
      obtain ⟨hml, rfl⟩ := List.getElem?_eq_some_iff.mp hz
      have := hno m hm
      simpa using this
    · cases hfc
  · cases hfb
theorem E_index (hu : X.A.units + 65 < cLine) (ho : PE X o (tP X.K fo)) (he : PE X e (tP X.K fe)) (hbase : attributeBase o "index" X.env (eval o X.env) = eval o X.env := by rfl)
    (hfew : ((backTo cpos (starEach [e] X.env)).all (fun x => !x.1) && (backToKw cpos (keywordEach [] X.env)).all (fun x => x.1.isSome)
      && decide ([e].length + ([] : List Keyword).length + (if ([] : List Keyword).isEmpty then 0 else 1) < 30)) = true := by rfl)
    (hline : (apos.endLine == cpos.line) = true := by rfl) (hs : starEach [e] X.env = (false, eval e X.env) :: starEach [] X.env := by rfl) (hplain : (backTo cpos (starEach [] X.env)).any (·.1) = false := by rfl) :
    PE X (.Call (.Attribute o "index" apos) [e] [] cpos) (tE X.K (eOp2 gIndex fo fe)) :=
  pe_mono (pe_bm PySem.F.plainAttrs_list PySem.F.slot_list_index PySem.F.type_list_index (mt_indexD hu) ho (pa_cons he pa_nil hs) hbase hfew hline hs hplain) index_red
end
theorem gIndex_map {α : Type} [DecidableEq α] {f : α → D} {n : Nat} (hf : ∀ x y, PyData.eqv (f x) (f y) = decide (x = y)) (hn : ∀ x, Nice n (f x)) (h64 : n < 64) {xs : List α} (hl : xs.length < 1000000) {x : α} (hx : x ∈ xs) :
    ∃ j : Nat, ∃ h : j < xs.length, xs[j] = x ∧ gIndex (.list (xs.map f)) (f x) = .ok (.int (j : Int)) := by
  unfold gIndex
  simp only
  rw [if_pos ⟨(Nice.map hl fun y _ => hn y).shaped (by omega), (hn x).shaped (by omega)⟩]
  cases hj : (xs.map f).findIdx? fun z => PyData.eqv z (f x) with
  | none =>
    rw [List.findIdx?_eq_none_iff] at hj
    have := hj (f x) (List.mem_map_of_mem hx)
    rw [hf] at this
    simp at this
  | some j =>
    obtain ⟨hlt, hp, _⟩ := List.findIdx?_eq_some_iff_getElem.mp hj
    rw [List.length_map] at hlt
    rw [List.getElem_map, hf, decide_eq_true_eq] at hp
    exact ⟨j, hlt, hp, rfl⟩
@[simp] theorem gTp_fl (n : Nat) (gs : Tgs) (ds : List D) (env : Env) : (gTp n gs).f (.list ds) env = if ds.length = n then gs.f ds env else .bad := Eq.trans rfl rfl
@[simp] theorem eComp2_ev (fi : Env → Res (List D)) (own : List Nat) (g : Tg) (c : Env → Res Bool) (fi1 : Env → Res (List D)) (vs1 : List Nat) (g1 : Tg) (c1 : Env → Res Bool) (fe : Env → Res D) (env : Env) :
    eComp2 fi own g c fi1 vs1 g1 c1 fe env = (fi env).bind fun ds => (comp2L g c fi1 vs1 g1 c1 fe (clr own env) ds).bind fun ys => if ys.length < 1000000 then .ok ⟨.list ys, true⟩ else .bad := Eq.trans rfl rfl
theorem comp2L_map {α : Type} {g : Tg} {c : Env → Res Bool} {fi1 : Env → Res (List D)} {vs1 : List Nat} {g1 : Tg} {c1 : Env → Res Bool} {fe : Env → Res D} {env : Env} (enc : α → D) (out : α → List D) : ∀ xs : List α,
    (∀ x ∈ xs, ((g.f (enc x) env).bind fun e1 => (c e1).bind fun b => if b = true then (fi1 e1).bind fun ds1 => compL g1 c1 fe (clr vs1 e1) ds1 else .ok []) = .ok (out x)) → comp2L g c fi1 vs1 g1 c1 fe env (xs.map enc) = .ok (xs.flatMap out)
  | [], _ => rfl
  | x :: r, h => by
    have h1 := h x List.mem_cons_self
    have h2 := comp2L_map (env := env) enc out r fun y hy => h y (List.mem_cons_of_mem _ hy)
    rw [List.map_cons, List.flatMap_cons]
    unfold comp2L
    obtain ⟨e1, k1, h1⟩ := Res.bind_eq h1
    obtain ⟨b, k2, h1⟩ := Res.bind_eq h1
    rw [k1]
    show ((c e1).bind fun b => _) = _
    rw [k2]
    cases b with
    | true =>
      obtain ⟨ds1, k3, h1⟩ := Res.bind_eq h1
      show ((fi1 e1).bind fun ds1 => _) = _
      rw [k3]
      show ((compL g1 c1 fe (clr vs1 e1) ds1).bind fun xs => _) = _
      rw [h1]
      show ((comp2L g c fi1 vs1 g1 c1 fe env (r.map enc)).bind fun ys => _) = _
      rw [h2]
      rfl
    | false =>
      have : out x = [] := by
        have : Res.ok ([] : List D) = .ok (out x) := h1
        exact (Res.ok.inj this).symm
      rw [this]
      exact h2
end PV

set_option Elab.async false
set_option linter.all false
set_option maxRecDepth 100000
/-! ### comprehensions over typed lists: simp turns them into map and filter -/
namespace PV
open PySem PySem.Spec L2
set_option autoImplicit false
section
variable {α β γ : Type}
def mapR : (xs : List α) → ((x : α) → x ∈ xs → Res (Option β)) → Res (List β)
  | [], _ => .ok []
  | x :: r, f => (f x List.mem_cons_self).bind fun o => (mapR r fun y h => f y (List.mem_cons_of_mem _ h)).bind fun ys => .ok (match o with | some y => y :: ys | none => ys)
theorem mapR_eq {xs : List α} {f g : (x : α) → x ∈ xs → Res (Option β)} (h : ∀ x hx, f x hx = g x hx) : mapR xs f = mapR xs g := by
  have : f = g := by funext x hx; exact h x hx
  rw [this]
@[simp] theorem mapR_some (F : α → β) (xs : List α) : mapR xs (fun x _ => .ok (some (F x))) = .ok (xs.map F) := by
  induction xs with
  | nil => rfl
  | cons x r ih => unfold mapR; rw [ih]; rfl
@[simp] theorem mapR_if (p : α → Prop) [DecidablePred p] (F : α → β) (xs : List α) : mapR xs (fun x _ => if p x then .ok (some (F x)) else .ok none) = .ok ((xs.filter fun x => decide (p x)).map F) := by
  induction xs with
  | nil => rfl
  | cons x r ih =>
    unfold mapR
    rw [ih]
    by_cases h : p x
    · simp [h]
    · simp [h]
@[simp] theorem mapR_ifn (p : α → Prop) [DecidablePred p] (F : α → β) (xs : List α) : mapR xs (fun x _ => if p x then .ok none else .ok (some (F x))) = .ok ((xs.filter fun x => !decide (p x)).map F) := by
  induction xs with
  | nil => rfl
  | cons x r ih =>
    unfold mapR
    rw [ih]
    by_cases h : p x
    · simp [h]
    · simp [h]
@[simp] theorem cturn_ev (g : Tg) (c : Env → Res Bool) (fe : Env → Res D) (env : Env) (d : D) : cturn g c fe env d = (g.f d env).bind fun e1 => (c e1).bind fun b => if b = true then (fe e1).bind fun y => .ok (some y) else .ok none := Eq.trans rfl rfl
@[simp] theorem compL_nil (g : Tg) (c : Env → Res Bool) (fe : Env → Res D) (env : Env) : compL g c fe env [] = .ok [] := Eq.trans rfl rfl
@[simp] theorem compL_cons' (g : Tg) (c : Env → Res Bool) (fe : Env → Res D) (env : Env) (d : D) (ds : List D) : compL g c fe env (d :: ds) = (cturn g c fe env d).bind fun o => (compL g c fe env ds).bind fun ys => .ok (match o with | some y => y :: ys | none => ys) := compL_cons g c fe env d ds
@[simp] theorem compL_mapR (g : Tg) (c : Env → Res Bool) (fe : Env → Res D) (env : Env) (enc : α → D) (xs : List α) : compL g c fe env (xs.map enc) = mapR xs (fun x _ => cturn g c fe env (enc x)) := by
  induction xs with
  | nil => rfl
  | cons x r ih =>
    rw [List.map_cons, compL_cons, ih, mapR]
    congr 1
    funext o
    cases o <;> rfl
def mapN (n : Nat) (f : (k : Nat) → k < n → Res (Option β)) : Res (List β) := mapR (List.range n) fun k h => f k (List.mem_range.mp h)
@[simp] theorem mapN_some (F : Nat → β) (n : Nat) : mapN n (fun x _ => .ok (some (F x))) = .ok ((List.range n).map F) := mapR_some F _
@[simp] theorem mapN_if (p : Nat → Prop) [DecidablePred p] (F : Nat → β) (n : Nat) : mapN n (fun x _ => if p x then .ok (some (F x)) else .ok none) = .ok (((List.range n).filter fun x => decide (p x)).map F) := mapR_if p F _
@[simp] theorem mapN_ifn (p : Nat → Prop) [DecidablePred p] (F : Nat → β) (n : Nat) : mapN n (fun x _ => if p x then .ok none else .ok (some (F x))) = .ok (((List.range n).filter fun x => !decide (p x)).map F) := mapR_ifn p F _
@[simp] theorem compL_range (g : Tg) (c : Env → Res Bool) (fe : Env → Res D) (env : Env) (lo : Int) (n : Nat) : compL g c fe env (rangeD lo n) = mapN n (fun k _ => cturn g c fe env (.int (lo + (k : Int)))) := compL_mapR g c fe env (fun k : Nat => .int (lo + (k : Int))) (List.range n)
theorem zipD_map {f : α → D} {g : β → D} (xs : List α) (ys : List β) : zipD (xs.map f) (ys.map g) = (xs.zip ys).map fun p => .tuple [f p.1, g p.2] := by
  unfold zipD
  rw [List.zip_map, List.map_map]
  rfl
theorem enumD_map {f : α → D} (xs : List α) : enumD (xs.map f) = xs.zipIdx.map fun p => .tuple [.int (p.2 : Int), f p.1] := by
  unfold enumD
  rw [List.zipIdx_map, List.map_map]
  rfl
@[simp] theorem compL_zip (g : Tg) (c : Env → Res Bool) (fe : Env → Res D) (env : Env) (f : α → D) (h : β → D) (xs : List α) (ys : List β) : compL g c fe env (zipD (xs.map f) (ys.map h)) = mapR (xs.zip ys) (fun x _ => cturn g c fe env (.tuple [f x.1, h x.2])) := by rw [zipD_map, compL_mapR]
@[simp] theorem compL_enum (g : Tg) (c : Env → Res Bool) (fe : Env → Res D) (env : Env) (f : α → D) (xs : List α) : compL g c fe env (enumD (xs.map f)) = mapR xs.zipIdx (fun x _ => cturn g c fe env (.tuple [.int (x.2 : Int), f x.1])) := by rw [enumD_map, compL_mapR]
@[simp] theorem gAll_map (p : α → Bool) (xs : List α) : gAll [.list (xs.map fun x => .bool (p x))] = .ok (.bool (xs.all p)) := by
  have := gAll_b (xs.map p)
  rw [List.map_map, List.all_map] at this
  exact this
@[simp] theorem gAny_map (p : α → Bool) (xs : List α) : gAny [.list (xs.map fun x => .bool (p x))] = .ok (.bool (xs.any p)) := by
  have := gAny_b (xs.map p)
  rw [List.map_map, List.any_map] at this
  exact this
@[simp] theorem gSum_map (p : α → Int) (xs : List α) : gSum [.list (xs.map fun x => .int (p x))] = .ok (.int (xs.map p).sum) := by
  have := gSum_i (xs.map p)
  rw [List.map_map] at this
  exact this
theorem atI_nat {xs : List α} (k : Nat) : atI xs (k : Int) = xs[k]? := by
  by_cases h : k < xs.length
  · rw [atI_of (by omega) (by omega)]
    simp
  · have : atI xs (k : Int) = none := by
      cases e : atI xs (k : Int) with
      | none => rfl
      | some d =>
        unfold atI at e
        cases q : ixN xs.length (k : Int) with
        | none => rw [q] at e; cases e
        | some j =>
          rw [q] at e
          have e : xs[j]? = some d := e
          have := (List.getElem?_eq_some_iff.mp e).1
          unfold ixN at q
          split at q <;> first | (cases q; omega) | cases q | (split at q <;> first | (cases q; omega) | cases q)
    rw [this, List.getElem?_eq_none (by omega)]
@[simp] theorem res_andB (P : Prop) [Decidable P] (b : Bool) : (if P then (Res.ok b : Res Bool) else .ok false) = .ok (decide P && b) := by by_cases h : P <;> simp [h]
@[simp] theorem res_orB (P : Prop) [Decidable P] (b : Bool) : (if P then (Res.ok true : Res Bool) else .ok b) = .ok (decide P || b) := by by_cases h : P <;> simp [h]
@[simp] theorem res_and (P : Prop) [Decidable P] (b : Bool) : (if P then (Res.ok (PyData.bool b) : Res D) else .ok (.bool false)) = .ok (.bool (decide P && b)) := by by_cases h : P <;> simp [h]
@[simp] theorem res_or (P : Prop) [Decidable P] (b : Bool) : (if P then (Res.ok (PyData.bool true) : Res D) else .ok (.bool b)) = .ok (.bool (decide P || b)) := by by_cases h : P <;> simp [h]
theorem emod_nat (a b : Nat) : ((a : Int) + 1).fmod (b : Int) = (((a + 1) % b : Nat) : Int) := by
  rw [Int.fmod_eq_emod_of_nonneg _ (by omega), Int.natCast_emod]
  rfl
@[simp] theorem forL_nil' (g : Tg) (dead : List Nat) (body : Env → Out) (env : Env) : forL g dead body [] env = .next env := Eq.trans rfl rfl
def forO (k : Env → Out) : Out → Out
  | .next e => k e
  | .brk e => .next e
  | .cont e => .cont e
  | .ret r => .ret r
  | .exc c => .exc c
  | .bad => .bad
@[simp] theorem forO_next (k : Env → Out) (e : Env) : forO k (.next e) = k e := Eq.trans rfl rfl
@[simp] theorem forO_brk (k : Env → Out) (e : Env) : forO k (.brk e) = .next e := Eq.trans rfl rfl
@[simp] theorem forO_ret (k : Env → Out) (r : RV) : forO k (.ret r) = .ret r := Eq.trans rfl rfl
@[simp] theorem forO_exc (k : Env → Out) (c : Str) : forO k (.exc c) = .exc c := Eq.trans rfl rfl
@[simp] theorem forO_bad (k : Env → Out) : forO k .bad = .bad := Eq.trans rfl rfl
@[simp] theorem forO_ite (k : Env → Out) (c : Prop) [Decidable c] (a b : Out) : forO k (if c then a else b) = if c then forO k a else forO k b := by split <;> rfl
@[simp] theorem forL_cons' (g : Tg) (dead : List Nat) (body : Env → Out) (d : D) (ds : List D) (env : Env) : forL g dead body (d :: ds) env = forO (fun e => forL g dead body ds e) (turn g dead body d env) := by
  rw [forL_cons]
  cases turn g dead body d env <;> rfl
/-! loops: the state, the step -/
theorem forL_st {S : Type} {g : Tg} {dead : List Nat} {body : Env → Out} (enc : α → D) (st : S → Env) (step : S → α → S) (P : S → Prop) (xs : List α) (s : S) (h : P s)
    (hs : ∀ s x, x ∈ xs → P s → turn g dead body (enc x) (st s) = .next (st (step s x)) ∧ P (step s x)) : forL g dead body (xs.map enc) (st s) = .next (st (xs.foldl step s)) := (forL_fold enc st step P xs s h hs).1
theorem forL_ex {S : Type} {g : Tg} {dead : List Nat} {body : Env → Out} (enc : α → D) (st : S → Env) : ∀ (xs : List α) (P : Nat → S → Prop) (s : S), P 0 s →
    (∀ (i : Nat) s x, xs[i]? = some x → P i s → ∃ s', turn g dead body (enc x) (st s) = .next (st s') ∧ P (i + 1) s') → ∃ s', forL g dead body (xs.map enc) (st s) = .next (st s') ∧ P xs.length s'
  | [], P, s, h, _ => ⟨s, rfl, h⟩
  | x :: r, P, s, h, hs => by
    obtain ⟨s1, h1, h2⟩ := hs 0 s x rfl h
    obtain ⟨s2, h3, h4⟩ := forL_ex (g := g) (dead := dead) (body := body) enc st r (fun i => P (i + 1)) s1 h2 fun i s y hy => hs (i + 1) s y hy
    exact ⟨s2, by rw [List.map_cons, forL_cons, h1]; exact h3, h4⟩
theorem forL_exN {S : Type} {g : Tg} {dead : List Nat} {body : Env → Out} (lo : Int) (n : Nat) (st : S → Env) (P : Nat → S → Prop) (s : S) (h : P 0 s)
    (hs : ∀ (i : Nat) s, i < n → P i s → ∃ s', turn g dead body (.int (lo + (i : Int))) (st s) = .next (st s') ∧ P (i + 1) s') : ∃ s', forL g dead body (rangeD lo n) (st s) = .next (st s') ∧ P n s' := by
  have := forL_ex (g := g) (dead := dead) (body := body) (fun i : Nat => PyData.int (lo + (i : Int))) st (List.range n) P s h fun i s x hx hp => by
    obtain ⟨h1, h2⟩ := List.getElem?_eq_some_iff.mp hx
    rw [List.length_range] at h1
    rw [List.getElem_range] at h2
    subst h2
    exact hs i s h1 hp
  rw [List.length_range] at this
  exact this
/-- .. which may return -/
theorem forL_try {S : Type} {g : Tg} {dead : List Nat} {body : Env → Out} (enc : α → D) (st : S → Env) (step : S → α → S) (p : α → Bool) (r : α → RV) : ∀ (xs : List α) (s : S),
    (∀ s x, x ∈ xs → turn g dead body (enc x) (st s) = if p x = true then .ret (r x) else .next (st (step s x))) → forL g dead body (xs.map enc) (st s) = match xs.find? p with | some x => .ret (r x) | none => .next (st (xs.foldl step s))
  | [], _, _ => rfl
  | x :: t, s, h => by
    rw [List.map_cons, forL_cons, h s x List.mem_cons_self, List.find?_cons, List.foldl_cons]
    cases hp : p x with
    | true => rfl
    | false => exact forL_try enc st step p r t (step s x) fun s y hy => h s y (List.mem_cons_of_mem _ hy)
theorem any_of_find {p : α → Bool} {xs : List α} {v : α} (h : xs.find? p = some v) : xs.any p = true := List.any_eq_true.mpr ⟨v, List.mem_of_find?_eq_some h, List.find?_some h⟩
theorem any_of_none {p : α → Bool} {xs : List α} (h : xs.find? p = none) : xs.any p = false := by
  rw [List.any_eq_false]
  exact fun x hx => List.find?_eq_none.mp h x hx
theorem len0_not (p : α → Bool) (xs : List α) : decide (((xs.filter fun x => !p x).length : Int) = 0) = xs.all p := by
  induction xs with
  | nil => rfl
  | cons x r ih =>
    cases h : p x with
    | true => simpa [h] using ih
    | false =>
      simp only [List.filter_cons, h, Bool.not_false, if_true, List.length_cons, List.all_cons, Bool.false_and]
      exact decide_eq_false (by omega)
theorem len0 (p : α → Bool) (xs : List α) : decide (((xs.filter p).length : Int) = 0) = !xs.any p := by
  have := len0_not (fun x => !p x) xs
  simp only [Bool.not_not] at this
  rw [this, List.not_any_eq_all_not]
/-! slices -/
theorem cut_from {xs : List D} {z : Int} (h : 0 ≤ z) : cutD xs (some z) none = xs.drop z.toNat := by
  have e : HT.sIx xs.length 0 (some z) = min z.toNat xs.length := by
    show (if z < 0 then _ else _) = _
    rw [if_neg (by omega)]
  unfold cutD
  rw [e, HT.sIx_none]
  by_cases k : z.toNat ≤ xs.length
  · rw [Nat.min_eq_left k, List.take_of_length_le (by rw [List.length_drop]; omega)]
  · rw [Nat.min_eq_right (by omega), Nat.sub_self, List.take_zero, List.drop_eq_nil_of_le (by omega)]
theorem cut_mid {xs : List D} {a b : Int} (h : 0 ≤ a) (h' : 0 ≤ b) : cutD xs (some a) (some b) = (xs.take b.toNat).drop a.toNat := by
  have e : ∀ z : Int, 0 ≤ z → ∀ d, HT.sIx xs.length d (some z) = min z.toNat xs.length := fun z hz d => by
    show (if z < 0 then _ else _) = _
    rw [if_neg (by omega)]
  unfold cutD
  rw [e a h, e b h', List.drop_take]
  by_cases k : b.toNat ≤ xs.length
  · rw [Nat.min_eq_left k]
    by_cases k2 : a.toNat ≤ xs.length
    · rw [Nat.min_eq_left k2]
    · rw [Nat.min_eq_right (by omega), List.drop_eq_nil_of_le (Nat.le_refl _), List.drop_eq_nil_of_le (by omega)]
      simp
  · rw [Nat.min_eq_right (by omega)]
    by_cases k2 : a.toNat ≤ xs.length
    · rw [Nat.min_eq_left k2, List.take_of_length_le (by rw [List.length_drop]; omega), List.take_of_length_le (by rw [List.length_drop]; omega)]
    · rw [Nat.min_eq_right (by omega), List.drop_eq_nil_of_le (Nat.le_refl _), List.drop_eq_nil_of_le (by omega)]
      simp
theorem cut_to {xs : List D} {b : Int} (h' : 0 ≤ b) : cutD xs (some 0) (some b) = xs.take b.toNat := by
  rw [cut_mid (by omega) h']; rfl
@[simp] theorem cutm_from {f : α → D} {xs : List α} {z : Int} (h : 0 ≤ z) : cutD (xs.map f) (some z) none = (xs.drop z.toNat).map f := by rw [cut_from h, List.map_drop]
@[simp] theorem cutm_to {f : α → D} {xs : List α} {b : Int} (h' : 0 ≤ b) : cutD (xs.map f) (some 0) (some b) = (xs.take b.toNat).map f := by rw [cut_to h', List.map_take]
@[simp] theorem cutm_mid {f : α → D} {xs : List α} {a b : Int} (h : 0 ≤ a) (h' : 0 ≤ b) : cutD (xs.map f) (some a) (some b) = ((xs.take b.toNat).drop a.toNat).map f := by rw [cut_mid h h', List.map_drop, List.map_take]
/-! loops that only look -/
theorem forL_look {g : Tg} {dead : List Nat} {body : Env → Out} {env : Env} (enc : α → D) (p : α → Bool) (r : α → RV) : ∀ (xs : List α), (∀ x ∈ xs, turn g dead body (enc x) env = if p x = true then .ret (r x) else .next env) →
    forL g dead body (xs.map enc) env = match xs.find? p with | some x => .ret (r x) | none => .next env
  | [], _ => rfl
  | x :: t, h => by
    rw [List.map_cons, forL_cons, h x List.mem_cons_self, List.find?_cons]
    cases hp : p x with
    | true => rfl
    | false => exact forL_look enc p r t fun y hy => h y (List.mem_cons_of_mem _ hy)
end
end PV

set_option Elab.async false
set_option linter.all false
set_option maxRecDepth 100000
/-! ### comprehensions that fill a set or a dict -/
namespace PV
open PySem PySem.Spec L2 PyProof.Rows
set_option autoImplicit false
/-- how a raise leaves a block -/
abbrev NBy (P : Program) (w : World) (A : Around) (en : PySem.Env) (R : Result → Shared → Prop) : Value → Shared → Prop := notedBy (model P w) A en fun x z => R (.error x) z
/-- {.. for target in iter if ..}: the new object is told by O0, what is done with an item by tk -/
def tCc (O0 : Addr → HO) (wi : TI) (g : TG) (tt : TT) (tk : L2.St → Hp → Addr → (Hp → Prop) → Prop) (vs : List Nat) : TE := fun σ H Q => wi σ H fun J H1 => ∀ D, H1 D = none →
  ∃ W : Nat → Nat → Hp → Prop, (∃ m, W 0 m (upd H1 D (O0 D))) ∧ ∀ i m G, W i m G → (J.stop i G ∧ Q (.ref D) G) ∨
    (J.go i G ∧ ∃ Nx : Hp → Prop, (∀ G', Nx G' → ∃ m', m' < m ∧ W (i + 1) m' G') ∧ ∀ x G', J.yld i G x G' → g x (wipe σ vs) G' fun σ2 G2 => wipe σ2 vs = wipe σ vs ∧ tt σ2 G2 fun b G3 => if b = true then tk σ2 G3 D Nx else Nx G3)
section
variable {X : Cx}
theorem cc_core {pins : List (Addr × Obj)} {s : Shared} {σ : L2.St} {H : Hp} {Q : VK} {e tg iter : Expr} {ifs : List Expr} {scope : Scope} {own : List (PySem.Str × Nat)} {pos' : Pos} {wi : TI} {g : TG} {tt : TT} {use : Option (Value → Sem Unit)} {Qf : Value → Shared → Prop}
    {newM : Sem Value} {o0 : Obj} {O0 : Addr → HO} {tl : PySem.Env → Addr → (Shared → Prop) → (Value → Shared → Prop) → Shared → Prop} {tk : L2.St → Hp → Addr → (Hp → Prop) → Prop}
    (hcl : clausesOf e = [⟨tg, iter, ifs, 0⟩])
    (hnew : ∀ {A : Around} {E : Value → Shared → Prop} {Q' : Value → Shared → Prop} {z : Shared}, Q' (.ref z.heap.objs.size) { z with heap := z.heap.push o0 } → wpAny (model X.prog X.w) A newM Q' E z)
    (hob : ∀ (G : Hp) (h : Heap), sysModules < h.objs.size → ObjOk X.prog X.w G (h.push o0) h.objs.size (O0 h.objs.size))
    (hloop : ∀ {R : Result → Shared → Prop} {it : Value} {D : Addr} {en : PySem.Env} (Iv : Nat → Shared → Prop),
      (∀ n z, Iv n z → wpAny (model X.prog X.w) X.A (pyNext it) (fun r z1 => match r with
        | none => R (.ok .next) z1
        | some v => wpAny (model X.prog X.w) X.A (letOwnedTupleGo tg it v) (fun _ z2 => wpAny (model X.prog X.w) X.A (assign tg en v) (fun _ z3 =>
            wpAny (model X.prog X.w) X.A (forIn ifs true fun c r => if r = true then do let ok ← isTrue c en (eval c en); pure (ForInStep.yield ok) else pure (ForInStep.yield r)) (fun ok z4 =>
              if ok = true then tl en D (fun z5 => ∃ m, m < n ∧ Iv m z5) (NBy X.prog X.w X.A en R) z4 else ∃ m, m < n ∧ Iv m z4) (NBy X.prog X.w X.A en R) z3) (NBy X.prog X.w X.A en R) z2) (NBy X.prog X.w X.A en R) z1) (NBy X.prog X.w X.A en R) z) →
      ∀ n z, Iv n z → codeAny (model X.prog X.w) X.A (.compLoop e 0 it (.ref D) en) R z)
    (hstart : ∀ {R : Result → Shared → Prop} {it acc : Value} {en : PySem.Env} {z : Shared}, codeAny (model X.prog X.w) X.A (.compLoop e 0 it acc en) R z →
      wpAny (model X.prog X.w) X.A (pyIter it) (fun it' z' => codeAny (model X.prog X.w) X.A (.compLoop e 0 it' acc en) R z') (NBy X.prog X.w X.A en R) z → codeAny (model X.prog X.w) X.A (.compStart e 0 it acc en) R z)
    (calm : X.calm = true) (nd : X.N.Nodup) (I : Inv X pins σ H s) (pi : PI X tg iter wi) (ok : BlkOk X.N X.env.scope scope own)
    (pgs : ∀ (z : Shared) (G : Hp) (C : Addr) (cl : List (PySem.Str × Addr)) (fp : List Addr), PG (X.blk z G scope (compEnvC scope cl C X.env) fp) tg g)
    (ptt : ∀ (z : Shared) (G : Hp) (C : Addr) (cl : List (PySem.Str × Addr)) (fp : List Addr), PTs (X.blk z G scope (compEnvC scope cl C X.env) fp) ifs tt)
    (ptl : ∀ (z : Shared) (G : Hp) (C : Addr) (cl : List (PySem.Str × Addr)) (fp : List Addr) {pn : List (Addr × Obj)} {σ' : L2.St} {G' : Hp} {z' : Shared} {D : Addr} {Nx : Hp → Prop} {Kx : Shared → Prop} {Nr : Value → Shared → Prop},
      Inv (X.blk z G scope (compEnvC scope cl C X.env) fp) pn σ' G' z' → tk σ' G' D Nx → (∀ z2 G2, Inv (X.blk z G scope (compEnvC scope cl C X.env) fp) pn σ' G2 z2 → Nx G2 → Kx z2) → tl (compEnvC scope cl C X.env) D Kx Nr z')
    (hfs : ∀ x, foldedSetIterable iter X.env x = pure x) (h : tCc O0 wi g tt tk (own.map (·.2)) σ H Q)
    (fin : ∀ D C z m G, Inv X pins σ G z → Q (.ref D) G → z.heap.Ns C m → FpOk X pins G C → compPost (model X.prog X.w) X.A X.xe use Qf (.ref D) C (.ok .next) z) :
    wpAny (model X.prog X.w) X.A (comprehension e scope X.env pos' newM false (eval iter X.env) use) Qf X.xe s := by
  have free : ∀ nm ∈ scope.names, nm.2 = .free → ∃ cell, X.env.cells.lookup nm.1 = some cell := fun nm hm q => (ok.free nm hm q).elim (fun k => I.ok.has _ (.inl k)) fun k => I.ok.has _ (.inr k)
  refine wpAny_comprehension_free (use := use) hcl hfs (closure_ok free) ok.kind (fun nm hm q => by rw [ok.uniq nm hm, q]) (thn (pi.run pins s σ H _ I h) fun _ s1 hx => thn hx fun _ s2 h2 => ?_)
  obtain ⟨it, fp, tn, J, Ha, rfl, Ia, T, sta, fpa, q⟩ := h2
  refine hnew (newEnv_comp ?_)
  obtain ⟨D, hD⟩ : ∃ D, D = s2.heap.objs.size := ⟨_, rfl⟩
  rw [← hD]
  have freeD : Ha D = none := Ia.hok.fresh (Nat.le_of_eq hD.symm)
  obtain ⟨W, ⟨m0, w0⟩, turn⟩ := q D freeD
  obtain ⟨sb, hsb⟩ : ∃ sb : Shared, sb = { s2 with heap := s2.heap.push o0 } := ⟨_, rfl⟩
  have hsbh : sb.heap = s2.heap.push o0 := by rw [hsb]
  have Ib : Inv X pins σ (upd Ha D (O0 D)) sb := by
    rw [hsb]
    refine Ia.laid (t' := s2.toks) (fun b o z => Heap.get?_push_of_some _ z) (Nat.le_of_eq hD.symm) ?_
    have := hob (upd Ha D (O0 D)) s2.heap Ia.big
    rw [← hD] at this
    exact this
  have small : ∀ b ∈ fp, b < s2.heap.objs.size := fun b hb => let ⟨_, z, _⟩ := T.obj _ _ sta b hb; Heap.lt_size z
  have fpb : ∀ b ∈ fp, FpOk X pins (upd Ha D (O0 D)) b ∧ b < sb.heap.objs.size := fun b hb =>
    ⟨⟨by rw [upd_ne (by rw [hD]; exact Nat.ne_of_lt (small b hb))]; exact (fpa b hb).1, (fpa b hb).2⟩, by rw [hsbh, Heap.size_push]; exact Nat.lt_succ_of_lt (small b hb)⟩
  have stb : tn 0 sb.heap := T.keep _ _ _ sta fun b _ o z => by rw [hsbh]; exact Heap.get?_push_of_some _ z
  have Ic := block_start Ib ok nd fpb
  rw [← hsb]
  obtain ⟨cs, hcs⟩ : ∃ cs, cs = cellsFrom (sb.heap.objs.size + 1) scope.names (cloFrom X.env.cells scope.names []) := ⟨_, rfl⟩
  obtain ⟨Hb, hHb⟩ : ∃ Hb, Hb = upd Ha D (O0 D) := ⟨_, rfl⟩
  rw [← hHb] at Ib Ic w0 fpb
  rw [← hcs] at Ic
  have pg := pgs sb Hb sb.heap.objs.size cs fp
  have pt := ptt sb Hb sb.heap.objs.size cs fp
  have pl := fun {pn : List (Addr × Obj)} {σ' : L2.St} {G' : Hp} {z' : Shared} {Nx : Hp → Prop} {Kx : Shared → Prop} {Nr : Value → Shared → Prop} => @ptl sb Hb sb.heap.objs.size cs fp pn σ' G' z' D Nx Kx Nr
  have nfp : ∀ b ∈ fp, Hb b = none := fun b hb => (fpb b hb).1.1
  show codeAny (model X.prog X.w) X.A (.compStart e 0 (.ref it) (.ref D) (compEnvC scope (cellsFrom (sb.heap.objs.size + 1) scope.names (cloFrom X.env.cells scope.names [])) sb.heap.objs.size X.env)) (compPost (model X.prog X.w) X.A X.xe use Qf (.ref D) sb.heap.objs.size) { sb with heap := pushCells (sb.heap.push { cls := .type "dict", data := .dict #[] }) scope.names }
  rw [← hcs]
  obtain ⟨en, hen⟩ : ∃ en, en = compEnvC scope cs sb.heap.objs.size X.env := ⟨_, rfl⟩
  have locs : en.locals = sb.heap.objs.size := by rw [hen]; rfl
  rw [← hen] at Ic pg pt pl ⊢
  obtain ⟨sc, hsc⟩ : ∃ sc : Shared, sc = { sb with heap := pushCells (sb.heap.push { cls := .type "dict", data := .dict #[] }) scope.names } := ⟨_, rfl⟩
  have stc : tn 0 sc.heap := T.keep _ _ _ stb fun b _ o z => by rw [hsc]; exact pushCells_keeps _ _ _ _ (Heap.get?_push_of_some _ z)
  rw [← hsc] at Ic ⊢
  have keepFp : ∀ {σ' : L2.St} {G : Hp} {z : Shared}, Inv (X.blk sb Hb scope en fp) [] σ' G z → (∀ b ∈ fp, G b = none) → ∀ b ∈ fp, FpOk (X.blk sb Hb scope en fp) [] G b := fun I' hn b hb =>
    ⟨hn b hb, (I'.ok.exf b hb).1, I'.ok.exfs b hb, .inl hb, fun x c z => (I'.ok.exf b hb).2 x c z, fun p hp => (List.not_mem_nil (show p ∈ ([] : List (Addr × Obj)) from hp)).elim⟩
  have loop : codeAny (model X.prog X.w) X.A (.compLoop e 0 (.ref it) (.ref D) en) (compPost (model X.prog X.w) X.A X.xe use Qf (.ref D) sb.heap.objs.size) sc := by
    refine hloop (fun n z => ∃ i G, Inv (X.blk sb Hb scope en fp) [] (wipe σ (own.map (·.2))) G z ∧ tn i z.heap ∧ (∀ b ∈ fp, G b = none) ∧ W i n G) ?_ m0 sc ⟨0, Hb, Ic, stc, nfp, w0⟩
    rintro n sd ⟨i, Hd, Id, std, nd', wd⟩
    rcases turn i n Hd wd with ⟨stop, qq⟩ | ⟨go, Nx, hNx, step⟩
    · refine thnF (T.done (X.blk sb Hb scope en fp) rfl rfl rfl calm i [] sd _ Hd (fun _ _ => False) Id (keepFp Id nd') std stop) fun r se ⟨hr, Ie⟩ => ?_
      subst hr
      have back : Inv X pins σ Hd se := Ib.call' (ch := fp) Ie.os Ie.base Ie.hok Ie.bare fun b hb => ⟨(fpb b hb).1.2.2.2.1, (fpb b hb).1.2.1, (fpb b hb).1.2.2.2.2.1, (fpb b hb).1.2.2.2.2.2⟩
      have nC : Hd sb.heap.objs.size = none := locs ▸ (Ie.free : Hd en.locals = none)
      obtain ⟨m, hn, _⟩ := Ie.loc
      have hn : se.heap.Ns en.locals m := hn
      rw [locs] at hn
      exact fin D sb.heap.objs.size se m Hd back qq hn (Ib.fpOk (Nat.le_refl _) nC)
    · refine thnF (T.item (X.blk sb Hb scope en fp) rfl rfl rfl calm i [] sd _ Hd (fun _ _ => False) Id (keepFp Id nd') std go) fun r se ⟨u, hr, hitem⟩ => ?_
      subst hr
      refine thnF hitem fun _ sf ⟨x, Hf, If, rf, yf, stf, nf⟩ => ?_
      refine thnF (pg.run _ sf _ Hf x u _ (If.pinned (keepFp If nf) (T.obj _ _ stf)) rf (step x Hf yf)) fun _ sg ⟨σg, Hg, Ig, hwg, qg⟩ => ?_
      refine thnF (pt.run _ sg σg Hg _ Ig qg) fun b sh ⟨Hh, Ih, qh⟩ => ?_
      have close : ∀ {z : Shared} {G : Hp}, Inv (X.blk sb Hb scope en fp) ([] ++ pinsAt fp sf.heap) σg G z → Nx G → ∃ m, m < n ∧ ∃ i G, Inv (X.blk sb Hb scope en fp) [] (wipe σ (own.map (·.2))) G z ∧ tn i z.heap ∧ (∀ b ∈ fp, G b = none) ∧ W i m G := fun {z G} I' nx => by
        obtain ⟨m', hm, w'⟩ := hNx G nx
        have pin : ∀ b ∈ fp, ∀ o, sf.heap.get? b = some o → z.heap.get? b = some o ∧ G b = none := fun b hb o q => ⟨(I'.pin (b, o) (List.mem_append_right _ (List.mem_append_right _ (mem_pinsAt hb q)))).1, (I'.pin (b, o) (List.mem_append_right _ (List.mem_append_right _ (mem_pinsAt hb q)))).2.1⟩
        refine ⟨m', hm, i + 1, G, (I'.unpinned (pins := [])).weak (by rw [← hwg, wipe_length]) (fun j v q => (wipe_some (hwg ▸ q)).1), T.keep _ _ _ stf fun b hb o q => (pin b hb o q).1, fun b hb => ?_, w'⟩
        obtain ⟨o, q, _⟩ := T.obj _ _ stf b hb
        exact (pin b hb o q).2
      cases b with
      | false => exact close Ih qh
      | true => exact pl Ih qh fun z2 G2 I2 n2 => close I2 n2
  exact hstart loop (T.self X.A 0 _ _ _ stc loop)
end
end PV

set_option Elab.async false
set_option linter.all false
set_option maxRecDepth 100000
/-! ### sorted({..}), a set of ints -/
namespace PV
open PySem PySem.Spec L2
set_option autoImplicit false
/-- what a filled object is while it is made: Pd tells the object's state from the items that came -/
structure AccP (Pd : HO → List D → Prop) (Z1 H1 Z2 H : Hp) (L : Addr) (acc : List D) : Prop where
  ext : Ext Z1 H1 Z2 H
  at_ : ∃ o, H L = some o ∧ Z2 L = none ∧ Pd o acc
section
variable {K : PySem.W.Frag} {Pd : HO → List D → Prop}
theorem AccP.step {Z1 H1 Z2 H Z3 H3 : Hp} {L : Addr} {acc : List D} (h : AccP Pd Z1 H1 Z2 H L acc) (e : Ext Z2 H Z3 H3) : AccP Pd Z1 H1 Z3 H3 L acc := by
  obtain ⟨o, h1, h2, h3⟩ := h.at_
  exact ⟨h.ext.trans e, o, e.hh _ _ h1, e.no L (by rw [h1]; exact fun z => nomatch z) h2, h3⟩
theorem AccP.put {Z1 H1 Z2 H : Hp} {L : Addr} {acc acc' : List D} {o : HO} (h : AccP Pd Z1 H1 Z2 H L acc) (hL : H1 L = none) (hp : Pd o acc') : AccP Pd Z1 H1 Z2 (upd H L o) L acc' := by
  obtain ⟨_, _, h2, _⟩ := h.at_
  exact ⟨⟨same_updR hL h.ext.hh, h.ext.zz, same_updR h2 h.ext.zh, h.ext.no⟩, o, upd_same, h2, hp⟩
theorem loop_redP {J : It} {ds out pre : List D} {H0 Z0 Za Ha Z1 H1 Zs Hs : Hp} {L : Addr} {σ : L2.St} {env : Env} {is : List Nat} {tt : TT} {tgr : TG} {tk : L2.St → Hp → Addr → (Hp → Prop) → Prop} {Nx : Hp → Prop} {g : Tg} {c : Env → Res Bool} {fe : Env → Res D}
    (hg : ∀ v σ H Q, tG K g v σ H Q → tgr v σ H Q) (ht : ∀ σ H Q, tT K c σ H Q → tt σ H Q)
    (hk : ∀ (σ : L2.St) (H : Hp) (Nx : Hp → Prop), tE K fe σ H (fun v H' => ∃ o acc y, H' L = some o ∧ Pd o acc ∧ acc ++ [y] <+: pre ++ out ∧ (∃ Z, Dp K Z v y) ∧ ∀ o', Pd o' (acc ++ [y]) → Nx (upd H' L o')) → tk σ H L Nx)
    (hix : ∀ j ∈ g.ix, j ∈ is)
    (hE : EnvOk K H0 Z0 Z1 H1 (wipe σ is) env) (hno : ∀ (j : Nat), OwAt env j → (wipe σ is)[j]? = some (some (.ref L)) → False)
    (hJ : ItOk K Zs Hs J ds) (hZs : Same Zs Z1) (hHs : ∀ Z2 H2 acc, Same Z1 Z2 → AccP Pd Za Ha Z2 H2 L acc → Same Hs H2) (hL : Ha L = none) (h0 : H0 L = none) (hA : AccP Pd Za Ha Z1 H1 L pre) (hc : compL g c fe env ds = .ok out)
    (hn : ∀ Z2 H, ExtL L Z1 H1 Z2 H → AccP Pd Za Ha Z2 H L (pre ++ out) → Nx H) :
    ∃ W : Nat → Nat → Hp → Prop, (∃ m, W 0 m H1) ∧ ∀ i m H, W i m H →
      (J.stop i H ∧ Nx H) ∨ (J.go i H ∧ ∃ Nx1 : Hp → Prop, (∀ H', Nx1 H' → ∃ m', m' < m ∧ W (i + 1) m' H') ∧ ∀ x H', J.yld i H x H' → tgr x (wipe σ is) H' fun σ2 H2 => wipe σ2 is = wipe σ is ∧ tt σ2 H2 fun b H3 =>
        if b = true then tk σ2 H3 L Nx1 else Nx1 H3) := by
  refine ⟨fun i m H => m = ds.length - i ∧ i ≤ ds.length ∧ ∃ Z2 acc rest, ExtL L Z1 H1 Z2 H ∧ EnvOk K H0 Z0 Z2 H (wipe σ is) env ∧ AccP Pd Za Ha Z2 H L acc ∧ compL g c fe env (ds.drop i) = .ok rest ∧ acc ++ rest = pre ++ out,
    ⟨ds.length, rfl, Nat.zero_le _, Z1, pre, out, .of (.refl hE.sz), hE, hA, hc, rfl⟩, ?_⟩
  rintro i m H ⟨rfl, hi, Z2, acc, rest, s12, hE2, hA2, hc2, hsum⟩
  obtain ⟨j1, j2, j3⟩ := hJ i Z2 H (hZs.trans s12.zz) hE2.sz (hHs Z2 H acc s12.zz hA2)
  by_cases hlt : i < ds.length
  · refine .inr ⟨j2 hlt, fun H' => ∃ Z2 acc rest, ExtL L Z1 H1 Z2 H' ∧ EnvOk K H0 Z0 Z2 H' (wipe σ is) env ∧ AccP Pd Za Ha Z2 H' L acc ∧ compL g c fe env (ds.drop (i + 1)) = .ok rest ∧ acc ++ rest = pre ++ out, fun H' hN => ⟨ds.length - (i + 1), by omega, rfl, hlt, hN⟩, fun x H' hy => ?_⟩
    obtain ⟨Z3, e3, hd⟩ := j3 ds[i] x H' (List.getElem?_eq_getElem hlt) hy
    rw [List.drop_eq_getElem_cons hlt] at hc2
    obtain ⟨env1, c1, c2⟩ := Res.bind_eq hc2
    obtain ⟨b, c3, c4⟩ := Res.bind_eq c2
    refine hg _ _ _ _ ⟨H0, Z0, Z3, env, _, env1, hE2.ext e3, hd, c1, fun σ4 hE4 l4 n4 _ => ⟨?_, ht _ _ _ ⟨H0, Z0, Z3, env1, b, hE4, c3, fun H5 Z5 e5 => ?_⟩⟩⟩
    · rw [wipe_same l4 fun j hj => n4 j fun z => hj (hix j z), wipe_wipe]
    · cases b with
      | true =>
        rw [if_pos rfl] at c4 ⊢
        obtain ⟨y, c5, c6⟩ := Res.bind_eq c4
        obtain ⟨ys, c7, c8⟩ := Res.bind_eq c6
        cases c8
        refine hk _ _ _ ⟨H0, Z0, Z5, env1, y, hE4.ext e5, c5, fun v H6 Z6 e6 hd6 => ?_⟩
        have eA := (e3.trans e5).trans e6
        have hA6 := hA2.step eA
        obtain ⟨o, k1, zL, k3⟩ := hA6.at_
        refine ⟨o, acc, y, k1, k3, ⟨ys, by rw [← hsum]; simp⟩, ⟨Z6, hd6⟩, fun o' ho' => ?_⟩
        exact ⟨Z6, acc ++ [y], ys, (s12.trans (.of eA)).trans (.upd eA.zh zL), (hE2.ext eA).off zL h0 hno, hA6.put hL ho', c7, by rw [← hsum]; simp⟩
      | false =>
        rw [if_neg Bool.false_ne_true] at c4 ⊢
        have eA := e3.trans e5
        exact ⟨Z5, acc, rest, s12.trans (.of eA), hE2.ext eA, hA2.step eA, c4, hsum⟩
  · refine .inl ⟨j1 (by omega), ?_⟩
    rw [List.drop_of_length_le (by omega)] at hc2
    cases hc2
    rw [List.append_nil] at hsum
    rw [hsum] at hA2
    exact hn Z2 H s12 hA2
end
/-! the sorted list of different ints -/
def insU (x : Int) : List Int → List Int
  | [] => [x]
  | y :: r => if x < y then x :: y :: r else if x = y then y :: r else y :: insU x r
def sortU (ns : List Int) : List Int := ns.foldr insU []
theorem mem_insU {x z : Int} : ∀ {l : List Int}, z ∈ insU x l ↔ z = x ∨ z ∈ l
  | [] => by simp [insU]
  | y :: r => by
    unfold insU
    split
    · simp
    · split
      · rename_i h; subst h; simp
      · have := mem_insU (x := x) (z := z) (l := r)
        simp only [List.mem_cons, this]
        constructor
        · rintro (h | h | h)
          · exact .inr (.inl h)
          · exact .inl h
          · exact .inr (.inr h)
        · rintro (h | h | h)
          · exact .inr (.inl h)
          · exact .inl h
          · exact .inr (.inr h)
theorem mem_sortU {z : Int} {ns : List Int} : z ∈ sortU ns ↔ z ∈ ns := by
  induction ns with
  | nil => simp [sortU]
  | cons x r ih =>
    have : sortU (x :: r) = insU x (sortU r) := rfl
    rw [this, mem_insU, ih, List.mem_cons]
theorem pw_insU {x : Int} : ∀ {l : List Int}, l.Pairwise (· < ·) → (insU x l).Pairwise (· < ·)
  | [], _ => by simp [insU]
  | y :: r, h => by
    have h1 := fun {z} (hz : z ∈ r) => List.rel_of_pairwise_cons h hz
    have h2 := List.Pairwise.of_cons h
    unfold insU
    split
    · rename_i c
      refine List.Pairwise.cons (fun z hz => ?_) h
      rcases List.mem_cons.mp hz with rfl | hz
      · exact c
      · have := h1 hz; omega
    · split
      · exact h
      · refine List.Pairwise.cons (fun z hz => ?_) (pw_insU h2)
        rcases mem_insU.mp hz with rfl | hz
        · omega
        · exact h1 hz
theorem pw_sortU (ns : List Int) : (sortU ns).Pairwise (· < ·) := by
  induction ns with
  | nil => exact List.Pairwise.nil
  | cons x r ih => exact pw_insU ih
theorem asc_unique : ∀ {l m : List Int}, l.Pairwise (· < ·) → m.Pairwise (· < ·) → (∀ z, z ∈ l ↔ z ∈ m) → l = m
  | [], [], _, _, _ => rfl
  | [], y :: _, _, _, h => by have := (h y).mpr List.mem_cons_self; cases this
  | x :: _, [], _, _, h => by have := (h x).mp List.mem_cons_self; cases this
  | x :: l, y :: m, hl, hm, h => by
    have l1 := fun {z} (hz : z ∈ l) => List.rel_of_pairwise_cons hl hz
    have m1 := fun {z} (hz : z ∈ m) => List.rel_of_pairwise_cons hm hz
    have e : x = y := by
      rcases List.mem_cons.mp ((h x).mp List.mem_cons_self) with a | a
      · exact a
      · rcases List.mem_cons.mp ((h y).mpr List.mem_cons_self) with b | b
        · exact b.symm
        · have := m1 a; have := l1 b; omega
    subst e
    rw [asc_unique (List.Pairwise.of_cons hl) (List.Pairwise.of_cons hm) fun z => ?_]
    have hz := h z
    rw [List.mem_cons, List.mem_cons] at hz
    constructor
    · intro a
      rcases hz.mp (.inr a) with b | b
      · subst b; have := l1 a; omega
      · exact b
    · intro a
      rcases hz.mpr (.inr a) with b | b
      · subst b; have := m1 a; omega
      · exact b
/-! the rule -/
def eSortedSet (fi : Env → Res (List D)) (own : List Nat) (g : Tg) (c : Env → Res Bool) (fe : Env → Res D) : Env → Res RV := fun env => (fi env).bind fun ds => (compL g c fe (clr own env) ds).bind fun ys => match asInts ys with
  | some ns => if ns.length < 64 then .ok ⟨.list ((sortU ns).map PyData.int), true⟩ else .bad
  | none => .bad
/-- the set of the first items -/
def SetP (w : World) (L : Addr) (o : HO) (acc : List D) : Prop := ∃ (ns : List Int) (S : Int → Bool) (n : Nat), acc = ns.map PyData.int ∧ o = SetO w L S n ∧ n ≤ ns.length ∧ ∀ k, S k = true ↔ k ∈ ns
section
variable {X : Cx} {elt tg iter : Expr} {ifs : List Expr} {scope : Scope} {own : List (Str × Nat)} {pos : Pos} {fi : Env → Res (List D)} {g : Tg} {c : Env → Res Bool} {fe : Env → Res D}
def tkS (w : World) (te : TE) : L2.St → Hp → Addr → (Hp → Prop) → Prop := fun σ H L Nx => te σ H fun y H4 => ∃ (k : Int) (S : Int → Bool) (n : Nat), y = .int k ∧ H4 L = some (SetO w L S n) ∧ n + 1 < scanBound ∧ Nx (upd H4 L (SetO w L (fun j => S j || decide (j = k)) (if S k = true then n else n + 1)))
theorem pe_scI {wi : TI} {gg : TG} {tt : TT} {te : TE} (calm : X.calm = true) (nd : X.N.Nodup) (ok : BlkOk X.N X.env.scope scope own) (pi : PI X tg iter wi)
    (pgs : ∀ (z : Shared) (G : Hp) (C : Addr) (cl : List (Str × Addr)) (fp : List Addr), PG (X.blk z G scope (compEnvC scope cl C X.env) fp) tg gg)
    (ptt : ∀ (z : Shared) (G : Hp) (C : Addr) (cl : List (Str × Addr)) (fp : List Addr), PTs (X.blk z G scope (compEnvC scope cl C X.env) fp) ifs tt)
    (pte : ∀ (z : Shared) (G : Hp) (C : Addr) (cl : List (Str × Addr)) (fp : List Addr), PE (X.blk z G scope (compEnvC scope cl C X.env) fp) elt te)
    (hfs : ∀ x, foldedSetIterable iter X.env x = pure x := by intro _; rfl) : PE X (.SetComp elt [⟨tg, iter, ifs, 0⟩] scope pos) (tCc (fun L => SetO X.w L (fun _ => false) 0) wi gg tt (tkS X.w te) (own.map (·.2))) := by
  refine ⟨fun pins s σ H Q I h => ?_⟩
  rw [PpSet.eval_SetComp]
  refine cc_core (e := .SetComp elt [⟨tg, iter, ifs, 0⟩] scope pos) (tl := fun en L Kx Nr z => wpAny (model X.prog X.w) X.A (eval elt en) (fun x z4 => wpAny (model X.prog X.w) X.A (call (.builtin "set.add") [.ref L, x]) (fun _ z5 => Kx z5) Nr z4) Nr z)
    rfl (fun h => PpSet.newSet_ok h) (fun G h hb => setO_new (setR_fresh X.w)) ?_ ?_ calm nd I pi ok pgs ptt ?_ hfs h fun L C z m G I' q hn f => ⟨m, hn, fun h'' sb => ?_⟩
  · exact fun Iv turn n z hz => PpSet.compLoopS_any Iv (fun n z hz => thn (turn n z hz) fun r z1 h1 => by
      cases r with
      | none => exact h1
      | some v => exact h1) n hz
  · exact fun h1 h2 => PpSet.codeAny_compStart_set h1 h2
  · intro z G C cl fp pn σ' G' z' L Nx Kx Nr I' hk fin
    refine thnF ((pte z G C cl fp).run pn z' σ' G' _ I' hk) fun u z4 ⟨y, G4, I4, r4, k, S, n, ey, hL, hb, nx⟩ => ?_
    subst ey
    refine thnF (mt_sadd (X := X.blk z G scope (compEnvC scope cl C X.env) fp) pn z4 σ' G4 (.ref L) [.int k] (.ref L) [u] (fun _ G5 => Nx G5) I4 rfl (.cons r4 .nil) ⟨L, k, S, n, rfl, rfl, hL, hb, nx⟩) fun _ z5 ⟨_, G5, I5, _, n5⟩ => fin z5 G5 I5 n5
  · obtain ⟨f0, f1, f2, f3, f4, f5⟩ := f
    exact ⟨.ref L, G, I'.turned (t' := z.toks) (fun b o hb e => (sb.2 b hb).trans e) f0 f1 f3 f4 f5, rfl, q⟩
theorem V_sortedSet (m : X.mg "sorted" = none) (calm : X.calm = true) (nd : X.N.Nodup) (ok : BlkOk X.N X.env.scope scope own) (hi : PI X tg iter (tIp X.K fi))
    (pgs : ∀ (z : Shared) (G : Hp) (C : Addr) (cl : List (Str × Addr)) (fp : List Addr), PG (X.blk z G scope (compEnvC scope cl C X.env) fp) tg (tG X.K g))
    (ptt : ∀ (z : Shared) (G : Hp) (C : Addr) (cl : List (Str × Addr)) (fp : List Addr), PTs (X.blk z G scope (compEnvC scope cl C X.env) fp) ifs (tT X.K c))
    (pte : ∀ (z : Shared) (G : Hp) (C : Addr) (cl : List (Str × Addr)) (fp : List Addr), PE (X.blk z G scope (compEnvC scope cl C X.env) fp) elt (tE X.K fe))
    {p pos2 : Pos} (hix : ∀ j ∈ g.ix, j ∈ own.map (·.2) := by decide) (hg : Gl X "sorted" := by rfl) (hfs : ∀ x, foldedSetIterable iter X.env x = pure x := by intro _; rfl)
    (he : starEach [.SetComp elt [⟨tg, iter, ifs, 0⟩] scope pos] X.env = (false, eval (.SetComp elt [⟨tg, iter, ifs, 0⟩] scope pos) X.env) :: starEach [] X.env := by rfl) (hpl : (backTo pos2 (starEach [] X.env)).any (·.1) = false := by rfl) :
    PE X (.Call (.Name "sorted" p) [.SetComp elt [⟨tg, iter, ifs, 0⟩] scope pos] [] pos2) (tV X.K (eSortedSet fi (own.map (·.2)) g c fe)) := by
  refine pe_mono (pe_callB (cr_sortedSet calm) hg m PyProof.Rows.boot_sorted (pa_cons (pe_scI calm nd ok hi pgs ptt pte hfs) pa_nil he) (by decide) (by decide) he hpl) fun σ H Q ⟨H0, Z0, Z, env, r, hE, hf, q⟩ => ?_
  obtain ⟨ds, k1, k2⟩ := Res.bind_eq hf
  obtain ⟨out, k3, k4⟩ := Res.bind_eq k2
  cases ka : asInts out with
  | none => rw [ka] at k4; cases k4
  | some ns =>
    rw [ka] at k4
    obtain ⟨k5, k6⟩ := ite_ok k4
    cases k6
    have eo := asInts_eq ka
    subst eo
    refine ⟨H0, Z0, Z, env, ds, hE, k1, fun J H1 Z1 e1 hJ L hL => ?_⟩
    have hE1 := hE.ext e1
    have hEw := hE1.wiped (own.map (·.2))
    have zL := e1.zh.free hL
    have h0 := hE1.s0.free hL
    have m1 : Ext Z1 H1 Z1 (upd H1 L (SetO X.w L (fun _ => false) 0)) := .made e1.zh hL
    refine loop_redP (Pd := SetP X.w L) (Za := Z1) (Ha := H1) (pre := []) (fun _ _ _ _ h => h) (fun _ _ _ h => h) ?_ hix (hEw.ext m1) (notOwn hEw hL) hJ (Same.refl _) (fun Z2 H2 acc _ hA => hA.ext.hh) hL h0 ⟨m1, _, upd_same, zL, [], _, 0, rfl, rfl, Nat.le_refl _, by simp⟩ k3 ?_
    · rintro σ3 H3 Nx ⟨G0, Y0, Y, ev, y, hY, hy, qy⟩
      refine ⟨G0, Y0, Y, ev, y, hY, hy, fun v H' Z' e' hd => ?_⟩
      obtain ⟨o, acc, y2, a1, a2, a3, ⟨Z9, a4⟩, a5⟩ := qy v H' Z' e' hd
      obtain ⟨rest, hr⟩ := a3
      obtain ⟨ms, S, n, rfl, rfl, b3, b4⟩ := a2
      obtain ⟨k, hk⟩ : ∃ k : Int, y2 = .int k := by
        have : y2 ∈ [] ++ ns.map PyData.int := by rw [← hr]; simp
        rw [List.nil_append] at this
        obtain ⟨k, _, e⟩ := List.mem_map.mp this
        exact ⟨k, e.symm⟩
      subst hk
      have hv : v = .int k := by cases a4; rfl
      have hlen : ms.length + 1 ≤ ns.length := by
        have := congrArg List.length hr
        simp at this; omega
      refine ⟨k, S, n, hv, a1, by have : scanBound = 4096 := rfl; omega, a5 _ ⟨ms ++ [k], _, _, by simp, rfl, ?_, fun j => ?_⟩⟩
      · rw [List.length_append]
        split
        · simp; omega
        · simp; omega
      · rw [Bool.or_eq_true, b4, decide_eq_true_eq, List.mem_append, List.mem_singleton]
    · intro Z2 H2 _ hA
      obtain ⟨o, a1, a2, ns2, S, n, b1, rfl, b3, b4⟩ := hA.at_
      have e2 : ns2 = ns := by
        rw [List.nil_append] at b1
        exact ((List.map_inj_right fun a b h => PyData.int.inj h).mp b1).symm
      subst e2
      refine ⟨L, S, n, rfl, a1, by omega, fun ms p c1 c2 c3 c4 => ?_⟩
      have eu : ms = sortU ns2 := asc_unique c1 (pw_sortU ns2) fun z => by rw [c2, b4, mem_sortU]
      subst eu
      have zp := hA.ext.zh.free c4
      exact q _ _ Z2 ((e1.trans hA.ext).trans (.made hA.ext.zh c4)) ⟨p, _, _, rfl, rfl, (e1.hh.trans hA.ext.hh).free c4, zp, upd_same, ints_dps _⟩
@[simp] theorem eSortedSet_ev (fi : Env → Res (List D)) (own : List Nat) (g : Tg) (c : Env → Res Bool) (fe : Env → Res D) (env : Env) : eSortedSet fi own g c fe env = (fi env).bind fun ds => (compL g c fe (clr own env) ds).bind fun ys => match asInts ys with
  | some ns => if ns.length < 64 then .ok ⟨.list ((sortU ns).map PyData.int), true⟩ else .bad
  | none => .bad := Eq.trans rfl rfl
theorem asInts_fmap {α : Type} (f : α → Int) : ∀ xs : List α, asInts (xs.map fun x => PyData.int (f x)) = some (xs.map f)
  | [] => rfl
  | x :: r => by
    rw [List.map_cons, List.map_cons, asInts, asInts_fmap f r]
    rfl
end
end PV

set_option Elab.async false
set_option linter.all false
set_option maxRecDepth 100000
/-! ### list(range(n)), len(set(tuples)), the least of three -/
namespace PV
open PySem PySem.Spec L2
set_option autoImplicit false
theorem hu64_of {k : Nat} {A : Around} (r : Room k A) : A.units + 64 < cLine := by have := r.un; omega
section
variable {X : Cx} {a : Expr} {p p2 q pos : Pos} {fa : Env → Res D}
/-! list(range(n)) -/
def gLstRg : D → Res RV
  | .int n => if n < 1000000 ∧ -1000000 < n then .ok ⟨.list (rangeD 0 n.toNat), true⟩ else .bad
  | _ => .bad
theorem rgV_eq (n : Int) : rgV 0 n = ((List.range n.toNat).map fun i => (0 + ((i : Nat) : Int))).map V.int := by
  unfold rgV
  rw [Int.sub_zero, List.map_map]
  rfl
theorem V_lstRg1 (m1 : X.mg "list" = none) (m2 : X.mg "range" = none) (ha : PE X a (tP X.K fa)) (hc : X.calm = true := by rfl) (hg : Gl X "list" := by rfl) (hg2 : Gl X "range" := by rfl)
    (na : starEach [.Call (.Name "range" p2) [a] [] q] X.env = (false, eval (.Call (.Name "range" p2) [a] [] q) X.env) :: starEach [] X.env := by rfl) (na2 : starEach [a] X.env = (false, eval a X.env) :: starEach [] X.env := by rfl) :
    PE X (.Call (.Name "list" p) [.Call (.Name "range" p2) [a] [] q] [] pos) (tV X.K (eOp1 gLstRg fa)) := by
  refine pe_mono (pe_listRg hc hg m1 (prg_1 hg2 m2 ha na2) na) fun σ H Q ⟨H0, Z0, Z, env, r, hE, hf, k⟩ => ?_
  obtain ⟨d, h1, h2⟩ := Res.bind_eq hf
  unfold gLstRg at h2
  split at h2
  · rename_i n
    obtain ⟨⟨b1, b2⟩, h2⟩ := ite_ok h2
    cases h2
    refine ⟨H0, Z0, Z, env, _, hE, h1, fun v H1 Z1 e1 d1 => ?_⟩
    have := d1.int; subst this
    refine ⟨n, rfl, ⟨by omega, by omega, by omega, by omega, by omega⟩, fun l hl => ?_⟩
    refine k _ _ _ (e1.trans (.made e1.zh hl)) ⟨l, _, _, rfl, rfl, e1.hh.free hl, e1.zh.free hl, upd_same, ?_⟩
    rw [rgV_eq]
    have := ints_dps (K := X.K) (H := Z1) ((List.range n.toNat).map fun i => (0 + ((i : Nat) : Int)))
    have e : ((List.range n.toNat).map fun i => (0 + ((i : Nat) : Int))).map PyData.int = rangeD 0 n.toNat := by
      rw [List.map_map]; rfl
    rw [e] at this
    exact this
  · cases h2
@[simp] theorem gLstRg_ev (n : Int) : gLstRg (.int n) = if n < 1000000 ∧ -1000000 < n then .ok ⟨.list (rangeD 0 n.toNat), true⟩ else .bad := Eq.trans rfl rfl
/-! len(set(xs)), the xs tuples of ints -/
def asTups : List D → Option (List (List Int))
  | [] => some []
  | .tuple ds :: r => match asInts ds, asTups r with
    | some ns, some ks => some (ns :: ks)
    | _, _ => none
  | _ :: _ => none
def dedup {α : Type} [DecidableEq α] : List α → List α
  | [] => []
  | x :: r => if x ∈ r then dedup r else x :: dedup r
theorem mem_dedup {α : Type} [DecidableEq α] {z : α} : ∀ {l : List α}, z ∈ dedup l ↔ z ∈ l
  | [] => Iff.rfl
  | x :: r => by
    unfold dedup
    split
    · rename_i h
      rw [mem_dedup, List.mem_cons]
      exact ⟨.inr, fun k => k.elim (fun e => e ▸ h) id⟩
    · rw [List.mem_cons, List.mem_cons, mem_dedup]
theorem dedup_nodup {α : Type} [DecidableEq α] : ∀ l : List α, (dedup l).Nodup
  | [] => List.nodup_nil
  | x :: r => by
    unfold dedup
    split
    · exact dedup_nodup r
    · rename_i h
      exact List.nodup_cons.mpr ⟨fun k => h (mem_dedup.mp k), dedup_nodup r⟩
theorem nodup_le {α : Type} [DecidableEq α] : ∀ {l m : List α}, l.Nodup → (∀ x ∈ l, x ∈ m) → l.length ≤ m.length
  | [], _, _, _ => Nat.zero_le _
  | x :: l, m, hn, hs => by
    obtain ⟨h1, h2⟩ := List.nodup_cons.mp hn
    have hx : x ∈ m := hs x List.mem_cons_self
    have ih := nodup_le (m := m.erase x) h2 fun y hy => by
      have hne : y ≠ x := fun e => h1 (e ▸ hy)
      exact (List.mem_erase_of_ne hne).2 (hs y (List.mem_cons_of_mem _ hy))
    have e := List.length_erase_of_mem hx
    have := List.length_pos_of_mem hx
    rw [List.length_cons]
    omega
theorem dedup_le {α : Type} [DecidableEq α] : ∀ l : List α, (dedup l).length ≤ l.length
  | [] => Nat.le_refl _
  | x :: r => by
    have := dedup_le r
    unfold dedup
    split <;> simp only [List.length_cons] <;> omega
theorem dedup_full {α : Type} [DecidableEq α] : ∀ l : List α, (dedup l).length = l.length ↔ l.Nodup
  | [] => by simp [dedup]
  | x :: r => by
    have h1 := dedup_le r
    have h2 := dedup_full r
    rw [List.nodup_cons]
    unfold dedup
    split
    · rename_i h
      constructor
      · intro e; rw [List.length_cons] at e; omega
      · intro e; exact absurd h e.1
    · rename_i h
      rw [List.length_cons, List.length_cons, Nat.add_right_cancel_iff, h2]
      exact ⟨fun k => ⟨h, k⟩, fun k => k.2⟩
theorem tups_of {K : PySem.W.Frag} {Z : Hp} : ∀ {ds : List D} {vs : List V} {kss : List (List Int)}, DpAll K Z vs ds → asTups ds = some kss → ∃ ks : List (Addr × List Int), vs = ks.map (fun p => V.ref p.1) ∧ ks.map (·.2) = kss ∧ ∀ p ∈ ks, SqT K Z p.1 (p.2.map V.int)
  | [], _, _, .nil, e => by cases e; exact ⟨[], rfl, rfl, fun _ h => nomatch h⟩
  | d :: r, _, _, .cons h1 h2, e => by
    unfold asTups at e
    split at e
    · rename_i e0; cases e0
    · rename_i ds r' e0
      cases e0
      split at e
      · rename_i ns ks k1 k2
        cases e
        obtain ⟨L, q1, q2, q3⟩ := tups_of h2 k2
        cases h1 with
        | tup g1 g2 =>
          rename_i t ws
          have := asInts_eq k1; subst this
          have := dps_ints g2; subst this
          refine ⟨(t, ns) :: L, by rw [q1]; rfl, by rw [← q2]; rfl, fun p hp => ?_⟩
          rcases List.mem_cons.mp hp with rfl | hp
          · exact g1
          · exact q3 p hp
      · cases e
    · cases e
def gLenSet : D → Res D
  | .list ds => match asTups ds with
    | some kss => if kss.length < 64 then .ok (.int ((dedup kss).length : Int)) else .bad
    | none => .bad
  | _ => .bad
def rLenSetT (P : Program) (w : World) : List V → Hp → VK → Prop := fun vs H Q => ∃ (a : Addr) (L : List (Addr × List Int)), vs = [V.ref a] ∧ H a = some (SetTO P w a L) ∧ ((L.map (·.2)).Nodup → L.length < 64 → Q (.int (L.length : Int)) H)
theorem cr_lenSetT : CallR X (.builtin "len") (rLenSetT X.prog X.w) := by
  intro pins s σ H vs us Q I r h
  obtain ⟨b, L, rfl, ha, k⟩ := h
  have R0 : SetT0 X.prog X.w s.heap b L := (I.hok b _ ha).1
  obtain ⟨es, ep, t, ⟨o, ho, hex, hd⟩, rows, tab, nd, _, _, room, few⟩ := R0.ex
  rw [Vals.ref1 r]
  have hl : es.size = L.length := by
    have := congrArg List.length rows
    rw [Array.length_toList] at this
    rw [this]
    simp [rowsOf]
  refine call_len_set ho hex hd ?_ (by omega) ⟨.int (L.length : Int), H, I.tok _, ⟨_, by rw [hl]⟩, k nd few⟩
  have hs := tab.sz
  have hdm := tab.dm
  rw [List.length_map] at hs
  unfold SetTable.fits SetTable.fill
  rw [hs, hl, hdm]
  simp
  omega
theorem E_lenSet (m1 : X.mg "len" = none) (m2 : X.mg "set" = none) (hu : X.A.units + 64 < cLine) (ha : PE X a (tP X.K fa)) (hc : X.calm = true := by rfl) (hg : Gl X "len" := by rfl) (hg2 : Gl X "set" := by rfl)
    (na : starEach [.Call (.Name "set" p2) [a] [] q] X.env = (false, eval (.Call (.Name "set" p2) [a] [] q) X.env) :: starEach [] X.env := by rfl) (na2 : starEach [a] X.env = (false, eval a X.env) :: starEach [] X.env := by rfl)
    (hpl : (backTo pos (starEach [] X.env)).any (·.1) = false := by rfl) (hpl2 : (backTo q (starEach [] X.env)).any (·.1) = false := by rfl) :
    PE X (.Call (.Name "len" p) [.Call (.Name "set" p2) [a] [] q] [] pos) (tE X.K (eOp1 gLenSet fa)) := by
  refine pe_mono (pe_callB cr_lenSetT hg m1 PySem.boot_len (pa_cons (pe_callTy (cr_setOfT hc hu) hg2 m2 (by decide +kernel) (pa_cons ha pa_nil na2) (by decide) (by decide) na2 hpl2) pa_nil na) (by decide) (by decide) na hpl) fun σ H Q ⟨H0, Z0, Z, env, r, hE, hf, k⟩ => ?_
  obtain ⟨d, h1, h2⟩ := Res.bind_eq hf
  unfold gLenSet at h2
  split at h2
  · rename_i ds
    split at h2
    · rename_i kss hk
      obtain ⟨b1, h2⟩ := ite_ok h2
      cases h2
      refine ⟨H0, Z0, Z, env, _, hE, h1, fun v H1 Z1 e1 d1 => ?_⟩
      obtain ⟨l, vs, rfl, g1, g2⟩ := d1.list e1.zh
      obtain ⟨ks, q1, q2, q3⟩ := tups_of g2 hk
      have lk : ks.length = kss.length := by rw [← q2, List.length_map]
      refine ⟨l, ks, rfl, by rw [← q1]; exact g1, fun p hp => seqT e1.zh (q3 p hp), by omega, fun b L hb s1 s2 => ⟨b, L, rfl, upd_same, fun nd few => ?_⟩⟩
      have e : L.length = (dedup kss).length := by
        refine Nat.le_antisymm ?_ ?_
        · rw [← List.length_map (f := fun p : Addr × List Int => p.2)]
          refine nodup_le nd fun x hx => ?_
          obtain ⟨p, hp, rfl⟩ := List.mem_map.mp hx
          rw [mem_dedup, ← q2]
          exact List.mem_map.mpr ⟨p, s1 p hp, rfl⟩
        · rw [← List.length_map (as := L) (f := fun p : Addr × List Int => p.2)]
          refine nodup_le (dedup_nodup _) fun x hx => ?_
          rw [mem_dedup, ← q2] at hx
          obtain ⟨p, hp, rfl⟩ := List.mem_map.mp hx
          exact s2 p hp
      rw [e]
      exact k _ _ _ (e1.trans (.made e1.zh hb)) (.int _)
    · cases h2
  · cases h2
@[simp] theorem gLenSet_ev (ds : List D) : gLenSet (.list ds) = match asTups ds with
    | some kss => if kss.length < 64 then .ok (.int ((dedup kss).length : Int)) else .bad
    | none => .bad := Eq.trans rfl rfl
theorem asTups_pairs {α : Type} (f g : α → Int) : ∀ xs : List α, asTups (xs.map fun x => PyData.tuple [.int (f x), .int (g x)]) = some (xs.map fun x => [f x, g x])
  | [] => rfl
  | x :: r => by
    rw [List.map_cons, List.map_cons, asTups, asTups_pairs f g r]
    rfl
/-! the least of three -/
def gMin3 : List D → Res D
  | [.int i, .int j, .int k] => .ok (.int (min (min i j) k))
  | _ => .bad
theorem gMin3_ok {K : PySem.W.Frag} : CallD K (rNuC3 nuMin3) gMin3 := by
  intro Z H vs ds d Q s h e q
  unfold gMin3 at e
  split at e
  · rename_i i j k
    cases e
    obtain ⟨v, w, x, rfl, hv, hw, hx⟩ : ∃ v w x, vs = [v, w, x] ∧ DpP K Z H v (.int i) ∧ DpP K Z H w (.int j) ∧ DpP K Z H x (.int k) := by
      cases h with
      | cons h1 h =>
        cases h with
        | cons h2 h =>
          cases h with
          | cons h3 h =>
            cases h
            exact ⟨_, _, _, rfl, h1, h2, h3⟩
    have := hv.int; subst this
    have := hw.int; subst this
    have := hx.int; subst this
    refine ⟨_, _, _, .int (min (min i j) k), rfl, ?_, fin_e s q (.int _)⟩
    show ((nuMin2 (.int i) (.int j)).bind fun m => nuMin2 m (.int k)) = _
    simp only [nuMin2, nuLt, nuCB, Option.map, decide_eq_true_eq]
    by_cases c : j < i
    · rw [if_pos c]
      have e : min i j = j := by omega
      rw [e]
      simp only [Option.bind, nuMin2, nuLt, nuCB, Option.map, decide_eq_true_eq]
      by_cases c2 : k < j
      · rw [if_pos c2]; congr; omega
      · rw [if_neg c2]; congr; omega
    · rw [if_neg c]
      have e : min i j = i := by omega
      rw [e]
      simp only [Option.bind, nuMin2, nuLt, nuCB, Option.map, decide_eq_true_eq]
      by_cases c2 : k < i
      · rw [if_pos c2]; congr; omega
      · rw [if_neg c2]; congr; omega
  · cases e
@[simp] theorem gMin3_ev (i j k : Int) : gMin3 [.int i, .int j, .int k] = .ok (.int (min (min i j) k)) := Eq.trans rfl rfl
end
end PV

set_option Elab.async false
set_option linter.all false
set_option maxRecDepth 100000
/-! ### repr of lists and tuples; a law that runs where the caller runs it -/
namespace PV
open PySem PySem.Spec L2 PyProof.Rows
set_option autoImplicit false
/-! texts of small data -/
theorem okS_app {a b : Str} (h1 : PyData.strOk a = true) (h2 : PyData.strOk b = true) : PyData.strOk (a ++ b) = true := by
  unfold PyData.strOk at *
  rw [Array.all_eq_true_iff_forall_mem] at *
  intro c hc
  have : c ∈ a.cps ++ b.cps := hc
  rcases Array.mem_append.mp this with h | h
  · exact h1 c h
  · exact h2 c h
theorem okS_of (s : String) : PyData.strOk (Str.ofString s) = true := by
  rw [Str.ofString_eq_toList]
  unfold PyData.strOk
  rw [Array.all_eq_true_iff_forall_mem]
  intro c hc
  rw [List.mem_toArray] at hc
  obtain ⟨x, _, rfl⟩ := List.mem_map.mp hc
  have := x.valid
  unfold UInt32.isValidChar Nat.isValidChar at this
  show decide (x.val.toNat < 1114112) = true
  rw [decide_eq_true_eq]
  omega
theorem okS_from : ∀ (ts : List Str) (k : Nat) (acc : Str), PyData.strOk acc = true → (∀ t ∈ ts, PyData.strOk t = true) → PyData.strOk (textFrom k acc ts) = true
  | [], _, _, h, _ => h
  | t :: r, k, acc, h, ht => by
    unfold textFrom
    refine okS_from r (k + 1) _ (okS_app (okS_app h ?_) (ht t List.mem_cons_self)) fun x hx => ht x (List.mem_cons_of_mem _ hx)
    exact okS_of _
theorem okS_join (s : Str) (hs : PyData.strOk s = true) : ∀ ts : List Str, (∀ t ∈ ts, PyData.strOk t = true) → PyData.strOk (Str.join s ts) = true
  | [], _ => by
    have : PyData.strOk Str.empty = true := by decide +kernel
    exact this
  | [x], h => h x List.mem_cons_self
  | x :: y :: r, h => by
    have : Str.join s (x :: y :: r) = x ++ s ++ Str.join s (y :: r) := rfl
    rw [this]
    exact okS_app (okS_app (h x List.mem_cons_self) hs) (okS_join s hs (y :: r) fun t ht => h t (List.mem_cons_of_mem _ ht))
/-- small data: its text is short -/
structure Rp (n k : Nat) (d : D) : Prop where
  sh : d.showable = true
  nd : d.hasDict = false
  dp : d.depth ≤ n
  wt : d.weight ≤ k
  lv : d.leavesShort 13 = true
  ok : PyData.strOk d.shown = true
theorem Rp.int {n k : Nat} {z : Int} (h : z.natAbs < 10 ^ 12) (hk : 41 ≤ k) : Rp n k (.int z) where
  sh := by
    unfold PyData.showable
    rw [decide_eq_true_eq]
    by_cases c : z.natAbs = 0
    · rw [c]; decide
    · have := (Nat.log2_lt c (k := 40)).mpr (by omega)
      omega
  nd := by unfold PyData.hasDict; rfl
  dp := by unfold PyData.depth; omega
  wt := by
    unfold PyData.weight
    split
    · omega
    · by_cases c : z.natAbs = 0
      · rw [c]
        have : Nat.log2 0 = 0 := by decide
        omega
      · have := (Nat.log2_lt c (k := 40)).mpr (by omega)
        omega
  lv := by
    unfold PyData.leavesShort
    rw [decide_eq_true_eq]
    exact PyData.shown_int_le h
  ok := by
    unfold PyData.shown
    exact okS_of _
theorem Rp.none {n k : Nat} : Rp n k .none where
  sh := by unfold PyData.showable; rfl
  nd := by unfold PyData.hasDict; rfl
  dp := by unfold PyData.depth; omega
  wt := by unfold PyData.weight; omega
  lv := by unfold PyData.leavesShort; rfl
  ok := by unfold PyData.shown; exact okS_of _
theorem Rp.bool {n k : Nat} {b : Bool} : Rp n k (.bool b) where
  sh := by unfold PyData.showable; rfl
  nd := by unfold PyData.hasDict; rfl
  dp := by unfold PyData.depth; omega
  wt := by unfold PyData.weight; omega
  lv := by unfold PyData.leavesShort; rfl
  ok := by
    unfold PyData.shown
    cases b <;> exact okS_of _
structure RpA (n k : Nat) (xs : List D) : Prop where
  sh : PyData.showableAll xs = true
  nd : PyData.hasDictAll xs = false
  dp : PyData.depthAll xs ≤ n
  wt : PyData.weightAll xs ≤ (k + 1) * xs.length
  lv : PyData.leavesShortAll 13 xs = true
  ok : ∀ t ∈ PyData.shownAll xs, PyData.strOk t = true
theorem RpA.of {n k : Nat} : ∀ {xs : List D}, (∀ x ∈ xs, Rp n k x) → RpA n k xs
  | [], _ => ⟨by unfold PyData.showableAll; rfl, by unfold PyData.hasDictAll; rfl, by unfold PyData.depthAll; omega, by unfold PyData.weightAll; omega, by unfold PyData.leavesShortAll; rfl, fun t h => by unfold PyData.shownAll at h; cases h⟩
  | x :: r, h => by
    have hx := h x List.mem_cons_self
    have hr := RpA.of fun y hy => h y (List.mem_cons_of_mem _ hy)
    refine ⟨by unfold PyData.showableAll; rw [hx.sh, hr.sh]; rfl, by unfold PyData.hasDictAll; rw [hx.nd, hr.nd]; rfl, ?_, ?_, by unfold PyData.leavesShortAll; rw [hx.lv, hr.lv]; rfl, fun t ht => ?_⟩
    · unfold PyData.depthAll
      have := hx.dp
      have := hr.dp
      omega
    · unfold PyData.weightAll
      have := hx.wt
      have := hr.wt
      rw [List.length_cons, Nat.mul_add]
      omega
    · unfold PyData.shownAll at ht
      rcases List.mem_cons.mp ht with rfl | ht
      · exact hx.ok
      · exact hr.ok t ht
theorem Rp.list {n k m : Nat} {xs : List D} (h : ∀ x ∈ xs, Rp n k x) (hm : (k + 1) * xs.length ≤ m) : Rp (n + 1) m (.list xs) := by
  have a := RpA.of h
  refine ⟨by unfold PyData.showable; exact a.sh, by unfold PyData.hasDict; exact a.nd, by unfold PyData.depth; have := a.dp; omega, by unfold PyData.weight; exact Nat.le_trans a.wt hm, by unfold PyData.leavesShort; exact a.lv, ?_⟩
  unfold PyData.shown listText
  exact okS_app (okS_from _ _ _ (okS_of _) a.ok) (okS_of _)
theorem Rp.tuple {n k m : Nat} {xs : List D} (h : ∀ x ∈ xs, Rp n k x) (hm : (k + 1) * xs.length ≤ m) : Rp (n + 1) m (.tuple xs) := by
  have a := RpA.of h
  refine ⟨by unfold PyData.showable; exact a.sh, by unfold PyData.hasDict; exact a.nd, by unfold PyData.depth; have := a.dp; omega, by unfold PyData.weight; exact Nat.le_trans a.wt hm, by unfold PyData.leavesShort; exact a.lv, ?_⟩
  unfold PyData.shown tupleText
  refine okS_app (okS_app (okS_of _) (okS_join _ (okS_of _) _ a.ok)) ?_
  exact okS_of _
theorem Rp.le {n k n' k' : Nat} {d : D} (h : Rp n k d) (hn : n ≤ n' := by omega) (hk : k ≤ k' := by omega) : Rp n' k' d := ⟨h.sh, h.nd, Nat.le_trans h.dp hn, Nat.le_trans h.wt hk, h.lv, h.ok⟩
theorem Rp.size {n k : Nat} {d : D} (h : Rp n k d) (hk : k ≤ 2 ^ 20) : d.shown.length ≤ sizeLine := PyData.shown_fits (B := 13) (by decide) (by decide) h.lv (Nat.le_trans h.wt hk)
/-! the call -/
def isSq : D → Bool
  | .list _ => true
  | .tuple _ => true
  | _ => false
def gRepr : List D → Res D
  | [d] => if isSq d = true ∧ d.showable = true ∧ d.hasDict = false ∧ d.depth ≤ 60 ∧ d.shown.length ≤ sizeLine then .ok (.str d.shown) else .bad
  | _ => .bad
theorem gRepr_ok {n k : Nat} {d : D} (h : Rp n k d) (hs : isSq d = true) (hn : n ≤ 60) (hk : k ≤ 2 ^ 20) : gRepr [d] = .ok (.str d.shown) := by
  have : gRepr [d] = if isSq d = true ∧ d.showable = true ∧ d.hasDict = false ∧ d.depth ≤ 60 ∧ d.shown.length ≤ sizeLine then .ok (.str d.shown) else .bad := rfl
  rw [this, if_pos ⟨hs, h.sh, h.nd, Nat.le_trans h.dp hn, h.size hk⟩]
def rRep (K : PySem.W.Frag) : List V → Hp → VK → Prop := fun xs H Q => ∃ p d, xs = [.ref p] ∧ Dp K H (.ref p) d ∧ d.showable = true ∧ d.hasDict = false ∧ d.depth ≤ 60 ∧ d.shown.length ≤ sizeLine ∧ Q (.str d.shown) H
theorem rep_ok {K : PySem.W.Frag} : CallD K (rRep K) gRepr := by
  intro Z H vs ds d Q s h e q
  unfold gRepr at e
  split at e
  · rename_i x
    obtain ⟨⟨h1, h2, h3, h4, h5⟩, e⟩ := ite_ok e
    cases e
    obtain ⟨v, rfl, hv⟩ : ∃ v, vs = [v] ∧ DpP K Z H v x := by
      cases h with
      | cons h1 h =>
        cases h
        exact ⟨_, rfl, h1⟩
    have hr : ∃ p, v = .ref p := by
      cases x with
      | list ys => obtain ⟨p, _, e, _⟩ := hv.list s; exact ⟨p, e⟩
      | tuple ys => obtain ⟨p, _, e, _⟩ := hv.tup s; exact ⟨p, e⟩
      | _ => cases h1
    obtain ⟨p, rfl⟩ := hr
    exact ⟨p, x, rfl, hv.cur s, h2, h3, h4, h5, fin_e s q (.str _)⟩
  · cases e
theorem call_rep {X : Cx} (hu : X.A.units + 65 < cLine) (hg : X.A.guards = some []) : CallR X (.builtin "repr") (rRep X.K) := by
  intro pins s σ H xs us Q I r h
  obtain ⟨p, d, rfl, hd, h1, h2, h3, h4, q⟩ := h
  obtain ⟨u, rfl, r1⟩ := vals1 r
  have r2 : u = Value.ref p := r1
  subst r2
  obtain ⟨as, rd⟩ := Dp.reads I d _ _ hd r1
  exact PySem.repr_of_reads' rd h1 (PyData.noDict_hsm h2) hg (by omega) (fun b o e => e) (fun h' u tk hk => ⟨.str _, H, I.kept hk, ⟨u, rfl⟩, q⟩) h4
end PV

set_option Elab.async false
set_option linter.all false
set_option maxRecDepth 100000
/-! ### a law's def that is promised only where the caller runs it (nothing guarded on the stack) -/
namespace PV
open PySem PySem.Spec L2 PyProof.Rows
set_option autoImplicit false
section
variable {P : Program} {w : World} {K : PySem.W.Frag} {mg : Str → Option Value} {base : Heap}
/-- what a law's def promises the caller -/
def LawOk (P : Program) (w : World) (K : PySem.W.Frag) (mg : Str → Option Value) (base : Heap) (f : Addr) (fd : FuncData) (ps : List Str) (m : List D → Res RV) : Prop :=
  ∀ (s : Shared) (H : Hp) (args : Args) (us : List Value) (vs : List V) (Q : VK), Env0 P w K mg base callerA [] s H → BindsTo s fd args (ps.zip us) → Vals vs us → spD K m vs H Q E0 →
    codeAny (model P w) callerA (.call (.ref f) args) (CR CX0 [] P w H s Q E0) s
theorem law_ok {x qual : Str} {st : Stmt} {f : Addr} {fd : FuncData} {N ps : List Str} {k np n : Nat} {body : Env → Out} {m : List D → Res RV} (F : Fun K x qual st f fd) (S : FnScope N ps (defScope st)) (hm : m = fnM np n body) (hnp : ps.length = np) (hn : N.length = n) (hN : np ≤ n) (room : Room (k + 1) callerA)
    (hbody : ∀ (cdv : Value) (s : Shared) (H : Hp) (E : XK), Room k (callerA.deeper (PyProof.Rows.envOfC qual (defScope st) s.heap.objs.size f cdv)) →
      PSs (cxOf CX0 P w K mg base N qual (defScope st) f cdv callerA [] s H E).nox (defBody st) (tS K W0 body)) : LawOk P w K mg base f fd ps m := by
  subst hm hnp hn
  obtain ⟨oc, od, kV, doc, pm, an, cdv, ct, osl, rfl, lk, inK⟩ := F.ex
  intro s H args us vs Q start0 bound vals want
  have stays : ∀ b o, base.get? b = some o → s.heap.get? b = some o := fun b o e => (start0.bs b o e).1
  have inHeap := start0.mod.kin.keeps stays
  have free := start0.mod.nolimit.keeps stays
  obtain ⟨Z, ds, r, sz, hd, hr, q⟩ := want
  have count : vs.length = ps.length := by rw [dps_length hd]; exact (ite_ok hr).1
  have res := (ite_ok hr).2
  have seats : ∀ y ∈ ps.zip us, (defScope st).names.lookup y.1 = some .local ∨ ((defScope st).names.lookup y.1 = some .cell ∧ ((PySem.cellsFrom (s.heap.objs.size + 1) (defScope st).names []).lookup y.1).isSome = true) := by
    intro y hy
    have my := (List.of_mem_zip (a := y.1) (b := y.2) hy).1
    rcases S.par _ my with c | c
    · exact Or.inl c
    · exact Or.inr ⟨c, PySem.W.cellsFrom_some _ _ _ (Or.inl c)⟩
  refine codeAny_call_function room.depth (inHeap _ _ lk) rfl S.co S.gen rfl (PySem.W.codeRec_of inHeap inK) (bound _ _ _ _ ?_)
  refine wpAny_newFunctionEnv_cells S.kind seats fun env he s1 ext => ?_
  subst he
  refine ⟨free.keeps ext.toInCall.keep, codeAny_func ?_⟩
  have I : Inv (cxOf CX0 P w K mg base N qual (defScope st) f cdv callerA [] s H E0) [] (L2.start N vs) H s1 := inv_start S room.hd start0 count vals ext
  have walk := (hbody cdv s H E0 (room.deeper _)).nox
  have want : tS K W0 body { nx := fun _ H' => Q .non H', rt := Q } (L2.start N vs) H := by
    refine ⟨H, Z, Z, _, env_start sz hd (by rw [count]; exact hN), ?_⟩
    cases hb : body (ds.map Sl.fz ++ List.replicate (N.length - ds.length) Sl.no) with
    | ret r' =>
      rw [hb] at res
      cases res
      exact fun Z' v H' ⟨e, hr⟩ _ => q v H' Z' e hr
    | next env' =>
      rw [hb] at res
      cases res
      exact fun Z' σ' H' hE => q .non H' Z' hE.toExt .non
    | exc c => rw [hb] at res; cases res
    | bad => rw [hb] at res; cases res
    | brk e => rw [hb] at res; cases res
    | cont e => rw [hb] at res; cases res
  refine wpAny_mono (walk.run [] s1 _ H _ I want) (fun fin s' got => ?_) fun e s' got => ?_
  · match fin, got with
    | .ret u, ⟨v, σ', H', J, rv, qv⟩ => exact ⟨v, H', J.os, J.bare, J.base, J.hok, rv, qv⟩
    | .next, ⟨σ', H', J, qv⟩ => exact ⟨V.non, H', J.os, J.bare, J.base, J.hok, rfl, qv⟩
    | .brk, ⟨_, _, _, qv⟩ => exact qv.elim
    | .cont, ⟨_, _, _, qv⟩ => exact qv.elim
  · exact got
/-! the caller's heap, the script hidden -/
theorem top_env {s : Shared} {a : Addr} {mb : Str → Option Value} {H : Hp} {arr : Array Value} {c : Nat} (inK : K.In s.heap) (ns : s.heap.Ns mainGlobals mg) (nb : s.heap.Ns builtinsNs mb) (bb : ∀ x : Str, x ≠ "__name__" → mb x = bootBuiltins x) (nl : s.heap.NoLimit) (g0 : s.gens = #[])
    (ha : s.heap.get? a = some { cls := .type "list", data := .seq arr c }) (ok : HOk P w H s.heap) (only : ∀ b, H b ≠ none → b = a ∧ K.lookup a = none) :
    K.In (hidT s.heap H) ∧ (hidT s.heap H).Ns mainGlobals mg ∧ Env0 P w K mg (hidT s.heap H) callerA [] s H := by
  have modK : K.In (hidT s.heap H) := fun b o e => by
    refine hidT_get (inK b o e) (Classical.byContradiction fun k => ?_)
    obtain ⟨e1, e2⟩ := only b k
    rw [e1, e2] at e
    cases e
  have dict : ∀ {b : Addr} {m : Str → Option Value}, s.heap.Ns b m → (hidT s.heap H).Ns b m := fun {b m} ⟨o, es, ep, e, d, rest⟩ => by
    refine ⟨o, es, ep, hidT_get e (Classical.byContradiction fun k => ?_), d, rest⟩
    rw [(only b k).1, ha] at e
    cases e
    have d' : Data.seq arr c = Data.dict es ep := d
    cases d'
  obtain ⟨mc, l1, l2⟩ := nl
  refine ⟨modK, dict ns, ⟨rfl, ⟨modK, dict ns, ⟨mb, dict nb, bb⟩, ⟨mc, dict l1, l2⟩⟩, fun b o e => of_hidT e, Nat.le_of_eq (hidT_size _ _), trivial, fun b hb => ?_, ok, .of_eq g0⟩⟩
  exact absurd (show b ∈ ([] : List Addr) from hb) List.not_mem_nil
/-- THE HEAD of such a law -/
theorem law_top {mb : Str → Option Value} {fa a : Addr} {fd : FuncData} {x : Str} {m : List D → Res RV} {s : Shared} {vs : List Value} {ns : List Int} (inK : K.In s.heap) (hns : s.heap.Ns mainGlobals mg) (nb : s.heap.Ns builtinsNs mb) (bb : ∀ x : Str, x ≠ "__name__" → mb x = bootBuiltins x) (nl : s.heap.NoLimit) (g0 : s.gens = #[])
    (ha : s.heap.get? a = some { cls := .type "list", data := .seq vs.toArray }) (hi : IntsAre vs ns) (hl : ns.length ≤ sizeLine)
    (F : ∀ base : Heap, K.In base → base.Ns mainGlobals mg → LawOk P w K mg base fa fd [x] m) (bind : ∀ (s : Shared) (u : Value), BindsTo s fd ⟨[u], []⟩ [(x, u)]) (end_ : ∃ r, m [.list (ns.map PyData.int)] = .ok r ∧ r.d = .bool true) :
    codeAny (model P w) callerA (.call (.ref fa) ⟨[.ref a], []⟩) (fun r s' => r = .ok (.ret (.bool true)) ∧ OldK s.heap s'.heap ∧ s'.os = s.os ∧ AllBare s'.gens) s := by
  have rv := vals_ints hi
  have cnt := hi.length
  have fin : ∀ H : Hp, (∀ b, H b ≠ none → b = a ∧ K.lookup a = none) → (∀ b, H b = none ∨ ∃ o xs, H b = some (.frz o (.lst xs))) → SqL K H a (ns.map V.int) → HOk P w H s.heap →
      codeAny (model P w) callerA (.call (.ref fa) ⟨[.ref a], []⟩) (fun r s' => r = .ok (.ret (.bool true)) ∧ OldK s.heap s'.heap ∧ s'.os = s.os ∧ AllBare s'.gens) s := by
    intro H only frz seq ok
    obtain ⟨k1, k2, env⟩ := top_env inK hns nb bb nl g0 ha ok only
    refine codeAny_mono (F _ k1 k2 s H ⟨[.ref a], []⟩ [.ref a] [.ref a] _ env (bind s (.ref a)) (.cons rfl .nil) (law_sp seq end_)) fun r s' got => ?_
    match r, got with
    | .ok .next, k => exact False.elim k
    | .ok .brk, k => exact False.elim k
    | .ok .cont, k => exact False.elim k
    | .error e, k => exact False.elim k
    | .ok (.ret u), ⟨v, H', os, bare, un, ok', rel, qv⟩ =>
      have qv' : v = .bl true := qv
      subst qv'
      have : u = Value.bool true := rel
      subst this
      refine ⟨rfl, OldK.of_keep fun b o e => ?_, os, bare⟩
      rcases frz b with z | ⟨ob, xs, z⟩
      · exact un.keep b o e z (fun k => absurd (show b ∈ ([] : List Addr) from k) List.not_mem_nil) List.not_mem_nil
      · have before := (ok b _ z).1
        have after := (ok' b _ (un.frzs b ob _ z)).1
        rw [e] at before
        cases before
        exact after
  by_cases c : K.lookup a = none
  · refine fin (fun b => if b = a then some (.frz { cls := .type "list", data := .seq vs.toArray } (.lst (ns.map V.int))) else none) (fun b k => ?_) (fun b => ?_) (.inl (.inr ⟨_, if_pos rfl⟩)) fun b u k => ?_
    · by_cases e : b = a
      · exact ⟨e, c⟩
      · exact absurd (if_neg e) k
    · by_cases e : b = a
      · exact Or.inr ⟨_, _, if_pos e⟩
      · exact Or.inl (if_neg e)
    · by_cases e : b = a
      · have k' := (if_pos e).symm.trans k
        cases k'
        subst e
        exact ⟨ha, by rw [List.length_map]; exact hl, vs, _, rv, ha⟩
      · have k' := (if_neg e).symm.trans k
        cases k'
  · obtain ⟨o, ho⟩ := Option.ne_none_iff_exists'.mp c
    have e := inK a o ho
    rw [ha] at e
    cases e
    refine fin (fun _ => none) (fun b k => absurd rfl k) (fun _ => Or.inl rfl) (.inr ⟨_, vs.toArray, _, ho, rfl, rfl, rfl, by rw [List.size_toArray, cnt]; exact hl, by simpa using rv⟩) fun b u k => ?_
    have k' : (none : Option HO) = some u := k
    cases k'
end
/-- the goal that k_head leaves -/
theorem walk_top {l : PySem.W.OpenLaw} {n : Nat} {q : Program} {loose : List Str} {XP : (Str → Option Value) → Heap → Prop} {YP : World → Heap → Prop} {d : DefRec} {K : Params → PySem.W.Frag} {x : Str} {m : List D → Res RV}
    (hn : l.most = some n) (hn2 : n ≤ sizeLine) (hdf : d.params.defaults = []) (hY : ∀ (w : World) (h : Heap), YP w h → (K w.params).In h)
    (F : ∀ (w : World) (mg : Str → Option Value) (fa : Addr) (h : Heap), (K w.params).In h → h.Ns mainGlobals mg → mg d.name = some (.ref fa) →
      ∃ fd : FuncData, (∀ (s : Shared) (u : Value), BindsTo s fd ⟨[u], []⟩ [(x, u)]) ∧ ∀ base : Heap, (K w.params).In base → base.Ns mainGlobals mg → LawOk l.prog w (K w.params) mg base fa fd [x] m)
    (main : ∀ ns : List Int, ns.length ≤ n → ∃ r, m [.list (ns.map PyData.int)] = .ok r ∧ r.d = .bool true) :
    PySem.W.WalkO q loose XP YP l.row.toRowW d [] (fun f vs => PySem.call f vs) := by
  refine Att.attach_call hn hdf fun w s₀ s₁ mg mb fa o pm cd doc a vs ns G Y ho hd hcd hmg hobj hints hlen hg => ?_
  have inK := hY w _ Y
  obtain ⟨fd, bind, H⟩ := F w mg fa _ inK G.T.g hmg
  exact law_top inK G.T.g G.T.b G.T.builtins G.T.nolimit hg hobj hints (Nat.le_trans hlen hn2) H bind (main ns hlen)
end PV

set_option Elab.async false
set_option linter.all false
set_option maxRecDepth 100000
/-! ### sorted({.. : True for ..}), the keys tuples of ints -/
namespace PV
open PySem PySem.Spec L2 PyProof.Rows
set_option autoImplicit false
/-- as AccZ, where the object's state is told over what stays -/
structure AccZ (Pd : Hp → HO → List D → Prop) (Z1 H1 Z2 H : Hp) (L : Addr) (acc : List D) : Prop where
  ext : Ext Z1 H1 Z2 H
  at_ : ∃ o, H L = some o ∧ Z2 L = none ∧ Pd Z2 o acc
section
variable {K : PySem.W.Frag} {Pd : Hp → HO → List D → Prop}
theorem AccZ.step (hm : ∀ Z Z' o acc, Same Z Z' → Pd Z o acc → Pd Z' o acc) {Z1 H1 Z2 H Z3 H3 : Hp} {L : Addr} {acc : List D} (h : AccZ Pd Z1 H1 Z2 H L acc) (e : Ext Z2 H Z3 H3) : AccZ Pd Z1 H1 Z3 H3 L acc := by
  obtain ⟨o, h1, h2, h3⟩ := h.at_
  exact ⟨h.ext.trans e, o, e.hh _ _ h1, e.no L (by rw [h1]; exact fun z => nomatch z) h2, hm _ _ _ _ e.zz h3⟩
theorem AccZ.put {Z1 H1 Z2 H : Hp} {L : Addr} {acc acc' : List D} {o : HO} (h : AccZ Pd Z1 H1 Z2 H L acc) (hL : H1 L = none) (hp : Pd Z2 o acc') : AccZ Pd Z1 H1 Z2 (upd H L o) L acc' := by
  obtain ⟨_, _, h2, _⟩ := h.at_
  exact ⟨⟨same_updR hL h.ext.hh, h.ext.zz, same_updR h2 h.ext.zh, h.ext.no⟩, o, upd_same, h2, hp⟩
theorem loop_redZ {J : It} {ds out pre : List D} {H0 Z0 Za Ha Z1 H1 Zs Hs : Hp} {L : Addr} {σ : L2.St} {env : Env} {is : List Nat} {tt : TT} {tgr : TG} {tk : L2.St → Hp → Addr → (Hp → Prop) → Prop} {Nx : Hp → Prop} {g : Tg} {c : Env → Res Bool} {fe : Env → Res D}
    (hg : ∀ v σ H Q, tG K g v σ H Q → tgr v σ H Q) (ht : ∀ σ H Q, tT K c σ H Q → tt σ H Q)
    (hk : ∀ (σ : L2.St) (H : Hp) (Nx : Hp → Prop), tE K fe σ H (fun v H' => ∃ o acc y Z', Same Z' H' ∧ H' L = some o ∧ Pd Z' o acc ∧ acc ++ [y] <+: pre ++ out ∧ Dp K Z' v y ∧ ∀ o', Pd Z' o' (acc ++ [y]) → Nx (upd H' L o')) → tk σ H L Nx)
    (hm : ∀ Z Z' o acc, Same Z Z' → Pd Z o acc → Pd Z' o acc) (hix : ∀ j ∈ g.ix, j ∈ is)
    (hE : EnvOk K H0 Z0 Z1 H1 (wipe σ is) env) (hno : ∀ (j : Nat), OwAt env j → (wipe σ is)[j]? = some (some (.ref L)) → False)
    (hJ : ItOk K Zs Hs J ds) (hZs : Same Zs Z1) (hHs : ∀ Z2 H2 acc, Same Z1 Z2 → AccZ Pd Za Ha Z2 H2 L acc → Same Hs H2) (hL : Ha L = none) (h0 : H0 L = none) (hA : AccZ Pd Za Ha Z1 H1 L pre) (hc : compL g c fe env ds = .ok out)
    (hn : ∀ Z2 H, ExtL L Z1 H1 Z2 H → AccZ Pd Za Ha Z2 H L (pre ++ out) → Nx H) :
    ∃ W : Nat → Nat → Hp → Prop, (∃ m, W 0 m H1) ∧ ∀ i m H, W i m H →
      (J.stop i H ∧ Nx H) ∨ (J.go i H ∧ ∃ Nx1 : Hp → Prop, (∀ H', Nx1 H' → ∃ m', m' < m ∧ W (i + 1) m' H') ∧ ∀ x H', J.yld i H x H' → tgr x (wipe σ is) H' fun σ2 H2 => wipe σ2 is = wipe σ is ∧ tt σ2 H2 fun b H3 =>
        if b = true then tk σ2 H3 L Nx1 else Nx1 H3) := by
  refine ⟨fun i m H => m = ds.length - i ∧ i ≤ ds.length ∧ ∃ Z2 acc rest, ExtL L Z1 H1 Z2 H ∧ EnvOk K H0 Z0 Z2 H (wipe σ is) env ∧ AccZ Pd Za Ha Z2 H L acc ∧ compL g c fe env (ds.drop i) = .ok rest ∧ acc ++ rest = pre ++ out,
    ⟨ds.length, rfl, Nat.zero_le _, Z1, pre, out, .of (.refl hE.sz), hE, hA, hc, rfl⟩, ?_⟩
  rintro i m H ⟨rfl, hi, Z2, acc, rest, s12, hE2, hA2, hc2, hsum⟩
  obtain ⟨j1, j2, j3⟩ := hJ i Z2 H (hZs.trans s12.zz) hE2.sz (hHs Z2 H acc s12.zz hA2)
  by_cases hlt : i < ds.length
  · refine .inr ⟨j2 hlt, fun H' => ∃ Z2 acc rest, ExtL L Z1 H1 Z2 H' ∧ EnvOk K H0 Z0 Z2 H' (wipe σ is) env ∧ AccZ Pd Za Ha Z2 H' L acc ∧ compL g c fe env (ds.drop (i + 1)) = .ok rest ∧ acc ++ rest = pre ++ out, fun H' hN => ⟨ds.length - (i + 1), by omega, rfl, hlt, hN⟩, fun x H' hy => ?_⟩
    obtain ⟨Z3, e3, hd⟩ := j3 ds[i] x H' (List.getElem?_eq_getElem hlt) hy
    rw [List.drop_eq_getElem_cons hlt] at hc2
    obtain ⟨env1, c1, c2⟩ := Res.bind_eq hc2
    obtain ⟨b, c3, c4⟩ := Res.bind_eq c2
    refine hg _ _ _ _ ⟨H0, Z0, Z3, env, _, env1, hE2.ext e3, hd, c1, fun σ4 hE4 l4 n4 _ => ⟨?_, ht _ _ _ ⟨H0, Z0, Z3, env1, b, hE4, c3, fun H5 Z5 e5 => ?_⟩⟩⟩
    · rw [wipe_same l4 fun j hj => n4 j fun z => hj (hix j z), wipe_wipe]
    · cases b with
      | true =>
        rw [if_pos rfl] at c4 ⊢
        obtain ⟨y, c5, c6⟩ := Res.bind_eq c4
        obtain ⟨ys, c7, c8⟩ := Res.bind_eq c6
        cases c8
        refine hk _ _ _ ⟨H0, Z0, Z5, env1, y, hE4.ext e5, c5, fun v H6 Z6 e6 hd6 => ?_⟩
        have eA := (e3.trans e5).trans e6
        have hA6 := hA2.step hm eA
        obtain ⟨o, k1, zL, k3⟩ := hA6.at_
        refine ⟨o, acc, y, Z6, eA.zh, k1, k3, ⟨ys, by rw [← hsum]; simp⟩, hd6, fun o' ho' => ?_⟩
        exact ⟨Z6, acc ++ [y], ys, (s12.trans (.of eA)).trans (.upd eA.zh zL), (hE2.ext eA).off zL h0 hno, hA6.put hL ho', c7, by rw [← hsum]; simp⟩
      | false =>
        rw [if_neg Bool.false_ne_true] at c4 ⊢
        have eA := e3.trans e5
        exact ⟨Z5, acc, rest, s12.trans (.of eA), hE2.ext eA, hA2.step hm eA, c4, hsum⟩
  · refine .inl ⟨j1 (by omega), ?_⟩
    rw [List.drop_of_length_le (by omega)] at hc2
    cases hc2
    rw [List.append_nil] at hsum
    rw [hsum] at hA2
    exact hn Z2 H s12 hA2
end

/-! the dict -/
def tupD (k : List Int) : D := .tuple (k.map PyData.int)
def firsts (l : List (List Int)) : List (List Int) := l.foldl (fun acc k => if k ∈ acc then acc else acc ++ [k]) []
theorem firsts_snoc (l : List (List Int)) (k : List Int) : firsts (l ++ [k]) = if k ∈ firsts l then firsts l else firsts l ++ [k] := by
  unfold firsts
  rw [List.foldl_append, List.foldl_cons, List.foldl_nil]
theorem asTups_eq : ∀ {ds : List D} {nss : List (List Int)}, asTups ds = some nss → ds = nss.map tupD
  | [], nss, h => by
    have h' : some ([] : List (List Int)) = some nss := h
    cases h'
    rfl
  | d :: r, nss, h => by
    cases d with
    | tuple xs =>
      unfold asTups at h
      split at h
      · rename_i ns ks h1 h2
        cases h
        have e := asInts_eq h1
        subst e
        rw [List.map_cons, ← asTups_eq h2]
        rfl
      · cases h
    | _ => cases h
theorem dto_new {P : Program} {w : World} {H : Hp} {h : Heap} {d : Addr} {xs : List (List Int × Addr × Value)} (R : DictT0 P w h d xs) : ObjOk P w H h d (DTO P w d xs) := by
  have ⟨ne, o, es, ep, ho, r⟩ := R
  refine ⟨R, ⟨o, ho⟩, fun h1 h2 p k => ?_⟩
  have ⟨ne', o', es', ep', ho', r'⟩ := p
  exact ⟨ne', o', es', ep', k o' ho', r'⟩
theorem dt0_fresh {P : Program} {w : World} (h : Heap) (hb : sysModules < h.objs.size) : DictT0 P w (h.push { cls := .type "dict", data := .dict #[] }) h.objs.size [] :=
  ⟨beq_eq_false_iff_ne.mpr (Nat.ne_of_gt hb), { cls := .type "dict", data := .dict #[] }, #[], 0, Heap.get?_push_size _ rfl, ⟨rfl, rfl, rfl⟩, rfl, rfl, List.nodup_nil⟩
section
variable {X : Cx} {pins : List (Addr × Obj)} {σ : L2.St} {H : Hp} {s : Shared}
theorem dt_dictOf {d : Addr} {xs : List (List Int × Addr × Value)} (I : Inv X pins σ H s) (R : DictT0 X.prog X.w s.heap d xs) (hx : ∀ x ∈ xs, SqT X.K H x.2.1 (x.1.map V.int)) : s.heap.DictOfH (TK X.prog X.w) d xs := by
  obtain ⟨_, o, es, ep, h1, h2, h3, h4, h5⟩ := R
  exact ⟨o, es, ep, h1, h2, h3, h4, fun x hm => I.isT (hx x hm), h5⟩
theorem d_setDT {D b : Addr} {xs : List (List Int × Addr × Value)} {k : List Int} {r : Value} {Q : Unit → Shared → Prop} {E : Value → Shared → Prop} (hu : X.A.units + 66 < cLine) (I : Inv X pins σ H s) (hD : H D = some (DTO X.prog X.w D xs)) (hk : SqT X.K H b (k.map V.int)) (hx : ∀ x ∈ xs, SqT X.K H x.2.1 (x.1.map V.int)) (hz : xs.length ≤ 1000)
    (h : ∀ s', Inv X pins σ (upd H D (DTO X.prog X.w D (storedH xs k b r))) s' → Q () s') : wpAny (model X.prog X.w) X.A (dictSet D (.ref b) r) Q E s := by
  have R : DictT0 X.prog X.w s.heap D xs := (I.hok D _ hD).1
  refine wpAny_dictSet_heap (knd := TK X.prog X.w) (show X.A.units < cLine by omega) (I.isT hk) (dt_dictOf I R hx) (fun h' dd hs => h _ ?_) (Nat.le_trans hz (Nat.le_of_lt (small1000 (Nat.le_refl 1000))))
  obtain ⟨o, es, ep, h1, h2, h3, h4, _, h5⟩ := dd
  exact d_write I (by rw [hD]; exact True.intro) hs ⟨o, h1⟩ (dto_new ⟨R.ne, o, es, ep, h1, h2, h3, h4, h5⟩)
end
end PV

set_option Elab.async false
set_option linter.all false
set_option maxRecDepth 100000
namespace PV
open PySem PySem.Spec L2 PyProof.Rows
set_option autoImplicit false
section
variable {X : Cx} {kx vx tg iter : Expr} {ifs : List Expr} {scope : Scope} {own : List (Str × Nat)} {pos : Pos} {fi : Env → Res (List D)} {g : Tg} {c : Env → Res Bool} {fe : Env → Res D}
def tkDT (K : PySem.W.Frag) (P : Program) (w : World) (te : TE) : L2.St → Hp → Addr → (Hp → Prop) → Prop := fun σ H L Nx => te σ H fun y H4 => ∃ (xs : List (List Int × Addr × Value)) (k : List Int) (b : Addr), y = .ref b ∧ H4 L = some (DTO P w L xs) ∧ SqT K H4 b (k.map V.int) ∧
  (∀ x ∈ xs, SqT K H4 x.2.1 (x.1.map V.int)) ∧ xs.length ≤ 1000 ∧ ∀ r : Value, Nx (upd H4 L (DTO P w L (storedH xs k b r)))
theorem pe_dcT {wi : TI} {gg : TG} {tt : TT} {te : TE} (calm : X.calm = true) (hu : X.A.units + 66 < cLine) (nd : X.N.Nodup) (ok : BlkOk X.N X.env.scope scope own) (pi : PI X tg iter wi)
    (pgs : ∀ (z : Shared) (G : Hp) (C : Addr) (cl : List (Str × Addr)) (fp : List Addr), PG (X.blk z G scope (compEnvC scope cl C X.env) fp) tg gg)
    (ptt : ∀ (z : Shared) (G : Hp) (C : Addr) (cl : List (Str × Addr)) (fp : List Addr), PTs (X.blk z G scope (compEnvC scope cl C X.env) fp) ifs tt)
    (pte : ∀ (z : Shared) (G : Hp) (C : Addr) (cl : List (Str × Addr)) (fp : List Addr), PE (X.blk z G scope (compEnvC scope cl C X.env) fp) kx te)
    (pvx : ∀ (z : Shared) (G : Hp) (C : Addr) (cl : List (Str × Addr)) (fp : List Addr), PE (X.blk z G scope (compEnvC scope cl C X.env) fp) vx (tC (.bl true)))
    (hfs : ∀ x, foldedSetIterable iter X.env x = pure x := by intro _; rfl) : PE X (.DictComp kx vx [⟨tg, iter, ifs, 0⟩] scope pos) (tCc (fun L => DTO X.prog X.w L []) wi gg tt (tkDT X.K X.prog X.w te) (own.map (·.2))) := by
  refine ⟨fun pins s σ H Q I h => ?_⟩
  rw [arm_eval_DictComp]
  refine cc_core (e := .DictComp kx vx [⟨tg, iter, ifs, 0⟩] scope pos) (o0 := { cls := .type "dict", data := .dict #[] }) (newM := newDict)
    (tl := fun en L Kx Nr z => wpAny (model X.prog X.w) X.A (eval kx en) (fun u z4 => wpAny (model X.prog X.w) X.A (eval vx en) (fun r z5 => wpAny (model X.prog X.w) X.A (dictSet L u r) (fun _ z6 => Kx z6) Nr z5) Nr z4) Nr z)
    rfl (fun h => wpAny_newObj_type h) (fun G h hb => dto_new (dt0_fresh h hb)) ?_ ?_ calm nd I pi ok pgs ptt ?_ hfs h fun L C z m G I' q hn f => ⟨m, hn, fun h'' sb => ?_⟩
  · exact fun Iv turn n z hz => compLoop_anyD Iv (fun n z hz => thn (turn n z hz) fun r z1 h1 => by
      cases r with
      | none => exact h1
      | some v => exact h1) n hz
  · exact fun h1 h2 => codeAny_compStart_dict h1 h2
  · intro z G C cl fp pn σ' G' z' L Nx Kx Nr I' hk fin
    refine thnF ((pte z G C cl fp).run pn z' σ' G' _ I' hk) fun u z4 ⟨y, G4, I4, r4, xs, k, b, ey, hL, hb, hx, hz, nx⟩ => ?_
    subst ey
    have eu : u = Value.ref b := r4
    subst eu
    refine thnF ((pvx z G C cl fp).run pn z4 σ' G4 (fun _ G5 => G5 = G4) I4 rfl) fun r z5 ⟨_, G5, I5, _, e5⟩ => ?_
    subst e5
    exact d_setDT (X := X.blk z G scope (compEnvC scope cl C X.env) fp) hu I5 hL hb hx hz fun z6 I6 => fin z6 _ I6 (nx r)
  · obtain ⟨f0, f1, f2, f3, f4, f5⟩ := f
    exact ⟨.ref L, G, I'.turned (t' := z.toks) (fun b o hb e => (sb.2 b hb).trans e) f0 f1 f3 f4 f5, rfl, q⟩
end
/-! sorted of it -/
abbrev rowD (x : List Int × Addr × Value) : V × D := (V.ref x.2.1, tupD x.1)
def rSortedDT (K : PySem.W.Frag) (P : Program) (w : World) : List V → Hp → VK → Prop := fun vs H Q => ∃ (d : Addr) (xs : List (List Int × Addr × Value)), vs = [V.ref d] ∧ H d = some (DTO P w d xs) ∧ (∀ x ∈ xs, SqT K H x.2.1 (x.1.map V.int)) ∧ xs.length ≤ 1000 ∧
  alikeL ((xs.map rowD).map (·.2)) = true ∧ sortableL ((xs.map rowD).map (·.2)) = true ∧ PyData.depthAll ((xs.map rowD).map (·.2)) ≤ 64 ∧ ∀ p, H p = none → Q (.ref p) (upd H p (.lst (((xs.map rowD).mergeSort (PySem.W.dataLe false (fun b : V × D => b.2))).map (·.1))))
theorem reads_tup {h : Heap} {b : Addr} {k : List Int} {P : Program} {w : World} (x : IsT P w h k b) : Reads h (.ref b) (tupD k) [] := by
  obtain ⟨o, items, n, ho, hc, hd, hi⟩ := x
  have ra : ∀ {vs : List Value} {k : List Int}, IntsAre vs k → ReadsAll h vs (k.map PyData.int) [] := by
    intro vs k hh
    induction hh with
    | nil => exact ReadsAll.nil
    | cons n t _ ih => exact ReadsAll.cons (as := []) (bs := []) (Reads.int n t) ih
  exact Reads.tuple ho hc hd (ra (ints_of_items hi))
theorem each_rows {h : Heap} {P : Program} {w : World} {L : Addr} : ∀ {xs : List (List Int × Addr × Value)}, (∀ x ∈ xs, IsT P w h x.1 x.2.1) → PySem.W.EachIs (fun (v : Value) (b : V × D) => ∃ as, Reads h v b.2 as ∧ L ∉ as) (xs.map fun x => Value.ref x.2.1) (xs.map rowD)
  | [], _ => .nil
  | x :: r, hx => .cons ⟨[], reads_tup (hx x List.mem_cons_self), List.not_mem_nil⟩ (each_rows fun y hy => hx y (List.mem_cons_of_mem _ hy))
theorem each_rel : ∀ (xs : List (List Int × Addr × Value)), PySem.W.EachIs (fun (u : Value) (b : V × D) => RelV b.1 u) (xs.map fun x => Value.ref x.2.1) (xs.map rowD)
  | [] => .nil
  | x :: r => .cons rfl (each_rel r)
theorem cr_sortedDT {X : Cx} (hc : X.calm = true) (hu : X.A.units + 66 < cLine) : CallR X (.builtin "sorted") (rSortedDT X.K X.prog X.w) := by
  intro pins s σ H vs us Q I r h
  obtain ⟨d, xs, rfl, hd, hx, hl, h1, h2, h3, q⟩ := h
  rw [Vals.ref1 r]
  have R : DictT0 X.prog X.w s.heap d xs := (I.hok d _ hd).1
  obtain ⟨lo, o, es, ep, ho, ex, hdt, he, hn⟩ := R
  have hsz : es.size = xs.length := size_of_entries he
  have zl : (1000 : Nat) ≤ sizeLine := Nat.le_of_lt (small1000 (Nat.le_refl 1000))
  refine Calls.call_function_entry kind_sorted plain_sorted entry_sorted (args_sorted1 _) ?_
  unfold Builtin.«sorted»
  refine wpAny_bind (m := checkCount "sorted" 1 1 _) (wpAny_pure ?_)
  refine wpAny_bind (PySem.W.kdu_collect (A := X.A.in1) (kdl_raw lo ex hdt) (I.ok.hd hc) ho (by rw [hsz]; exact Nat.le_trans hl zl) fun h' tk acc hk hacc => ?_)
  have ea : acc.toList = xs.map fun x => Value.ref x.2.1 := by
    have hlen : acc.toList.length = xs.length := by rw [Array.length_toList, hacc.1]; exact hsz
    apply List.ext_getElem?
    intro j
    rw [List.getElem?_map]
    cases hj : acc.toList[j]? with
    | none =>
      have k1 := List.getElem?_eq_none_iff.mp hj
      rw [List.getElem?_eq_none (by omega)]
      rfl
    | some v =>
      obtain ⟨en, hen, hv⟩ := hacc.2 j v (by rw [← Array.getElem?_toList]; exact hj)
      have qe := entry_at he j
      rw [hen] at qe
      cases hb : xs[j]? with
      | none =>
        rw [hb] at qe
        cases qe
      | some b =>
        rw [hb] at qe
        have e2 : en = entryOfKey (TK X.prog X.w) b := Option.some.inj qe
        rw [hv, e2]
        rfl
  rw [ea]
  have lv : (xs.map fun x => Value.ref x.2.1).length = xs.length := List.length_map ..
  refine wpAny_bind (wpAny_newList ?_ (by rw [lv]; exact Nat.le_trans hl zl))
  have hoL : (h'.push (seqObj "list" (xs.map fun x => Value.ref x.2.1).toArray 0)).get? h'.objs.size = some (seqObj "list" (xs.map fun x => Value.ref x.2.1).toArray 0) := Heap.get?_push_size _ rfl
  have kp : ∀ b u, s.heap.get? b = some u → (h'.push (seqObj "list" (xs.map fun x => Value.ref x.2.1).toArray 0)).get? b = some u := fun b u e => Heap.get?_push_of_some _ (hk b u e)
  refine wpAny_bind (wpAny_holding (PySem.W.list_sort_data (A := X.A.in1) (s := { s with heap := h'.push (seqObj "list" (xs.map fun x => Value.ref x.2.1).toArray 0), toks := tk }) (R := fun (u : Value) (b : V × D) => RelV b.1 u) (enc := fun b : V × D => b.2) (bs := xs.map rowD) hoL (each_rel xs)
    (each_rows fun x hm => isT_keep (I.isT (hx x hm)) kp) (alikeL_ok h1) (sortableL_ok h2) (by rw [List.length_map]; exact Nat.le_trans hl zl) (fun b hb => ?_) fun out ho eo => ?_))
  · have : b.2 ∈ (xs.map rowD).map (·.2) := List.mem_map_of_mem hb
    have := depth_mem this
    show X.A.units + 1 + 1 + b.2.depth < cLine
    omega
  · obtain ⟨c, hc2⟩ := sortedHeap_at (vs := xs.map fun x => Value.ref x.2.1) (out := out.toArray) hoL
    have v2 := each_vals eo
    have hlen := v2.length
    have l3 : out.length ≤ sizeLine := by rw [ho, List.length_map]; exact Nat.le_trans hl zl
    have g0 : s.heap.get? h'.objs.size = none := by
      cases z : s.heap.get? h'.objs.size with
      | none => rfl
      | some u => exact absurd (Heap.lt_size (hk _ _ z)) (Nat.lt_irrefl _)
    have hn := I.hok.gone g0
    have new : ObjOk X.prog X.w (upd H h'.objs.size (.lst (((xs.map rowD).mergeSort (PySem.W.dataLe false (fun b : V × D => b.2))).map (·.1)))) (sortedHeap (h'.push (seqObj "list" (xs.map fun x => Value.ref x.2.1).toArray 0)) h'.objs.size (xs.map fun x => Value.ref x.2.1) out.toArray) h'.objs.size (.lst (((xs.map rowD).mergeSort (PySem.W.dataLe false (fun b : V × D => b.2))).map (·.1))) :=
      ⟨by rw [hlen]; exact l3, out, c, v2, hc2⟩
    refine wpAny_pure ⟨_, rfl, .ref h'.objs.size, _, I.laidN (t' := tk) (fun b u e => ?_) g0 hn new, rfl, q _ hn⟩
    have e1 := hk b u e
    have hlt := Heap.lt_size e1
    show (sortedHeap (h'.push (seqObj "list" (xs.map fun x => Value.ref x.2.1).toArray 0)) h'.objs.size (xs.map fun x => Value.ref x.2.1) out.toArray).get? b = some u
    rw [sortedHeap_old (Nat.ne_of_lt hlt) (by rw [size_push']; exact Nat.lt_succ_of_lt hlt)]
    exact Heap.get?_push_of_some _ e1
end PV

set_option Elab.async false
set_option linter.all false
set_option maxRecDepth 100000
namespace PV
open PySem PySem.Spec L2 PyProof.Rows
set_option autoImplicit false
def DictP (K : PySem.W.Frag) (P : Program) (w : World) (L : Addr) : Hp → HO → List D → Prop := fun Z o acc => ∃ (xs : List (List Int × Addr × Value)) (nss : List (List Int)), acc = nss.map tupD ∧ o = DTO P w L xs ∧ xs.map (·.1) = firsts nss ∧ ∀ x ∈ xs, SqT K Z x.2.1 (x.1.map V.int)
theorem atKey_mem {α : Type} [DecidableEq α] {xs : List (α × Addr × Value)} {k : α} : (atKey xs k).isSome = true ↔ k ∈ xs.map (·.1) := by
  unfold atKey
  rw [Option.isSome_map, List.find?_isSome, List.mem_map]
  constructor
  · rintro ⟨x, hx, e⟩
    exact ⟨x, hx, of_decide_eq_true e⟩
  · rintro ⟨x, hx, e⟩
    exact ⟨x, hx, decide_eq_true e⟩
theorem storedH_keys {xs : List (List Int × Addr × Value)} {k : List Int} {b : Addr} {r : Value} : (storedH xs k b r).map (·.1) = if k ∈ xs.map (·.1) then xs.map (·.1) else xs.map (·.1) ++ [k] := by
  unfold storedH
  by_cases c : (atKey xs k).isSome = true
  · rw [if_pos c, if_pos (atKey_mem.mp c), List.map_map]
    refine List.map_congr_left fun x _ => ?_
    show (putAt k r x).1 = x.1
    unfold putAt
    split <;> rfl
  · rw [if_neg c, if_neg (fun h => c (atKey_mem.mpr h)), List.map_append]
    rfl
theorem storedH_sq {K : PySem.W.Frag} {Z : Hp} {xs : List (List Int × Addr × Value)} {k : List Int} {b : Addr} {r : Value} (hb : SqT K Z b (k.map V.int)) (hx : ∀ x ∈ xs, SqT K Z x.2.1 (x.1.map V.int)) : ∀ x ∈ storedH xs k b r, SqT K Z x.2.1 (x.1.map V.int) := by
  intro x h
  unfold storedH at h
  split at h
  · obtain ⟨y, hy, rfl⟩ := List.mem_map.mp h
    have := hx y hy
    unfold putAt
    split
    · exact this
    · exact this
  · rcases List.mem_append.mp h with h | h
    · exact hx x h
    · rw [List.mem_singleton] at h
      subst h
      exact hb
theorem firsts_len (l : List (List Int)) : (firsts l).length ≤ l.length := by
  have : ∀ (l acc : List (List Int)), (l.foldl (fun acc k => if k ∈ acc then acc else acc ++ [k]) acc).length ≤ acc.length + l.length := fun l => by
    induction l with
    | nil => intro acc; exact Nat.le_refl _
    | cons x r ih =>
      intro acc
      rw [List.foldl_cons]
      refine Nat.le_trans (ih _) ?_
      rw [List.length_cons]
      split
      · omega
      · rw [List.length_append, List.length_singleton]; omega
  have := this l []
  rw [List.length_nil, Nat.zero_add] at this
  exact this
theorem dp_tup {K : PySem.W.Frag} {Z : Hp} {v : V} {k : List Int} (h : Dp K Z v (tupD k)) : ∃ b, v = .ref b ∧ SqT K Z b (k.map V.int) := by
  have flat : ∀ {vs : List V} {k : List Int}, DpAll K Z vs (k.map PyData.int) → vs = k.map V.int := fun {vs k} => by
    induction k generalizing vs with
    | nil => intro h; cases h; rfl
    | cons x r ih =>
      intro h
      cases h with
      | cons h1 h2 =>
        cases h1
        rw [ih h2]
        rfl
  cases h with
  | tup h1 h2 =>
    rw [flat h2] at h1
    exact ⟨_, rfl, h1⟩
theorem tupD_inj {a b : List Int} (h : tupD a = tupD b) : a = b := by
  have h' := (PyData.tuple.injEq _ _).mp h
  exact (List.map_inj_right fun a b h => PyData.int.inj h).mp h'
def eSortedDict (fi : Env → Res (List D)) (own : List Nat) (g : Tg) (c : Env → Res Bool) (fe : Env → Res D) : Env → Res RV := fun env => (fi env).bind fun ds => (compL g c fe (clr own env) ds).bind fun ys => match asTups ys with
  | some nss => if nss.length ≤ 1000 then gSorted [.list ((firsts nss).map tupD)] else .bad
  | none => .bad
section
variable {X : Cx} {kx vx tg iter : Expr} {ifs : List Expr} {scope : Scope} {own : List (Str × Nat)} {pos : Pos} {fi : Env → Res (List D)} {g : Tg} {c : Env → Res Bool} {fe : Env → Res D}
theorem V_sortedDict (hu : X.A.units + 66 < cLine) (m : X.mg "sorted" = none) (calm : X.calm = true) (nd : X.N.Nodup) (ok : BlkOk X.N X.env.scope scope own) (hi : PI X tg iter (tIp X.K fi))
    (pgs : ∀ (z : Shared) (G : Hp) (C : Addr) (cl : List (Str × Addr)) (fp : List Addr), PG (X.blk z G scope (compEnvC scope cl C X.env) fp) tg (tG X.K g))
    (ptt : ∀ (z : Shared) (G : Hp) (C : Addr) (cl : List (Str × Addr)) (fp : List Addr), PTs (X.blk z G scope (compEnvC scope cl C X.env) fp) ifs (tT X.K c))
    (pte : ∀ (z : Shared) (G : Hp) (C : Addr) (cl : List (Str × Addr)) (fp : List Addr), PE (X.blk z G scope (compEnvC scope cl C X.env) fp) kx (tE X.K fe))
    (pvx : ∀ (z : Shared) (G : Hp) (C : Addr) (cl : List (Str × Addr)) (fp : List Addr), PE (X.blk z G scope (compEnvC scope cl C X.env) fp) vx (tC (.bl true)))
    {p pos2 : Pos} (hix : ∀ j ∈ g.ix, j ∈ own.map (·.2) := by decide) (hg : Gl X "sorted" := by rfl) (hfs : ∀ x, foldedSetIterable iter X.env x = pure x := by intro _; rfl)
    (he : starEach [.DictComp kx vx [⟨tg, iter, ifs, 0⟩] scope pos] X.env = (false, eval (.DictComp kx vx [⟨tg, iter, ifs, 0⟩] scope pos) X.env) :: starEach [] X.env := by rfl) (hpl : (backTo pos2 (starEach [] X.env)).any (·.1) = false := by rfl) :
    PE X (.Call (.Name "sorted" p) [.DictComp kx vx [⟨tg, iter, ifs, 0⟩] scope pos] [] pos2) (tV X.K (eSortedDict fi (own.map (·.2)) g c fe)) := by
  refine pe_mono (pe_callB (cr_sortedDT calm hu) hg m PyProof.Rows.boot_sorted (pa_cons (pe_dcT calm hu nd ok hi pgs ptt pte pvx hfs) pa_nil he) (by decide) (by decide) he hpl) fun σ H Q ⟨H0, Z0, Z, env, r, hE, hf, q⟩ => ?_
  obtain ⟨ds, k1, k2⟩ := Res.bind_eq hf
  obtain ⟨out, k3, k4⟩ := Res.bind_eq k2
  cases ka : asTups out with
  | none => rw [ka] at k4; cases k4
  | some nss =>
    rw [ka] at k4
    obtain ⟨k5, k6⟩ := ite_ok k4
    have eo := asTups_eq ka
    subst eo
    unfold gSorted at k6
    obtain ⟨⟨c1, c2, c3⟩, k6⟩ := ite_ok k6
    cases k6
    refine ⟨H0, Z0, Z, env, ds, hE, k1, fun J H1 Z1 e1 hJ L hL => ?_⟩
    have hE1 := hE.ext e1
    have hEw := hE1.wiped (own.map (·.2))
    have zL := e1.zh.free hL
    have h0 := hE1.s0.free hL
    have m1 : Ext Z1 H1 Z1 (upd H1 L (DTO X.prog X.w L [])) := .made e1.zh hL
    refine loop_redZ (Pd := DictP X.K X.prog X.w L) (Za := Z1) (Ha := H1) (pre := []) (fun _ _ _ _ h => h) (fun _ _ _ h => h) ?_ (fun Z Z' o acc sm ⟨xs, ms, b1, b2, b3, b4⟩ => ⟨xs, ms, b1, b2, b3, fun x hx => seqT sm (b4 x hx)⟩) hix (hEw.ext m1) (notOwn hEw hL) hJ (Same.refl _) (fun Z2 H2 acc _ hA => hA.ext.hh) hL h0
      ⟨m1, _, upd_same, zL, [], [], rfl, rfl, rfl, fun x hx => nomatch hx⟩ k3 ?_
    · rintro σ3 H3 Nx ⟨G0, Y0, Y, ev, y, hY, hy, qy⟩
      refine ⟨G0, Y0, Y, ev, y, hY, hy, fun v H' Z' e' hd => ?_⟩
      obtain ⟨o, acc, y2, Z9, sm, a1, a2, a3, a4, a5⟩ := qy v H' Z' e' hd
      obtain ⟨rest, hr⟩ := a3
      obtain ⟨xs, ms, rfl, rfl, b3, b4⟩ := a2
      obtain ⟨k, hk⟩ : ∃ k : List Int, y2 = tupD k := by
        have : y2 ∈ [] ++ nss.map tupD := by rw [← hr]; simp
        rw [List.nil_append] at this
        obtain ⟨k, _, e⟩ := List.mem_map.mp this
        exact ⟨k, e.symm⟩
      subst hk
      obtain ⟨b, rfl, hb⟩ := dp_tup a4
      have hlen : ms.length + 1 ≤ nss.length := by
        have := congrArg List.length hr
        simp at this; omega
      have hxl : xs.length ≤ 1000 := by
        have z := congrArg List.length b3
        rw [List.length_map] at z
        have := firsts_len ms
        omega
      refine ⟨xs, k, b, rfl, a1, seqT sm hb, fun x hx => seqT sm (b4 x hx), hxl, fun r => a5 _ ⟨storedH xs k b r, ms ++ [k], by rw [List.map_append]; rfl, rfl, ?_, storedH_sq hb b4⟩⟩
      rw [storedH_keys, b3, firsts_snoc]
    · intro Z2 H2 _ hA
      obtain ⟨o, a1, a2, xs, ms, b1, rfl, b3, b4⟩ := hA.at_
      have e2 : ms = nss := by
        rw [List.nil_append] at b1
        exact ((List.map_inj_right fun a b h => tupD_inj h).mp b1).symm
      subst e2
      have eds : (xs.map rowD).map (·.2) = (firsts ms).map tupD := by
        rw [← b3, List.map_map, List.map_map]; rfl
      have hxl : xs.length ≤ 1000 := by
        have z := congrArg List.length b3
        rw [List.length_map] at z
        have := firsts_len ms
        omega
      refine ⟨L, xs, rfl, a1, fun x hx => seqT hA.ext.zh (b4 x hx), hxl, by rw [eds]; exact c1, by rw [eds]; exact c2, by rw [eds]; exact c3, fun p c4 => ?_⟩
      have zp := hA.ext.zh.free c4
      refine q _ _ Z2 ((e1.trans hA.ext).trans (.made hA.ext.zh c4)) ⟨p, _, _, rfl, rfl, (e1.hh.trans hA.ext.hh).free c4, zp, upd_same, ?_⟩
      have e3 : ((firsts ms).map tupD).mergeSort leD = ((xs.map rowD).mergeSort (PySem.W.dataLe false (fun b : V × D => b.2))).map (·.2) := by
        have z := List.map_mergeSort (r := PySem.W.dataLe false (fun b : V × D => b.2)) (s := leD) (f := fun b : V × D => b.2) (l := xs.map rowD) (fun _ _ _ _ => rfl)
        rw [eds] at z
        exact z.symm
      rw [e3]
      refine dps_of_zip fun b hb => ?_
      obtain ⟨x, hx, rfl⟩ := List.mem_map.mp ((List.mergeSort_perm _ _).mem_iff.mp hb)
      exact .tup (b4 x hx) (ints_dps _)
@[simp] theorem eSortedDict_ev (fi : Env → Res (List D)) (own : List Nat) (g : Tg) (c : Env → Res Bool) (fe : Env → Res D) (env : Env) : eSortedDict fi own g c fe env = (fi env).bind fun ds => (compL g c fe (clr own env) ds).bind fun ys => match asTups ys with
  | some nss => if nss.length ≤ 1000 then gSorted [.list ((firsts nss).map tupD)] else .bad
  | none => .bad := Eq.trans rfl rfl
end
end PV

set_option Elab.async false
set_option linter.all false
set_option maxRecDepth 100000
/-! ### sorted(set(xs)), xs a list of pairs of ints -/
namespace PV
open PySem PySem.Spec L2 PyProof.Rows
set_option autoImplicit false
def dp2 (p : Int × Int) : D := .tuple [.int p.1, .int p.2]
def ltQ (a b : Int × Int) : Bool := if a.1 = b.1 then decide (a.2 < b.2) else decide (a.1 < b.1)
def leQ (a b : Int × Int) : Bool := !ltQ b a
theorem leD_dp2 (a b : Int × Int) : leD (dp2 a) (dp2 b) = leQ a b := by
  have h : PySem.W.dataLt (dp2 b) (dp2 a) = ltQ b a := PySem.W.DatumOrd.lt_eq (α := Int × Int) b a
  simp only [leD, PySem.W.dataLe_eq, leQ, ← h]
  rfl
theorem lin_leQ : LinB leQ := by
  refine ⟨fun a b => ?_, fun a b c h1 h2 => ?_, fun a b h1 h2 => ?_⟩
  · simp only [leQ, ltQ]
    split <;> split <;> simp <;> omega
  · simp only [leQ, ltQ, Bool.not_eq_true'] at *
    split at h1 <;> split at h2 <;> split <;> simp at * <;> omega
  · simp only [leQ, ltQ, Bool.not_eq_true'] at *
    split at h1 <;> split at h2 <;> simp at * <;> first | (apply Prod.ext <;> omega) | omega
theorem sort_dp2 (l : List (Int × Int)) : (l.map dp2).mergeSort leD = (l.mergeSort leQ).map dp2 := (List.map_mergeSort fun a _ b _ => (leD_dp2 a b).symm).symm
/-- a list of pairs -/
def pr2 : List Int → Int × Int
  | [x, y] => (x, y)
  | _ => (0, 0)
theorem pr2_eq {k : List Int} (h : k.length = 2) : tupD k = dp2 (pr2 k) := by
  match k, h with
  | [x, y], _ => rfl
theorem tup_pairs {l : List (List Int)} (h : ∀ k ∈ l, k.length = 2) : l.map tupD = (l.map pr2).map dp2 := by
  rw [List.map_map]
  exact List.map_congr_left fun k hk => pr2_eq (h k hk)
theorem sort_tup_perm {l m : List (List Int)} (h : l.Perm m) (hl : ∀ k ∈ m, k.length = 2) : (l.map tupD).mergeSort leD = (m.map tupD).mergeSort leD := by
  rw [tup_pairs hl, tup_pairs (fun k hk => hl k (h.mem_iff.mp hk)), sort_dp2, sort_dp2, sort_perm_eq lin_leQ (h.map pr2)]
theorem mem_firsts {k : List Int} : ∀ {l : List (List Int)}, k ∈ firsts l ↔ k ∈ l := by
  have : ∀ (l acc : List (List Int)), k ∈ l.foldl (fun acc k => if k ∈ acc then acc else acc ++ [k]) acc ↔ k ∈ acc ∨ k ∈ l := fun l => by
    induction l with
    | nil => intro acc; simp
    | cons x r ih =>
      intro acc
      rw [List.foldl_cons, ih, List.mem_cons]
      split
      · rename_i h
        constructor
        · rintro (a | a)
          · exact .inl a
          · exact .inr (.inr a)
        · rintro (a | rfl | a)
          · exact .inl a
          · exact .inl h
          · exact .inr a
      · rw [List.mem_append, List.mem_singleton]
        constructor
        · rintro ((a | a) | a)
          · exact .inl a
          · exact .inr (.inl a)
          · exact .inr (.inr a)
        · rintro (a | a | a)
          · exact .inl (.inl a)
          · exact .inl (.inr a)
          · exact .inr a
  intro l
  unfold firsts
  rw [this]
  simp
theorem firsts_nodup (l : List (List Int)) : (firsts l).Nodup := by
  have : ∀ (l acc : List (List Int)), acc.Nodup → (l.foldl (fun acc k => if k ∈ acc then acc else acc ++ [k]) acc).Nodup := fun l => by
    induction l with
    | nil => intro acc h; exact h
    | cons x r ih =>
      intro acc h
      rw [List.foldl_cons]
      refine ih _ ?_
      split
      · exact h
      · rename_i hn
        rw [List.nodup_append]
        refine ⟨h, by simp, fun a ha b hb e => ?_⟩
        rw [List.mem_singleton] at hb
        subst hb e
        exact hn ha
  exact this l [] List.nodup_nil
abbrev rowS (x : Addr × List Int) : V × D := (V.ref x.1, tupD x.2)
def rSortedST (K : PySem.W.Frag) (P : Program) (w : World) : List V → Hp → VK → Prop := fun vs H Q => ∃ (a : Addr) (L : List (Addr × List Int)), vs = [V.ref a] ∧ H a = some (SetTO P w a L) ∧ (∀ x ∈ L, SqT K H x.1 (x.2.map V.int)) ∧ (∀ x ∈ L, x.2.length = 2) ∧
  ∀ p (L1 : List (Addr × List Int)), H p = none → L1.Perm L → (L.map (·.2)).Nodup → Q (.ref p) (upd H p (.lst (((L1.map rowS).mergeSort (PySem.W.dataLe false (fun b : V × D => b.2))).map (·.1))))
theorem each_rowsS {h : Heap} {P : Program} {w : World} {L : Addr} : ∀ {xs : List (Addr × List Int)}, (∀ x ∈ xs, IsT P w h x.2 x.1) → PySem.W.EachIs (fun (v : Value) (b : V × D) => ∃ as, Reads h v b.2 as ∧ L ∉ as) (xs.map fun x => Value.ref x.1) (xs.map rowS)
  | [], _ => .nil
  | x :: r, hx => .cons ⟨[], reads_tup (hx x List.mem_cons_self), List.not_mem_nil⟩ (each_rowsS fun y hy => hx y (List.mem_cons_of_mem _ hy))
theorem each_relS : ∀ (xs : List (Addr × List Int)), PySem.W.EachIs (fun (u : Value) (b : V × D) => RelV b.1 u) (xs.map fun x => Value.ref x.1) (xs.map rowS)
  | [] => .nil
  | x :: r => .cons rfl (each_relS r)
theorem nodup_map {α β : Type} (f : α → β) : ∀ {l : List α}, (l.map f).Nodup → l.Nodup
  | [], _ => List.nodup_nil
  | x :: r, h => by
    rw [List.map_cons, List.nodup_cons] at h
    exact List.nodup_cons.mpr ⟨fun k => h.1 (List.mem_map.mpr ⟨x, k, rfl⟩), nodup_map f h.2⟩
theorem perm_rows {α β : Type} (f : α → β) : ∀ {vs : List β} {L : List α}, vs.Perm (L.map f) → ∃ L1 : List α, vs = L1.map f ∧ L1.Perm L := fun {vs L} h => by
  generalize hm : L.map f = m at h
  induction h generalizing L with
  | nil =>
    cases L with
    | nil => exact ⟨[], rfl, List.Perm.nil⟩
    | cons x r => cases hm
  | cons a h1 ih =>
    cases L with
    | nil => cases hm
    | cons x r =>
      rw [List.map_cons] at hm
      injection hm with e1 e2
      obtain ⟨L1, k1, k2⟩ := ih e2
      exact ⟨x :: L1, by rw [List.map_cons, e1, k1], k2.cons x⟩
  | swap a b l =>
    cases L with
    | nil => cases hm
    | cons x r =>
      cases r with
      | nil => injection hm with _ e; cases e
      | cons y r =>
        rw [List.map_cons, List.map_cons] at hm
        injection hm with e1 e2
        injection e2 with e2 e3
        exact ⟨y :: x :: r, by rw [List.map_cons, List.map_cons, e1, e2, e3], List.Perm.swap x y r⟩
  | trans h1 h2 ih1 ih2 =>
    obtain ⟨L1, k1, k2⟩ := ih2 hm
    obtain ⟨L2, k3, k4⟩ := ih1 k1.symm
    exact ⟨L2, k3, k4.trans k2⟩
theorem cr_sortedST {X : Cx} (hc : X.calm = true) (hu : X.A.units + 66 < cLine) : CallR X (.builtin "sorted") (rSortedST X.K X.prog X.w) := by
  intro pins s σ H vs us Q I r h
  obtain ⟨a, L, rfl, ha, hx, h2, q⟩ := h
  rw [Vals.ref1 r]
  have R0 : SetT0 X.prog X.w s.heap a L := (I.hok a _ ha).1
  obtain ⟨es, ep, t, R⟩ := R0.full fun p hp => I.isT (hx p hp)
  obtain ⟨o, ho, hex, hd⟩ := R.ob
  have hsz := R.size
  have hfew := R.few
  refine Calls.call_function_entry kind_sorted plain_sorted entry_sorted (args_sorted1 _) ?_
  unfold Builtin.«sorted»
  refine wpAny_bind (m := checkCount "sorted" 1 1 _) (wpAny_pure ?_)
  refine wpAny_bind (collect_set (A := X.A.in1) (I.ok.hd hc) ⟨o, ho, hex.1, hd⟩ R.fits (by unfold scanBound; omega) R.tab.ris R.led fun s1 ws k1 hz g1 o1 pm => ?_)
  have hes : es.toList.map (·.2) = L.map fun x => Value.ref x.1 := by
    rw [R.rows]
    unfold rowsOf
    rw [List.map_map]
    rfl
  rw [hes] at pm
  obtain ⟨L1, e1, p1⟩ := perm_rows (fun x : Addr × List Int => Value.ref x.1) pm
  subst e1
  have zl : L1.length ≤ sizeLine := by rw [p1.length_eq]; exact Nat.le_of_lt (small1000 (by omega))
  refine wpAny_bind (wpAny_newList ?_ (by rw [List.length_map]; exact zl))
  have hoL : (s1.heap.push (seqObj "list" (L1.map fun x => Value.ref x.1).toArray 0)).get? s1.heap.objs.size = some (seqObj "list" (L1.map fun x => Value.ref x.1).toArray 0) := Heap.get?_push_size _ rfl
  have kp : ∀ b u, s.heap.get? b = some u → (s1.heap.push (seqObj "list" (L1.map fun x => Value.ref x.1).toArray 0)).get? b = some u := fun b u e => Heap.get?_push_of_some _ (k1 b u e)
  have e2 : (L1.map rowS).map (·.2) = (L1.map (·.2)).map tupD := by rw [List.map_map, List.map_map]; rfl
  have len2 : ∀ k ∈ L1.map (·.2), k.length = 2 := fun k hk => by
    obtain ⟨x, hm, rfl⟩ := List.mem_map.mp hk
    exact h2 x (p1.mem_iff.mp hm)
  have h1 : alikeL ((L1.map rowS).map (·.2)) = true := by
    rw [e2, tup_pairs len2]
    exact alikeL_maps (fun x y => PySem.W.DatumOrd.alike (α := Int × Int) x y) _
  have h3 : sortableL ((L1.map rowS).map (·.2)) = true := by
    rw [e2, tup_pairs len2]
    unfold sortableL
    simp only [List.all_map, Bool.or_eq_true, List.all_eq_true, Function.comp]
    exact .inl fun x _ => rfl
  refine wpAny_bind (wpAny_holding (PySem.W.list_sort_data (A := X.A.in1) (s := { s1 with heap := s1.heap.push (seqObj "list" (L1.map fun x => Value.ref x.1).toArray 0) }) (R := fun (u : Value) (b : V × D) => RelV b.1 u) (enc := fun b : V × D => b.2) (bs := L1.map rowS) hoL (each_relS L1)
    (each_rowsS fun x hm => isT_keep (I.isT (hx x (p1.mem_iff.mp hm))) kp) (alikeL_ok h1) (sortableL_ok h3) (by rw [List.length_map]; exact zl) (fun b hb => ?_) fun out hout eo => ?_))
  · obtain ⟨x, hm, rfl⟩ := List.mem_map.mp hb
    have : (tupD x.2).depth ≤ 2 := by
      rw [pr2_eq (h2 x (p1.mem_iff.mp hm))]
      unfold dp2
      simp [PyData.depth, PyData.depthAll]
    show X.A.units + 1 + 1 + (tupD x.2).depth < cLine
    omega
  · obtain ⟨c, hc2⟩ := sortedHeap_at (vs := L1.map fun x => Value.ref x.1) (out := out.toArray) hoL
    have v2 := each_vals eo
    have hlen := v2.length
    have l3 : out.length ≤ sizeLine := by rw [hout, List.length_map]; exact zl
    have g0 : s.heap.get? s1.heap.objs.size = none := by
      cases z : s.heap.get? s1.heap.objs.size with
      | none => rfl
      | some u => exact absurd (Heap.lt_size (k1 _ _ z)) (Nat.lt_irrefl _)
    have hn := I.hok.gone g0
    have new : ObjOk X.prog X.w (upd H s1.heap.objs.size (.lst (((L1.map rowS).mergeSort (PySem.W.dataLe false (fun b : V × D => b.2))).map (·.1)))) (sortedHeap (s1.heap.push (seqObj "list" (L1.map fun x => Value.ref x.1).toArray 0)) s1.heap.objs.size (L1.map fun x => Value.ref x.1) out.toArray) s1.heap.objs.size (.lst (((L1.map rowS).mergeSort (PySem.W.dataLe false (fun b : V × D => b.2))).map (·.1))) :=
      ⟨by rw [hlen]; exact l3, out, c, v2, hc2⟩
    have kk : ∀ b u, s.heap.get? b = some u → (sortedHeap (s1.heap.push (seqObj "list" (L1.map fun x => Value.ref x.1).toArray 0)) s1.heap.objs.size (L1.map fun x => Value.ref x.1) out.toArray).get? b = some u := fun b u e => by
      have e1 := k1 b u e
      have hlt := Heap.lt_size e1
      rw [sortedHeap_old (Nat.ne_of_lt hlt) (by rw [size_push']; exact Nat.lt_succ_of_lt hlt)]
      exact Heap.get?_push_of_some _ e1
    have J : Inv X pins σ (upd H s1.heap.objs.size (.lst (((L1.map rowS).mergeSort (PySem.W.dataLe false (fun b : V × D => b.2))).map (·.1)))) { s with heap := sortedHeap (s1.heap.push (seqObj "list" (L1.map fun x => Value.ref x.1).toArray 0)) s1.heap.objs.size (L1.map fun x => Value.ref x.1) out.toArray, gens := s1.gens, drawn := s1.drawn, toks := s1.toks } :=
      I.call (ch := []) (Un.laid kk hz hn) (I.hok.laid kk hz new) (by rw [g1]; exact I.bare) (fun _ z => nomatch z)
    have es1 : ({ s1 with heap := sortedHeap (s1.heap.push (seqObj "list" (L1.map fun x => Value.ref x.1).toArray 0)) s1.heap.objs.size (L1.map fun x => Value.ref x.1) out.toArray } : Shared) = { s with heap := sortedHeap (s1.heap.push (seqObj "list" (L1.map fun x => Value.ref x.1).toArray 0)) s1.heap.objs.size (L1.map fun x => Value.ref x.1) out.toArray, gens := s1.gens, drawn := s1.drawn, toks := s1.toks } := by
      cases s1
      cases s
      cases o1
      rfl
    refine wpAny_pure ⟨_, rfl, ?_⟩
    show EP X pins σ Q (.ref s1.heap.objs.size) { s1 with heap := _ }
    rw [es1]
    exact ⟨.ref s1.heap.objs.size, _, J, rfl, q _ L1 hn p1 R.nd⟩
end PV

set_option Elab.async false
set_option linter.all false
set_option maxRecDepth 100000
namespace PV
open PySem PySem.Spec L2 PyProof.Rows
set_option autoImplicit false
def gSortedSet : D → Res RV
  | .list ds => match asTups ds with
    | some nss => if nss.length < 64 ∧ (nss.all fun k => decide (k.length = 2)) = true then gSorted [.list ((firsts nss).map tupD)] else .bad
    | none => .bad
  | _ => .bad
section
variable {X : Cx} {a : Expr} {p p2 q pos : Pos} {fa : Env → Res D}
theorem V_sortedSetL (m1 : X.mg "sorted" = none) (m2 : X.mg "set" = none) (hu : X.A.units + 66 < cLine) (ha : PE X a (tP X.K fa)) (hc : X.calm = true := by rfl) (hg : Gl X "sorted" := by rfl) (hg2 : Gl X "set" := by rfl)
    (na : starEach [.Call (.Name "set" p2) [a] [] q] X.env = (false, eval (.Call (.Name "set" p2) [a] [] q) X.env) :: starEach [] X.env := by rfl) (na2 : starEach [a] X.env = (false, eval a X.env) :: starEach [] X.env := by rfl)
    (hpl : (backTo pos (starEach [] X.env)).any (·.1) = false := by rfl) (hpl2 : (backTo q (starEach [] X.env)).any (·.1) = false := by rfl) :
    PE X (.Call (.Name "sorted" p) [.Call (.Name "set" p2) [a] [] q] [] pos) (tV X.K (eOp1 gSortedSet fa)) := by
  refine pe_mono (pe_callB (cr_sortedST hc hu) hg m1 PyProof.Rows.boot_sorted (pa_cons (pe_callTy (cr_setOfT hc (by omega)) hg2 m2 (by decide +kernel) (pa_cons ha pa_nil na2) (by decide) (by decide) na2 hpl2) pa_nil na) (by decide) (by decide) na hpl) fun σ H Q ⟨H0, Z0, Z, env, r, hE, hf, k⟩ => ?_
  obtain ⟨d, h1, h2⟩ := Res.bind_eq hf
  unfold gSortedSet at h2
  split at h2
  · rename_i ds
    split at h2
    · rename_i nss hk
      obtain ⟨⟨b1, b2⟩, h2⟩ := ite_ok h2
      unfold gSorted at h2
      obtain ⟨_, h2⟩ := ite_ok h2
      cases h2
      have two : ∀ k ∈ nss, k.length = 2 := fun k hk => of_decide_eq_true (List.all_eq_true.mp b2 k hk)
      refine ⟨H0, Z0, Z, env, _, hE, h1, fun v H1 Z1 e1 d1 => ?_⟩
      obtain ⟨l, vs, rfl, g1, g2⟩ := d1.list e1.zh
      obtain ⟨ks, q1, q2, q3⟩ := tups_of g2 hk
      have lk : ks.length = nss.length := by rw [← q2, List.length_map]
      refine ⟨l, ks, rfl, by rw [← q1]; exact g1, fun p hp => seqT e1.zh (q3 p hp), by omega, fun b L hb s1 s2 => ?_⟩
      have zb := e1.zh.free hb
      have m1 : Ext Z1 H1 Z1 (upd H1 b (SetTO X.prog X.w b L)) := .made e1.zh hb
      refine ⟨b, L, rfl, upd_same, fun x hx => seqT m1.zh (q3 x (s1 x hx)), fun x hx => ?_, fun p L1 hp pm nd => ?_⟩
      · refine two _ ?_
        rw [← q2]
        exact List.mem_map.mpr ⟨x, s1 x hx, rfl⟩
      · have zp := m1.zh.free hp
        have pmf : (L1.map (·.2)).Perm (firsts nss) := by
          refine (List.perm_ext_iff_of_nodup ((pm.map (·.2)).nodup_iff.mpr nd) (firsts_nodup nss)).mpr fun z => ?_
          rw [mem_firsts, (pm.map (·.2)).mem_iff, ← q2]
          constructor
          · intro h
            obtain ⟨x, hx, rfl⟩ := List.mem_map.mp h
            exact List.mem_map.mpr ⟨x, s1 x hx, rfl⟩
          · intro h
            obtain ⟨x, hx, rfl⟩ := List.mem_map.mp h
            exact s2 x hx
        have e3 : ((firsts nss).map tupD).mergeSort leD = ((L1.map rowS).mergeSort (PySem.W.dataLe false (fun b : V × D => b.2))).map (·.2) := by
          have z := List.map_mergeSort (r := PySem.W.dataLe false (fun b : V × D => b.2)) (s := leD) (f := fun b : V × D => b.2) (l := L1.map rowS) (fun _ _ _ _ => rfl)
          rw [z]
          have e4 : (L1.map rowS).map (·.2) = (L1.map (·.2)).map tupD := by rw [List.map_map, List.map_map]; rfl
          rw [e4]
          exact (sort_tup_perm pmf fun k hk => two k (mem_firsts.mp hk)).symm
        refine k _ _ Z1 ((e1.trans m1).trans (.made m1.zh hp)) ⟨p, _, _, rfl, rfl, (e1.hh.trans m1.hh).free hp, zp, upd_same, ?_⟩
        rw [e3]
        refine dps_of_zip fun b hb => ?_
        obtain ⟨x, hx, rfl⟩ := List.mem_map.mp ((List.mergeSort_perm _ _).mem_iff.mp hb)
        exact .tup (q3 x (s1 x (pm.mem_iff.mp hx))) (ints_dps _)
    · cases h2
  · cases h2
@[simp] theorem gSortedSet_ev (ds : List D) : gSortedSet (.list ds) = match asTups ds with
    | some nss => if nss.length < 64 ∧ (nss.all fun k => decide (k.length = 2)) = true then gSorted [.list ((firsts nss).map tupD)] else .bad
    | none => .bad := Eq.trans rfl rfl
end
end PV

set_option Elab.async false
set_option linter.all false
set_option maxRecDepth 100000
/-! ### list(reversed(xs)) -/
namespace PV
open PySem PySem.Spec L2 PyProof.Rows RT
set_option autoImplicit false
section
variable {prog : Program} {w : World} {A : Around} {E : Value → Shared → Prop} {s : Shared}
theorem call_list_rev {it l : Addr} {items : Array Value} {Q : Value → Shared → Prop} (hh : A.handled = none) (hit : s.heap.IsRevIter it l ((items.size : Int) - 1)) (hl : s.heap.IsList l items) (hne : l ≠ it) (hn : items.size ≤ sizeLine)
    (hQ : ∀ (h' : Heap) (tk : Nat) (acc : Array Value) (c : Nat), (∀ b o, b ≠ it → s.heap.get? b = some o → h'.get? b = some o) → h'.get? s.heap.objs.size = some { cls := .type "list", dict := none, data := .seq acc c, slots := #[] } →
      ItemsOf (fun i v => items[items.size - 1 - i]? = some v) acc items.size → Q (.ref s.heap.objs.size) { s with heap := h', toks := tk }) :
    wpAny (model prog w) A (call (.type "list") [.ref it]) Q E s := by
  have W := (Walks.listRev (prog := prog) (w := w) (A := A.in1.in1) hh it l hne items).toS
  obtain ⟨oi, hoi, _⟩ := id hit
  obtain ⟨ol, hol, _⟩ := id hl
  have hSi : s.heap.objs.size ≠ it := Nat.ne_of_gt (Heap.lt_size hoi)
  have hSl : s.heap.objs.size ≠ l := Nat.ne_of_gt (Heap.lt_size hol)
  have hSf : s.heap.objs.size ∉ [it, l] := by simp only [List.mem_cons, List.not_mem_nil, or_false, not_or]; exact ⟨hSi, hSl⟩
  refine callType_codes (Q₁ := fun obj z => obj = .ref s.heap.objs.size ∧ z = { s with heap := s.heap.push { cls := .type "list", data := .seq #[] } }) F.called_list (F.typeCall_list_1 _) F.entry_list_init (code_list_new _ ⟨rfl, rfl⟩) fun obj z hz => ?_
  obtain ⟨rfl, rfl⟩ := hz
  have hS : (s.heap.push { cls := .type "list", data := .seq #[] }).get? s.heap.objs.size = some { cls := .type "list", data := .seq #[] } := Heap.get?_push_size _ rfl
  refine ⟨⟨_, hS, rfl⟩, F.args_list_init_2 _ _, ?_⟩
  show wpAny _ A.in1.in1 (do let old ← Builtin.List.listItems (.ref s.heap.objs.size); Builtin.List.listUpdate (.ref s.heap.objs.size) (fun _ => #[]); letGo old.toList.reverse; Builtin.List.listExtendWith (.ref s.heap.objs.size) (.ref it) .none) _ _ _
  refine wpAny_bind ?_
  unfold Builtin.List.listItems
  refine wpAny_bind (wpAny_seqItems hS rfl (wpAny_pure ?_))
  show wpAny _ A.in1.in1 (updateSeq s.heap.objs.size (fun _ => #[]) >>= fun _ => letGo (#[] : Array Value).toList.reverse >>= fun _ => Builtin.List.listExtendWith (.ref s.heap.objs.size) (.ref it) .none) _ _ _
  refine wpAny_bind (wpAny_updateSeq hS rfl ?_)
  have hS2 := Heap.get?_update_self (Obj.mapSeq (fun _ => (#[] : Array Value))) hS rfl
  have oth : ∀ b o, b ≠ s.heap.objs.size → s.heap.get? b = some o → ((s.heap.push { cls := .type "list", data := .seq #[] }).update s.heap.objs.size (Obj.mapSeq (fun _ => (#[] : Array Value)))).get? b = some o :=
    fun b o hb e => (Heap.get?_update_other _ _ (Ne.symm hb)).trans (Heap.get?_push_of_some _ e)
  refine wpAny_bind (wpAny_letGo ?_)
  generalize hz : (s.heap.push { cls := .type "list", data := .seq #[] }).update s.heap.objs.size (Obj.mapSeq (fun _ => (#[] : Array Value))) = hp at *
  have hit1 : hp.IsRevIter it l ((items.size : Int) - 1) := hit.at fun o e => oth _ _ (Ne.symm hSi) e
  have hl1 : hp.IsList l items := by
    obtain ⟨o, e, r⟩ := hl
    exact ⟨o, oth _ _ (Ne.symm hSl) e, r⟩
  have hT : ({ s with heap := hp } : Shared).TypeIs (.ref it) "list_reverseiterator" := Heap.IsRevIter.typeIs (s := { s with heap := hp }) hit1
  have h1 : Builtin.List.listSameRef (.ref s.heap.objs.size) (.ref it) = false := by simp [Builtin.List.listSameRef, hSi]
  unfold Builtin.List.listExtendWith
  refine wpAny_bind (wpAny_typeOf hT ?_)
  rw [if_neg (by rw [h1]; decide)]
  refine wpAny_bind (wpAny_pyIter_revIter (s := { s with heap := hp }) hit1 ?_)
  refine wpAny_bind (wpAny_holding ?_)
  unfold Builtin.List.listLengthHint
  refine wpAny_bind (wpAny_specialOf hT nolen_lri ?_)
  show wpAny _ A.in1.in1 (specialOf (Value.ref it) (Str.ofString "__length_hint__") >>= _) _ _ _
  refine wpAny_bind (wpAny_specialOf hT hint_lri ?_)
  generalize hid : ("list_reverseiterator.__length_hint__" : String) = id0
  wp_delta
  rw [show splitId id0 = some ("list_reverseiterator", "__length_hint__") from by subst hid; decide +kernel]
  subst hid
  refine wpAny_bind (wpAny_isInstance (b := true) hT (by rw [isSubtype_type]; kernel_rfl) ?_)
  refine wpAny_pure ?_
  rw [if_neg (by decide)]
  have e0 : ((items.size : Nat) : Int) - 1 - ((0 : Nat) : Int) = (items.size : Int) - 1 := by omega
  refine wpAny_pure ⟨plainId_quiet F.plain_extend_loop _, codeAny_extend_loopS W hn _ hSf _ items.size 0 _ _ _ rfl (Nat.zero_le _) ⟨Nat.zero_le _, by rw [e0]; exact hit1, hl1⟩ hS2 (ItemsOf.nil _) fun s' acc' c' hm hS' hacc => ?_⟩
  refine ⟨rfl, ?_⟩
  rw [Moved.eq_with hm]
  refine hQ s'.heap s'.toks acc' c' (fun b o hb e => hm.heap b o (fun hmem => ?_) (oth b o (Nat.ne_of_lt (Heap.lt_size e)) e)) hS' hacc
  rcases List.mem_cons.mp hmem with e' | hmem
  · exact absurd (Heap.lt_size e) (by rw [e']; exact Nat.lt_irrefl _)
  · exact hb (List.mem_singleton.mp hmem)
end
section
variable {X : Cx} {e : Expr} {f : Env → Res D} {p p2 pos pos2 : Pos}
theorem pe_listRev {te : TE} (hc : X.calm = true) (hg : Gl X "list") (hm : X.mg "list" = none) (hg2 : Gl X "reversed") (hm2 : X.mg "reversed" = none) (he : PE X e te)
    (hs : starEach [e] X.env = (false, eval e X.env) :: starEach [] X.env := by rfl)
    (hs2 : starEach [.Call (.Name "reversed" p2) [e] [] pos2] X.env = (false, eval (.Call (.Name "reversed" p2) [e] [] pos2) X.env) :: starEach [] X.env := by rfl) :
    PE X (.Call (.Name "list" p) [.Call (.Name "reversed" p2) [e] [] pos2] [] pos) (tRevL X.K te) := by
  refine ⟨fun pins s σ H Q I h => ?_⟩
  refine Call_ (ld_blt I hg hm boot_list (PyProof.Rows.callWith_type1 (args_cons (Call_ (ld_blt I hg2 hm2 PyProof.Rows.boot_reversed (PyProof.Rows.callWith_type1 (args_cons (thn (he.run pins s σ H _ I h) fun u s1 ⟨v, H1, I1, r1, q1⟩ => args_nil ?_) hs) hs rfl))) hs2) hs2 rfl))
  obtain ⟨a, xs, ev, hq, q⟩ := q1
  subst ev
  have eu : u = Value.ref a := r1
  subst eu
  obtain ⟨its, rv, pl, hz⟩ := I1.list hq
  refine call_reversed_list pl.isList (args_nil ?_)
  have k0 : ∀ b o, s1.heap.get? b = some o → (s1.heap.push (revObj a ((its.toArray.size : Int) - 1))).get? b = some o := fun b o e => Heap.get?_push_of_some _ e
  have I2 : Inv X pins σ H1 { s1 with heap := s1.heap.push (revObj a ((its.toArray.size : Int) - 1)) } := I1.kept (t' := s1.toks) k0
  have fp := I1.fpOk (H' := H1) (b := s1.heap.objs.size) (Nat.le_refl _) (I1.hok.fresh (Nat.le_refl _))
  have hl := pl.isList
  obtain ⟨ol, hol, _⟩ := id hl
  have hne : a ≠ s1.heap.objs.size := Nat.ne_of_lt (Heap.lt_size hol)
  have hn : its.toArray.size ≤ sizeLine := by rw [List.size_toArray, ← rv.length]; exact hz
  refine call_list_rev (s := { s1 with heap := s1.heap.push (revObj a ((its.toArray.size : Int) - 1)) }) (I1.ok.hd hc) ⟨_, Heap.get?_push_size _ rfl, rfl, rfl⟩ (hl.push _) hne hn fun h' tk acc c hk hnew hi => ?_
  have nS : H1 (s1.heap.push (revObj a ((its.toArray.size : Int) - 1))).objs.size = none := I2.hok.fresh (Nat.le_refl _)
  refine ⟨.ref (s1.heap.push (revObj a ((its.toArray.size : Int) - 1))).objs.size, upd H1 _ (.lst xs.reverse), I2.turnedNew (t' := tk) (ch := [s1.heap.objs.size]) (fun b o hb e => hk b o (fun z => hb (List.mem_singleton.mpr z)) e) (fun b hb => ?_) (Nat.le_refl _) (show ObjOk X.prog X.w _ _ _ (.lst xs.reverse) from ⟨by rw [List.length_reverse]; exact hz, acc.toList, c, vals_rev rv hi, ?_⟩), rfl, q _ nS⟩
  · rw [List.mem_singleton.mp hb]
    exact fp
  · rw [Array.toArray_toList]
    exact hnew
theorem V_lstRev (hm : X.mg "list" = none) (hm2 : X.mg "reversed" = none) (he : PE X e (tP X.K f)) (hc : X.calm = true := by rfl) (hg : Gl X "list" := by rfl) (hg2 : Gl X "reversed" := by rfl)
    (hs : starEach [e] X.env = (false, eval e X.env) :: starEach [] X.env := by rfl)
    (hs2 : starEach [.Call (.Name "reversed" p2) [e] [] pos2] X.env = (false, eval (.Call (.Name "reversed" p2) [e] [] pos2) X.env) :: starEach [] X.env := by rfl) :
    PE X (.Call (.Name "list" p) [.Call (.Name "reversed" p2) [e] [] pos2] [] pos) (tV X.K (eRevSl f)) := pe_mono (pe_listRev hc hg hm hg2 hm2 he hs hs2) fun σ H Q ⟨H0, Z0, Z, env, r, hE, hf, q⟩ => by
  obtain ⟨ds, h1, h2⟩ := Res.bind_eq hf
  obtain ⟨d, h0, h1⟩ := Res.bind_eq h1
  have := listD_eq h1; subst this
  cases h2
  refine ⟨H0, Z0, Z, env, _, hE, h0, fun v H1 Z1 e1 d1 => ?_⟩
  obtain ⟨p, vs, rfl, k1, k2⟩ := d1.list e1.zh
  exact ⟨p, vs, rfl, k1, fun a ha => q _ _ _ (e1.trans (.made e1.zh ha)) ⟨a, _, _, rfl, rfl, e1.hh.free ha, e1.zh.free ha, upd_same, dps_rev k2⟩⟩
end
end PV

set_option Elab.async false
set_option linter.all false
set_option maxRecDepth 100000
/-! ### powers of greater numbers -/
namespace PV
open PySem PySem.Spec L2 PyProof.Rows
set_option autoImplicit false
def CPowW (i j : Int) : Prop := 0 ≤ j ∧ j ≤ 1000 ∧ i.natAbs < 2 ^ 1000
theorem op_powW {X : Cx} : OpR X (binaryOp .Pow) (rI CPowW fun i j => .int (i ^ j.toNat)) := opI fun i j _ _ _ _ _ hc q => by
  have hb : Builtin.Int.intBits i ≤ 1000 := intBits_le hc.2.2
  have h0 := hc.1
  have h1 : (Builtin.Int.intBits i : Int) * j ≤ 1000 * j := Int.mul_le_mul_of_nonneg_right (by omega) h0
  have h2 := hc.2.1
  exact pow_int hc.1 (by omega) q
def powOkW (i j : Int) : Bool := decide (0 ≤ j) && decide (j ≤ 1000) && decide (i.natAbs < 2 ^ 1000)
abbrev gPowW := gInt powOkW fun i j => .int (i ^ j.toNat)
theorem gPowW_ok {K : PySem.W.Frag} : OpD K (rI CPowW fun i j => .int (i ^ j.toNat)) gPowW := gInt_ok (gv := fun i j => .int (i ^ j.toNat)) (fun i j Z => .int (i ^ j.toNat)) fun i j H Q c q => by
  unfold powOkW at c
  simp only [Bool.and_eq_true, decide_eq_true_eq] at c
  exact ⟨i, j, rfl, rfl, ⟨c.1.1, c.1.2, c.2⟩, q⟩
end PV

set_option Elab.async false
set_option linter.all false
set_option maxRecDepth 100000
/-! ### several except clauses, with and without names -/
namespace PV
open PySem PySem.Spec L2 PyProof.Rows
set_option autoImplicit false
abbrev Cl := Value × Option Nat × (Addr → Value → Option Addr → TS)
def unN (i : Nat) (D : Ends) : Ends := { nx := fun σ' H' => D.nx (σ'.set i none) H', rt := D.rt, bk := fun σ' H' => D.bk (σ'.set i none) H', ct := fun σ' H' => D.ct (σ'.set i none) H' }
def wN (K : PySem.W.Frag) (Wout : WX) (D : Ends) : List Cl → WX
  | [] => Wout
  | (c, none, ts) :: r => fun cls d σ H => ∃ b, PySem.W.exmOne K cls c = some b ∧ (b = true → ∀ a, H a = none → ts a cls d D σ H) ∧ (b = false → wN K Wout D r cls d σ H)
  | (c, some i, ts) :: r => fun cls d σ H => ∃ b, PySem.W.exmOne K cls c = some b ∧ (b = true → ∀ a, H a = none → ts a cls d (unN i D) (σ.set i (some (.ref a))) H) ∧ (b = false → wN K Wout D r cls d σ H)
def SuOk (X : Cx) (su : List Stmt) (ts : Addr → Value → Option Addr → TS) : Prop := ∀ (a : Addr) (oe : Obj) (cls : Value) (d : Option Addr) (pn : List (Addr × Obj)), Zc cls d oe → (∃ vs, oe.data = .fields vs) → PSs (X.suite a ((a, oe) :: pn)) su (ts a cls d)
inductive HdsN (X : Cx) : List ExceptHandler → List Cl → Prop
  | nil : HdsN X [] []
  | bare {x : Str} {c : Value} {ts : Addr → Value → Option Addr → TS} {b₀ : Stmt} {suite : List Stmt} {np pos' : Pos} {hds : List ExceptHandler} {l : List Cl} (hc : Names X x c)
      (hsu : SuOk X (b₀ :: suite) ts) (r : HdsN X hds l) : HdsN X (.ExceptHandler (some (.Name x np)) none (b₀ :: suite) pos' :: hds) ((c, none, ts) :: l)
  | named {x n : Str} {i : Nat} {c : Value} {ts : Addr → Value → Option Addr → TS} {b₀ : Stmt} {suite : List Stmt} {np pos' : Pos} {hds : List ExceptHandler} {l : List Cl} (hc : Names X x c) (hi : X.N[i]? = some n) (hln : X.env.kindOf n = some .local)
      (hsu : SuOk X (b₀ :: suite) ts) (r : HdsN X hds l) : HdsN X (.ExceptHandler (some (.Name x np)) (some n) (b₀ :: suite) pos' :: hds) ((c, some i, ts) :: l)
section
variable {X : Cx} {body : List Stmt} {h₀ : ExceptHandler} {hds : List ExceptHandler} {l : List Cl} {pos : Pos} {tb : WX → TS} {Wout : WX}
theorem ps_try_n (hs : X.stack = X.env :: X.outer) (hf : X.env.frame = some X.env.locals) (hN : X.N.Nodup) (tk : Takes X Wout)
    (hb : ∀ (W : WX) (pn : List (Addr × Obj)) (xe : Value → Shared → Prop), Takes (X.tr pn xe) W → PassesOwn (model X.prog X.w) X.A X.env xe → PSs (X.tr pn xe) body (tb W))
    (hh : HdsN X (h₀ :: hds) l) : PS X (.Try body (h₀ :: hds) [] [] pos) (fun D σ H => tb (wN X.K Wout D l) D σ H) := by
  refine ⟨fun pins s σ H D I h => ?_⟩
  have ok := I.ok
  have hfr : X.A.frames = some (X.env :: X.outer) := by rw [ok.frames, hs]
  refine wpAny_Try_except ?_
  refine wpAny_mono ((hb (wN X.K Wout D l) (X.pn ++ pins) (fun e s₁ => wpAny (model X.prog X.w) X.A (noteFrame e X.env) (fun _ s₂ => wpAny (model X.prog X.w) X.A (setFlight e none) (fun _ s₃ =>
    wpAny (model X.prog X.w) X.A (handleBy e X.env (h₀ :: hds)) (SP X pins D) X.xe s₃) X.xe s₂) X.xe s₁) (fun u s' xx => ?_) PassesOwn.looking).run [] s σ H D (I.toTry _) h) (fun f s1 hsp => ?_) (fun e s1 he => he)
  · obtain ⟨a, B, sI, pins', σ', H', cls, d, rfl, J', nb, up, sky, na, os, ag, w⟩ := xx
    have J : Inv X pins σ' H' sI := J'.ofTry ok
    have sky' : Sky B (X.env :: X.outer) a (Zc cls d) X.env.locals s'.heap := by rw [← hs]; exact sky
    show wpAny (model X.prog X.w) X.A (noteFrame (.ref a) X.env) _ _ _
    refine Sky.land Zc.steady hfr hf sky' fun h3 fl3 up3 => ?_
    have J3 : Inv X pins σ' H' { s' with heap := h3 } := J.landed nb fl3.1 (up.trans up3) os ag
    obtain ⟨oe3, vs3, he3, hz3, hd3⟩ := fl3.there
    have notFr : ∀ {h : Heap} {o : Obj} {vs : Array Value}, h.FunFrames B (X.env :: X.outer) → h.get? a = some o → o.data = .fields vs → a ∉ frs (X.env :: X.outer) := fun {h o vs} ff e dd hm => by
      obtain ⟨_, o', e', hnf⟩ := ff.mem hm
      rw [e] at e'; cases e'
      exact hnf _ dd
    have nfr := notFr fl3.2.2.1 he3 hd3
    have nL : a ≠ X.env.locals := fun z => nfr (List.mem_filterMap.mpr ⟨X.env, List.mem_cons_self, by rw [hf, z]⟩)
    have nF : a ∉ X.fs := fun hm => by
      obtain ⟨e, he, q⟩ := List.mem_filterMap.mp hm
      exact nfr (List.mem_filterMap.mpr ⟨e, List.mem_cons_of_mem _ he, q⟩)
    have S3 := J3.suite he3 hd3 na nL nF
    have LT : PySem.W.Looks (model X.prog X.w) h3 (typeOf (.ref a)) cls := fun A Q E s k q => wpAny_typeOf_ref (k _ _ he3) (by rw [hz3.1]; exact q)
    have test : ∀ {x : Str} {c : Value} {np : Pos} {Q : Value → Shared → Prop} {E : Value → Shared → Prop}, Names X x c → Q c { s' with heap := h3 } → wpAny (model X.prog X.w) (X.A.mark (some (.ref a))) (eval (.Name x np) X.env) Q E { s' with heap := h3 } := fun {x c np Q E} hc q => by
      obtain ⟨hg, hdbg, hm | ⟨hm, hv, hnn⟩⟩ := hc
      · exact ld_glob (X := X.suite a ((a, oe3) :: (X.pn ++ pins))) S3 hg hm q hdbg
      · exact ld_blt (X := X.suite a ((a, oe3) :: (X.pn ++ pins))) S3 hg hm hv q hnn hdbg
    have go : ∀ {hds' : List ExceptHandler} {l' : List Cl}, HdsN X hds' l' → wN X.K Wout D l' cls d σ' H' →
        wpAny (model X.prog X.w) X.A (handleBy (.ref a) X.env hds') (SP X pins D) X.xe { s' with heap := h3 } := by
      intro hds' l' hk
      induction hk with
      | nil =>
        intro w
        refine wpAny_handleBy_nil ?_
        obtain ⟨k1, k2, k3, oe, vs, T, oT, ts', he, hz, hd, h1, hr⟩ := id fl3
        unfold PySem.passOn
        refine wpAny_bind (wpAny_field he hd h1 ?_)
        rw [if_neg (show ¬ ((Value.ref T == Value.none) = true) from by simp)]
        have fin : wpAny (model X.prog X.w) X.A (setFlight (.ref a) X.env.frame) (fun _ s4 => wpAny (model X.prog X.w) X.A (throw (.ref a) : Sem Flow) (SP X pins D) X.xe s4) X.xe { s' with heap := h3 } := by
          rw [hf]
          refine HandSPX.setFlight_upZ fl3 fun h4 hh4 up4 => wpAny_throw (tk _ _ ?_)
          exact ⟨a, B, sI, pins, σ', H', cls, d, rfl, J, nb, (up.trans up3).trans up4, .inr (.inr (by rw [hs]; exact hh4)), na, os, ag, w⟩
        first
          | exact wpAny_bind (wpAny_pure (wpAny_bind fin))
          | exact wpAny_bind fin
      | @bare x c ts b₀ suite np pos' hds2 l2 hc hsu r ih =>
        intro w
        obtain ⟨b, hb1, hyes, hno⟩ := w
        refine wpAny_handleBy_cons (codeAny_handlers_test ?_) (by intro q; cases q)
        have LM := PySem.W.exm_one (M := model X.prog X.w) (J3.kIn) LT hb1
        refine test hc (LM.here ?_)
        cases b with
        | true =>
          refine codeAny_handlers_suite ?_
          refine HandSPX.lands_againZ fl3 fun h4 fl4 up4 => ?_
          have J4 : Inv X pins σ' H' { s' with heap := h4 } := J.landed nb fl4.1 ((up.trans up3).trans up4) os ag
          obtain ⟨oe4, vs4, he4, hz4, hd4⟩ := fl4.there
          have S4 := J4.suite he4 hd4 na nL nF
          refine wpAny_mono ((hsu a oe4 cls d (X.pn ++ pins) hz4 ⟨_, hd4⟩).run [] _ _ H' _ S4 (hyes rfl a na)) (fun f s6 hsp => ?_) (fun _ _ z => False.elim z)
          cases f with
          | next =>
            obtain ⟨σ6, H6, S6, q6⟩ := hsp
            exact ⟨_, _, S6.unsuite ok, q6⟩
          | brk =>
            obtain ⟨σ6, H6, S6, q6⟩ := hsp
            exact ⟨_, _, S6.unsuite ok, q6⟩
          | cont =>
            obtain ⟨σ6, H6, S6, q6⟩ := hsp
            exact ⟨_, _, S6.unsuite ok, q6⟩
          | ret u =>
            obtain ⟨v6, σ6, H6, S6, r6, q6⟩ := hsp
            exact ⟨_, _, _, S6.unsuite ok, r6, q6⟩
        | false =>
          show wpAny _ X.A (handleBy (.ref a) X.env hds2) _ _ _
          exact ih (hno rfl)
      | @named x n i c ts b₀ suite np pos' hds2 l2 hc hi hln hsu r ih =>
        intro w
        obtain ⟨b, hb1, hyes, hno⟩ := w
        have hloc : Loc X.env.scope n := .inl hln
        refine wpAny_handleBy_cons (codeAny_handlers_test ?_) (by intro q; cases q)
        have LM := PySem.W.exm_one (M := model X.prog X.w) (J3.kIn) LT hb1
        refine test hc (LM.here ?_)
        cases b with
        | true =>
          refine codeAny_handlers_suite_as ?_
          refine HandSPX.lands_againZ fl3 fun h4 fl4 up4 => ?_
          have J4 : Inv X pins σ' H' { s' with heap := h4 } := J.landed nb fl4.1 ((up.trans up3).trans up4) os ag
          obtain ⟨oe4, vs4, he4, hz4, hd4⟩ := fl4.there
          have S4 := J4.suite he4 hd4 na nL nF
          refine store_ok (X := X.suite a ((a, oe4) :: (X.pn ++ pins))) (v := .ref a) S4 hN hi hloc rfl (fun s5 S5 => ?_) (.inr hln)
          refine wpAny_mono ((hsu a oe4 cls d (X.pn ++ pins) hz4 ⟨_, hd4⟩).run [] s5 _ H' _ S5 (hyes rfl a na)) (fun f s6 hsp => ?_) (fun _ _ z => False.elim z)
          have end_ : ∀ {σ6 : L2.St} {H6 : Hp} {Q : Shared → Prop}, Inv (X.suite a ((a, oe4) :: (X.pn ++ pins))) [] σ6 H6 s6 → (∀ s7, Inv X pins (σ6.set i none) H6 s7 → Q s7) →
              wpAny (model X.prog X.w) X.A (do bindName X.env n .none; unbindBehindTheSuite X.env n pos') (fun _ s7 => Q s7) X.xe s6 := fun {σ6 H6 Q} S6 hq => gone_ok (S6.unsuite ok) hN hi hln hq
          cases f with
          | next =>
            obtain ⟨σ6, H6, S6, q6⟩ := hsp
            exact end_ S6 fun s7 J7 => ⟨_, _, J7, q6⟩
          | brk =>
            obtain ⟨σ6, H6, S6, q6⟩ := hsp
            exact end_ S6 fun s7 J7 => ⟨_, _, J7, q6⟩
          | cont =>
            obtain ⟨σ6, H6, S6, q6⟩ := hsp
            exact end_ S6 fun s7 J7 => ⟨_, _, J7, q6⟩
          | ret u =>
            obtain ⟨v6, σ6, H6, S6, r6, q6⟩ := hsp
            exact end_ S6 fun s7 J7 => ⟨_, _, _, J7, r6, q6⟩
        | false =>
          show wpAny _ X.A (handleBy (.ref a) X.env hds2) _ _ _
          exact ih (hno rfl)
    exact go hh w
  · cases f with
    | next =>
      obtain ⟨σ', H', J', q⟩ := hsp
      exact wpAny_execs_nil ⟨σ', H', J'.ofTry ok, q⟩
    | brk =>
      obtain ⟨σ', H', J', q⟩ := hsp
      exact ⟨σ', H', J'.ofTry ok, q⟩
    | cont =>
      obtain ⟨σ', H', J', q⟩ := hsp
      exact ⟨σ', H', J'.ofTry ok, q⟩
    | ret u =>
      obtain ⟨v, σ', H', J', r, q⟩ := hsp
      exact ⟨v, σ', H', J'.ofTry ok, r, q⟩
end
end PV

set_option Elab.async false
set_option linter.all false
set_option maxRecDepth 100000
/-! ### exceptions: raise, calls that raise, try -/
namespace PV
open PySem PySem.Spec L2 PyProof.Rows
set_option autoImplicit false
/-- an own class of exceptions -/
structure ExF (K : PySem.W.Frag) (mg : Str → Option Value) (x : Str) (C : Addr) : Prop where
  g : mg x = some (.ref C)
  q : PySem.W.excIn K C [.type "ValueError", .type "Exception", .type "BaseException", .type "object"] "ValueError.__new__" = true
  k : PySem.W.keepIn K (.ref C) = true
  t : PySem.W.typeIn K (.ref C) = some (.type "type")
  e : ExcC K C
  s : PySem.W.subIn K (.ref C) (.ref C) = some true
theorem ExF.uni {K : PySem.W.Frag} {mg : Str → Option Value} {x : Str} {C D : Addr} (F : ExF K mg x C) (h : mg x = some (.ref D)) : D = C := by
  have := F.g.symm.trans h
  cases this
  rfl
/-- .. that is raised somewhere -/
def wE (mg : Str → Option Value) (E : XK) : Str → Hp → Prop := fun c H => ∃ C, mg c = some (.ref C) ∧ E (.ref C) none H
def wX (mg : Str → Option Value) (W : WX) (c : Str) (σ : L2.St) (H : Hp) : Prop := ∃ C, mg c = some (.ref C) ∧ W (.ref C) none σ H
def sRaise (c : Str) : Env → Out := fun _ => .exc c
@[simp] theorem sRaise_ev (c : Str) (env : Env) : sRaise c env = .exc c := Eq.trans rfl rfl
section
variable {X : Cx} {st : Stmt} {e o : Expr} {es : List Expr} {pos : Pos} {W : WO} {E : XK}
theorem S_raise0 {c : Str} : PS X st (tS X.K W0 (sRaise c)) := ps_mono ps_never fun E σ H ⟨_, _, _, _, _, q⟩ => q
theorem S_raiseX {c m : Str} {C : Addr} {p p2 pos' : Pos} {j : Nat} (hc : X.calm = true) (tk : Takes X (fun cls d _ H => E cls d H)) (F : ExF X.K X.mg c C) (hg : Gl X c := by rfl) (hdb : (c == ("__debug__" : Str)) = false := by decide) :
    PS X (.Raise (some (.Call (.Name c p) [.Constant (.str m) j p2] [] pos)) none pos') (tS X.K ⟨some (wE X.mg E), false⟩ (sRaise c)) :=
  ps_mono (ps_raise hc tk (pmk_own PySem.F.excBase_ValueError F.q F.g F.k (raises_own F.e.hs F.t) hg hdb)) fun D σ H ⟨H0, Z0, Z, env, hE, q⟩ => by
    obtain ⟨C', h1, h2⟩ := q Z H hE.toExt
    rw [F.uni h1] at h2
    exact h2
/-! defs that raise -/
def spX (K : PySem.W.Frag) (mg : Str → Option Value) (m : List D → Res RV) : Sp := fun vs H _ E => ∃ Z ds c, Same Z H ∧ DpAll K Z vs ds ∧ m ds = .exc c ∧ ∀ Z' H', Ext Z H Z' H' → wE mg E c H'
structure CalX (P : Program) (w : World) (K : PySem.W.Frag) (mg : Str → Option Value) (base : Heap) (x : Str) (k : Nat) (m : List D → Res RV) : Prop where
  ex : ∃ f fd ps, FnOk P w K mg base (L2.CX P w) k f fd ps (spX K mg m) ∧ mg x = some (.ref f) ∧ PySem.W.keepIn K (.ref f) = true ∧ Binds K fd ps []
theorem fn_okX {P : Program} {w : World} {K : PySem.W.Frag} {mg : Str → Option Value} {base : Heap} {x qual : Str} {st : Stmt} {f : Addr} {fd : FuncData} {N ps : List Str} {k np n : Nat} {body : Env → Out} {m : List D → Res RV} (F : Fun K x qual st f fd) (S : FnScope N ps (defScope st)) (hm : m = fnM np n body) (hnp : ps.length = np) (hn : N.length = n) (hN : np ≤ n)
    (hbody : ∀ (cdv : Value) (A : Around) (outer : List PySem.Env) (s : Shared) (H : Hp) (E : XK), Room k (A.deeper (PyProof.Rows.envOfC qual (defScope st) s.heap.objs.size f cdv)) →
      PSs (cxOf (L2.CX P w) P w K mg base N qual (defScope st) f cdv A outer s H E) (defBody st) (tS K ⟨some (wE mg E), false⟩ body)) : FnOk P w K mg base (L2.CX P w) (k + 1) f fd ps (spX K mg m) := by
  subst hm hnp hn
  have len : ∀ vs H Q E, spX K mg (fnM ps.length N.length body) vs H Q E → vs.length = ps.length := fun vs H Q E ⟨Z, ds, c, _, h, hm, _⟩ => by
    rw [dps_length h]
    unfold fnM at hm
    split at hm
    · assumption
    · cases hm
  refine F.okX S len fun cdv A outer s H vs Q E hr h => ⟨_, hbody cdv A outer s H E hr, ?_⟩
  have hl := len vs H Q E h
  obtain ⟨Z, ds, c, sz, hd, hm, q⟩ := h
  rw [fnM_ev, if_pos (by rw [← dps_length hd]; exact hl)] at hm
  refine ⟨H, Z, Z, _, env_start sz hd (by rw [hl]; exact hN), ?_⟩
  cases hb : body (ds.map Sl.fz ++ List.replicate (N.length - ds.length) Sl.no) with
  | exc c' =>
    rw [hb] at hm
    cases hm
    exact fun Z' H' e => q Z' H' e
  | ret r' => rw [hb] at hm; cases hm
  | next env' => rw [hb] at hm; cases hm
  | bad => rw [hb] at hm; cases hm
  | brk e => rw [hb] at hm; cases hm
  | cont e => rw [hb] at hm; cases hm
theorem calX_mk {P : Program} {w : World} {K : PySem.W.Frag} {mg : Str → Option Value} {base : Heap} {x : Str} {st : Stmt} {f : Addr} {fd : FuncData} {ps : List Str} {k : Nat} {m : List D → Res RV} (F : Fun K x x st f fd) (g : mg x = some (.ref f)) (b : Binds K fd ps []) (h : FnOk P w K mg base (L2.CX P w) k f fd ps (spX K mg m)) : CalX P w K mg base x k m :=
  ⟨f, fd, ps, h, g, F.kp, b⟩
/-! a call that raises, and what stands around it -/
def XR (K : PySem.W.Frag) (mg : Str → Option Value) (W : WX) (fs : Env → Res (List D)) (m : List D → Res RV) (σ : L2.St) (H : Hp) : Prop :=
  ∃ H0 Z0 Z env ds c, EnvOk K H0 Z0 Z H σ env ∧ fs env = .ok ds ∧ m ds = .exc c ∧ ∀ Z' H', Ext Z H Z' H' → wX mg W c σ H'
def tR (R : L2.St → Hp → Prop) : TE := fun σ H _ => R σ H
def tRs (R : L2.St → Hp → Prop) : TS := fun _ σ H => R σ H
section
variable {Wx : WX} {fs : Env → Res (List D)} {m : List D → Res RV} {R : L2.St → Hp → Prop}
theorem X_call {x : Str} {k j : Nat} {p : Pos} (C : CalX X.prog X.w X.K X.mg X.base x k m) (hr : Room j X.A) (tk : Takes X Wx) (ha : PA X (e :: es) (tA X.K fs)) (hk : k ≤ j := by decide) (hg : Gl X x := by rfl) (hdb : (x == ("__debug__" : Str)) = false := by decide)
    (he : starEach (e :: es) X.env = (false, eval e X.env) :: starEach es X.env := by rfl) (hpl : (backTo pos (starEach es X.env)).any (·.1) = false := by rfl) : PE X (.Call (.Name x p) (e :: es) [] pos) (tR (XR X.K X.mg Wx fs m)) := by
  obtain ⟨f, fd, ps, F, hm, kp, b⟩ := C.ex
  refine pe_mono (pe_callS F (hr.mono hk) hg hm kp b (fun σ => passAt tk σ) ha hdb he hpl) fun σ H Q ⟨H0, Z0, Z, env, ds, c, hE, h1, h2, q⟩ => ?_
  exact ⟨H0, Z0, Z, env, ds, hE, h1, fun vs H1 Z1 e1 d1 => ⟨Z1, ds, c, e1.zh, d1, h2, fun Z' H' e2 => q Z' H' (e1.trans e2)⟩⟩
theorem X_isNone {p : Pos} {jn : Nat} (h : PE X e (tR R)) : PE X (.Compare e [.Is] [.Constant .none jn p] pos) (tR R) := pe_mono (pe_cmpR op_isG h pe_non (nomark _)) fun _ _ _ h => h
theorem X_int {p : Pos} (hm : X.mg "int" = none) (h : PE X e (tR R)) (hg : Gl X "int" := by rfl) (he : starEach [e] X.env = (false, eval e X.env) :: starEach [] X.env := by rfl) (hpl : (backTo pos (starEach [] X.env)).any (·.1) = false := by rfl) : PE X (.Call (.Name "int" p) [e] [] pos) (tR R) :=
  pe_mono (pe_callTy (call_int1 (X := X)) hg hm (by decide +kernel) (pa_cons h pa_nil he) (by decide) (by decide) he hpl) fun _ _ _ h => h
theorem X_lst1 {t : TA} (h : PE X e (tR R)) (hr : PA X es t) (hs : starEach (e :: es) X.env = (false, eval e X.env) :: starEach es X.env := by rfl) : PE X (.List (e :: es) pos) (tR R) := pe_mono (pe_lst (pa_cons h hr hs)) fun _ _ _ h => h
theorem X_sel {fa : Env → Res D} (ha : PE X o (tP X.K fa)) (hok : ∀ env, ∃ d, fa env = .ok d) (hb : PE X e (tR (XR X.K X.mg Wx fs m))) (hs : PlainIx e := by intro _ _; rfl) : PE X (.Subscript o e pos) (tR (XR X.K X.mg Wx fs m)) :=
  pe_mono (pe_ix (ix_list.or ix_tup) ha hb hs) fun σ H Q ⟨H0, Z0, Z, env, ds, c, hE, h1, h2, q⟩ => by
    obtain ⟨d, hd⟩ := hok env
    exact ⟨H0, Z0, Z, env, d, hE, hd, fun v H1 Z1 e1 _ => ⟨H0, Z0, Z1, env, ds, c, hE.ext e1, h1, h2, fun Z' H' e2 => q Z' H' (e1.trans e2)⟩⟩
theorem X_ret (h : PE X e (tR R)) : PS X (.Return (some e) pos) (tRs R) := ps_mono (ps_ret h) fun _ _ _ h => h
theorem X_expr (h : PE X e (tR R)) (hs : swapsWith e none pos.line X.env = pure false := by rfl) : PS X (.Expr e pos) (tRs R) := ps_mono (ps_expr h hs) fun _ _ _ h => h
theorem X_set {i : Nat} {x : Str} {p : Pos} (h : PE X e (tR R)) (hN : X.N.Nodup) (hi : X.N[i]? = some x := by rfl) (hx : Loc X.env.scope x := by first | exact Or.inl rfl | exact Or.inr rfl) (hs : swapsWith e (some (.Name x p)) pos.line X.env = pure false := by rfl)
    (hf : X.fn x = true ∨ X.env.scope.names.lookup x = some .local := by first | exact .inl rfl | exact .inr rfl) : PS X (.Assign [.Name x p] e pos) (tRs R) := ps_mono (ps_set hN hi hx h hs hf) fun _ _ _ h => h
/-- a statement with such a call -/
def noX : Out → Out
  | .exc _ => .bad
  | o => o
@[simp] theorem noX_ret (r : RV) : noX (.ret r) = .ret r := Eq.trans rfl rfl
@[simp] theorem noX_next (e : Env) : noX (.next e) = .next e := Eq.trans rfl rfl
@[simp] theorem noX_bad : noX .bad = .bad := Eq.trans rfl rfl
@[simp] theorem noX_ite (c : Prop) [Decidable c] (a b : Out) : noX (if c then a else b) = if c then noX a else noX b := by split <;> rfl
def sOnX (fs : Env → Res (List D)) (m : List D → Res RV) (f : Env → Out) : Env → Out := fun env => match (fs env).bind fun ds => m ds with
  | .exc c => match fs env with
    | .ok _ => .exc c
    | _ => .bad
  | _ => noX (f env)
theorem sOnX_ok {fs : Env → Res (List D)} {m : List D → Res RV} {f : Env → Out} {env : Env} {ds : List D} {r : RV} (h : fs env = .ok ds) (h2 : m ds = .ok r) : sOnX fs m f env = noX (f env) := by
  unfold sOnX
  rw [h, Res.bind_ok, h2]
theorem sOnX_exc {fs : Env → Res (List D)} {m : List D → Res RV} {f : Env → Out} {env : Env} {ds : List D} {c : Str} (h : fs env = .ok ds) (h2 : m ds = .exc c) : sOnX fs m f env = .exc c := by
  unfold sOnX
  rw [h, Res.bind_ok, h2]
@[simp] theorem sOnX_ev (fs : Env → Res (List D)) (m : List D → Res RV) (f : Env → Out) (env : Env) : sOnX fs m f env = match (fs env).bind fun ds => m ds with
  | .exc c => match fs env with
    | .ok _ => .exc c
    | _ => .bad
  | _ => noX (f env) := Eq.trans rfl rfl
theorem onX_exc {f : Env → Out} {env : Env} {c : Str} (h : sOnX fs m f env = .exc c) : ∃ ds, fs env = .ok ds ∧ m ds = .exc c := by
  unfold sOnX at h
  cases hf : fs env with
  | ok ds =>
    rw [hf, Res.bind_ok] at h
    cases hm : m ds with
    | exc c' => rw [hm] at h; cases h; exact ⟨ds, rfl, hm⟩
    | ok r => rw [hm] at h; simp only at h; cases hg : f env <;> (rw [hg] at h; cases h)
    | bad => rw [hm] at h; simp only at h; cases hg : f env <;> (rw [hg] at h; cases h)
  | exc c' => rw [hf] at h; cases h
  | bad => rw [hf] at h; simp only [Res.bind_bad] at h; cases hg : f env <;> (rw [hg] at h; cases h)
theorem onX_no {f : Env → Out} {env : Env} (h : ∀ c, sOnX fs m f env ≠ .exc c) : sOnX fs m f env = .bad ∨ (sOnX fs m f env = f env ∧ ∀ c, f env ≠ .exc c) := by
  have key : ∀ o : Out, noX o = .bad ∨ (noX o = o ∧ ∀ c, o ≠ .exc c) := fun o => by
    cases o with
    | exc c => exact .inl rfl
    | next e => exact .inr ⟨rfl, fun c z => by cases z⟩
    | ret e => exact .inr ⟨rfl, fun c z => by cases z⟩
    | brk e => exact .inr ⟨rfl, fun c z => by cases z⟩
    | cont e => exact .inr ⟨rfl, fun c z => by cases z⟩
    | bad => exact .inr ⟨rfl, fun c z => by cases z⟩
  unfold sOnX at h ⊢
  cases hf : fs env with
  | ok ds =>
    rw [hf, Res.bind_ok] at h
    rw [Res.bind_ok]
    cases hm : m ds with
    | exc c' => rw [hm] at h; exact absurd rfl (h c')
    | ok r => exact key _
    | bad => exact key _
  | exc c' => exact .inl rfl
  | bad => exact key _
theorem S_on0 {f : Env → Out} (h : PS X st (tS X.K W0 f)) : PS X st (tS X.K W0 (sOnX fs m f)) := ps_mono h fun D σ H ⟨H0, Z0, Z, env, hE, q⟩ => by
  refine ⟨H0, Z0, Z, env, hE, ?_⟩
  by_cases k : ∃ c, sOnX fs m f env = .exc c
  · obtain ⟨c, k⟩ := k
    rw [k] at q
    exact q.elim
  · rcases onX_no (fun c z => k ⟨c, z⟩) with k | ⟨k, _⟩
    · rw [k] at q; exact q.elim
    · rw [k] at q; exact q
theorem S_onX {f : Env → Out} (h : PS X st (tS X.K ⟨some (wE X.mg E), false⟩ f)) (hx : PS X st (tRs (XR X.K X.mg (fun cls d _ H => E cls d H) fs m))) : PS X st (tS X.K ⟨some (wE X.mg E), false⟩ (sOnX fs m f)) := by
  refine ⟨fun pins s σ H D I ⟨H0, Z0, Z, env, hE, q⟩ => ?_⟩
  by_cases k : ∃ c, sOnX fs m f env = .exc c
  · obtain ⟨c, k⟩ := k
    rw [k] at q
    obtain ⟨ds, h1, h2⟩ := onX_exc k
    exact hx.run pins s σ H D I ⟨H0, Z0, Z, env, ds, c, hE, h1, h2, fun Z' H' e => q Z' H' (hE.toExt.trans e)⟩
  · rcases onX_no (fun c z => k ⟨c, z⟩) with k | ⟨k, _⟩
    · rw [k] at q; exact q.elim
    · rw [k] at q; exact h.run pins s σ H D I ⟨H0, Z0, Z, env, hE, q⟩
/-- the reading of a try's body -/
def tB (K : PySem.W.Frag) (mg : Str → Option Value) (Wx : WX) (f : Env → Out) : TS := fun D σ H => ∃ H0 Z0 Z env, EnvOk K H0 Z0 Z H σ env ∧ match f env with
  | .exc c => ∀ Z' H', Ext Z H Z' H' → wX mg Wx c σ H'
  | o => OutOk K W0 H0 Z0 D o
theorem B_onX {f : Env → Out} (h : PS X st (tS X.K W0 f)) (hx : PS X st (tRs (XR X.K X.mg Wx fs m))) : PS X st (tB X.K X.mg Wx (sOnX fs m f)) := by
  refine ⟨fun pins s σ H D I ⟨H0, Z0, Z, env, hE, q⟩ => ?_⟩
  by_cases k : ∃ c, sOnX fs m f env = .exc c
  · obtain ⟨c, k⟩ := k
    rw [k] at q
    obtain ⟨ds, h1, h2⟩ := onX_exc k
    exact hx.run pins s σ H D I ⟨H0, Z0, Z, env, ds, c, hE, h1, h2, q⟩
  · rcases onX_no (fun c z => k ⟨c, z⟩) with k | ⟨k, k2⟩
    · rw [k] at q; exact q.elim
    · rw [k] at q
      have q' : OutOk X.K W0 H0 Z0 D (f env) := by
        cases hg : f env with
        | exc c => exact absurd hg (k2 c)
        | next e => rw [hg] at q; exact q
        | ret r => rw [hg] at q; exact q
        | brk e => rw [hg] at q; exact q
        | cont e => rw [hg] at q; exact q
        | bad => rw [hg] at q; exact q
      exact h.run pins s σ H D I ⟨H0, Z0, Z, env, hE, q'⟩
end
end
/-! isinstance of what a suite holds -/
def eIsE (i : Nat) (a : Addr) (b : Bool) : Env → Res D := fun env => match env[i]? with
  | some (.at a') => if a' = a then .ok (.bool b) else .bad
  | _ => .bad
@[simp] theorem eIsE_set (i : Nat) (a : Addr) (b : Bool) (env : Env) : eIsE i a b (env.set i (.at a)) = if i < env.length then .ok (.bool b) else .bad := by
  unfold eIsE
  by_cases h : i < env.length
  · rw [List.getElem?_set_self h, if_pos h]
    simp
  · rw [if_neg h, List.getElem?_eq_none (by rw [List.length_set]; omega)]
theorem get_at {i j : Nat} (a : Addr) (env : Env) (h : i ≠ j) : (env.set i (.at a))[j]? = env[j]? := List.getElem?_set_ne h
theorem eVar_at {i j : Nat} (a : Addr) (env : Env) (h : i ≠ j) : eVar j (env.set i (.at a)) = eVar j env := by
  unfold eVar
  rw [get_at a env h]
theorem ePk_at {i j : Nat} (a : Addr) (env : Env) (h : i ≠ j) : ePk j (env.set i (.at a)) = ePk j env := by
  unfold ePk
  rw [get_at a env h]
theorem kit_own {K : PySem.W.Frag} {mg : Str → Option Value} {x : Str} {C D : Addr} {b : Bool} (F : ExF K mg x D) (h0 : PySem.W.subIn K (.ref C) (.ref C) = some true) (h : PySem.W.subIn K (.ref C) (.ref D) = some b) : PySem.W.kitOne K (.ref C) (.ref D) = some b := by
  have key : PySem.W.kitCls K (.ref C) (.ref D) = some b := by
    obtain ⟨cd, hc, _⟩ := PySem.W.any_some F.e.hd
    unfold PySem.W.kitCls
    simp only
    rw [if_pos (by rw [hc, F.t]; rfl)]
    exact h
  unfold PySem.W.kitOne
  by_cases k : C = D
  · subst k
    rw [h0] at h
    cases h
    rw [if_pos (by simp)]
  · rw [if_neg (by simp [k])]
    exact key
theorem kit_blt {K : PySem.W.Frag} {C : Addr} {T : String} {b : Bool} (hT : PySem.W.kitMeta T = true) (h : PySem.W.subIn K (.ref C) (.type T) = some b) : PySem.W.kitOne K (.ref C) (.type T) = some b := by
  unfold PySem.W.kitOne
  rw [if_neg (by simp)]
  unfold PySem.W.kitCls
  simp only
  rw [if_pos hT]
  exact h
section
variable {X : Cx} {a : Addr} {oe : Obj} {pn : List (Addr × Obj)} {C : Addr} {i : Nat} {n y : Str} {p p2 p3 pos : Pos} {b : Bool}
theorem E_isE {v : V} {u : Value} (F : ExcC X.K C) (hz : Zc (.ref C) none oe) (hf : ∃ vs, oe.data = .fields vs) (m : X.mg "isinstance" = none) (hy : PE (X.suite a ((a, oe) :: pn)) (.Name y p3) (tC v)) (hv : ∀ w, RelV v w → w = u) (hk : PySem.W.kitOne X.K (.ref C) u = some b)
    (hN : X.N[i]? = some n := by rfl) (hvis : Vis X.env.scope n := by first | exact Or.inl rfl | exact Or.inr (Or.inl rfl) | exact Or.inr (Or.inr rfl)) (hd : (n == ("__debug__" : Str)) = false := by decide) (hcd : (n == ("__classdict__" : Str)) = false := by decide) (hg : Gl X "isinstance" := by rfl)
    (h1 : starEach [.Name n p2, .Name y p3] X.env = (false, eval (.Name n p2) X.env) :: starEach [.Name y p3] X.env := by rfl) (h2 : starEach [.Name y p3] X.env = (false, eval (.Name y p3) X.env) :: starEach [] X.env := by rfl) (hpl : (backTo pos (starEach [.Name y p3] X.env)).any (·.1) = false := by rfl) :
    PE (X.suite a ((a, oe) :: pn)) (.Call (.Name "isinstance" p) [.Name n p2, .Name y p3] [] pos) (tE X.K (eIsE i a b)) :=
  pe_mono (pe_callB (X := X.suite a ((a, oe) :: pn)) (call_isE F hz hf) hg m PyProof.Rows.boot_isinstance (pa_cons (pe_var hN hvis hd hcd) (pa_cons hy pa_nil h2) h1) (by decide) (by decide) h1 hpl) fun σ H Q ⟨H0, Z0, Z, env, d, hE, hf, q⟩ => by
    unfold eIsE at hf
    split at hf
    · rename_i a' he
      split at hf
      · rename_i ha
        subst ha
        cases hf
        obtain ⟨o, k1, k2⟩ := hE.at_ i _ he
        have k2 : o = some (.ref a') := k2
        subst k2
        exact ⟨_, k1, v, u, b, rfl, hv, hk, q _ H Z (.refl hE.sz) (.bl b)⟩
      · cases hf
    · cases hf
end
/-- relations of classes -/
def Rel2 (K : PySem.W.Frag) (mg : Str → Option Value) (x y : Str) (b : Bool) : Prop := ∃ C D, mg x = some (.ref C) ∧ mg y = some (.ref D) ∧ PySem.W.subIn K (.ref C) (.ref D) = some b
def RelB (K : PySem.W.Frag) (mg : Str → Option Value) (x : Str) (T : String) (b : Bool) : Prop := ∃ C, mg x = some (.ref C) ∧ PySem.W.subIn K (.ref C) (.type T) = some b
theorem rel2 {K : PySem.W.Frag} {mg : Str → Option Value} {x y : Str} {C D : Addr} {b : Bool} (F : ExF K mg x C) (G : ExF K mg y D) (r : Rel2 K mg x y b) : PySem.W.subIn K (.ref C) (.ref D) = some b := by
  obtain ⟨C', D', h1, h2, h3⟩ := r
  rw [F.uni h1, G.uni h2] at h3
  exact h3
theorem exm_of {K : PySem.W.Frag} {mg : Str → Option Value} {x y : Str} {C D : Addr} {b : Bool} (F : ExF K mg x C) (G : ExF K mg y D) (r : Rel2 K mg x y b) : PySem.W.exmOne K (.ref C) (.ref D) = some b := PySem.W.exm_ref G.e.hs G.e.hd G.t (rel2 F G r)
section
variable {X : Cx} {a : Addr} {oe : Obj} {pn : List (Addr × Obj)} {C C0 D : Addr} {i : Nat} {n c y : Str} {p p2 p3 pos : Pos} {b : Bool}
theorem E_isO (hg0 : X.mg c = some (.ref C)) (hz : Zc (.ref C) none oe) (hf : ∃ vs, oe.data = .fields vs) (F : ExF X.K X.mg c C0) (G : ExF X.K X.mg y D) (r : Rel2 X.K X.mg c y b) (m : X.mg "isinstance" = none)
    (hN : X.N[i]? = some n := by rfl) (hvis : Vis X.env.scope n := by first | exact Or.inl rfl | exact Or.inr (Or.inl rfl) | exact Or.inr (Or.inr rfl)) (hd : (n == ("__debug__" : Str)) = false := by decide) (hcd : (n == ("__classdict__" : Str)) = false := by decide) (hg : Gl X "isinstance" := by rfl) (hgy : Gl X y := by rfl) (hyd : (y == ("__debug__" : Str)) = false := by decide)
    (h1 : starEach [.Name n p2, .Name y p3] X.env = (false, eval (.Name n p2) X.env) :: starEach [.Name y p3] X.env := by rfl) (h2 : starEach [.Name y p3] X.env = (false, eval (.Name y p3) X.env) :: starEach [] X.env := by rfl) (hpl : (backTo pos (starEach [.Name y p3] X.env)).any (·.1) = false := by rfl) :
    PE (X.suite a ((a, oe) :: pn)) (.Call (.Name "isinstance" p) [.Name n p2, .Name y p3] [] pos) (tE X.K (eIsE i a b)) := by
  have := F.uni hg0
  subst this
  exact E_isE F.e hz hf m (pe_glob (X := X.suite a ((a, oe) :: pn)) (v := .ref D) hgy G.g rfl hyd) (fun w h => h) (kit_own G F.s (rel2 F G r)) hN hvis hd hcd hg h1 h2 hpl
theorem E_isB {T : String} (hg0 : X.mg c = some (.ref C)) (hz : Zc (.ref C) none oe) (hf : ∃ vs, oe.data = .fields vs) (F : ExF X.K X.mg c C0) (r : RelB X.K X.mg c T b) (hT : PySem.W.kitMeta T = true) (m : X.mg "isinstance" = none) (my : X.mg y = none) (hby : bootBuiltins y = some (.type T))
    (hN : X.N[i]? = some n := by rfl) (hvis : Vis X.env.scope n := by first | exact Or.inl rfl | exact Or.inr (Or.inl rfl) | exact Or.inr (Or.inr rfl)) (hd : (n == ("__debug__" : Str)) = false := by decide) (hcd : (n == ("__classdict__" : Str)) = false := by decide) (hg : Gl X "isinstance" := by rfl) (hgy : Gl X y := by rfl) (hyn : y ≠ "__name__" := by decide) (hyd : (y == ("__debug__" : Str)) = false := by decide)
    (h1 : starEach [.Name n p2, .Name y p3] X.env = (false, eval (.Name n p2) X.env) :: starEach [.Name y p3] X.env := by rfl) (h2 : starEach [.Name y p3] X.env = (false, eval (.Name y p3) X.env) :: starEach [] X.env := by rfl) (hpl : (backTo pos (starEach [.Name y p3] X.env)).any (·.1) = false := by rfl) :
    PE (X.suite a ((a, oe) :: pn)) (.Call (.Name "isinstance" p) [.Name n p2, .Name y p3] [] pos) (tE X.K (eIsE i a b)) := by
  obtain ⟨C', h3, h4⟩ := r
  have := F.uni hg0
  subst this
  rw [F.uni h3] at h4
  exact E_isE F.e hz hf m (pe_bltn (X := X.suite a ((a, oe) :: pn)) (v := .ty T) hgy my hby rfl hyn hyd) (fun w h => h) (kit_blt hT h4) hN hvis hd hcd hg h1 h2 hpl
end
/-! try -/
def unE (i : Nat) : Out → Out
  | .next e => .next (e.set i .no)
  | .brk e => .brk (e.set i .no)
  | .cont e => .cont (e.set i .no)
  | o => o
@[simp] theorem unE_ret (i : Nat) (r : RV) : unE i (.ret r) = .ret r := Eq.trans rfl rfl
@[simp] theorem unE_next (i : Nat) (e : Env) : unE i (.next e) = .next (e.set i .no) := Eq.trans rfl rfl
@[simp] theorem unE_bad (i : Nat) : unE i .bad = .bad := Eq.trans rfl rfl
@[simp] theorem unE_ite (i : Nat) (c : Prop) [Decidable c] (a b : Out) : unE i (if c then a else b) = if c then unE i a else unE i b := by split <;> rfl
abbrev Tab := List (Str × Option Nat × (Addr → Env → Out))
def runT (t : Option Nat × (Addr → Env → Out)) (env : Env) : Out := match t with
  | (some i, su) => unE i (su 0 (env.set i (.at 0)))
  | (none, su) => su 0 env
@[simp] theorem runT_some (i : Nat) (su : Addr → Env → Out) (env : Env) : runT (some i, su) env = unE i (su 0 (env.set i (.at 0))) := Eq.trans rfl rfl
@[simp] theorem runT_none (su : Addr → Env → Out) (env : Env) : runT (none, su) env = su 0 env := Eq.trans rfl rfl
def sTry (tab : Tab) (body : Env → Out) : Env → Out := fun env => match body env with
  | .exc c => match tab.lookup c with
    | some t => runT t env
    | none => .bad
  | o => o
@[simp] theorem sTry_ev (tab : Tab) (body : Env → Out) (env : Env) : sTry tab body env = match body env with
  | .exc c => match tab.lookup c with
    | some t => runT t env
    | none => .bad
  | o => o := Eq.trans rfl rfl
inductive SelT (K : PySem.W.Frag) (cls : Value) : List Cl → Option Nat → (Addr → Value → Option Addr → TS) → Prop
  | here {c : Value} {i : Option Nat} {ts : Addr → Value → Option Addr → TS} {r : List Cl} (h : PySem.W.exmOne K cls c = some true) : SelT K cls ((c, i, ts) :: r) i ts
  | there {c : Value} {i j : Option Nat} {ts tj : Addr → Value → Option Addr → TS} {r : List Cl} (h : PySem.W.exmOne K cls c = some false) (s : SelT K cls r i ts) : SelT K cls ((c, j, tj) :: r) i ts
def hOf (i : Option Nat) (ts : Addr → Value → Option Addr → TS) (cls : Value) (d : Option Addr) (D : Ends) (σ : L2.St) (H : Hp) (a : Addr) : Prop := match i with
  | none => ts a cls d D σ H
  | some i => ts a cls d (unN i D) (σ.set i (some (.ref a))) H
theorem selT_w {K : PySem.W.Frag} {cls : Value} {l : List Cl} {i : Option Nat} {ts : Addr → Value → Option Addr → TS} (s : SelT K cls l i ts) {Wout : WX} {D : Ends} {d : Option Addr} {σ : L2.St} {H : Hp}
    (h : ∀ a, H a = none → hOf i ts cls d D σ H a) : wN K Wout D l cls d σ H := by
  induction s with
  | @here c i ts r h1 =>
    cases i with
    | none => exact ⟨true, h1, fun _ => h, fun z => by cases z⟩
    | some i => exact ⟨true, h1, fun _ => h, fun z => by cases z⟩
  | @there c i j ts tj r h1 s ih =>
    cases j with
    | none => exact ⟨false, h1, (fun z => by cases z), fun _ => ih h⟩
    | some j => exact ⟨false, h1, (fun z => by cases z), fun _ => ih h⟩
def atI' (i : Option Nat) (a : Addr) (env : Env) : Env := match i with
  | none => env
  | some i => env.set i (.at a)
/-- what a clause's suite reads -/
def tSu (K : PySem.W.Frag) (mg : Str → Option Value) (l : List (Str × (Addr → Env → Out))) : Addr → Value → Option Addr → TS := fun a cls d D σ H => ∃ c C su, (c, su) ∈ l ∧ mg c = some (.ref C) ∧ cls = .ref C ∧ d = none ∧ tS K W0 (su a) D σ H
theorem su_ok {X : Cx} {su : List Stmt} {l : List (Str × (Addr → Env → Out))} (h : ∀ c s, (c, s) ∈ l → ∀ (a : Addr) (oe : Obj) (C : Addr) (pn : List (Addr × Obj)), X.mg c = some (.ref C) → Zc (.ref C) none oe → (∃ vs, oe.data = .fields vs) → PSs (X.suite a ((a, oe) :: pn)) su (tS X.K W0 (s a))) : SuOk X su (tSu X.K X.mg l) :=
  fun a oe cls d pn hz hf => ⟨fun pins s σ H D I ⟨c, C, su, hm, hg, hc, hd, q⟩ => by
    subst hc hd
    exact (h c su hm a oe C pn hg hz hf).run pins s σ H D I q⟩
theorem su_nil {X : Cx} {su : List Stmt} : SuOk X su (tSu X.K X.mg []) := su_ok fun c s hm => nomatch hm
theorem su_cons {X : Cx} {su : List Stmt} {l : List (Str × (Addr → Env → Out))} {c : Str} {s : Addr → Env → Out} (h : ∀ (a : Addr) (oe : Obj) (C : Addr) (pn : List (Addr × Obj)), X.mg c = some (.ref C) → Zc (.ref C) none oe → (∃ vs, oe.data = .fields vs) → PSs (X.suite a ((a, oe) :: pn)) su (tS X.K W0 (s a)))
    (r : SuOk X su (tSu X.K X.mg l)) : SuOk X su (tSu X.K X.mg ((c, s) :: l)) := fun a oe cls d pn hz hf => ⟨fun pins st σ H D I ⟨c', C, su', hm, hg, hc, hd, q⟩ => by
    subst hc hd
    rcases List.mem_cons.mp hm with e | hm
    · cases e
      exact (h a oe C pn hg hz hf).run pins st σ H D I q
    · exact (r a oe (.ref C) none pn hz hf).run pins st σ H D I ⟨c', C, su', hm, hg, rfl, rfl, q⟩⟩
structure TabOk (K : PySem.W.Frag) (mg : Str → Option Value) (l : List Cl) (c : Str) (i : Option Nat) (su : Addr → Env → Out) : Prop where
  ex : ∃ C ls, mg c = some (.ref C) ∧ SelT K (.ref C) l i (tSu K mg ls) ∧ (c, su) ∈ ls
  ind : ∀ a env, su a (atI' i a env) = su 0 (atI' i 0 env)
section
variable {X : Cx} {W : WO} {st : Stmt} {h₀ : ExceptHandler} {hds : List ExceptHandler} {l : List Cl} {pos : Pos} {body : Env → Out} {tab : Tab}
theorem EnvOk.setAt {K : PySem.W.Frag} {H0 Z0 Z H : Hp} {σ : L2.St} {env : Env} (h : EnvOk K H0 Z0 Z H σ env) (i : Nat) (a : Addr) : EnvOk K H0 Z0 Z H (σ.set i (some (.ref a))) (env.set i (.at a)) := by
  refine ⟨h.sz, h.s0, h.z0, h.no, by rw [List.length_set, List.length_set, h.len], fun j s e => ?_, fun x y q hab e1 e2 e3 e4 => ?_⟩
  · rcases get_set e with ⟨rfl, rfl⟩ | ⟨c, e'⟩
    · have hi : i < env.length := by
        have := (List.getElem?_eq_some_iff.mp e).1
        rw [List.length_set] at this
        exact this
      exact ⟨some (.ref a), by rw [List.getElem?_set_self (by rw [h.len]; exact hi)], rfl⟩
    · obtain ⟨o, h1, h2⟩ := h.at_ j s e'
      exact ⟨o, by rw [List.getElem?_set_ne c]; exact h1, h2⟩
  · rcases e1.set with ⟨_, z⟩ | ⟨c1, e1⟩
    · cases z
    · rcases e2.set with ⟨_, z⟩ | ⟨c2, e2⟩
      · cases z
      · rw [List.getElem?_set_ne c1] at e3
        rw [List.getElem?_set_ne c2] at e4
        exact h.sep x y q hab e1 e2 e3 e4
theorem EnvOk.setGone {K : PySem.W.Frag} {H0 Z0 Z H : Hp} {σ : L2.St} {env : Env} (h : EnvOk K H0 Z0 Z H σ env) (i : Nat) : EnvOk K H0 Z0 Z H (σ.set i none) (env.set i .no) := by
  refine ⟨h.sz, h.s0, h.z0, h.no, by rw [List.length_set, List.length_set, h.len], fun j s e => ?_, fun x y q hab e1 e2 e3 e4 => ?_⟩
  · rcases get_set e with ⟨rfl, rfl⟩ | ⟨c, e'⟩
    · have hi : i < env.length := by
        have := (List.getElem?_eq_some_iff.mp e).1
        rw [List.length_set] at this
        exact this
      exact ⟨none, by rw [List.getElem?_set_self (by rw [h.len]; exact hi)], True.intro⟩
    · obtain ⟨o, h1, h2⟩ := h.at_ j s e'
      exact ⟨o, by rw [List.getElem?_set_ne c]; exact h1, h2⟩
  · rcases e1.set with ⟨_, z⟩ | ⟨c1, e1⟩
    · cases z
    · rcases e2.set with ⟨_, z⟩ | ⟨c2, e2⟩
      · cases z
      · rw [List.getElem?_set_ne c1] at e3
        rw [List.getElem?_set_ne c2] at e4
        exact h.sep x y q hab e1 e2 e3 e4
theorem unE_out {K : PySem.W.Frag} {H0 Z0 : Hp} {D : Ends} {o : Out} {i : Nat} (h : OutOk K W0 H0 Z0 D (unE i o)) : OutOk K W0 H0 Z0 (unN i D) o := by
  cases o with
  | exc c => exact h.elim
  | next e => exact fun Z σ H hE => h Z _ H (hE.setGone i)
  | ret r => exact h
  | brk e => exact fun Z σ H hE => h Z _ H (hE.setGone i)
  | cont e => exact fun Z σ H hE => h Z _ H (hE.setGone i)
  | bad => exact h
/-- try: one statement, several clauses whose suites raise nothing -/
theorem S_try (hs : X.stack = X.env :: X.outer) (hf : X.env.frame = some X.env.locals) (hN : X.N.Nodup)
    (hb : ∀ (Wb : WX) (pn : List (Addr × Obj)) (xe : Value → Shared → Prop), Takes (X.tr pn xe) Wb → PassesOwn (model X.prog X.w) X.A X.env xe → PS (X.tr pn xe) st (tB X.K X.mg Wb body))
    (hh : HdsN X (h₀ :: hds) l) (ht : ∀ c i su, (c, i, su) ∈ tab → TabOk X.K X.mg l c i su) :
    PS X (.Try [st] (h₀ :: hds) [] [] pos) (tS X.K W0 (sTry tab body)) :=
  ps_mono (ps_try_n hs hf hN takes_none5 (fun Wb pn xe tk hp => pss_one (hb Wb pn xe tk hp)) hh) fun D σ H ⟨H0, Z0, Z, env, hE, q⟩ => by
    refine ⟨H0, Z0, Z, env, hE, ?_⟩
    unfold sTry at q
    cases hbd : body env with
    | exc c =>
      rw [hbd] at q
      simp only at q ⊢
      intro Z' H' e
      cases hl : tab.lookup c with
      | none => rw [hl] at q; exact q.elim
      | some t =>
        rw [hl] at q
        simp only at q
        obtain ⟨i, su⟩ := t
        have mem : (c, i, su) ∈ tab := by
          have : ∀ (tb : Tab), tb.lookup c = some (i, su) → (c, i, su) ∈ tb := by
            intro tb
            induction tb with
            | nil => intro z; cases z
            | cons x r ih =>
              intro z
              obtain ⟨x1, x2⟩ := x
              rw [List.lookup_cons] at z
              split at z
              · rename_i hx
                cases z
                rw [beq_iff_eq] at hx
                subst hx
                exact List.mem_cons_self
              · exact List.mem_cons_of_mem _ (ih z)
          exact this tab hl
        obtain ⟨⟨C, ls, hg, hsel, hmem⟩, hind⟩ := ht c i su mem
        refine ⟨C, hg, selT_w hsel fun a ha => ?_⟩
        cases i with
        | none =>
          refine ⟨c, C, su, hmem, hg, rfl, rfl, H0, Z0, Z', env, hE.ext e, ?_⟩
          have h1 : su a env = su 0 env := hind a env
          rw [h1]
          exact q
        | some i =>
          refine ⟨c, C, su, hmem, hg, rfl, rfl, H0, Z0, Z', _, (hE.ext e).setAt i a, ?_⟩
          have h1 : su a (env.set i (.at a)) = su 0 (env.set i (.at 0)) := hind a env
          rw [h1]
          exact unE_out q
    | next e => rw [hbd] at q; exact q
    | ret r => rw [hbd] at q; exact q
    | brk e => rw [hbd] at q; exact q
    | cont e => rw [hbd] at q; exact q
    | bad => rw [hbd] at q; exact q.elim
theorem tab_nil {K : PySem.W.Frag} {mg : Str → Option Value} {l : List Cl} : ∀ c i su, (c, i, su) ∈ ([] : Tab) → TabOk K mg l c i su := fun _ _ _ h => nomatch h
theorem tab_cons {K : PySem.W.Frag} {mg : Str → Option Value} {l : List Cl} {c : Str} {i : Option Nat} {su : Addr → Env → Out} {t : Tab} (h : TabOk K mg l c i su) (r : ∀ c i su, (c, i, su) ∈ t → TabOk K mg l c i su) : ∀ c' i' su', (c', i', su') ∈ (c, i, su) :: t → TabOk K mg l c' i' su' := fun c' i' su' hm => by
  rcases List.mem_cons.mp hm with e | hm
  · cases e; exact h
  · exact r _ _ _ hm
end
end PV

set_option Elab.async false
set_option linter.all false
set_option maxRecDepth 100000
/-! ### a text no times, or once -/
namespace PV
open PySem PySem.Spec L2 PyProof.Rows
set_option autoImplicit false
def rMulS : R2 := fun x y H Q => ∃ a n, x = .str a ∧ y = .int n ∧ MulOk a n ∧ Q (.str (Txt.mul a n)) H
theorem op_mulS {X : Cx} : OpR X (binaryOp .Mult) rMulS := fun pins s σ H x y v u Q I rx ry h => by
  obtain ⟨a, n, rfl, rfl, ok, q⟩ := h
  obtain ⟨t, rfl⟩ := rx
  obtain ⟨t2, rfl⟩ := ry
  exact SB.mul ok fun t' k => ⟨.str (Txt.mul a n), H, I.kept (t' := k) fun _ _ z => z, ⟨t', rfl⟩, q⟩
def gMulS : D → D → Res D
  | .str x, .int n => if n = 0 then .ok (.str "") else if n = 1 then .ok (.str x) else .bad
  | _, _ => .bad
@[simp] theorem gMulS_0 (x : Str) : gMulS (.str x) (.int 0) = .ok (.str "") := Eq.trans rfl rfl
@[simp] theorem gMulS_1 (x : Str) : gMulS (.str x) (.int 1) = .ok (.str x) := Eq.trans rfl rfl
theorem gMulS_ok {K : PySem.W.Frag} : OpD K rMulS gMulS := by
  intro Z H v w x y d Q s hx hy hg q
  unfold gMulS at hg
  split at hg
  · rename_i a n
    have := hx.str; subst this
    have := hy.int; subst this
    split at hg
    · rename_i h0
      subst h0
      cases hg
      refine ⟨a, 0, rfl, rfl, ⟨by decide, (fun h => absurd (by decide) h), (fun h => absurd (by decide) h)⟩, ?_⟩
      have e : Txt.mul a 0 = ("" : Str) := rfl
      rw [e]
      exact q _ H Z (.refl s) (.str _)
    · split at hg
      · rename_i h1
        subst h1
        cases hg
        have k : ((1 : Int) == 1 || a.length == 0) = true := rfl
        refine ⟨a, 1, rfl, rfl, ⟨by decide, (fun _ h => by rw [k] at h; cases h), (fun _ h => by rw [k] at h; cases h)⟩, ?_⟩
        have e : Txt.mul a 1 = a := by
          unfold Txt.mul
          rw [if_neg (by decide), if_pos k]
        rw [e]
        exact q _ H Z (.refl s) (.str _)
      · cases hg
  · cases hg
@[simp] theorem andThen_exc (c : Str) (g : Env → Out) : (Out.exc c).andThen g = .exc c := Eq.trans rfl rfl
end PV

set_option Elab.async false
set_option linter.all false
set_option maxRecDepth 100000
/-! ### any list, so many times -/
namespace PV
open PySem PySem.Spec L2 PyProof.Rows
set_option autoImplicit false
theorem mulL (l : Addr) (items : Array Value) (n : Nat) (sl : Array (Option Value)) (x : Int) (u : Tok) (hc0 : ¬(!Builtin.List.listFitsIndex x) = true) (hc1 : ¬items.size * x.toNat > (2 ^ 63 - 1) / 8) (hc2 : ¬Builtin.List.listTooLong (items.size * x.toNat) = true) :
    Meets (Builtin.«list.__mul__» ⟨[.ref l, .int x u], []⟩) (fun _ R s => s.heap.get? l = some { cls := .type "list", dict := none, data := .seq items n, slots := sl } ∧ R (.ok (.ret (Value.ref s.heap.objs.size))) { s with heap := s.heap.push { cls := Value.type "list", data := Data.seq (List.foldl (fun x1 x2 => x1 ++ x2) #[] (List.replicate (if items.isEmpty = true then 0 else x.toNat) items)) }, toks := s.toks }) :=
  .of_wp fun prog w A R s h => by
    obtain ⟨hp, g, d, tk, os⟩ := s; obtain ⟨hl, h⟩ := h
    have hsz := AutoListH.joined_fits hc2
    wp_walk; refine wpAny_ite_false (decide_eq_false (Nat.not_lt.mpr hsz)) ?_; wp_walk; exact ⟨_, rfl, h⟩
theorem rmulL (a : Int) (t : Tok) (l : Addr) (items : Array Value) (n : Nat) (sl : Array (Option Value)) :
    Meets (Builtin.«int.__rmul__» ⟨[.int a t, .ref l], []⟩) (fun _ R s => s.heap.get? l = some { cls := .type "list", dict := none, data := .seq items n, slots := sl } ∧ R (.ok (.ret Value.notImplemented)) s) :=
  .of_wp fun prog w A R s h => by obtain ⟨hp, g, d, tk, os⟩ := s; obtain ⟨hl, h⟩ := h; wp_walk; exact ⟨_, rfl, h⟩
def rRepG (K : PySem.W.Frag) : R2 := fun x y H Q => ∃ l k xs, x = .ref l ∧ y = .int k ∧ SqL K H l xs ∧ -(2 ^ 63) ≤ k ∧ k < 2 ^ 63 ∧ xs.length * k.toNat ≤ sizeLine ∧
  ∀ p, H p = none → Q (.ref p) (upd H p (.lst (List.replicate k.toNat xs).flatten))
theorem op_repG {X : Cx} : OpR X (binaryOp .Mult) (rRepG X.K) := by
  intro pins s σ H x y v u Q I rx ry h
  obtain ⟨l, k, xs, rfl, rfl, hH, h1, h2, hz, q⟩ := h
  cases rx
  obtain ⟨t, rfl⟩ := ry
  obtain ⟨its, r, ⟨o, n, e, ec, ed, es⟩, hm⟩ := I.list hH
  obtain ⟨oc, od, oda, sl⟩ := o
  simp only at ec ed es
  subst ec ed es
  have hl : xs.length = its.length := r.length
  have hlen : its.toArray.size * k.toNat ≤ sizeLine := by rw [List.size_toArray, ← hl]; exact hz
  have hcap : ¬ its.toArray.size * k.toNat > (2 ^ 63 - 1) / 8 := by
    have : (sizeLine : Nat) ≤ (2 ^ 63 - 1) / 8 := by decide
    omega
  have hfit : ¬ (!Builtin.List.listFitsIndex k) = true := by
    rw [fitsIndex_both h1 h2]
    exact Bool.false_ne_true
  have hlong : ¬ Builtin.List.listTooLong (its.toArray.size * k.toNat) = true := by
    rw [notLongL hlen]
    exact Bool.false_ne_true
  have hnew : List.foldl (fun x1 x2 => x1 ++ x2) #[] (List.replicate (if its.toArray.isEmpty = true then 0 else k.toNat) its.toArray) = (List.replicate k.toNat its).flatten.toArray := by
    have f0 : ∀ m : Nat, List.foldl (fun x1 x2 => x1 ++ x2) #[] (List.replicate m its.toArray) = (List.replicate m its).flatten.toArray := fun m => by
      have := foldl_rep its m []
      rw [List.nil_append] at this
      exact this
    rw [f0]
    cases its with
    | nil => simp
    | cons a r' => rw [if_neg (by simp)]
  refine wpAny_binaryOp_repeat_ref (T := "list") (U := "int") (by decide) ⟨_, e, rfl⟩ (fun s' => typeIs_int s' k t) noFill_list_mul F.fills_int_mul F.slot_int_rmul repeat_list F.slot_int_index.lookup
    (call_meets F.slot_int_rmul (typeIs_int s k t) F.entry_int_rmul (F.args_int_rmul_2 _ _) (rmulL k t l its.toArray n sl)
      ⟨e, rfl, ⟨_, e, rfl⟩, call_meets F.slot_list_mul ⟨_, e, rfl⟩ F.entry_list_mul (F.args_list_mul_2 _ _) (mulL l its.toArray n sl k t hfit hcap hlong) ⟨e, ?_⟩⟩)
  rw [hnew]
  exact ⟨.ref _, _, I.lnew (t' := s.toks) (r.rep k.toNat) (by rw [PyProof.Rows.lm_len_rep_flat, Nat.mul_comm]; exact hz), rfl, q _ I.fresh⟩
def gRepL : D → D → Res RV
  | .list xs, .int k => if smallI k = true ∧ xs.length * k.toNat < 1000000 then .ok ⟨.list (List.replicate k.toNat xs).flatten, true⟩ else .bad
  | _, _ => .bad
@[simp] theorem gRepL_l (xs : List D) (k : Int) : gRepL (.list xs) (.int k) = if smallI k = true ∧ xs.length * k.toNat < 1000000 then .ok ⟨.list (List.replicate k.toNat xs).flatten, true⟩ else .bad := Eq.trans rfl rfl
theorem gRepL_ok {K : PySem.W.Frag} : OpV K (rRepG K) gRepL := by
  intro Z H v w x y d Q s hx hy hg q
  unfold gRepL at hg
  split at hg
  · obtain ⟨⟨k1, k2⟩, hg⟩ := ite_ok hg
    cases hg
    obtain ⟨p, vs, rfl, g1, g2⟩ := hx.list s
    have := hy.int; subst this
    have s1 := smallI_ok k1
    refine ⟨p, _, vs, rfl, rfl, g1, by omega, by omega, by rw [dps_length g2]; exact Nat.le_of_lt (lim_ok k2), fun p2 hp => ?_⟩
    exact q _ _ _ (.made s hp) ⟨p2, _, _, rfl, rfl, hp, s.free hp, upd_same, dps_rep g2 _⟩
  · cases hg
end PV

set_option Elab.async false
set_option linter.all false
set_option maxRecDepth 100000
/-! ### xs[i], xs[j] = (a, b) -/
namespace PV
open PySem PySem.Spec L2 PyProof.Rows
set_option autoImplicit false
/-- xs[k] = d -/
def putIx (i : Nat) (k d : D) (env : Env) : Res Env := match env[i]?, k with
  | some (.own ds), .int z => match ixN ds.length z with
    | some j => .ok (env.set i (.own (ds.set j d)))
    | none => .bad
  | _, _ => .bad
def sPut2 (i : Nat) (f1 f2 : Env → Res D) (fe : Env → Res D) : Env → Out := fun env => (fe env).out fun d => match d with
  | .tuple [d1, d2] => (f1 env).out fun k1 => (putIx i k1 d1 env).out fun env1 => (f2 env1).out fun k2 => (putIx i k2 d2 env1).out fun env2 => .next env2
  | _ => .bad
@[simp] theorem sPut2_ev (i : Nat) (f1 f2 : Env → Res D) (fe : Env → Res D) (env : Env) : sPut2 i f1 f2 fe env = (fe env).out fun d => match d with
  | .tuple [d1, d2] => (f1 env).out fun k1 => (putIx i k1 d1 env).out fun env1 => (f2 env1).out fun k2 => (putIx i k2 d2 env1).out fun env2 => .next env2
  | _ => .bad := Eq.trans rfl rfl
@[simp] theorem putIx_ev (i : Nat) (k d : D) (env : Env) : putIx i k d env = match env[i]?, k with
  | some (.own ds), .int z => match ixN ds.length z with
    | some j => .ok (env.set i (.own (ds.set j d)))
    | none => .bad
  | _, _ => .bad := Eq.trans rfl rfl
theorem putIx_eq {i : Nat} {k d : D} {env env' : Env} (h : putIx i k d env = .ok env') : ∃ ds z j, env[i]? = some (.own ds) ∧ k = .int z ∧ ixN ds.length z = some j ∧ env' = env.set i (.own (ds.set j d)) := by
  unfold putIx at h
  split at h
  · rename_i ds z e
    split at h
    · rename_i j hj
      cases h
      exact ⟨ds, z, j, e, rfl, hj, rfl⟩
    · cases h
  · cases h
theorem S_put2 {X : Cx} {W : WO} (i : Nat) {x : Str} {b1 b2 e : Expr} {p1 p2 q1 q2 pt pos : Pos} {kt : Nat} {f1 f2 fe : Env → Res D} (he : PE X e (tE X.K fe)) (h1 : PE X b1 (tE X.K f1)) (h2 : PE X b2 (tE X.K f2)) (hc : X.calm = true := by rfl) (hN : X.N[i]? = some x := by rfl)
    (hv : Vis X.env.scope x := by first | exact Or.inl rfl | exact Or.inr (Or.inl rfl) | exact Or.inr (Or.inr rfl)) (hd : (x == ("__debug__" : Str)) = false := by decide) (hcd : (x == ("__classdict__" : Str)) = false := by decide)
    (hs : swapsWithSole [.Tuple [.Subscript (.Name x p1) b1 q1, .Subscript (.Name x p2) b2 q2] kt pt] e pos.line X.env = pure false := by rfl) (hw : swappedStores [.Tuple [.Subscript (.Name x p1) b1 q1, .Subscript (.Name x p2) b2 q2] kt pt] e X.env = pure none := by rfl)
    (hm : (assignEach [.Tuple [.Subscript (.Name x p1) b1 q1, .Subscript (.Name x p2) b2 q2] kt pt] X.env).map (·.2) = [assign (.Tuple [.Subscript (.Name x p1) b1 q1, .Subscript (.Name x p2) b2 q2] kt pt) X.env] := by rfl)
    (ha1 : ∀ v, assign (.Subscript (.Name x p1) b1 q1) X.env v = (do
      let ov ← holding [v] (eval (.Name x p1) X.env)
      let iv ← holding [v, ov] (eval b1 X.env)
      standAt q1
      holding [v, ov, iv] (setItem ov iv v)
      release [v, ov, iv] []) := by intro _; rfl)
    (ha2 : ∀ v, assign (.Subscript (.Name x p2) b2 q2) X.env v = (do
      let ov ← holding [v] (eval (.Name x p2) X.env)
      let iv ← holding [v, ov] (eval b2 X.env)
      standAt q2
      holding [v, ov, iv] (setItem ov iv v)
      release [v, ov, iv] []) := by intro _; rfl)
    (hl : (assignEach [.Subscript (.Name x p1) b1 q1, .Subscript (.Name x p2) b2 q2] X.env).length = 2 := by rfl) (hst : (assignEach [.Subscript (.Name x p1) b1 q1, .Subscript (.Name x p2) b2 q2] X.env).findIdx? (·.1) = none := by rfl)
    (hs1 : (assignEach [.Subscript (.Name x p1) b1 q1, .Subscript (.Name x p2) b2 q2] X.env).map (·.2) = assign (.Subscript (.Name x p1) b1 q1) X.env :: (assignEach [.Subscript (.Name x p2) b2 q2] X.env).map (·.2) := by rfl)
    (hs2 : (assignEach [.Subscript (.Name x p2) b2 q2] X.env).map (·.2) = assign (.Subscript (.Name x p2) b2 q2) X.env :: (assignEach [] X.env).map (·.2) := by rfl) :
    PS X (.Assign [.Tuple [.Subscript (.Name x p1) b1 q1, .Subscript (.Name x p2) b2 q2] kt pt] e pos) (tS X.K W (sPut2 i f1 f2 fe)) :=
  ps_mono (ps_asg he (pg_tup hc (pgs_cons (pg_sub (pe_var hN hv hd hcd) h1 set_list ha1) (pgs_cons (pg_sub (pe_var hN hv hd hcd) h2 set_list ha2) pgs_nil hs2) hs1) hl hst) hs hw hm) fun E σ H ⟨H0, Z0, Z, env, hE, q⟩ => by
    obtain ⟨d, k1, k2⟩ := Res.out_eq q
    refine ⟨H0, Z0, Z, env, d, hE, k1, fun v H1 Z1 e1 hdv => ?_⟩
    split at k2
    · rename_i d1 d2
      obtain ⟨i1, g1, k2⟩ := Res.out_eq k2
      obtain ⟨env1, g2, k2⟩ := Res.out_eq k2
      obtain ⟨i2, g3, k2⟩ := Res.out_eq k2
      obtain ⟨env2, g4, k2⟩ := Res.out_eq k2
      obtain ⟨ds, z, j, c1, rfl, c2, rfl⟩ := putIx_eq g2
      obtain ⟨ds2, z2, j2, c3, rfl, c4, rfl⟩ := putIx_eq g4
      cases hdv with
      | tup t1 t2 =>
        have hE1 := hE.ext e1
        obtain ⟨p, vs, o1, o2, o3, o4, o5⟩ := hE1.own c1
        have len := dps_length t2
        cases t2 with
        | cons da db =>
          cases db with
          | cons db dn =>
            cases dn
            refine ⟨_, _, rfl, seqT e1.zh t1, rfl, _, _, rfl, _, o1, H0, Z0, Z1, env, _, hE1, g1, fun iv H2 Z2 e2 hi => ?_⟩
            cases hi
            have hE2 := hE1.ext e2
            obtain ⟨p', vs', f1', f2', f3', f4', f5'⟩ := hE2.own c1
            rw [o1] at f1'; cases f1'
            refine ⟨p, vs', z, j, rfl, rfl, f2', by rw [dps_length f5']; exact c2, ?_⟩
            have hE3 := hE2.mut c1 o1 (dps_set j f5' (dp_mono e2.zz da))
            obtain ⟨p3, vs3, r1, r2, r3, r4, r5⟩ := hE3.own c3
            refine ⟨_, _, rfl, _, r1, H0, Z0, Z2, _, _, hE3, g3, fun iv H4 Z4 e4 hi => ?_⟩
            cases hi
            have hE4 := hE3.ext e4
            obtain ⟨p5, vs5, w1, w2, w3, w4, w5⟩ := hE4.own c3
            rw [r1] at w1; cases w1
            refine ⟨p3, vs5, z2, j2, rfl, rfl, w2, by rw [dps_length w5]; exact c4, ?_⟩
            exact ⟨rfl, k2 Z4 σ _ (hE4.mut c3 r1 (dps_set j2 w5 (dp_mono (e2.zz.trans e4.zz) db)))⟩
    · exact k2.elim
end PV

set_option Elab.async false
set_option linter.all false
set_option maxRecDepth 100000
/-! ### values whose lists are new; `told = f(x)`, `if ..: return False`, `told[0].append(..)` -/
namespace PV
open PySem PySem.Spec L2 PyProof.Rows
set_option autoImplicit false
def nonD : D → Bool
  | .none => true
  | _ => false
/-- a value whose lists are new -/
def tN (K : PySem.W.Frag) (f : Env → Res D) : TE := fun σ H Q => ∃ H0 Z0 Z env d, EnvOk K H0 Z0 Z H σ env ∧ f env = .ok d ∧ ∀ v H' Z', Ext Z H Z' H' → Dp K Z' v d → (nonD d = false → NewV H H' v d) → Q v H'
def tAN (K : PySem.W.Frag) (f : Env → Res (List D)) : TA := fun σ H Q => ∃ H0 Z0 Z env ds, EnvOk K H0 Z0 Z H σ env ∧ f env = .ok ds ∧ ∀ vs H' Z', Ext Z H Z' H' → DpAll K Z' vs ds →
  (∀ (k : Nat) (es : List D), ds[k]? = some (.list es) → ∃ q ws, vs[k]? = some (.ref q) ∧ H q = none ∧ H' q = some (.lst ws) ∧ ws.length = es.length) → Q vs H'
def spN (K : PySem.W.Frag) (m : List D → Res RV) : Sp := fun vs H Q _ => ∃ Z ds r, Same Z H ∧ DpAll K Z vs ds ∧ m ds = .ok r ∧ ∀ v H' Z', Ext Z H Z' H' → RepV K H Z' H' v r → (nonD r.d = false → NewV H H' v r.d) → Q v H'
structure CalN (P : Program) (w : World) (K : PySem.W.Frag) (mg : Str → Option Value) (base : Heap) (x : Str) (k : Nat) (m : List D → Res RV) : Prop where
  ex : ∃ f fd ps, FnOk P w K mg base CX0 k f fd ps (spN K m) ∧ mg x = some (.ref f) ∧ PySem.W.keepIn K (.ref f) = true ∧ Binds K fd ps []
section
variable {P : Program} {w : World} {K : PySem.W.Frag} {mg : Str → Option Value} {base : Heap}
theorem IsNew.pre {H0 H1 H : Hp} {p : Addr} {vs : List V} {ds : List D} (h : IsNew H1 H p vs ds) (s : Same H0 H1) : IsNew H0 H p vs ds :=
  ⟨h.1, fun k es e => let ⟨q, ws, a, b, c, d⟩ := h.2 k es e; ⟨q, ws, a, b, s.free c, d⟩⟩
theorem NewV.pre {H0 H1 H : Hp} {v : V} {d : D} (h : NewV H1 H v d) (s : Same H0 H1) : NewV H0 H v d := by
  cases d with
  | list ds => obtain ⟨p, vs, h1, h2, h3, h4⟩ := h; exact ⟨p, vs, h1, s.free h2, h3, h4.pre s⟩
  | tuple ds => obtain ⟨p, vs, h1, h2, h3, h4⟩ := h; exact ⟨p, vs, h1, s.free h2, h3, h4.pre s⟩
  | _ => exact h.elim
theorem fn_okN {x qual : Str} {st : Stmt} {f : Addr} {fd : FuncData} {N ps : List Str} {k np n : Nat} {body : Env → Out} {m : List D → Res RV} (F : Fun K x qual st f fd) (S : FnScope N ps (defScope st)) (hm : m = fnM np n body) (hnp : ps.length = np) (hn : N.length = n) (hN : np ≤ n)
    (hbody : ∀ (cdv : Value) (A : Around) (outer : List PySem.Env) (s : Shared) (H : Hp) (E : XK), Room k (A.deeper (PyProof.Rows.envOfC qual (defScope st) s.heap.objs.size f cdv)) →
      PSs (cxOf CX0 P w K mg base N qual (defScope st) f cdv A outer s H E).nox (defBody st) (tS K ⟨none, true⟩ body)) : FnOk P w K mg base CX0 (k + 1) f fd ps (spN K m) := by
  subst hm hnp hn
  have len : ∀ vs H Q E, spN K (fnM ps.length N.length body) vs H Q E → vs.length = ps.length := fun vs H Q E ⟨Z, ds, r, _, h, hm, _⟩ => by
    rw [dps_length h]
    exact (ite_ok hm).1
  refine F.ok S len fun cdv A outer s H vs Q E hr h => ⟨_, hbody cdv A outer s H E hr, ?_⟩
  have hl := len vs H Q E h
  obtain ⟨Z, ds, r, sz, hd, hm, q⟩ := h
  have hm := (ite_ok hm).2
  refine ⟨H, Z, Z, _, env_start sz hd (by rw [hl]; exact hN), ?_⟩
  cases hb : body (ds.map Sl.fz ++ List.replicate (N.length - ds.length) Sl.no) with
  | ret r' =>
    rw [hb] at hm
    cases hm
    exact fun Z' v H' ⟨e, hr⟩ hn => q v H' Z' e hr fun _ => hn rfl
  | next env' =>
    rw [hb] at hm
    cases hm
    exact fun Z' σ' H' hE => q .non H' Z' hE.toExt .non fun z => by cases z
  | exc c => rw [hb] at hm; cases hm
  | bad => rw [hb] at hm; cases hm
  | brk e => rw [hb] at hm; cases hm
  | cont e => rw [hb] at hm; cases hm
theorem okN_ok {f : Addr} {fd : FuncData} {ps : List Str} {k : Nat} {m : List D → Res RV} (F : FnOk P w K mg base CX0 k f fd ps (spN K m)) : FnOk P w K mg base CX0 k f fd ps (spD K m) :=
  F.imp fun vs H Q E ⟨Z, ds, r, h1, h2, h3, q⟩ => ⟨Z, ds, r, h1, h2, h3, fun v H' Z' e hr _ => q v H' Z' e hr⟩
theorem calN_mk {x : Str} {st : Stmt} {f : Addr} {fd : FuncData} {ps : List Str} {k : Nat} {m : List D → Res RV} (F : Fun K x x st f fd) (g : mg x = some (.ref f)) (b : Binds K fd ps []) (h : FnOk P w K mg base CX0 k f fd ps (spN K m)) : CalN P w K mg base x k m :=
  ⟨f, fd, ps, h, g, F.kp, b⟩
end
section
variable {X : Cx} {W : WO} {st : Stmt} {rest : List Stmt} {x y : Str} {k j i : Nat} {p p2 pos : Pos} {e c : Expr} {es : List Expr} {f : Env → Res D} {fs : Env → Res (List D)} {m : List D → Res RV} {g : Env → Out}
/-! a call, a display of calls -/
theorem N_call (C : CalN X.prog X.w X.K X.mg X.base x k m) (hr : Room j X.A) (ha : PA X (e :: es) (tA X.K fs)) (hk : k ≤ j := by decide) (hg : Gl X x := by rfl) (hdb : (x == ("__debug__" : Str)) = false := by decide)
    (he : starEach (e :: es) X.env = (false, eval e X.env) :: starEach es X.env := by rfl) (hpl : (backTo pos (starEach es X.env)).any (·.1) = false := by rfl) : PE X (.Call (.Name x p) (e :: es) [] pos) (tN X.K (eV (eCall m fs))) := by
  obtain ⟨f, fd, ps, F, hm, kp, b⟩ := C.ex
  refine pe_mono (pe_call F (hr.mono hk) hg hm kp b .nil pass0 ha hdb he hpl) fun σ H Q ⟨H0, Z0, Z, env, d, hE, hf, q⟩ => ?_
  obtain ⟨r, h0, h3⟩ := Res.bind_eq hf
  cases h3
  obtain ⟨ds, h1, h2⟩ := Res.bind_eq h0
  refine ⟨H0, Z0, Z, env, ds, hE, h1, fun vs H1 Z1 e1 d1 => ⟨Z1, ds, r, e1.zh, by rw [List.append_nil]; exact d1, h2, fun v H' Z' e2 hr hn => ?_⟩⟩
  obtain ⟨Z2, e3, hd⟩ := (hr.pre e1.hh).frozen (e1.trans e2)
  exact q v H' Z2 e3 hd fun z => (hn z).pre e1.hh
def aConsN (fv : Env → Res RV) (fs : Env → Res (List D)) : Env → Res (List D) := fun env => (fv env).bind fun r => if r.fr = true then (fs env).bind fun ds => .ok (r.d :: ds) else .bad
@[simp] theorem aConsN_ev (fv : Env → Res RV) (fs : Env → Res (List D)) (env : Env) : aConsN fv fs env = (fv env).bind fun r => if r.fr = true then (fs env).bind fun ds => .ok (r.d :: ds) else .bad := Eq.trans rfl rfl
theorem AN_nil : PA X [] (tAN X.K aNil) := pa_mono pa_nil fun σ H Q ⟨H0, Z0, Z, env, ds, hE, hf, q⟩ => by
  cases hf
  exact q [] H Z (.refl hE.sz) .nil fun k es e => by simp at e
theorem AN_cons {fv : Env → Res RV} (ha : PE X e (tV X.K fv)) (hr : PA X es (tAN X.K fs)) (hs : starEach (e :: es) X.env = (false, eval e X.env) :: starEach es X.env := by rfl) : PA X (e :: es) (tAN X.K (aConsN fv fs)) := pa_mono (pa_cons ha hr hs) fun σ H Q ⟨H0, Z0, Z, env, ds, hE, hf, q⟩ => by
  obtain ⟨r, h1, h2⟩ := Res.bind_eq hf
  obtain ⟨hfr, h2⟩ := ite_ok h2
  obtain ⟨ds', h3, h4⟩ := Res.bind_eq h2
  cases h4
  refine ⟨H0, Z0, Z, env, r, hE, h1, fun v H1 Z1 e1 hv => ?_⟩
  obtain ⟨Z1', e1', hd⟩ := hv.frozen e1
  obtain ⟨rd, rfr⟩ := r
  have hfr : rfr = true := hfr
  subst hfr
  obtain ⟨p, vs0, ds0, rfl, ed, k1, k2, k3, k4⟩ := hv
  have ed : rd = .list ds0 := ed
  subst ed
  refine ⟨H0, Z0, Z1', env, ds', hE.ext e1', h3, fun vs H2 Z2 e2 d2 hn => q _ H2 Z2 (e1'.trans e2) (.cons (dp_mono e2.zz hd) d2) fun k es e => ?_⟩
  cases k with
  | zero =>
    simp at e
    subst e
    exact ⟨p, vs0, rfl, k1, e2.hh _ _ k3, dps_length k4⟩
  | succ k =>
    obtain ⟨q, ws, a, b, c, d⟩ := hn k es (by simpa using e)
    exact ⟨q, ws, by simpa using a, e1'.hh.free b, c, d⟩
theorem N_lst (h : PA X es (tAN X.K fs)) : PE X (.List es pos) (tN X.K (eV (eLst fs))) := pe_mono (pe_lst h) fun σ H Q ⟨H0, Z0, Z, env, d, hE, hf, q⟩ => by
  obtain ⟨r, h0, h3⟩ := Res.bind_eq hf
  cases h3
  obtain ⟨ds, h1, h0⟩ := Res.bind_eq h0
  obtain ⟨h2, h3⟩ := ite_ok h0
  cases h3
  refine ⟨H0, Z0, Z, env, ds, hE, h1, fun vs H1 Z1 e1 d1 hn => ⟨?_, fun p hp => ?_⟩⟩
  · rw [dps_length d1]; exact Nat.le_of_lt (lim_ok h2)
  · refine q _ _ _ (e1.trans (Ext.new e1.zh hp)) (.lst (.of upd_same) (dps_mono (same_upd (e1.zh.free hp)) d1)) fun _ => ⟨p, vs, rfl, e1.hh.free hp, upd_same, dps_length d1, fun k es e => ?_⟩
    obtain ⟨q, ws, a, b, c, d⟩ := hn k es e
    have : q ≠ p := fun z => by rw [z, hp] at c; cases c
    exact ⟨q, ws, a, this, b, by rw [upd_ne this]; exact c, d⟩
/-! what is handed back -/
def sRetTO (i : Nat) (fe : Env → Res D) : Env → Out := fun env => match env[i]? with
  | some (.own ds) => (fe (env.set i (.fz (.list ds)))).out fun d => match d with
    | .int z => .ret ⟨.tuple [.list ds, .int z], false⟩
    | _ => .bad
  | _ => .bad
theorem S_retTO (i : Nat) {x1} {p3 : Pos} (he : PE X e (tE X.K f)) (hN : X.N[i]? = some x := by rfl) (hv : Vis X.env.scope x := by first | exact Or.inl rfl | exact Or.inr (Or.inl rfl) | exact Or.inr (Or.inr rfl)) (hd : (x == ("__debug__" : Str)) = false := by decide)
    (hcd : (x == ("__classdict__" : Str)) = false := by decide) (hs : starEach [.Name x p, e] X.env = (false, eval (.Name x p) X.env) :: starEach [e] X.env := by rfl) (hs2 : starEach [e] X.env = (false, eval e X.env) :: starEach [] X.env := by rfl) :
    PS X (.Return (some (.Tuple [.Name x p, e] x1 p3)) pos) (tS X.K W (sRetTO i f)) := ps_mono (ps_ret (pe_tup (pa_cons (pe_var hN hv hd hcd) (pa_cons he pa_nil hs2) hs))) fun E σ H ⟨H0, Z0, Z, env, hE, q⟩ => by
  unfold sRetTO at q
  split at q
  · rename_i ds e0
    obtain ⟨d, k1, k2⟩ := Res.out_eq q
    split at k2
    · rename_i z
      obtain ⟨a, vs, h1, h2, h3, h4, h5⟩ := hE.own e0
      have hF : ∃ Z', EnvOk X.K H0 Z0 Z' H σ (env.set i (.fz (.list ds))) := hE.freeze e0
      obtain ⟨Z1, hE1⟩ := hF
      obtain ⟨o, o1, v, ov, hv⟩ := hE1.at_ i _ (by rw [List.getElem?_set_self (List.getElem?_eq_some_iff.mp e0).1])
      rw [h1] at o1
      cases o1
      cases ov
      refine ⟨_, h1, H0, Z0, Z1, _, .int z, hE1, k1, fun u H2 Z2 e2 hu => ?_⟩
      cases hu
      refine ⟨by simp [sizeLine_eq], fun t ht => ?_⟩
      have e3 := e2.trans (Ext.new (o := .tup [.ref a, .int z]) e2.zh ht)
      have ha : H2 a = some (.lst vs) := e2.hh _ _ h2
      have hat : a ≠ t := fun z => by rw [z, ht] at ha; cases ha
      have h0t : H0 t = none := hE.s0.free (e2.hh.free ht)
      refine k2 (upd Z2 t (.tup [.ref a, .int z])) (.ref t) _ ⟨hE1.toExt.trans e3, ?_⟩ fun _ => ⟨t, _, rfl, h0t, upd_same, rfl, fun k es e => ?_⟩
      · exact .tup (.of upd_same) (.cons (dp_mono e3.zz hv) (.cons (.int z) .nil))
      · cases k with
        | zero =>
          simp at e
          subst e
          exact ⟨a, vs, rfl, hat, h4, by rw [upd_ne hat]; exact ha, dps_length h5⟩
        | succ k =>
          cases k with
          | zero => simp at e
          | succ k => simp at e
    · exact k2.elim
  · exact q.elim
/-! a list of new lists -/
def newl1 (i : Nat) (env : Env) : Env := match env[i]? with
  | some (.own []) => env.set i (.ob (.newl []))
  | _ => env
def sNewl (i : Nat) (g : Env → Out) : Env → Out := fun env => g (newl1 i env)
theorem EnvOk.setOb {K : PySem.W.Frag} {H0 Z0 Z H : Hp} {σ : L2.St} {env : Env} {i : Nat} {a : Addr} {o : HO} {k : ObK} (h : EnvOk K H0 Z0 Z H σ env) (hi : i < env.length) (hp : H a = some o) (zp : Z a = none) (h0 : H0 a = none) (hd : ObOk K H0 Z a o k)
    (hn : ∀ (j : Nat), j ≠ i → OwAt env j → σ[j]? = some (some (.ref a)) → False) : EnvOk K H0 Z0 Z H (σ.set i (some (.ref a))) (env.set i (.ob k)) := by
  refine ⟨h.sz, h.s0, h.z0, h.no, by rw [List.length_set, List.length_set, h.len], fun j s e => ?_, fun b c q hab e1 e2 e3 e4 => ?_⟩
  · rcases get_set e with ⟨rfl, rfl⟩ | ⟨c, e⟩
    · exact ⟨some (.ref a), by rw [List.getElem?_set_self (by rw [h.len]; exact hi)], a, o, rfl, hp, zp, h0, hd⟩
    · obtain ⟨o, h1, h2⟩ := h.at_ j s e
      exact ⟨o, by rw [List.getElem?_set_ne c]; exact h1, h2⟩
  · rcases e1.set with ⟨rfl, z⟩ | ⟨c1, e1⟩
    · rcases e2.set with ⟨z2, _⟩ | ⟨c2, e2⟩
      · exact hab z2
      · rw [List.getElem?_set_self (by rw [h.len]; exact hi)] at e3
        cases e3
        rw [List.getElem?_set_ne c2] at e4
        exact hn c (fun z => c2 z.symm) e2 e4
    · rw [List.getElem?_set_ne c1] at e3
      rcases e2.set with ⟨rfl, z⟩ | ⟨c2, e2⟩
      · rw [List.getElem?_set_self (by rw [h.len]; exact hi)] at e4
        cases e4
        exact hn b (fun z => c1 z.symm) e1 e3
      · rw [List.getElem?_set_ne c2] at e4
        exact h.sep b c q hab e1 e2 e3 e4
theorem set_self {α : Type} {l : List α} {i : Nat} {a : α} (h : l[i]? = some a) : l.set i a = l := by
  apply List.ext_getElem? 
  intro j
  by_cases c : i = j
  · subst c
    rw [List.getElem?_set_self (List.getElem?_eq_some_iff.mp h).1, h]
  · rw [List.getElem?_set_ne c]
theorem EnvOk.newl {K : PySem.W.Frag} {H0 Z0 Z H : Hp} {σ : L2.St} {env : Env} (h : EnvOk K H0 Z0 Z H σ env) (i : Nat) : EnvOk K H0 Z0 Z H σ (newl1 i env) := by
  unfold newl1
  split
  · rename_i e
    obtain ⟨a, vs, h1, h2, h3, h4, h5⟩ := h.own e
    have := h.setOb (i := i) (k := .newl []) (List.getElem?_eq_some_iff.mp e).1 h2 h3 h4 ⟨vs, rfl, h5, fun k es z => by simp at z⟩ fun j c e1 e2 => h.sep i j a (fun z => c z.symm) (.own e) e1 h1 e2
    rw [set_self h1] at this
    exact this
  · exact h
theorem S_newl (i : Nat) (h : PS X st (tS X.K W g)) : PS X st (tS X.K W (sNewl i g)) := ps_mono h fun E σ H ⟨H0, Z0, Z, env, hE, q⟩ => ⟨H0, Z0, Z, _, hE.newl i, q⟩
theorem EnvOk.ob {K : PySem.W.Frag} {H0 Z0 Z H : Hp} {σ : L2.St} {env : Env} {i : Nat} {k : ObK} (h : EnvOk K H0 Z0 Z H σ env) (e : env[i]? = some (.ob k)) : ∃ a o, σ[i]? = some (some (.ref a)) ∧ H a = some o ∧ Z a = none ∧ H0 a = none ∧ ObOk K H0 Z a o k := by
  obtain ⟨o, h1, a, x, rfl, h2⟩ := h.at_ i _ e
  exact ⟨a, x, h1, h2⟩
/-- x.append(y), y a list of its own -/
def sAppO (i j : Nat) : Env → Out := fun env => match env[i]?, env[j]? with
  | some (.ob (.newl ds)), some (.own es) => if ds.length < 1000000 then .next ((env.set j (.fz (.list es))).set i (.ob (.newl (ds ++ [.list es])))) else .bad
  | _, _ => .bad
theorem EnvOk.mutOb {K : PySem.W.Frag} {H0 Z0 Z H : Hp} {σ : L2.St} {env : Env} {i : Nat} {a : Addr} {k k' : ObK} {o : HO} (h : EnvOk K H0 Z0 Z H σ env) (e : env[i]? = some (.ob k)) (hp : σ[i]? = some (some (.ref a))) (hd : ObOk K H0 Z a o k') : EnvOk K H0 Z0 Z (upd H a o) σ (env.set i (.ob k')) := by
  obtain ⟨a', o', h1, h2, h3, h4, h5⟩ := h.ob e
  rw [hp] at h1; cases h1
  refine ⟨same_updR h3 h.sz, same_updR h4 h.s0, h.z0, h.no, by rw [List.length_set, h.len], fun j s e' => ?_, fun b c q hab e1 e2 e3 e4 => ?_⟩
  · rcases get_set e' with ⟨rfl, rfl⟩ | ⟨c, e'⟩
    · exact ⟨_, hp, a, o, rfl, upd_same, h3, h4, hd⟩
    · obtain ⟨o, k1, k2⟩ := h.at_ j s e'
      refine ⟨o, k1, ?_⟩
      cases s with
      | no => exact True.intro
      | fz d => exact k2
      | own zs =>
        obtain ⟨q, us, rfl, k3, k4⟩ := k2
        have : q ≠ a := fun z => h.sep i j a c (.ob e) (.own e') hp (by rw [k1, z])
        exact ⟨q, us, rfl, by rw [upd_ne this]; exact k3, k4⟩
      | «at» b => exact k2
      | ob k =>
        obtain ⟨q, x, rfl, k3, k4⟩ := k2
        have : q ≠ a := fun z => h.sep i j a c (.ob e) (.ob e') hp (by rw [k1, z])
        exact ⟨q, x, rfl, by rw [upd_ne this]; exact k3, k4⟩
  · have get : ∀ (c : Nat), OwAt (env.set i (.ob k')) c → OwAt env c := fun c z => by
      rcases z.set with ⟨rfl, _⟩ | ⟨_, z⟩
      · exact .ob e
      · exact z
    exact h.sep b c q hab (get b e1) (get c e2) e3 e4
theorem EnvOk.freezeX {K : PySem.W.Frag} {H0 Z0 Z H : Hp} {σ : L2.St} {env : Env} {i : Nat} {ds : List D} {a : Addr} (h : EnvOk K H0 Z0 Z H σ env) (e : env[i]? = some (.own ds)) (hp : σ[i]? = some (some (.ref a))) : ∃ vs, H a = some (.lst vs) ∧ DpAll K Z vs ds ∧ H0 a = none ∧ EnvOk K H0 Z0 (upd Z a (.lst vs)) H σ (env.set i (.fz (.list ds))) := by
  obtain ⟨p, vs, h1, h2, h3, h4, h5⟩ := h.own e
  rw [hp] at h1; cases h1
  have sz : Same Z (upd Z a (.lst vs)) := same_upd h3
  refine ⟨vs, h2, h5, h4, fun b o q => ?_, h.s0, h.z0.trans sz, fun b ha hz => ?_, by rw [List.length_set, h.len], fun j s e' => ?_, fun b c q hab e1 e2 e3 e4 => ?_⟩
  · by_cases hb : b = a
    · subst hb; rw [upd_same] at q; rw [h2]; exact q
    · rw [upd_ne hb] at q; exact h.sz b o q
  · have : b ≠ a := fun z => ha (z ▸ h4)
    rw [upd_ne this]
    exact h.no b ha hz
  · rcases get_set e' with ⟨rfl, rfl⟩ | ⟨c, e'⟩
    · exact ⟨_, hp, _, rfl, .lst (.of upd_same) (dps_mono sz h5)⟩
    · obtain ⟨o, k1, k2⟩ := h.at_ j s e'
      refine ⟨o, k1, ?_⟩
      cases s with
      | no => exact True.intro
      | fz d => obtain ⟨v, k3, k4⟩ := k2; exact ⟨v, k3, dp_mono sz k4⟩
      | own zs =>
        obtain ⟨q, us, rfl, k3, k4, k5, k6⟩ := k2
        have : q ≠ a := fun z => h.sep i j a c (.own e) (.own e') hp (by rw [k1, z])
        exact ⟨q, us, rfl, k3, by rw [upd_ne this]; exact k4, k5, dps_mono sz k6⟩
      | «at» b => exact k2
      | ob k =>
        obtain ⟨q, x, rfl, k3, k4, k5, k6⟩ := k2
        have : q ≠ a := fun z => h.sep i j a c (.own e) (.ob e') hp (by rw [k1, z])
        exact ⟨q, x, rfl, k3, by rw [upd_ne this]; exact k4, k5, k6.mono sz⟩
  · rcases e1.set with ⟨_, z⟩ | ⟨c1, e1⟩
    · cases z
    · rcases e2.set with ⟨_, z⟩ | ⟨c2, e2⟩
      · cases z
      · exact h.sep b c q hab e1 e2 e3 e4
theorem S_appO (i j : Nat) {px py apos cpos : Pos} (hij : i ≠ j := by decide) (hN : X.N[i]? = some x := by rfl) (hv : Vis X.env.scope x := by first | exact Or.inl rfl | exact Or.inr (Or.inl rfl) | exact Or.inr (Or.inr rfl)) (hd : (x == ("__debug__" : Str)) = false := by decide)
    (hcd : (x == ("__classdict__" : Str)) = false := by decide)
    (hN2 : X.N[j]? = some y := by rfl) (hv2 : Vis X.env.scope y := by first | exact Or.inl rfl | exact Or.inr (Or.inl rfl) | exact Or.inr (Or.inr rfl)) (hd2 : (y == ("__debug__" : Str)) = false := by decide)
    (hcd2 : (y == ("__classdict__" : Str)) = false := by decide)
    (hbase : attributeBase (.Name x px) "append" X.env (eval (.Name x px) X.env) = eval (.Name x px) X.env := by rfl)
    (hfew : ((backTo cpos (starEach [.Name y py] X.env)).all (fun x => !x.1) && (backToKw cpos (keywordEach [] X.env)).all (fun x => x.1.isSome)
      && decide ([(.Name y py : Expr)].length + ([] : List Keyword).length + (if ([] : List Keyword).isEmpty then 0 else 1) < 30)) = true := by rfl)
    (hline : (apos.endLine == cpos.line) = true := by rfl) (hs : starEach [.Name y py] X.env = (false, eval (.Name y py) X.env) :: starEach [] X.env := by rfl) (hplain : (backTo cpos (starEach [] X.env)).any (·.1) = false := by rfl)
    (hs2 : swapsWith (.Call (.Attribute (.Name x px) "append" apos) [.Name y py] [] cpos) none pos.line X.env = pure false := by rfl) :
    PS X (.Expr (.Call (.Attribute (.Name x px) "append" apos) [.Name y py] [] cpos) pos) (tS X.K W (sAppO i j)) :=
  ps_mono (ps_expr (pe_bm PySem.F.plainAttrs_list PySem.F.slot_list_append PySem.F.type_list_append mt_append (pe_var hN hv hd hcd) (pa_cons (pe_var hN2 hv2 hd2 hcd2) pa_nil hs) hbase hfew hline hs hplain) hs2) fun E σ H ⟨H0, Z0, Z, env, hE, q⟩ => by
    unfold sAppO at q
    split at q
    · rename_i ds es e1 e2
      by_cases hl : ds.length < 1000000
      · rw [if_pos hl] at q
        obtain ⟨a, o, g1, g2, g3, g4, g5⟩ := hE.ob e1
        obtain ⟨b, us, f1, f2, f3, f4, f5⟩ := hE.own e2
        obtain ⟨us', f2', k2, k3, hE2⟩ := hE.freezeX e2 f1
        rw [f2] at f2'
        cases f2'
        obtain ⟨vs, rfl, g6, g7⟩ := g5
        have sz : Same Z (upd Z b (.lst us)) := same_upd f3
        refine ⟨_, g1, .inl ⟨rfl, vs, .of g2⟩, _, f1, a, vs, _, rfl, rfl, g2, by rw [dps_length g6]; exact lim_ok hl, ?_⟩
        refine q (upd Z b (.lst us)) σ _ (hE2.mutOb (k := .newl ds) (by rw [List.getElem?_set_ne (fun z => hij z.symm)]; exact e1) g1 ⟨_, rfl, dps_append (dps_mono sz g6) (.cons (.lst (.of upd_same) (dps_mono sz f5)) .nil), fun k xs e => ?_⟩)
        by_cases hk : k < ds.length
        · rw [List.getElem?_append_left hk] at e
          obtain ⟨q, ws, m1, m2, m3, m4⟩ := g7 k xs e
          exact ⟨q, ws, by rw [List.getElem?_append_left (by rw [dps_length g6]; exact hk)]; exact m1, m2, sz _ _ m3, m4⟩
        · have hk' : k = ds.length := by
            by_cases hk2 : k = ds.length
            · exact hk2
            · rw [List.getElem?_append_right (by omega), List.getElem?_eq_none (by simp; omega)] at e
              cases e
          subst hk'
          rw [List.getElem?_append_right (Nat.le_refl _), Nat.sub_self] at e
          simp at e
          subst e
          exact ⟨b, us, by rw [List.getElem?_append_right (by rw [dps_length g6]; exact Nat.le_refl _), dps_length g6, Nat.sub_self]; rfl, k3, upd_same, dps_length f5⟩
      · rw [if_neg hl] at q; exact q.elim
    · exact q.elim
def sRetNew (i : Nat) : Env → Out := fun env => match env[i]? with
  | some (.ob (.newl ds)) => .ret ⟨.list ds, true⟩
  | _ => .bad
theorem S_retNew (i : Nat) (hN : X.N[i]? = some x := by rfl) (hv : Vis X.env.scope x := by first | exact Or.inl rfl | exact Or.inr (Or.inl rfl) | exact Or.inr (Or.inr rfl)) (hd : (x == ("__debug__" : Str)) = false := by decide)
    (hcd : (x == ("__classdict__" : Str)) = false := by decide) : PS X (.Return (some (.Name x p)) pos) (tS X.K W (sRetNew i)) := ps_mono (ps_ret (pe_var hN hv hd hcd)) fun E σ H ⟨H0, Z0, Z, env, hE, q⟩ => by
  unfold sRetNew at q
  split at q
  · rename_i ds e
    obtain ⟨a, o, g1, g2, g3, g4, vs, rfl, g6, g7⟩ := hE.ob e
    refine ⟨_, g1, q Z _ H ⟨hE.toExt, a, vs, ds, rfl, rfl, g4, g3, g2, g6⟩ fun _ => ⟨a, vs, rfl, g4, g2, dps_length g6, fun k es e => ?_⟩⟩
    obtain ⟨q, ws, a1, b1, c1, d1⟩ := g7 k es e
    exact ⟨q, ws, a1, (fun z => by rw [z, g3] at c1; cases c1), b1, hE.sz _ _ c1, d1⟩
  · exact q.elim
/-! told -/
def isL : D → Bool
  | .list _ => true
  | _ => false
def shortL : D → Bool
  | .list es => Nat.ble es.length 900000
  | _ => true
def toldItems (m : Nat) (ds : List D) : Bool := Nat.ble m ds.length && (ds.take m).all isL && ds.all shortL && Nat.ble ds.length 900000
def toldOk (l : Bool) (m : Nat) : D → Bool
  | .list ds => l && toldItems m ds
  | .tuple ds => !l && toldItems m ds
  | _ => false
def seqO (l : Bool) (vs : List V) : HO := if l = true then .lst vs else .tup vs
structure TlOk (K : PySem.W.Frag) (H0 Z0 Z Hs H : Hp) (σ : L2.St) (env : Env) (l : Bool) (i m n : Nat) : Prop where
  e : EnvOk K H0 Z0 Z Hs σ env
  s : Same Hs H
  v : ∃ a vs, σ[i]? = some (some (.ref a)) ∧ Hs a = none ∧ H a = some (seqO l vs) ∧ vs.length ≤ 900000 ∧ ∀ k, k < m → ∃ q ws, vs[k]? = some (.ref q) ∧ q ≠ a ∧ Hs q = none ∧ H q = some (.lst ws) ∧ ws.length ≤ 900000 + n
def tTl (K : PySem.W.Frag) (W : WO) (l : Bool) (i m n : Nat) (g : Env → Out) : TS := fun E σ H => ∃ H0 Z0 Z Hs env, TlOk K H0 Z0 Z Hs H σ env l i m n ∧ OutOk K W H0 Z0 E (g env)
theorem TlOk.env {K : PySem.W.Frag} {H0 Z0 Z Hs H : Hp} {σ : L2.St} {env : Env} {l : Bool} {i m n : Nat} (h : TlOk K H0 Z0 Z Hs H σ env l i m n) : EnvOk K H0 Z0 Z H σ env :=
  h.e.ext ⟨h.s, Same.refl _, h.e.sz.trans h.s, fun _ _ e => e⟩
theorem Tl_end {l : Bool} {m n : Nat} (h : PSs X rest (tS X.K W g)) : PSs X rest (tTl X.K W l i m n g) := pss_mono h fun E σ H ⟨H0, Z0, Z, Hs, env, ok, q⟩ => ⟨H0, Z0, Z, env, ok.env, q⟩
theorem atI_natG {α : Type} {vs : List α} {k : Nat} {u : α} (h : vs[k]? = some u) : atI vs (k : Int) = some u := by
  have hk := (List.getElem?_eq_some_iff.mp h).1
  unfold atI ixN
  rw [if_pos (by omega), if_pos (by omega)]
  simpa using h
theorem TlOk.at_ {K : PySem.W.Frag} {H0 Z0 Z Hs H H1 : Hp} {σ : L2.St} {env : Env} {l : Bool} {i m n : Nat} (h : TlOk K H0 Z0 Z Hs H σ env l i m n) (s : Same H H1) : TlOk K H0 Z0 Z Hs H1 σ env l i m n := by
  obtain ⟨a, vs, h1, h2, h3, h4, h5⟩ := h.v
  exact ⟨h.e, h.s.trans s, a, vs, h1, h2, s _ _ h3, h4, fun k hk => let ⟨q, ws, a1, a2, a3, a4, a5⟩ := h5 k hk; ⟨q, ws, a1, a2, a3, s _ _ a4, a5⟩⟩
def tA1 (K : PySem.W.Frag) (f : Env → Res D) (σ : L2.St) (H : Hp) (q : Addr) (ws : List V) (Q : Hp → Prop) : Prop := ∃ H0 Z0 Z env d, EnvOk K H0 Z0 Z H σ env ∧ f env = .ok d ∧ ∀ v H' Z', Ext Z H Z' H' → Dp K Z' v d → H' q = some (.lst ws) ∧ ws.length < sizeLine ∧ Q (upd H' q (.lst (ws ++ [v])))
theorem Tl_app (k : Nat) {l : Bool} {m n : Nat} {apos cpos p3 p4 : Pos} {jn : Nat} (he : PE X e (tE X.K f)) (hr : PSs X rest (tTl X.K W l i m (n + 1) g)) (hf : ∀ env, ∃ d, f env = .ok d) (hk : k < m := by decide) (hn : n < 50000 := by decide)
    (hN : X.N[i]? = some x := by rfl) (hv : Vis X.env.scope x := by first | exact Or.inl rfl | exact Or.inr (Or.inl rfl) | exact Or.inr (Or.inr rfl)) (hd : (x == ("__debug__" : Str)) = false := by decide)
    (hcd : (x == ("__classdict__" : Str)) = false := by decide) (hs0 : PlainIx (.Constant (.int (k : Int)) jn p4) := by intro _ _; rfl)
    (hbase : attributeBase (.Subscript (.Name x p) (.Constant (.int (k : Int)) jn p4) p3) "append" X.env (eval (.Subscript (.Name x p) (.Constant (.int (k : Int)) jn p4) p3) X.env) = eval (.Subscript (.Name x p) (.Constant (.int (k : Int)) jn p4) p3) X.env := by rfl)
    (hfew : ((backTo cpos (starEach [e] X.env)).all (fun x => !x.1) && (backToKw cpos (keywordEach [] X.env)).all (fun x => x.1.isSome)
      && decide ([e].length + ([] : List Keyword).length + (if ([] : List Keyword).isEmpty then 0 else 1) < 30)) = true := by rfl)
    (hline : (apos.endLine == cpos.line) = true := by rfl) (hs : starEach [e] X.env = (false, eval e X.env) :: starEach [] X.env := by rfl) (hplain : (backTo cpos (starEach [] X.env)).any (·.1) = false := by rfl)
    (hs2 : swapsWith (.Call (.Attribute (.Subscript (.Name x p) (.Constant (.int (k : Int)) jn p4) p3) "append" apos) [e] [] cpos) none pos.line X.env = pure false := by rfl) :
    PSs X (.Expr (.Call (.Attribute (.Subscript (.Name x p) (.Constant (.int (k : Int)) jn p4) p3) "append" apos) [e] [] cpos) pos :: rest) (tTl X.K W l i m n g) :=
  pss_mono (pss_cons (ps_expr (pe_bm PySem.F.plainAttrs_list PySem.F.slot_list_append PySem.F.type_list_append mt_append (pe_ix (ix_list.or ix_tup) (pe_var hN hv hd hcd) pe_int hs0) (pa_cons he pa_nil hs) hbase hfew hline hs hplain) hs2) hr) fun E σ H ⟨H0, Z0, Z, Hs, env, ok, qq⟩ => by
    obtain ⟨a, vs, h1, h2, h3, h4, h5⟩ := ok.v
    obtain ⟨q, ws, a1, a2, a3, a4, a5⟩ := h5 k hk
    obtain ⟨d, hfd⟩ := hf env
    have fin : tyV X.K "list" (.ref q) H ∧ tA1 X.K f σ H q ws (fun H2 => tTl X.K W l i m (n + 1) g E σ H2) := by
      refine ⟨.inl ⟨rfl, ws, .of a4⟩, H0, Z0, Z, env, d, ok.env, hfd, fun v H1 Z1 e1 hd => ⟨e1.hh _ _ a4, by rw [sizeLine_eq]; omega, ?_⟩⟩
      have ok1 := ok.at_ e1.hh
      refine ⟨H0, Z0, Z, Hs, env, ⟨ok.e, same_updR a3 ok1.s, a, vs, h1, h2, ?_, h4, fun k' hk' => ?_⟩, qq⟩
      · rw [upd_ne (fun z => a2 z.symm)]; exact e1.hh _ _ h3
      · obtain ⟨q', ws', b1, b2, b3, b4, b5⟩ := h5 k' hk'
        by_cases c : q' = q
        · subst c
          exact ⟨q', ws ++ [v], b1, b2, b3, upd_same, by rw [List.length_append, List.length_singleton]; omega⟩
        · exact ⟨q', ws', b1, b2, b3, by rw [upd_ne c]; exact e1.hh _ _ b4, by omega⟩
    obtain ⟨ty, H0', Z0', Z', env', d', hE', hf', q'⟩ := fin
    have done : (fun (x : V) (H1 : Hp) => tyV X.K "list" x H1 ∧ tE X.K f σ H1 fun v H2 => rAppend x [v] H2 fun _ H3 => tTl X.K W l i m (n + 1) g E σ H3) (.ref q) H :=
      ⟨ty, H0', Z0', Z', env', d', hE', hf', fun v H1 Z1 e1 hd => ⟨q, ws, v, rfl, rfl, (q' v H1 Z1 e1 hd).1, (q' v H1 Z1 e1 hd).2.1, (q' v H1 Z1 e1 hd).2.2⟩⟩
    refine ⟨_, h1, ?_⟩
    cases l with
    | true => exact .inl ⟨a, vs, (k : Int), _, rfl, rfl, .of h3, atI_natG a1, done⟩
    | false => exact .inr ⟨a, vs, (k : Int), _, rfl, rfl, .of h3, atI_natG a1, done⟩
theorem Tl_whole {m n : Nat} {apos cpos : Pos} (he : PE X e (tE X.K f)) (hr : PSs X rest (tS X.K W g)) (hf : ∀ env, ∃ d, f env = .ok d)
    (hN : X.N[i]? = some x := by rfl) (hv : Vis X.env.scope x := by first | exact Or.inl rfl | exact Or.inr (Or.inl rfl) | exact Or.inr (Or.inr rfl)) (hd : (x == ("__debug__" : Str)) = false := by decide)
    (hcd : (x == ("__classdict__" : Str)) = false := by decide)
    (hbase : attributeBase (.Name x p) "append" X.env (eval (.Name x p) X.env) = eval (.Name x p) X.env := by rfl)
    (hfew : ((backTo cpos (starEach [e] X.env)).all (fun x => !x.1) && (backToKw cpos (keywordEach [] X.env)).all (fun x => x.1.isSome)
      && decide ([e].length + ([] : List Keyword).length + (if ([] : List Keyword).isEmpty then 0 else 1) < 30)) = true := by rfl)
    (hline : (apos.endLine == cpos.line) = true := by rfl) (hs : starEach [e] X.env = (false, eval e X.env) :: starEach [] X.env := by rfl) (hplain : (backTo cpos (starEach [] X.env)).any (·.1) = false := by rfl)
    (hs2 : swapsWith (.Call (.Attribute (.Name x p) "append" apos) [e] [] cpos) none pos.line X.env = pure false := by rfl) :
    PSs X (.Expr (.Call (.Attribute (.Name x p) "append" apos) [e] [] cpos) pos :: rest) (tTl X.K W true i m n g) :=
  pss_mono (pss_cons (ps_expr (pe_bm PySem.F.plainAttrs_list PySem.F.slot_list_append PySem.F.type_list_append mt_append (pe_var hN hv hd hcd) (pa_cons he pa_nil hs) hbase hfew hline hs hplain) hs2) hr) fun E σ H ⟨H0, Z0, Z, Hs, env, ok, qq⟩ => by
    obtain ⟨a, vs, h1, h2, h3, h4, h5⟩ := ok.v
    obtain ⟨d, hfd⟩ := hf env
    refine ⟨_, h1, .inl ⟨rfl, vs, .of h3⟩, H0, Z0, Z, env, d, ok.env, hfd, fun v H1 Z1 e1 hd => ⟨a, vs, v, rfl, rfl, e1.hh _ _ h3, by rw [sizeLine_eq]; omega, H0, Z0, Z, env, ?_, qq⟩⟩
    have s2 : Same Hs (upd H1 a (.lst (vs ++ [v]))) := same_updR h2 (ok.s.trans e1.hh)
    exact ok.e.ext ⟨s2, Same.refl _, ok.e.sz.trans s2, fun _ _ e => e⟩
theorem EnvOk.put {K : PySem.W.Frag} {H0 Z0 Z H : Hp} {σ : L2.St} {env : Env} {i : Nat} (h : EnvOk K H0 Z0 Z H σ env) (o : Option V) : EnvOk K H0 Z0 Z H (σ.set i o) (env.set i .no) := by
  have ne : ∀ (j : Nat), OwAt (env.set i .no) j → i ≠ j ∧ OwAt env j := fun j z => by
    rcases z.set with ⟨_, z⟩ | z
    · cases z
    · exact z
  refine ⟨h.sz, h.s0, h.z0, h.no, by rw [List.length_set, List.length_set, h.len], fun j s e => ?_, fun b c q hab e1 e2 e3 e4 => ?_⟩
  · rcases get_set e with ⟨rfl, rfl⟩ | ⟨c, e⟩
    · have hi : i < σ.length := by
        have := (List.getElem?_eq_some_iff.mp e).1
        rw [List.length_set] at this
        rw [h.len]; exact this
      exact ⟨o, List.getElem?_set_self hi, True.intro⟩
    · obtain ⟨o, h1, h2⟩ := h.at_ j s e
      exact ⟨o, by rw [List.getElem?_set_ne c]; exact h1, h2⟩
  · obtain ⟨n1, e1⟩ := ne b e1
    obtain ⟨n2, e2⟩ := ne c e2
    rw [List.getElem?_set_ne n1] at e3
    rw [List.getElem?_set_ne n2] at e4
    exact h.sep b c q hab e1 e2 e3 e4
def sTold (i : Nat) (l : Bool) (m : Nat) (fe : Env → Res D) (fc : Env → Res Bool) (g : Env → Out) : Env → Out := fun env => (fe env).out fun d => if i < env.length ∧ toldOk l m d = true then (fc (env.set i (.fz d))).out fun b => if b = true then .ret ⟨.bool false, false⟩ else g (env.set i .no) else .bad
@[simp] theorem sTold_ev (i : Nat) (l : Bool) (m : Nat) (fe : Env → Res D) (fc : Env → Res Bool) (g : Env → Out) (env : Env) : sTold i l m fe fc g env = (fe env).out fun d => if i < env.length ∧ toldOk l m d = true then (fc (env.set i (.fz d))).out fun b => if b = true then .ret ⟨.bool false, false⟩ else g (env.set i .no) else .bad := Eq.trans rfl rfl
theorem toldItems_at {m : Nat} {ds : List D} (h : toldItems m ds = true) : ds.length ≤ 900000 ∧ ∀ k, k < m → ∃ es, ds[k]? = some (.list es) ∧ es.length ≤ 900000 := by
  unfold toldItems at h
  simp only [Bool.and_eq_true, Nat.ble_eq, List.all_eq_true] at h
  obtain ⟨⟨⟨h1, h2⟩, h3⟩, h4⟩ := h
  refine ⟨h4, fun k hk => ?_⟩
  have hl : k < ds.length := by omega
  have m1 : ds[k] ∈ ds.take m := by
    rw [List.mem_take_iff_getElem]
    exact ⟨k, by omega, rfl⟩
  have := h2 _ m1
  have s1 := h3 ds[k] (List.getElem_mem hl)
  cases hd : ds[k] with
  | list es =>
    rw [hd] at s1
    exact ⟨es, by rw [List.getElem?_eq_getElem hl, hd], by simpa [shortL, Nat.ble_eq] using s1⟩
  | _ => rw [hd] at this; cases this
theorem NewV.told {H0 H : Hp} {v : V} {d : D} {l : Bool} {m : Nat} (h : nonD d = false → NewV H0 H v d) (ht : toldOk l m d = true) : ∃ a vs, v = .ref a ∧ H0 a = none ∧ H a = some (seqO l vs) ∧ vs.length ≤ 900000 ∧ ∀ k, k < m → ∃ q ws, vs[k]? = some (.ref q) ∧ q ≠ a ∧ H0 q = none ∧ H q = some (.lst ws) ∧ ws.length ≤ 900000 := by
  cases d with
  | list ds =>
    unfold toldOk at ht
    rw [Bool.and_eq_true] at ht
    obtain ⟨rfl, ht⟩ := ht
    obtain ⟨a, vs, h1, h2, h3, h4, h5⟩ := h rfl
    obtain ⟨t1, t2⟩ := toldItems_at ht
    refine ⟨a, vs, h1, h2, h3, by rw [h4]; exact t1, fun k hk => ?_⟩
    obtain ⟨es, e1, e2⟩ := t2 k hk
    obtain ⟨q, ws, a1, a2, a3, a4, a5⟩ := h5 k es e1
    exact ⟨q, ws, a1, a2, a3, a4, by omega⟩
  | tuple ds =>
    unfold toldOk at ht
    rw [Bool.and_eq_true] at ht
    obtain ⟨hl, ht⟩ := ht
    have : l = false := by simpa using hl
    subst this
    obtain ⟨a, vs, h1, h2, h3, h4, h5⟩ := h rfl
    obtain ⟨t1, t2⟩ := toldItems_at ht
    refine ⟨a, vs, h1, h2, h3, by rw [h4]; exact t1, fun k hk => ?_⟩
    obtain ⟨es, e1, e2⟩ := t2 k hk
    obtain ⟨q, ws, a1, a2, a3, a4, a5⟩ := h5 k es e1
    exact ⟨q, ws, a1, a2, a3, a4, by omega⟩
  | _ => cases ht
theorem S_told (i : Nat) (l : Bool) (m : Nat) {fc : Env → Res Bool} {p3 pos2 pos3 : Pos} {jn : Nat} (he : PE X e (tN X.K f)) (hc : PT X c (tT X.K fc)) (hr : PSs X rest (tTl X.K W l i m 0 g)) (hW : W.n = false := by rfl) (hN : X.N.Nodup)
    (hi : X.N[i]? = some x := by rfl) (hx : Loc X.env.scope x := by first | exact Or.inl rfl | exact Or.inr rfl) (hs : swapsWith e (some (.Name x p)) pos.line X.env = pure false := by rfl) (hf : X.fn x = true ∨ X.env.scope.names.lookup x = some .local := by first | exact .inl rfl | exact .inr rfl) :
    PSs X (.Assign [.Name x p] e pos :: .If c [.Return (some (.Constant (.bool false) jn p3)) pos3] [] pos2 :: rest) (tS X.K W (sTold i l m f fc g)) :=
  pss_mono (pss_cons (ps_set hN hi hx he hs hf) (pss_cons (ps_if hc (pss_one (ps_ret pe_bl)) pss_nil) hr)) fun E σ H ⟨H0, Z0, Z, env, hE, q⟩ => by
    obtain ⟨d, k1, k2⟩ := Res.out_eq q
    by_cases hl : i < env.length ∧ toldOk l m d = true
    · rw [if_pos hl] at k2
      obtain ⟨b, k3, k4⟩ := Res.out_eq k2
      refine ⟨H0, Z0, Z, env, d, hE, k1, fun v H1 Z1 e1 hd hn => ?_⟩
      have hE1 := (hE.ext e1).setFz hl.1 hd
      refine ⟨H0, Z0, Z1, _, b, hE1, k3, fun H2 Z2 e2 => ?_⟩
      cases b with
      | true =>
        rw [if_pos rfl] at k4 ⊢
        exact k4 Z2 _ H2 ⟨hE1.toExt.trans e2, .bl false⟩ (fun z => by rw [hW] at z; cases z)
      | false =>
        rw [if_neg Bool.false_ne_true] at k4 ⊢
        obtain ⟨a, vs, rfl, h2, h3, h4, h5⟩ := NewV.told hn hl.2
        refine ⟨H0, Z0, Z, H, _, ⟨hE.put _, e1.hh.trans e2.hh, a, vs, List.getElem?_set_self (by rw [hE.len]; exact hl.1), h2, e2.hh _ _ h3, h4, fun k hk => ?_⟩, k4⟩
        obtain ⟨q, ws, a1, a2, a3, a4, a5⟩ := h5 k hk
        exact ⟨q, ws, a1, a2, a3, e2.hh _ _ a4, a5⟩
    · rw [if_neg hl] at k2; exact k2.elim
end
end PV

set_option Elab.async false
set_option linter.all false
set_option maxRecDepth 100000
/-! ### x[i] op= e -/
namespace PV
open PySem PySem.Spec L2 PyProof.Rows
set_option autoImplicit false
theorem get_list {X : Cx} : PGet X (rIxL X.K) := by
  intro pins s σ H x y v u Q I rx ry h
  obtain ⟨p, xs, i, z, rfl, rfl, hq, he, q⟩ := h
  cases rx
  obtain ⟨t, rfl⟩ := ry
  obtain ⟨its, r, pl, hz⟩ := I.list hq
  obtain ⟨j, h1, h2, h3, h4, h5⟩ := atI_get he
  obtain ⟨w, ew, rw'⟩ := r.get h2
  have hl := r.length
  have hn := line63
  have fin : EP X pins σ Q w s := ⟨z, H, I, rw', q⟩
  by_cases h0 : 0 ≤ i
  · have hj : i.toNat = j := by
      rw [seqIndex_of h0 h5] at h1
      exact Option.some.inj h1
    exact wpAny_getItem_list pl.isList h0 (by omega) (by rw [hj]; simpa using ew) fin
  · have hj : (i + (its.toArray.size : Int)).toNat = j := by
      rw [seqIndex_neg (by omega) h4] at h1
      rw [List.size_toArray, ← hl]
      exact Option.some.inj h1
    exact wpAny_getItem_list_neg pl.isList (by omega) (by rw [List.size_toArray] <;> omega) (by omega) (by rw [hj]; simpa using ew) fin
def intAt (ds : List D) (z : Int) : Option (Nat × Int) := (ixN ds.length z).bind fun j => match ds[j]? with
  | some (.int a) => some (j, a)
  | _ => none
theorem intAt_eq {ds : List D} {z a : Int} {j : Nat} (h : intAt ds z = some (j, a)) : ixN ds.length z = some j ∧ ds[j]? = some (.int a) := by
  unfold intAt at h
  cases hx : ixN ds.length z with
  | none => rw [hx] at h; cases h
  | some k =>
    rw [hx] at h
    simp only [Option.bind_some] at h
    split at h
    · rename_i hd
      cases h
      exact ⟨rfl, hd⟩
    · cases h
def sAugIx (i : Nat) (h : Int → Int → Int) (fi fe : Env → Res D) : Env → Out := fun env => (fi env).out fun k => match env[i]?, k with
  | some (.own ds), .int z => match intAt ds z with
    | some (j, a) => (fe env).out fun y => match y with
      | .int b => .next (env.set i (.own (ds.set j (.int (h a b)))))
      | _ => .bad
    | none => .bad
  | _, _ => .bad
section
variable {X : Cx} {W : WO} {x : Str} {p p2 pos : Pos} {e b : Expr} {fi fe : Env → Res D}
theorem S_augIx (i : Nat) {op : Operator} {h : Int → Int → Int} (ho : PIp X op (ipI h)) (he : PE X e (tE X.K fe)) (hb : PE X b (tE X.K fi)) (hN : X.N[i]? = some x := by rfl) (hv : Vis X.env.scope x := by first | exact Or.inl rfl | exact Or.inr (Or.inl rfl) | exact Or.inr (Or.inr rfl)) (hd : (x == ("__debug__" : Str)) = false := by decide)
    (hcd : (x == ("__classdict__" : Str)) = false := by decide)
    (ha : ∀ ov iv new, augStore b ov iv new = (do holding [new, ov, iv] (setItem ov iv new); release [new, ov, iv] []; pure .next) := by intros; rfl) : PS X (.AugAssign (.Subscript (.Name x p) b p2) op e pos) (tS X.K W (sAugIx i h fi fe)) :=
  ps_mono (ps_augS (pe_var hN hv hd hcd) hb get_list he ho set_list ha) fun E σ H ⟨H0, Z0, Z, env, hE, q⟩ => by
    obtain ⟨k, k1, k2⟩ := Res.out_eq q
    split at k2
    · rename_i ds z e0
      split at k2
      · rename_i j a hj
        obtain ⟨y, k3, k4⟩ := Res.out_eq k2
        split at k4
        · rename_i c
          obtain ⟨j1, j2⟩ := intAt_eq hj
          obtain ⟨q, vs, g1, g2, g3, g4, g5⟩ := hE.own e0
          refine ⟨_, g1, H0, Z0, Z, env, _, hE, k1, fun iv H1 Z1 e1 hi => ?_⟩
          cases hi
          have hE1 := hE.ext e1
          obtain ⟨q', vs', f1, f2, f3, f4, f5⟩ := hE1.own e0
          rw [g1] at f1; cases f1
          have l := dps_length f5
          obtain ⟨u, m1, m2⟩ := dps_get f5 j2
          cases m2
          refine ⟨q, vs', z, .int a, rfl, rfl, .of f2, ?_, H0, Z0, Z1, env, _, hE1, k3, fun v H2 Z2 e2 hv => ?_⟩
          · unfold atI
            rw [l, j1]
            exact m1
          · cases hv
            have hE2 := hE1.ext e2
            obtain ⟨q'', vs'', n1, n2, n3, n4, n5⟩ := hE2.own e0
            rw [g1] at n1; cases n1
            exact ⟨a, c, rfl, rfl, q, vs'', z, j, rfl, rfl, n2, by rw [dps_length n5]; exact j1, k4 Z2 σ _ (hE2.mut e0 g1 (dps_set j n5 (.int _)))⟩
        · exact k4.elim
      · exact k2.elim
    · exact k2.elim
end
theorem Ss_fz {X : Cx} {W : WO} {sts : List Stmt} {f : Env → Out} (is : List Nat) (h : PSs X sts (tS X.K W f)) : PSs X sts (tS X.K W (sFz is f)) := pss_mono h fun E σ H ⟨H0, Z0, Z, env, hE, q⟩ =>
  let ⟨Z', h'⟩ := EnvOk.fzs is hE
  ⟨H0, Z0, Z', _, h', q⟩
@[simp] theorem sAugIx_ev (i : Nat) (h : Int → Int → Int) (fi fe : Env → Res D) (env : Env) : sAugIx i h fi fe env = (fi env).out fun k => match env[i]?, k with
  | some (.own ds), .int z => match intAt ds z with
    | some (j, a) => (fe env).out fun y => match y with
      | .int b => .next (env.set i (.own (ds.set j (.int (h a b)))))
      | _ => .bad
    | none => .bad
  | _, _ => .bad := Eq.trans rfl rfl
@[simp] theorem sRetTO_ev (i : Nat) (fe : Env → Res D) (env : Env) : sRetTO i fe env = match env[i]? with
  | some (.own ds) => (fe (env.set i (.fz (.list ds)))).out fun d => match d with
    | .int z => .ret ⟨.tuple [.list ds, .int z], false⟩
    | _ => .bad
  | _ => .bad := Eq.trans rfl rfl
@[simp] theorem sRetNew_ev (i : Nat) (env : Env) : sRetNew i env = match env[i]? with
  | some (.ob (.newl ds)) => .ret ⟨.list ds, true⟩
  | _ => .bad := Eq.trans rfl rfl
@[simp] theorem sAppO_ev (i j : Nat) (env : Env) : sAppO i j env = match env[i]?, env[j]? with
  | some (.ob (.newl ds)), some (.own es) => if ds.length < 1000000 then .next ((env.set j (.fz (.list es))).set i (.ob (.newl (ds ++ [.list es])))) else .bad
  | _, _ => .bad := Eq.trans rfl rfl
@[simp] theorem sNewl_ev (i : Nat) (g : Env → Out) (env : Env) : sNewl i g env = g (newl1 i env) := Eq.trans rfl rfl
end PV

set_option Elab.async false
set_option linter.all false
set_option maxRecDepth 100000
/-! ### x = {}, x[tuple] = True, sorted(x); xs.count(i) -/
namespace PV
open PySem PySem.Spec L2 PyProof.Rows
set_option autoImplicit false
theorem dto_any (P P' : Program) (w w' : World) (d : Addr) (xs : List (List Int × Addr × Value)) : DTO P w d xs = DTO P' w' d xs := by
  unfold DTO
  congr 1
  funext h
  exact propext ⟨fun ⟨a, b⟩ => ⟨a, b⟩, fun ⟨a, b⟩ => ⟨a, b⟩⟩
def tDNewDT (P : Program) (w : World) : TE := fun _ H Q => ∀ p, H p = none → Q (.ref p) (upd H p (DTO P w p []))
theorem pe_dnewDT {X : Cx} {pos : Pos} : PE X (.Dict [] [] pos) (tDNewDT X.prog X.w) := ⟨fun pins s σ H Q I h =>
  wpAny_Dict_empty ⟨.ref s.heap.objs.size, _, I.laid (a := s.heap.objs.size) (o := DTO X.prog X.w s.heap.objs.size []) (t' := s.toks) (fun _ _ q => Heap.get?_push_of_some _ q) (Nat.le_refl _) (dto_new (dt0_fresh s.heap I.big)), rfl, h _ (I.hok.fresh (Nat.le_refl _))⟩⟩
def rSetDT (K : PySem.W.Frag) (P : Program) (w : World) : TSet := fun o i v H Q => ∃ (D : Addr) (xs : List (List Int × Addr × Value)) (k : List Int) (b : Addr), o = .ref D ∧ i = .ref b ∧ H D = some (DTO P w D xs) ∧ SqT K H b (k.map V.int) ∧ (∀ x ∈ xs, SqT K H x.2.1 (x.1.map V.int)) ∧ xs.length ≤ 1000 ∧ ∀ r : Value, Q (upd H D (DTO P w D (storedH xs k b r)))
theorem set_DT {X : Cx} (hu : X.A.units + 66 < cLine) : PSet X (rSetDT X.K X.prog X.w) := by
  intro pins s σ H o i v ov iv u Q I ro ri rv h
  obtain ⟨D, xs, k, b, rfl, rfl, hD, hk, hx, hz, q⟩ := h
  cases (show ov = Value.ref D from ro)
  cases (show iv = Value.ref b from ri)
  have R : DictT0 X.prog X.w s.heap D xs := (I.hok D _ hD).1
  refine wpAny_setItem_heap (knd := TK X.prog X.w) (show X.A.units + 1 < cLine by omega) (I.isT hk) (dt_dictOf I R hx) (fun h' dd hs => ?_) (Nat.le_trans hz (Nat.le_of_lt (small1000 (Nat.le_refl 1000))))
  obtain ⟨o, es, ep, h1, h2, h3, h4, _, h5⟩ := dd
  exact ⟨_, d_write I (by rw [hD]; exact True.intro) hs ⟨o, h1⟩ (dto_new ⟨R.ne, o, es, ep, h1, h2, h3, h4, h5⟩), q u⟩
def addK (ks : List (List Int)) (k : List Int) : List (List Int) := if k ∈ ks then ks else ks ++ [k]
def intsT : D → Option (List Int)
  | .tuple xs => asInts xs
  | _ => none
theorem intsT_eq {d : D} {k : List Int} (h : intsT d = some k) : d = tupD k := by
  cases d with
  | tuple xs =>
    have e := asInts_eq (show asInts xs = some k from h)
    subst e; rfl
  | _ => cases h
section
variable {X : Cx} {W : WO} {x : Str} {p p2 pos : Pos} {e b : Expr} {fb : Env → Res D}
def sSetDict (i : Nat) : Env → Out := fun env => if i < env.length then .next (env.set i (.ob (.dkt []))) else .bad
theorem S_setDict (i : Nat) {p3 : Pos} (hN : X.N.Nodup) (hi : X.N[i]? = some x := by rfl) (hx : Loc X.env.scope x := by first | exact Or.inl rfl | exact Or.inr rfl) (hs : swapsWith (.Dict [] [] p3) (some (.Name x p)) pos.line X.env = pure false := by rfl) (hf : X.fn x = true ∨ X.env.scope.names.lookup x = some .local := by first | exact .inl rfl | exact .inr rfl) :
    PS X (.Assign [.Name x p] (.Dict [] [] p3) pos) (tS X.K W (sSetDict i)) := ps_mono (ps_set hN hi hx pe_dnewDT hs hf) fun E σ H ⟨H0, Z0, Z, env, hE, q⟩ => by
  unfold sSetDict at q
  by_cases hl : i < env.length
  · rw [if_pos hl] at q
    intro a ha
    have m1 : Ext Z H Z (upd H a (DTO X.prog X.w a [])) := .made hE.sz ha
    refine q Z _ _ ((hE.ext m1).setOb hl upd_same (hE.sz.free ha) (hE.s0.free ha) ⟨X.prog, X.w, [], rfl, rfl, fun x hx => nomatch hx⟩ fun j _ k1 k2 => ?_)
    obtain ⟨q, k3, k4⟩ := hE.owat k1
    rw [k3] at k2
    cases k2
    exact k4 ha
  · rw [if_neg hl] at q; exact q.elim
def sSetKey (i : Nat) (fb : Env → Res D) : Env → Out := fun env => (fb env).out fun d => match env[i]?, intsT d with
  | some (.ob (.dkt ks)), some k => if ks.length < 1000 then .next (env.set i (.ob (.dkt (addK ks k)))) else .bad
  | _, _ => .bad
theorem S_setKey (i : Nat) {p3 : Pos} {jn : Nat} (hu : X.A.units + 66 < cLine) (hb : PE X b (tE X.K fb)) (hN : X.N[i]? = some x := by rfl) (hv : Vis X.env.scope x := by first | exact Or.inl rfl | exact Or.inr (Or.inl rfl) | exact Or.inr (Or.inr rfl)) (hd : (x == ("__debug__" : Str)) = false := by decide)
    (hcd : (x == ("__classdict__" : Str)) = false := by decide) (hs : swapsWithSole [.Subscript (.Name x p) b p2] (.Constant (.bool true) jn p3) pos.line X.env = pure false := by rfl) (hw : swappedStores [.Subscript (.Name x p) b p2] (.Constant (.bool true) jn p3) X.env = pure none := by rfl)
    (h1 : (assignEach [.Subscript (.Name x p) b p2] X.env).map (·.2) = [assign (.Subscript (.Name x p) b p2) X.env] := by rfl)
    (ha : ∀ v, assign (.Subscript (.Name x p) b p2) X.env v = (do
      let ov ← holding [v] (eval (.Name x p) X.env)
      let iv ← holding [v, ov] (eval b X.env)
      standAt p2
      holding [v, ov, iv] (setItem ov iv v)
      release [v, ov, iv] []) := by intro _; rfl) : PS X (.Assign [.Subscript (.Name x p) b p2] (.Constant (.bool true) jn p3) pos) (tS X.K W (sSetKey i fb)) :=
  ps_mono (ps_asg pe_bl (pg_sub (pe_var hN hv hd hcd) hb (set_DT hu) ha) hs hw h1) fun E σ H ⟨H0, Z0, Z, env, hE, q⟩ => by
    obtain ⟨d, k1, k2⟩ := Res.out_eq q
    split at k2
    · rename_i ks k e0 ek
      by_cases hl : ks.length < 1000
      · rw [if_pos hl] at k2
        have ed := intsT_eq ek
        subst ed
        obtain ⟨a, o, g1, g2, g3, g4, P, w, xs, rfl, g6, g7⟩ := hE.ob e0
        refine ⟨_, g1, H0, Z0, Z, env, _, hE, k1, fun v H1 Z1 e1 hv => ?_⟩
        obtain ⟨c, rfl, hc⟩ := dp_tup hv
        have hE1 := hE.ext e1
        have g2' : H1 a = some (DTO X.prog X.w a xs) := by rw [e1.hh _ _ g2, dto_any P X.prog w X.w]
        have lx : xs.length = ks.length := by rw [← g6, List.length_map]
        refine ⟨a, xs, k, c, rfl, rfl, g2', seqT hE1.sz hc, fun x hx => seqT (e1.zz.trans hE1.sz) (g7 x hx), by omega, fun r => ?_⟩
        refine k2 Z1 σ _ (hE1.mutOb e0 g1 ⟨X.prog, X.w, _, rfl, ?_, storedH_sq hc fun x hx => seqT e1.zz (g7 x hx)⟩)
        rw [storedH_keys, g6]; rfl
      · rw [if_neg hl] at k2; exact k2.elim
    · exact k2.elim
def eSortedD (i : Nat) : Env → Res RV := fun env => match env[i]? with
  | some (.ob (.dkt ks)) => if ks.length ≤ 1000 then gSorted [.list (ks.map tupD)] else .bad
  | _ => .bad
theorem V_sortedD (i : Nat) (hu : X.A.units + 66 < cLine) (m : X.mg "sorted" = none) (calm : X.calm = true := by rfl) {p3 pos2 : Pos} (hN : X.N[i]? = some x := by rfl) (hv : Vis X.env.scope x := by first | exact Or.inl rfl | exact Or.inr (Or.inl rfl) | exact Or.inr (Or.inr rfl)) (hd : (x == ("__debug__" : Str)) = false := by decide)
    (hcd : (x == ("__classdict__" : Str)) = false := by decide) (hg : Gl X "sorted" := by rfl)
    (he : starEach [.Name x p3] X.env = (false, eval (.Name x p3) X.env) :: starEach [] X.env := by rfl) (hpl : (backTo pos2 (starEach [] X.env)).any (·.1) = false := by rfl) :
    PE X (.Call (.Name "sorted" p) [.Name x p3] [] pos2) (tV X.K (eSortedD i)) :=
  pe_mono (pe_callB (cr_sortedDT calm hu) hg m PyProof.Rows.boot_sorted (pa_cons (pe_var hN hv hd hcd) pa_nil he) (by decide) (by decide) he hpl) fun σ H Q ⟨H0, Z0, Z, env, r, hE, hf, q⟩ => by
    unfold eSortedD at hf
    split at hf
    · rename_i ks e0
      obtain ⟨hl, hf⟩ := ite_ok hf
      unfold gSorted at hf
      obtain ⟨⟨c1, c2, c3⟩, k6⟩ := ite_ok hf
      cases k6
      obtain ⟨a, o, g1, g2, g3, g4, P, w, xs, rfl, g6, g7⟩ := hE.ob e0
      rw [dto_any P X.prog w X.w] at g2
      have lx : xs.length = ks.length := by rw [← g6, List.length_map]
      have eds : (xs.map rowD).map (·.2) = ks.map tupD := by
        rw [← g6, List.map_map, List.map_map]; rfl
      refine ⟨_, g1, a, xs, rfl, g2, fun x hx => seqT hE.sz (g7 x hx), by omega, by rw [eds]; exact c1, by rw [eds]; exact c2, by rw [eds]; exact c3, fun p c4 => ?_⟩
      have zp := hE.sz.free c4
      refine q _ _ Z (.made hE.sz c4) ⟨p, _, _, rfl, rfl, c4, zp, upd_same, ?_⟩
      have e3 : (ks.map tupD).mergeSort leD = ((xs.map rowD).mergeSort (PySem.W.dataLe false (fun b : V × D => b.2))).map (·.2) := by
        have z := List.map_mergeSort (r := PySem.W.dataLe false (fun b : V × D => b.2)) (s := leD) (f := fun b : V × D => b.2) (l := xs.map rowD) (fun _ _ _ _ => rfl)
        rw [eds] at z
        exact z.symm
      rw [e3]
      refine dps_of_zip fun b hb => ?_
      obtain ⟨x, hx, rfl⟩ := List.mem_map.mp ((List.mergeSort_perm _ _).mem_iff.mp hb)
      exact .tup (g7 x hx) (ints_dps _)
    · cases hf
/-! xs.count(i) -/
def gCount : D → D → Res D
  | .list ds, .int k => match asInts ds with
    | some ns => .ok (.int (ns.count k : Nat))
    | none => .bad
  | _, _ => .bad
variable {o : Expr} {fo fe : Env → Res D} {apos cpos : Pos}
theorem count_red : ∀ σ H Q, tE X.K (eOp2 gCount fo fe) σ H Q → tBM X.K "list" (rCntI X.K) (tP X.K fo) (tCons (tP X.K fe) tNil) σ H Q := fun σ H Q ⟨H0, Z0, Z, env, r, hE, hf, q⟩ => by
  obtain ⟨x, h1, hfa⟩ := Res.bind_eq hf
  obtain ⟨y, h2, hfb⟩ := Res.bind_eq hfa
  clear hf hfa
  refine ⟨H0, Z0, Z, env, x, hE, h1, fun v H1 Z1 e1 d1 => ?_⟩
  unfold gCount at hfb
  split at hfb
  · rename_i ds k
    split at hfb
    · rename_i ns hn
      cases hfb
      have en := asInts_eq hn
      subst en
      obtain ⟨p, vs, rfl, g1, g2⟩ := d1.list e1.zh
      have ev := dps_ints g2
      subst ev
      refine ⟨.inl ⟨rfl, _, g1⟩, H0, Z0, Z1, env, _, hE.ext e1, h2, fun w H2 Z2 e2 d2 => ?_⟩
      have ew := d2.int
      subst ew
      exact ⟨p, ns, k, rfl, rfl, e2.hh.seq g1, q _ H2 Z2 (e1.trans e2) (.int _)⟩
    · cases hfb
  · cases hfb
theorem E_count (ho : PE X o (tP X.K fo)) (he : PE X e (tP X.K fe)) (hbase : attributeBase o "count" X.env (eval o X.env) = eval o X.env := by rfl)
    (hfew : ((backTo cpos (starEach [e] X.env)).all (fun x => !x.1) && (backToKw cpos (keywordEach [] X.env)).all (fun x => x.1.isSome)
      && decide ([e].length + ([] : List Keyword).length + (if ([] : List Keyword).isEmpty then 0 else 1) < 30)) = true := by rfl)
    (hline : (apos.endLine == cpos.line) = true := by rfl) (hs : starEach [e] X.env = (false, eval e X.env) :: starEach [] X.env := by rfl) (hplain : (backTo cpos (starEach [] X.env)).any (·.1) = false := by rfl) :
    PE X (.Call (.Attribute o "count" apos) [e] [] cpos) (tE X.K (eOp2 gCount fo fe)) :=
  pe_mono (pe_bm PySem.F.plainAttrs_list PySem.F.slot_list_count PySem.F.type_list_count mt_lcount ho (pa_cons he pa_nil hs) hbase hfew hline hs hplain) count_red
end
@[simp] theorem gCount_ev (ns : List Int) (k : Int) : gCount (.list (ns.map PyData.int)) (.int k) = .ok (.int (ns.count k : Nat)) := by
  unfold gCount
  simp
@[simp] theorem sSetDict_ev (i : Nat) (env : Env) : sSetDict i env = if i < env.length then .next (env.set i (.ob (.dkt []))) else .bad := Eq.trans rfl rfl
@[simp] theorem sSetKey_ev (i : Nat) (fb : Env → Res D) (env : Env) : sSetKey i fb env = (fb env).out fun d => match env[i]?, intsT d with
  | some (.ob (.dkt ks)), some k => if ks.length < 1000 then .next (env.set i (.ob (.dkt (addK ks k)))) else .bad
  | _, _ => .bad := Eq.trans rfl rfl
@[simp] theorem eSortedD_ev (i : Nat) (env : Env) : eSortedD i env = match env[i]? with
  | some (.ob (.dkt ks)) => if ks.length ≤ 1000 then gSorted [.list (ks.map tupD)] else .bad
  | _ => .bad := Eq.trans rfl rfl
end PV

/-! ### the mirrors -/
namespace G
open PySem PySem.Spec L2 PV
set_option autoImplicit false
set_option linter.all false
/-- line_through(one, other): 0 one 1 other 2 common 3 a 4 b -/
noncomputable def b_line_through : PV.Env → Out :=
  (sSeq (sPar 3 4 (aCons (eOp2 gSub (eOp2 gIdx (ePk 1) (eC (.int 1))) (eOp2 gIdx (ePk 0) (eC (.int 1)))) (aCons (eOp2 gSub (eOp2 gIdx (ePk 0) (eC (.int 0))) (eOp2 gIdx (ePk 1) (eC (.int 0)))) aNil)))
  (sSeq (sSet 2 (eBi gGcd (aCons (ePk 3) (aCons (ePk 4) aNil))))
  (sSeq (sIf (bOr (eB (eOp2 gLt (ePk 3) (eC (.int 0)))) (bAnd (eB (eOp2 gEq (ePk 3) (eC (.int 0)))) (eB (eOp2 gLt (ePk 4) (eC (.int 0))))))
  (sSet 2 (eOp1 gNeg (ePk 2)))
  sNil)
  (sSeq (sPar 3 4 (aCons (eOp2 gDiv (ePk 3) (ePk 2)) (aCons (eOp2 gDiv (ePk 4) (ePk 2)) aNil)))
  (sRetE (eTup (aCons (eVar 3) (aCons (eVar 4) (aCons (eV (eOp2 gAdd (eOp2 gMul (ePk 3) (eOp2 gIdx (ePk 0) (eC (.int 0)))) (eOp2 gMul (ePk 4) (eOp2 gIdx (ePk 0) (eC (.int 1)))))) aNil)))))))))
noncomputable def m_line_through : List D → Res RV := fnM 2 5 b_line_through
/-- lines_of(stones): 0 stones 1 found 2 k 3 one 4 other -/
noncomputable def b_lines_of_1 : PV.Env → Out :=
  (sIf (eB (eOp2 gNe (ePk 3) (ePk 4)))
  (sSetKey 1 (eV (eCall m_line_through (aCons (eVar 3) (aCons (eVar 4) aNil)))))
  sNil)
noncomputable def b_lines_of_2 : PV.Env → Out :=
  (sFor (iSeq (eV (eSl (ePk 0) eNo (eOpt (ePk 2))))) (gNm 4) [2, 4] (b_lines_of_1))
noncomputable def b_lines_of : PV.Env → Out :=
  (sSeq (sSetDict 1)
  (sSeq (sFor (iEnumD (eVar 0)) (gTp 2 (gsCons (gNm 2) (gsCons (gNm 3) gsNil))) [2, 3, 4] (b_lines_of_2))
  (sRetV (eSortedD 1))))
noncomputable def m_lines_of : List D → Res RV := fnM 1 5 b_lines_of
/-- sides(line, crowd): 0 line 1 crowd 2 values 3 less 4 x 5 y 6 value -/
noncomputable def b_sides : PV.Env → Out :=
  (sSeq (sSetV 2 (eComp (iSeq (ePk 1)) [4, 5] (gTp 2 (gsCons (gNm 4) (gsCons (gNm 5) gsNil))) bYes (eV (eOp2 gAdd (eOp2 gMul (eOp2 gIdx (ePk 0) (eC (.int 0))) (ePk 4)) (eOp2 gMul (eOp2 gIdx (ePk 0) (eC (.int 1))) (ePk 5))))))
  (sSeq (sSet 3 (eBi gLen (aCons (eV (eComp (iSeq (ePk 2)) [6] (gNm 6) (eB (eOp2 gLt (ePk 6) (eOp2 gIdx (ePk 0) (eC (.int 2))))) (eVar 6))) aNil)))
  (sRetE (eTup (aCons (eVar 3) (aCons (eOp2 gCount (ePk 2) (eOp2 gIdx (ePk 0) (eC (.int 2)))) (aCons (eOp2 gSub (eOp2 gSub (eBi gLen (aCons (ePk 2) aNil)) (ePk 3)) (eOp2 gCount (ePk 2) (eOp2 gIdx (ePk 0) (eC (.int 2))))) aNil)))))))
noncomputable def m_sides : List D → Res RV := fnM 2 7 b_sides
/-- halves(line, crowd): 0 line 1 crowd 2 less 3 _ 4 more -/
noncomputable def b_halves : PV.Env → Out :=
  (sSeq (sSetE (gTp 3 (gsCons (gNm 2) (gsCons (gNm 3) (gsCons (gNm 4) gsNil)))) (eV (eCall m_sides (aCons (eVar 0) (aCons (eVar 1) aNil)))))
  (sRetE (eOp2 gLe (eOp2 gMul (eC (.int 2)) (eBi gMax2 (aCons (ePk 2) (aCons (ePk 4) aNil)))) (eBi gLen (aCons (ePk 1) aNil)))))
noncomputable def m_halves : List D → Res RV := fnM 2 5 b_halves
/-- all_halving(one, other): 0 one 1 other 2 line -/
noncomputable def b_all_halving : PV.Env → Out :=
  (sRetV (eComp (iSeq (eV (eCall m_lines_of (aCons (eV (eOp2 gAdd (ePk 0) (ePk 1))) aNil)))) [2] (gNm 2) (bAnd (eTr (eCallS m_halves (aCons (ePk 2) (aCons (ePk 0) aNil)))) (eTr (eCallS m_halves (aCons (ePk 2) (aCons (ePk 1) aNil))))) (eVar 2)))
noncomputable def m_all_halving : List D → Res RV := fnM 2 3 b_all_halving
/-- _law_cell(script, k): 0 script 1 k -/
noncomputable def b__law_cell : PV.Env → Out :=
  (sSeq (sIf (eB (eOp2 gLt (ePk 1) (eBi gLen (aCons (ePk 0) aNil))))
  (sRetE (eBi gIntT (aCons (eOp2 gIdx (ePk 0) (ePk 1)) aNil)))
  sNil)
  (sRetE (eC (.int 0))))
noncomputable def m__law_cell : List D → Res RV := fnM 2 2 b__law_cell
/-- _law_numbers(cell, count, limit): 0 cell 1 count 2 limit 3 found 4 k 5 mixed -/
noncomputable def b__law_numbers_1 : PV.Env → Out :=
  (sSeq (sApp 3 (eOp2 gMod (eBi gIntT (aCons (ePk 0) aNil)) (ePk 2)))
  (sSet 0 (eOp2 gDiv (eBi gIntT (aCons (ePk 0) aNil)) (ePk 2))))
noncomputable def b__law_numbers_2 : PV.Env → Out :=
  (sSeq (sSet 5 (eOp2 gMod (eBi gIntT (aCons (eV (eOp2 gAdd (eV (eOp2 gAdd (eOp2 gMul (ePk 0) (eC (.int 48271))) (eOp2 gMul (ePk 4) (eC (.int 69621))))) (eC (.int 7)))) aNil)) (eC (.int 2147483647))))
  (sSeq (sSet 5 (eOp2 gMod (eBi gIntT (aCons (eV (eOp2 gAdd (eV (eOp2 gAdd (eV (eOp2 gAdd (eOp2 gMul (ePk 5) (ePk 5)) (eOp2 gMul (ePk 5) (eC (.int 40692))))) (eOp2 gMul (ePk 4) (eC (.int 16807))))) (eC (.int 11)))) aNil)) (eC (.int 2147483399))))
  (sApp 3 (eOp2 gMod (eBi gIntT (aCons (eOp2 gDiv (ePk 5) (eC (.int 32))) aNil)) (ePk 2)))))
noncomputable def b__law_numbers : PV.Env → Out :=
  (sSeq (sSetV 3 (eLst aNil))
  (sSeq (sIf (eB (eOp2 gGe (ePk 0) (eOp2 gPow (eC (.int 10)) (eC (.int 18)))))
  (sSeq (sFor (iRange1 (ePk 1)) (gNm 4) [1, 4, 5] (b__law_numbers_1))
  (sRetVar 3))
  sNil)
  (sSeq (sFor (iRange1 (ePk 1)) (gNm 4) [1, 4, 5] (b__law_numbers_2))
  (sRetVar 3))))
noncomputable def m__law_numbers : List D → Res RV := fnM 3 6 b__law_numbers
/-- _law_common(one, other): 0 one 1 other 2 turn -/
noncomputable def b__law_common_1 : PV.Env → Out :=
  (sSeq (sIf (eB (eOp2 gEq (ePk 1) (eC (.int 0))))
  (sRetVar 0)
  sNil)
  (sPar 0 1 (aCons (eVar 1) (aCons (eOp2 gMod (eBi gIntT (aCons (ePk 0) aNil)) (ePk 1)) aNil))))
noncomputable def b__law_common : PV.Env → Out :=
  (sSeq (sSet 0 (eBi gAbs (aCons (ePk 0) aNil)))
  (sSeq (sSet 1 (eBi gAbs (aCons (ePk 1) aNil)))
  (sSeq (sFor (iRange1 (eC (.int 900))) (gNm 2) [2] (b__law_common_1))
  (sRetVar 0))))
noncomputable def m__law_common : List D → Res RV := fnM 2 3 b__law_common
/-- _law_same(told, due): 0 told 1 due 2 k -/
noncomputable def b__law_same_1 (rec : List D → Res RV) : PV.Env → Out :=
  (sIf (bNot (eTr (eCallS rec (aCons (eOp2 gIdx (ePk 0) (ePk 2)) (aCons (eOp2 gIdx (ePk 1) (ePk 2)) aNil)))))
  (sRetE (eC (.bool false)))
  sNil)
noncomputable def b__law_same (rec : List D → Res RV) : PV.Env → Out :=
  (sSeq (sIf (eTr (eOp1 (gIsa "list") (ePk 1)))
  (sIf (bOr (bNot (eTr (eOp1 (gIsa "list") (ePk 0)))) (eB (eOp2 gNe (eBi gLen (aCons (ePk 0) aNil)) (eBi gLen (aCons (ePk 1) aNil)))))
  (sRetE (eC (.bool false)))
  sNil)
  (sIf (eTr (eOp1 (gIsa "tuple") (ePk 1)))
  (sIf (bOr (bNot (eTr (eOp1 (gIsa "tuple") (ePk 0)))) (eB (eOp2 gNe (eBi gLen (aCons (ePk 0) aNil)) (eBi gLen (aCons (ePk 1) aNil)))))
  (sRetE (eC (.bool false)))
  sNil)
  (sIf (eB (eOp2 gIs (ePk 1) (eC .none)))
  (sRetE (eOp2 gIs (ePk 0) (eC .none)))
  (sIf (eTr (eOp1 (gIsa "bool") (ePk 1)))
  (sRetE (eAnd (eOp1 (gIsa "bool") (ePk 0)) (eOp2 gEq (ePk 0) (ePk 1))))
  (sIf (eTr (eOp1 (gIsa "int") (ePk 1)))
  (sRetE (eAnd (eOp1 (gIsa "int") (ePk 0)) (eAnd (eNot (eOp1 (gIsa "bool") (ePk 0))) (eOp2 gEq (ePk 0) (ePk 1)))))
  (sRetE (eAnd (eOp1 (gIsa "str") (ePk 0)) (eOp2 gEq (ePk 0) (ePk 1)))))))))
  (sSeq (sFor (iRange1 (eBi gLen (aCons (ePk 1) aNil))) (gNm 2) [2] (b__law_same_1 rec))
  (sRetE (eC (.bool true)))))
noncomputable def m__law_same : Nat → List D → Res RV
  | 0 => fun _ => .bad
  | n + 1 => fnM 2 3 (b__law_same (m__law_same n))
/-- _law_crowd(script, at, least, most): 0 script 1 at 2 least 3 most 4 draws 5 count 6 kind 7 span 8 ring 9 found 10 k 11 x 12 y 13 stone -/
noncomputable def b__law_crowd_1 : PV.Env → Out :=
  (sSeq (sSet 11 (eOp2 gIdx (ePk 4) (eV (eOp2 gAdd (eC (.int 4)) (eOp2 gMul (eC (.int 2)) (ePk 10))))))
  (sSeq (sSet 12 (eOp2 gIdx (ePk 4) (eV (eOp2 gAdd (eC (.int 5)) (eOp2 gMul (eC (.int 2)) (ePk 10))))))
  (sSeq (sSet 13 (eTup (aCons (eOp2 gSub (eOp2 gMod (ePk 11) (eV (eOp2 gAdd (eOp2 gMul (eC (.int 2)) (ePk 7)) (eC (.int 1))))) (ePk 7)) (aCons (eOp2 gSub (eOp2 gMod (ePk 12) (eV (eOp2 gAdd (eOp2 gMul (eC (.int 2)) (ePk 7)) (eC (.int 1))))) (ePk 7)) aNil))))
  (sSeq (sIf (eB (eOp2 gEq (ePk 6) (eC (.int 1))))
  (sSet 13 (eTup (aCons (eV (eOp2 gAdd (eOp2 gMod (eOp2 gIdx (ePk 4) (eC (.int 28))) (eC (.int 9))) (eOp2 gMul (eOp2 gSub (eOp2 gMod (ePk 11) (eC (.int 21))) (eC (.int 10))) (eOp2 gSub (eOp2 gMod (eOp2 gIdx (ePk 4) (eC (.int 3))) (eC (.int 3))) (eC (.int 1)))))) (aCons (eV (eOp2 gAdd (eOp2 gMod (eOp2 gIdx (ePk 4) (eC (.int 29))) (eC (.int 9))) (eOp2 gMul (eOp2 gSub (eOp2 gMod (ePk 11) (eC (.int 21))) (eC (.int 10))) (eOp2 gSub (eOp2 gMod (eOp2 gDiv (eOp2 gIdx (ePk 4) (eC (.int 3))) (eC (.int 3))) (eC (.int 4))) (eC (.int 1)))))) aNil))))
  sNil)
  (sSeq (sIf (bAnd (eB (eOp2 gEq (ePk 6) (eC (.int 2)))) (bAnd (eB (eOp2 gGt (ePk 10) (eC (.int 0)))) (eB (eOp2 gEq (eOp2 gMod (ePk 11) (eC (.int 3))) (eC (.int 0))))))
  (sSet 13 (eOp2 gIdx (ePk 9) (eOp2 gMod (ePk 12) (ePk 10))))
  sNil)
  (sSeq (sIf (eB (eOp2 gEq (ePk 6) (eC (.int 3))))
  (sSet 13 (eOp2 gIdx (ePk 8) (eOp2 gMod (eBi gIntT (aCons (eV (eOp2 gAdd (eOp2 gIdx (ePk 4) (eC (.int 3))) (eOp2 gMul (eC (.int 5)) (ePk 10)))) aNil)) (eC (.int 12)))))
  sNil)
  (sSeq (sIf (bAnd (eB (eOp2 gEq (ePk 6) (eC (.int 4)))) (bAnd (eB (eOp2 gGt (ePk 10) (eC (.int 0)))) (eB (eOp2 gEq (eOp2 gMod (ePk 10) (eC (.int 2))) (eC (.int 1))))))
  (sSet 13 (eTup (aCons (eOp2 gSub (eC (.int 0)) (eOp2 gIdx (eOp2 gIdx (ePk 9) (eOp2 gSub (ePk 10) (eC (.int 1)))) (eC (.int 0)))) (aCons (eOp2 gSub (eC (.int 0)) (eOp2 gIdx (eOp2 gIdx (ePk 9) (eOp2 gSub (ePk 10) (eC (.int 1)))) (eC (.int 1)))) aNil))))
  sNil)
  (sApp 9 (eVar 13)))))))))
noncomputable def b__law_crowd_t7 : PV.Env → Out :=
  (sRetVar 9)
noncomputable def b__law_crowd_t6 : PV.Env → Out :=
  (sSeq (sFor (iRange1 (ePk 5)) (gNm 10) [0, 1, 2, 3, 5, 10, 11, 12, 13] (b__law_crowd_1))
  (b__law_crowd_t7))
noncomputable def b__law_crowd_t5 : PV.Env → Out :=
  (sSeq (sSetV 9 (eLst aNil))
  (b__law_crowd_t6))
noncomputable def b__law_crowd_t4 : PV.Env → Out :=
  (sSeq (sSetV 8 (eLst (aCons (eTup (aCons (eC (.int 10)) (aCons (eC (.int 0)) aNil))) (aCons (eTup (aCons (eC (.int 9)) (aCons (eC (.int 5)) aNil))) (aCons (eTup (aCons (eC (.int 5)) (aCons (eC (.int 9)) aNil))) (aCons (eTup (aCons (eC (.int 0)) (aCons (eC (.int 10)) aNil))) (aCons (eTup (aCons (eOp1 gNeg (eC (.int 5))) (aCons (eC (.int 9)) aNil))) (aCons (eTup (aCons (eOp1 gNeg (eC (.int 9))) (aCons (eC (.int 5)) aNil))) (aCons (eTup (aCons (eOp1 gNeg (eC (.int 10))) (aCons (eC (.int 0)) aNil))) (aCons (eTup (aCons (eOp1 gNeg (eC (.int 9))) (aCons (eOp1 gNeg (eC (.int 5))) aNil))) (aCons (eTup (aCons (eOp1 gNeg (eC (.int 5))) (aCons (eOp1 gNeg (eC (.int 9))) aNil))) (aCons (eTup (aCons (eC (.int 0)) (aCons (eOp1 gNeg (eC (.int 10))) aNil))) (aCons (eTup (aCons (eC (.int 5)) (aCons (eOp1 gNeg (eC (.int 9))) aNil))) (aCons (eTup (aCons (eC (.int 9)) (aCons (eOp1 gNeg (eC (.int 5))) aNil))) aNil))))))))))))))
  (b__law_crowd_t5))
noncomputable def b__law_crowd_t3 : PV.Env → Out :=
  (sSeq (sSet 7 (eOp2 gIdx (eV (eLst (aCons (eC (.int 2)) (aCons (eC (.int 5)) (aCons (eC (.int 40)) (aCons (eC (.int 1000)) aNil)))))) (eOp2 gMod (eOp2 gIdx (ePk 4) (eC (.int 2))) (eC (.int 4)))))
  (b__law_crowd_t4))
noncomputable def b__law_crowd_t2 : PV.Env → Out :=
  (sSeq (sSet 6 (eOp2 gMod (eOp2 gIdx (ePk 4) (eC (.int 1))) (eC (.int 6))))
  (b__law_crowd_t3))
noncomputable def b__law_crowd_t1 : PV.Env → Out :=
  (sSeq (sSetV 5 (eOp2 gAdd (ePk 2) (eOp2 gMod (eOp2 gIdx (ePk 4) (eC (.int 0))) (eV (eOp2 gAdd (eOp2 gSub (ePk 3) (ePk 2)) (eC (.int 1)))))))
  (b__law_crowd_t2))
noncomputable def b__law_crowd : PV.Env → Out :=
  (sSeq (sSetV 4 (eCall m__law_numbers (aCons (eCallS m__law_cell (aCons (ePk 0) (aCons (ePk 1) aNil))) (aCons (eC (.int 30)) (aCons (eC (.int 5040)) aNil)))))
  (b__law_crowd_t1))
noncomputable def m__law_crowd : List D → Res RV := fnM 4 14 b__law_crowd
/-- _law_value(fence, stone): 0 fence 1 stone -/
noncomputable def b__law_value : PV.Env → Out :=
  (sRetV (eOp2 gAdd (eOp2 gMul (eOp2 gIdx (ePk 0) (eC (.int 0))) (eOp2 gIdx (ePk 1) (eC (.int 0)))) (eOp2 gMul (eOp2 gIdx (ePk 0) (eC (.int 1))) (eOp2 gIdx (ePk 1) (eC (.int 1))))))
noncomputable def m__law_value : List D → Res RV := fnM 2 2 b__law_value
/-- _law_line(one, other): 0 one 1 other 2 a 3 b 4 common -/
noncomputable def b__law_line : PV.Env → Out :=
  (sSeq (sSet 2 (eOp2 gSub (eOp2 gIdx (ePk 1) (eC (.int 1))) (eOp2 gIdx (ePk 0) (eC (.int 1)))))
  (sSeq (sSet 3 (eOp2 gSub (eOp2 gIdx (ePk 0) (eC (.int 0))) (eOp2 gIdx (ePk 1) (eC (.int 0)))))
  (sSeq (sSetV 4 (eCall m__law_common (aCons (eVar 2) (aCons (eVar 3) aNil))))
  (sSeq (sIf (bOr (eB (eOp2 gLt (ePk 2) (eC (.int 0)))) (bAnd (eB (eOp2 gEq (ePk 2) (eC (.int 0)))) (eB (eOp2 gLt (ePk 3) (eC (.int 0))))))
  (sSet 4 (eOp2 gSub (eC (.int 0)) (ePk 4)))
  sNil)
  (sRetE (eTup (aCons (eOp2 gDiv (ePk 2) (ePk 4)) (aCons (eOp2 gDiv (ePk 3) (ePk 4)) (aCons (eV (eOp2 gAdd (eOp2 gMul (eOp2 gDiv (ePk 2) (ePk 4)) (eOp2 gIdx (ePk 0) (eC (.int 0)))) (eOp2 gMul (eOp2 gDiv (ePk 3) (ePk 4)) (eOp2 gIdx (ePk 0) (eC (.int 1)))))) aNil)))))))))
noncomputable def m__law_line : List D → Res RV := fnM 2 5 b__law_line
/-- _law_lines(stones): 0 stones 1 found 2 i 3 j -/
noncomputable def b__law_lines_1 : PV.Env → Out :=
  (sIf (bAnd (eB (eOp2 gNe (eOp2 gIdx (ePk 0) (ePk 2)) (eOp2 gIdx (ePk 0) (ePk 3)))) (eB (eOp2 gNotIn (eV (eCall m__law_line (aCons (eOp2 gIdx (ePk 0) (ePk 2)) (aCons (eOp2 gIdx (ePk 0) (ePk 3)) aNil)))) (ePk 1))))
  (sApp 1 (eV (eCall m__law_line (aCons (eOp2 gIdx (ePk 0) (ePk 2)) (aCons (eOp2 gIdx (ePk 0) (ePk 3)) aNil)))))
  sNil)
noncomputable def b__law_lines_2 : PV.Env → Out :=
  (sFor (iRange1 (ePk 2)) (gNm 3) [3] (b__law_lines_1))
noncomputable def b__law_lines : PV.Env → Out :=
  (sSeq (sSetV 1 (eLst aNil))
  (sSeq (sFor (iRange1 (eBi gLen (aCons (ePk 0) aNil))) (gNm 2) [2, 3] (b__law_lines_2))
  (sRetV (eBi gSorted (aCons (ePk 1) aNil)))))
noncomputable def m__law_lines : List D → Res RV := fnM 1 4 b__law_lines
/-- _law_sides(line, crowd): 0 line 1 crowd 2 less 3 same 4 stone -/
noncomputable def b__law_sides : PV.Env → Out :=
  (sSeq (sSet 2 (eBi gLen (aCons (eV (eComp (iSeq (ePk 1)) [4] (gNm 4) (eB (eOp2 gLt (eV (eCall m__law_value (aCons (eVar 0) (aCons (eVar 4) aNil)))) (eOp2 gIdx (ePk 0) (eC (.int 2))))) (eVar 4))) aNil)))
  (sSeq (sSet 3 (eBi gLen (aCons (eV (eComp (iSeq (ePk 1)) [4] (gNm 4) (eB (eOp2 gEq (eV (eCall m__law_value (aCons (eVar 0) (aCons (eVar 4) aNil)))) (eOp2 gIdx (ePk 0) (eC (.int 2))))) (eVar 4))) aNil)))
  (sRetE (eTup (aCons (eVar 2) (aCons (eVar 3) (aCons (eOp2 gSub (eOp2 gSub (eBi gLen (aCons (ePk 1) aNil)) (ePk 2)) (ePk 3)) aNil)))))))
noncomputable def m__law_sides : List D → Res RV := fnM 2 5 b__law_sides
/-- _law_halves(line, crowd): 0 line 1 crowd 2 less 3 same 4 more -/
noncomputable def b__law_halves : PV.Env → Out :=
  (sSeq (sSetE (gTp 3 (gsCons (gNm 2) (gsCons (gNm 3) (gsCons (gNm 4) gsNil)))) (eV (eCall m__law_sides (aCons (eVar 0) (aCons (eVar 1) aNil)))))
  (sRetE (eAnd (eOp2 gLe (eOp2 gMul (eC (.int 2)) (ePk 2)) (eBi gLen (aCons (ePk 1) aNil))) (eOp2 gLe (eOp2 gMul (eC (.int 2)) (ePk 4)) (eBi gLen (aCons (ePk 1) aNil))))))
noncomputable def m__law_halves : List D → Res RV := fnM 2 5 b__law_halves
/-- law(script): 0 script 1 draws 2 one 3 other 4 kept 5 due 6 turn 7 p 8 drawn 9 line 10 told 11 both 12 q 13 crowd -/
noncomputable def b_law_1 : PV.Env → Out :=
  (sSeq (sSetV 10 (eCall m_lines_of (aCons (eV (eOp2 gAdd (ePk 2) (ePk 3))) aNil)))
  (sSeq (sFz [2, 3] (sSetV 11 (eCall m_all_halving (aCons (eVar 2) (aCons (eVar 3) aNil)))))
  (sSeq (sIf (bOr (bNot (eTr (eCallS (m__law_same 12) (aCons (ePk 10) (aCons (ePk 5) aNil))))) (bNot (eTr (eCallS (m__law_same 12) (aCons (ePk 11) (aCons (eV (eComp (iSeq (ePk 5)) [9] (gNm 9) (bAnd (eTr (eCallS m__law_halves (aCons (ePk 9) (aCons (ePk 2) aNil)))) (eTr (eCallS m__law_halves (aCons (ePk 9) (aCons (ePk 3) aNil))))) (eVar 9))) aNil))))))
  (sRetE (eC (.bool false)))
  sNil)
  (sSeq (sApp 10 (eC (.int 0)))
  (sApp 11 (eC (.int 0)))))))
noncomputable def b_law_2 : PV.Env → Out :=
  (sIf (eB (eOp2 gNe (ePk 7) (ePk 12)))
  (sSeq (sSetV 9 (eCall m_line_through (aCons (eVar 7) (aCons (eVar 12) aNil))))
  (sSeq (sIf (bOr (bNot (eTr (eCallS (m__law_same 12) (aCons (ePk 9) (aCons (eV (eCall m__law_line (aCons (eVar 7) (aCons (eVar 12) aNil)))) aNil))))) (eB (eOp2 gNe (eV (eCall m__law_common (aCons (eV (eCall m__law_common (aCons (eOp2 gIdx (ePk 9) (eC (.int 0))) (aCons (eOp2 gIdx (ePk 9) (eC (.int 1))) aNil)))) (aCons (eOp2 gIdx (ePk 9) (eC (.int 2))) aNil)))) (eC (.int 1)))))
  (sRetE (eC (.bool false)))
  sNil)
  (sFz [9] (sIf (bOr (eB (eOp2 gNe (eV (eCall m__law_value (aCons (eVar 9) (aCons (eVar 7) aNil)))) (eOp2 gIdx (ePk 9) (eC (.int 2))))) (eB (eOp2 gNe (eV (eCall m__law_value (aCons (eVar 9) (aCons (eVar 12) aNil)))) (eOp2 gIdx (ePk 9) (eC (.int 2))))))
  (sRetE (eC (.bool false)))
  sNil))))
  sNil)
noncomputable def b_law_3 : PV.Env → Out :=
  (sFz [3] (sFor (iSeq (eVar 3)) (gNm 12) [0, 6, 8, 9, 10, 11, 12, 13] (b_law_2)))
noncomputable def b_law_4 : PV.Env → Out :=
  (sSeq (sFz [9] (sIf (bOr (bNot (eTr (eCallS (m__law_same 12) (aCons (eV (eCall m_sides (aCons (eVar 9) (aCons (eVar 13) aNil)))) (aCons (eV (eCall m__law_sides (aCons (eVar 9) (aCons (eVar 13) aNil)))) aNil))))) (bNot (eTr (eCallS (m__law_same 12) (aCons (eCallS m_halves (aCons (ePk 9) (aCons (ePk 13) aNil))) (aCons (eCallS m__law_halves (aCons (ePk 9) (aCons (ePk 13) aNil))) aNil))))))
  (sRetE (eC (.bool false)))
  sNil))
  (sFz [9] (sIf (bAnd (eTr (eCallS m__law_halves (aCons (ePk 9) (aCons (ePk 13) aNil)))) (bAnd (eB (eOp2 gEq (eOp2 gMod (eBi gLen (aCons (ePk 13) aNil)) (eC (.int 2))) (eC (.int 1)))) (eB (eOp2 gEq (eOp2 gIdx (eV (eCall m__law_sides (aCons (eVar 9) (aCons (eVar 13) aNil)))) (eC (.int 1))) (eC (.int 0))))))
  (sRetE (eC (.bool false)))
  sNil)))
noncomputable def b_law_5 : PV.Env → Out :=
  (sFz [2, 3, 9] (sFor (iSeq (eV (eLst (aCons (eVar 2) (aCons (eVar 3) aNil))))) (gNm 13) [0, 1, 5, 6, 7, 8, 10, 11, 12, 13] (b_law_4)))
noncomputable def b_law_t9 : PV.Env → Out :=
  (sFz [2, 3] (sRetE (eOp2 gEq (ePk 4) (eV (eLst (aCons (eVar 2) (aCons (eVar 3) aNil)))))))
noncomputable def b_law_t8 : PV.Env → Out :=
  (sSeq (sFz [2, 3, 9] (sFor (iSeq (eV (eOp2 gAdd (eV (eOp2 gAdd (eV (eSl (ePk 5) (eOpt (eC (.int 0))) (eOpt (eC (.int 12))))) (eV (eComp (iSeq (eV (eSl (ePk 5) (eOpt (eC (.int 0))) (eOpt (eC (.int 4)))))) [9] (gNm 9) bYes (eTup (aCons (eOp2 gIdx (ePk 9) (eC (.int 0))) (aCons (eOp2 gIdx (ePk 9) (eC (.int 1))) (aCons (eV (eOp2 gAdd (eOp2 gIdx (ePk 9) (eC (.int 2))) (eC (.int 1)))) aNil)))))))) (ePk 8)))) (gNm 9) [0, 1, 5, 6, 7, 8, 9, 10, 11, 12, 13] (b_law_5)))
  (b_law_t9))
noncomputable def b_law_t7 : PV.Env → Out :=
  (sSeq (sSetV 8 (eLst (aCons (eTup (aCons (eC (.int 1)) (aCons (eOp2 gSub (eOp2 gMod (eOp2 gIdx (ePk 1) (eC (.int 0))) (eC (.int 9))) (eC (.int 4))) (aCons (eOp2 gSub (eOp2 gMod (eOp2 gIdx (ePk 1) (eC (.int 1))) (eC (.int 9))) (eC (.int 4))) aNil)))) (aCons (eTup (aCons (eC (.int 0)) (aCons (eC (.int 1)) (aCons (eOp2 gSub (eOp2 gMod (eOp2 gIdx (ePk 1) (eC (.int 2))) (eC (.int 9))) (eC (.int 4))) aNil)))) (aCons (eTup (aCons (eC (.int 1)) (aCons (eC (.int 0)) (aCons (eOp2 gSub (eOp2 gMod (eOp2 gIdx (ePk 1) (eC (.int 3))) (eC (.int 2001))) (eC (.int 1000))) aNil)))) (aCons (eTup (aCons (eC (.int 3)) (aCons (eOp2 gSub (eC (.int 1)) (eOp2 gMul (eC (.int 2)) (eOp2 gMod (eOp2 gIdx (ePk 1) (eC (.int 4))) (eC (.int 2))))) (aCons (eOp2 gMod (eOp2 gIdx (ePk 1) (eC (.int 5))) (eC (.int 40))) aNil)))) aNil))))))
  (b_law_t8))
noncomputable def b_law_t6 : PV.Env → Out :=
  (sSeq (sFz [2, 3] (sFor (iSeq (eVar 2)) (gNm 7) [0, 6, 7, 8, 9, 10, 11, 12, 13] (b_law_3)))
  (b_law_t7))
noncomputable def b_law_t5 : PV.Env → Out :=
  (sSeq (sFz [2, 3] (sFor (iRange1 (eC (.int 2))) (gNm 6) [0, 6, 7, 8, 9, 10, 11, 12, 13] (b_law_1)))
  (b_law_t6))
noncomputable def b_law_t4 : PV.Env → Out :=
  (sSeq (sSetV 5 (eCall m__law_lines (aCons (eV (eOp2 gAdd (ePk 2) (ePk 3))) aNil)))
  (b_law_t5))
noncomputable def b_law_t3 : PV.Env → Out :=
  (sSeq (sSetV 4 (eLst (aCons (eV (eBi gList (aCons (ePk 2) aNil))) (aCons (eV (eBi gList (aCons (ePk 3) aNil))) aNil))))
  (b_law_t4))
noncomputable def b_law_t2 : PV.Env → Out :=
  (sSeq (sSetV 3 (eCall m__law_crowd (aCons (eVar 0) (aCons (eC (.int 1)) (aCons (eC (.int 1)) (aCons (eC (.int 6)) aNil))))))
  (b_law_t3))
noncomputable def b_law_t1 : PV.Env → Out :=
  (sSeq (sSetV 2 (eCall m__law_crowd (aCons (eVar 0) (aCons (eC (.int 0)) (aCons (eC (.int 1)) (aCons (eC (.int 6)) aNil))))))
  (b_law_t2))
noncomputable def b_law : PV.Env → Out :=
  (sSeq (sSetV 1 (eCall m__law_numbers (aCons (eCallS m__law_cell (aCons (ePk 0) (aCons (eC (.int 2)) aNil))) (aCons (eC (.int 8)) (aCons (eC (.int 5040)) aNil)))))
  (b_law_t1))
noncomputable def m_law : List D → Res RV := fnM 1 14 b_law
end G

set_option maxHeartbeats 4000000
/-! ### the program computes them -/
namespace G
open PySem PySem.Spec L2 PV
set_option autoImplicit false
set_option linter.all false
def topS (i : Nat) : Stmt := PySem.Challenge.pw_spotincommon_k12_lines_of_stones_and_the.main.body.getD i (.Pass ⟨0, 0, 0, 0⟩)
structure Facts (K : PySem.W.Frag) (mg : Str → Option Value) : Prop where
  m_abs : mg "abs" = none
  m_bool : mg "bool" = none
  m_enumerate : mg "enumerate" = none
  m_int : mg "int" = none
  m_isinstance : mg "isinstance" = none
  m_len : mg "len" = none
  m_list : mg "list" = none
  m_max : mg "max" = none
  m_range : mg "range" = none
  m_sorted : mg "sorted" = none
  m_str : mg "str" = none
  m_tuple : mg "tuple" = none
  i_gcd : mg "gcd" = some (.builtin "math.gcd")
section
variable {P : Program} {w : World} {K : PySem.W.Frag} {mg : Str → Option Value} {base : Heap}
abbrev s_line_through : Stmt := topS 2
theorem sc_line_through : FnScope ["one", "other", "common", "a", "b"] ["one", "other"] (defScope s_line_through) := ⟨rfl, rfl, rfl, by decide +kernel, rfl, by decide +kernel, by decide +kernel⟩
theorem ok_line_through (M : Facts K mg) {f : Addr} {fd : FuncData} (F : Fun K "line_through" "line_through" s_line_through f fd) : FnOk P w K mg base CX0 1 f fd ["one", "other"] (spD K m_line_through) :=
  fn_ok (body := b_line_through) F sc_line_through rfl rfl rfl (by decide) (fun cdv A outer s H E hr => by
    have S := sc_line_through
    have hu65 := hu65_of hr
    have hu66 := hu66_of hr
    exact (Ss_cons (S_par 3 4 rfl S.nd (A_cons (E_op2 op_sub gSub_ok (P_e (E_idx (P_var 1) (P_e E_int))) (P_e (E_idx (P_var 0) (P_e E_int)))) (A_cons (E_op2 op_sub gSub_ok (P_e (E_idx (P_var 0) (P_e E_int))) (P_e (E_idx (P_var 1) (P_e E_int)))) A_nil)))
  (Ss_cons (S_set 2 (E_bif cr_gcd gGcd_ok M.i_gcd (Ap_cons (P_var 3) (Ap_cons (P_var 4) Ap_nil))) S.nd)
  (Ss_cons (S_if (T_w (W_or (T_cmp (op_ltG hr.units) gOrd_ok (P_var 3) (P_e E_int) (nomark _)) (W_or1 (T_w (W_and (T_cmp (op_eqD hr.units) gEq_ok (P_var 3) (P_e E_int) (nomark _)) (W_and1 (T_cmp (op_ltG hr.units) gOrd_ok (P_var 4) (P_e E_int) (nomark _))))))))
  (Ss_one (S_set 2 (E_neg (P_var 2)) S.nd))
  Ss_nil)
  (Ss_cons (S_par 3 4 rfl S.nd (A_cons (E_op2 op_divG gDiv_ok (P_var 3) (P_var 2)) (A_cons (E_op2 op_divG gDiv_ok (P_var 4) (P_var 2)) A_nil)))
  (Ss_one (S_retE (E_tup (A_cons (E_var 3) (A_cons (E_var 4) (A_cons (E_v (V_op2 op_addG gAdd_ok (P_e (E_op2 op_mulG gMul_ok (P_var 3) (P_e (E_idx (P_var 0) (P_e E_int))))) (P_e (E_op2 op_mulG gMul_ok (P_var 4) (P_e (E_idx (P_var 0) (P_e E_int))))))) A_nil)))))))))))
abbrev s_lines_of : Stmt := topS 3
theorem sc_lines_of : FnScope ["stones", "found", "k", "one", "other"] ["stones"] (defScope s_lines_of) := ⟨rfl, rfl, rfl, by decide +kernel, rfl, by decide +kernel, by decide +kernel⟩
theorem ok_lines_of (M : Facts K mg) (C_line_through : Cal P w K mg base "line_through" 1 m_line_through) {f : Addr} {fd : FuncData} (F : Fun K "lines_of" "lines_of" s_lines_of f fd) : FnOk P w K mg base CX0 2 f fd ["stones"] (spD K m_lines_of) :=
  fn_ok (body := b_lines_of) F sc_lines_of rfl rfl rfl (by decide) (fun cdv A outer s H E hr => by
    have S := sc_lines_of
    have hu65 := hu65_of hr
    have hu66 := hu66_of hr
    exact (Ss_cons (S_setDict 1 S.nd)
  (Ss_cons (S_for [2, 3, 4] PassesOwn.never rfl (I_enum M.m_enumerate (E_var 0)) (G_tp (n := 2) rfl (Gs_cons (G_nm 2 S.nd) (Gs_cons (G_nm 3 S.nd) Gs_nil)))
  (show PSs _ _ (tS _ _ (b_lines_of_2)) from (Ss_one (S_for [2, 4] PassesOwn.never rfl (I_seq (E_v (V_sl (P_var 0) O_none (O_some (P_var 2))))) (G_nm 4 S.nd)
  (show PSs _ _ (tS _ _ (b_lines_of_1)) from (Ss_one (S_if (T_cmp (op_neD hr.units) gNe_ok (P_var 3) (P_var 4) (nomark _))
  (Ss_one (S_setKey 1 hu66 (E_v (V_call C_line_through hr (A_cons (E_var 3) (A_cons (E_var 4) A_nil))))))
  Ss_nil)))))))
  (Ss_one (S_retV (V_sortedD 1 hu66 M.m_sorted))))))
abbrev s_sides : Stmt := topS 4
theorem sc_sides : FnScope ["line", "crowd", "values", "less", "x", "y", "value"] ["line", "crowd"] (defScope s_sides) := ⟨rfl, rfl, rfl, by decide +kernel, rfl, by decide +kernel, by decide +kernel⟩
theorem ok_sides (M : Facts K mg) {f : Addr} {fd : FuncData} (F : Fun K "sides" "sides" s_sides f fd) : FnOk P w K mg base CX0 1 f fd ["line", "crowd"] (spD K m_sides) :=
  fn_ok (body := b_sides) F sc_sides rfl rfl rfl (by decide) (fun cdv A outer s H E hr => by
    have S := sc_sides
    have hu65 := hu65_of hr
    have hu66 := hu66_of hr
    exact (Ss_cons (S_setComp 2 (own := [("x", 4), ("y", 5)]) rfl S.nd (blkOk_by (by rfl)) (Ip_seq (P_var 1)) (fun _ _ _ _ _ => (G_tp (n := 2) rfl (Gs_cons (G_nm 4 S.nd) (Gs_cons (G_nm 5 S.nd) Gs_nil)))) (fun _ _ _ _ _ => Ts_nil) (fun _ _ _ _ _ => (E_v (V_op2 op_addG gAdd_ok (P_e (E_op2 op_mulG gMul_ok (P_e (E_idx (P_var 0) (P_e E_int))) (P_var 4))) (P_e (E_op2 op_mulG gMul_ok (P_e (E_idx (P_var 0) (P_e E_int))) (P_var 5)))))) (sw_true rfl rfl rfl (by decide +kernel)))
  (Ss_cons (S_set 3 (E_bi call_len gLen_ok PySem.boot_len M.m_len (Ap_cons (P_v (V_comp (own := [("value", 6)]) rfl S.nd (blkOk_by (by rfl)) (Ip_seq (P_var 2)) (fun _ _ _ _ _ => (G_nm 6 S.nd)) (fun _ _ _ _ _ => (Ts_one (T_cmp (op_ltG hr.units) gOrd_ok (P_var 6) (P_e (E_idx (P_var 0) (P_e E_int))) (nomark _)))) (fun _ _ _ _ _ => (E_var 6)))) Ap_nil)) S.nd)
  (Ss_one (S_retE (E_tup (A_cons (E_var 3) (A_cons (E_count (P_var 2) (P_e (E_idx (P_var 0) (P_e E_int)))) (A_cons (E_op2 op_sub gSub_ok (P_e (E_op2 op_sub gSub_ok (P_e (E_bi call_len gLen_ok PySem.boot_len M.m_len (Ap_cons (P_var 2) Ap_nil))) (P_var 3))) (P_e (E_count (P_var 2) (P_e (E_idx (P_var 0) (P_e E_int)))))) A_nil)))))))))
abbrev s_halves : Stmt := topS 5
theorem sc_halves : FnScope ["line", "crowd", "less", "_", "more"] ["line", "crowd"] (defScope s_halves) := ⟨rfl, rfl, rfl, by decide +kernel, rfl, by decide +kernel, by decide +kernel⟩
theorem ok_halves (M : Facts K mg) (C_sides : Cal P w K mg base "sides" 1 m_sides) {f : Addr} {fd : FuncData} (F : Fun K "halves" "halves" s_halves f fd) : FnOk P w K mg base CX0 2 f fd ["line", "crowd"] (spD K m_halves) :=
  fn_ok (body := b_halves) F sc_halves rfl rfl rfl (by decide) (fun cdv A outer s H E hr => by
    have S := sc_halves
    have hu65 := hu65_of hr
    have hu66 := hu66_of hr
    exact (Ss_cons (S_asgE (E_v (V_call C_sides hr (A_cons (E_var 0) (A_cons (E_var 1) A_nil)))) (G_tp (n := 3) rfl (Gs_cons (G_nm 2 S.nd) (Gs_cons (G_nm 3 S.nd) (Gs_cons (G_nm 4 S.nd) Gs_nil)))))
  (Ss_one (S_retE (E_cmp (op_leG hr.units) gOrd_ok (P_e (E_op2 op_mulG gMul_ok (P_e E_int) (P_e (E_bi (call_max2 rfl) gMax2_ok (by decide +kernel) M.m_max (Ap_cons (P_var 2) (Ap_cons (P_var 4) Ap_nil)))))) (P_e (E_bi call_len gLen_ok PySem.boot_len M.m_len (Ap_cons (P_var 1) Ap_nil))) (nomark _))))))
abbrev s_all_halving : Stmt := topS 6
theorem sc_all_halving : FnScope ["one", "other", "line"] ["one", "other"] (defScope s_all_halving) := ⟨rfl, rfl, rfl, by decide +kernel, rfl, by decide +kernel, by decide +kernel⟩
theorem ok_all_halving (M : Facts K mg) (C_halves : Cal P w K mg base "halves" 2 m_halves) (C_lines_of : Cal P w K mg base "lines_of" 2 m_lines_of) {f : Addr} {fd : FuncData} (F : Fun K "all_halving" "all_halving" s_all_halving f fd) : FnOk P w K mg base CX0 3 f fd ["one", "other"] (spD K m_all_halving) :=
  fn_ok (body := b_all_halving) F sc_all_halving rfl rfl rfl (by decide) (fun cdv A outer s H E hr => by
    have S := sc_all_halving
    have hu65 := hu65_of hr
    have hu66 := hu66_of hr
    exact (Ss_one (S_retV (V_comp (own := [("line", 2)]) rfl S.nd (blkOk_by (by rfl)) (Ip_seq (P_v (V_call C_lines_of hr (A_cons (E_v (V_op2 op_addG gAdd_ok (P_var 0) (P_var 1))) A_nil)))) (fun _ _ _ _ _ => (G_nm 2 S.nd)) (fun _ _ _ _ _ => (Ts_one (T_w (W_and (T_tru (P_e (E_callS C_halves hr (Ap_cons (P_var 2) (Ap_cons (P_var 0) Ap_nil))))) (W_and1 (T_tru (P_e (E_callS C_halves hr (Ap_cons (P_var 2) (Ap_cons (P_var 1) Ap_nil)))))))))) (fun _ _ _ _ _ => (E_var 2))))))
abbrev s__law_cell : Stmt := topS 8
theorem sc__law_cell : FnScope ["script", "k"] ["script", "k"] (defScope s__law_cell) := ⟨rfl, rfl, rfl, by decide +kernel, rfl, by decide +kernel, by decide +kernel⟩
theorem ok__law_cell (M : Facts K mg) {f : Addr} {fd : FuncData} (F : Fun K "_law_cell" "_law_cell" s__law_cell f fd) : FnOk P w K mg base CX0 1 f fd ["script", "k"] (spD K m__law_cell) :=
  fn_ok (body := b__law_cell) F sc__law_cell rfl rfl rfl (by decide) (fun cdv A outer s H E hr => by
    have S := sc__law_cell
    have hu65 := hu65_of hr
    have hu66 := hu66_of hr
    exact (Ss_cons (S_if (T_cmp (op_ltG hr.units) gOrd_ok (P_var 1) (P_e (E_bi call_len gLen_ok PySem.boot_len M.m_len (Ap_cons (P_var 0) Ap_nil))) (nomark _))
  (Ss_one (S_retE (E_ty call_int1 gIntT_ok (by decide +kernel) M.m_int (Ap_cons (P_e (E_idx (P_var 0) (P_var 1))) Ap_nil))))
  Ss_nil)
  (Ss_one (S_retE E_int))))
abbrev s__law_numbers : Stmt := topS 9
theorem sc__law_numbers : FnScope ["cell", "count", "limit", "found", "k", "mixed"] ["cell", "count", "limit"] (defScope s__law_numbers) := ⟨rfl, rfl, rfl, by decide +kernel, rfl, by decide +kernel, by decide +kernel⟩
theorem ok__law_numbers (M : Facts K mg) {f : Addr} {fd : FuncData} (F : Fun K "_law_numbers" "_law_numbers" s__law_numbers f fd) : FnOk P w K mg base CX0 1 f fd ["cell", "count", "limit"] (spD K m__law_numbers) :=
  fn_ok (body := b__law_numbers) F sc__law_numbers rfl rfl rfl (by decide) (fun cdv A outer s H E hr => by
    have S := sc__law_numbers
    have hu65 := hu65_of hr
    have hu66 := hu66_of hr
    exact (Ss_cons (S_setV 3 (V_lst A_nil) S.nd)
  (Ss_cons (S_if (T_cmp (op_geG hr.units) gOrd_ok (P_var 0) (P_e (E_op2 op_pow gPow_ok (P_e E_int) (P_e E_int))) (nomark _))
  (Ss_cons (S_for [1, 4, 5] PassesOwn.never rfl (I_range1 M.m_range (P_var 1)) (G_nm 4 S.nd)
  (show PSs _ _ (tS _ _ (b__law_numbers_1)) from (Ss_cons (S_app 3 (E_op2 op_modN gMod_ok (P_e (E_ty call_int1 gIntT_ok (by decide +kernel) M.m_int (Ap_cons (P_var 0) Ap_nil))) (P_var 2)))
  (Ss_one (S_set 0 (E_op2 op_divG gDiv_ok (P_e (E_ty call_int1 gIntT_ok (by decide +kernel) M.m_int (Ap_cons (P_var 0) Ap_nil))) (P_var 2)) S.nd)))))
  (Ss_one (S_retVar 3)))
  Ss_nil)
  (Ss_cons (S_for [1, 4, 5] PassesOwn.never rfl (I_range1 M.m_range (P_var 1)) (G_nm 4 S.nd)
  (show PSs _ _ (tS _ _ (b__law_numbers_2)) from (Ss_cons (S_set 5 (E_op2 op_modN gMod_ok (P_e (E_ty call_int1 gIntT_ok (by decide +kernel) M.m_int (Ap_cons (P_v (V_op2 op_addG gAdd_ok (P_v (V_op2 op_addG gAdd_ok (P_e (E_op2 op_mulG gMul_ok (P_var 0) (P_e E_int))) (P_e (E_op2 op_mulG gMul_ok (P_var 4) (P_e E_int))))) (P_e E_int))) Ap_nil))) (P_e E_int)) S.nd)
  (Ss_cons (S_set 5 (E_op2 op_modN gMod_ok (P_e (E_ty call_int1 gIntT_ok (by decide +kernel) M.m_int (Ap_cons (P_v (V_op2 op_addG gAdd_ok (P_v (V_op2 op_addG gAdd_ok (P_v (V_op2 op_addG gAdd_ok (P_e (E_op2 op_mulG gMul_ok (P_var 5) (P_var 5))) (P_e (E_op2 op_mulG gMul_ok (P_var 5) (P_e E_int))))) (P_e (E_op2 op_mulG gMul_ok (P_var 4) (P_e E_int))))) (P_e E_int))) Ap_nil))) (P_e E_int)) S.nd)
  (Ss_one (S_app 3 (E_op2 op_modN gMod_ok (P_e (E_ty call_int1 gIntT_ok (by decide +kernel) M.m_int (Ap_cons (P_e (E_op2 op_divG gDiv_ok (P_var 5) (P_e E_int))) Ap_nil))) (P_var 2))))))))
  (Ss_one (S_retVar 3))))))
abbrev s__law_common : Stmt := topS 10
theorem sc__law_common : FnScope ["one", "other", "turn"] ["one", "other"] (defScope s__law_common) := ⟨rfl, rfl, rfl, by decide +kernel, rfl, by decide +kernel, by decide +kernel⟩
theorem ok__law_common (M : Facts K mg) {f : Addr} {fd : FuncData} (F : Fun K "_law_common" "_law_common" s__law_common f fd) : FnOk P w K mg base CX0 1 f fd ["one", "other"] (spD K m__law_common) :=
  fn_ok (body := b__law_common) F sc__law_common rfl rfl rfl (by decide) (fun cdv A outer s H E hr => by
    have S := sc__law_common
    have hu65 := hu65_of hr
    have hu66 := hu66_of hr
    exact (Ss_cons (S_set 0 (E_bi call_abs gAbs_ok (by decide +kernel) M.m_abs (Ap_cons (P_var 0) Ap_nil)) S.nd)
  (Ss_cons (S_set 1 (E_bi call_abs gAbs_ok (by decide +kernel) M.m_abs (Ap_cons (P_var 1) Ap_nil)) S.nd)
  (Ss_cons (S_for [2] PassesOwn.never rfl (I_range1 M.m_range (P_e E_int)) (G_nm 2 S.nd)
  (show PSs _ _ (tS _ _ (b__law_common_1)) from (Ss_cons (S_if (T_cmp (op_eqD hr.units) gEq_ok (P_var 1) (P_e E_int) (nomark _))
  (Ss_one (S_retVar 0))
  Ss_nil)
  (Ss_one (S_par 0 1 rfl S.nd (A_cons (E_var 1) (A_cons (E_op2 op_modN gMod_ok (P_e (E_ty call_int1 gIntT_ok (by decide +kernel) M.m_int (Ap_cons (P_var 0) Ap_nil))) (P_var 1)) A_nil)))))))
  (Ss_one (S_retVar 0))))))
abbrev s__law_same : Stmt := topS 11
theorem sc__law_same : FnScope ["told", "due", "k"] ["told", "due"] (defScope s__law_same) := ⟨rfl, rfl, rfl, by decide +kernel, rfl, by decide +kernel, by decide +kernel⟩
theorem ok__law_same (M : Facts K mg) {f : Addr} {fd : FuncData} (F : Fun K "_law_same" "_law_same" s__law_same f fd) (gx : mg "_law_same" = some (.ref f)) (bx : Binds K fd ["told", "due"] []) : ∀ n, FnOk P w K mg base CX0 (n + 0) f fd ["told", "due"] (spD K (m__law_same n))
  | 0 => fn_bad
  | n + 1 => by
    have C__law_same : Cal P w K mg base "_law_same" (n + 0) (m__law_same n) := cal_mk F gx bx (ok__law_same M F gx bx n)
    exact fn_ok (body := b__law_same (m__law_same n)) F sc__law_same rfl rfl rfl (by decide) (fun cdv A outer s H E hr => by
    have hr : Room (n + 0) _ := hr
    have S := sc__law_same
    have hu65 := hu65_of hr
    have hu66 := hu66_of hr
    exact (Ss_cons (S_if (T_tru (P_e (E_isi (T := "list") (P_var 1) M.m_isinstance M.m_list (by decide +kernel))))
  (Ss_one (S_if (T_w (W_or (T_not (T_tru (P_e (E_isi (T := "list") (P_var 0) M.m_isinstance M.m_list (by decide +kernel))))) (W_or1 (T_cmp (op_neD hr.units) gNe_ok (P_e (E_bi call_len gLen_ok PySem.boot_len M.m_len (Ap_cons (P_var 0) Ap_nil))) (P_e (E_bi call_len gLen_ok PySem.boot_len M.m_len (Ap_cons (P_var 1) Ap_nil))) (nomark _)))))
  (Ss_one (S_retE E_bl))
  Ss_nil))
  (Ss_one (S_if (T_tru (P_e (E_isi (T := "tuple") (P_var 1) M.m_isinstance M.m_tuple (by decide +kernel))))
  (Ss_one (S_if (T_w (W_or (T_not (T_tru (P_e (E_isi (T := "tuple") (P_var 0) M.m_isinstance M.m_tuple (by decide +kernel))))) (W_or1 (T_cmp (op_neD hr.units) gNe_ok (P_e (E_bi call_len gLen_ok PySem.boot_len M.m_len (Ap_cons (P_var 0) Ap_nil))) (P_e (E_bi call_len gLen_ok PySem.boot_len M.m_len (Ap_cons (P_var 1) Ap_nil))) (nomark _)))))
  (Ss_one (S_retE E_bl))
  Ss_nil))
  (Ss_one (S_if (T_cmp op_isG gIs_ok (P_var 1) (P_e E_non) (nomark _))
  (Ss_one (S_retE (E_cmp op_isG gIs_ok (P_var 0) (P_e E_non) (nomark _))))
  (Ss_one (S_if (T_tru (P_e (E_isi (T := "bool") (P_var 1) M.m_isinstance M.m_bool (by decide +kernel))))
  (Ss_one (S_retE (E_and (E_isi (T := "bool") (P_var 0) M.m_isinstance M.m_bool (by decide +kernel)) (E_one (E_cmp (op_eqD hr.units) gEq_ok (P_var 0) (P_var 1) (nomark _))))))
  (Ss_one (S_if (T_tru (P_e (E_isi (T := "int") (P_var 1) M.m_isinstance M.m_int (by decide +kernel))))
  (Ss_one (S_retE (E_and (E_isi (T := "int") (P_var 0) M.m_isinstance M.m_int (by decide +kernel)) (E_and (E_not (E_isi (T := "bool") (P_var 0) M.m_isinstance M.m_bool (by decide +kernel))) (E_one (E_cmp (op_eqD hr.units) gEq_ok (P_var 0) (P_var 1) (nomark _)))))))
  (Ss_one (S_retE (E_and (E_isi (T := "str") (P_var 0) M.m_isinstance M.m_str (by decide +kernel)) (E_one (E_cmp (op_eqD hr.units) gEq_ok (P_var 0) (P_var 1) (nomark _)))))))))))))))
  (Ss_cons (S_for [2] PassesOwn.never rfl (I_range1 M.m_range (P_e (E_bi call_len gLen_ok PySem.boot_len M.m_len (Ap_cons (P_var 1) Ap_nil)))) (G_nm 2 S.nd)
  (show PSs _ _ (tS _ _ (b__law_same_1 (m__law_same n))) from (Ss_one (S_if (T_not (T_tru (P_e (E_callS C__law_same hr (Ap_cons (P_e (E_idx (P_var 0) (P_var 2))) (Ap_cons (P_e (E_idx (P_var 1) (P_var 2))) Ap_nil)) (by omega)))))
  (Ss_one (S_retE E_bl))
  Ss_nil))))
  (Ss_one (S_retE E_bl)))))
abbrev s__law_crowd : Stmt := topS 12
theorem sc__law_crowd : FnScope ["script", "at", "least", "most", "draws", "count", "kind", "span", "ring", "found", "k", "x", "y", "stone"] ["script", "at", "least", "most"] (defScope s__law_crowd) := ⟨rfl, rfl, rfl, by decide +kernel, rfl, by decide +kernel, by decide +kernel⟩
theorem ok__law_crowd (M : Facts K mg) (C__law_cell : Cal P w K mg base "_law_cell" 1 m__law_cell) (C__law_numbers : Cal P w K mg base "_law_numbers" 1 m__law_numbers) {f : Addr} {fd : FuncData} (F : Fun K "_law_crowd" "_law_crowd" s__law_crowd f fd) : FnOk P w K mg base CX0 2 f fd ["script", "at", "least", "most"] (spD K m__law_crowd) :=
  fn_ok (body := b__law_crowd) F sc__law_crowd rfl rfl rfl (by decide) (fun cdv A outer s H E hr => by
    have S := sc__law_crowd
    have hu65 := hu65_of hr
    have hu66 := hu66_of hr
    exact (Ss_cons (S_setV 4 (V_call C__law_numbers hr (A_cons (E_callS C__law_cell hr (Ap_cons (P_var 0) (Ap_cons (P_var 1) Ap_nil))) (A_cons E_int (A_cons E_int A_nil)))) S.nd)
  (show PSs _ _ (tS _ _ (b__law_crowd_t1)) from (Ss_cons (S_setV 5 (V_op2 op_addG gAdd_ok (P_var 2) (P_e (E_op2 op_modN gMod_ok (P_e (E_idx (P_var 4) (P_e E_int))) (P_v (V_op2 op_addG gAdd_ok (P_e (E_op2 op_sub gSub_ok (P_var 3) (P_var 2))) (P_e E_int)))))) S.nd)
  (show PSs _ _ (tS _ _ (b__law_crowd_t2)) from (Ss_cons (S_set 6 (E_op2 op_modN gMod_ok (P_e (E_idx (P_var 4) (P_e E_int))) (P_e E_int)) S.nd)
  (show PSs _ _ (tS _ _ (b__law_crowd_t3)) from (Ss_cons (S_set 7 (E_idx (P_v (V_lst (A_cons E_int (A_cons E_int (A_cons E_int (A_cons E_int A_nil)))))) (P_e (E_op2 op_modN gMod_ok (P_e (E_idx (P_var 4) (P_e E_int))) (P_e E_int)))) S.nd)
  (show PSs _ _ (tS _ _ (b__law_crowd_t4)) from (Ss_cons (S_setV 8 (V_lst (A_cons (E_tup (A_cons E_int (A_cons E_int A_nil))) (A_cons (E_tup (A_cons E_int (A_cons E_int A_nil))) (A_cons (E_tup (A_cons E_int (A_cons E_int A_nil))) (A_cons (E_tup (A_cons E_int (A_cons E_int A_nil))) (A_cons (E_tup (A_cons (E_neg (P_e E_int)) (A_cons E_int A_nil))) (A_cons (E_tup (A_cons (E_neg (P_e E_int)) (A_cons E_int A_nil))) (A_cons (E_tup (A_cons (E_neg (P_e E_int)) (A_cons E_int A_nil))) (A_cons (E_tup (A_cons (E_neg (P_e E_int)) (A_cons (E_neg (P_e E_int)) A_nil))) (A_cons (E_tup (A_cons (E_neg (P_e E_int)) (A_cons (E_neg (P_e E_int)) A_nil))) (A_cons (E_tup (A_cons E_int (A_cons (E_neg (P_e E_int)) A_nil))) (A_cons (E_tup (A_cons E_int (A_cons (E_neg (P_e E_int)) A_nil))) (A_cons (E_tup (A_cons E_int (A_cons (E_neg (P_e E_int)) A_nil))) A_nil))))))))))))) S.nd)
  (show PSs _ _ (tS _ _ (b__law_crowd_t5)) from (Ss_cons (S_setV 9 (V_lst A_nil) S.nd)
  (show PSs _ _ (tS _ _ (b__law_crowd_t6)) from (Ss_cons (S_for [0, 1, 2, 3, 5, 10, 11, 12, 13] PassesOwn.never rfl (I_range1 M.m_range (P_var 5)) (G_nm 10 S.nd)
  (show PSs _ _ (tS _ _ (b__law_crowd_1)) from (Ss_cons (S_set 11 (E_idx (P_var 4) (P_v (V_op2 op_addG gAdd_ok (P_e E_int) (P_e (E_op2 op_mulG gMul_ok (P_e E_int) (P_var 10)))))) S.nd)
  (Ss_cons (S_set 12 (E_idx (P_var 4) (P_v (V_op2 op_addG gAdd_ok (P_e E_int) (P_e (E_op2 op_mulG gMul_ok (P_e E_int) (P_var 10)))))) S.nd)
  (Ss_cons (S_set 13 (E_tup (A_cons (E_op2 op_sub gSub_ok (P_e (E_op2 op_modN gMod_ok (P_var 11) (P_v (V_op2 op_addG gAdd_ok (P_e (E_op2 op_mulG gMul_ok (P_e E_int) (P_var 7))) (P_e E_int))))) (P_var 7)) (A_cons (E_op2 op_sub gSub_ok (P_e (E_op2 op_modN gMod_ok (P_var 12) (P_v (V_op2 op_addG gAdd_ok (P_e (E_op2 op_mulG gMul_ok (P_e E_int) (P_var 7))) (P_e E_int))))) (P_var 7)) A_nil))) S.nd)
  (Ss_cons (S_if (T_cmp (op_eqD hr.units) gEq_ok (P_var 6) (P_e E_int) (nomark _))
  (Ss_one (S_set 13 (E_tup (A_cons (E_v (V_op2 op_addG gAdd_ok (P_e (E_op2 op_modN gMod_ok (P_e (E_idx (P_var 4) (P_e E_int))) (P_e E_int))) (P_e (E_op2 op_mulG gMul_ok (P_e (E_op2 op_sub gSub_ok (P_e (E_op2 op_modN gMod_ok (P_var 11) (P_e E_int))) (P_e E_int))) (P_e (E_op2 op_sub gSub_ok (P_e (E_op2 op_modN gMod_ok (P_e (E_idx (P_var 4) (P_e E_int))) (P_e E_int))) (P_e E_int))))))) (A_cons (E_v (V_op2 op_addG gAdd_ok (P_e (E_op2 op_modN gMod_ok (P_e (E_idx (P_var 4) (P_e E_int))) (P_e E_int))) (P_e (E_op2 op_mulG gMul_ok (P_e (E_op2 op_sub gSub_ok (P_e (E_op2 op_modN gMod_ok (P_var 11) (P_e E_int))) (P_e E_int))) (P_e (E_op2 op_sub gSub_ok (P_e (E_op2 op_modN gMod_ok (P_e (E_op2 op_divG gDiv_ok (P_e (E_idx (P_var 4) (P_e E_int))) (P_e E_int))) (P_e E_int))) (P_e E_int))))))) A_nil))) S.nd))
  Ss_nil)
  (Ss_cons (S_if (T_w (W_and (T_cmp (op_eqD hr.units) gEq_ok (P_var 6) (P_e E_int) (nomark _)) (W_and (T_cmp (op_gtG hr.units) gOrd_ok (P_var 10) (P_e E_int) (nomark _)) (W_and1 (T_cmp (op_eqD hr.units) gEq_ok (P_e (E_op2 op_modN gMod_ok (P_var 11) (P_e E_int))) (P_e E_int) (nomark _))))))
  (Ss_one (S_set 13 (E_idx (P_var 9) (P_e (E_op2 op_modN gMod_ok (P_var 12) (P_var 10)))) S.nd))
  Ss_nil)
  (Ss_cons (S_if (T_cmp (op_eqD hr.units) gEq_ok (P_var 6) (P_e E_int) (nomark _))
  (Ss_one (S_set 13 (E_idx (P_var 8) (P_e (E_op2 op_modN gMod_ok (P_e (E_ty call_int1 gIntT_ok (by decide +kernel) M.m_int (Ap_cons (P_v (V_op2 op_addG gAdd_ok (P_e (E_idx (P_var 4) (P_e E_int))) (P_e (E_op2 op_mulG gMul_ok (P_e E_int) (P_var 10))))) Ap_nil))) (P_e E_int)))) S.nd))
  Ss_nil)
  (Ss_cons (S_if (T_w (W_and (T_cmp (op_eqD hr.units) gEq_ok (P_var 6) (P_e E_int) (nomark _)) (W_and (T_cmp (op_gtG hr.units) gOrd_ok (P_var 10) (P_e E_int) (nomark _)) (W_and1 (T_cmp (op_eqD hr.units) gEq_ok (P_e (E_op2 op_modN gMod_ok (P_var 10) (P_e E_int))) (P_e E_int) (nomark _))))))
  (Ss_one (S_set 13 (E_tup (A_cons (E_op2 op_sub gSub_ok (P_e E_int) (P_e (E_idx (P_e (E_idx (P_var 9) (P_e (E_op2 op_sub gSub_ok (P_var 10) (P_e E_int))))) (P_e E_int)))) (A_cons (E_op2 op_sub gSub_ok (P_e E_int) (P_e (E_idx (P_e (E_idx (P_var 9) (P_e (E_op2 op_sub gSub_ok (P_var 10) (P_e E_int))))) (P_e E_int)))) A_nil))) S.nd))
  Ss_nil)
  (Ss_one (S_app 9 (E_var 13))))))))))))
  (show PSs _ _ (tS _ _ (b__law_crowd_t7)) from (Ss_one (S_retVar 9)))))))))))))))))
abbrev s__law_value : Stmt := topS 13
theorem sc__law_value : FnScope ["fence", "stone"] ["fence", "stone"] (defScope s__law_value) := ⟨rfl, rfl, rfl, by decide +kernel, rfl, by decide +kernel, by decide +kernel⟩
theorem ok__law_value (M : Facts K mg) {f : Addr} {fd : FuncData} (F : Fun K "_law_value" "_law_value" s__law_value f fd) : FnOk P w K mg base CX0 1 f fd ["fence", "stone"] (spD K m__law_value) :=
  fn_ok (body := b__law_value) F sc__law_value rfl rfl rfl (by decide) (fun cdv A outer s H E hr => by
    have S := sc__law_value
    have hu65 := hu65_of hr
    have hu66 := hu66_of hr
    exact (Ss_one (S_retV (V_op2 op_addG gAdd_ok (P_e (E_op2 op_mulG gMul_ok (P_e (E_idx (P_var 0) (P_e E_int))) (P_e (E_idx (P_var 1) (P_e E_int))))) (P_e (E_op2 op_mulG gMul_ok (P_e (E_idx (P_var 0) (P_e E_int))) (P_e (E_idx (P_var 1) (P_e E_int)))))))))
abbrev s__law_line : Stmt := topS 14
theorem sc__law_line : FnScope ["one", "other", "a", "b", "common"] ["one", "other"] (defScope s__law_line) := ⟨rfl, rfl, rfl, by decide +kernel, rfl, by decide +kernel, by decide +kernel⟩
theorem ok__law_line (M : Facts K mg) (C__law_common : Cal P w K mg base "_law_common" 1 m__law_common) {f : Addr} {fd : FuncData} (F : Fun K "_law_line" "_law_line" s__law_line f fd) : FnOk P w K mg base CX0 2 f fd ["one", "other"] (spD K m__law_line) :=
  fn_ok (body := b__law_line) F sc__law_line rfl rfl rfl (by decide) (fun cdv A outer s H E hr => by
    have S := sc__law_line
    have hu65 := hu65_of hr
    have hu66 := hu66_of hr
    exact (Ss_cons (S_set 2 (E_op2 op_sub gSub_ok (P_e (E_idx (P_var 1) (P_e E_int))) (P_e (E_idx (P_var 0) (P_e E_int)))) S.nd)
  (Ss_cons (S_set 3 (E_op2 op_sub gSub_ok (P_e (E_idx (P_var 0) (P_e E_int))) (P_e (E_idx (P_var 1) (P_e E_int)))) S.nd)
  (Ss_cons (S_setV 4 (V_call C__law_common hr (A_cons (E_var 2) (A_cons (E_var 3) A_nil))) S.nd)
  (Ss_cons (S_if (T_w (W_or (T_cmp (op_ltG hr.units) gOrd_ok (P_var 2) (P_e E_int) (nomark _)) (W_or1 (T_w (W_and (T_cmp (op_eqD hr.units) gEq_ok (P_var 2) (P_e E_int) (nomark _)) (W_and1 (T_cmp (op_ltG hr.units) gOrd_ok (P_var 3) (P_e E_int) (nomark _))))))))
  (Ss_one (S_set 4 (E_op2 op_sub gSub_ok (P_e E_int) (P_var 4)) S.nd))
  Ss_nil)
  (Ss_one (S_retE (E_tup (A_cons (E_op2 op_divG gDiv_ok (P_var 2) (P_var 4)) (A_cons (E_op2 op_divG gDiv_ok (P_var 3) (P_var 4)) (A_cons (E_v (V_op2 op_addG gAdd_ok (P_e (E_op2 op_mulG gMul_ok (P_e (E_op2 op_divG gDiv_ok (P_var 2) (P_var 4))) (P_e (E_idx (P_var 0) (P_e E_int))))) (P_e (E_op2 op_mulG gMul_ok (P_e (E_op2 op_divG gDiv_ok (P_var 3) (P_var 4))) (P_e (E_idx (P_var 0) (P_e E_int))))))) A_nil)))))))))))
abbrev s__law_lines : Stmt := topS 15
theorem sc__law_lines : FnScope ["stones", "found", "i", "j"] ["stones"] (defScope s__law_lines) := ⟨rfl, rfl, rfl, by decide +kernel, rfl, by decide +kernel, by decide +kernel⟩
theorem ok__law_lines (M : Facts K mg) (C__law_line : Cal P w K mg base "_law_line" 2 m__law_line) {f : Addr} {fd : FuncData} (F : Fun K "_law_lines" "_law_lines" s__law_lines f fd) : FnOk P w K mg base CX0 3 f fd ["stones"] (spD K m__law_lines) :=
  fn_ok (body := b__law_lines) F sc__law_lines rfl rfl rfl (by decide) (fun cdv A outer s H E hr => by
    have S := sc__law_lines
    have hu65 := hu65_of hr
    have hu66 := hu66_of hr
    exact (Ss_cons (S_setV 1 (V_lst A_nil) S.nd)
  (Ss_cons (S_for [2, 3] PassesOwn.never rfl (I_range1 M.m_range (P_e (E_bi call_len gLen_ok PySem.boot_len M.m_len (Ap_cons (P_var 0) Ap_nil)))) (G_nm 2 S.nd)
  (show PSs _ _ (tS _ _ (b__law_lines_2)) from (Ss_one (S_for [3] PassesOwn.never rfl (I_range1 M.m_range (P_var 2)) (G_nm 3 S.nd)
  (show PSs _ _ (tS _ _ (b__law_lines_1)) from (Ss_one (S_if (T_w (W_and (T_cmp (op_neD hr.units) gNe_ok (P_e (E_idx (P_var 0) (P_var 2))) (P_e (E_idx (P_var 0) (P_var 3))) (nomark _)) (W_and1 (T_cmp (op_notInG hu65) gNotIn_ok (P_v (V_call C__law_line hr (A_cons (E_idx (P_var 0) (P_var 2)) (A_cons (E_idx (P_var 0) (P_var 3)) A_nil)))) (P_var 1) (by rfl)))))
  (Ss_one (S_app 1 (E_v (V_call C__law_line hr (A_cons (E_idx (P_var 0) (P_var 2)) (A_cons (E_idx (P_var 0) (P_var 3)) A_nil))))))
  Ss_nil)))))))
  (Ss_one (S_retV (V_bi (cr_sortedD hu66) gSorted_ok (by decide +kernel) M.m_sorted (Ap_cons (P_var 1) Ap_nil)))))))
abbrev s__law_sides : Stmt := topS 16
theorem sc__law_sides : FnScope ["line", "crowd", "less", "same", "stone"] ["line", "crowd"] (defScope s__law_sides) := ⟨rfl, rfl, rfl, by decide +kernel, rfl, by decide +kernel, by decide +kernel⟩
theorem ok__law_sides (M : Facts K mg) (C__law_value : Cal P w K mg base "_law_value" 1 m__law_value) {f : Addr} {fd : FuncData} (F : Fun K "_law_sides" "_law_sides" s__law_sides f fd) : FnOk P w K mg base CX0 2 f fd ["line", "crowd"] (spD K m__law_sides) :=
  fn_ok (body := b__law_sides) F sc__law_sides rfl rfl rfl (by decide) (fun cdv A outer s H E hr => by
    have S := sc__law_sides
    have hu65 := hu65_of hr
    have hu66 := hu66_of hr
    exact (Ss_cons (S_set 2 (E_bi call_len gLen_ok PySem.boot_len M.m_len (Ap_cons (P_v (V_comp (own := [("stone", 4)]) rfl S.nd (blkOk_by (by rfl)) (Ip_seq (P_var 1)) (fun _ _ _ _ _ => (G_nm 4 S.nd)) (fun _ _ _ _ _ => (Ts_one (T_cmp (op_ltG hr.units) gOrd_ok (P_v (V_call C__law_value hr (A_cons (E_var 0) (A_cons (E_var 4) A_nil)))) (P_e (E_idx (P_var 0) (P_e E_int))) (nomark _)))) (fun _ _ _ _ _ => (E_var 4)))) Ap_nil)) S.nd)
  (Ss_cons (S_set 3 (E_bi call_len gLen_ok PySem.boot_len M.m_len (Ap_cons (P_v (V_comp (own := [("stone", 4)]) rfl S.nd (blkOk_by (by rfl)) (Ip_seq (P_var 1)) (fun _ _ _ _ _ => (G_nm 4 S.nd)) (fun _ _ _ _ _ => (Ts_one (T_cmp (op_eqD hr.units) gEq_ok (P_v (V_call C__law_value hr (A_cons (E_var 0) (A_cons (E_var 4) A_nil)))) (P_e (E_idx (P_var 0) (P_e E_int))) (nomark _)))) (fun _ _ _ _ _ => (E_var 4)))) Ap_nil)) S.nd)
  (Ss_one (S_retE (E_tup (A_cons (E_var 2) (A_cons (E_var 3) (A_cons (E_op2 op_sub gSub_ok (P_e (E_op2 op_sub gSub_ok (P_e (E_bi call_len gLen_ok PySem.boot_len M.m_len (Ap_cons (P_var 1) Ap_nil))) (P_var 2))) (P_var 3)) A_nil)))))))))
abbrev s__law_halves : Stmt := topS 17
theorem sc__law_halves : FnScope ["line", "crowd", "less", "same", "more"] ["line", "crowd"] (defScope s__law_halves) := ⟨rfl, rfl, rfl, by decide +kernel, rfl, by decide +kernel, by decide +kernel⟩
theorem ok__law_halves (M : Facts K mg) (C__law_sides : Cal P w K mg base "_law_sides" 2 m__law_sides) {f : Addr} {fd : FuncData} (F : Fun K "_law_halves" "_law_halves" s__law_halves f fd) : FnOk P w K mg base CX0 3 f fd ["line", "crowd"] (spD K m__law_halves) :=
  fn_ok (body := b__law_halves) F sc__law_halves rfl rfl rfl (by decide) (fun cdv A outer s H E hr => by
    have S := sc__law_halves
    have hu65 := hu65_of hr
    have hu66 := hu66_of hr
    exact (Ss_cons (S_asgE (E_v (V_call C__law_sides hr (A_cons (E_var 0) (A_cons (E_var 1) A_nil)))) (G_tp (n := 3) rfl (Gs_cons (G_nm 2 S.nd) (Gs_cons (G_nm 3 S.nd) (Gs_cons (G_nm 4 S.nd) Gs_nil)))))
  (Ss_one (S_retE (E_and (E_cmp (op_leG hr.units) gOrd_ok (P_e (E_op2 op_mulG gMul_ok (P_e E_int) (P_var 2))) (P_e (E_bi call_len gLen_ok PySem.boot_len M.m_len (Ap_cons (P_var 1) Ap_nil))) (nomark _)) (E_one (E_cmp (op_leG hr.units) gOrd_ok (P_e (E_op2 op_mulG gMul_ok (P_e E_int) (P_var 4))) (P_e (E_bi call_len gLen_ok PySem.boot_len M.m_len (Ap_cons (P_var 1) Ap_nil))) (nomark _))))))))
abbrev s_law : Stmt := topS 18
theorem sc_law : FnScope ["script", "draws", "one", "other", "kept", "due", "turn", "p", "drawn", "line", "told", "both", "q", "crowd"] ["script"] (defScope s_law) := ⟨rfl, rfl, rfl, by decide +kernel, rfl, by decide +kernel, by decide +kernel⟩
theorem ok_law (M : Facts K mg) (C__law_cell : Cal P w K mg base "_law_cell" 1 m__law_cell) (C__law_common : Cal P w K mg base "_law_common" 1 m__law_common) (C__law_crowd : Cal P w K mg base "_law_crowd" 2 m__law_crowd) (C__law_halves : Cal P w K mg base "_law_halves" 3 m__law_halves) (C__law_line : Cal P w K mg base "_law_line" 2 m__law_line) (C__law_lines : Cal P w K mg base "_law_lines" 3 m__law_lines) (C__law_numbers : Cal P w K mg base "_law_numbers" 1 m__law_numbers) (C__law_same : Cal P w K mg base "_law_same" 12 (m__law_same 12)) (C__law_sides : Cal P w K mg base "_law_sides" 2 m__law_sides) (C__law_value : Cal P w K mg base "_law_value" 1 m__law_value) (C_all_halving : Cal P w K mg base "all_halving" 3 m_all_halving) (C_halves : Cal P w K mg base "halves" 2 m_halves) (C_line_through : Cal P w K mg base "line_through" 1 m_line_through) (C_lines_of : Cal P w K mg base "lines_of" 2 m_lines_of) (C_sides : Cal P w K mg base "sides" 1 m_sides) {f : Addr} {fd : FuncData} (F : Fun K "law" "law" s_law f fd) : FnOk P w K mg base CX0 13 f fd ["script"] (spD K m_law) :=
  fn_ok (body := b_law) F sc_law rfl rfl rfl (by decide) (fun cdv A outer s H E hr => by
    have S := sc_law
    have hu65 := hu65_of hr
    have hu66 := hu66_of hr
    exact (Ss_cons (S_setV 1 (V_call C__law_numbers hr (A_cons (E_callS C__law_cell hr (Ap_cons (P_var 0) (Ap_cons (P_e E_int) Ap_nil))) (A_cons E_int (A_cons E_int A_nil)))) S.nd)
  (show PSs _ _ (tS _ _ (b_law_t1)) from (Ss_cons (S_setV 2 (V_call C__law_crowd hr (A_cons (E_var 0) (A_cons E_int (A_cons E_int (A_cons E_int A_nil))))) S.nd)
  (show PSs _ _ (tS _ _ (b_law_t2)) from (Ss_cons (S_setV 3 (V_call C__law_crowd hr (A_cons (E_var 0) (A_cons E_int (A_cons E_int (A_cons E_int A_nil))))) S.nd)
  (show PSs _ _ (tS _ _ (b_law_t3)) from (Ss_cons (S_setV 4 (V_lst (A_cons (E_v (V_ty call_list_of gList_ok (by decide +kernel) M.m_list (Ap_cons (P_var 2) Ap_nil))) (A_cons (E_v (V_ty call_list_of gList_ok (by decide +kernel) M.m_list (Ap_cons (P_var 3) Ap_nil))) A_nil))) S.nd)
  (show PSs _ _ (tS _ _ (b_law_t4)) from (Ss_cons (S_setV 5 (V_call C__law_lines hr (A_cons (E_v (V_op2 op_addG gAdd_ok (P_var 2) (P_var 3))) A_nil)) S.nd)
  (show PSs _ _ (tS _ _ (b_law_t5)) from (Ss_cons (S_fz [2, 3] (S_for [0, 6, 7, 8, 9, 10, 11, 12, 13] PassesOwn.never rfl (I_range1 M.m_range (P_e E_int)) (G_nm 6 S.nd)
  (show PSs _ _ (tS _ _ (b_law_1)) from (Ss_cons (S_setV 10 (V_call C_lines_of hr (A_cons (E_v (V_op2 op_addG gAdd_ok (P_var 2) (P_var 3))) A_nil)) S.nd)
  (Ss_cons (S_fz [2, 3] (S_setV 11 (V_call C_all_halving hr (A_cons (E_var 2) (A_cons (E_var 3) A_nil))) S.nd))
  (Ss_cons (S_if (T_w (W_or (T_not (T_tru (P_e (E_callS C__law_same hr (Ap_cons (P_var 10) (Ap_cons (P_var 5) Ap_nil)))))) (W_or1 (T_not (T_tru (P_e (E_callS C__law_same hr (Ap_cons (P_var 11) (Ap_cons (P_v (V_comp (own := [("line", 9)]) rfl S.nd (blkOk_by (by rfl)) (Ip_seq (P_var 5)) (fun _ _ _ _ _ => (G_nm 9 S.nd)) (fun _ _ _ _ _ => (Ts_one (T_w (W_and (T_tru (P_e (E_callS C__law_halves hr (Ap_cons (P_var 9) (Ap_cons (P_var 2) Ap_nil))))) (W_and1 (T_tru (P_e (E_callS C__law_halves hr (Ap_cons (P_var 9) (Ap_cons (P_var 3) Ap_nil)))))))))) (fun _ _ _ _ _ => (E_var 9)))) Ap_nil)))))))))
  (Ss_one (S_retE E_bl))
  Ss_nil)
  (Ss_cons (S_app 10 E_int)
  (Ss_one (S_app 11 E_int)))))))))
  (show PSs _ _ (tS _ _ (b_law_t6)) from (Ss_cons (S_fz [2, 3] (S_for [0, 6, 7, 8, 9, 10, 11, 12, 13] PassesOwn.never rfl (I_seq (E_var 2)) (G_nm 7 S.nd)
  (show PSs _ _ (tS _ _ (b_law_3)) from (Ss_one (S_fz [3] (S_for [0, 6, 8, 9, 10, 11, 12, 13] PassesOwn.never rfl (I_seq (E_var 3)) (G_nm 12 S.nd)
  (show PSs _ _ (tS _ _ (b_law_2)) from (Ss_one (S_if (T_cmp (op_neD hr.units) gNe_ok (P_var 7) (P_var 12) (nomark _))
  (Ss_cons (S_setV 9 (V_call C_line_through hr (A_cons (E_var 7) (A_cons (E_var 12) A_nil))) S.nd)
  (Ss_cons (S_if (T_w (W_or (T_not (T_tru (P_e (E_callS C__law_same hr (Ap_cons (P_var 9) (Ap_cons (P_v (V_call C__law_line hr (A_cons (E_var 7) (A_cons (E_var 12) A_nil)))) Ap_nil)))))) (W_or1 (T_cmp (op_neD hr.units) gNe_ok (P_v (V_call C__law_common hr (A_cons (E_v (V_call C__law_common hr (A_cons (E_idx (P_var 9) (P_e E_int)) (A_cons (E_idx (P_var 9) (P_e E_int)) A_nil)))) (A_cons (E_idx (P_var 9) (P_e E_int)) A_nil)))) (P_e E_int) (nomark _)))))
  (Ss_one (S_retE E_bl))
  Ss_nil)
  (Ss_one (S_fz [9] (S_if (T_w (W_or (T_cmp (op_neD hr.units) gNe_ok (P_v (V_call C__law_value hr (A_cons (E_var 9) (A_cons (E_var 7) A_nil)))) (P_e (E_idx (P_var 9) (P_e E_int))) (nomark _)) (W_or1 (T_cmp (op_neD hr.units) gNe_ok (P_v (V_call C__law_value hr (A_cons (E_var 9) (A_cons (E_var 12) A_nil)))) (P_e (E_idx (P_var 9) (P_e E_int))) (nomark _)))))
  (Ss_one (S_retE E_bl))
  Ss_nil)))))
  Ss_nil)))))))))
  (show PSs _ _ (tS _ _ (b_law_t7)) from (Ss_cons (S_setV 8 (V_lst (A_cons (E_tup (A_cons E_int (A_cons (E_op2 op_sub gSub_ok (P_e (E_op2 op_modN gMod_ok (P_e (E_idx (P_var 1) (P_e E_int))) (P_e E_int))) (P_e E_int)) (A_cons (E_op2 op_sub gSub_ok (P_e (E_op2 op_modN gMod_ok (P_e (E_idx (P_var 1) (P_e E_int))) (P_e E_int))) (P_e E_int)) A_nil)))) (A_cons (E_tup (A_cons E_int (A_cons E_int (A_cons (E_op2 op_sub gSub_ok (P_e (E_op2 op_modN gMod_ok (P_e (E_idx (P_var 1) (P_e E_int))) (P_e E_int))) (P_e E_int)) A_nil)))) (A_cons (E_tup (A_cons E_int (A_cons E_int (A_cons (E_op2 op_sub gSub_ok (P_e (E_op2 op_modN gMod_ok (P_e (E_idx (P_var 1) (P_e E_int))) (P_e E_int))) (P_e E_int)) A_nil)))) (A_cons (E_tup (A_cons E_int (A_cons (E_op2 op_sub gSub_ok (P_e E_int) (P_e (E_op2 op_mulG gMul_ok (P_e E_int) (P_e (E_op2 op_modN gMod_ok (P_e (E_idx (P_var 1) (P_e E_int))) (P_e E_int)))))) (A_cons (E_op2 op_modN gMod_ok (P_e (E_idx (P_var 1) (P_e E_int))) (P_e E_int)) A_nil)))) A_nil))))) S.nd)
  (show PSs _ _ (tS _ _ (b_law_t8)) from (Ss_cons (S_fz [2, 3, 9] (S_for [0, 1, 5, 6, 7, 8, 9, 10, 11, 12, 13] PassesOwn.never rfl (I_seq (E_v (V_op2 op_addG gAdd_ok (P_v (V_op2 op_addG gAdd_ok (P_v (V_sl (P_var 5) (O_some (P_e E_int)) (O_some (P_e E_int)))) (P_v (V_comp (own := [("line", 9)]) rfl S.nd (blkOk_by (by rfl)) (Ip_seq (P_v (V_sl (P_var 5) (O_some (P_e E_int)) (O_some (P_e E_int))))) (fun _ _ _ _ _ => (G_nm 9 S.nd)) (fun _ _ _ _ _ => Ts_nil) (fun _ _ _ _ _ => (E_tup (A_cons (E_idx (P_var 9) (P_e E_int)) (A_cons (E_idx (P_var 9) (P_e E_int)) (A_cons (E_v (V_op2 op_addG gAdd_ok (P_e (E_idx (P_var 9) (P_e E_int))) (P_e E_int))) A_nil))))))))) (P_var 8)))) (G_nm 9 S.nd)
  (show PSs _ _ (tS _ _ (b_law_5)) from (Ss_one (S_fz [2, 3, 9] (S_for [0, 1, 5, 6, 7, 8, 10, 11, 12, 13] PassesOwn.never rfl (I_seq (E_v (V_lst (A_cons (E_var 2) (A_cons (E_var 3) A_nil))))) (G_nm 13 S.nd)
  (show PSs _ _ (tS _ _ (b_law_4)) from (Ss_cons (S_fz [9] (S_if (T_w (W_or (T_not (T_tru (P_e (E_callS C__law_same hr (Ap_cons (P_v (V_call C_sides hr (A_cons (E_var 9) (A_cons (E_var 13) A_nil)))) (Ap_cons (P_v (V_call C__law_sides hr (A_cons (E_var 9) (A_cons (E_var 13) A_nil)))) Ap_nil)))))) (W_or1 (T_not (T_tru (P_e (E_callS C__law_same hr (Ap_cons (P_e (E_callS C_halves hr (Ap_cons (P_var 9) (Ap_cons (P_var 13) Ap_nil)))) (Ap_cons (P_e (E_callS C__law_halves hr (Ap_cons (P_var 9) (Ap_cons (P_var 13) Ap_nil)))) Ap_nil)))))))))
  (Ss_one (S_retE E_bl))
  Ss_nil))
  (Ss_one (S_fz [9] (S_if (T_w (W_and (T_tru (P_e (E_callS C__law_halves hr (Ap_cons (P_var 9) (Ap_cons (P_var 13) Ap_nil))))) (W_and (T_cmp (op_eqD hr.units) gEq_ok (P_e (E_op2 op_modN gMod_ok (P_e (E_bi call_len gLen_ok PySem.boot_len M.m_len (Ap_cons (P_var 13) Ap_nil))) (P_e E_int))) (P_e E_int) (nomark _)) (W_and1 (T_cmp (op_eqD hr.units) gEq_ok (P_e (E_idx (P_v (V_call C__law_sides hr (A_cons (E_var 9) (A_cons (E_var 13) A_nil)))) (P_e E_int))) (P_e E_int) (nomark _))))))
  (Ss_one (S_retE E_bl))
  Ss_nil)))))))))))
  (show PSs _ _ (tS _ _ (b_law_t9)) from (Ss_one (S_fz [2, 3] (S_retE (E_cmp (op_eqD hr.units) gEq_ok (P_var 4) (P_v (V_lst (A_cons (E_var 2) (A_cons (E_var 3) A_nil)))) (nomark _))))))))))))))))))))))))
end
theorem all_mk {l : PySem.W.OpenLaw} {w : World} {K : PySem.W.Frag} {h : Heap} {mg : Str → Option Value} {fa : Addr} (X : K.In h) (GX : h.Ns mainGlobals mg) (hfa : mg "law" = some (.ref fa))
    {od_0 an_0 : Option Addr} {f_0 : Addr} {sl_0 : Array (Option Value)} {oc_0 kV_0 dc_0 pm_0 cd_0 ct_0 : Value}
    {od_1 an_1 : Option Addr} {f_1 : Addr} {sl_1 : Array (Option Value)} {oc_1 kV_1 dc_1 pm_1 cd_1 ct_1 : Value}
    {od_2 an_2 : Option Addr} {f_2 : Addr} {sl_2 : Array (Option Value)} {oc_2 kV_2 dc_2 pm_2 cd_2 ct_2 : Value}
    {od_3 an_3 : Option Addr} {f_3 : Addr} {sl_3 : Array (Option Value)} {oc_3 kV_3 dc_3 pm_3 cd_3 ct_3 : Value}
    {od_4 an_4 : Option Addr} {f_4 : Addr} {sl_4 : Array (Option Value)} {oc_4 kV_4 dc_4 pm_4 cd_4 ct_4 : Value}
    {od_5 an_5 : Option Addr} {f_5 : Addr} {sl_5 : Array (Option Value)} {oc_5 kV_5 dc_5 pm_5 cd_5 ct_5 : Value}
    {od_6 an_6 : Option Addr} {f_6 : Addr} {sl_6 : Array (Option Value)} {oc_6 kV_6 dc_6 pm_6 cd_6 ct_6 : Value}
    {od_7 an_7 : Option Addr} {f_7 : Addr} {sl_7 : Array (Option Value)} {oc_7 kV_7 dc_7 pm_7 cd_7 ct_7 : Value}
    {od_8 an_8 : Option Addr} {f_8 : Addr} {sl_8 : Array (Option Value)} {oc_8 kV_8 dc_8 pm_8 cd_8 ct_8 : Value}
    {od_9 an_9 : Option Addr} {f_9 : Addr} {sl_9 : Array (Option Value)} {oc_9 kV_9 dc_9 pm_9 cd_9 ct_9 : Value}
    {od_10 an_10 : Option Addr} {f_10 : Addr} {sl_10 : Array (Option Value)} {oc_10 kV_10 dc_10 pm_10 cd_10 ct_10 : Value}
    {od_11 an_11 : Option Addr} {f_11 : Addr} {sl_11 : Array (Option Value)} {oc_11 kV_11 dc_11 pm_11 cd_11 ct_11 : Value}
    {od_12 an_12 : Option Addr} {f_12 : Addr} {sl_12 : Array (Option Value)} {oc_12 kV_12 dc_12 pm_12 cd_12 ct_12 : Value}
    {od_13 an_13 : Option Addr} {f_13 : Addr} {sl_13 : Array (Option Value)} {oc_13 kV_13 dc_13 pm_13 cd_13 ct_13 : Value}
    {od_14 an_14 : Option Addr} {f_14 : Addr} {sl_14 : Array (Option Value)} {oc_14 kV_14 dc_14 pm_14 cd_14 ct_14 : Value}
    {od_15 an_15 : Option Addr} {f_15 : Addr} {sl_15 : Array (Option Value)} {oc_15 kV_15 dc_15 pm_15 cd_15 ct_15 : Value}
    (a_0 : PySem.W.nsIn K mainGlobals "line_through" = some (some (.ref f_0))) (l_0 : K.lookup f_0 = some ⟨oc_0, od_0, .func (PySem.W.fnOf "line_through" "line_through" (defArgs s_line_through) (defBody s_line_through) (defScope s_line_through) .none kV_0 dc_0 pm_0 an_0 cd_0 ct_0), sl_0⟩) (c_0 : PySem.W.codeIn K cd_0 "line_through" = true) (k_0 : PySem.W.keepIn K (.ref f_0) = true)
    (a_1 : PySem.W.nsIn K mainGlobals "lines_of" = some (some (.ref f_1))) (l_1 : K.lookup f_1 = some ⟨oc_1, od_1, .func (PySem.W.fnOf "lines_of" "lines_of" (defArgs s_lines_of) (defBody s_lines_of) (defScope s_lines_of) .none kV_1 dc_1 pm_1 an_1 cd_1 ct_1), sl_1⟩) (c_1 : PySem.W.codeIn K cd_1 "lines_of" = true) (k_1 : PySem.W.keepIn K (.ref f_1) = true)
    (a_2 : PySem.W.nsIn K mainGlobals "sides" = some (some (.ref f_2))) (l_2 : K.lookup f_2 = some ⟨oc_2, od_2, .func (PySem.W.fnOf "sides" "sides" (defArgs s_sides) (defBody s_sides) (defScope s_sides) .none kV_2 dc_2 pm_2 an_2 cd_2 ct_2), sl_2⟩) (c_2 : PySem.W.codeIn K cd_2 "sides" = true) (k_2 : PySem.W.keepIn K (.ref f_2) = true)
    (a_3 : PySem.W.nsIn K mainGlobals "halves" = some (some (.ref f_3))) (l_3 : K.lookup f_3 = some ⟨oc_3, od_3, .func (PySem.W.fnOf "halves" "halves" (defArgs s_halves) (defBody s_halves) (defScope s_halves) .none kV_3 dc_3 pm_3 an_3 cd_3 ct_3), sl_3⟩) (c_3 : PySem.W.codeIn K cd_3 "halves" = true) (k_3 : PySem.W.keepIn K (.ref f_3) = true)
    (a_4 : PySem.W.nsIn K mainGlobals "all_halving" = some (some (.ref f_4))) (l_4 : K.lookup f_4 = some ⟨oc_4, od_4, .func (PySem.W.fnOf "all_halving" "all_halving" (defArgs s_all_halving) (defBody s_all_halving) (defScope s_all_halving) .none kV_4 dc_4 pm_4 an_4 cd_4 ct_4), sl_4⟩) (c_4 : PySem.W.codeIn K cd_4 "all_halving" = true) (k_4 : PySem.W.keepIn K (.ref f_4) = true)
    (a_5 : PySem.W.nsIn K mainGlobals "_law_cell" = some (some (.ref f_5))) (l_5 : K.lookup f_5 = some ⟨oc_5, od_5, .func (PySem.W.fnOf "_law_cell" "_law_cell" (defArgs s__law_cell) (defBody s__law_cell) (defScope s__law_cell) .none kV_5 dc_5 pm_5 an_5 cd_5 ct_5), sl_5⟩) (c_5 : PySem.W.codeIn K cd_5 "_law_cell" = true) (k_5 : PySem.W.keepIn K (.ref f_5) = true)
    (a_6 : PySem.W.nsIn K mainGlobals "_law_numbers" = some (some (.ref f_6))) (l_6 : K.lookup f_6 = some ⟨oc_6, od_6, .func (PySem.W.fnOf "_law_numbers" "_law_numbers" (defArgs s__law_numbers) (defBody s__law_numbers) (defScope s__law_numbers) .none kV_6 dc_6 pm_6 an_6 cd_6 ct_6), sl_6⟩) (c_6 : PySem.W.codeIn K cd_6 "_law_numbers" = true) (k_6 : PySem.W.keepIn K (.ref f_6) = true)
    (a_7 : PySem.W.nsIn K mainGlobals "_law_common" = some (some (.ref f_7))) (l_7 : K.lookup f_7 = some ⟨oc_7, od_7, .func (PySem.W.fnOf "_law_common" "_law_common" (defArgs s__law_common) (defBody s__law_common) (defScope s__law_common) .none kV_7 dc_7 pm_7 an_7 cd_7 ct_7), sl_7⟩) (c_7 : PySem.W.codeIn K cd_7 "_law_common" = true) (k_7 : PySem.W.keepIn K (.ref f_7) = true)
    (a_8 : PySem.W.nsIn K mainGlobals "_law_same" = some (some (.ref f_8))) (l_8 : K.lookup f_8 = some ⟨oc_8, od_8, .func (PySem.W.fnOf "_law_same" "_law_same" (defArgs s__law_same) (defBody s__law_same) (defScope s__law_same) .none kV_8 dc_8 pm_8 an_8 cd_8 ct_8), sl_8⟩) (c_8 : PySem.W.codeIn K cd_8 "_law_same" = true) (k_8 : PySem.W.keepIn K (.ref f_8) = true)
    (a_9 : PySem.W.nsIn K mainGlobals "_law_crowd" = some (some (.ref f_9))) (l_9 : K.lookup f_9 = some ⟨oc_9, od_9, .func (PySem.W.fnOf "_law_crowd" "_law_crowd" (defArgs s__law_crowd) (defBody s__law_crowd) (defScope s__law_crowd) .none kV_9 dc_9 pm_9 an_9 cd_9 ct_9), sl_9⟩) (c_9 : PySem.W.codeIn K cd_9 "_law_crowd" = true) (k_9 : PySem.W.keepIn K (.ref f_9) = true)
    (a_10 : PySem.W.nsIn K mainGlobals "_law_value" = some (some (.ref f_10))) (l_10 : K.lookup f_10 = some ⟨oc_10, od_10, .func (PySem.W.fnOf "_law_value" "_law_value" (defArgs s__law_value) (defBody s__law_value) (defScope s__law_value) .none kV_10 dc_10 pm_10 an_10 cd_10 ct_10), sl_10⟩) (c_10 : PySem.W.codeIn K cd_10 "_law_value" = true) (k_10 : PySem.W.keepIn K (.ref f_10) = true)
    (a_11 : PySem.W.nsIn K mainGlobals "_law_line" = some (some (.ref f_11))) (l_11 : K.lookup f_11 = some ⟨oc_11, od_11, .func (PySem.W.fnOf "_law_line" "_law_line" (defArgs s__law_line) (defBody s__law_line) (defScope s__law_line) .none kV_11 dc_11 pm_11 an_11 cd_11 ct_11), sl_11⟩) (c_11 : PySem.W.codeIn K cd_11 "_law_line" = true) (k_11 : PySem.W.keepIn K (.ref f_11) = true)
    (a_12 : PySem.W.nsIn K mainGlobals "_law_lines" = some (some (.ref f_12))) (l_12 : K.lookup f_12 = some ⟨oc_12, od_12, .func (PySem.W.fnOf "_law_lines" "_law_lines" (defArgs s__law_lines) (defBody s__law_lines) (defScope s__law_lines) .none kV_12 dc_12 pm_12 an_12 cd_12 ct_12), sl_12⟩) (c_12 : PySem.W.codeIn K cd_12 "_law_lines" = true) (k_12 : PySem.W.keepIn K (.ref f_12) = true)
    (a_13 : PySem.W.nsIn K mainGlobals "_law_sides" = some (some (.ref f_13))) (l_13 : K.lookup f_13 = some ⟨oc_13, od_13, .func (PySem.W.fnOf "_law_sides" "_law_sides" (defArgs s__law_sides) (defBody s__law_sides) (defScope s__law_sides) .none kV_13 dc_13 pm_13 an_13 cd_13 ct_13), sl_13⟩) (c_13 : PySem.W.codeIn K cd_13 "_law_sides" = true) (k_13 : PySem.W.keepIn K (.ref f_13) = true)
    (a_14 : PySem.W.nsIn K mainGlobals "_law_halves" = some (some (.ref f_14))) (l_14 : K.lookup f_14 = some ⟨oc_14, od_14, .func (PySem.W.fnOf "_law_halves" "_law_halves" (defArgs s__law_halves) (defBody s__law_halves) (defScope s__law_halves) .none kV_14 dc_14 pm_14 an_14 cd_14 ct_14), sl_14⟩) (c_14 : PySem.W.codeIn K cd_14 "_law_halves" = true) (k_14 : PySem.W.keepIn K (.ref f_14) = true)
    (a_15 : PySem.W.nsIn K mainGlobals "law" = some (some (.ref f_15))) (l_15 : K.lookup f_15 = some ⟨oc_15, od_15, .func (PySem.W.fnOf "law" "law" (defArgs s_law) (defBody s_law) (defScope s_law) .none kV_15 dc_15 pm_15 an_15 cd_15 ct_15), sl_15⟩) (c_15 : PySem.W.codeIn K cd_15 "law" = true) (k_15 : PySem.W.keepIn K (.ref f_15) = true)
    (z_abs : PySem.W.nsIn K mainGlobals "abs" = some none)
    (z_bool : PySem.W.nsIn K mainGlobals "bool" = some none)
    (z_enumerate : PySem.W.nsIn K mainGlobals "enumerate" = some none)
    (z_int : PySem.W.nsIn K mainGlobals "int" = some none)
    (z_isinstance : PySem.W.nsIn K mainGlobals "isinstance" = some none)
    (z_len : PySem.W.nsIn K mainGlobals "len" = some none)
    (z_list : PySem.W.nsIn K mainGlobals "list" = some none)
    (z_max : PySem.W.nsIn K mainGlobals "max" = some none)
    (z_range : PySem.W.nsIn K mainGlobals "range" = some none)
    (z_sorted : PySem.W.nsIn K mainGlobals "sorted" = some none)
    (z_str : PySem.W.nsIn K mainGlobals "str" = some none)
    (z_tuple : PySem.W.nsIn K mainGlobals "tuple" = some none)
    (y_gcd : PySem.W.nsIn K mainGlobals "gcd" = some (some (.builtin "math.gcd"))) :
    ∃ fd : FuncData, (∀ (s : Shared) (v : Value), BindsTo s fd ⟨[v], []⟩ [("script", v)]) ∧ ∀ base : Heap, K.In base → base.Ns mainGlobals mg → FnOk l.prog w K mg base CX0 13 fa fd ["script"] (spD K m_law) := by
  have e := hfa.symm.trans (PySem.W.mg_of X GX a_15)
  cases e
  have F_0 := fun_mk (st := s_line_through) l_0 c_0 k_0
  have g_0 := PySem.W.mg_of X GX a_0
  have b_0 := F_0.binds (ps := ["one", "other"]) fun _ _ _ _ _ _ us hl => match us, hl with | [_, _], _ => rfl
  have F_1 := fun_mk (st := s_lines_of) l_1 c_1 k_1
  have g_1 := PySem.W.mg_of X GX a_1
  have b_1 := F_1.binds (ps := ["stones"]) fun _ _ _ _ _ _ us hl => match us, hl with | [_], _ => rfl
  have F_2 := fun_mk (st := s_sides) l_2 c_2 k_2
  have g_2 := PySem.W.mg_of X GX a_2
  have b_2 := F_2.binds (ps := ["line", "crowd"]) fun _ _ _ _ _ _ us hl => match us, hl with | [_, _], _ => rfl
  have F_3 := fun_mk (st := s_halves) l_3 c_3 k_3
  have g_3 := PySem.W.mg_of X GX a_3
  have b_3 := F_3.binds (ps := ["line", "crowd"]) fun _ _ _ _ _ _ us hl => match us, hl with | [_, _], _ => rfl
  have F_4 := fun_mk (st := s_all_halving) l_4 c_4 k_4
  have g_4 := PySem.W.mg_of X GX a_4
  have b_4 := F_4.binds (ps := ["one", "other"]) fun _ _ _ _ _ _ us hl => match us, hl with | [_, _], _ => rfl
  have F_5 := fun_mk (st := s__law_cell) l_5 c_5 k_5
  have g_5 := PySem.W.mg_of X GX a_5
  have b_5 := F_5.binds (ps := ["script", "k"]) fun _ _ _ _ _ _ us hl => match us, hl with | [_, _], _ => rfl
  have F_6 := fun_mk (st := s__law_numbers) l_6 c_6 k_6
  have g_6 := PySem.W.mg_of X GX a_6
  have b_6 := F_6.binds (ps := ["cell", "count", "limit"]) fun _ _ _ _ _ _ us hl => match us, hl with | [_, _, _], _ => rfl
  have F_7 := fun_mk (st := s__law_common) l_7 c_7 k_7
  have g_7 := PySem.W.mg_of X GX a_7
  have b_7 := F_7.binds (ps := ["one", "other"]) fun _ _ _ _ _ _ us hl => match us, hl with | [_, _], _ => rfl
  have F_8 := fun_mk (st := s__law_same) l_8 c_8 k_8
  have g_8 := PySem.W.mg_of X GX a_8
  have b_8 := F_8.binds (ps := ["told", "due"]) fun _ _ _ _ _ _ us hl => match us, hl with | [_, _], _ => rfl
  have F_9 := fun_mk (st := s__law_crowd) l_9 c_9 k_9
  have g_9 := PySem.W.mg_of X GX a_9
  have b_9 := F_9.binds (ps := ["script", "at", "least", "most"]) fun _ _ _ _ _ _ us hl => match us, hl with | [_, _, _, _], _ => rfl
  have F_10 := fun_mk (st := s__law_value) l_10 c_10 k_10
  have g_10 := PySem.W.mg_of X GX a_10
  have b_10 := F_10.binds (ps := ["fence", "stone"]) fun _ _ _ _ _ _ us hl => match us, hl with | [_, _], _ => rfl
  have F_11 := fun_mk (st := s__law_line) l_11 c_11 k_11
  have g_11 := PySem.W.mg_of X GX a_11
  have b_11 := F_11.binds (ps := ["one", "other"]) fun _ _ _ _ _ _ us hl => match us, hl with | [_, _], _ => rfl
  have F_12 := fun_mk (st := s__law_lines) l_12 c_12 k_12
  have g_12 := PySem.W.mg_of X GX a_12
  have b_12 := F_12.binds (ps := ["stones"]) fun _ _ _ _ _ _ us hl => match us, hl with | [_], _ => rfl
  have F_13 := fun_mk (st := s__law_sides) l_13 c_13 k_13
  have g_13 := PySem.W.mg_of X GX a_13
  have b_13 := F_13.binds (ps := ["line", "crowd"]) fun _ _ _ _ _ _ us hl => match us, hl with | [_, _], _ => rfl
  have F_14 := fun_mk (st := s__law_halves) l_14 c_14 k_14
  have g_14 := PySem.W.mg_of X GX a_14
  have b_14 := F_14.binds (ps := ["line", "crowd"]) fun _ _ _ _ _ _ us hl => match us, hl with | [_, _], _ => rfl
  have F_15 := fun_mk (st := s_law) l_15 c_15 k_15
  have g_15 := PySem.W.mg_of X GX a_15
  have b_15 := F_15.binds (ps := ["script"]) fun _ _ _ _ _ _ us hl => match us, hl with | [_], _ => rfl
  refine ⟨PySem.W.fnOf "law" "law" (defArgs s_law) (defBody s_law) (defScope s_law) .none kV_15 dc_15 pm_15 an_15 cd_15 ct_15, fun s v => .of_eq rfl, fun base _ _ => ?_⟩
  have M : Facts K mg := ⟨PySem.W.mg_none_of X GX z_abs, PySem.W.mg_none_of X GX z_bool, PySem.W.mg_none_of X GX z_enumerate, PySem.W.mg_none_of X GX z_int, PySem.W.mg_none_of X GX z_isinstance, PySem.W.mg_none_of X GX z_len, PySem.W.mg_none_of X GX z_list, PySem.W.mg_none_of X GX z_max, PySem.W.mg_none_of X GX z_range, PySem.W.mg_none_of X GX z_sorted, PySem.W.mg_none_of X GX z_str, PySem.W.mg_none_of X GX z_tuple, PySem.W.mg_of X GX y_gcd⟩
  have C_line_through : Cal l.prog w K mg base "line_through" 1 m_line_through := cal_mk F_0 g_0 b_0 (ok_line_through M F_0)
  have C_lines_of : Cal l.prog w K mg base "lines_of" 2 m_lines_of := cal_mk F_1 g_1 b_1 (ok_lines_of M C_line_through F_1)
  have C_sides : Cal l.prog w K mg base "sides" 1 m_sides := cal_mk F_2 g_2 b_2 (ok_sides M F_2)
  have C_halves : Cal l.prog w K mg base "halves" 2 m_halves := cal_mk F_3 g_3 b_3 (ok_halves M C_sides F_3)
  have C_all_halving : Cal l.prog w K mg base "all_halving" 3 m_all_halving := cal_mk F_4 g_4 b_4 (ok_all_halving M C_halves C_lines_of F_4)
  have C__law_cell : Cal l.prog w K mg base "_law_cell" 1 m__law_cell := cal_mk F_5 g_5 b_5 (ok__law_cell M F_5)
  have C__law_numbers : Cal l.prog w K mg base "_law_numbers" 1 m__law_numbers := cal_mk F_6 g_6 b_6 (ok__law_numbers M F_6)
  have C__law_common : Cal l.prog w K mg base "_law_common" 1 m__law_common := cal_mk F_7 g_7 b_7 (ok__law_common M F_7)
  have C__law_same : Cal l.prog w K mg base "_law_same" 12 (m__law_same 12) := cal_mk F_8 g_8 b_8 ((ok__law_same M F_8 g_8 b_8 12).mono (by decide))
  have C__law_crowd : Cal l.prog w K mg base "_law_crowd" 2 m__law_crowd := cal_mk F_9 g_9 b_9 (ok__law_crowd M C__law_cell C__law_numbers F_9)
  have C__law_value : Cal l.prog w K mg base "_law_value" 1 m__law_value := cal_mk F_10 g_10 b_10 (ok__law_value M F_10)
  have C__law_line : Cal l.prog w K mg base "_law_line" 2 m__law_line := cal_mk F_11 g_11 b_11 (ok__law_line M C__law_common F_11)
  have C__law_lines : Cal l.prog w K mg base "_law_lines" 3 m__law_lines := cal_mk F_12 g_12 b_12 (ok__law_lines M C__law_line F_12)
  have C__law_sides : Cal l.prog w K mg base "_law_sides" 2 m__law_sides := cal_mk F_13 g_13 b_13 (ok__law_sides M C__law_value F_13)
  have C__law_halves : Cal l.prog w K mg base "_law_halves" 3 m__law_halves := cal_mk F_14 g_14 b_14 (ok__law_halves M C__law_sides F_14)
  exact ok_law M C__law_cell C__law_common C__law_crowd C__law_halves C__law_line C__law_lines C__law_numbers C__law_same C__law_sides C__law_value C_all_halving C_halves C_line_through C_lines_of C_sides F_15
end G

/-! ### the helpers that every law has -/
namespace G
open PySem PySem.Spec L2 PV
set_option autoImplicit false
set_option linter.all false
theorem cell_spec (ns : List Int) (k : Nat) (h : k < ns.length ∨ ns.length ≤ k) : ∃ c : Int, m__law_cell [.list (ns.map PyData.int), .int (k : Int)] = .ok ⟨.int c, false⟩ := by
  by_cases hk : k < ns.length
  · refine ⟨ns[k], ?_⟩
    have e : atI (ns.map PyData.int) (k : Int) = some (.int ns[k]) := by
      rw [atI_map, atI_of (by omega) (by omega)]
      simp [hk]
    simp [m__law_cell, b__law_cell, e, hk]
  · refine ⟨0, ?_⟩
    have : ¬ ((k : Int) < (ns.length : Int)) := by omega
    simp [m__law_cell, b__law_cell, this, hk]

theorem get_lt {ds : List D} {i : Nat} {d : D} (h : ds[i]? = some d) : i < ds.length := (List.getElem?_eq_some_iff.mp h).1
theorem numbers_turn1 (lim c : Int) (ds : List Int) (j : Int) (hl : 0 < lim) (hl2 : lim < 1073741824) (hn : ds.length < 1000) : turn (gNm 4) [1, 4, 5] b__law_numbers_1 (.int j) [.fz (.int c), .no, .fz (.int lim), .own (ds.map PyData.int), .no, .no] =
    .next [.fz (.int (c.fdiv lim)), .no, .fz (.int lim), .own ((ds ++ [c.fmod lim]).map PyData.int), .no, .no] := by
  have h1 : modOk c lim = true := by simp [modOk]; omega
  have h2 : divOk c lim = true := by simp [divOk]; omega
  have h3 : ds.length < 1000000 := by omega
  simp [turn, b__law_numbers_1, h1, h2, h3]
theorem numbers_turn2 (lim c : Int) (ds : List Int) (j : Nat) (hl : 0 < lim) (hl2 : lim < 1073741824) (hn : ds.length < 1000) (hj : j < 1000) : ∃ z : Int, (0 ≤ z ∧ z < lim) ∧ turn (gNm 4) [1, 4, 5] b__law_numbers_2 (.int (0 + (j : Int))) [.fz (.int c), .no, .fz (.int lim), .own (ds.map PyData.int), .no, .no] =
    .next [.fz (.int c), .no, .fz (.int lim), .own ((ds ++ [z]).map PyData.int), .no, .no] := by
  have b0 : ∀ a : Int, mulOk a 48271 = true := fun a => by simp [mulOk]
  have b1 : mulOk (j : Int) 69621 = true := by simp [mulOk]
  have b2 : mulOk (j : Int) 16807 = true := by simp [mulOk]
  have b3 : ∀ a : Int, mulOk a 40692 = true := fun a => by simp [mulOk]
  have m1 : ∀ a : Int, modOk a 2147483647 = true := fun a => by simp [modOk]
  have m2 : ∀ a : Int, modOk a 2147483399 = true := fun a => by simp [modOk]
  have m3 : ∀ a : Int, modOk a lim = true := fun a => by simp [modOk]; omega
  have d1 : ∀ a : Int, divOk a 32 = true := fun a => by simp [divOk]
  have b4 : ∀ a : Int, mulOk (a.fmod 2147483647) (a.fmod 2147483647) = true := fun a => by
    have h1 : 0 ≤ a.fmod 2147483647 := Int.fmod_nonneg_of_pos a (by decide)
    have h2 : a.fmod 2147483647 < 2147483647 := Int.fmod_lt_of_pos a (by decide)
    have : (a.fmod 2147483647).natAbs < 2 ^ 64 := by omega
    simp [mulOk, this]
  have h3 : ds.length < 1000000 := by omega
  refine ⟨Int.fmod (Int.fdiv (Int.fmod (Int.fmod (c * 48271 + j * 69621 + 7) 2147483647 * Int.fmod (c * 48271 + j * 69621 + 7) 2147483647 + Int.fmod (c * 48271 + j * 69621 + 7) 2147483647 * 40692 + j * 16807 + 11) 2147483399) 32) lim, ⟨Int.fmod_nonneg_of_pos _ hl, Int.fmod_lt_of_pos _ hl⟩, ?_⟩
  simp [turn, b__law_numbers_2, b0, b1, b2, b3, b4, m1, m2, m3, d1, h3]
theorem numbers_spec (c lim : Int) (n : Nat) (hn : n ≤ 999) (hl : 0 < lim) (hl2 : lim < 1073741824) : ∃ ds : List Int, ds.length = n ∧ (∀ d ∈ ds, 0 ≤ d ∧ d < lim) ∧ m__law_numbers [.int c, .int (n : Int), .int lim] = .ok ⟨.list (ds.map PyData.int), true⟩ := by
  have key : ∀ (body : PV.Env → Out), (∀ (c : Int) (ds : List Int) (j : Nat), ds.length < 1000 → j < 1000 → (∀ d ∈ ds, 0 ≤ d ∧ d < lim) → ∃ c' z : Int, (0 ≤ z ∧ z < lim) ∧ turn (gNm 4) [1, 4, 5] body (.int (0 + (j : Int))) [.fz (.int c), .no, .fz (.int lim), .own (ds.map PyData.int), .no, .no] =
      .next [.fz (.int c'), .no, .fz (.int lim), .own ((ds ++ [z]).map PyData.int), .no, .no]) →
      ∃ (c' : Int) (ds : List Int), ds.length = n ∧ (∀ d ∈ ds, 0 ≤ d ∧ d < lim) ∧ forL (gNm 4) [1, 4, 5] body (rangeD 0 n) [.fz (.int c), .no, .fz (.int lim), .own [], .no, .no] = .next [.fz (.int c'), .no, .fz (.int lim), .own (ds.map PyData.int), .no, .no] := by
    intro body hb
    obtain ⟨e, h1, c', ds, rfl, h2, h3⟩ := forL_inv (g := gNm 4) (dead := [1, 4, 5]) (body := body) (ds := rangeD 0 n) (fun i e => ∃ (c' : Int) (ds : List Int), e = [.fz (.int c'), .no, .fz (.int lim), .own (ds.map PyData.int), .no, .no] ∧ ds.length = i ∧ ∀ d ∈ ds, 0 ≤ d ∧ d < lim)
      [.fz (.int c), .no, .fz (.int lim), .own [], .no, .no] ⟨c, [], rfl, rfl, by simp⟩ fun i d e hd ⟨c1, ds, he, h2, h3⟩ => by
        obtain ⟨hi, rfl⟩ := rangeD_get hd
        obtain ⟨c2, z, hz, ht⟩ := hb c1 ds i (by omega) (by omega) h3
        refine ⟨_, by rw [he]; exact ht, c2, ds ++ [z], rfl, by simp [h2], fun d hd => ?_⟩
        rcases List.mem_append.mp hd with hd | hd
        · exact h3 d hd
        · rw [List.mem_singleton] at hd; subst hd; exact hz
    rw [rangeD_length] at h2
    exact ⟨c', ds, h2, h3, h1⟩
  have sm : smallI (n : Int) = true := smallI_nat (by omega)
  have pw : powOk 10 18 = true := by simp [powOk]
  by_cases hc : (1000000000000000000 : Int) ≤ c
  · obtain ⟨c', ds, h1, h2, h3⟩ := key b__law_numbers_1 fun c ds j h _ _ => ⟨c.fdiv lim, c.fmod lim, ⟨Int.fmod_nonneg_of_pos _ hl, Int.fmod_lt_of_pos _ hl⟩, numbers_turn1 lim c ds _ hl hl2 h⟩
    refine ⟨ds, h1, h2, ?_⟩
    simp [m__law_numbers, b__law_numbers, sm, pw, hc, h3]
  · obtain ⟨c', ds, h1, h2, h3⟩ := key b__law_numbers_2 fun c ds j h hj _ => by
      obtain ⟨z, hz, ht⟩ := numbers_turn2 lim c ds j hl hl2 h hj
      exact ⟨c, z, hz, ht⟩
    refine ⟨ds, h1, h2, ?_⟩
    simp [m__law_numbers, b__law_numbers, sm, pw, hc, h3]
/-- two equal data are the same -/
theorem same_refl : ∀ (n : Nat) (d : D), Nice n d → m__law_same n [d, d] = .ok ⟨.bool true, false⟩
  | 0, _, h => h.elim
  | n + 1, .none, _ => by simp [m__law_same, b__law_same]
  | n + 1, .bool b, _ => by simp [m__law_same, b__law_same]
  | n + 1, .int i, _ => by simp [m__law_same, b__law_same]
  | n + 1, .str s, h => by
    have h' : PyData.strOk s = true := h
    simp [m__law_same, b__law_same, gEq_s s s h' h']
  | n + 1, .list xs, h => by
    have hl : xs.length < 1000000 := h.1
    have sm : smallI (xs.length : Int) = true := smallI_nat (by omega)
    have lp : forL (gNm 2) [2] (b__law_same_1 (m__law_same n)) (rangeD 0 xs.length) [.fz (.list xs), .fz (.list xs), .no] = .next [.fz (.list xs), .fz (.list xs), .no] := forL_same fun d hd => by
      obtain ⟨i, hi⟩ := List.mem_iff_getElem?.mp hd
      obtain ⟨hlt, rfl⟩ := rangeD_get hi
      have e : atI xs (i : Int) = some xs[i] := by rw [atI_of (by omega) (by omega)]; simp [hlt]
      have ih := same_refl n xs[i] (h.2 _ (List.getElem_mem hlt))
      simp [turn, b__law_same_1, e, ih]
    simp [m__law_same, b__law_same, sm, lp]
  | n + 1, .tuple xs, h => by
    have hl : xs.length < 1000000 := h.1
    have sm : smallI (xs.length : Int) = true := smallI_nat (by omega)
    have lp : forL (gNm 2) [2] (b__law_same_1 (m__law_same n)) (rangeD 0 xs.length) [.fz (.tuple xs), .fz (.tuple xs), .no] = .next [.fz (.tuple xs), .fz (.tuple xs), .no] := forL_same fun d hd => by
      obtain ⟨i, hi⟩ := List.mem_iff_getElem?.mp hd
      obtain ⟨hlt, rfl⟩ := rangeD_get hi
      have e : atI xs (i : Int) = some xs[i] := by rw [atI_of (by omega) (by omega)]; simp [hlt]
      have ih := same_refl n xs[i] (h.2 _ (List.getElem_mem hlt))
      simp [turn, b__law_same_1, e, ih]
    simp [m__law_same, b__law_same, sm, lp]
  | n + 1, .dict _, h => h.elim
end G

/-! ### the least and the greatest of numbers -/
namespace G
open PySem PySem.Spec L2 PV
set_option autoImplicit false
set_option linter.all false
def mxL : List Int → Int
  | [] => 0
  | a :: r => r.foldl max a
def mnL : List Int → Int
  | [] => 0
  | a :: r => r.foldl min a
theorem foldl_max (l : List Int) (a : Int) : l.foldl max a ∈ a :: l ∧ ∀ b ∈ a :: l, b ≤ l.foldl max a := by
  induction l generalizing a with
  | nil => simp
  | cons y r ih =>
    obtain ⟨h1, h2⟩ := ih (max a y)
    rw [List.foldl_cons]
    refine ⟨?_, fun b hb => ?_⟩
    · rcases List.mem_cons.mp h1 with h1 | h1
      · rw [h1]
        by_cases h : a ≤ y
        · rw [Int.max_eq_right h]; simp
        · rw [Int.max_eq_left (by omega)]; simp
      · exact List.mem_cons_of_mem _ (List.mem_cons_of_mem _ h1)
    · have h3 := h2 _ List.mem_cons_self
      rcases List.mem_cons.mp hb with rfl | hb
      · have := Int.le_max_left b y; omega
      · rcases List.mem_cons.mp hb with rfl | hb
        · have := Int.le_max_right a b; omega
        · exact h2 b (List.mem_cons_of_mem _ hb)
theorem foldl_min (l : List Int) (a : Int) : l.foldl min a ∈ a :: l ∧ ∀ b ∈ a :: l, l.foldl min a ≤ b := by
  induction l generalizing a with
  | nil => simp
  | cons y r ih =>
    obtain ⟨h1, h2⟩ := ih (min a y)
    rw [List.foldl_cons]
    refine ⟨?_, fun b hb => ?_⟩
    · rcases List.mem_cons.mp h1 with h1 | h1
      · rw [h1]
        by_cases h : a ≤ y
        · rw [Int.min_eq_left h]; simp
        · rw [Int.min_eq_right (by omega)]; simp
      · exact List.mem_cons_of_mem _ (List.mem_cons_of_mem _ h1)
    · have h3 := h2 _ List.mem_cons_self
      rcases List.mem_cons.mp hb with rfl | hb
      · have := Int.min_le_left b y; omega
      · rcases List.mem_cons.mp hb with rfl | hb
        · have := Int.min_le_right a b; omega
        · exact h2 b (List.mem_cons_of_mem _ hb)
theorem mxL_mem {l : List Int} (h : l ≠ []) : mxL l ∈ l := match l, h with
  | a :: r, _ => (foldl_max r a).1
theorem le_mxL {l : List Int} {b : Int} (h : b ∈ l) : b ≤ mxL l := match l, h with
  | a :: r, h => (foldl_max r a).2 b h
theorem mnL_mem {l : List Int} (h : l ≠ []) : mnL l ∈ l := match l, h with
  | a :: r, _ => (foldl_min r a).1
theorem mnL_le {l : List Int} {b : Int} (h : b ∈ l) : mnL l ≤ b := match l, h with
  | a :: r, h => (foldl_min r a).2 b h
theorem mxL_le {l : List Int} (h : l ≠ []) (c : Int) : mxL l ≤ c ↔ ∀ b ∈ l, b ≤ c := ⟨fun k b hb => Int.le_trans (le_mxL hb) k, fun k => k _ (mxL_mem h)⟩
theorem le_mnL {l : List Int} (h : l ≠ []) (c : Int) : c ≤ mnL l ↔ ∀ b ∈ l, c ≤ b := ⟨fun k b hb => Int.le_trans k (mnL_le hb), fun k => k _ (mnL_mem h)⟩
theorem depthAll_ints (xs : List Int) : PyData.depthAll (xs.map PyData.int) ≤ 64 := depthAll_le fun d hd => by
  obtain ⟨p, _, rfl⟩ := List.mem_map.mp hd
  simp only [PyData.depth]; omega
theorem int_alike (a b : Int) : PySem.W.alike (.int a) (.int b) = true := PySem.W.DatumOrd.alike (α := Int) a b
theorem max_ints {xs : List Int} (h : xs ≠ []) : gMaxL [.list (xs.map PyData.int)] = .ok (.int (mxL xs)) := by
  cases xs with
  | nil => exact absurd rfl h
  | cons a r =>
    have h1 := alikeL_maps int_alike (a :: r)
    have h2 := noNone_maps (f := PyData.int) (fun x e => by cases e) (a :: r)
    have h3 := depthAll_ints (a :: r)
    have e := PySem.W.maxD_ints a r
    simp only [List.map_cons] at h1 h2 h3 ⊢
    unfold gMaxL gBest
    simp only [h1, h2, h3, and_self, if_true, e]
    rfl
theorem min_ints {xs : List Int} (h : xs ≠ []) : gMinL [.list (xs.map PyData.int)] = .ok (.int (mnL xs)) := by
  cases xs with
  | nil => exact absurd rfl h
  | cons a r =>
    have h1 := alikeL_maps int_alike (a :: r)
    have h2 := noNone_maps (f := PyData.int) (fun x e => by cases e) (a :: r)
    have h3 := depthAll_ints (a :: r)
    have e := PySem.W.minD_ints a r
    simp only [List.map_cons] at h1 h2 h3 ⊢
    unfold gMinL gBest
    simp only [h1, h2, h3, and_self, if_true, e]
    rfl
def leI (a b : Int) : Bool := decide (a ≤ b)
theorem sorted_ints (l : List Int) : gSorted [.list (l.map PyData.int)] = .ok ⟨.list ((l.mergeSort leI).map PyData.int), true⟩ := by
  have h1 : sortableL (l.map PyData.int) = true := by
    unfold sortableL
    simp only [List.all_map, Bool.or_eq_true, List.all_eq_true, Function.comp]
    exact .inr fun x _ => trivial
  have e : (l.map PyData.int).mergeSort leD = (l.mergeSort leI).map PyData.int := (List.map_mergeSort fun a _ b _ => by
    have : PySem.W.dataLt (.int b) (.int a) = decide (b < a) := PySem.W.DatumOrd.lt_eq (α := Int) b a
    simp only [leD, PySem.W.dataLe_eq, this, leI]
    by_cases h : a ≤ b
    · simp [h, Int.not_lt.mpr h]
    · simp [h, Int.not_le.mp h]).symm
  unfold gSorted
  simp only [alikeL_maps int_alike, h1, depthAll_ints, and_self, if_true, e]
theorem lin_leI : LinB leI := ⟨fun a b => by simp only [leI, Bool.or_eq_true, decide_eq_true_eq]; omega, fun a b c h1 h2 => by simp only [leI, decide_eq_true_eq] at *; omega, fun a b h1 h2 => by simp only [leI, decide_eq_true_eq] at *; omega⟩
@[simp] theorem atI_1 {α : Type} (x y : α) (r : List α) : atI (x :: y :: r) 1 = some y := by rw [atI_of (by omega) (by simp only [List.length_cons]; omega)]; rfl
@[simp] theorem atI_2 {α : Type} (x y z : α) (r : List α) : atI (x :: y :: z :: r) 2 = some z := by rw [atI_of (by omega) (by simp only [List.length_cons]; omega)]; rfl
@[simp] theorem atI_3 {α : Type} (x y z w : α) (r : List α) : atI (x :: y :: z :: w :: r) 3 = some w := by rw [atI_of (by omega) (by simp only [List.length_cons]; omega)]; rfl
theorem str_eq {i j : Str} {b : Bool} (hi : PyData.strOk i = true) (hj : PyData.strOk j = true) (h : decide (i = j) = b) : gEq (.str i) (.str j) = .ok (.bool b) := by rw [gEq_s i j hi hj, h]
theorem str_ne {i j : Str} {b : Bool} (hi : PyData.strOk i = true) (hj : PyData.strOk j = true) (h : (!decide (i = j)) = b) : gNe (.str i) (.str j) = .ok (.bool b) := by rw [gNe_s i j hi hj, h]
theorem ePk_set {env : PV.Env} {v : Nat} (h : v < env.length) (d : D) : ePk v (env.set v (.fz d)) = .ok d := by
  simp [ePk, h]
/-! ### draws -/
theorem modOk_pos (a b : Int) (h : 0 < b) : modOk a b = true := by
  have : b ≠ 0 := by omega
  simp [modOk, this]
theorem divOk_pos (a b : Int) (h : 0 < b) (h2 : b < 1073741824) : divOk a b = true := by
  have : b ≠ 0 := by omega
  have h3 : b.natAbs < 1073741824 := by omega
  simp [divOk, this, h3]
theorem mulOk_small (a b : Int) (h : b.natAbs < 18446744073709551616) : mulOk a b = true := by simp [mulOk, h]
theorem mulOk_small' (a b : Int) (h : a.natAbs < 18446744073709551616) : mulOk a b = true := by simp [mulOk, h]
theorem fmod_bd (a b : Int) (h : 0 < b) : 0 ≤ a.fmod b ∧ a.fmod b < b := ⟨Int.fmod_nonneg_of_pos a h, Int.fmod_lt_of_pos a h⟩
def Dr (ds : List Int) (n : Int) : Prop := ∀ i : Int, 0 ≤ i → i < n → ∃ z, 0 ≤ z ∧ atI (ds.map PyData.int) i = some (.int z)
theorem Dr.mk {ds : List Int} {n : Nat} {lim : Int} (h1 : ds.length = n) (h2 : ∀ d ∈ ds, 0 ≤ d ∧ d < lim) : Dr ds n := fun i k1 k2 => ⟨ds[i.toNat]'(by omega), (h2 _ (List.getElem_mem _)).1, by
    rw [atI_map, atI_of k1 (by omega), List.getElem?_eq_getElem (by omega)]
    rfl⟩
end G

/-! ### points -/
namespace G
open PySem PySem.Spec L2 PV
set_option autoImplicit false
set_option linter.all false
abbrev Pt := Int × Int
def dP (p : Pt) : D := .tuple [.int p.1, .int p.2]
theorem dP_ap (p : Pt) : dP p = .tuple [.int p.1, .int p.2] := Eq.trans rfl rfl
def nth (hs : List Pt) (i : Nat) : Pt := hs.getD i (0, 0)
theorem nth_mem {hs : List Pt} {i : Nat} (h : i < hs.length) : nth hs i ∈ hs := by
  unfold nth
  rw [List.getD_eq_getElem?_getD, List.getElem?_eq_getElem h]
  exact List.getElem_mem h
theorem at_dP (hs : List Pt) (i : Int) (h0 : 0 ≤ i) (h1 : i < hs.length) : atI (hs.map dP) i = some (dP (nth hs i.toNat)) := by
  unfold nth
  rw [atI_map, atI_of h0 h1, List.getD_eq_getElem?_getD, List.getElem?_eq_getElem (by omega)]
  rfl
theorem at_nat (hs : List Pt) (i : Nat) (h1 : i < hs.length) : atI (hs.map dP) (i : Int) = some (dP (nth hs i)) := at_dP hs i (by omega) (by omega)
theorem dP_nice (p : Pt) : Nice 2 (dP p) := Nice.tuple (by simp) fun x hx => by
  simp only [List.mem_cons, List.not_mem_nil, or_false] at hx
  rcases hx with rfl | rfl <;> exact Nice.int
theorem dP_eqv (a b : Pt) : PyData.eqv (dP a) (dP b) = decide (a = b) := by
  rw [Bool.eq_iff_iff]
  simp only [dP, eqv_t, eqvAll_c, eqvAll_n, eqv_i, Bool.and_true, Bool.and_eq_true, decide_eq_true_eq, Prod.ext_iff]
theorem dPs_nice {hs : List Pt} (h : hs.length < 1000000) : Nice 3 (.list (hs.map dP)) := Nice.map h fun p _ => dP_nice p
theorem dPs_eq {xs ys : List Pt} (h : xs.length < 1000000) (h' : ys.length < 1000000) : gEq (.list (xs.map dP)) (.list (ys.map dP)) = .ok (.bool (decide (xs = ys))) := by
  rw [(dPs_nice h).eq (dPs_nice h'), eqv_l, eqvAll_maps dP_eqv]
theorem dPs_ne {xs ys : List Pt} (h : xs.length < 1000000) (h' : ys.length < 1000000) : gNe (.list (xs.map dP)) (.list (ys.map dP)) = .ok (.bool (!decide (xs = ys))) := by
  rw [(dPs_nice h).ne (dPs_nice h'), eqv_l, eqvAll_maps dP_eqv]
/-- a number of at most 60 bits -/
def sm (x : Int) : Prop := x.natAbs < 2 ^ 60
theorem mulOk_subr {a b : Int} (z : Int) (ha : sm a) (hb : sm b) : mulOk z (a - b) = true := mulOk_small _ _ (by unfold sm at *; omega)
theorem mulOk_subl {a b : Int} (z : Int) (ha : sm a) (hb : sm b) : mulOk (a - b) z = true := mulOk_small' _ _ (by unfold sm at *; omega)
theorem mulOk_sm {a : Int} (z : Int) (ha : sm a) : mulOk z a = true := mulOk_small _ _ (by unfold sm at *; omega)
theorem mulOk_sm' {a : Int} (z : Int) (ha : sm a) : mulOk a z = true := mulOk_small' _ _ (by unfold sm at *; omega)
/-! draws -/
def dg (ds : List Int) (i : Int) : Int := ds.getD i.toNat 0
theorem dg_at {ds : List Int} {n : Nat} (h1 : ds.length = n) (i : Int) (h0 : 0 ≤ i) (h : i < (n : Int)) : atI (ds.map PyData.int) i = some (.int (dg ds i)) := by
  rw [atI_map, atI_of h0 (by omega), List.getElem?_eq_getElem (by omega)]
  unfold dg
  rw [List.getD_eq_getElem?_getD, List.getElem?_eq_getElem (by omega)]
  rfl
theorem dg_bd {ds : List Int} {lim : Int} (h2 : ∀ d ∈ ds, 0 ≤ d ∧ d < lim) (hl : 0 < lim) (i : Int) : 0 ≤ dg ds i ∧ dg ds i < lim := by
  unfold dg
  rw [List.getD_eq_getElem?_getD]
  cases e : ds[i.toNat]? with
  | none => exact ⟨Int.le_refl _, hl⟩
  | some z => exact h2 z (List.mem_of_getElem? e)
/-- .. of a cell -/
theorem numbers_dg (c lim : Int) (n : Nat) (hn : n ≤ 999) (hl : 0 < lim) (hl2 : lim < 1073741824) : ∃ ds : List Int, ds.length = n ∧ (∀ i : Int, 0 ≤ i → i < (n : Int) → atI (ds.map PyData.int) i = some (.int (dg ds i))) ∧ (∀ i, 0 ≤ dg ds i ∧ dg ds i < lim) ∧ (∀ d ∈ ds, 0 ≤ d ∧ d < lim) ∧ m__law_numbers [.int c, .int (n : Int), .int lim] = .ok ⟨.list (ds.map PyData.int), true⟩ := by
  obtain ⟨ds, h1, h2, h3⟩ := numbers_spec c lim n hn hl hl2
  exact ⟨ds, h1, dg_at h1, dg_bd h2 hl, h2, h3⟩
theorem pick3 {z : Int} (h : 0 ≤ z) (h' : z < 3) {α : Type} (a b c : α) : atI [a, b, c] z = some (if z = 0 then a else if z = 1 then b else c) := by
  have : z = 0 ∨ z = 1 ∨ z = 2 := by omega
  rcases this with rfl | rfl | rfl <;> simp
theorem pick4 {z : Int} (h : 0 ≤ z) (h' : z < 4) {α : Type} (a b c d : α) : atI [a, b, c, d] z = some (if z = 0 then a else if z = 1 then b else if z = 2 then c else d) := by
  have : z = 0 ∨ z = 1 ∨ z = 2 ∨ z = 3 := by omega
  rcases this with rfl | rfl | rfl | rfl <;> simp
theorem pick {l : List Int} {z : Int} (h : 0 ≤ z) (h' : z < l.length) : ∃ u ∈ l, atI (l.map PyData.int) z = some (.int u) := by
  refine ⟨l[z.toNat]'(by omega), List.getElem_mem _, ?_⟩
  rw [atI_map, atI_of h h', List.getElem?_eq_getElem (by omega)]
  rfl
end G

/-! ### fractions as rationals -/
namespace G
open PySem PySem.Spec L2 PV
set_option autoImplicit false
set_option linter.all false
def dQ (q : Rat) : D := .tuple [.int q.num, .int (q.den : Int)]
theorem log2_lt' {n k : Nat} (h : n < 2 ^ k) (hk : 0 < k) : n.log2 < k := by
  by_cases h0 : n = 0
  · subst h0; simpa using hk
  · exact (Nat.log2_lt h0).mpr h
theorem divOk_big (a : Int) {g : Nat} (h0 : 0 < g) (h : g < 2 ^ 250) : divOk a (g : Int) = true := by
  have h1 := log2_lt' h (by decide)
  have h2 : g.log2 < 9000 := Nat.lt_trans h1 (by decide)
  unfold divOk
  have h3 : (0 : Int) < (g : Int) := by omega
  simp only [Int.natAbs_natCast, decide_eq_true h2, decide_eq_true h3, Bool.and_self, Bool.or_true]
theorem mulOk_big (a b : Int) (h : a.natAbs < 2 ^ 250) (h' : b.natAbs < 2 ^ 250) : mulOk a b = true := by
  have h1 := log2_lt' h (by decide)
  have h2 := log2_lt' h' (by decide)
  have h3 : a.natAbs.log2 + b.natAbs.log2 < 1000000 := by omega
  unfold mulOk
  simp only [decide_eq_true h3, Bool.or_true]
theorem mulOk_den (a : Int) (d : Nat) (h : d < 2 ^ 60) : mulOk a (d : Int) = true := mulOk_small _ _ (by rw [Int.natAbs_natCast]; exact Nat.lt_trans h (by decide))
theorem mulOk_den' (a : Int) (d : Nat) (h : d < 2 ^ 60) : mulOk (d : Int) a = true := mulOk_small' _ _ (by rw [Int.natAbs_natCast]; exact Nat.lt_trans h (by decide))
theorem den_mul {a b : Nat} (h : a < 2 ^ 60) (h' : b < 2 ^ 60) : a * b < 2 ^ 120 := by
  have : a * b < 2 ^ 60 * 2 ^ 60 := Nat.mul_lt_mul_of_lt_of_lt h h'
  exact this
theorem divInt_parts (t : Int) (b : Nat) (hb : 0 < b) : (Rat.divInt t (b : Int)).num = t.fdiv ((Nat.gcd t.natAbs b : Nat) : Int) ∧ ((Rat.divInt t (b : Int)).den : Int) = (b : Int).fdiv ((Nat.gcd t.natAbs b : Nat) : Int) := by
  have hb' : (b : Int) ≠ 0 := by omega
  have e : (b : Int).gcd t = Nat.gcd t.natAbs b := by
    rw [Int.gcd_eq_natAbs_gcd_natAbs, Int.natAbs_natCast, Nat.gcd_comm]
  refine ⟨?_, ?_⟩
  · rw [Rat.num_divInt, e, Int.sign_eq_one_of_pos (by omega), Int.one_mul, Int.fdiv_eq_ediv_of_nonneg _ (by omega)]
  · rw [Rat.den_divInt, if_neg hb', e, Int.natAbs_natCast, Int.fdiv_eq_ediv_of_nonneg _ (by omega)]
    exact Int.natCast_ediv _ _
theorem rat_add (a b : Rat) : a + b = Rat.divInt (a.num * (b.den : Int) + b.num * (a.den : Int)) ((a.den : Int) * (b.den : Int)) := by
  rw [Rat.add_def', ← Rat.divInt_ofNat, Int.natCast_mul]
theorem rat_sub (a b : Rat) : a - b = Rat.divInt (a.num * (b.den : Int) - b.num * (a.den : Int)) ((a.den : Int) * (b.den : Int)) := by
  rw [Rat.sub_def, Rat.normalize_eq_mkRat, ← Rat.divInt_ofNat, Int.natCast_mul]
theorem rat_mul (a b : Rat) : a * b = Rat.divInt (a.num * b.num) ((a.den : Int) * (b.den : Int)) := by
  rw [Rat.mul_def, Rat.normalize_eq_mkRat, ← Rat.divInt_ofNat, Int.natCast_mul]
theorem dQ_nice (q : Rat) : Nice 2 (dQ q) := Nice.tuple (by simp) fun x hx => by
  simp only [List.mem_cons, List.not_mem_nil, or_false] at hx
  rcases hx with rfl | rfl <;> exact Nice.int
theorem dQ_eqv (a b : Rat) : PyData.eqv (dQ a) (dQ b) = decide (a = b) := by
  rw [Bool.eq_iff_iff]
  simp only [dQ, eqv_t, eqvAll_c, eqvAll_n, eqv_i, Bool.and_true, Bool.and_eq_true, decide_eq_true_eq]
  constructor
  · rintro ⟨h1, h2⟩
    exact Rat.ext h1 (by omega)
  · rintro rfl
    exact ⟨rfl, rfl⟩
theorem gEq_Q (a b : Rat) : gEq (dQ a) (dQ b) = .ok (.bool (decide (a = b))) := by rw [(dQ_nice a).eq (dQ_nice b), dQ_eqv]
theorem gNe_Q (a b : Rat) : gNe (dQ a) (dQ b) = .ok (.bool (!decide (a = b))) := by rw [(dQ_nice a).ne (dQ_nice b), dQ_eqv]
theorem dQ_int (n : Int) : dQ (n : Rat) = .tuple [.int n, .int 1] := rfl
end G

namespace G
open PySem PySem.Spec L2 PV
set_option autoImplicit false
set_option linter.all false
theorem half_pos (b r : Int) (h0 : 0 < r) (h1 : r < b) : 0 ≤ b.fmod r ∧ 2 * b.fmod r < b := by
  obtain ⟨k1, k2⟩ := fmod_bd b r h0
  refine ⟨k1, ?_⟩
  have e := Int.fmod_def b r
  have q : 1 ≤ b.fdiv r := by
    by_cases hq : 1 ≤ b.fdiv r
    · exact hq
    · have : r * b.fdiv r ≤ 0 := Int.mul_nonpos_of_nonneg_of_nonpos (by omega) (by omega)
      omega
  have : r * 1 ≤ r * b.fdiv r := Int.mul_le_mul_of_nonneg_left q (by omega)
  omega
theorem gcd_step (a b : Int) : Int.gcd b (a.fmod b) = Int.gcd a b := by
  rw [Int.fmod_def, show a - b * a.fdiv b = a + (-(a.fdiv b)) * b by rw [Int.neg_mul, Int.mul_comm (a.fdiv b) b]; omega, Int.gcd_add_mul_right_right, Int.gcd_comm]
theorem lg_turn0 (a : Int) (d : D) : turn (gNm 2) [2] b__law_common_1 d [.fz (.int a), .fz (.int 0), .no] = .ret ⟨.int a, false⟩ := by
  simp [turn, b__law_common_1]
theorem lg_turn1 (a b : Int) (hb : b ≠ 0) (d : D) : turn (gNm 2) [2] b__law_common_1 d [.fz (.int a), .fz (.int b), .no] = .next [.fz (.int b), .fz (.int (a.fmod b)), .no] := by
  have m : modOk a b = true := by simp [modOk, hb]
  simp [turn, b__law_common_1, hb, m]
theorem lg_loop : ∀ (m : Nat) (a b : Int) (ds : List D), 0 ≤ a → 0 ≤ b → b < 2 ^ m → 2 * m + 1 ≤ ds.length → forL (gNm 2) [2] b__law_common_1 ds [.fz (.int a), .fz (.int b), .no] = .ret ⟨.int (Int.gcd a b : Int), false⟩
  | _, _, _, [], _, _, _, h => absurd h (by simp)
  | m, a, b, d :: ds, ha, hb0, hb, hl => by
    by_cases h0 : b = 0
    · subst h0
      rw [forL_cons, lg_turn0, Int.gcd_zero_right]
      rw [show ((a.natAbs : Nat) : Int) = a by omega]
    · rw [forL_cons, lg_turn1 a b h0]
      simp only
      cases m with
      | zero => simp at hb; omega
      | succ m =>
        match ds, hl with
        | [], hl => simp at hl
        | d2 :: ds, hl =>
          have k := fmod_bd a b (by omega)
          by_cases h1 : a.fmod b = 0
          · have g := gcd_step a b
            rw [h1, Int.gcd_zero_right] at g
            rw [h1, forL_cons, lg_turn0, ← g]
            rw [show ((b.natAbs : Nat) : Int) = b by omega]
          · have t := half_pos b (a.fmod b) (by omega) k.2
            have g1 := gcd_step a b
            have g2 := gcd_step b (a.fmod b)
            rw [forL_cons, lg_turn1 b (a.fmod b) h1]
            simp only
            rw [lg_loop m (a.fmod b) (b.fmod (a.fmod b)) ds (by omega) (by omega) (by rw [Int.pow_succ] at hb; omega) (by simp only [List.length_cons] at hl; omega), g2, g1]
theorem lgcd_spec (a b : Int) (hb : b.natAbs < 2 ^ 190) : m__law_common [.int a, .int b] = .ok ⟨.int (Int.gcd a b : Int), false⟩ := by
  have hb' : (b.natAbs : Int) < 2 ^ 190 := by exact_mod_cast hb
  have l := lg_loop 190 (a.natAbs : Int) (b.natAbs : Int) (rangeD 0 900) (by omega) (by omega) hb' (by rw [rangeD_length]; omega)
  have sm : smallI 900 = true := by decide
  have e : ∀ z : Int, (if z < 0 then -z else z) = (z.natAbs : Int) := fun z => by split <;> omega
  have eg : Int.gcd (a.natAbs : Int) (b.natAbs : Int) = Int.gcd a b := by simp only [Int.gcd_eq_natAbs_gcd_natAbs, Int.natAbs_natCast]
  rw [eg] at l
  simp [m__law_common, b__law_common, sm, e, l]
end G

/-! ### crowds of stones -/
namespace G
open PySem PySem.Spec L2 PV
set_option autoImplicit false
set_option linter.all false
def Sm' (hs : List Pt) (b : Int) : Prop := ∀ p ∈ hs, (-b ≤ p.1 ∧ p.1 ≤ b) ∧ (-b ≤ p.2 ∧ p.2 ≤ b)
def ringL : List Pt := [(10, 0), (9, 5), (5, 9), (0, 10), (-5, 9), (-9, 5), (-10, 0), (-9, -5), (-5, -9), (0, -10), (5, -9), (9, -5)]
theorem ring_bd (i : Nat) (h : i < 12) : (-2000 ≤ (nth ringL i).1 ∧ (nth ringL i).1 ≤ 2000) ∧ (-2000 ≤ (nth ringL i).2 ∧ (nth ringL i).2 ≤ 2000) := by
  have : ∀ j : Fin 12, (-2000 ≤ (nth ringL j.val).1 ∧ (nth ringL j.val).1 ≤ 2000) ∧ (-2000 ≤ (nth ringL j.val).2 ∧ (nth ringL j.val).2 ≤ 2000) := by decide +kernel
  exact this ⟨i, h⟩
theorem crowd_turn {ds : List Int} (dr : Dr ds 30) (kind span : Int) (hs : span = 2 ∨ span = 5 ∨ span = 40 ∨ span = 1000) (S : List Pt) (k : Nat) (hk : S.length = k) (hk12 : k < 12) (hS : Sm' S 2000) :
    ∃ p : Pt, ((-2000 ≤ p.1 ∧ p.1 ≤ 2000) ∧ (-2000 ≤ p.2 ∧ p.2 ≤ 2000)) ∧ turn (gNm 10) [0, 1, 2, 3, 5, 10, 11, 12, 13] b__law_crowd_1 (.int (k : Int)) [.no, .no, .no, .no, .own (ds.map PyData.int), .no, .fz (.int kind), .fz (.int span), .own (ringL.map dP), .own (S.map dP), .no, .no, .no, .no] =
      .next [.no, .no, .no, .no, .own (ds.map PyData.int), .no, .fz (.int kind), .fz (.int span), .own (ringL.map dP), .own ((S ++ [p]).map dP), .no, .no, .no, .no] := by
  obtain ⟨x, _, ax⟩ := dr (4 + 2 * (k : Int)) (by omega) (by omega)
  obtain ⟨y, _, ay⟩ := dr (5 + 2 * (k : Int)) (by omega) (by omega)
  obtain ⟨d28, _, a28⟩ := dr 28 (by decide) (by decide)
  obtain ⟨d29, _, a29⟩ := dr 29 (by decide) (by decide)
  obtain ⟨d3, _, a3⟩ := dr 3 (by decide) (by decide)
  have m2 : ∀ z : Int, mulOk 2 z = true := fun z => mulOk_small' _ _ (by decide)
  have m5 : ∀ z : Int, mulOk 5 z = true := fun z => mulOk_small' _ _ (by decide)
  have ms := fun z => modOk_pos z (2 * span + 1) (by omega)
  have n9 := fun z => modOk_pos z 9 (by decide)
  have n21 := fun z => modOk_pos z 21 (by decide)
  have n3 := fun z => modOk_pos z 3 (by decide)
  have n4 := fun z => modOk_pos z 4 (by decide)
  have n2 := fun z => modOk_pos z 2 (by decide)
  have n12 := fun z => modOk_pos z 12 (by decide)
  have d3' := fun z => divOk_pos z 3 (by decide) (by decide)
  have q1 := fmod_bd x (2 * span + 1) (by omega)
  have q2 := fmod_bd y (2 * span + 1) (by omega)
  have q3 := fmod_bd x 21 (by decide)
  have q4 := fmod_bd d3 3 (by decide)
  have q5 := fmod_bd (d3.fdiv 3) 4 (by decide)
  have q6 := fmod_bd d28 9 (by decide)
  have q7 := fmod_bd d29 9 (by decide)
  have hl : S.length < 1000000 := by omega
  by_cases k1 : kind = 1
  · have mu1 : mulOk (x.fmod 21 - 10) (d3.fmod 3 - 1) = true := mulOk_small _ _ (by omega)
    have mu2 : mulOk (x.fmod 21 - 10) ((d3.fdiv 3).fmod 4 - 1) = true := mulOk_small _ _ (by omega)
    have b1 : -20 ≤ (x.fmod 21 - 10) * (d3.fmod 3 - 1) ∧ (x.fmod 21 - 10) * (d3.fmod 3 - 1) ≤ 20 := by
      have : d3.fmod 3 - 1 = -1 ∨ d3.fmod 3 - 1 = 0 ∨ d3.fmod 3 - 1 = 1 := by omega
      rcases this with h | h | h <;> rw [h] <;> omega
    have b2 : -20 ≤ (x.fmod 21 - 10) * ((d3.fdiv 3).fmod 4 - 1) ∧ (x.fmod 21 - 10) * ((d3.fdiv 3).fmod 4 - 1) ≤ 20 := by
      have : (d3.fdiv 3).fmod 4 - 1 = -1 ∨ (d3.fdiv 3).fmod 4 - 1 = 0 ∨ (d3.fdiv 3).fmod 4 - 1 = 1 ∨ (d3.fdiv 3).fmod 4 - 1 = 2 := by omega
      rcases this with h | h | h | h <;> rw [h] <;> omega
    refine ⟨(d28.fmod 9 + (x.fmod 21 - 10) * (d3.fmod 3 - 1), d29.fmod 9 + (x.fmod 21 - 10) * ((d3.fdiv 3).fmod 4 - 1)), by simp only; omega, ?_⟩
    have dp : dP (d28.fmod 9 + (x.fmod 21 - 10) * (d3.fmod 3 - 1), d29.fmod 9 + (x.fmod 21 - 10) * ((d3.fdiv 3).fmod 4 - 1)) = .tuple [.int (d28.fmod 9 + (x.fmod 21 - 10) * (d3.fmod 3 - 1)), .int (d29.fmod 9 + (x.fmod 21 - 10) * ((d3.fdiv 3).fmod 4 - 1))] := rfl
    generalize ringL.map dP = rl
    simp [turn, b__law_crowd_1, ax, ay, a28, a29, a3, m2, ms, n9, n21, n3, n4, d3', k1, mu1, mu2, hl, dp]
  · by_cases k2 : kind = 2 ∧ 0 < k ∧ x.fmod 3 = 0
    · obtain ⟨k2, hk0, hx⟩ := k2
      have nk := fun z => modOk_pos z (k : Int) (by omega)
      have qk := fmod_bd y (k : Int) (by omega)
      have af := at_dP S (y.fmod k) qk.1 (by omega)
      have mem : nth S (y.fmod k).toNat ∈ S := nth_mem (by omega)
      refine ⟨nth S (y.fmod k).toNat, hS _ mem, ?_⟩
      have hk0' : (0 : Int) < (k : Int) := by omega
      generalize nth S (y.fmod k).toNat = p at *
      generalize ringL.map dP = rl
      simp [turn, b__law_crowd_1, ax, ay, m2, ms, n3, k1, k2, hk0', hx, nk, af, hl, hk0]
    · by_cases k3 : kind = 3
      · have q12 := fmod_bd (d3 + 5 * (k : Int)) 12 (by decide)
        have af := at_dP ringL ((d3 + 5 * (k : Int)).fmod 12) q12.1 (by have : ringL.length = 12 := rfl; omega)
        refine ⟨nth ringL ((d3 + 5 * (k : Int)).fmod 12).toNat, ring_bd _ (by omega), ?_⟩
        generalize nth ringL ((d3 + 5 * (k : Int)).fmod 12).toNat = p at *
        generalize ringL.map dP = rl at *
        simp [turn, b__law_crowd_1, ax, ay, a3, m2, m5, ms, n12, k3, af, hl]
      · by_cases k4 : kind = 4 ∧ 0 < k ∧ (k : Int).fmod 2 = 1
        · obtain ⟨k4, hk0, hx⟩ := k4
          have af := at_dP S ((k : Int) - 1) (by omega) (by omega)
          have mem : nth S ((k : Int) - 1).toNat ∈ S := nth_mem (by omega)
          have b := hS _ mem
          refine ⟨(0 - (nth S ((k : Int) - 1).toNat).1, 0 - (nth S ((k : Int) - 1).toNat).2), by simp only; omega, ?_⟩
          have hk0' : (0 : Int) < (k : Int) := by omega
          generalize nth S ((k : Int) - 1).toNat = p at *
          generalize ringL.map dP = rl at *
          have e1 : dP p = .tuple [.int p.1, .int p.2] := rfl
          have e2 : dP (0 - p.1, 0 - p.2) = .tuple [.int (0 - p.1), .int (0 - p.2)] := rfl
          simp only [Int.zero_sub] at e2 ⊢
          simp [turn, b__law_crowd_1, ax, ay, m2, ms, n2, k4, hk0', hx, af, hl, e1, e2, hk0]
        · refine ⟨(x.fmod (2 * span + 1) - span, y.fmod (2 * span + 1) - span), by simp only; omega, ?_⟩
          have e2 : dP (x.fmod (2 * span + 1) - span, y.fmod (2 * span + 1) - span) = .tuple [.int (x.fmod (2 * span + 1) - span), .int (y.fmod (2 * span + 1) - span)] := rfl
          generalize ringL.map dP = rl at *
          by_cases g2 : kind = 2
          · by_cases g3 : 0 < k
            · have g4 : ¬ x.fmod 3 = 0 := fun z => k2 ⟨g2, g3, z⟩
              have g3' : (0 : Int) < (k : Int) := by omega
              simp [turn, b__law_crowd_1, ax, ay, m2, ms, n3, g2, g3, g3', g4, hl, e2]
            · have g3' : ¬ (0 : Int) < (k : Int) := by omega
              simp [turn, b__law_crowd_1, ax, ay, m2, ms, n3, g2, g3, g3', hl, e2]
          · by_cases g5 : kind = 4
            · by_cases g3 : 0 < k
              · have g4 : ¬ (k : Int).fmod 2 = 1 := fun z => k4 ⟨g5, g3, z⟩
                have g3' : (0 : Int) < (k : Int) := by omega
                simp [turn, b__law_crowd_1, ax, ay, m2, ms, n2, g5, g3, g3', g4, hl, e2]
              · have g3' : ¬ (0 : Int) < (k : Int) := by omega
                simp [turn, b__law_crowd_1, ax, ay, m2, ms, n2, g5, g3, g3', hl, e2]
            · simp [turn, b__law_crowd_1, ax, ay, m2, ms, k1, g2, k3, g5, hl, e2]
end G

namespace G
open PySem PySem.Spec L2 PV
set_option autoImplicit false
set_option linter.all false
theorem crowd_spec (ns : List Int) (at_ least most : Nat) (h1 : 0 < least) (h2 : least ≤ most) (h3 : most ≤ 12) (h4 : at_ ≤ 1000) : ∃ hs : List Pt, least ≤ hs.length ∧ hs.length ≤ most ∧ Sm' hs 2000 ∧
    m__law_crowd [.list (ns.map PyData.int), .int (at_ : Int), .int (least : Int), .int (most : Int)] = .ok ⟨.list (hs.map dP), true⟩ := by
  obtain ⟨c, hc⟩ := cell_spec ns at_ (by omega)
  obtain ⟨ds, l1, l2, l3⟩ := numbers_spec c 5040 30 (by decide) (by decide) (by decide)
  have dr : Dr ds 30 := .mk l1 l2
  have l3' : m__law_numbers [.int c, .int 30, .int 5040] = .ok ⟨.list (ds.map PyData.int), true⟩ := l3
  obtain ⟨d0, _, a0⟩ := dr 0 (by decide) (by decide)
  obtain ⟨d1, _, a1⟩ := dr 1 (by decide) (by decide)
  obtain ⟨d2, _, a2⟩ := dr 2 (by decide) (by decide)
  have md := fun z => modOk_pos z ((most : Int) - (least : Int) + 1) (by omega)
  have m6 := fun z => modOk_pos z 6 (by decide)
  have m4 := fun z => modOk_pos z 4 (by decide)
  have q0 := fmod_bd d0 ((most : Int) - (least : Int) + 1) (by omega)
  have q2 := fmod_bd d2 4 (by decide)
  obtain ⟨n, hn1, hn2, hne⟩ : ∃ n : Nat, least ≤ n ∧ n ≤ most ∧ (least : Int) + d0.fmod ((most : Int) - (least : Int) + 1) = (n : Int) := ⟨((least : Int) + d0.fmod ((most : Int) - (least : Int) + 1)).toNat, by omega, by omega, by omega⟩
  obtain ⟨span, hs, hsp⟩ : ∃ span : Int, (span = 2 ∨ span = 5 ∨ span = 40 ∨ span = 1000) ∧ atI [PyData.int 2, .int 5, .int 40, .int 1000] (d2.fmod 4) = some (.int span) := by
    have : d2.fmod 4 = 0 ∨ d2.fmod 4 = 1 ∨ d2.fmod 4 = 2 ∨ d2.fmod 4 = 3 := by omega
    rcases this with h | h | h | h <;> rw [h]
    · exact ⟨2, by omega, rfl⟩
    · exact ⟨5, by omega, rfl⟩
    · exact ⟨40, by omega, rfl⟩
    · exact ⟨1000, by omega, rfl⟩
  obtain ⟨e, f, S, rfl, k1, k2⟩ := forL_inv (g := gNm 10) (dead := [0, 1, 2, 3, 5, 10, 11, 12, 13]) (body := b__law_crowd_1) (ds := rangeD 0 n) (fun i e => ∃ S : List Pt, e = [.no, .no, .no, .no, .own (ds.map PyData.int), .no, .fz (.int (d1.fmod 6)), .fz (.int span), .own (ringL.map dP), .own (S.map dP), .no, .no, .no, .no] ∧ S.length = i ∧ Sm' S 2000)
    _ ⟨[], rfl, rfl, fun p hp => by cases hp⟩ fun i d e hi ⟨S, he, k1, k2⟩ => by
      obtain ⟨hi, rfl⟩ := rangeD_get hi
      obtain ⟨p, t1, t2⟩ := crowd_turn dr (d1.fmod 6) span hs S i k1 (by omega) k2
      rw [show 0 + (i : Int) = (i : Int) by omega]
      refine ⟨_, by rw [he]; exact t2, S ++ [p], rfl, by simp [k1], fun q hq => ?_⟩
      rcases List.mem_append.mp hq with hq | hq
      · exact k2 q hq
      · rw [List.mem_singleton] at hq; subst hq; exact t1
  rw [rangeD_length] at k1
  refine ⟨S, by omega, by omega, k2, ?_⟩
  have sm : smallI (n : Int) = true := smallI_nat (by omega)
  simp only [ringL, List.map_cons, List.map_nil, dP] at f
  simp [m__law_crowd, b__law_crowd, b__law_crowd_t1, b__law_crowd_t2, b__law_crowd_t3, b__law_crowd_t4, b__law_crowd_t5, b__law_crowd_t6, b__law_crowd_t7, hc, l3', a0, a1, a2, md, m6, m4, hne, hsp, sm, f]
/-! some spot -/
end G

/-! ### lines -/
namespace G
open PySem PySem.Spec L2 PV
set_option autoImplicit false
set_option linter.all false
abbrev L3 := Int × Int × Int
def dL3 (l : L3) : D := .tuple [.int l.1, .int l.2.1, .int l.2.2]
theorem dL3_ap (l : L3) : dL3 l = .tuple [.int l.1, .int l.2.1, .int l.2.2] := Eq.trans rfl rfl
def kL (l : L3) : List Int := [l.1, l.2.1, l.2.2]
theorem tup_kL (l : L3) : tupD (kL l) = dL3 l := rfl
theorem dL3_eqv (a b : L3) : PyData.eqv (dL3 a) (dL3 b) = decide (a = b) := by
  rw [Bool.eq_iff_iff]
  simp only [dL3, eqv_t, eqvAll_c, eqvAll_n, eqv_i, Bool.and_true, Bool.and_eq_true, decide_eq_true_eq, Prod.ext_iff]
theorem dL3_nice (l : L3) : Nice 2 (dL3 l) := Nice.tuple (by simp) fun x hx => by
  simp only [List.mem_cons, List.not_mem_nil, or_false] at hx
  rcases hx with rfl | rfl | rfl <;> exact Nice.int
def sgn (p q : Pt) : Int := if q.2 - p.2 < 0 ∨ (q.2 - p.2 = 0 ∧ p.1 - q.1 < 0) then -((Nat.gcd (q.2 - p.2).natAbs (p.1 - q.1).natAbs : Nat) : Int) else ((Nat.gcd (q.2 - p.2).natAbs (p.1 - q.1).natAbs : Nat) : Int)
def lineP (p q : Pt) : L3 := ((q.2 - p.2).fdiv (sgn p q), (p.1 - q.1).fdiv (sgn p q), (q.2 - p.2).fdiv (sgn p q) * p.1 + (p.1 - q.1).fdiv (sgn p q) * p.2)
def Bp (p : Pt) : Prop := (-2000 ≤ p.1 ∧ p.1 ≤ 2000) ∧ (-2000 ≤ p.2 ∧ p.2 ≤ 2000)
theorem Bp.sm {p : Pt} (h : Bp p) : G.sm p.1 ∧ G.sm p.2 := by unfold Bp at h; unfold G.sm; omega
theorem gcd_pos {p q : Pt} (ne : p ≠ q) : 0 < Nat.gcd (q.2 - p.2).natAbs (p.1 - q.1).natAbs := by
  rw [Nat.gcd_pos_iff]
  by_cases h1 : q.2 - p.2 = 0
  · by_cases h2 : p.1 - q.1 = 0
    · exact absurd (Prod.ext (by omega) (by omega)) ne
    · omega
  · omega
theorem gcd_le {p q : Pt} (hp : Bp p) (hq : Bp q) (ne : p ≠ q) : Nat.gcd (q.2 - p.2).natAbs (p.1 - q.1).natAbs ≤ 4000 := by
  unfold Bp at hp hq
  by_cases h1 : q.2 - p.2 = 0
  · have h2 : p.1 - q.1 ≠ 0 := fun z => ne (Prod.ext (by omega) (by omega))
    exact Nat.le_trans (Nat.gcd_le_right _ (by omega)) (by omega)
  · exact Nat.le_trans (Nat.gcd_le_left _ (by omega)) (by omega)
theorem through_spec {p q : Pt} (hp : Bp p) (hq : Bp q) (ne : p ≠ q) : m_line_through [.tuple [.int p.1, .int p.2], .tuple [.int q.1, .int q.2]] = .ok ⟨dL3 (lineP p q), false⟩ := by
  have k1 := fun z => mulOk_sm z hp.sm.1
  have k2 := fun z => mulOk_sm z hp.sm.2
  have g0 := gcd_pos ne
  have g1 := gcd_le hp hq ne
  unfold dL3 lineP sgn
  obtain ⟨A, hA⟩ : ∃ A, q.2 - p.2 = A := ⟨_, rfl⟩
  obtain ⟨B, hB⟩ : ∃ B, p.1 - q.1 = B := ⟨_, rfl⟩
  obtain ⟨g, hg⟩ : ∃ g, Nat.gcd A.natAbs B.natAbs = g := ⟨_, rfl⟩
  simp only [hA, hB, hg] at g0 g1 ⊢
  have d1 : ∀ z, divOk z (g : Int) = true := fun z => divOk_pos _ _ (by omega) (by omega)
  have d2 : ∀ z, divOk z (-(g : Int)) = true := fun z => by
    unfold divOk
    rw [decide_eq_true (by omega), decide_eq_true (by omega)]; rfl
  by_cases c1 : A < 0
  · simp [m_line_through, b_line_through, hA, hB, hg, k1, k2, d2, c1]
  · by_cases c0 : A = 0
    · subst c0
      have hg0 : B.natAbs = g := by rw [← hg]; simp
      by_cases c2 : B < 0
      · simp [m_line_through, b_line_through, hA, hB, hg0, k1, k2, d2, c2]
      · simp [m_line_through, b_line_through, hA, hB, hg0, k1, k2, d1, c2]
    · simp [m_line_through, b_line_through, hA, hB, hg, k1, k2, d1, c1, c0]
theorem lline_spec {p q : Pt} (hp : Bp p) (hq : Bp q) (ne : p ≠ q) : m__law_line [.tuple [.int p.1, .int p.2], .tuple [.int q.1, .int q.2]] = .ok ⟨dL3 (lineP p q), false⟩ := by
  have k1 := fun z => mulOk_sm z hp.sm.1
  have k2 := fun z => mulOk_sm z hp.sm.2
  have g0 := gcd_pos ne
  have g1 := gcd_le hp hq ne
  have lg : m__law_common [.int (q.2 - p.2), .int (p.1 - q.1)] = .ok ⟨.int ((Nat.gcd (q.2 - p.2).natAbs (p.1 - q.1).natAbs : Nat) : Int), false⟩ := lgcd_spec _ _ (by unfold Bp at hp hq; omega)
  unfold dL3 lineP sgn
  obtain ⟨A, hA⟩ : ∃ A, q.2 - p.2 = A := ⟨_, rfl⟩
  obtain ⟨B, hB⟩ : ∃ B, p.1 - q.1 = B := ⟨_, rfl⟩
  obtain ⟨g, hg⟩ : ∃ g, Nat.gcd A.natAbs B.natAbs = g := ⟨_, rfl⟩
  simp only [hA, hB, hg] at lg g0 g1 ⊢
  have d1 : ∀ z, divOk z (g : Int) = true := fun z => divOk_pos _ _ (by omega) (by omega)
  have d2 : ∀ z, divOk z (-(g : Int)) = true := fun z => by
    unfold divOk
    rw [decide_eq_true (by omega), decide_eq_true (by omega)]; rfl
  by_cases c1 : A < 0
  · simp [m__law_line, b__law_line, lg, hA, hB, hg, k1, k2, d2, c1]
  · by_cases c0 : A = 0
    · subst c0
      have hg0 : B.natAbs = g := by rw [← hg]; simp
      by_cases c2 : B < 0
      · simp [m__law_line, b__law_line, lg, hA, hB, hg0, k1, k2, d2, c2]
      · simp [m__law_line, b__law_line, lg, hA, hB, hg0, k1, k2, d1, c2]
    · simp [m__law_line, b__law_line, lg, hA, hB, hg, k1, k2, d1, c1, c0]
/-- the line goes through both, its numbers have no common divisor -/
theorem line_parts {p q : Pt} (ne : p ≠ q) : sgn p q ≠ 0 ∧ sgn p q * (lineP p q).1 = q.2 - p.2 ∧ sgn p q * (lineP p q).2.1 = p.1 - q.1 ∧ (sgn p q).natAbs = Nat.gcd (q.2 - p.2).natAbs (p.1 - q.1).natAbs := by
  have g0 := gcd_pos ne
  have d1 : ((Nat.gcd (q.2 - p.2).natAbs (p.1 - q.1).natAbs : Nat) : Int) ∣ q.2 - p.2 := Int.ofNat_dvd_left.mpr (Nat.gcd_dvd_left _ _)
  have d2 : ((Nat.gcd (q.2 - p.2).natAbs (p.1 - q.1).natAbs : Nat) : Int) ∣ p.1 - q.1 := Int.ofNat_dvd_left.mpr (Nat.gcd_dvd_right _ _)
  have na : (sgn p q).natAbs = Nat.gcd (q.2 - p.2).natAbs (p.1 - q.1).natAbs := by unfold sgn; split <;> omega
  have e1 : sgn p q ∣ q.2 - p.2 := by unfold sgn; split; exact Int.neg_dvd.mpr d1; exact d1
  have e2 : sgn p q ∣ p.1 - q.1 := by unfold sgn; split; exact Int.neg_dvd.mpr d2; exact d2
  have nz : sgn p q ≠ 0 := fun z => by rw [z] at na; simp at na; omega
  exact ⟨nz, Int.mul_fdiv_cancel_of_dvd e1, Int.mul_fdiv_cancel_of_dvd e2, na⟩
theorem line_q {p q : Pt} (ne : p ≠ q) : (lineP p q).1 * q.1 + (lineP p q).2.1 * q.2 = (lineP p q).2.2 := by
  obtain ⟨nz, h1, h2, _⟩ := line_parts ne
  have e : (lineP p q).2.2 = (lineP p q).1 * p.1 + (lineP p q).2.1 * p.2 := rfl
  rw [e]
  generalize (lineP p q).1 = a at *
  generalize (lineP p q).2.1 = b at *
  generalize sgn p q = s at *
  have z : s * ((a * q.1 + b * q.2) - (a * p.1 + b * p.2)) = 0 := by grind
  rcases Int.mul_eq_zero.mp z with z | z <;> omega
theorem line_gcd {p q : Pt} (ne : p ≠ q) : Int.gcd (lineP p q).1 (lineP p q).2.1 = 1 := by
  obtain ⟨nz, h1, h2, h3⟩ := line_parts ne
  have e : Int.gcd (sgn p q * (lineP p q).1) (sgn p q * (lineP p q).2.1) = (sgn p q).natAbs * Int.gcd (lineP p q).1 (lineP p q).2.1 := Int.gcd_mul_left ..
  rw [h1, h2, h3] at e
  have e2 : Int.gcd (q.2 - p.2) (p.1 - q.1) = Nat.gcd (q.2 - p.2).natAbs (p.1 - q.1).natAbs := rfl
  rw [e2] at e
  have g0 := gcd_pos ne
  exact Nat.eq_of_mul_eq_mul_left g0 (by rw [Nat.mul_one]; exact e.symm)
end G

/-! ### the lines of stones -/
namespace G
open PySem PySem.Spec L2 PV
set_option autoImplicit false
set_option linter.all false
def addL (ks : List L3) (l : L3) : List L3 := if l ∈ ks then ks else ks ++ [l]
def stL (p : Pt) (ks : List L3) (q : Pt) : List L3 := if p = q then ks else addL ks (lineP p q)
def inn (X : List Pt) (ks : List L3) (k : Nat) : List L3 := (List.range k).foldl (fun ks j => stL (nth X k) ks (nth X j)) ks
def linesL (X : List Pt) : List L3 := (List.range X.length).foldl (inn X) []
structure Cw (X : List Pt) : Prop where
  n : X.length ≤ 12
  b : ∀ p ∈ X, Bp p
theorem addL_len (ks : List L3) (l : L3) : (addL ks l).length ≤ ks.length + 1 := by
  unfold addL; split
  · omega
  · simp
theorem stL_len (p : Pt) (ks : List L3) (q : Pt) : (stL p ks q).length ≤ ks.length + 1 := by
  unfold stL; split
  · omega
  · exact addL_len _ _
theorem addK_L (ks : List L3) (l : L3) : addK (ks.map kL) (kL l) = (addL ks l).map kL := by
  have inj : ∀ a b : L3, kL a = kL b → a = b := fun a b h => by
    unfold kL at h
    simp only [List.cons.injEq, and_true] at h
    exact Prod.ext h.1 (Prod.ext h.2.1 h.2.2)
  unfold addK addL
  by_cases c : l ∈ ks
  · rw [if_pos c, if_pos (List.mem_map_of_mem c)]
  · rw [if_neg c, if_neg (fun z => by
      obtain ⟨m, hm, e⟩ := List.mem_map.mp z
      exact c (inj _ _ e ▸ hm)), List.map_append]
    rfl
theorem ints_dL (l : L3) : intsT (dL3 l) = some (kL l) := rfl
theorem dP_ne (a b : Pt) : gNe (dP a) (dP b) = .ok (.bool (!decide (a = b))) := by rw [(dP_nice a).ne (dP_nice b), dP_eqv]
theorem take_nth {X : List Pt} {k : Nat} (h : k ≤ X.length) : (X.map dP).take k = (List.range k).map fun j => dP (nth X j) := by
  refine List.ext_getElem (by simp; omega) fun j h1 h2 => ?_
  have hj : j < k := by simpa using h2
  simp only [List.getElem_take, List.getElem_map, List.getElem_range]
  unfold nth
  rw [List.getD_eq_getElem?_getD, List.getElem?_eq_getElem (by omega)]
  rfl
theorem cut_none {xs : List D} {b : Int} (h' : 0 ≤ b) : cutD xs none (some b) = xs.take b.toNat := by
  rw [← cut_to h']
  unfold cutD
  have e : HT.sIx xs.length 0 none = HT.sIx xs.length 0 (some 0) := by
    simp [HT.sIx]
  rw [e]
theorem inner_spec {X : List Pt} (C : Cw X) {k : Nat} (hk : k < X.length) (ks : List L3) (hl : ks.length ≤ 500) (x2 : Sl) :
    forL (gNm 4) [2, 4] b_lines_of_1 ((List.range k).map fun j => dP (nth X j)) [.fz (.list (X.map dP)), .ob (.dkt (ks.map kL)), .no, .fz (dP (nth X k)), .no] =
      .next [.fz (.list (X.map dP)), .ob (.dkt ((inn X ks k).map kL)), .no, .fz (dP (nth X k)), .no] ∧ (inn X ks k).length ≤ ks.length + k := by
  have n := C.n
  have h := forL_foldI (g := gNm 4) (dead := [2, 4]) (body := b_lines_of_1) (fun j : Nat => dP (nth X j)) (fun ks : List L3 => [.fz (.list (X.map dP)), .ob (.dkt (ks.map kL)), .no, .fz (dP (nth X k)), .no]) (fun ks j => stL (nth X k) ks (nth X j)) (List.range k)
    (fun i s => s.length ≤ ks.length + i ∧ i ≤ k) ks ⟨by omega, by omega⟩ fun i s j hj ⟨h1, h2⟩ => by
      have jk : j < k := List.mem_range.mp (List.mem_of_getElem? hj)
      have ik : i < k := by have := (List.getElem?_eq_some_iff.mp hj).1; rwa [List.length_range] at this
      have ne := dP_ne (nth X k) (nth X j)
      have sl := stL_len (nth X k) s (nth X j)
      refine ⟨?_, by omega, by omega⟩
      unfold stL
      by_cases c : nth X k = nth X j
      · rw [decide_eq_true c] at ne
        rw [if_pos c]
        generalize X.map dP = XX
        generalize s.map kL = SS
        simp [b_lines_of_1, ne]
      · rw [decide_eq_false c] at ne
        rw [if_neg c, ← addK_L]
        have t : m_line_through [dP (nth X k), dP (nth X j)] = .ok ⟨dL3 (lineP (nth X k) (nth X j)), false⟩ := through_spec (C.b _ (nth_mem hk)) (C.b _ (nth_mem (by omega))) c
        have iT := ints_dL (lineP (nth X k) (nth X j))
        have ls : (s.map kL).length < 1000 := by rw [List.length_map]; omega
        generalize X.map dP = XX
        generalize s.map kL = SS at *
        generalize dL3 (lineP (nth X k) (nth X j)) = LL at *
        simp [b_lines_of_1, ne, t, iT, ls]
  have lr : (List.range k).length = k := List.length_range
  rw [lr] at h
  exact ⟨h.1, h.2.1⟩
theorem enum_nth (X : List Pt) : enumD (X.map dP) = (List.range X.length).map fun k : Nat => PyData.tuple [.int (k : Int), dP (nth X k)] := by
  rw [enumD_map]
  refine List.ext_getElem (by simp) fun j h1 h2 => ?_
  have hj : j < X.length := by simpa using h2
  simp only [List.getElem_map, List.getElem_zipIdx, List.getElem_range, Nat.zero_add]
  unfold nth
  rw [List.getD_eq_getElem?_getD, List.getElem?_eq_getElem hj]
  rfl
theorem sorted_L (ks : List L3) : ∃ S : List L3, (∀ l ∈ S, l ∈ ks) ∧ S.length = ks.length ∧ gSorted [.list (ks.map dL3)] = .ok ⟨.list (S.map dL3), true⟩ := by
  have h1 : sortableL (ks.map dL3) = true := by
    unfold sortableL
    simp only [List.all_map, Bool.or_eq_true, List.all_eq_true, Function.comp]
    exact .inl fun x _ => rfl
  have h2 : PyData.depthAll (ks.map dL3) ≤ 64 := depthAll_le fun d hd => by
    obtain ⟨p, _, rfl⟩ := List.mem_map.mp hd
    exact Nat.le_trans (dL3_nice p).lay.2 (by decide)
  have h3 : alikeL (ks.map dL3) = true := alikeL_maps (fun x y => rfl) _
  have ex : ∀ ds : List D, (∀ d ∈ ds, ∃ l ∈ ks, d = dL3 l) → ∃ S : List L3, (∀ l ∈ S, l ∈ ks) ∧ S.map dL3 = ds := fun ds => by
    induction ds with
    | nil => exact fun _ => ⟨[], by simp, rfl⟩
    | cons d r ih =>
      intro h
      obtain ⟨l, hl, rfl⟩ := h d List.mem_cons_self
      obtain ⟨S, a, b⟩ := ih fun d hd => h d (List.mem_cons_of_mem _ hd)
      refine ⟨l :: S, fun m hm => ?_, by rw [List.map_cons, b]⟩
      rcases List.mem_cons.mp hm with rfl | hm
      · exact hl
      · exact a m hm
  obtain ⟨S, a, b⟩ := ex ((ks.map dL3).mergeSort leD) fun d hd => by
    obtain ⟨l, hl, e⟩ := List.mem_map.mp ((List.mergeSort_perm _ _).mem_iff.mp hd)
    exact ⟨l, hl, e.symm⟩
  refine ⟨S, a, ?_, ?_⟩
  · have := congrArg List.length b
    rwa [List.length_map, List.length_mergeSort, List.length_map] at this
  · unfold gSorted
    simp only [h1, h2, h3, and_self, if_true]
    rw [b]
theorem lines_spec {X : List Pt} (C : Cw X) {S : List L3} (hS : gSorted [.list ((linesL X).map dL3)] = .ok ⟨.list (S.map dL3), true⟩) : m_lines_of [.list (X.map dP)] = .ok ⟨.list (S.map dL3), true⟩ ∧ (linesL X).length ≤ 200 := by
  have n := C.n
  have h := forL_foldI (g := gTp 2 (gsCons (gNm 2) (gsCons (gNm 3) gsNil))) (dead := [2, 3, 4]) (body := b_lines_of_2) (fun k : Nat => PyData.tuple [.int (k : Int), dP (nth X k)]) (fun ks : List L3 => [.fz (.list (X.map dP)), .ob (.dkt (ks.map kL)), .no, .no, .no]) (inn X) (List.range X.length)
    (fun i s => s.length ≤ 12 * i ∧ i ≤ 12) [] ⟨by simp, by omega⟩ fun i s k hk ⟨h1, h2⟩ => by
      have kl : k < X.length := List.mem_range.mp (List.mem_of_getElem? hk)
      have il : i < X.length := by have := (List.getElem?_eq_some_iff.mp hk).1; rwa [List.length_range] at this
      obtain ⟨f, g⟩ := inner_spec C kl s (by omega) .no
      refine ⟨?_, by omega, by omega⟩
      have cut : cutD (X.map dP) none (some (k : Int)) = (List.range k).map fun j => dP (nth X j) := by
        rw [cut_none (by omega), Int.toNat_natCast, take_nth (by omega)]
      generalize (List.range k).map (fun j => dP (nth X j)) = RR at *
      generalize X.map dP = XX at *
      simp [b_lines_of_2, cut, f]
  have ll : (linesL X).length ≤ 144 := by
    have := h.2.1
    rw [List.length_range] at this
    have e : (linesL X).length = ((List.range X.length).foldl (inn X) []).length := rfl
    omega
  have h1 := h.1
  rw [← enum_nth] at h1
  have e : (linesL X).map kL = ((List.range X.length).foldl (inn X) []).map kL := rfl
  rw [← e] at h1
  have et : ((linesL X).map kL).map tupD = (linesL X).map dL3 := by rw [List.map_map]; rfl
  have lk : ((linesL X).map kL).length ≤ 1000 := by rw [List.length_map]; omega
  rw [← et] at hS
  refine ⟨?_, by omega⟩
  simp only [List.map_nil] at h1
  generalize (linesL X).map kL = KK at *
  generalize X.map dP = XX at *
  simp [m_lines_of, b_lines_of, h1, lk, hS]
end G

/-! ### the law's lines; sides -/
namespace G
open PySem PySem.Spec L2 PV
set_option autoImplicit false
set_option linter.all false
theorem nin_L {ks : List L3} (hl : ks.length < 1000000) (l : L3) : gNotIn (dL3 l) (.list (ks.map dL3)) = .ok (.bool (!decide (l ∈ ks))) := by
  have h := gNotIn_maps (f := dL3) (n := 2) dL3_eqv dL3_nice (by decide) hl l
  rw [h]
  by_cases c : l ∈ ks <;> simp [c]
theorem linner_spec {X : List Pt} (C : Cw X) {k : Nat} (hk : k < X.length) (ks : List L3) (hl : ks.length ≤ 500) :
    forL (gNm 3) [3] b__law_lines_1 (rangeD 0 k) [.fz (.list (X.map dP)), .own (ks.map dL3), .fz (.int (k : Int)), .no] =
      .next [.fz (.list (X.map dP)), .own ((inn X ks k).map dL3), .fz (.int (k : Int)), .no] ∧ (inn X ks k).length ≤ ks.length + k := by
  have n := C.n
  have h := forL_foldI (g := gNm 3) (dead := [3]) (body := b__law_lines_1) (fun j : Nat => PyData.int (0 + (j : Int))) (fun ks : List L3 => [.fz (.list (X.map dP)), .own (ks.map dL3), .fz (.int (k : Int)), .no]) (fun ks j => stL (nth X k) ks (nth X j)) (List.range k)
    (fun i s => s.length ≤ ks.length + i ∧ i ≤ k) ks ⟨by omega, by omega⟩ fun i s j hj ⟨h1, h2⟩ => by
      have jk : j < k := List.mem_range.mp (List.mem_of_getElem? hj)
      have ik : i < k := by have := (List.getElem?_eq_some_iff.mp hj).1; rwa [List.length_range] at this
      have ne := dP_ne (nth X k) (nth X j)
      have sl := stL_len (nth X k) s (nth X j)
      have atk := at_nat X k hk
      have atj := at_nat X j (by omega)
      refine ⟨?_, by omega, by omega⟩
      unfold stL
      by_cases c : nth X k = nth X j
      · rw [decide_eq_true c] at ne
        rw [if_pos c]
        generalize X.map dP = XX at *
        generalize s.map dL3 = SS
        simp [b__law_lines_1, atk, atj, ne]
      · rw [decide_eq_false c] at ne
        rw [if_neg c]
        have t : m__law_line [dP (nth X k), dP (nth X j)] = .ok ⟨dL3 (lineP (nth X k) (nth X j)), false⟩ := lline_spec (C.b _ (nth_mem hk)) (C.b _ (nth_mem (by omega))) c
        have ni := nin_L (ks := s) (by omega) (lineP (nth X k) (nth X j))
        have ls : (s.map dL3).length < 1000000 := by rw [List.length_map]; omega
        unfold addL
        by_cases c2 : lineP (nth X k) (nth X j) ∈ s
        · rw [if_pos c2]
          rw [decide_eq_true c2] at ni
          generalize X.map dP = XX at *
          generalize s.map dL3 = SS at *
          generalize dL3 (lineP (nth X k) (nth X j)) = LL at *
          simp [b__law_lines_1, atk, atj, ne, t, ni]
        · rw [if_neg c2, List.map_append, List.map_singleton]
          rw [decide_eq_false c2] at ni
          generalize X.map dP = XX at *
          generalize s.map dL3 = SS at *
          generalize dL3 (lineP (nth X k) (nth X j)) = LL at *
          simp [b__law_lines_1, atk, atj, ne, t, ni, ls]
  have lr : (List.range k).length = k := List.length_range
  rw [lr] at h
  exact ⟨h.1, h.2.1⟩
theorem llines_spec {X : List Pt} (C : Cw X) {S : List L3} (hS : gSorted [.list ((linesL X).map dL3)] = .ok ⟨.list (S.map dL3), true⟩) : m__law_lines [.list (X.map dP)] = .ok ⟨.list (S.map dL3), true⟩ := by
  have n := C.n
  have h := forL_foldI (g := gNm 2) (dead := [2, 3]) (body := b__law_lines_2) (fun k : Nat => PyData.int (0 + (k : Int))) (fun ks : List L3 => [.fz (.list (X.map dP)), .own (ks.map dL3), .no, .no]) (inn X) (List.range X.length)
    (fun i s => s.length ≤ 12 * i ∧ i ≤ 12) [] ⟨by simp, by omega⟩ fun i s k hk ⟨h1, h2⟩ => by
      have kl : k < X.length := List.mem_range.mp (List.mem_of_getElem? hk)
      have il : i < X.length := by have := (List.getElem?_eq_some_iff.mp hk).1; rwa [List.length_range] at this
      obtain ⟨f, g⟩ := linner_spec C kl s (by omega)
      refine ⟨?_, by omega, by omega⟩
      have sk : smallI (k : Int) = true := smallI_nat (by omega)
      generalize X.map dP = XX at *
      simp [b__law_lines_2, sk, f]
  have h1 : forL (gNm 2) [2, 3] b__law_lines_2 (rangeD 0 X.length) [.fz (.list (X.map dP)), .own [], .no, .no] = .next [.fz (.list (X.map dP)), .own ((linesL X).map dL3), .no, .no] := h.1
  have s1 : smallI (X.length : Int) = true := smallI_nat (by omega)
  have lX : (X.map dP).length = X.length := List.length_map _
  generalize (linesL X).map dL3 = KK at *
  generalize X.map dP = XX at *
  simp [m__law_lines, b__law_lines, lX, s1, h1, hS]
/-! sides -/
def val (l : L3) (p : Pt) : Int := l.1 * p.1 + l.2.1 * p.2
def lessN (l : L3) (X : List Pt) : Nat := (X.filter fun p => decide (val l p < l.2.2)).length
def sameN (l : L3) (X : List Pt) : Nat := (X.filter fun p => decide (val l p = l.2.2)).length
def moreI (l : L3) (X : List Pt) : Int := (X.length : Int) - lessN l X - sameN l X
def halfB (l : L3) (X : List Pt) : Bool := decide (2 * (lessN l X : Int) ≤ X.length) && decide (2 * moreI l X ≤ X.length)
theorem sides_spec {X : List Pt} (C : Cw X) (l : L3) : m_sides [dL3 l, .list (X.map dP)] = .ok ⟨.tuple [.int (lessN l X : Nat), .int (sameN l X : Nat), .int (moreI l X)], false⟩ := by
  have n := C.n
  have k1 : ∀ p ∈ X, mulOk l.1 p.1 = true := fun p hp => mulOk_sm _ (C.b p hp).sm.1
  have k2 : ∀ p ∈ X, mulOk l.2.1 p.2 = true := fun p hp => mulOk_sm _ (C.b p hp).sm.2
  have lX : X.length < 1000000 := by omega
  have ev : (X.map fun p => PyData.int (l.1 * p.1 + l.2.1 * p.2)) = (X.map (val l)).map PyData.int := by rw [List.map_map]; rfl
  have fl : ((X.map (val l)).filter fun z => decide (z < l.2.2)).length = lessN l X := by
    unfold lessN
    rw [List.filter_map, List.length_map]; rfl
  have fl2 : ((X.map (val l)).filter fun z => decide (z < l.2.2)).length < 1000000 := Nat.lt_of_le_of_lt (List.length_filter_le _ _) (by rw [List.length_map]; omega)
  have ct : (X.map (val l)).count l.2.2 = sameN l X := by
    unfold sameN
    rw [List.count_eq_countP, List.countP_map, List.countP_eq_length_filter]
    congr 1
  have lv : (X.map (val l)).length = X.length := List.length_map _
  have ln : lessN l X < 1000000 := Nat.lt_of_le_of_lt (List.length_filter_le _ _) lX
  unfold moreI
  simp +contextual [-List.map_map, m_sides, b_sides, dL3_ap, dP_ap, k1, k2, lX, ev, fl, fl2, ct, lv, ln]
theorem value_spec {l : L3} {p : Pt} (hp : Bp p) : m__law_value [dL3 l, dP p] = .ok ⟨.int (val l p), false⟩ := by
  have k1 := fun z => mulOk_sm z hp.sm.1
  have k2 := fun z => mulOk_sm z hp.sm.2
  simp [m__law_value, b__law_value, dL3_ap, dP_ap, k1, k2, val]
theorem lsides_spec {X : List Pt} (C : Cw X) (l : L3) : m__law_sides [dL3 l, .list (X.map dP)] = .ok ⟨.tuple [.int (lessN l X : Nat), .int (sameN l X : Nat), .int (moreI l X)], false⟩ := by
  have n := C.n
  have v : ∀ p ∈ X, m__law_value [.tuple [.int l.1, .int l.2.1, .int l.2.2], dP p] = .ok ⟨.int (val l p), false⟩ := fun p hp => value_spec (l := l) (C.b p hp)
  have lX : X.length < 1000000 := by omega
  have fl : ∀ q : Pt → Bool, (X.filter q).length < 1000000 := fun q => Nat.lt_of_le_of_lt (List.length_filter_le _ _) lX
  have e1 : (X.filter fun p => decide (val l p < l.2.2)).length = lessN l X := rfl
  have e2 : (X.filter fun p => decide (val l p = l.2.2)).length = sameN l X := rfl
  have ln : lessN l X < 1000000 := fl _
  have sn : sameN l X < 1000000 := fl _
  unfold moreI
  simp +contextual [m__law_sides, b__law_sides, dL3_ap, v, lX, fl, e1, e2, ln, sn]
theorem halves_spec {X : List Pt} (C : Cw X) (l : L3) : m_halves [dL3 l, .list (X.map dP)] = .ok ⟨.bool (halfB l X), false⟩ := by
  have s := sides_spec C l
  have lX : (X.map dP).length = X.length := List.length_map _
  have k2 : ∀ z : Int, mulOk 2 z = true := fun z => mulOk_small' _ _ (by decide)
  have e : halfB l X = decide (2 * max (lessN l X : Int) (moreI l X) ≤ X.length) := by
    unfold halfB
    rw [Bool.eq_iff_iff, Bool.and_eq_true, decide_eq_true_eq, decide_eq_true_eq, decide_eq_true_eq]
    omega
  rw [e]
  generalize X.map dP = XX at *
  generalize dL3 l = LL at *
  simp [m_halves, b_halves, s, k2, lX]
theorem lhalves_spec {X : List Pt} (C : Cw X) (l : L3) : m__law_halves [dL3 l, .list (X.map dP)] = .ok ⟨.bool (halfB l X), false⟩ := by
  have s := lsides_spec C l
  have lX : (X.map dP).length = X.length := List.length_map _
  have k2 : ∀ z : Int, mulOk 2 z = true := fun z => mulOk_small' _ _ (by decide)
  unfold halfB
  generalize X.map dP = XX at *
  generalize dL3 l = LL at *
  by_cases c : 2 * (lessN l X : Int) ≤ X.length
  · simp [m__law_halves, b__law_halves, s, k2, lX, c]
  · simp [m__law_halves, b__law_halves, s, k2, lX, c]
theorem halving_spec {X Y : List Pt} (C : Cw X) (E : Cw Y) (hn : X.length + Y.length ≤ 12) {S : List L3} (hl : S.length < 1000000) (hS : m_lines_of [.list ((X ++ Y).map dP)] = .ok ⟨.list (S.map dL3), true⟩) :
    m_all_halving [.list (X.map dP), .list (Y.map dP)] = .ok ⟨.list ((S.filter fun l => halfB l X && halfB l Y).map dL3), true⟩ := by
  have a : gAdd (.list (X.map dP)) (.list (Y.map dP)) = .ok ⟨.list ((X ++ Y).map dP), true⟩ := by
    rw [List.map_append]
    simp only [gAdd]
    rw [if_pos (by rw [List.length_map, List.length_map]; omega)]
  have h1 := fun l => halves_spec C l
  have h2 := fun l => halves_spec E l
  have fl : (S.filter fun l => halfB l X && halfB l Y).length < 1000000 := Nat.lt_of_le_of_lt (List.length_filter_le _ _) hl
  generalize (X ++ Y).map dP = XY at *
  generalize X.map dP = XX at *
  generalize Y.map dP = YY at *
  have ft : ∀ l : L3, (if halfB l X = true then (.ok (halfB l Y) : Res Bool) else .ok false) = .ok (halfB l X && halfB l Y) := fun l => by cases halfB l X <;> rfl
  simp +contextual [m_all_halving, b_all_halving, a, hS, h1, h2, ft, fl]
/-- a line that halves an odd number of stones goes through one of them -/
theorem odd_half {X : List Pt} {l : L3} (h : halfB l X = true) (ho : (X.length : Int).fmod 2 = 1) (h0 : sameN l X = 0) : False := by
  unfold halfB moreI at h
  rw [Bool.and_eq_true, decide_eq_true_eq, decide_eq_true_eq] at h
  rw [Int.fmod_eq_emod_of_nonneg _ (by decide)] at ho
  omega
end G

/-! ### the law's turns -/
namespace G
open PySem PySem.Spec L2 PV
set_option autoImplicit false
set_option linter.all false
theorem dLs_nice {S : List L3} (h : S.length < 1000000) : Nice 3 (.list (S.map dL3)) := Nice.map h fun l _ => dL3_nice l
theorem dLs_same {S : List L3} (h : S.length < 1000000) : m__law_same 12 [.list (S.map dL3), .list (S.map dL3)] = .ok ⟨.bool true, false⟩ := same_refl 12 _ ((dLs_nice h).mono (by decide))
theorem dL_same (l : L3) : m__law_same 12 [dL3 l, dL3 l] = .ok ⟨.bool true, false⟩ := same_refl 12 _ ((dL3_nice l).mono (by decide))
theorem bool_same (b : Bool) : m__law_same 12 [.bool b, .bool b] = .ok ⟨.bool true, false⟩ := same_refl 12 _ trivial
theorem three_same (a b c : Int) : m__law_same 12 [.tuple [.int a, .int b, .int c], .tuple [.int a, .int b, .int c]] = .ok ⟨.bool true, false⟩ := dL_same (a, b, c)
theorem cw_app {X Y : List Pt} (C : Cw X) (E : Cw Y) (hn : X.length + Y.length ≤ 12) : Cw (X ++ Y) := ⟨by rw [List.length_append]; exact hn, fun p hp => by
  rcases List.mem_append.mp hp with hp | hp
  · exact C.b p hp
  · exact E.b p hp⟩
theorem app_spec {X Y : List Pt} (hn : X.length + Y.length ≤ 12) : gAdd (.list (X.map dP)) (.list (Y.map dP)) = .ok ⟨.list ((X ++ Y).map dP), true⟩ := by
  rw [List.map_append]
  simp only [gAdd]
  rw [if_pos (by rw [List.length_map, List.length_map]; omega)]
theorem turn1 {X Y : List Pt} (C : Cw X) (E : Cw Y) (hn : X.length + Y.length ≤ 12) {S : List L3} (hl : S.length ≤ 200) (hS : m_lines_of [.list ((X ++ Y).map dP)] = .ok ⟨.list (S.map dL3), true⟩) (d : D) (x1 x4 : Sl) :
    turn (gNm 6) [0, 6, 7, 8, 9, 10, 11, 12, 13] b_law_1 d [.no, x1, .fz (.list (X.map dP)), .fz (.list (Y.map dP)), x4, .own (S.map dL3), .no, .no, .no, .no, .no, .no, .no, .no] =
      .next [.no, x1, .fz (.list (X.map dP)), .fz (.list (Y.map dP)), x4, .own (S.map dL3), .no, .no, .no, .no, .no, .no, .no, .no] := by
  have a := app_spec hn
  have hv := halving_spec C E hn (by omega) hS
  have s1 := dLs_same (S := S) (by omega)
  have lF : (S.filter fun l => halfB l X && halfB l Y).length ≤ S.length := List.length_filter_le _ _
  have s2 := dLs_same (S := S.filter fun l => halfB l X && halfB l Y) (by omega)
  have h1 := fun l => lhalves_spec C l
  have h2 := fun l => lhalves_spec E l
  have ft : ∀ l : L3, (if halfB l X = true then (.ok (halfB l Y) : Res Bool) else .ok false) = .ok (halfB l X && halfB l Y) := fun l => by cases halfB l X <;> rfl
  have l1 : (S.filter fun l => halfB l X && halfB l Y).length < 1000000 := by omega
  have l2 : ((S.filter fun l => halfB l X && halfB l Y).map dL3).length < 1000000 := by rw [List.length_map]; omega
  have l3 : (S.map dL3).length < 1000000 := by rw [List.length_map]; omega
  generalize (X ++ Y).map dP = XY at *
  generalize X.map dP = XX at *
  generalize Y.map dP = YY at *
  simp +contextual [b_law_1, a, hS, hv, s1, h1, h2, ft, s2, l1]
  omega
theorem line_small {p q : Pt} (hp : Bp p) (hq : Bp q) (ne : p ≠ q) : (lineP p q).2.1.natAbs < 2 ^ 190 ∧ (lineP p q).2.2.natAbs < 2 ^ 190 := by
  obtain ⟨nz, h1, h2, _⟩ := line_parts ne
  have e : (lineP p q).2.2 = (lineP p q).1 * p.1 + (lineP p q).2.1 * p.2 := rfl
  unfold Bp at hp hq
  have b1 : (lineP p q).1.natAbs ≤ 4000 := by
    have := congrArg Int.natAbs h1
    rw [Int.natAbs_mul] at this
    have s : 1 ≤ (sgn p q).natAbs := by omega
    have : 1 * (lineP p q).1.natAbs ≤ (sgn p q).natAbs * (lineP p q).1.natAbs := Nat.mul_le_mul_right _ s
    omega
  have b2 : (lineP p q).2.1.natAbs ≤ 4000 := by
    have := congrArg Int.natAbs h2
    rw [Int.natAbs_mul] at this
    have s : 1 ≤ (sgn p q).natAbs := by omega
    have : 1 * (lineP p q).2.1.natAbs ≤ (sgn p q).natAbs * (lineP p q).2.1.natAbs := Nat.mul_le_mul_right _ s
    omega
  have m1 : ((lineP p q).1 * p.1).natAbs ≤ 4000 * 2000 := by rw [Int.natAbs_mul]; exact Nat.mul_le_mul b1 (by omega)
  have m2 : ((lineP p q).2.1 * p.2).natAbs ≤ 4000 * 2000 := by rw [Int.natAbs_mul]; exact Nat.mul_le_mul b2 (by omega)
  rw [e]
  omega
theorem turn2 {p q : Pt} (hp : Bp p) (hq : Bp q) (x1 x2 x3 x4 x5 : Sl) :
    turn (gNm 12) [0, 6, 8, 9, 10, 11, 12, 13] b_law_2 (dP q) [.no, x1, x2, x3, x4, x5, .no, .fz (dP p), .no, .no, .no, .no, .no, .no] = .next [.no, x1, x2, x3, x4, x5, .no, .fz (dP p), .no, .no, .no, .no, .no, .no] := by
  have ne := dP_ne p q
  by_cases c : p = q
  · rw [decide_eq_true c] at ne
    generalize dP p = PP at *
    generalize dP q = QQ at *
    simp [b_law_2, ne]
  · rw [decide_eq_false c] at ne
    have t : m_line_through [dP p, dP q] = .ok ⟨dL3 (lineP p q), false⟩ := through_spec hp hq c
    have t2 : m__law_line [dP p, dP q] = .ok ⟨dL3 (lineP p q), false⟩ := lline_spec hp hq c
    have s := dL_same (lineP p q)
    have v1 := value_spec (l := lineP p q) hp
    have v2 := value_spec (l := lineP p q) hq
    have e1 : val (lineP p q) p = (lineP p q).2.2 := rfl
    have e2 : val (lineP p q) q = (lineP p q).2.2 := line_q c
    rw [e1] at v1
    rw [e2] at v2
    obtain ⟨b1, b2⟩ := line_small hp hq c
    have g1 := lgcd_spec (lineP p q).1 (lineP p q).2.1 b1
    rw [line_gcd c] at g1
    have g2 := lgcd_spec 1 (lineP p q).2.2 b2
    have g3 : Int.gcd 1 (lineP p q).2.2 = 1 := by simp
    rw [g3] at g2
    have o : ((1 : Nat) : Int) = 1 := rfl
    rw [o] at g1 g2
    rw [dL3_ap] at t t2 s v1 v2
    generalize dP p = PP at *
    generalize dP q = QQ at *
    simp [b_law_2, ne, t, t2, s, g1, g2, v1, v2, slOf]
theorem turn3 {X Y : List Pt} (C : Cw X) (E : Cw Y) {p : Pt} (hp : Bp p) (x1 x2 x4 x5 : Sl) :
    turn (gNm 7) [0, 6, 7, 8, 9, 10, 11, 12, 13] b_law_3 (dP p) [.no, x1, x2, .fz (.list (Y.map dP)), x4, x5, .no, .no, .no, .no, .no, .no, .no, .no] = .next [.no, x1, x2, .fz (.list (Y.map dP)), x4, x5, .no, .no, .no, .no, .no, .no, .no, .no] := by
  have l := forL_same (g := gNm 12) (dead := [0, 6, 8, 9, 10, 11, 12, 13]) (body := b_law_2) (ds := Y.map dP) (env := [.no, x1, x2, .fz (.list (Y.map dP)), x4, x5, .no, .fz (dP p), .no, .no, .no, .no, .no, .no]) fun d hd => by
    obtain ⟨q, hq, rfl⟩ := List.mem_map.mp hd
    exact turn2 hp (E.b q hq) _ _ _ _ _
  generalize dP p = PP at *
  generalize Y.map dP = YY at *
  simp [-forL_cons', b_law_3, l]
theorem turn4 {X : List Pt} (C : Cw X) (l : L3) (x2 x3 x4 : Sl) :
    turn (gNm 13) [0, 1, 5, 6, 7, 8, 10, 11, 12, 13] b_law_4 (.list (X.map dP)) [.no, .no, x2, x3, x4, .no, .no, .no, .no, .fz (dL3 l), .no, .no, .no, .no] = .next [.no, .no, x2, x3, x4, .no, .no, .no, .no, .fz (dL3 l), .no, .no, .no, .no] := by
  have s1 := sides_spec C l
  have s2 := lsides_spec C l
  have h1 := halves_spec C l
  have h2 := lhalves_spec C l
  have e1 := three_same (lessN l X : Nat) (sameN l X : Nat) (moreI l X)
  have e2 := bool_same (halfB l X)
  have lX : (X.map dP).length = X.length := List.length_map _
  have m2 := modOk_pos (X.length : Int) 2 (by decide)
  have odd := @odd_half X l
  generalize X.map dP = XX at *
  generalize dL3 l = LL at *
  cases hh : halfB l X with
  | false =>
    rw [hh] at h1 h2 e2
    simp [b_law_4, s1, s2, h1, h2, e1, e2]
  | true =>
    rw [hh] at h1 h2 e2
    by_cases c : (X.length : Int).fmod 2 = 1
    · have c2 : ¬ sameN l X = 0 := fun z => odd hh c z
      simp [b_law_4, s1, s2, h1, h2, e1, e2, lX, m2, c, c2]
    · simp [b_law_4, s1, s2, h1, h2, e1, e2, lX, m2, c]
theorem turn5 {X Y : List Pt} (C : Cw X) (E : Cw Y) (l : L3) (x4 : Sl) :
    turn (gNm 9) [0, 1, 5, 6, 7, 8, 9, 10, 11, 12, 13] b_law_5 (dL3 l) [.no, .no, .fz (.list (X.map dP)), .fz (.list (Y.map dP)), x4, .no, .no, .no, .no, .no, .no, .no, .no, .no] =
      .next [.no, .no, .fz (.list (X.map dP)), .fz (.list (Y.map dP)), x4, .no, .no, .no, .no, .no, .no, .no, .no, .no] := by
  have lp := forL_same (g := gNm 13) (dead := [0, 1, 5, 6, 7, 8, 10, 11, 12, 13]) (body := b_law_4) (ds := [.list (X.map dP), .list (Y.map dP)]) (env := [.no, .no, .fz (.list (X.map dP)), .fz (.list (Y.map dP)), x4, .no, .no, .no, .no, .fz (dL3 l), .no, .no, .no, .no]) fun d hd => by
    simp only [List.mem_cons, List.not_mem_nil, or_false] at hd
    rcases hd with rfl | rfl
    · exact turn4 C l _ _ _
    · exact turn4 E l _ _ _
  generalize X.map dP = XX at *
  generalize Y.map dP = YY at *
  generalize dL3 l = LL at *
  simp [-forL_cons', b_law_5, lp]
end G

namespace G
open PySem PySem.Spec L2 PV
set_option autoImplicit false
set_option linter.all false
def bump (l : L3) : L3 := (l.1, l.2.1, l.2.2 + 1)
theorem tail8 {X Y : List Pt} (C : Cw X) (E : Cw Y) {S DR : List L3} (hl : S.length ≤ 200) (hd : DR.length = 4) (x0 x1 : Sl) :
    b_law_t8 [x0, x1, .fz (.list (X.map dP)), .fz (.list (Y.map dP)), .own [.list (X.map dP), .list (Y.map dP)], .own (S.map dL3), .no, .no, .own (DR.map dL3), .no, .no, .no, .no, .no] = .ret ⟨.bool true, false⟩ := by
  have nx := C.n
  have ny := E.n
  have lp := forL_same (g := gNm 9) (dead := [0, 1, 5, 6, 7, 8, 9, 10, 11, 12, 13]) (body := b_law_5) (ds := (S.take 12 ++ (S.take 4).map bump ++ DR).map dL3) (env := [.no, .no, .fz (.list (X.map dP)), .fz (.list (Y.map dP)), .own [.list (X.map dP), .list (Y.map dP)], .no, .no, .no, .no, .no, .no, .no, .no, .no]) fun d hd => by
    obtain ⟨l, _, rfl⟩ := List.mem_map.mp hd
    exact turn5 C E l _
  have c12 : cutD (S.map dL3) (some 0) (some 12) = (S.take 12).map dL3 := by rw [cutm_to (by decide)]; rfl
  have c4 : cutD (S.map dL3) (some 0) (some 4) = (S.take 4).map dL3 := by rw [cutm_to (by decide)]; rfl
  have l12 : (S.take 12).length ≤ 12 := by rw [List.length_take]; omega
  have l4 : (S.take 4).length ≤ 4 := by rw [List.length_take]; omega
  have l4' : (S.take 4).length < 1000000 := by omega
  have eb : (S.take 4).map (fun l => PyData.tuple [.int l.1, .int l.2.1, .int (l.2.2 + 1)]) = ((S.take 4).map bump).map dL3 := by rw [List.map_map]; rfl
  have a1 : gAdd (.list ((S.take 12).map dL3)) (.list (((S.take 4).map bump).map dL3)) = .ok ⟨.list ((S.take 12 ++ (S.take 4).map bump).map dL3), true⟩ := by
    rw [List.map_append (l₂ := (S.take 4).map bump)]
    simp only [gAdd]
    rw [if_pos (by rw [List.length_map, List.length_map, List.length_map]; omega)]
  have a2 : gAdd (.list ((S.take 12 ++ (S.take 4).map bump).map dL3)) (.list (DR.map dL3)) = .ok ⟨.list ((S.take 12 ++ (S.take 4).map bump ++ DR).map dL3), true⟩ := by
    rw [List.map_append (l₂ := DR)]
    simp only [gAdd]
    rw [if_pos (by rw [List.length_map, List.length_map, List.length_append, List.length_map]; omega)]
  have lB : (((S.take 4).map bump).map dL3).length < 1000000 := by rw [List.length_map, List.length_map]; omega
  have eq : gEq (.list [.list (X.map dP), .list (Y.map dP)]) (.list [.list (X.map dP), .list (Y.map dP)]) = .ok (.bool true) := by
    have nn : Nice 4 (.list [.list (X.map dP), .list (Y.map dP)]) := by
      refine ⟨(show (2 : Nat) < 1000000 from by decide), fun d hd => ?_⟩
      simp only [List.mem_cons, List.not_mem_nil, or_false] at hd
      rcases hd with rfl | rfl
      · exact dPs_nice (by omega)
      · exact dPs_nice (by omega)
    rw [nn.eq nn]
    simp [eqvAll_maps dP_eqv]
  generalize hXX : X.map dP = XX at *
  generalize hYY : Y.map dP = YY at *
  generalize (S.take 12).map dL3 = S12 at *
  generalize (S.take 12 ++ (S.take 4).map bump).map dL3 = S16 at *
  generalize (S.take 12 ++ (S.take 4).map bump ++ DR).map dL3 = S20 at *
  generalize DR.map dL3 = DD at *
  generalize hT : S.take 4 = T4 at *
  generalize hB : (T4.map bump).map dL3 = B4 at *
  generalize S.map dL3 = SS at *
  simp +contextual [-forL_cons', -List.map_map, b_law_t8, b_law_t9, c12, c4, dL3_ap, l4', eb, a1, a2, lp, eq, lB]
theorem main (ns : List Int) (h : ns.length ≤ 63) : ∃ r, m_law [.list (ns.map PyData.int)] = .ok r ∧ r.d = .bool true := by
  obtain ⟨X, x0, x1, xb, hx⟩ := crowd_spec ns 0 1 6 (by decide) (by decide) (by decide) (by decide)
  obtain ⟨Y, y0, y1, yb, hy⟩ := crowd_spec ns 1 1 6 (by decide) (by decide) (by decide) (by decide)
  have hx' : m__law_crowd [.list (ns.map PyData.int), .int 0, .int 1, .int 6] = .ok ⟨.list (X.map dP), true⟩ := hx
  have hy' : m__law_crowd [.list (ns.map PyData.int), .int 1, .int 1, .int 6] = .ok ⟨.list (Y.map dP), true⟩ := hy
  obtain ⟨c, hc⟩ := cell_spec ns 2 (by omega)
  have hc' : m__law_cell [.list (ns.map PyData.int), .int 2] = .ok ⟨.int c, false⟩ := hc
  obtain ⟨ds, hl, hat, hbd, _, hd⟩ := numbers_dg c 5040 8 (by decide) (by decide) (by decide)
  have hd' : m__law_numbers [.int c, .int 8, .int 5040] = .ok ⟨.list (ds.map PyData.int), true⟩ := hd
  have C : Cw X := ⟨by omega, xb⟩
  have E : Cw Y := ⟨by omega, yb⟩
  have hn : X.length + Y.length ≤ 12 := by omega
  have CE := cw_app C E hn
  obtain ⟨S, _, lS, hS⟩ := sorted_L (linesL (X ++ Y))
  obtain ⟨ls, ll⟩ := lines_spec CE hS
  have ll2 := llines_spec CE hS
  have a := app_spec (X := X) (Y := Y) hn
  have l1 := forL_same (g := gNm 6) (dead := [0, 6, 7, 8, 9, 10, 11, 12, 13]) (body := b_law_1) (ds := rangeD 0 2) fun d _ => turn1 C E hn (by omega) ls d (.own (ds.map PyData.int)) (.own [.list (X.map dP), .list (Y.map dP)])
  have l3 := forL_same (g := gNm 7) (dead := [0, 6, 7, 8, 9, 10, 11, 12, 13]) (body := b_law_3) (ds := X.map dP) (env := [.no, .own (ds.map PyData.int), .fz (.list (X.map dP)), .fz (.list (Y.map dP)), .own [.list (X.map dP), .list (Y.map dP)], .own (S.map dL3), .no, .no, .no, .no, .no, .no, .no, .no]) fun d hd => by
    obtain ⟨p, hp, rfl⟩ := List.mem_map.mp hd
    exact turn3 C E (C.b p hp) _ _ _ _
  obtain ⟨DR, hDR⟩ : ∃ DR : List L3, DR = [(1, (dg ds 0).fmod 9 - 4, (dg ds 1).fmod 9 - 4), (0, 1, (dg ds 2).fmod 9 - 4), (1, 0, (dg ds 3).fmod 2001 - 1000), (3, 1 - 2 * (dg ds 4).fmod 2, (dg ds 5).fmod 40)] := ⟨_, rfl⟩
  have tl := tail8 C E (S := S) (DR := DR) (by omega) (by rw [hDR]; rfl) .no (.own (ds.map PyData.int))
  have eD : DR.map dL3 = [.tuple [.int 1, .int ((dg ds 0).fmod 9 - 4), .int ((dg ds 1).fmod 9 - 4)], .tuple [.int 0, .int 1, .int ((dg ds 2).fmod 9 - 4)], .tuple [.int 1, .int 0, .int ((dg ds 3).fmod 2001 - 1000)], .tuple [.int 3, .int (1 - 2 * (dg ds 4).fmod 2), .int ((dg ds 5).fmod 40)]] := by rw [hDR]; rfl
  rw [eD] at tl
  have m9 := fun z => modOk_pos z 9 (by decide)
  have m2001 := fun z => modOk_pos z 2001 (by decide)
  have m2 := fun z => modOk_pos z 2 (by decide)
  have m40 := fun z => modOk_pos z 40 (by decide)
  have k2 : ∀ z : Int, mulOk 2 z = true := fun z => mulOk_small' _ _ (by decide)
  have a0 := hat 0 (by decide) (by decide)
  have a1 := hat 1 (by decide) (by decide)
  have a2 := hat 2 (by decide) (by decide)
  have a3 := hat 3 (by decide) (by decide)
  have a4 := hat 4 (by decide) (by decide)
  have a5 := hat 5 (by decide) (by decide)
  have s2 : smallI 2 = true := by decide
  refine ⟨⟨.bool true, false⟩, ?_, rfl⟩
  generalize (X ++ Y).map dP = XY at *
  generalize X.map dP = XX at *
  generalize Y.map dP = YY at *
  generalize S.map dL3 = SS at *
  generalize ds.map PyData.int = DD at *
  simp [-forL_cons', m_law, b_law, b_law_t1, b_law_t2, b_law_t3, b_law_t4, hc', hd', hx', hy', a, ll2]
  simp [-forL_cons', b_law_t5, b_law_t6, b_law_t7, s2, l1, l3, a0, a1, a2, a3, a4, a5, m9, m2001, m2, m40, k2, tl]
end G

open PySem PySem.W PyProof.Rows
set_option maxHeartbeats 0 in
theorem PySem.Challenge.cw_spotincommon_k12_lines_of_stones_and_the_holds : PySem.Challenge.rw_spotincommon_k12_lines_of_stones_and_the.Holds := by
  w_on; o_law; k_head; (case hw => w_witness2)
  k_fill
  refine L2.walk_of (l := PySem.Challenge.rw_spotincommon_k12_lines_of_stones_and_the) (n := 63) (k := 13) (x := "script") (CX := fun _ => L2.CX0) (sp := fun w => PV.spD _ G.m_law) rfl (by decide) rfl ⟨rfl, by decide, by decide⟩ (fun w h Y => PySem.W.kIn_of Y) ?F (fun _ _ a ns hl _ hS => PV.law_sp hS (G.main ns hl)) (fun _ _ _ _ _ h => h)
  case F =>
    intro w mg fa h KX GX hmg
    refine' G.all_mk KX GX hmg ?a_0 ?l_0 ?c_0 ?k_0 ?a_1 ?l_1 ?c_1 ?k_1 ?a_2 ?l_2 ?c_2 ?k_2 ?a_3 ?l_3 ?c_3 ?k_3 ?a_4 ?l_4 ?c_4 ?k_4 ?a_5 ?l_5 ?c_5 ?k_5 ?a_6 ?l_6 ?c_6 ?k_6 ?a_7 ?l_7 ?c_7 ?k_7 ?a_8 ?l_8 ?c_8 ?k_8 ?a_9 ?l_9 ?c_9 ?k_9 ?a_10 ?l_10 ?c_10 ?k_10 ?a_11 ?l_11 ?c_11 ?k_11 ?a_12 ?l_12 ?c_12 ?k_12 ?a_13 ?l_13 ?c_13 ?k_13 ?a_14 ?l_14 ?c_14 ?k_14 ?a_15 ?l_15 ?c_15 ?k_15 ?z_abs ?z_bool ?z_enumerate ?z_int ?z_isinstance ?z_len ?z_list ?z_max ?z_range ?z_sorted ?z_str ?z_tuple ?y_gcd
    (case a_0 => k_is); (case l_0 => k_is); (case c_0 => k_is); (case k_0 => k_is); (case a_1 => k_is); (case l_1 => k_is); (case c_1 => k_is); (case k_1 => k_is); (case a_2 => k_is); (case l_2 => k_is); (case c_2 => k_is); (case k_2 => k_is); (case a_3 => k_is); (case l_3 => k_is); (case c_3 => k_is); (case k_3 => k_is); (case a_4 => k_is); (case l_4 => k_is); (case c_4 => k_is); (case k_4 => k_is); (case a_5 => k_is); (case l_5 => k_is); (case c_5 => k_is); (case k_5 => k_is); (case a_6 => k_is); (case l_6 => k_is); (case c_6 => k_is); (case k_6 => k_is); (case a_7 => k_is); (case l_7 => k_is); (case c_7 => k_is); (case k_7 => k_is); (case a_8 => k_is); (case l_8 => k_is); (case c_8 => k_is); (case k_8 => k_is); (case a_9 => k_is); (case l_9 => k_is); (case c_9 => k_is); (case k_9 => k_is); (case a_10 => k_is); (case l_10 => k_is); (case c_10 => k_is); (case k_10 => k_is); (case a_11 => k_is); (case l_11 => k_is); (case c_11 => k_is); (case k_11 => k_is); (case a_12 => k_is); (case l_12 => k_is); (case c_12 => k_is); (case k_12 => k_is); (case a_13 => k_is); (case l_13 => k_is); (case c_13 => k_is); (case k_13 => k_is); (case a_14 => k_is); (case l_14 => k_is); (case c_14 => k_is); (case k_14 => k_is); (case a_15 => k_is); (case l_15 => k_is); (case c_15 => k_is); (case k_15 => k_is); (case z_abs => k_is); (case z_bool => k_is); (case z_enumerate => k_is); (case z_int => k_is); (case z_isinstance => k_is); (case z_len => k_is); (case z_list => k_is); (case z_max => k_is); (case z_range => k_is); (case z_sorted => k_is); (case z_str => k_is); (case z_tuple => k_is); (case y_gcd => k_is)
