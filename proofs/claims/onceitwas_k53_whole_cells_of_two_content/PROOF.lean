import PyProof.Rows.All
import Wide.All
import OpenK.AllK
import Wide.FinOn
import HandS.ForMost
import HandS.Defaults
import HandS.Exc
import HandS.HeadHook2
import HandS.IsInst
import HandS.Walk
import HandS.TupAny
import HandS.Style
import HandS.RaiseMore
import HandS.Deep
import KE.GoesEnum
import HandS.TupLen
import HandS.Conv
import HandS.DictComp
import PyProof.Rows.TupDisplay
import HandS.TupMul
import KE.SortData
import HandS.TupSets
import HandS.SetBool
import KE.DataAny
import KE.KDictKeyed
import KE.KeyNested
import HandS.TryOnly
import HandS.Head2
import HandS.HeadEnd
import PySem.Challenge.RW_onceitwas_k53_whole_cells_of_two_content
set_option Elab.async false
set_option linter.all false
set_option maxRecDepth 100000
set_option maxHeartbeats 4000000
/-! LayA: a value layer over the hand layer: what a frame's names hold is told as data (PyData), seen through a part M of the tracked heap that nobody changes any more. -/
namespace K5
open PySem PySem.Spec PyProof.Rows L2

/-! ### data held in the unchanging part -/
mutual
/-- data held by things that stand in M themselves -/
inductive Dq (K : PySem.W.Frag) (M : Hp) : V → PyData → Prop
  | non : Dq K M .non .none
  | bl (b : Bool) : Dq K M (.bl b) (.bool b)
  | int (i : Int) : Dq K M (.int i) (.int i)
  | str (x : Str) : Dq K M (.str x) (.str x)
  | lst {a : Addr} {vs : List V} {ds : List PyData} : M a = some (.lst vs) → DqAll K M vs ds → Dq K M (.ref a) (.list ds)
  | tup {a : Addr} {vs : List V} {ds : List PyData} : M a = some (.tup vs) → DqAll K M vs ds → Dq K M (.ref a) (.tuple ds)
inductive DqAll (K : PySem.W.Frag) (M : Hp) : List V → List PyData → Prop
  | nil : DqAll K M [] []
  | cons {v : V} {vs : List V} {d : PyData} {ds : List PyData} : Dq K M v d → DqAll K M vs ds → DqAll K M (v :: vs) (d :: ds)
end
mutual
theorem dq_dp {K : PySem.W.Frag} {M : Hp} : ∀ (d : PyData) (v : V), Dq K M v d → Dp K M v d
  | .none, _, h => by cases h; exact .non
  | .bool b, _, h => by cases h; exact .bl b
  | .int i, _, h => by cases h; exact .int i
  | .str x, _, h => by cases h; exact .str x
  | .list ds, _, h => by
    cases h with
    | lst q r => exact .lst (.of q) (dqs_dps ds _ r)
  | .tuple ds, _, h => by
    cases h with
    | tup q r => exact .tup (.of q) (dqs_dps ds _ r)
  | .dict _, _, h => by cases h
theorem dqs_dps {K : PySem.W.Frag} {M : Hp} : ∀ (ds : List PyData) (vs : List V), DqAll K M vs ds → DpAll K M vs ds
  | [], _, h => by cases h; exact .nil
  | d :: ds, _, h => by
    cases h with
    | cons a b => exact .cons (dq_dp d _ a) (dqs_dps ds _ b)
end
mutual
theorem dp_up {K : PySem.W.Frag} {M N : Hp} (s : Same M N) : ∀ (d : PyData) (v : V), Dq K M v d → Dq K N v d
  | .none, _, h => by cases h; exact .non
  | .bool b, _, h => by cases h; exact .bl b
  | .int i, _, h => by cases h; exact .int i
  | .str x, _, h => by cases h; exact .str x
  | .list ds, _, h => by
    cases h with
    | lst q r => exact .lst (s _ _ q) (dps_up s ds _ r)
  | .tuple ds, _, h => by
    cases h with
    | tup q r => exact .tup (s _ _ q) (dps_up s ds _ r)
  | .dict _, _, h => by cases h
theorem dps_up {K : PySem.W.Frag} {M N : Hp} (s : Same M N) : ∀ (ds : List PyData) (vs : List V), DqAll K M vs ds → DqAll K N vs ds
  | [], _, h => by cases h; exact .nil
  | d :: ds, _, h => by
    cases h with
    | cons a b => exact .cons (dp_up s d _ a) (dps_up s ds _ b)
end
theorem tup_up {K : PySem.W.Frag} {M N : Hp} {a : Addr} {xs : List V} (s : Same M N) (h : SqT K M a xs) : SqT K N a xs := by
  rcases h with (h | ⟨o, h⟩) | h
  · exact .inl (.inl (s _ _ h))
  · exact .inl (.inr ⟨o, s _ _ h⟩)
  · exact .inr h
theorem dps_len {K : PySem.W.Frag} {M : Hp} : ∀ {vs : List V} {ds : List PyData}, DqAll K M vs ds → vs.length = ds.length
  | _, _, .nil => rfl
  | _, _, .cons _ r => congrArg Nat.succ (dps_len r)
theorem dps_at {K : PySem.W.Frag} {M : Hp} : ∀ {vs : List V} {ds : List PyData} {i : Nat} {v : V}, DqAll K M vs ds → vs[i]? = some v → ∃ d, ds[i]? = some d ∧ Dq K M v d
  | _, _, _, _, .nil, e => by simp at e
  | _, _, 0, _, .cons a _, e => by simp at e; subst e; exact ⟨_, rfl, a⟩
  | _, _, i + 1, v, .cons _ r, e => by
    obtain ⟨d, h1, h2⟩ := dps_at (i := i) (v := v) r (by simpa using e)
    exact ⟨d, by simpa using h1, h2⟩
theorem dps_at' {K : PySem.W.Frag} {M : Hp} {vs : List V} {ds : List PyData} {i : Nat} {d : PyData} (h : DqAll K M vs ds) (e : ds[i]? = some d) : ∃ v, vs[i]? = some v ∧ Dq K M v d := by
  have hl := dps_len h
  obtain ⟨hi, _⟩ := List.getElem?_eq_some_iff.mp e
  have e2 : vs[i]? = some (vs[i]'(by omega)) := List.getElem?_eq_getElem (by omega)
  obtain ⟨d', h1, h2⟩ := dps_at h e2
  rw [e] at h1
  cases h1
  exact ⟨_, e2, h2⟩
theorem dps_app {K : PySem.W.Frag} {M : Hp} : ∀ {vs ws : List V} {ds es : List PyData}, DqAll K M vs ds → DqAll K M ws es → DqAll K M (vs ++ ws) (ds ++ es)
  | _, _, _, _, .nil, r => r
  | _, _, _, _, .cons a b, r => .cons a (dps_app b r)

/-- a tuple -/
def tupO : HO → Bool
  | .tup _ => true
  | _ => false

/-- what nobody changes: data, or a house with its five fields -/
inductive Im where
  | dat (d : PyData)
  | hs (z s c a b : PyData)
  | di (kvs : List (Int × PyData))
  | dt (kvs : List (List Int × PyData))
  | lk (o : Obj) (kvs : List (List Int × PyData))
/-- what a name of the frame holds: such a thing; a list, a dict of the frame's own; a value as it stands -/
inductive En where
  | im (x : Im)
  | lst (ds : List PyData)
  | dI (kvs : List (Int × PyData))
  | dT (kvs : List (List Int × PyData))
  | ext (φ : V → Hp → Hp → Prop)
  | raw (v : V)

abbrev DEnv := List (Option En)

structure HsAt (K : PySem.W.Frag) (M : Hp) (v : V) (z s c a b : PyData) (p dx : Addr) (fs : List (Str × V)) (vz vs vc va vb : V) : Prop where
  e : v = .ref p
  at_ : M p = some (.ins (He.ga K "House") dx fs)
  hz : fs.lookup ("sizes" : Str) = some vz ∧ Dq K M vz z
  hs : fs.lookup ("standings" : Str) = some vs ∧ Dq K M vs s
  hc : fs.lookup ("changes" : Str) = some vc ∧ Dq K M vc c
  ha : fs.lookup ("ahead" : Str) = some va ∧ Dq K M va a
  hb : fs.lookup ("behind" : Str) = some vb ∧ Dq K M vb b
  nl : fs.lookup ("__len__" : Str) = none

/-- scalars as values -/
def sV : PyData → V
  | .int i => .int i
  | .bool b => .bl b
  | _ => .non
def isSc : PyData → Bool
  | .int _ => true
  | .bool _ => true
  | .none => true
  | _ => false
theorem dp_sc {K : PySem.W.Frag} {M : Hp} {d : PyData} (h : isSc d = true) : Dq K M (sV d) d := by
  cases d with
  | int i => exact .int i
  | bool b => exact .bl b
  | none => exact .non
  | _ => cases h
theorem sc_dp {K : PySem.W.Frag} {M : Hp} {v : V} {d : PyData} (h : isSc d = true) (r : Dq K M v d) : v = sV d := by
  cases r with
  | non => rfl
  | bl b => rfl
  | int i => rfl
  | _ => cases h
def kvI (kvs : List (Int × PyData)) : List (Key × V) := kvs.map fun p => (Sum.inl p.1, sV p.2)
def kvT (kvs : List (List Int × PyData)) : List (List Key × V) := kvs.map fun p => (p.1.map Sum.inl, sV p.2)

def RepI (K : PySem.W.Frag) (M : Hp) (v : V) : Im → Prop
  | .dat d => Dq K M v d
  | .hs z s c a b => ∃ p dx fs vz vs vc va vb, HsAt K M v z s c a b p dx fs vz vs vc va vb
  | .di kvs => ∃ a, v = .ref a ∧ M a = some (.dK (kvI kvs)) ∧ ∀ p ∈ kvs, isSc p.2 = true
  | .dt kvs => ∃ a, v = .ref a ∧ M a = some (.dT (kvT kvs)) ∧ ∀ p ∈ kvs, isSc p.2 = true
  | .lk o kvs => ∃ a, v = .ref a ∧ M a = some (.frz o (.dT (kvT kvs)))
theorem repI_up {K : PySem.W.Frag} {M N : Hp} (s : Same M N) {v : V} : ∀ {x : Im}, RepI K M v x → RepI K N v x
  | .dat d, h => dp_up s d v h
  | .hs _ _ _ _ _, ⟨p, dx, fs, vz, vs, vc, va, vb, h⟩ => ⟨p, dx, fs, vz, vs, vc, va, vb, h.e, s _ _ h.at_, ⟨h.hz.1, dp_up s _ _ h.hz.2⟩, ⟨h.hs.1, dp_up s _ _ h.hs.2⟩, ⟨h.hc.1, dp_up s _ _ h.hc.2⟩, ⟨h.ha.1, dp_up s _ _ h.ha.2⟩, ⟨h.hb.1, dp_up s _ _ h.hb.2⟩, h.nl⟩
  | .di _, ⟨a, e, h, q⟩ => ⟨a, e, s _ _ h, q⟩
  | .dt _, ⟨a, e, h, q⟩ => ⟨a, e, s _ _ h, q⟩
  | .lk _ _, ⟨a, e, h⟩ => ⟨a, e, s _ _ h⟩

def RepE (K : PySem.W.Frag) (M H : Hp) (v : V) : En → Prop
  | .im x => RepI K M v x
  | .lst ds => ∃ a vs, v = .ref a ∧ M a = none ∧ H a = some (.lst vs) ∧ DqAll K M vs ds
  | .dI kvs => ∃ a, v = .ref a ∧ M a = none ∧ H a = some (.dK (kvI kvs)) ∧ ∀ p ∈ kvs, isSc p.2 = true
  | .dT kvs => ∃ a, v = .ref a ∧ M a = none ∧ H a = some (.dT (kvT kvs)) ∧ ∀ p ∈ kvs, isSc p.2 = true
  | .ext φ => φ v M H
  | .raw u => v = u
def own : En → Bool
  | .lst _ => true
  | .dI _ => true
  | .dT _ => true
  | .ext _ => true
  | _ => false

/-- where a frame began: F all that stood, M the unchanging part; W: what may turn behind its back, V what stays true of it -/
structure Bs where
  F : Hp
  M : Hp
  W : Addr → Prop
  V : Hp → Prop
  loc : ∀ H H', (∀ a o, W a → H a = some o → H' a = some o) → V H → V H'
/-- nothing turns -/
def bs0 (F M : Hp) : Bs := ⟨F, M, fun _ => False, fun _ => True, fun _ _ _ _ => trivial⟩

structure Gr (B : Bs) (M H M' H' : Hp) : Prop where
  mm : Same M M'
  hh : ∀ a o, ¬ B.W a → H a = some o → H' a = some o
  fr : ∀ a o, H a = some o → tupO o = false → M a = none → M' a = none
  mh : Same M' H'
  vol : B.V H'
  th : ∀ a o, H a = some o → ∃ o', H' a = some o' ∧ (tupO o = false → tupO o' = false)
theorem Gr.trans {B : Bs} {M H M1 H1 M2 H2 : Hp} (a : Gr B M H M1 H1) (b : Gr B M1 H1 M2 H2) : Gr B M H M2 H2 where
  mm := a.mm.trans b.mm
  hh := fun c o w h => b.hh c o w (a.hh c o w h)
  fr := fun c o h t n => by
    obtain ⟨o', h', t'⟩ := a.th c o h
    exact b.fr c o' h' (t' t) (a.fr c o h t n)
  mh := b.mh
  vol := b.vol
  th := fun c o h => by
    obtain ⟨o', h', t'⟩ := a.th c o h
    obtain ⟨o2, h2, t2⟩ := b.th c o' h'
    exact ⟨o2, h2, fun z => t2 (t' z)⟩

/-- an own thing told by a reading of one's own stays while its frame's things stay -/
def StayE (e : En) : Prop := match e with
  | .ext φ => ∀ v M H M' H', φ v M H → Same M M' → (∀ a, v = .ref a → ∀ o, H a = some o → H' a = some o ∧ M' a = none) → φ v M' H'
  | _ => True
def RefE (e : En) : Prop := match e with
  | .ext φ => ∀ v M H, φ v M H → ∃ a o, v = .ref a ∧ M a = none ∧ H a = some o ∧ tupO o = false
  | _ => True

structure Ok (K : PySem.W.Frag) (B : Bs) (M H : Hp) (σ : L2.St) (ρ : DEnv) : Prop where
  mm : Same B.M M
  mh : Same M H
  fh : ∀ a o, ¬ B.W a → B.F a = some o → H a = some o
  ft : ∀ a o, B.F a = some o → ∃ o', H a = some o' ∧ (tupO o = false → tupO o' = false)
  fm : ∀ a o, B.F a = some o → tupO o = false → B.M a = none → M a = none
  at_ : ∀ (i : Nat) (e : En), ρ[i]? = some (some e) → ∃ v, σ[i]? = some (some v) ∧ RepE K M H v e
  fresh : ∀ (i : Nat) (e : En) (a : Addr), ρ[i]? = some (some e) → own e = true → σ[i]? = some (some (V.ref a)) → B.F a = none ∧ ¬ B.W a
  sep : ∀ (i j : Nat) (e e' : En), i ≠ j → ρ[i]? = some (some e) → ρ[j]? = some (some e') → own e = true → own e' = true → σ[i]? ≠ σ[j]?
  stay : ∀ (i : Nat) (e : En), ρ[i]? = some (some e) → StayE e ∧ RefE e
  wm : ∀ a, B.W a → M a = none ∧ ∃ o, H a = some o ∧ tupO o = false
  vol : B.V H
  len : ρ.length = σ.length

theorem own_ref {K : PySem.W.Frag} {M H : Hp} {v : V} {e : En} (r : RepE K M H v e) (w : RefE e) (h : own e = true) : ∃ a o, v = .ref a ∧ M a = none ∧ H a = some o ∧ tupO o = false := by
  cases e with
  | im x => cases h
  | raw u => cases h
  | lst ds => obtain ⟨a, vs, e1, n, e2, _⟩ := r; exact ⟨a, _, e1, n, e2, rfl⟩
  | dI kvs => obtain ⟨a, e1, n, e2, _⟩ := r; exact ⟨a, _, e1, n, e2, rfl⟩
  | dT kvs => obtain ⟨a, e1, n, e2, _⟩ := r; exact ⟨a, _, e1, n, e2, rfl⟩
  | ext φ => exact w v M H r
theorem repE_up {K : PySem.W.Frag} {M H M' H' : Hp} {v : V} {e : En} (r : RepE K M H v e) (st : StayE e) (mm : Same M M') (k : ∀ a o, own e = true → v = .ref a → H a = some o → tupO o = false → M a = none → H' a = some o ∧ M' a = none) (w : RefE e) : RepE K M' H' v e := by
  cases e with
  | im x => exact repI_up mm r
  | raw u => exact r
  | lst ds =>
    obtain ⟨a, vs, e1, n, e2, q⟩ := r
    obtain ⟨h1, h2⟩ := k a _ rfl e1 e2 rfl n
    exact ⟨a, vs, e1, h2, h1, dps_up mm ds vs q⟩
  | dI kvs =>
    obtain ⟨a, e1, n, e2, q⟩ := r
    obtain ⟨h1, h2⟩ := k a _ rfl e1 e2 rfl n
    exact ⟨a, e1, h2, h1, q⟩
  | dT kvs =>
    obtain ⟨a, e1, n, e2, q⟩ := r
    obtain ⟨h1, h2⟩ := k a _ rfl e1 e2 rfl n
    exact ⟨a, e1, h2, h1, q⟩
  | ext φ =>
    refine st v M H M' H' r mm fun a e1 o e2 => ?_
    obtain ⟨a', o', e3, n, h3, t⟩ := w v M H r
    rw [e1] at e3
    cases e3
    rw [e2] at h3
    cases h3
    exact k a o rfl e1 e2 t n

section
variable {K : PySem.W.Frag} {B : Bs} {M H M' H' : Hp} {σ : L2.St} {ρ : DEnv}
theorem Ok.gr (k : Ok K B M H σ ρ) (g : Gr B M H M' H') : Ok K B M' H' σ ρ where
  mm := k.mm.trans g.mm
  mh := g.mh
  fh := fun a o w h => g.hh a o w (k.fh a o w h)
  ft := fun a o h => by
    obtain ⟨o', h', t'⟩ := k.ft a o h
    obtain ⟨o2, h2, t2⟩ := g.th a o' h'
    exact ⟨o2, h2, fun z => t2 (t' z)⟩
  fm := fun a o h t n => by
    obtain ⟨o', h', t'⟩ := k.ft a o h
    exact g.fr a o' h' (t' t) (k.fm a o h t n)
  at_ := fun i e h => by
    obtain ⟨v, h1, r⟩ := k.at_ i e h
    obtain ⟨st, w⟩ := k.stay i e h
    refine ⟨v, h1, repE_up r st g.mm (fun a o ho ev h2 t n => ?_) w⟩
    subst ev
    exact ⟨g.hh a o (k.fresh i e a h ho h1).2 h2, g.fr a o h2 t n⟩
  fresh := k.fresh
  sep := k.sep
  stay := k.stay
  wm := fun a w => by
    obtain ⟨n, o, h, t⟩ := k.wm a w
    obtain ⟨o2, h2, t2⟩ := g.th a o h
    exact ⟨g.fr a o h t n, o2, h2, t2 t⟩
  vol := g.vol
  len := k.len
theorem Ok.refl (k : Ok K B M H σ ρ) : Gr B M H M H := ⟨Same.refl M, fun _ _ _ h => h, fun _ _ _ _ n => n, k.mh, k.vol, fun _ o h => ⟨o, h, id⟩⟩
/-- a new thing of the unchanging part -/
theorem Ok.new (k : Ok K B M H σ ρ) {p : Addr} {o : HO} (n : H p = none) : Gr B M H (upd M p o) (upd H p o) where
  mm := fun a u e => by
    rw [upd_ne (ne_of_none (k.mh _ _ e) n)]
    exact e
  hh := fun a u _ e => by
    rw [upd_ne (ne_of_none e n)]
    exact e
  fr := fun a u e _ z => by
    rw [upd_ne (ne_of_none e n)]
    exact z
  mh := fun a u e => by
    by_cases h : a = p
    · subst h
      rw [upd_same] at e ⊢
      exact e
    · rw [upd_ne h] at e ⊢
      exact k.mh a u e
  vol := B.loc H _ (fun a u _ e => by
    rw [upd_ne (ne_of_none e n)]
    exact e) k.vol
  th := fun a u e => ⟨u, by rw [upd_ne (ne_of_none e n)]; exact e, id⟩
/-- a tuple that stands comes into the unchanging part -/
theorem Ok.absorb (k : Ok K B M H σ ρ) {q : Addr} {xs : List V} (h : H q = some (.tup xs)) : Gr B M H (upd M q (.tup xs)) H where
  mm := fun a u e => by
    by_cases z : a = q
    · subst z
      have e2 := k.mh _ _ e
      rw [h] at e2
      cases e2
      exact upd_same
    · rw [upd_ne z]
      exact e
  hh := fun a u _ e => e
  fr := fun a u e t z => by
    rw [upd_ne (fun y => by subst y; rw [h] at e; cases e; cases t)]
    exact z
  mh := fun a u e => by
    by_cases z : a = q
    · subst z
      rw [upd_same] at e
      cases e
      exact h
    · rw [upd_ne z] at e
      exact k.mh a u e
  vol := k.vol
  th := fun a u e => ⟨u, e, id⟩
/-- a new thing that is nobody's yet -/
theorem Ok.tmp (k : Ok K B M H σ ρ) {p : Addr} {o : HO} (n : H p = none) : Gr B M H M (upd H p o) where
  mm := Same.refl M
  hh := fun a u _ e => by
    rw [upd_ne (ne_of_none e n)]
    exact e
  fr := fun a u e _ z => z
  mh := fun a u e => by
    rw [upd_ne (ne_of_none (k.mh _ _ e) n)]
    exact k.mh _ _ e
  vol := B.loc H _ (fun a u _ e => by
    rw [upd_ne (ne_of_none e n)]
    exact e) k.vol
  th := fun a u e => ⟨u, by rw [upd_ne (ne_of_none e n)]; exact e, id⟩
end
end K5
/-! LayB: expressions that change nothing, told by the data they give. -/
namespace K5
open PySem PySem.Spec PyProof.Rows L2

abbrev I (i : Int) : Im := .dat (.int i)
abbrev Bl (b : Bool) : Im := .dat (.bool b)
abbrev Tu (ds : List PyData) : Im := .dat (.tuple ds)
abbrev Li (ds : List PyData) : Im := .dat (.list ds)

theorem pe_imp {X : Cx} {e : Expr} {t u : TE} (h : PE X e t) (w : ∀ σ H Q, u σ H Q → t σ H Q) : PE X e u := ⟨fun pins s σ H Q I q => h.run pins s σ H Q I (w σ H Q q)⟩
theorem pt_imp {X : Cx} {e : Expr} {t u : TT} (h : PT X e t) (w : ∀ σ H Q, u σ H Q → t σ H Q) : PT X e u := ⟨fun pins s σ H Q I q => h.run pins s σ H Q I (w σ H Q q)⟩
theorem pa_imp {X : Cx} {e : List Expr} {t u : TA} (h : PA X e t) (w : ∀ σ H Q, u σ H Q → t σ H Q) : PA X e u := ⟨fun pos pins s σ H Q I q => h.run pos pins s σ H Q I (w σ H Q q)⟩
theorem ps_imp {X : Cx} {e : Stmt} {t u : TS} (h : PS X e t) (w : ∀ D σ H, u D σ H → t D σ H) : PS X e u := ⟨fun pins s σ H D I q => h.run pins s σ H D I (w D σ H q)⟩
theorem pss_imp {X : Cx} {e : List Stmt} {t u : TS} (h : PSs X e t) (w : ∀ D σ H, u D σ H → t D σ H) : PSs X e u := ⟨fun pins s σ H D I q => h.run pins s σ H D I (w D σ H q)⟩
theorem pe_any {X : Cx} {e : Expr} {α : Type} {t : α → TE} (h : ∀ a, PE X e (t a)) : PE X e (fun σ H Q => ∃ a, t a σ H Q) := ⟨fun pins s σ H Q I ⟨a, q⟩ => (h a).run pins s σ H Q I q⟩
theorem pt_any {X : Cx} {e : Expr} {α : Type} {t : α → TT} (h : ∀ a, PT X e (t a)) : PT X e (fun σ H Q => ∃ a, t a σ H Q) := ⟨fun pins s σ H Q I ⟨a, q⟩ => (h a).run pins s σ H Q I q⟩
theorem pss_any {X : Cx} {e : List Stmt} {α : Type} {t : α → TS} (h : ∀ a, PSs X e (t a)) : PSs X e (fun D σ H => ∃ a, t a D σ H) := ⟨fun pins s σ H D I ⟨a, q⟩ => (h a).run pins s σ H D I q⟩
theorem pe_off {X : Cx} {e : Expr} : PE X e (fun _ _ _ => False) := ⟨fun _ _ _ _ _ _ q => q.elim⟩
theorem pt_off {X : Cx} {e : Expr} : PT X e (fun _ _ _ => False) := ⟨fun _ _ _ _ _ _ q => q.elim⟩

def tEN (K : PySem.W.Frag) (B : Bs) (ρ : DEnv) (P : Im → Prop) : TE := fun σ H Q => ∃ M, Ok K B M H σ ρ ∧ ∀ x v M' H', P x → Gr B M H M' H' → RepI K M' v x → Q v H'
def tTN (K : PySem.W.Frag) (B : Bs) (ρ : DEnv) (P : Bool → Prop) : TT := fun σ H Q => ∃ M, Ok K B M H σ ρ ∧ ∀ b M' H', P b → Gr B M H M' H' → Q b H'
inductive RepIs (K : PySem.W.Frag) (M : Hp) : List V → List Im → Prop
  | nil : RepIs K M [] []
  | cons {v : V} {vs : List V} {x : Im} {xs : List Im} : RepI K M v x → RepIs K M vs xs → RepIs K M (v :: vs) (x :: xs)
theorem repIs_up {K : PySem.W.Frag} {M N : Hp} (s : Same M N) : ∀ {vs : List V} {xs : List Im}, RepIs K M vs xs → RepIs K N vs xs
  | _, _, .nil => .nil
  | _, _, .cons a b => .cons (repI_up s a) (repIs_up s b)
theorem repIs_len {K : PySem.W.Frag} {M : Hp} : ∀ {vs : List V} {xs : List Im}, RepIs K M vs xs → vs.length = xs.length
  | _, _, .nil => rfl
  | _, _, .cons _ r => congrArg Nat.succ (repIs_len r)
theorem repIs_dp {K : PySem.W.Frag} {M : Hp} : ∀ {vs : List V} {ds : List PyData}, RepIs K M vs (ds.map Im.dat) → DqAll K M vs ds
  | _, [], h => by cases h; exact .nil
  | _, d :: ds, h => by
    cases h with
    | cons a b => exact .cons a (repIs_dp b)
def tEA (K : PySem.W.Frag) (B : Bs) (ρ : DEnv) (xs : List Im) : TA := fun σ H Q => ∃ M, Ok K B M H σ ρ ∧ ∀ vs M' H', Gr B M H M' H' → RepIs K M' vs xs → Q vs H'

abbrev EN (X : Cx) (B : Bs) (ρ : DEnv) (e : Expr) (P : Im → Prop) : Prop := PE X e (tEN X.K B ρ P)
abbrev EE (X : Cx) (B : Bs) (ρ : DEnv) (e : Expr) (x : Im) : Prop := PE X e (tEN X.K B ρ fun y => y = x)
abbrev ET (X : Cx) (B : Bs) (ρ : DEnv) (e : Expr) (b : Bool) : Prop := PT X e (tTN X.K B ρ fun c => c = b)
abbrev EA (X : Cx) (B : Bs) (ρ : DEnv) (es : List Expr) (xs : List Im) : Prop := PA X es (tEA X.K B ρ xs)

theorem rI_int {K : PySem.W.Frag} {M : Hp} {v : V} {i : Int} (r : RepI K M v (I i)) : v = .int i := by cases r; rfl
theorem rI_bl {K : PySem.W.Frag} {M : Hp} {v : V} {b : Bool} (r : RepI K M v (Bl b)) : v = .bl b := by cases r; rfl
theorem rI_non {K : PySem.W.Frag} {M : Hp} {v : V} (r : RepI K M v (.dat .none)) : v = .non := by cases r; rfl
theorem rI_tupH {K : PySem.W.Frag} {M : Hp} {v : V} {ds : List PyData} (r : RepI K M v (Tu ds)) : ∃ a vs, v = .ref a ∧ M a = some (.tup vs) ∧ DqAll K M vs ds := by
  cases r with
  | tup q r => exact ⟨_, _, rfl, q, r⟩
theorem rI_lstH {K : PySem.W.Frag} {M : Hp} {v : V} {ds : List PyData} (r : RepI K M v (Li ds)) : ∃ a vs, v = .ref a ∧ M a = some (.lst vs) ∧ DqAll K M vs ds := by
  cases r with
  | lst q r => exact ⟨_, _, rfl, q, r⟩
theorem rI_tup {K : PySem.W.Frag} {M : Hp} {v : V} {ds : List PyData} (r : RepI K M v (Tu ds)) : ∃ a vs, v = .ref a ∧ SqT K M a vs ∧ DqAll K M vs ds := by
  cases r with
  | tup q r => exact ⟨_, _, rfl, .of q, r⟩
theorem rI_lst {K : PySem.W.Frag} {M : Hp} {v : V} {ds : List PyData} (r : RepI K M v (Li ds)) : ∃ a vs, v = .ref a ∧ SqL K M a vs ∧ DqAll K M vs ds := by
  cases r with
  | lst q r => exact ⟨_, _, rfl, .of q, r⟩

section
variable {X : Cx} {B : Bs} {ρ : DEnv} {pos p : Pos} {e a b c : Expr}

/-! ### names, constants -/
theorem ee_var (i : Nat) {x : Str} {y : Im} (h : ρ[i]? = some (some (.im y)) := by rfl) (hN : X.N[i]? = some x := by rfl) (hv : Vis X.env.scope x := by first | exact Or.inl rfl | exact Or.inr (Or.inl rfl) | exact Or.inr (Or.inr rfl))
    (hd : (x == ("__debug__" : Str)) = false := by decide) (hcd : (x == ("__classdict__" : Str)) = false := by decide) : EE X B ρ (.Name x pos) y :=
  pe_imp (pe_var hN hv hd hcd) fun σ H Q ⟨M, k, q⟩ => by
    obtain ⟨v, e1, r⟩ := k.at_ i _ h
    exact ⟨v, e1, q y v M H rfl k.refl r⟩
theorem ee_int {i : Int} {j : Nat} : EE X B ρ (.Constant (.int i) j pos) (I i) := pe_imp pe_int fun σ H Q ⟨M, k, q⟩ => q _ _ M H rfl k.refl (.int i)
theorem ee_bl {i : Bool} {j : Nat} : EE X B ρ (.Constant (.bool i) j pos) (Bl i) := pe_imp pe_bl fun σ H Q ⟨M, k, q⟩ => q _ _ M H rfl k.refl (.bl i)
theorem ee_non {j : Nat} : EE X B ρ (.Constant .none j pos) (.dat .none) := pe_imp pe_non fun σ H Q ⟨M, k, q⟩ => q _ _ M H rfl k.refl .non
theorem ee_gint {x : Str} {i : Int} (hm : ∃ t, X.mg x = some (.int i t)) (hg : Gl X x := by rfl) (hd : (x == ("__debug__" : Str)) = false := by decide) : EE X B ρ (.Name x pos) (I i) := by
  obtain ⟨t, hm⟩ := hm
  exact pe_imp (pe_glob (v := .int i) hg hm ⟨t, rfl⟩ hd) fun σ H Q ⟨M, k, q⟩ => q _ _ M H rfl k.refl (.int i)

/-! ### two operands -/
theorem en_op {op : Operator} {r : R2} {P1 P2 P : Im → Prop} (ho : OpR X (binaryOp op) r) (ha : EN X B ρ a P1) (hb : EN X B ρ b P2)
    (w : ∀ x y v u σ M H Q, P1 x → P2 y → Ok X.K B M H σ ρ → RepI X.K M v x → RepI X.K M u y → (∀ z t M' H', P z → Gr B M H M' H' → RepI X.K M' t z → Q t H') → r v u H Q) : EN X B ρ (.BinOp a op b pos) P :=
  pe_imp (pe_op ho ha hb) fun σ H Q ⟨M, k, q⟩ => ⟨M, k, fun x v M1 H1 e1 g1 r1 => ⟨M1, k.gr g1, fun y u M2 H2 e2 g2 r2 =>
    w x y v u σ M2 H2 Q e1 e2 ((k.gr g1).gr g2) (repI_up g2.mm r1) r2 fun z t M' H' ez g3 r3 => q z t M' H' ez ((g1.trans g2).trans g3) r3⟩⟩
theorem en_cmp {op : CmpOp} {r : R2} {P1 P2 P : Im → Prop} (ho : OpR X (compareOp op) r) (ha : EN X B ρ a P1) (hb : EN X B ρ b P2) (hm : behindInMarks op b = false)
    (w : ∀ x y v u σ M H Q, P1 x → P2 y → Ok X.K B M H σ ρ → RepI X.K M v x → RepI X.K M u y → (∀ z t M' H', P z → Gr B M H M' H' → RepI X.K M' t z → Q t H') → r v u H Q) : EN X B ρ (.Compare a [op] [b] pos) P :=
  pe_imp (pe_cmpR ho ha hb hm) fun σ H Q ⟨M, k, q⟩ => ⟨M, k, fun x v M1 H1 e1 g1 r1 => ⟨M1, k.gr g1, fun y u M2 H2 e2 g2 r2 =>
    w x y v u σ M2 H2 Q e1 e2 ((k.gr g1).gr g2) (repI_up g2.mm r1) r2 fun z t M' H' ez g3 r3 => q z t M' H' ez ((g1.trans g2).trans g3) r3⟩⟩
theorem ee_op {op : Operator} {r : R2} {x y z : Im} (ho : OpR X (binaryOp op) r) (ha : EE X B ρ a x) (hb : EE X B ρ b y)
    (w : ∀ v u σ M H Q, Ok X.K B M H σ ρ → RepI X.K M v x → RepI X.K M u y → (∀ t M' H', Gr B M H M' H' → RepI X.K M' t z → Q t H') → r v u H Q) : EE X B ρ (.BinOp a op b pos) z :=
  en_op ho ha hb fun x' y' v u σ M H Q e1 e2 k r1 r2 q => by
    subst e1 e2
    exact w v u σ M H Q k r1 r2 fun t M' H' g r3 => q z t M' H' rfl g r3
theorem ee_opc {op : CmpOp} {r : R2} {x y z : Im} (ho : OpR X (compareOp op) r) (ha : EE X B ρ a x) (hb : EE X B ρ b y) (hm : behindInMarks op b = false)
    (w : ∀ v u σ M H Q, Ok X.K B M H σ ρ → RepI X.K M v x → RepI X.K M u y → (∀ t M' H', Gr B M H M' H' → RepI X.K M' t z → Q t H') → r v u H Q) : EE X B ρ (.Compare a [op] [b] pos) z :=
  en_cmp ho ha hb hm fun x' y' v u σ M H Q e1 e2 k r1 r2 q => by
    subst e1 e2
    exact w v u σ M H Q k r1 r2 fun t M' H' g r3 => q z t M' H' rfl g r3
abbrev EC (X : Cx) (B : Bs) (ρ : DEnv) (op : CmpOp) (a b : Expr) (t : Bool) : Prop := PC X op a b (tEN X.K B ρ fun y => y = .dat (.bool t))
theorem pc_imp {op : CmpOp} {t u : TE} (h : PC X op a b t) (w : ∀ σ H Q, u σ H Q → t σ H Q) : PC X op a b u := ⟨fun pins s σ H Q I q => h.run pins s σ H Q I (w σ H Q q)⟩
theorem pc_R {op : CmpOp} {r : R2} {ta tb : TE} (ho : OpR X (compareOp op) r) (ha : PE X a ta) (hb : PE X b tb) : PC X op a b (tOp r ta tb) :=
  ⟨fun pins s σ H Q I h => thn (ha.run pins s σ H _ I h) fun v s1 ⟨x, H1, I1, r1, q1⟩ => thn (hb.run pins s1 σ H1 _ I1 q1) fun u s2 ⟨y, H2, I2, r2, q2⟩ => ho pins s2 σ H2 x y v u Q I2 r1 r2 q2⟩
theorem ec_et {op : CmpOp} {t : Bool} (h : EC X B ρ op a b t) (h1 : behindInMarks op b = false := by first | exact nobehind _ (by decide) (by decide) | rfl) : ET X B ρ (.Compare a [op] [b] pos) t :=
  pt_imp (pt_cmp h h1) fun σ H Q ⟨M, k, q⟩ => ⟨M, k, fun x v M' H' e g r => ⟨t, by subst e; cases r; rfl, q t M' H' rfl g⟩⟩
theorem ec_ee {op : CmpOp} {t : Bool} (h : EC X B ρ op a b t) (h1 : behindInMarks op b = false := by first | exact nobehind _ (by decide) (by decide) | rfl) : EE X B ρ (.Compare a [op] [b] pos) (.dat (.bool t)) := pe_cmp h h1
theorem ec_opc {op : CmpOp} {r : R2} {x y : Im} {z : Bool} (ho : OpR X (compareOp op) r) (ha : EE X B ρ a x) (hb : EE X B ρ b y)
    (w : ∀ v u σ M H Q, Ok X.K B M H σ ρ → RepI X.K M v x → RepI X.K M u y → (∀ t M' H', Gr B M H M' H' → RepI X.K M' t (.dat (.bool z)) → Q t H') → r v u H Q) : EC X B ρ op a b z :=
  pc_imp (pc_R ho ha hb) fun σ H Q ⟨M, k, q⟩ => ⟨M, k, fun x v M1 H1 e1 g1 r1 => ⟨M1, k.gr g1, fun y u M2 H2 e2 g2 r2 => by
    subst e1 e2
    exact w v u σ M2 H2 Q ((k.gr g1).gr g2) (repI_up g2.mm r1) r2 fun t M' H' g3 r3 => q _ t M' H' rfl ((g1.trans g2).trans g3) r3⟩⟩
theorem ee_add {i j : Int} (ha : EE X B ρ a (I i)) (hb : EE X B ρ b (I j)) : EE X B ρ (.BinOp a .Add b pos) (I (i + j)) :=
  ee_op op_add ha hb fun v u σ M H Q k r1 r2 q => ⟨i, j, rI_int r1, rI_int r2, q _ M H k.refl (.int _)⟩
theorem ee_sub {i j : Int} (ha : EE X B ρ a (I i)) (hb : EE X B ρ b (I j)) : EE X B ρ (.BinOp a .Sub b pos) (I (i - j)) :=
  ee_op op_sub ha hb fun v u σ M H Q k r1 r2 q => ⟨i, j, rI_int r1, rI_int r2, q _ M H k.refl (.int _)⟩
theorem ee_mul {i j : Int} (ha : EE X B ρ a (I i)) (hb : EE X B ρ b (I j)) (h : CMul i j) : EE X B ρ (.BinOp a .Mult b pos) (I (i * j)) :=
  ee_op op_mul ha hb fun v u σ M H Q k r1 r2 q => ⟨i, j, rI_int r1, rI_int r2, h, q _ M H k.refl (.int _)⟩
theorem ee_fdiv {i j : Int} (ha : EE X B ρ a (I i)) (hb : EE X B ρ b (I j)) (h : CDiv i j) : EE X B ρ (.BinOp a .FloorDiv b pos) (I (i / j)) :=
  ee_op op_fdiv ha hb fun v u σ M H Q k r1 r2 q => ⟨i, j, rI_int r1, rI_int r2, h, q _ M H k.refl (.int _)⟩
theorem ee_mod {i j : Int} (ha : EE X B ρ a (I i)) (hb : EE X B ρ b (I j)) (h : 0 < j) : EE X B ρ (.BinOp a .Mod b pos) (I (i % j)) :=
  ee_op op_mod ha hb fun v u σ M H Q k r1 r2 q => ⟨i, j, rI_int r1, rI_int r2, h, q _ M H k.refl (.int _)⟩
theorem ec_lt {i j : Int} (ha : EE X B ρ a (I i)) (hb : EE X B ρ b (I j)) : EC X B ρ .Lt a b ((decide (i < j))) :=
  ec_opc op_lt ha hb fun v u σ M H Q k r1 r2 q => ⟨i, j, rI_int r1, rI_int r2, q _ M H k.refl (.bl _)⟩
theorem ee_lt {i j : Int} (ha : EE X B ρ a (I i)) (hb : EE X B ρ b (I j)) : EE X B ρ (.Compare a [.Lt] [b] pos) (Bl (decide (i < j))) :=
  ee_opc op_lt ha hb (nomark _) fun v u σ M H Q k r1 r2 q => ⟨i, j, rI_int r1, rI_int r2, q _ M H k.refl (.bl _)⟩
theorem ec_le {i j : Int} (ha : EE X B ρ a (I i)) (hb : EE X B ρ b (I j)) : EC X B ρ .LtE a b ((decide (i ≤ j))) :=
  ec_opc op_le ha hb fun v u σ M H Q k r1 r2 q => ⟨i, j, rI_int r1, rI_int r2, q _ M H k.refl (.bl _)⟩
theorem ee_le {i j : Int} (ha : EE X B ρ a (I i)) (hb : EE X B ρ b (I j)) : EE X B ρ (.Compare a [.LtE] [b] pos) (Bl (decide (i ≤ j))) :=
  ee_opc op_le ha hb (nomark _) fun v u σ M H Q k r1 r2 q => ⟨i, j, rI_int r1, rI_int r2, q _ M H k.refl (.bl _)⟩
theorem ec_gt {i j : Int} (ha : EE X B ρ a (I i)) (hb : EE X B ρ b (I j)) : EC X B ρ .Gt a b ((decide (j < i))) :=
  ec_opc op_gt ha hb fun v u σ M H Q k r1 r2 q => ⟨i, j, rI_int r1, rI_int r2, q _ M H k.refl (.bl _)⟩
theorem ee_gt {i j : Int} (ha : EE X B ρ a (I i)) (hb : EE X B ρ b (I j)) : EE X B ρ (.Compare a [.Gt] [b] pos) (Bl (decide (j < i))) :=
  ee_opc op_gt ha hb (nomark _) fun v u σ M H Q k r1 r2 q => ⟨i, j, rI_int r1, rI_int r2, q _ M H k.refl (.bl _)⟩
theorem ec_ge {i j : Int} (ha : EE X B ρ a (I i)) (hb : EE X B ρ b (I j)) : EC X B ρ .GtE a b ((decide (j ≤ i))) :=
  ec_opc op_ge ha hb fun v u σ M H Q k r1 r2 q => ⟨i, j, rI_int r1, rI_int r2, q _ M H k.refl (.bl _)⟩
theorem ee_ge {i j : Int} (ha : EE X B ρ a (I i)) (hb : EE X B ρ b (I j)) : EE X B ρ (.Compare a [.GtE] [b] pos) (Bl (decide (j ≤ i))) :=
  ee_opc op_ge ha hb (nomark _) fun v u σ M H Q k r1 r2 q => ⟨i, j, rI_int r1, rI_int r2, q _ M H k.refl (.bl _)⟩
theorem ec_eqI {i j : Int} (ha : EE X B ρ a (I i)) (hb : EE X B ρ b (I j)) : EC X B ρ .Eq a b ((decide (i = j))) :=
  ec_opc op_eq ha hb fun v u σ M H Q k r1 r2 q => by
    rw [rI_int r1, rI_int r2]
    refine ⟨rfl, ?_⟩
    have := q (.bl (decide (i = j))) M H k.refl (.bl _)
    rw [dec_int, Bool.beq_eq_decide_eq]
    exact this
theorem ee_eqI {i j : Int} (ha : EE X B ρ a (I i)) (hb : EE X B ρ b (I j)) : EE X B ρ (.Compare a [.Eq] [b] pos) (Bl (decide (i = j))) :=
  ee_opc op_eq ha hb (nomark _) fun v u σ M H Q k r1 r2 q => by
    rw [rI_int r1, rI_int r2]
    refine ⟨rfl, ?_⟩
    have := q (.bl (decide (i = j))) M H k.refl (.bl _)
    rw [dec_int, Bool.beq_eq_decide_eq]
    exact this
theorem ec_neI {i j : Int} (ha : EE X B ρ a (I i)) (hb : EE X B ρ b (I j)) : EC X B ρ .NotEq a b ((!decide (i = j))) :=
  ec_opc op_ne ha hb fun v u σ M H Q k r1 r2 q => by
    rw [rI_int r1, rI_int r2]
    refine ⟨rfl, ?_⟩
    have := q (.bl (!decide (i = j))) M H k.refl (.bl _)
    rw [dec_int, Bool.beq_eq_decide_eq]
    exact this
theorem ee_neI {i j : Int} (ha : EE X B ρ a (I i)) (hb : EE X B ρ b (I j)) : EE X B ρ (.Compare a [.NotEq] [b] pos) (Bl (!decide (i = j))) :=
  ee_opc op_ne ha hb (nomark _) fun v u σ M H Q k r1 r2 q => by
    rw [rI_int r1, rI_int r2]
    refine ⟨rfl, ?_⟩
    have := q (.bl (!decide (i = j))) M H k.refl (.bl _)
    rw [dec_int, Bool.beq_eq_decide_eq]
    exact this
theorem ec_eqD {d f : PyData} (hu : X.A.units + 64 < cLine) (ha : EE X B ρ a (.dat d)) (hb : EE X B ρ b (.dat f)) (h1 : SeqAt.shaped d = true) (h2 : SeqAt.shaped f = true) : EC X B ρ .Eq a b ((PyData.eqv d f)) :=
  ec_opc (op_eqD hu) ha hb fun v u σ M H Q k r1 r2 q => ⟨d, f, dq_dp _ _ (dp_up k.mh _ _ r1), dq_dp _ _ (dp_up k.mh _ _ r2), h1, h2, q _ M H k.refl (.bl _)⟩
theorem ee_eqD {d f : PyData} (hu : X.A.units + 64 < cLine) (ha : EE X B ρ a (.dat d)) (hb : EE X B ρ b (.dat f)) (h1 : SeqAt.shaped d = true) (h2 : SeqAt.shaped f = true) : EE X B ρ (.Compare a [.Eq] [b] pos) (Bl (PyData.eqv d f)) :=
  ee_opc (op_eqD hu) ha hb (nomark _) fun v u σ M H Q k r1 r2 q => ⟨d, f, dq_dp _ _ (dp_up k.mh _ _ r1), dq_dp _ _ (dp_up k.mh _ _ r2), h1, h2, q _ M H k.refl (.bl _)⟩
theorem ec_neD {d f : PyData} (hu : X.A.units + 64 < cLine) (ha : EE X B ρ a (.dat d)) (hb : EE X B ρ b (.dat f)) (h1 : SeqAt.shaped d = true) (h2 : SeqAt.shaped f = true) : EC X B ρ .NotEq a b ((!PyData.eqv d f)) :=
  ec_opc (op_neD hu) ha hb fun v u σ M H Q k r1 r2 q => ⟨d, f, dq_dp _ _ (dp_up k.mh _ _ r1), dq_dp _ _ (dp_up k.mh _ _ r2), h1, h2, q _ M H k.refl (.bl _)⟩
theorem ee_neD {d f : PyData} (hu : X.A.units + 64 < cLine) (ha : EE X B ρ a (.dat d)) (hb : EE X B ρ b (.dat f)) (h1 : SeqAt.shaped d = true) (h2 : SeqAt.shaped f = true) : EE X B ρ (.Compare a [.NotEq] [b] pos) (Bl (!PyData.eqv d f)) :=
  ee_opc (op_neD hu) ha hb (nomark _) fun v u σ M H Q k r1 r2 q => ⟨d, f, dq_dp _ _ (dp_up k.mh _ _ r1), dq_dp _ _ (dp_up k.mh _ _ r2), h1, h2, q _ M H k.refl (.bl _)⟩

/-! ### None -/
theorem ec_isN {x : Im} {bb : Bool} (ha : EE X B ρ a x) (h : ∀ K M v, RepI K M v x → decide (v = V.non) = bb) {j : Nat} : EC X B ρ .Is a (.Constant .none j p) (bb) :=
  ec_opc op_isN ha ee_non fun v u σ M H Q k r1 r2 q => by
    refine ⟨rI_non r2, ?_⟩
    rw [h _ _ _ r1]
    exact q _ M H k.refl (.bl _)
theorem ee_isN {x : Im} {bb : Bool} (ha : EE X B ρ a x) (h : ∀ K M v, RepI K M v x → decide (v = V.non) = bb) {j : Nat} : EE X B ρ (.Compare a [.Is] [.Constant .none j p] pos) (Bl bb) :=
  ee_opc op_isN ha ee_non (nomark _) fun v u σ M H Q k r1 r2 q => by
    refine ⟨rI_non r2, ?_⟩
    rw [h _ _ _ r1]
    exact q _ M H k.refl (.bl _)
theorem ec_notN {x : Im} {bb : Bool} (ha : EE X B ρ a x) (h : ∀ K M v, RepI K M v x → decide (v = V.non) = bb) {j : Nat} : EC X B ρ .IsNot a (.Constant .none j p) ((!bb)) :=
  ec_opc op_notN ha ee_non fun v u σ M H Q k r1 r2 q => by
    refine ⟨rI_non r2, ?_⟩
    rw [h _ _ _ r1]
    exact q _ M H k.refl (.bl _)
theorem ee_notN {x : Im} {bb : Bool} (ha : EE X B ρ a x) (h : ∀ K M v, RepI K M v x → decide (v = V.non) = bb) {j : Nat} : EE X B ρ (.Compare a [.IsNot] [.Constant .none j p] pos) (Bl (!bb)) :=
  ee_opc op_notN ha ee_non (nomark _) fun v u σ M H Q k r1 r2 q => by
    refine ⟨rI_non r2, ?_⟩
    rw [h _ _ _ r1]
    exact q _ M H k.refl (.bl _)
theorem nN_int {K : PySem.W.Frag} {M : Hp} {v : V} {i : Int} (r : RepI K M v (I i)) : decide (v = V.non) = false := by cases r; rfl
theorem nN_tup {K : PySem.W.Frag} {M : Hp} {v : V} {ds : List PyData} (r : RepI K M v (Tu ds)) : decide (v = V.non) = false := by cases r; rfl
theorem nN_lst {K : PySem.W.Frag} {M : Hp} {v : V} {ds : List PyData} (r : RepI K M v (Li ds)) : decide (v = V.non) = false := by cases r; rfl
theorem nN_non {K : PySem.W.Frag} {M : Hp} {v : V} (r : RepI K M v (.dat .none)) : decide (v = V.non) = true := by cases r; rfl

/-! ### and, or, not, tests -/
theorem ee_one {op : BoolOp} {x : Im} (h : EE X B ρ a x) : EE X B ρ (.BoolOp op [a] pos) x := pe_one h
theorem ee_and {rest : List Expr} {x y : Bool} (ha : EE X B ρ a (Bl x)) (hb : x = true → EE X B ρ (.BoolOp .And (b :: rest) pos) (Bl y)) : EE X B ρ (.BoolOp .And (a :: b :: rest) pos) (Bl (x && y)) := by
  cases x with
  | true => exact pe_imp (pe_and ha (hb rfl)) fun σ H Q ⟨M, k, q⟩ => ⟨M, k, fun z v M1 H1 e1 g1 r1 => ⟨true, by subst e1; exact rI_bl r1, (show (if true = true then _ else _) by rw [if_pos rfl]; exact ⟨M1, k.gr g1, fun z2 v2 M2 H2 e2 g2 r2 => q z2 v2 M2 H2 e2 (g1.trans g2) r2⟩)⟩⟩
  | false => exact pe_imp (pe_and ha pe_off) fun σ H Q ⟨M, k, q⟩ => ⟨M, k, fun z v M1 H1 e1 g1 r1 => ⟨false, by subst e1; exact rI_bl r1, (show (if false = true then _ else _) by rw [if_neg (by decide)]; exact q _ _ M1 H1 rfl g1 (.bl _))⟩⟩
theorem ee_or {rest : List Expr} {x y : Bool} (ha : EE X B ρ a (Bl x)) (hb : x = false → EE X B ρ (.BoolOp .Or (b :: rest) pos) (Bl y)) : EE X B ρ (.BoolOp .Or (a :: b :: rest) pos) (Bl (x || y)) := by
  cases x with
  | false => exact pe_imp (pe_or ha (hb rfl)) fun σ H Q ⟨M, k, q⟩ => ⟨M, k, fun z v M1 H1 e1 g1 r1 => ⟨false, by subst e1; exact rI_bl r1, (show (if false = true then _ else _) by rw [if_neg (by decide)]; exact ⟨M1, k.gr g1, fun z2 v2 M2 H2 e2 g2 r2 => q z2 v2 M2 H2 e2 (g1.trans g2) r2⟩)⟩⟩
  | true => exact pe_imp (pe_or ha pe_off) fun σ H Q ⟨M, k, q⟩ => ⟨M, k, fun z v M1 H1 e1 g1 r1 => ⟨true, by subst e1; exact rI_bl r1, (show (if true = true then _ else _) by rw [if_pos rfl]; exact q _ _ M1 H1 rfl g1 (.bl _))⟩⟩
theorem ee_not {x : Bool} (ha : EE X B ρ a (Bl x)) : EE X B ρ (.UnaryOp .Not a pos) (Bl (!x)) :=
  pe_imp (pe_not ha) fun σ H Q ⟨M, k, q⟩ => ⟨M, k, fun z v M1 H1 e1 g1 r1 => ⟨x, by subst e1; exact rI_bl r1, q _ _ M1 H1 rfl g1 (.bl _)⟩⟩
/-- a test by a value that is a bool -/
theorem et_val {x : Bool} (ha : EE X B ρ a (Bl x)) (he : ∀ whole, isTrue a X.env whole = (do let v ← whole; standAt a.pos; holding [v] (truthy v)) := by intro _; rfl) : ET X B ρ a x :=
  pt_imp (pt_val ha he) fun σ H Q ⟨M, k, q⟩ => ⟨M, k, fun z v M1 H1 e1 g1 r1 => ⟨x, by subst e1; exact rI_bl r1, q x M1 H1 rfl g1⟩⟩
/-- a comparison as a test -/
theorem et_cmp {op : CmpOp} {x : Bool} (ha : EE X B ρ (.Compare a [op] [b] pos) (Bl x)) (he : ∀ whole, isTrue (.Compare a [op] [b] pos) X.env whole = (do let v ← whole; standAt (Expr.Compare a [op] [b] pos).pos; holding [v] (truthy v)) := by intro _; rfl) : ET X B ρ (.Compare a [op] [b] pos) x := et_val ha he
theorem et_not {x : Bool} (ha : ET X B ρ a x) : ET X B ρ (.UnaryOp .Not a pos) (!x) :=
  pt_imp (pt_not ha) fun σ H Q ⟨M, k, q⟩ => ⟨M, k, fun z M1 H1 e1 g1 => by subst e1; exact q _ M1 H1 rfl g1⟩
theorem et_is {x y : Bool} (h : ET X B ρ a x) (e : x = y) : ET X B ρ a y := e ▸ h
theorem ee_is {x y : Im} (h : EE X B ρ a x) (e : x = y) : EE X B ρ a y := e ▸ h
def EW (X : Cx) (B : Bs) (ρ : DEnv) (e : Expr) (b : Bool) : Prop := PW X e (tTN X.K B ρ fun c => c = b)
theorem pw_imp {e : Expr} {t u : TT} (h : PW X e t) (w : ∀ σ H Q, u σ H Q → t σ H Q) : PW X e u := ⟨fun wh pins s σ H Q I q => h.run wh pins s σ H Q I (w σ H Q q)⟩
theorem pw_off {e : Expr} : PW X e (fun _ _ _ => False) := ⟨fun _ _ _ _ _ _ _ q => q.elim⟩
theorem EW.et {x : Bool} (h : EW X B ρ a x) : ET X B ρ a x := PW.pt h
theorem ew_and1 {x : Bool} (h : ET X B ρ a x) : EW X B ρ (.BoolOp .And [a] pos) x := pw_and1 h
theorem ew_or1 {x : Bool} (h : ET X B ρ a x) : EW X B ρ (.BoolOp .Or [a] pos) x := pw_or1 h
theorem ew_and {rest : List Expr} {x y : Bool} (ha : ET X B ρ a x) (hb : x = true → EW X B ρ (.BoolOp .And (b :: rest) pos) y) : EW X B ρ (.BoolOp .And (a :: b :: rest) pos) (x && y) := by
  cases x with
  | true => exact pw_imp (pw_and ha (hb rfl)) fun σ H Q ⟨M, k, q⟩ => ⟨M, k, fun z M1 H1 e1 g1 => by subst e1; exact (show (if true = true then _ else _) by rw [if_pos rfl]; exact ⟨M1, k.gr g1, fun z2 M2 H2 e2 g2 => q z2 M2 H2 e2 (g1.trans g2)⟩)⟩
  | false => exact pw_imp (pw_and ha pw_off) fun σ H Q ⟨M, k, q⟩ => ⟨M, k, fun z M1 H1 e1 g1 => by subst e1; exact (show (if false = true then _ else _) by rw [if_neg (by decide)]; exact q _ M1 H1 rfl g1)⟩
theorem ew_or {rest : List Expr} {x y : Bool} (ha : ET X B ρ a x) (hb : x = false → EW X B ρ (.BoolOp .Or (b :: rest) pos) y) : EW X B ρ (.BoolOp .Or (a :: b :: rest) pos) (x || y) := by
  cases x with
  | false => exact pw_imp (pw_or ha (hb rfl)) fun σ H Q ⟨M, k, q⟩ => ⟨M, k, fun z M1 H1 e1 g1 => by subst e1; exact (show (if false = true then _ else _) by rw [if_neg (by decide)]; exact ⟨M1, k.gr g1, fun z2 M2 H2 e2 g2 => q z2 M2 H2 e2 (g1.trans g2)⟩)⟩
  | true => exact pw_imp (pw_or ha pw_off) fun σ H Q ⟨M, k, q⟩ => ⟨M, k, fun z M1 H1 e1 g1 => by subst e1; exact (show (if true = true then _ else _) by rw [if_pos rfl]; exact q _ M1 H1 rfl g1)⟩
/-- the truth of a list, a tuple -/
theorem et_tupT {ds : List PyData} (ha : EE X B ρ a (Tu ds)) (he : ∀ whole, isTrue a X.env whole = (do let v ← whole; standAt a.pos; holding [v] (truthy v)) := by intro _; rfl) : ET X B ρ a (!ds.isEmpty) :=
  pt_imp (pt_truth ha he) fun σ H Q ⟨M, k, q⟩ => ⟨M, k, fun z v M1 H1 e1 g1 r1 => by
    subst e1
    obtain ⟨t, vs, rfl, h1, h2⟩ := rI_tup r1
    refine ⟨!ds.isEmpty, .inr (.inl ⟨vs, tup_up g1.mh h1, ?_⟩), q _ M1 H1 rfl g1⟩
    cases h2 <;> rfl⟩
theorem et_lstT {ds : List PyData} (ha : EE X B ρ a (Li ds)) (he : ∀ whole, isTrue a X.env whole = (do let v ← whole; standAt a.pos; holding [v] (truthy v)) := by intro _; rfl) : ET X B ρ a (!ds.isEmpty) :=
  pt_imp (pt_truth ha he) fun σ H Q ⟨M, k, q⟩ => ⟨M, k, fun z v M1 H1 e1 g1 r1 => by
    subst e1
    obtain ⟨t, vs, rfl, h1, h2⟩ := rI_lst r1
    refine ⟨!ds.isEmpty, .inl ⟨vs, g1.mh.seq h1, ?_⟩, q _ M1 H1 rfl g1⟩
    cases h2 <;> rfl⟩
theorem ee_if {x y : Im} {t : Bool} (hc : ET X B ρ c t) (h1 : t = true → EE X B ρ a x) (h2 : t = false → EE X B ρ b x) : EE X B ρ (.IfExp c a b pos) x := by
  cases t with
  | true => exact pe_imp (pe_ifExp hc (h1 rfl) (pe_off (e := b))) fun σ H Q ⟨M, k, q⟩ => ⟨M, k, fun z M1 H1 e1 g1 => by subst e1; exact (show (if true = true then _ else _) by rw [if_pos rfl]; exact ⟨M1, k.gr g1, fun z2 v2 M2 H2 e2 g2 r2 => q z2 v2 M2 H2 e2 (g1.trans g2) r2⟩)⟩
  | false => exact pe_imp (pe_ifExp hc (pe_off (e := a)) (h2 rfl)) fun σ H Q ⟨M, k, q⟩ => ⟨M, k, fun z M1 H1 e1 g1 => by subst e1; exact (show (if false = true then _ else _) by rw [if_neg (by decide)]; exact ⟨M1, k.gr g1, fun z2 v2 M2 H2 e2 g2 r2 => q z2 v2 M2 H2 e2 (g1.trans g2) r2⟩)⟩

/-! ### arguments, displays -/
theorem ea_nil : EA X B ρ [] [] := pa_imp pa_nil fun σ H Q ⟨M, k, q⟩ => q [] M H k.refl .nil
theorem ea_cons {es : List Expr} {x : Im} {xs : List Im} (ha : EE X B ρ e x) (hr : EA X B ρ es xs) (hs : starEach (e :: es) X.env = (false, eval e X.env) :: starEach es X.env := by rfl) : EA X B ρ (e :: es) (x :: xs) :=
  pa_imp (pa_cons ha hr hs) fun σ H Q ⟨M, k, q⟩ => ⟨M, k, fun z v M1 H1 e1 g1 r1 => ⟨M1, k.gr g1, fun vs M2 H2 g2 r2 => q _ M2 H2 (g1.trans g2) (.cons (repI_up g2.mm (e1 ▸ r1)) r2)⟩⟩
theorem ee_tup {es : List Expr} {k0 : Nat} {ds : List PyData} (h : EA X B ρ es (ds.map Im.dat)) (hl : ds.length ≤ sizeLine) : EE X B ρ (.Tuple es k0 pos) (Tu ds) :=
  pe_imp (pe_tup h) fun σ H Q ⟨M, k, q⟩ => ⟨M, k, fun vs M1 H1 g1 r1 => by
    have hd := repIs_dp r1
    refine ⟨by rw [dps_len hd]; exact hl, fun p np => ?_⟩
    have g2 := (k.gr g1).new (o := .tup vs) np
    exact q _ _ _ _ rfl (g1.trans g2) (.tup upd_same (dps_up g2.mm ds vs hd))⟩
theorem ee_lst {es : List Expr} {ds : List PyData} (h : EA X B ρ es (ds.map Im.dat)) (hl : ds.length ≤ sizeLine) : EE X B ρ (.List es pos) (Li ds) :=
  pe_imp (pe_lst h) fun σ H Q ⟨M, k, q⟩ => ⟨M, k, fun vs M1 H1 g1 r1 => by
    have hd := repIs_dp r1
    refine ⟨by rw [dps_len hd]; exact hl, fun p np => ?_⟩
    have g2 := (k.gr g1).new (o := .lst vs) np
    exact q _ _ _ _ rfl (g1.trans g2) (.lst upd_same (dps_up g2.mm ds vs hd))⟩

/-! ### items, lengths -/
theorem ee_ixT {ds : List PyData} {i : Int} {d : PyData} (ha : EE X B ρ a (Tu ds)) (hb : EE X B ρ b (I i)) (h : atI ds i = some d) (hs : PlainIx b := by exact fun _ _ => rfl) : EE X B ρ (.Subscript a b pos) (.dat d) :=
  pe_imp (pe_ix ix_tup ha hb hs) fun σ H Q ⟨M, k, q⟩ => ⟨M, k, fun x v M1 H1 e1 g1 r1 => ⟨M1, k.gr g1, fun y u M2 H2 e2 g2 r2 => by
    subst e1 e2
    obtain ⟨t, vs, rfl, h1, h2⟩ := rI_tup r1
    unfold atI at h
    rw [← dps_len h2] at h
    obtain ⟨n, hn, hd⟩ := Option.bind_eq_some_iff.mp h
    obtain ⟨w, hw, rw_⟩ := dps_at' h2 hd
    exact ⟨t, vs, i, w, rfl, rI_int r2, tup_up (g2.mm.trans g2.mh) h1, by unfold atI; rw [hn]; exact hw, q _ _ M2 H2 rfl (g1.trans g2) (dp_up g2.mm _ _ rw_)⟩⟩⟩
theorem ee_ixL {ds : List PyData} {i : Int} {d : PyData} (ha : EE X B ρ a (Li ds)) (hb : EE X B ρ b (I i)) (h : atI ds i = some d) (hs : PlainIx b := by exact fun _ _ => rfl) : EE X B ρ (.Subscript a b pos) (.dat d) :=
  pe_imp (pe_ix ix_list ha hb hs) fun σ H Q ⟨M, k, q⟩ => ⟨M, k, fun x v M1 H1 e1 g1 r1 => ⟨M1, k.gr g1, fun y u M2 H2 e2 g2 r2 => by
    subst e1 e2
    obtain ⟨t, vs, rfl, h1, h2⟩ := rI_lst r1
    unfold atI at h
    rw [← dps_len h2] at h
    obtain ⟨n, hn, hd⟩ := Option.bind_eq_some_iff.mp h
    obtain ⟨w, hw, rw_⟩ := dps_at' h2 hd
    exact ⟨t, vs, i, w, rfl, rI_int r2, (g2.mm.trans g2.mh).seq h1, by unfold atI; rw [hn]; exact hw, q _ _ M2 H2 rfl (g1.trans g2) (dp_up g2.mm _ _ rw_)⟩⟩⟩
theorem ee_ixTn {ds : List PyData} {i : Nat} {d : PyData} (ha : EE X B ρ a (Tu ds)) (hb : EE X B ρ b (I i)) (h : ds[i]? = some d) (hs : PlainIx b := by exact fun _ _ => rfl) : EE X B ρ (.Subscript a b pos) (.dat d) := ee_ixT ha hb (atI_nat h) hs
theorem ee_ixLn {ds : List PyData} {i : Nat} {d : PyData} (ha : EE X B ρ a (Li ds)) (hb : EE X B ρ b (I i)) (h : ds[i]? = some d) (hs : PlainIx b := by exact fun _ _ => rfl) : EE X B ρ (.Subscript a b pos) (.dat d) := ee_ixL ha hb (atI_nat h) hs

/-! ### built-in calls -/
theorem en_cb {id : String} {x : Str} {r : List V → Hp → VK → Prop} {xs : List Im} {es : List Expr} {P : Im → Prop} (hc : CallR X (.builtin id) r) (ha : EA X B ρ (e :: es) xs) (hm : X.mg x = none) (hv : bootBuiltins x = some (.builtin id)) (hg : Gl X x)
    (w : ∀ vs σ M H Q, Ok X.K B M H σ ρ → RepIs X.K M vs xs → (∀ z t M' H', P z → Gr B M H M' H' → RepI X.K M' t z → Q t H') → r vs H Q) (hn : x ≠ "__name__") (hd : (x == ("__debug__" : Str)) = false)
    (he : starEach (e :: es) X.env = (false, eval e X.env) :: starEach es X.env := by rfl) (hpl : (backTo pos (starEach es X.env)).any (·.1) = false := by rfl) : EN X B ρ (.Call (.Name x p) (e :: es) [] pos) P :=
  pe_imp (pe_callB hc hg hm hv ha hn hd he hpl) fun σ H Q ⟨M, k, q⟩ => ⟨M, k, fun vs M1 H1 g1 r1 => w vs σ M1 H1 Q (k.gr g1) r1 fun z t M' H' ez g r => q z t M' H' ez (g1.trans g) r⟩
theorem en_ct {id : String} {x : Str} {r : List V → Hp → VK → Prop} {xs : List Im} {es : List Expr} {P : Im → Prop} (hc : CallR X (.type id) r) (ha : EA X B ρ (e :: es) xs) (hm : X.mg x = none) (hv : bootBuiltins x = some (.type id)) (hg : Gl X x)
    (w : ∀ vs σ M H Q, Ok X.K B M H σ ρ → RepIs X.K M vs xs → (∀ z t M' H', P z → Gr B M H M' H' → RepI X.K M' t z → Q t H') → r vs H Q) (hn : x ≠ "__name__") (hd : (x == ("__debug__" : Str)) = false)
    (he : starEach (e :: es) X.env = (false, eval e X.env) :: starEach es X.env := by rfl) (hpl : (backTo pos (starEach es X.env)).any (·.1) = false := by rfl) : EN X B ρ (.Call (.Name x p) (e :: es) [] pos) P :=
  pe_imp (pe_callTy hc hg hm hv ha hn hd he hpl) fun σ H Q ⟨M, k, q⟩ => ⟨M, k, fun vs M1 H1 g1 r1 => w vs σ M1 H1 Q (k.gr g1) r1 fun z t M' H' ez g r => q z t M' H' ez (g1.trans g) r⟩
end
end K5
/-! LayC: what is walked; comprehensions; calls of defs; statements. -/
namespace K5
open PySem PySem.Spec PyProof.Rows L2

/-! ### what is walked -/
inductive Gi (M H : Hp) : Hp → Hp → Prop
  | same : Gi M H M H
  | new (T : Addr) (o : HO) : H T = none → Gi M H (upd M T o) (upd H T o)
  | abs (q : Addr) (xs : List V) : H q = some (.tup xs) → Gi M H (upd M q (.tup xs)) H
structure IOk (K : PySem.W.Frag) (J : It) (M1 : Hp) (ds : List PyData) : Prop where
  go : ∀ M H i, Same M1 M → Same M H → i < ds.length → J.go i H
  stop : ∀ M H, Same M1 M → Same M H → J.stop ds.length H
  yld : ∀ M H i x H' d, Same M1 M → Same M H → ds[i]? = some d → J.yld i H x H' → ∃ M', Gi M H M' H' ∧ Dq K M' x d
theorem Ok.gi {K : PySem.W.Frag} {B : Bs} {M H M' H' : Hp} {σ : L2.St} {ρ : DEnv} (k : Ok K B M H σ ρ) (g : Gi M H M' H') : Gr B M H M' H' := by
  cases g with
  | same => exact k.refl
  | new T o n => exact k.new n
  | abs q xs h => exact k.absorb h
def tEI (K : PySem.W.Frag) (B : Bs) (ρ : DEnv) (ds : List PyData) : TI := fun σ H R => ∃ M, Ok K B M H σ ρ ∧ ∀ J M1 H1, Gr B M H M1 H1 → IOk K J M1 ds → R J H1
abbrev EI (X : Cx) (B : Bs) (ρ : DEnv) (tg iter : Expr) (ds : List PyData) : Prop := PI X tg iter (tEI X.K B ρ ds)
theorem pi_imp {X : Cx} {tg e : Expr} {t u : TI} (h : PI X tg e t) (w : ∀ σ H Q, u σ H Q → t σ H Q) : PI X tg e u := ⟨fun pins s σ H Q I q => h.run pins s σ H Q I (w σ H Q q)⟩

theorem iok_tup {K : PySem.W.Frag} {M1 : Hp} {a : Addr} {vs : List V} {ds : List PyData} (h : SqT K M1 a vs) (r : DqAll K M1 vs ds) : IOk K (Itt K a) M1 ds := by
  have W := walk_tup (K := K) (a := a) (xs := vs)
  have hl := dps_len r
  refine ⟨fun M H i s1 s2 hi => W.goes i H (by omega) (tup_up (s1.trans s2) h), fun M H s1 s2 => ?_, fun M H i x H' d s1 s2 e y => ?_⟩
  · rw [← hl]
    exact W.stops H (tup_up (s1.trans s2) h)
  · obtain ⟨hi, _⟩ := List.getElem?_eq_some_iff.mp e
    obtain ⟨rfl, e2⟩ := W.yields i H x H' (by omega) (tup_up (s1.trans s2) h) y
    obtain ⟨v, e3, q⟩ := dps_at' r e
    rw [e2] at e3
    cases e3
    exact ⟨M, .same, dp_up s1 _ _ q⟩
theorem iok_lst {K : PySem.W.Frag} {M1 : Hp} {a : Addr} {vs : List V} {ds : List PyData} (h : SqL K M1 a vs) (r : DqAll K M1 vs ds) : IOk K (Itl K a) M1 ds := by
  have W := walk_list (K := K) (a := a) (xs := vs)
  have hl := dps_len r
  refine ⟨fun M H i s1 s2 hi => W.goes i H (by omega) ((s1.trans s2).seq h), fun M H s1 s2 => ?_, fun M H i x H' d s1 s2 e y => ?_⟩
  · rw [← hl]
    exact W.stops H ((s1.trans s2).seq h)
  · obtain ⟨hi, _⟩ := List.getElem?_eq_some_iff.mp e
    obtain ⟨rfl, e2⟩ := W.yields i H x H' (by omega) ((s1.trans s2).seq h) y
    obtain ⟨v, e3, q⟩ := dps_at' r e
    rw [e2] at e3
    cases e3
    exact ⟨M, .same, dp_up s1 _ _ q⟩
def rgD (n : Nat) : List PyData := (List.range n).map fun i => .int (i : Nat)
theorem rgD_len (n : Nat) : (rgD n).length = n := by unfold rgD; rw [List.length_map, List.length_range]
theorem rgD_at {n i : Nat} (h : i < n) : (rgD n)[i]? = some (.int (i : Nat)) := by
  unfold rgD
  rw [List.getElem?_map, List.getElem?_range h]
  rfl
theorem iok_rng {K : PySem.W.Frag} {M1 : Hp} {n : Nat} : IOk K (Itr 0 n) M1 (rgD n) := by
  refine ⟨fun M H i s1 s2 hi => by rw [rgD_len] at hi; exact hi, fun M H s1 s2 => by rw [rgD_len]; exact Nat.le_refl _, fun M H i x H' d s1 s2 e y => ?_⟩
  obtain ⟨hi, _⟩ := List.getElem?_eq_some_iff.mp e
  rw [rgD_len] at hi
  rw [rgD_at hi] at e
  cases e
  obtain ⟨rfl, rfl⟩ := y
  refine ⟨M, .same, ?_⟩
  rw [Int.zero_add]
  exact .int _

section
variable {X : Cx} {B : Bs} {ρ : DEnv} {pos p : Pos} {e a b c tg iter elt : Expr}
theorem ei_tup {ds : List PyData} (h : EE X B ρ e (Tu ds)) : EI X B ρ tg e ds :=
  pi_imp (pi_tup h) fun σ H Q ⟨M, k, q⟩ => ⟨M, k, fun x v M1 H1 e1 g1 r1 => by
    subst e1
    obtain ⟨t, vs, rfl, h1, h2⟩ := rI_tup r1
    exact ⟨t, rfl, ⟨vs, tup_up g1.mh h1⟩, q _ M1 H1 g1 (iok_tup h1 h2)⟩⟩
theorem ei_lst {ds : List PyData} (h : EE X B ρ e (Li ds)) : EI X B ρ tg e ds :=
  pi_imp (pi_list h) fun σ H Q ⟨M, k, q⟩ => ⟨M, k, fun x v M1 H1 e1 g1 r1 => by
    subst e1
    obtain ⟨t, vs, rfl, h1, h2⟩ := rI_lst r1
    exact ⟨t, rfl, ⟨vs, g1.mh.seq h1⟩, q _ M1 H1 g1 (iok_lst h1 h2)⟩⟩
theorem ei_rng {n : Nat} (h : EE X B ρ e (I (n : Nat))) (hm : X.mg "range" = none) (hn : n < 2 ^ 60) (hg : Gl X "range" := by rfl) (hs : starEach [e] X.env = [(false, eval e X.env)] := by rfl) (hs2 : starEach (e :: []) X.env = (false, eval e X.env) :: starEach [] X.env := by rfl) :
    EI X B ρ tg (.Call (.Name "range" p) [e] [] pos) (rgD n) :=
  pi_imp (pi_range1 hg hm (pa_cons h pa_nil hs2) hs) fun σ H Q ⟨M, k, q⟩ => ⟨M, k, fun x v M1 H1 e1 g1 r1 => by
    subst e1
    refine ⟨n, by rw [rI_int r1], by omega, by omega, ?_⟩
    exact q _ M1 H1 g1 iok_rng⟩

/-! ### the slots of a block: the things of the frame's own are not seen in it -/
def seen1 : Option En → Option En
  | some (.im x) => some (.im x)
  | some (.raw v) => some (.raw v)
  | _ => none
theorem seen1_some {x : Option En} {e : En} (h : seen1 x = some e) : x = some e ∧ own e = false := by
  cases x with
  | none => cases h
  | some y =>
    cases y with
    | im z => cases h; exact ⟨rfl, rfl⟩
    | raw z => cases h; exact ⟨rfl, rfl⟩
    | _ => cases h
def wp (ρ : DEnv) : List Nat → DEnv
  | [] => ρ.map seen1
  | v :: vs => (wp ρ vs).set v none
def NoOwn (ρ : DEnv) : Prop := ∀ (i : Nat) (e : En), ρ[i]? = some (some e) → own e = false
theorem wp_len (ρ : DEnv) : ∀ vs : List Nat, (wp ρ vs).length = ρ.length
  | [] => List.length_map ..
  | v :: vs => by unfold wp; rw [List.length_set, wp_len ρ vs]
theorem wp_some {ρ : DEnv} {i : Nat} {x : En} : ∀ {vs : List Nat}, (wp ρ vs)[i]? = some (some x) → ρ[i]? = some (some x) ∧ i ∉ vs ∧ own x = false
  | [], h => by
    have h : (ρ.map seen1)[i]? = some (some x) := h
    rw [List.getElem?_map] at h
    obtain ⟨y, h1, h2⟩ := Option.map_eq_some_iff.mp h
    obtain ⟨h3, h4⟩ := seen1_some h2
    subst h3
    exact ⟨h1, by simp, h4⟩
  | v :: vs, h => by
    unfold wp at h
    by_cases hi : v = i
    · subst hi
      by_cases hv : v < (wp ρ vs).length
      · rw [List.getElem?_set_self hv] at h; cases h
      · rw [List.getElem?_eq_none (by simpa using hv)] at h; cases h
    · rw [List.getElem?_set_ne hi] at h
      obtain ⟨h1, h2, h3⟩ := wp_some h
      refine ⟨h1, fun m => ?_, h3⟩
      rcases List.mem_cons.mp m with z | z
      · exact hi z.symm
      · exact h2 z
theorem wp_no {ρ : DEnv} {vs : List Nat} : NoOwn (wp ρ vs) := fun i e h => (wp_some h).2.2
theorem NoOwn.set {ρ : DEnv} (n : NoOwn ρ) {i : Nat} {x : Im} : NoOwn (ρ.set i (some (.im x))) := fun j e h => by
  by_cases hj : i = j
  · subst hj
    by_cases hv : i < ρ.length
    · rw [List.getElem?_set_self hv] at h; cases h; rfl
    · rw [List.getElem?_eq_none (by simpa using hv)] at h; cases h
  · rw [List.getElem?_set_ne hj] at h
    exact n j e h
theorem wipe_keep {σ : L2.St} {i : Nat} : ∀ {vs : List Nat}, i ∉ vs → (wipe σ vs)[i]? = σ[i]?
  | [], _ => rfl
  | v :: vs, h => by
    unfold wipe
    rw [List.getElem?_set_ne (fun z => h (by rw [z]; exact List.mem_cons_self)), wipe_keep fun z => h (List.mem_cons_of_mem _ z)]
section
variable {K : PySem.W.Frag} {M H : Hp} {σ : L2.St}
theorem Ok.wipe (k : Ok K B M H σ ρ) (vs : List Nat) : Ok K B M H (L2.wipe σ vs) (wp ρ vs) where
  mm := k.mm
  mh := k.mh
  fh := k.fh
  ft := k.ft
  fm := k.fm
  at_ := fun i e h => by
    obtain ⟨h1, h2, _⟩ := wp_some h
    rw [wipe_keep h2]
    exact k.at_ i e h1
  fresh := fun i e a h o h' => by
    obtain ⟨h1, h2, _⟩ := wp_some h
    rw [wipe_keep h2] at h'
    exact k.fresh i e a h1 o h'
  sep := fun i j e e' n h h' o o' => by
    obtain ⟨h1, h2, _⟩ := wp_some h
    obtain ⟨h3, h4, _⟩ := wp_some h'
    rw [wipe_keep h2, wipe_keep h4]
    exact k.sep i j e e' n h1 h3 o o'
  stay := fun i e h => k.stay i e (wp_some h).1
  wm := k.wm
  vol := k.vol
  len := by rw [wp_len, wipe_length]; exact k.len
/-- a name takes an unchanging thing -/
theorem Ok.put (k : Ok K B M H σ ρ) {i : Nat} {v : V} {x : Im} (r : RepI K M v x) : Ok K B M H (σ.set i (some v)) (ρ.set i (some (.im x))) where
  mm := k.mm
  mh := k.mh
  fh := k.fh
  ft := k.ft
  fm := k.fm
  at_ := fun j e h => by
    by_cases hj : i = j
    · subst hj
      by_cases hv : i < ρ.length
      · rw [List.getElem?_set_self hv] at h
        cases h
        exact ⟨v, List.getElem?_set_self (by rw [← k.len]; exact hv), r⟩
      · rw [List.getElem?_eq_none (by simpa using hv)] at h; cases h
    · rw [List.getElem?_set_ne hj] at h ⊢
      exact k.at_ j e h
  fresh := fun j e a h o h' => by
    by_cases hj : i = j
    · subst hj
      by_cases hv : i < ρ.length
      · rw [List.getElem?_set_self hv] at h
        cases h
        cases o
      · rw [List.getElem?_eq_none (by simpa using hv)] at h; cases h
    · rw [List.getElem?_set_ne hj] at h h'
      exact k.fresh j e a h o h'
  sep := fun j l e e' n h h' o o' => by
    by_cases hj : i = j
    · subst hj
      by_cases hv : i < ρ.length
      · rw [List.getElem?_set_self hv] at h
        cases h
        cases o
      · rw [List.getElem?_eq_none (by simpa using hv)] at h; cases h
    · by_cases hl : i = l
      · subst hl
        by_cases hv : i < ρ.length
        · rw [List.getElem?_set_self hv] at h'
          cases h'
          cases o'
        · rw [List.getElem?_eq_none (by simpa using hv)] at h'; cases h'
      · rw [List.getElem?_set_ne hj] at h ⊢
        rw [List.getElem?_set_ne hl] at h' ⊢
        exact k.sep j l e e' n h h' o o'
  stay := fun j e h => by
    by_cases hj : i = j
    · subst hj
      by_cases hv : i < ρ.length
      · rw [List.getElem?_set_self hv] at h
        cases h
        exact ⟨trivial, trivial⟩
      · rw [List.getElem?_eq_none (by simpa using hv)] at h; cases h
    · rw [List.getElem?_set_ne hj] at h
      exact k.stay j e h
  wm := k.wm
  vol := k.vol
  len := by rw [List.length_set, List.length_set]; exact k.len
/-- less is known of the slots -/
theorem Ok.drop (k : Ok K B M H σ ρ) {ρ' : DEnv} (hl : ρ'.length = ρ.length) (h : ∀ (i : Nat) (e : En), ρ'[i]? = some (some e) → ρ[i]? = some (some e)) : Ok K B M H σ ρ' :=
  ⟨k.mm, k.mh, k.fh, k.ft, k.fm, fun i e q => k.at_ i e (h i e q), fun i e a q => k.fresh i e a (h i e q), fun i j e e' n q q' => k.sep i j e e' n (h i e q) (h j e' q'), fun i e q => k.stay i e (h i e q), k.wm, k.vol, hl.trans k.len⟩
/-- a thing aside changes, no name holds a thing of the frame's own -/
theorem Ok.aside (k : Ok K B M H σ ρ) (n : NoOwn ρ) {D : Addr} {o : HO} (mD : M D = none) (fD : B.F D = none) (wD : ¬ B.W D) : Ok K B M (upd H D o) σ ρ where
  mm := k.mm
  mh := fun a u h => by
    rw [upd_ne (ne_of_none h mD)]
    exact k.mh a u h
  fh := fun a u w h => by
    rw [upd_ne (ne_of_none h fD)]
    exact k.fh a u w h
  ft := fun a u h => by
    rw [upd_ne (ne_of_none h fD)]
    exact k.ft a u h
  fm := k.fm
  at_ := fun i e h => by
    obtain ⟨v, h1, r⟩ := k.at_ i e h
    have z := n i e h
    refine ⟨v, h1, ?_⟩
    cases e with
    | im x => exact r
    | raw u => exact r
    | _ => cases z
  fresh := k.fresh
  sep := k.sep
  stay := k.stay
  wm := fun a w => by
    rw [upd_ne (fun z => wD (by rw [← z]; exact w))]
    exact k.wm a w
  vol := B.loc H _ (fun a u w h => by
    rw [upd_ne (fun z => wD (by rw [← z]; exact w))]
    exact h) k.vol
  len := k.len
theorem Ok.bare (k : Ok K B M H σ ρ) : Ok K B M H [] [] :=
  ⟨k.mm, k.mh, k.fh, k.ft, k.fm, fun i e q => by simp at q, fun i e a q => by simp at q, fun i j e e' n q => by simp at q, fun i e q => by simp at q, k.wm, k.vol, rfl⟩
end

/-! ### targets -/
/-- a target told by data: gT says what it does to the slots, for data it is made for; ts: the slots it stores into -/
def tG (K : PySem.W.Frag) (gT : DEnv → PyData → DEnv → Prop) (ts : List Nat) : TG := fun v σ H Q => ∃ B M ρ d ρ', Ok K B M H σ ρ ∧ Dq K M v d ∧ gT ρ d ρ' ∧ ∀ σ', L2.wipe σ' ts = L2.wipe σ ts → Ok K B M H σ' ρ' → Q σ' H
structure EG (X : Cx) (tg : Expr) (gT : DEnv → PyData → DEnv → Prop) (ts : List Nat) : Prop where
  pg : PG X tg (tG X.K gT ts)
def g1 (i : Nat) (ρ : DEnv) (d : PyData) (ρ' : DEnv) : Prop := ρ' = ρ.set i (some (.im (.dat d)))
def g2 (i j : Nat) (ρ : DEnv) (d : PyData) (ρ' : DEnv) : Prop := ∃ x y, d = .tuple [x, y] ∧ ρ' = (ρ.set i (some (.im (.dat x)))).set j (some (.im (.dat y)))
theorem pg_imp {t u : TG} (h : PG X tg t) (w : ∀ v σ H Q, u v σ H Q → t v σ H Q) : PG X tg u := ⟨fun pins s σ H v z Q I r q => h.run pins s σ H v z Q I r (w v σ H Q q)⟩
theorem set_none_set {α : Type} (l : List (Option α)) (i : Nat) (x : Option α) : (l.set i x).set i none = l.set i none := List.set_set ..
theorem eg_1 {i : Nat} {x : Str} (hN : X.N.Nodup) (hi : X.N[i]? = some x := by rfl) (hx : Loc X.env.scope x := by first | exact .inl rfl | exact .inr rfl) (hf : X.fn x = true ∨ X.env.scope.names.lookup x = some .local := by first | exact .inl rfl | exact .inr rfl) : EG X (.Name x pos) (g1 i) [i] :=
  ⟨pg_imp (pg_name hN hi hx hf) fun v σ H Q ⟨B, M, ρ, d, ρ', k, r, g, q⟩ => by
    cases (show ρ' = _ from g)
    exact q _ (by show (σ.set i (some v)).set i none = σ.set i none; exact set_none_set ..) (k.put (x := .dat d) r)⟩
theorem eg_2 {i j : Nat} {x y : Str} {p1 p2 : Pos} {k0 : Nat} (hc : X.calm = true) (hN : X.N.Nodup) (hij : i ≠ j) (hi : X.N[i]? = some x := by rfl) (hj : X.N[j]? = some y := by rfl) (hx : Loc X.env.scope x := by first | exact .inl rfl | exact .inr rfl) (hy : Loc X.env.scope y := by first | exact .inl rfl | exact .inr rfl)
    (hf : X.fn x = true ∨ X.env.scope.names.lookup x = some .local := by first | exact .inl rfl | exact .inr rfl) (hf2 : X.fn y = true ∨ X.env.scope.names.lookup y = some .local := by first | exact .inl rfl | exact .inr rfl) : EG X (.Tuple [.Name x p1, .Name y p2] k0 pos) (g2 i j) [i, j] :=
  ⟨pg_imp (pg_tup hc (pgs_cons (pg_name hN hi hx hf) (pgs_cons (pg_name hN hj hy hf2) pgs_nil))) fun v σ H Q ⟨B, M, ρ, d, ρ', k, r, g, q⟩ => by
    obtain ⟨d1, d2, rfl, rfl⟩ := g
    obtain ⟨t, vs, rfl, h1, h2⟩ := rI_tup (show RepI X.K M v (Tu _) from r)
    cases h2 with
    | @cons v1 _ _ _ q1 h2 =>
      cases h2 with
      | @cons v2 _ _ _ q2 h2 =>
        cases h2
        refine ⟨t, [v1, v2], rfl, tup_up k.mh h1, rfl, v1, [v2], rfl, v2, [], rfl, rfl, q _ ?_ ((k.put (x := .dat d1) q1).put (x := .dat d2) q2)⟩
        show (((σ.set i (some v1)).set j (some v2)).set j none).set i none = (σ.set j none).set i none
        rw [set_none_set, List.set_comm _ _ (Ne.symm hij), set_none_set, List.set_comm _ _ hij]⟩
end
end K5
/-! LayD: list comprehensions told by data. -/
namespace K5
open PySem PySem.Spec PyProof.Rows L2

theorem pts_any {X : Cx} {es : List Expr} {α : Type} {t : α → TT} (h : ∀ a, PTs X es (t a)) : PTs X es (fun σ H Q => ∃ a, t a σ H Q) := ⟨fun pins s σ H Q I ⟨a, q⟩ => (h a).run pins s σ H Q I q⟩
theorem pts_imp {X : Cx} {e : List Expr} {t u : TT} (h : PTs X e t) (w : ∀ σ H Q, u σ H Q → t σ H Q) : PTs X e u := ⟨fun pins s σ H Q I q => h.run pins s σ H Q I (w σ H Q q)⟩
abbrev ETs (X : Cx) (B : Bs) (ρ : DEnv) (es : List Expr) (b : Bool) : Prop := PTs X es (tTN X.K B ρ fun c => c = b)
theorem ets_nil {X : Cx} {B : Bs} {ρ : DEnv} : ETs X B ρ [] true := pts_imp pts_nil fun σ H Q ⟨M, k, q⟩ => q true M H rfl k.refl
theorem ets_one {X : Cx} {B : Bs} {ρ : DEnv} {e : Expr} {b : Bool} (h : ET X B ρ e b) : ETs X B ρ [e] b := pts_one h

def GwG (M1 : Hp) (H : Hp) : Prop := ∃ M, Same M1 M ∧ Same M H
def GwY (K : PySem.W.Frag) (M1 : Hp) (ds : List PyData) (i : Nat) (H : Hp) (x : V) (H' : Hp) : Prop := ∀ M d, Same M1 M → Same M H → ds[i]? = some d → ∃ M', Gi M H M' H' ∧ Dq K M' x d
theorem IOk.walk {K : PySem.W.Frag} {J : It} {M1 : Hp} {ds : List PyData} (k : IOk K J M1 ds) : Walk J ds.length (GwG M1) (GwY K M1 ds) :=
  ⟨fun i H hi ⟨M, s1, s2⟩ => k.go M H i s1 s2 hi, fun H ⟨M, s1, s2⟩ => k.stop M H s1 s2, fun i H x H' _ ⟨M, s1, s2⟩ y M2 d s3 s4 e => k.yld M2 H i x H' d s3 s4 e y⟩

/-- a list that was grown aside comes into the unchanging part -/
theorem Gr.keep {B : Bs} {M H M' H' : Hp} {D : Addr} {o : HO} (g : Gr B M H M' H') (n : H D = none) (n' : M' D = none) (e : H' D = some o) : Gr B M H (upd M' D o) H' where
  mm := g.mm.trans fun a u h => by
    rw [upd_ne (ne_of_none h n')]
    exact h
  hh := g.hh
  fr := fun a u h t z => by
    rw [upd_ne (ne_of_none h n)]
    exact g.fr a u h t z
  mh := fun a u h => by
    by_cases q : a = D
    · subst q
      rw [upd_same] at h
      rw [e]
      exact h
    · rw [upd_ne q] at h
      exact g.mh a u h
  vol := g.vol
  th := g.th
/-- a thing aside changes -/
theorem Gr.side {B : Bs} {M H M' H' : Hp} {D : Addr} {o : HO} (g : Gr B M H M' H') (n : H D = none) (n' : M' D = none) (hw : ¬ B.W D) : Gr B M H M' (upd H' D o) where
  mm := g.mm
  hh := fun a u w h => by
    rw [upd_ne (ne_of_none h n)]
    exact g.hh a u w h
  fr := g.fr
  mh := fun a u h => by
    rw [upd_ne (ne_of_none h n')]
    exact g.mh a u h
  vol := B.loc H' _ (fun a u w h => by
    rw [upd_ne (fun z => hw (by rw [← z]; exact w))]
    exact h) g.vol
  th := fun a u h => by
    rw [upd_ne (ne_of_none h n)]
    exact g.th a u h
theorem Ok.off {K : PySem.W.Frag} {B : Bs} {M H : Hp} {σ : L2.St} {ρ : DEnv} (k : Ok K B M H σ ρ) {D : Addr} (n : H D = none) : ¬ B.W D := fun w => by
  obtain ⟨_, o, h, _⟩ := k.wm D w
  rw [n] at h
  cases h
theorem Ok.clr {K : PySem.W.Frag} {B : Bs} {M H : Hp} {σ : L2.St} {ρ : DEnv} (k : Ok K B M H σ ρ) {D : Addr} (n : H D = none) : M D = none := by
  cases q : M D with
  | none => rfl
  | some o =>
    rw [k.mh _ _ q] at n
    cases n

theorem take_at {α : Type} {l : List α} {i : Nat} {a : α} (h : l[i]? = some a) : l.take (i + 1) = l.take i ++ [a] := by
  rw [List.take_add_one, h]
  rfl

section
variable {X : Cx} {B : Bs} {ρ : DEnv} {pos : Pos} {elt tg iter : Expr} {ifs : List Expr} {scope : Scope} {own : List (Str × Nat)} {α : Type}
abbrev Blk (X : Cx) (s : Shared) (H : Hp) (scope : Scope) (C : Addr) (cl : List (Str × Addr)) (fp : List Addr) : Cx := X.blk s H scope (compEnvC scope cl C X.env) fp
def ttL (K : PySem.W.Frag) (B : Bs) (xs : List α) (p : α → Bool) (r : α → DEnv) : TT := fun σ H Q => ∃ a : { a // a ∈ xs }, tTN K B (r a.1) (fun c => c = p a.1) σ H Q
def teL (K : PySem.W.Frag) (B : Bs) (xs : List α) (p : α → Bool) (f : α → PyData) (r : α → DEnv) : TE := fun σ H Q => ∃ a : { a // a ∈ xs ∧ p a = true }, tEN K B (r a.1) (fun y => y = .dat (f a.1)) σ H Q
/-- the reading of a comprehension whose items are the data enc a, a in xs -/
theorem lc_read {K : PySem.W.Frag} {xs : List α} {enc : α → PyData} {p : α → Bool} {f : α → PyData} {r : α → DEnv} {gT : DEnv → PyData → DEnv → Prop} {ts vs : List Nat}
    (hr : ∀ a ∈ xs, gT (wp ρ vs) (enc a) (r a)) (hts : ∀ σ σ' : L2.St, L2.wipe σ' ts = L2.wipe (L2.wipe σ vs) ts → L2.wipe σ' vs = L2.wipe σ vs) (hl : xs.length ≤ sizeLine) (σ : L2.St) (H : Hp) (Q : VK)
    (h : tEN K B ρ (fun y => y = Li ((xs.filter p).map f)) σ H Q) :
    tLc (tEI K B ρ (xs.map enc)) (tG K gT ts) (ttL K B xs p r) (teL K B xs p f r) vs σ H Q := by
  obtain ⟨M, k, q⟩ := h
  refine ⟨M, k, fun J M1 H1 gr iok D nD => ?_⟩
  have k1 := k.gr gr
  have hw := k1.off nD
  have hn : (xs.map enc).length = xs.length := List.length_map ..
  refine lc_it iok.walk (g := tG K gT ts) (tt := ttL K B xs p r) (te := teL K B xs p f r) (vs := vs) (σ := σ) (H1 := H1) (D := D) (Qd := fun H => Q (.ref D) H) (fun i H2 => ∃ M2 acc, Gr B M1 H1 M2 H2 ∧ H2 D = some (.lst acc) ∧ M2 D = none ∧ DqAll K M2 acc (((xs.take i).filter p).map f)) ?_ ?_ ?_ ?_
  · refine ⟨M1, [], k1.refl.side nD (k1.clr nD) hw, upd_same, k1.clr nD, ?_⟩
    exact .nil
  · rintro i H2 _ ⟨M2, acc, g2, _⟩
    exact ⟨M2, g2.mm, g2.mh⟩
  · rintro i x H2 H3 hi ⟨M2, acc, g2, hD, mD, hA⟩ hy
    rw [hn] at hi
    have e : xs[i]? = some xs[i] := List.getElem?_eq_getElem hi
    have e2 : (xs.map enc)[i]? = some (enc xs[i]) := by rw [List.getElem?_map, e] <;> rfl
    obtain ⟨M3, gi, hx⟩ := hy M2 _ g2.mm g2.mh e2
    have k2 := k1.gr g2
    have g3 := k2.gi gi
    have k3 := k2.gr g3
    have am : xs[i] ∈ xs := List.getElem_mem hi
    refine ⟨B, M3, wp ρ vs, enc xs[i], r xs[i], k3.wipe vs, hx, hr _ am, fun σ' hσ kk => ⟨hts σ σ' hσ, ⟨xs[i], am⟩, M3, kk, fun b M4 H4 eb g4 => ?_⟩⟩
    have hD4 : ∀ {M5 H5 : Hp}, Gr B M2 H2 M5 H5 → H5 D = some (.lst acc) ∧ M5 D = none := fun g => ⟨g.hh D _ hw hD, g.fr D _ hD rfl mD⟩
    subst eb
    by_cases hb : p xs[i] = true
    · show (if p xs[i] = true then _ else _)
      rw [if_pos hb]
      refine ⟨⟨xs[i], am, hb⟩, M4, kk.gr g4, fun y v M5 H5 ey g5 r5 => ?_⟩
      subst ey
      have g25 : Gr B M2 H2 M5 H5 := (g3.trans g4).trans g5
      obtain ⟨h5, m5⟩ := hD4 g25
      have hlen := dps_len hA
      have hsm : acc.length < sizeLine := by
        have h1 := List.length_filter_le p (xs.take i)
        rw [List.length_map] at hlen
        rw [List.length_take] at h1
        omega
      refine ⟨acc, h5, hsm, M5, acc ++ [v], (g2.trans g25).side nD m5 hw, upd_same, m5, ?_⟩
      rw [take_at e, List.filter_append, List.map_append]
      have e3 : [xs[i]].filter p = [xs[i]] := by rw [List.filter_cons, if_pos hb]; rfl
      rw [e3]
      exact dps_app (dps_up g25.mm _ _ hA) (.cons r5 .nil)
    · show (if p xs[i] = true then _ else _)
      rw [if_neg hb]
      have g24 : Gr B M2 H2 M4 H4 := g3.trans g4
      obtain ⟨h4, m4⟩ := hD4 g24
      refine ⟨M4, acc, g2.trans g24, h4, m4, ?_⟩
      rw [take_at e, List.filter_append, List.map_append]
      have e3 : [xs[i]].filter p = [] := by rw [List.filter_cons, if_neg hb]; rfl
      rw [e3, List.map_nil, List.append_nil]
      exact dps_up g24.mm _ _ hA
  · rintro H2 ⟨M2, acc, g2, hD, mD, hA⟩
    rw [hn, List.take_of_length_le (Nat.le_refl _)] at hA
    have g3 := g2.keep (o := .lst acc) nD mD hD
    exact q _ _ _ _ rfl (gr.trans g3) (.lst upd_same (dps_up (fun a u h => by rw [upd_ne (ne_of_none h mD)]; exact h) _ _ hA))
theorem ee_lcG {xs : List α} {enc : α → PyData} {p : α → Bool} {f : α → PyData} {r : α → DEnv} {gT : DEnv → PyData → DEnv → Prop} {ts : List Nat} (hc : X.calm = true) (hN : X.N.Nodup) (hi : EI X B ρ tg iter (xs.map enc)) (ok : BlkOk X.N X.env.scope scope own)
    (hg : ∀ s H C cl fp, EG (Blk X s H scope C cl fp) tg gT ts) (hr : ∀ a ∈ xs, gT (wp ρ (own.map (·.2))) (enc a) (r a)) (hts : ∀ σ σ' : L2.St, L2.wipe σ' ts = L2.wipe (L2.wipe σ (own.map (·.2))) ts → L2.wipe σ' (own.map (·.2)) = L2.wipe σ (own.map (·.2)))
    (ht : ∀ s H C cl fp, ∀ a ∈ xs, ETs (Blk X s H scope C cl fp) B (r a) ifs (p a)) (he : ∀ s H C cl fp, ∀ a ∈ xs, p a = true → EE (Blk X s H scope C cl fp) B (r a) elt (.dat (f a))) (hl : xs.length ≤ sizeLine)
    (hs : ∀ x, foldedSetIterable iter X.env x = pure x := by intro _; rfl) : EE X B ρ (.ListComp elt [⟨tg, iter, ifs, 0⟩] scope pos) (Li ((xs.filter p).map f)) :=
  pe_imp (pe_lc hc hN hi ok (fun s H C cl fp => (hg s H C cl fp).pg) (fun s H C cl fp => pts_any fun a : { a // a ∈ xs } => ht s H C cl fp a.1 a.2) (fun s H C cl fp => pe_any fun a : { a // a ∈ xs ∧ p a = true } => he s H C cl fp a.1 a.2.1 a.2.2) hs)
    fun σ H Q q => lc_read hr hts hl σ H Q q
/-- [elt for x in iter if ..] -/
theorem ee_lc1 {i : Nat} {x : Str} {px : Pos} {xs : List α} {enc : α → PyData} {p : α → Bool} {f : α → PyData} (hc : X.calm = true) (hN : X.N.Nodup) (hi : EI X B ρ (.Name x px) iter (xs.map enc)) (ok : blkC X.N X.env.scope scope [(x, i)] = true)
    (ht : ∀ s H C cl fp, ∀ a ∈ xs, ETs (Blk X s H scope C cl fp) B ((wp ρ [i]).set i (some (.im (.dat (enc a))))) ifs (p a))
    (he : ∀ s H C cl fp, ∀ a ∈ xs, p a = true → EE (Blk X s H scope C cl fp) B ((wp ρ [i]).set i (some (.im (.dat (enc a))))) elt (.dat (f a))) (hl : xs.length ≤ sizeLine) (hx : X.N[i]? = some x := by rfl)
    (hg : ∀ s H C cl fp, EG (Blk X s H scope C cl fp) (.Name x px) (g1 i) [i] := by exact fun _ _ _ _ _ => eg_1 (by assumption)) (hs : ∀ x, foldedSetIterable iter X.env x = pure x := by intro _; rfl) : EE X B ρ (.ListComp elt [⟨.Name x px, iter, ifs, 0⟩] scope pos) (Li ((xs.filter p).map f)) :=
  ee_lcG (own := [(x, i)]) (r := fun a => (wp ρ [i]).set i (some (.im (.dat (enc a))))) hc hN hi (blkOk_by ok) hg (fun _ _ => rfl) (fun σ σ' h => h.trans (set_none_set ..)) ht he hl hs
theorem filter_yes {α : Type} (xs : List α) : xs.filter (fun _ => true) = xs := by simp
/-- [elt for x in iter] -/
theorem ee_lc0 {i : Nat} {x : Str} {px : Pos} {xs : List α} {enc : α → PyData} {f : α → PyData} (hc : X.calm = true) (hN : X.N.Nodup) (hi : EI X B ρ (.Name x px) iter (xs.map enc)) (ok : blkC X.N X.env.scope scope [(x, i)] = true)
    (he : ∀ s H C cl fp, ∀ a ∈ xs, EE (Blk X s H scope C cl fp) B ((wp ρ [i]).set i (some (.im (.dat (enc a))))) elt (.dat (f a))) (hl : xs.length ≤ sizeLine) (hx : X.N[i]? = some x := by rfl)
    (hg : ∀ s H C cl fp, EG (Blk X s H scope C cl fp) (.Name x px) (g1 i) [i] := by exact fun _ _ _ _ _ => eg_1 (by assumption)) (hs : ∀ x, foldedSetIterable iter X.env x = pure x := by intro _; rfl) : EE X B ρ (.ListComp elt [⟨.Name x px, iter, [], 0⟩] scope pos) (Li (xs.map f)) := by
  have h := ee_lc1 (p := fun _ => true) (f := f) hc hN hi ok (fun s H C cl fp a ha => ets_nil) (fun s H C cl fp a ha _ => he s H C cl fp a ha) hl hx hg hs (pos := pos)
  rw [filter_yes] at h
  exact h
theorem wipe_idem2 {i j : Nat} (hij : i ≠ j) (σ σ' : L2.St) (h : L2.wipe σ' [i, j] = L2.wipe (L2.wipe σ [i, j]) [i, j]) : L2.wipe σ' [i, j] = L2.wipe σ [i, j] := by
  rw [h]
  show ((((σ.set j none).set i none).set j none).set i none) = (σ.set j none).set i none
  rw [List.set_comm _ _ hij, set_none_set, set_none_set]
/-- [elt for x, y in iter if ..] -/
theorem ee_lc2t {i j : Nat} {x y : Str} {px py pt : Pos} {k0 : Nat} {xs : List α} {ex ey : α → PyData} {p : α → Bool} {f : α → PyData} (hc : X.calm = true) (hN : X.N.Nodup) (hij : i ≠ j) (hi : EI X B ρ (.Tuple [.Name x px, .Name y py] k0 pt) iter (xs.map fun a => .tuple [ex a, ey a])) (ok : blkC X.N X.env.scope scope [(x, i), (y, j)] = true)
    (ht : ∀ s H C cl fp, ∀ a ∈ xs, ETs (Blk X s H scope C cl fp) B (((wp ρ [i, j]).set i (some (.im (.dat (ex a))))).set j (some (.im (.dat (ey a))))) ifs (p a))
    (he : ∀ s H C cl fp, ∀ a ∈ xs, p a = true → EE (Blk X s H scope C cl fp) B (((wp ρ [i, j]).set i (some (.im (.dat (ex a))))).set j (some (.im (.dat (ey a))))) elt (.dat (f a))) (hl : xs.length ≤ sizeLine) (hx : X.N[i]? = some x := by rfl) (hy : X.N[j]? = some y := by rfl)
    (hg : ∀ s H C cl fp, EG (Blk X s H scope C cl fp) (.Tuple [.Name x px, .Name y py] k0 pt) (g2 i j) [i, j] := by exact fun _ _ _ _ _ => eg_2 (by first | rfl | assumption) (by assumption) (by decide)) (hs : ∀ x, foldedSetIterable iter X.env x = pure x := by intro _; rfl) :
    EE X B ρ (.ListComp elt [⟨.Tuple [.Name x px, .Name y py] k0 pt, iter, ifs, 0⟩] scope pos) (Li ((xs.filter p).map f)) :=
  ee_lcG (own := [(x, i), (y, j)]) (r := fun a => ((wp ρ [i, j]).set i (some (.im (.dat (ex a))))).set j (some (.im (.dat (ey a))))) hc hN hi (blkOk_by ok) hg (fun _ _ => ⟨_, _, rfl, rfl⟩) (wipe_idem2 hij) ht he hl hs
theorem ee_lc2n {i j : Nat} {x y : Str} {px py pt : Pos} {k0 : Nat} {xs : List α} {ex ey : α → PyData} {f : α → PyData} (hc : X.calm = true) (hN : X.N.Nodup) (hij : i ≠ j) (hi : EI X B ρ (.Tuple [.Name x px, .Name y py] k0 pt) iter (xs.map fun a => .tuple [ex a, ey a])) (ok : blkC X.N X.env.scope scope [(x, i), (y, j)] = true)
    (he : ∀ s H C cl fp, ∀ a ∈ xs, EE (Blk X s H scope C cl fp) B (((wp ρ [i, j]).set i (some (.im (.dat (ex a))))).set j (some (.im (.dat (ey a))))) elt (.dat (f a))) (hl : xs.length ≤ sizeLine) (hx : X.N[i]? = some x := by rfl) (hy : X.N[j]? = some y := by rfl)
    (hg : ∀ s H C cl fp, EG (Blk X s H scope C cl fp) (.Tuple [.Name x px, .Name y py] k0 pt) (g2 i j) [i, j] := by exact fun _ _ _ _ _ => eg_2 (by first | rfl | assumption) (by assumption) (by decide)) (hs : ∀ x, foldedSetIterable iter X.env x = pure x := by intro _; rfl) :
    EE X B ρ (.ListComp elt [⟨.Tuple [.Name x px, .Name y py] k0 pt, iter, [], 0⟩] scope pos) (Li (xs.map f)) := by
  have h := ee_lc2t (p := fun _ => true) (f := f) hc hN hij hi ok (fun s H C cl fp a ha => ets_nil) (fun s H C cl fp a ha _ => he s H C cl fp a ha) hl hx hy hg hs (pos := pos)
  rw [filter_yes] at h
  exact h
end
end K5
/-! LayE: statements told by data; defs and their calls. -/
namespace K5
open PySem PySem.Spec PyProof.Rows L2

inductive Res where
  | nx (ρ : DEnv)
  | rt (x : Im)
  | bk (ρ : DEnv)
  | ct (ρ : DEnv)
def Ps (K : PySem.W.Frag) (B : Bs) (D : Ends) (M : Hp) : Res → Prop
  | .nx ρ => ∀ σ' M' H', Same M M' → Ok K B M' H' σ' ρ → D.nx σ' H'
  | .bk ρ => ∀ σ' M' H', Same M M' → Ok K B M' H' σ' ρ → D.bk σ' H'
  | .ct ρ => ∀ σ' M' H', Same M M' → Ok K B M' H' σ' ρ → D.ct σ' H'
  | .rt x => ∀ v M' H', Same M M' → Ok K B M' H' [] [] → RepI K M' v x → D.rt v H'
def tXX (K : PySem.W.Frag) (B : Bs) (ρ : DEnv) (R : Res → Prop) : TS := fun D σ H => ∃ M, Ok K B M H σ ρ ∧ ∀ r, R r → Ps K B D M r
abbrev X1 (X : Cx) (B : Bs) (ρ : DEnv) (st : Stmt) (R : Res → Prop) : Prop := PS X st (tXX X.K B ρ R)
abbrev XX (X : Cx) (B : Bs) (ρ : DEnv) (sts : List Stmt) (R : Res → Prop) : Prop := PSs X sts (tXX X.K B ρ R)
theorem Ps.up {K : PySem.W.Frag} {B : Bs} {D : Ends} {M M1 : Hp} (s : Same M M1) : ∀ {r : Res}, Ps K B D M r → Ps K B D M1 r
  | .nx _, h => fun σ' M' H' s2 k => h σ' M' H' (s.trans s2) k
  | .bk _, h => fun σ' M' H' s2 k => h σ' M' H' (s.trans s2) k
  | .ct _, h => fun σ' M' H' s2 k => h σ' M' H' (s.trans s2) k
  | .rt _, h => fun v M' H' s2 k r => h v M' H' (s.trans s2) k r

section
variable {X : Cx} {B : Bs} {ρ : DEnv} {pos p : Pos} {e a b c tg iter elt : Expr} {st : Stmt} {sts : List Stmt} {R : Res → Prop}
theorem xx_mono {R' : Res → Prop} (h : XX X B ρ sts R) (w : ∀ r, R r → R' r) : XX X B ρ sts R' := pss_imp h fun D σ H ⟨M, k, q⟩ => ⟨M, k, fun r hr => q r (w r hr)⟩
theorem x1_mono {R' : Res → Prop} (h : X1 X B ρ st R) (w : ∀ r, R r → R' r) : X1 X B ρ st R' := ps_imp h fun D σ H ⟨M, k, q⟩ => ⟨M, k, fun r hr => q r (w r hr)⟩
theorem xx_nil (h : R (.nx ρ)) : XX X B ρ [] R := pss_imp pss_nil fun D σ H ⟨M, k, q⟩ => q _ h σ M H (Same.refl M) k
/-- one statement, the rest -/
theorem xx_seq {R1 : Res → Prop} (h1 : X1 X B ρ st R1) (h2 : ∀ ρ', R1 (.nx ρ') → XX X B ρ' sts R) (h3 : ∀ x, R1 (.rt x) → R (.rt x)) (h4 : ∀ ρ', R1 (.bk ρ') → R (.bk ρ')) (h5 : ∀ ρ', R1 (.ct ρ') → R (.ct ρ')) : XX X B ρ (st :: sts) R := by
  have hs : PSs X sts (fun D σ H => ∃ a : { ρ' // R1 (.nx ρ') }, tXX X.K B a.1 R D σ H) := pss_any fun a => h2 a.1 a.2
  refine pss_imp (pss_cons h1 hs) fun D σ H ⟨M, k, q⟩ => ⟨M, k, fun r hr => ?_⟩
  cases r with
  | nx ρ' => exact fun σ' M' H' s2 k2 => ⟨⟨ρ', hr⟩, M', k2, fun r2 hr2 => (q r2 hr2).up s2⟩
  | rt x => exact q _ (h3 x hr)
  | bk ρ' => exact q _ (h4 ρ' hr)
  | ct ρ' => exact q _ (h5 ρ' hr)
/-- a statement that goes on with just one outcome -/
theorem xx_nx {ρ' : DEnv} (h1 : X1 X B ρ st fun r => r = .nx ρ') (h2 : XX X B ρ' sts R) : XX X B ρ (st :: sts) R :=
  xx_seq h1 (fun ρ2 e => by cases e; exact h2) (fun _ e => nomatch e) (fun _ e => nomatch e) (fun _ e => nomatch e)
/-- the last one -/
theorem xx_end (h : X1 X B ρ st R) : XX X B ρ [st] R := pss_one h
/-- x = e -/
theorem x1_set {i : Nat} {x : Str} {y : Im} {px : Pos} (hN : X.N.Nodup) (he : EE X B ρ e y) (hi : X.N[i]? = some x := by rfl) (hx : Loc X.env.scope x := by first | exact .inl rfl | exact .inr rfl) (hs : swapsWith e (some (.Name x px)) pos.line X.env = pure false := by rfl)
    (hf : X.fn x = true ∨ X.env.scope.names.lookup x = some .local := by first | exact .inl rfl | exact .inr rfl) : X1 X B ρ (.Assign [.Name x px] e pos) fun r => r = .nx (ρ.set i (some (.im y))) :=
  ps_imp (ps_set hN hi hx he hs hf) fun D σ H ⟨M, k, q⟩ => ⟨M, k, fun z v M1 H1 e1 g1 r1 => by
    subst e1
    exact q _ rfl _ M1 H1 g1.mm ((k.gr g1).put r1)⟩
theorem xx_set (i : Nat) {x : Str} {y : Im} {px : Pos} (hN : X.N.Nodup) (he : EE X B ρ e y) (h : XX X B (ρ.set i (some (.im y))) sts R) (hi : X.N[i]? = some x := by rfl) (hx : Loc X.env.scope x := by first | exact .inl rfl | exact .inr rfl) (hs : swapsWith e (some (.Name x px)) pos.line X.env = pure false := by rfl)
    (hf : X.fn x = true ∨ X.env.scope.names.lookup x = some .local := by first | exact .inl rfl | exact .inr rfl) : XX X B ρ (.Assign [.Name x px] e pos :: sts) R := xx_nx (x1_set hN he hi hx hs hf) h
/-- an expression whose value is dropped -/
theorem xx_drop {y : Im} (he : EE X B ρ e y) (h : XX X B ρ sts R) (hs : swapsWith e none pos.line X.env = pure false := by rfl) : XX X B ρ (.Expr e pos :: sts) R :=
  xx_nx (ρ' := ρ) (ps_imp (ps_expr he hs) fun D σ H ⟨M, k, q⟩ => ⟨M, k, fun z v M1 H1 e1 g1 r1 => q _ rfl _ M1 H1 g1.mm (k.gr g1)⟩) h
theorem x1_ret {y : Im} (he : EE X B ρ e y) (h : R (.rt y)) : X1 X B ρ (.Return (some e) pos) R :=
  ps_imp (ps_ret he) fun D σ H ⟨M, k, q⟩ => ⟨M, k, fun z v M1 H1 e1 g1 r1 => by
    subst e1
    exact q _ h v M1 H1 g1.mm (k.gr g1).bare r1⟩
theorem xx_ret {y : Im} (he : EE X B ρ e y) (h : R (.rt y)) : XX X B ρ (.Return (some e) pos :: sts) R :=
  xx_seq (x1_ret he (R := fun r => r = .rt y) rfl) (fun _ e => nomatch e) (fun x e => by cases e; exact h) (fun _ e => nomatch e) (fun _ e => nomatch e)
theorem x1_if {t : Bool} {th el : List Stmt} (hc : ET X B ρ c t) (h1 : t = true → XX X B ρ th R) (h2 : t = false → XX X B ρ el R) : X1 X B ρ (.If c th el pos) R := by
  cases t with
  | true => exact ps_imp (ps_if hc (h1 rfl) pss_never) fun D σ H ⟨M, k, q⟩ => ⟨M, k, fun z M1 H1 e1 g1 => by
      subst e1
      show (if true = true then _ else _)
      rw [if_pos rfl]
      exact ⟨M1, k.gr g1, fun r hr => (q r hr).up g1.mm⟩⟩
  | false => exact ps_imp (ps_if hc pss_never (h2 rfl)) fun D σ H ⟨M, k, q⟩ => ⟨M, k, fun z M1 H1 e1 g1 => by
      subst e1
      show (if false = true then _ else _)
      rw [if_neg (by decide)]
      exact ⟨M1, k.gr g1, fun r hr => (q r hr).up g1.mm⟩⟩
/-- if c: raise ..: the test does not hold -/
theorem xx_ifn {t : Bool} {th : List Stmt} (hc : ET X B ρ c t) (ht : t = false) (h : XX X B ρ sts R) : XX X B ρ (.If c th [] pos :: sts) R :=
  xx_nx (ρ' := ρ) (x1_if hc (fun e => by rw [ht] at e; cases e) fun _ => xx_nil rfl) h
theorem xx_ify {t : Bool} {th el : List Stmt} (hc : ET X B ρ c t) (ht : t = true) (h1 : XX X B ρ th (fun r => match r with | .nx ρ' => XX X B ρ' sts R | z => R z)) : XX X B ρ (.If c th el pos :: sts) R :=
  xx_seq (x1_if hc (fun _ => h1) fun e => by rw [ht] at e; cases e) (fun _ h => h) (fun _ h => h) (fun _ h => h) (fun _ h => h)
/-- both ways, joined by what is kept of the slots -/
theorem xx_if {t : Bool} {th el : List Stmt} (hc : ET X B ρ c t) (h1 : t = true → XX X B ρ th (fun r => match r with | .nx ρ' => XX X B ρ' sts R | z => R z)) (h2 : t = false → XX X B ρ el (fun r => match r with | .nx ρ' => XX X B ρ' sts R | z => R z)) : XX X B ρ (.If c th el pos :: sts) R :=
  xx_seq (x1_if hc h1 h2) (fun _ h => h) (fun _ h => h) (fun _ h => h) (fun _ h => h)
theorem x1_cont (h : R (.ct ρ)) : X1 X B ρ (.Continue pos) R := ps_imp ps_continue fun D σ H ⟨M, k, q⟩ => q _ h σ M H (Same.refl M) k

/-- less is known -/
def Le : DEnv → DEnv → Prop
  | [], [] => True
  | none :: r, _ :: s => Le r s
  | some e :: r, f :: s => f = some e ∧ Le r s
  | _, _ => False
theorem Le.len : ∀ {ρ ρ' : DEnv}, Le ρ ρ' → ρ.length = ρ'.length
  | [], [], _ => rfl
  | none :: r, _ :: s, h => congrArg Nat.succ (Le.len (ρ := r) (ρ' := s) h)
  | some e :: r, f :: s, h => congrArg Nat.succ (Le.len (ρ := r) (ρ' := s) h.2)
  | [], _ :: _, h => h.elim
  | none :: _, [], h => h.elim
  | some _ :: _, [], h => h.elim
theorem Le.at_ : ∀ {ρ ρ' : DEnv} {i : Nat} {e : En}, Le ρ ρ' → ρ[i]? = some (some e) → ρ'[i]? = some (some e)
  | [], [], i, e, _, h => by simp at h
  | none :: r, _ :: s, 0, e, _, h => by simp at h
  | none :: r, _ :: s, i + 1, e, h, h2 => by
    have := Le.at_ (ρ := r) (ρ' := s) (i := i) (e := e) h (by simpa using h2)
    simpa using this
  | some x :: r, f :: s, 0, e, h, h2 => by
    have e1 : x = e := by simpa using h2
    subst e1
    rw [h.1]
    rfl
  | some x :: r, f :: s, i + 1, e, h, h2 => by
    have := Le.at_ (ρ := r) (ρ' := s) (i := i) (e := e) h.2 (by simpa using h2)
    simpa using this
  | [], _ :: _, _, _, h, _ => h.elim
  | none :: _, [], _, _, h, _ => h.elim
  | some _ :: _, [], _, _, h, _ => h.elim
theorem Le.refl : ∀ ρ : DEnv, Le ρ ρ
  | [] => trivial
  | none :: r => Le.refl r
  | some e :: r => ⟨rfl, Le.refl r⟩
theorem Ok.le {K : PySem.W.Frag} {M H : Hp} {σ : L2.St} {ρ' : DEnv} (k : Ok K B M H σ ρ) (h : Le ρ' ρ) : Ok K B M H σ ρ' := k.drop h.len fun i e => h.at_

/-! ### for -/
/-- a turn's end, seen from the loop -/
def Tn (I : Nat → DEnv → Prop) (R : Res → Prop) (i : Nat) : Res → Prop
  | .nx ρ => ∃ ρ', Le ρ' ρ ∧ I (i + 1) ρ'
  | .ct ρ => ∃ ρ', Le ρ' ρ ∧ I (i + 1) ρ'
  | .bk ρ => R (.nx ρ)
  | .rt x => R (.rt x)
theorem x1_for {ds : List PyData} {body : List Stmt} {gT : DEnv → PyData → DEnv → Prop} {ts : List Nat} (I : Nat → DEnv → Prop) (hp : PassesOwn (model X.prog X.w) X.A X.env X.xe) (hc : X.calm = true) (hi : EI X B ρ tg iter ds) (hg : EG X tg gT ts) (h0 : I 0 ρ)
    (hb : ∀ i d ρ1, ds[i]? = some d → I i ρ1 → ∃ ρ2, gT ρ1 d ρ2 ∧ XX X B ρ2 body (Tn I R i)) (hd : ∀ ρ1, I ds.length ρ1 → R (.nx ρ1)) (hs : ∀ x, foldedSetIterable iter X.env x = pure x := by intro _; rfl) : X1 X B ρ (.For tg iter body [] pos) R := by
  have hb2 : PSs X body (fun D σ H => ∃ a : { q : Nat × DEnv // XX X B q.2 body (Tn I R q.1) }, tXX X.K B a.1.2 (Tn I R a.1.1) D σ H) := pss_any fun a => a.2
  refine ps_imp (ps_for hp hc hi hg.pg hb2 hs) fun D σ H ⟨M, k, q⟩ => ⟨M, k, fun J M1 H1 gr iok => ?_⟩
  refine for_it iok.walk (g := tG X.K gT ts) (tb := fun D σ H => ∃ a : { q : Nat × DEnv // XX X B q.2 body (Tn I R q.1) }, tXX X.K B a.1.2 (Tn I R a.1.1) D σ H) (D := D) (σ := σ) (H := H1) (fun i σ2 H2 => ∃ M2 ρ2, Same M1 M2 ∧ Ok X.K B M2 H2 σ2 ρ2 ∧ I i ρ2) ⟨M1, ρ, Same.refl _, k.gr gr, h0⟩ ?_ ?_ ?_
  · rintro i σ2 H2 _ ⟨M2, ρ2, s2, k2, _⟩
    exact ⟨M2, s2, k2.mh⟩
  · rintro i x σ2 H2 H3 hi ⟨M2, ρ2, s2, k2, i2⟩ hy
    obtain ⟨M3, gi, hx⟩ := hy M2 ds[i] s2 k2.mh (List.getElem?_eq_getElem hi)
    have g3 := k2.gi gi
    obtain ⟨ρ3, hg3, hbody⟩ := hb i ds[i] ρ2 (List.getElem?_eq_getElem hi) i2
    refine ⟨B, M3, ρ2, ds[i], ρ3, k2.gr g3, hx, hg3, fun σ' _ kk => ⟨⟨(i, ρ3), hbody⟩, M3, kk, fun r hr => ?_⟩⟩
    have s13 := s2.trans g3.mm
    cases r with
    | nx ρ4 =>
      obtain ⟨ρ5, l5, i5⟩ := hr
      exact fun σ4 M4 H4 s4 k4 => ⟨M4, ρ5, s13.trans s4, k4.le l5, i5⟩
    | ct ρ4 =>
      obtain ⟨ρ5, l5, i5⟩ := hr
      exact fun σ4 M4 H4 s4 k4 => ⟨M4, ρ5, s13.trans s4, k4.le l5, i5⟩
    | bk ρ4 => exact fun σ4 M4 H4 s4 k4 => q _ hr σ4 M4 H4 ((gr.mm.trans s13).trans s4) k4
    | rt x => exact fun v M4 H4 s4 k4 r4 => q _ hr v M4 H4 ((gr.mm.trans s13).trans s4) k4 r4
  · rintro σ2 H2 ⟨M2, ρ2, s2, k2, i2⟩
    exact q _ (hd ρ2 i2) σ2 M2 H2 (gr.mm.trans s2) k2

/-! ### while -/
def Tw (I : Nat → DEnv → Prop) (R : Res → Prop) (m : Nat) : Res → Prop
  | .nx ρ => ∃ ρ' m', Le ρ' ρ ∧ m' < m ∧ I m' ρ'
  | .ct ρ => ∃ ρ' m', Le ρ' ρ ∧ m' < m ∧ I m' ρ'
  | .bk ρ => R (.nx ρ)
  | .rt x => R (.rt x)
theorem x1_while {body : List Stmt} (I : Nat → DEnv → Prop) (hp : PassesOwn (model X.prog X.w) X.A X.env X.xe) (m0 : Nat) (h0 : I m0 ρ)
    (hb : ∀ m ρ1, I m ρ1 → ∃ t, ET X B ρ1 c t ∧ (t = false → R (.nx ρ1)) ∧ (t = true → XX X B ρ1 body (Tw I R m))) : X1 X B ρ (.While c body [] pos) R := by
  have hc2 : PT X c (fun σ H Q => ∃ a : { q : DEnv × Bool // ET X B q.1 c q.2 }, tTN X.K B a.1.1 (fun z => z = a.1.2) σ H Q) := pt_any fun a => a.2
  have hb2 : PSs X body (fun D σ H => ∃ a : { q : Nat × DEnv // XX X B q.2 body (Tw I R q.1) }, tXX X.K B a.1.2 (Tw I R a.1.1) D σ H) := pss_any fun a => a.2
  refine ps_imp (ps_while hp hc2 hb2) fun D σ H ⟨M, k, q⟩ => ?_
  refine ⟨fun m σ2 H2 => ∃ M2 ρ2, Same M M2 ∧ Ok X.K B M2 H2 σ2 ρ2 ∧ I m ρ2, ⟨m0, M, ρ, Same.refl _, k, h0⟩, ?_⟩
  rintro m σ2 H2 ⟨M2, ρ2, s2, k2, i2⟩
  obtain ⟨t, ht, hf, hy⟩ := hb m ρ2 i2
  refine ⟨⟨(ρ2, t), ht⟩, M2, k2, fun z M3 H3 ez g3 => ?_⟩
  subst ez
  have s3 := s2.trans g3.mm
  have k3 := k2.gr g3
  cases z with
  | false =>
    show (if false = true then _ else _)
    rw [if_neg (by decide)]
    exact q _ (hf rfl) σ2 M3 H3 s3 k3
  | true =>
    show (if true = true then _ else _)
    rw [if_pos rfl]
    refine ⟨fun σ4 H4 => ∃ m', m' < m ∧ ∃ M2 ρ2, Same M M2 ∧ Ok X.K B M2 H4 σ4 ρ2 ∧ I m' ρ2, fun σ4 H4 h => h, ⟨(m, ρ2), hy rfl⟩, M3, k3, fun r hr => ?_⟩
    cases r with
    | nx ρ4 =>
      obtain ⟨ρ5, m5, l5, hm, i5⟩ := hr
      exact fun σ4 M4 H4 s4 k4 => ⟨m5, hm, M4, ρ5, s3.trans s4, k4.le l5, i5⟩
    | ct ρ4 =>
      obtain ⟨ρ5, m5, l5, hm, i5⟩ := hr
      exact fun σ4 M4 H4 s4 k4 => ⟨m5, hm, M4, ρ5, s3.trans s4, k4.le l5, i5⟩
    | bk ρ4 => exact fun σ4 M4 H4 s4 k4 => q _ hr σ4 M4 H4 (s3.trans s4) k4
    | rt x => exact fun v M4 H4 s4 k4 r4 => q _ hr v M4 H4 (s3.trans s4) k4 r4
end

/-! ### defs -/
/-- what a def is worth: R of its arguments and its answer -/
def spR (K : PySem.W.Frag) (R : List Im → Im → Prop) : Sp := fun vs H Q _ => ∃ M xs y, Same M H ∧ RepIs K M vs xs ∧ R xs y ∧ ∀ v M' H', Gr (bs0 H M) M H M' H' → RepI K M' v y → Q v H'
def Cal (P : Program) (w : World) (K : PySem.W.Frag) (mg : Str → Option Value) (base : Heap) (k : Nat) (x : Str) (ps : List Str) (sp : Sp) : Prop :=
  ∃ f fd, mg x = some (.ref f) ∧ PySem.W.keepIn K (.ref f) = true ∧ Binds K fd ps [] ∧ FnOk P w K mg base CX0 k f fd ps sp
theorem Gr.of0 {B : Bs} {F M0 M H M' H' : Hp} (g : Gr (bs0 F M0) M H M' H') (v : B.V H) : Gr B M H M' H' :=
  ⟨g.mm, fun a o _ h => g.hh a o (fun z => z) h, g.fr, g.mh, B.loc H H' (fun a o _ h => g.hh a o (fun z => z) h) v, g.th⟩
section
variable {X : Cx} {B : Bs} {ρ : DEnv} {pos p : Pos} {e : Expr} {es : List Expr}
theorem ee_call {k : Nat} {x : Str} {ps : List Str} {R : List Im → Im → Prop} {xs : List Im} {y : Im} (C : Cal X.prog X.w X.K X.mg X.base k x ps (spR X.K R)) (hr : Room k X.A) (ha : EA X B ρ (e :: es) xs) (hR : R xs y) (hg : Gl X x := by rfl)
    (hdb : (x == ("__debug__" : Str)) = false := by decide) (he : starEach (e :: es) X.env = (false, eval e X.env) :: starEach es X.env := by rfl) (hpl : (backTo pos (starEach es X.env)).any (·.1) = false := by rfl) : EE X B ρ (.Call (.Name x p) (e :: es) [] pos) y := by
  obtain ⟨f, fd, hm, hk, hb, F⟩ := C
  refine pe_imp (pe_call F hr hg hm hk hb .nil pass0 ha hdb he hpl) fun σ H Q ⟨M, k, q⟩ => ⟨M, k, fun vs M1 H1 g1 r1 => ?_⟩
  show spR X.K R (vs ++ []) H1 Q E0
  rw [List.append_nil]
  exact ⟨M1, xs, y, g1.mh, r1, hR, fun v M' H' g r => q y v M' H' rfl (g1.trans (g.of0 g1.vol)) r⟩
end
/-- the slots as a def finds them -/
def st0 (N : List Str) (xs : List Im) : DEnv := xs.map (fun x => some (.im x)) ++ List.replicate (N.length - xs.length) none
def pR (y : Im) : Res → Prop
  | .rt z => z = y
  | .nx _ => y = .dat .none
  | _ => False
theorem st0_get {N : List Str} {K : PySem.W.Frag} {M : Hp} {vs : List V} {xs : List Im} (r : RepIs K M vs xs) : ∀ {i : Nat} {e : En}, (st0 N xs)[i]? = some (some e) → ∃ x v, e = .im x ∧ xs[i]? = some x ∧ vs[i]? = some v ∧ RepI K M v x := by
  intro i e h
  unfold st0 at h
  by_cases hi : i < xs.length
  · rw [List.getElem?_append_left (by simpa using hi), List.getElem?_map, List.getElem?_eq_getElem hi] at h
    have e1 : En.im xs[i] = e := by simpa using h
    have aux : ∀ {vs : List V} {xs : List Im}, RepIs K M vs xs → ∀ {i : Nat} {x : Im}, xs[i]? = some x → ∃ v, vs[i]? = some v ∧ RepI K M v x := by
      intro vs xs r
      induction r with
      | nil => intro i x h; simp at h
      | cons a _ ih =>
        intro i x h
        cases i with
        | zero => simp at h; subst h; exact ⟨_, rfl, a⟩
        | succ i =>
          obtain ⟨v, h1, h2⟩ := ih (i := i) (x := x) (by simpa using h)
          exact ⟨v, by simpa using h1, h2⟩
    obtain ⟨v, h1, h2⟩ := aux r (List.getElem?_eq_getElem hi)
    exact ⟨xs[i], v, e1.symm, List.getElem?_eq_getElem hi, h1, h2⟩
  · rw [List.getElem?_append_right (by simpa using hi)] at h
    obtain ⟨_, h2⟩ := List.getElem?_eq_some_iff.mp h
    rw [List.getElem_replicate] at h2
    cases h2
theorem ok_start {N : List Str} {K : PySem.W.Frag} {M H : Hp} {vs : List V} {xs : List Im} (s : Same M H) (r : RepIs K M vs xs) (hl : xs.length ≤ N.length) : Ok K (bs0 H M) M H (L2.start N vs) (st0 N xs) where
  mm := Same.refl M
  mh := s
  fh := fun _ _ _ h => h
  ft := fun _ o h => ⟨o, h, id⟩
  fm := fun _ _ _ _ n => n
  at_ := fun i e h => by
    obtain ⟨x, v, rfl, h1, h2, h3⟩ := st0_get r h
    refine ⟨v, ?_, h3⟩
    obtain ⟨hi, _⟩ := List.getElem?_eq_some_iff.mp h2
    unfold L2.start
    rw [List.getElem?_append_left (by simpa using hi), List.getElem?_map, h2]
    rfl
  fresh := fun i e a h o _ => by
    obtain ⟨x, v, rfl, _⟩ := st0_get r h
    cases o
  sep := fun i j e e' _ h _ o _ => by
    obtain ⟨x, v, rfl, _⟩ := st0_get r h
    cases o
  stay := fun i e h => by
    obtain ⟨x, v, rfl, _⟩ := st0_get r h
    exact ⟨trivial, trivial⟩
  wm := fun _ w => w.elim
  vol := trivial
  len := by
    have := repIs_len r
    unfold st0 L2.start
    simp [this]
/-- a def by its body -/
theorem def_ok {P : Program} {w : World} {K : PySem.W.Frag} {mg : Str → Option Value} {base : Heap} {x qual : Str} {params : Arguments} {body : List Stmt} {scope : Scope} {f : Addr} {fd : FuncData} {N ps : List Str} {k : Nat} {dvs : List V} {kws : List (Str × V)} {R : List Im → Im → Prop}
    (F : FunD K x qual params body scope dvs kws f fd) (S : FnScope N ps scope) (hN : ps.length ≤ N.length) (hl : ∀ xs y, R xs y → xs.length = ps.length)
    (hb : ∀ (cdv : Value) (A : Around) (outer : List Env) (s : Shared) (H M : Hp) (E : XK) (xs : List Im) (y : Im), Room k (A.deeper (envOfC qual scope s.heap.objs.size f cdv)) → R xs y →
      XX (cxOf CX0 P w K mg base N qual scope f cdv A outer s H E).nox (bs0 H M) (st0 N xs) body (pR y)) : FnOk P w K mg base CX0 (k + 1) f fd ps (spR K R) := by
  refine F.ok S (fun vs H Q E ⟨M, xs, y, s, r, hR, q⟩ => by rw [repIs_len r]; exact hl xs y hR) (fun cdv A outer s H vs Q E hr ⟨M, xs, y, sm, r, hR, q⟩ => ⟨_, (hb cdv A outer s H M E xs y hr hR).nox, ?_⟩)
  refine ⟨M, ok_start sm r (by rw [hl xs y hR]; exact hN), fun z hz => ?_⟩
  have gr : ∀ {M' H' : Hp}, Ok K (bs0 H M) M' H' [] [] → Gr (bs0 H M) M H M' H' := fun k => ⟨k.mm, fun a o w h => k.fh a o w h, fun a o h t n => k.fm a o h t n, k.mh, trivial, fun a o h => k.ft a o h⟩
  cases z with
  | rt x =>
    have e : x = y := hz
    subst e
    exact fun v M' H' s2 k2 r2 => q v M' H' (gr k2) r2
  | nx ρ =>
    have e : y = .dat .none := hz
    subst e
    exact fun σ' M' H' s2 k2 => q .non M' H' (gr k2.bare) .non
  | bk ρ => exact hz.elim
  | ct ρ => exact hz.elim
end K5
/-! Top (printed by gen_top.py): the program's defs by their places, the facts that the walk leans on. -/
namespace K5
open PySem PySem.Spec PyProof.Rows L2
def top (i : Nat) : Stmt := PySem.Challenge.pw_onceitwas_k53_whole_cells_of_two_content.main.body.getD i (.Pass ⟨0, 0, 0, 0⟩)
abbrev s_is_integer : Stmt := top 10
abbrev s_is_number : Stmt := top 11
abbrev s_is_sequence : Stmt := top 12
abbrev s_times_itself : Stmt := top 13
abbrev s_all_standings : Stmt := top 18
abbrev s_standings_count : Stmt := top 19
abbrev s_wrong_size : Stmt := top 20
abbrev s_fits_sizes : Stmt := top 21
abbrev s_wrong_standing : Stmt := top 22
abbrev s_wrong_change : Stmt := top 23
abbrev s_need_house : Stmt := top 25
abbrev s_need_question : Stmt := top 27
abbrev s_is_window : Stmt := top 28
abbrev s_need_view : Stmt := top 29
abbrev s_cell_view : Stmt := top 30
abbrev s_seen_at : Stmt := top 31
abbrev s_shown_contents : Stmt := top 33
abbrev s_is_shown : Stmt := top 34
abbrev s_need_row : Stmt := top 35
abbrev s_need_pace : Stmt := top 37
abbrev s_need_sight : Stmt := top 39
abbrev s_is_rising_lot : Stmt := top 40
abbrev s_is_part_of : Stmt := top 41
abbrev s_least_sets : Stmt := top 42
abbrev s_need_sizes : Stmt := top 44
abbrev s_ways_house : Stmt := top 45
abbrev s_free_house : Stmt := top 46
abbrev s_marked_standing : Stmt := top 47
abbrev s_marked_standings : Stmt := top 48
abbrev s_need_marks : Stmt := top 49
abbrev s_with_marks : Stmt := top 50
abbrev s_marked_question : Stmt := top 52
abbrev s_left_paced : Stmt := top 55
abbrev s_paced_search : Stmt := top 56
abbrev s_pace_word : Stmt := top 57
abbrev s_pace_table : Stmt := top 58
abbrev s_pace_holds : Stmt := top 59
abbrev s_need_modulus : Stmt := top 60
abbrev s_round_trip : Stmt := top 61
abbrev s_law_dealt : Stmt := top 63
abbrev s_law_any : Stmt := top 64
abbrev s_law_of : Stmt := top 65
abbrev s_law_standings : Stmt := top 66
abbrev s_law_others : Stmt := top 67
abbrev s_law_marks : Stmt := top 68
abbrev s_law_moves : Stmt := top 69
abbrev s_law_spread : Stmt := top 70
abbrev s_law_outlived : Stmt := top 71
abbrev s_law_trip : Stmt := top 72
abbrev s_law : Stmt := top 73
abbrev s_House__init : Stmt := inClass (top 24) 0
abbrev s_House__len : Stmt := inClass (top 24) 2
def dd (x : Str) (st : Stmt) : He.DefD := ⟨(x, none), x, x, defArgs st, defBody st, defScope st, [], []⟩
def fn1 : List He.DefD := [dd "is_integer" s_is_integer, dd "is_number" s_is_number, dd "is_sequence" s_is_sequence, dd "times_itself" s_times_itself, dd "all_standings" s_all_standings, dd "standings_count" s_standings_count, dd "wrong_size" s_wrong_size, dd "fits_sizes" s_fits_sizes, dd "wrong_standing" s_wrong_standing, dd "wrong_change" s_wrong_change, dd "need_house" s_need_house, dd "need_question" s_need_question, dd "is_window" s_is_window, dd "need_view" s_need_view, dd "cell_view" s_cell_view, dd "seen_at" s_seen_at, dd "shown_contents" s_shown_contents, dd "is_shown" s_is_shown, dd "need_row" s_need_row, dd "need_pace" s_need_pace, dd "need_sight" s_need_sight, dd "is_rising_lot" s_is_rising_lot, dd "is_part_of" s_is_part_of, dd "least_sets" s_least_sets, dd "need_sizes" s_need_sizes, dd "ways_house" s_ways_house, dd "free_house" s_free_house, dd "marked_standing" s_marked_standing, dd "marked_standings" s_marked_standings, dd "need_marks" s_need_marks]
def fn2 : List He.DefD := [dd "with_marks" s_with_marks, dd "marked_question" s_marked_question, dd "left_paced" s_left_paced, dd "paced_search" s_paced_search, dd "pace_word" s_pace_word, dd "pace_table" s_pace_table, dd "pace_holds" s_pace_holds, dd "need_modulus" s_need_modulus, dd "round_trip" s_round_trip, dd "_law_dealt" s_law_dealt, dd "_law_any" s_law_any, dd "_law_of" s_law_of, dd "_law_standings" s_law_standings, dd "_law_others" s_law_others, dd "_law_marks" s_law_marks, dd "_law_moves" s_law_moves, dd "_law_spread" s_law_spread, dd "_law_outlived" s_law_outlived, dd "_law_trip" s_law_trip, dd "law" s_law]
def dInit : He.DefD := ⟨("House", some "__init__"), "__init__", "House.__init__", defArgs s_House__init, defBody s_House__init, defScope s_House__init, [.non, .adr (He.dflAt ("House", some "__init__") 1)], []⟩
def dLen : He.DefD := ⟨("House", some "__len__"), "__len__", "House.__len__", defArgs s_House__len, defBody s_House__len, defScope s_House__len, [], []⟩
def fnH : List He.DefD := [dInit, dLen]
abbrev fn : List He.DefD := fnH ++ fn1 ++ fn2
def fa1 : List He.Fa := [.cls "House", .mkr "House", .meth "House" "__init__", .meth "House" "__len__", .glo "House", .keep "House", .noat "House" "sizes", .noat "House" "standings", .noat "House" "changes", .noat "House" "ahead", .noat "House" "behind", .int "MOST_CELLS" 6, .int "MOST_CONTENTS" 36, .int "MOST_STANDINGS" 300, .int "MOST_LOTS" 2000]
def fa2 : List He.Fa := [.glo "is_integer", .glo "is_number", .glo "is_sequence", .glo "times_itself", .glo "all_standings", .glo "standings_count", .glo "wrong_size", .glo "fits_sizes", .glo "wrong_standing", .glo "wrong_change", .glo "need_house", .glo "need_question", .glo "is_window", .glo "need_view", .glo "cell_view", .glo "seen_at", .glo "shown_contents", .glo "is_shown", .glo "need_row", .glo "need_pace", .glo "need_sight", .glo "is_rising_lot", .glo "is_part_of", .glo "least_sets", .glo "need_sizes", .glo "ways_house", .glo "free_house", .glo "marked_standing", .glo "marked_standings", .glo "need_marks"]
def fa3 : List He.Fa := [.glo "with_marks", .glo "marked_question", .glo "left_paced", .glo "paced_search", .glo "pace_word", .glo "pace_table", .glo "pace_holds", .glo "need_modulus", .glo "round_trip", .glo "_law_dealt", .glo "_law_any", .glo "_law_of", .glo "_law_standings", .glo "_law_others", .glo "_law_marks", .glo "_law_moves", .glo "_law_spread", .glo "_law_outlived", .glo "_law_trip", .glo "law"]
def blt : List Str := ["abs", "all", "any", "bool", "enumerate", "int", "isinstance", "len", "list", "max", "range", "repr", "set", "sorted", "tuple", "zip"]
def fa4 : List He.Fa := [.free "abs", .free "all", .free "any", .free "bool", .free "enumerate", .free "int", .free "isinstance", .free "len", .free "list", .free "max", .free "range", .free "repr", .free "set", .free "sorted", .free "tuple", .free "zip"]
abbrev fa : List He.Fa := fa1 ++ fa2 ++ fa3 ++ fa4
/-- what else is asked of the class: whose instance is one -/
def xtra (K : PySem.W.Frag) : Bool := He.eqO (PySem.W.findIn K (.ref (He.ga K "House")) "__class__") (some (some (.builtin "object.__class__"))) && (He.eqO (PySem.W.specialIn K (.builtin "object.__class__") "__get__") (some (some (.builtin "getset_descriptor.__get__"))) &&
  (decide (PySem.W.takesIn K (.builtin "object.__class__") = some true) && (decide (PySem.W.mroIn K (He.ga K "House") (.type "object") = some true) && decide (PySem.W.kitOne K (.ref (He.ga K "House")) (.ref (He.ga K "House")) = some true))))
structure Txt (K : PySem.W.Frag) (mg : Str → Option Value) : Prop where
  at_ : ∃ h : Heap, K.In h ∧ h.Ns mainGlobals mg
  says : He.SaysD fa fn K
  more : xtra K = true
section
variable {K : PySem.W.Frag} {mg : Str → Option Value}
theorem Txt.fr (T : Txt K mg) (i : Nat) {x : Str} (h : fa[i]? = some (.free x) := by rfl) : mg x = none := let ⟨_, a, b⟩ := T.at_; He.free_ok a b (T.says.fact i h)
theorem Txt.gl (T : Txt K mg) (i : Nat) {x : Str} (h : fa[i]? = some (.glo x) := by rfl) : mg x = some (.ref (He.ga K x)) := let ⟨_, a, b⟩ := T.at_; He.glo_ok a b (T.says.fact i h)
theorem Txt.int (T : Txt K mg) (i : Nat) {x : Str} {n : Int} (h : fa[i]? = some (.int x n) := by rfl) : ∃ t, mg x = some (.int n t) := let ⟨_, a, b⟩ := T.at_; He.int_ok a b (T.says.fact i h)
theorem Txt.n_abs (T : Txt K mg) : mg "abs" = none := T.fr 65
theorem Txt.n_all (T : Txt K mg) : mg "all" = none := T.fr 66
theorem Txt.n_any (T : Txt K mg) : mg "any" = none := T.fr 67
theorem Txt.n_bool (T : Txt K mg) : mg "bool" = none := T.fr 68
theorem Txt.n_enumerate (T : Txt K mg) : mg "enumerate" = none := T.fr 69
theorem Txt.n_int (T : Txt K mg) : mg "int" = none := T.fr 70
theorem Txt.n_isinstance (T : Txt K mg) : mg "isinstance" = none := T.fr 71
theorem Txt.n_len (T : Txt K mg) : mg "len" = none := T.fr 72
theorem Txt.n_list (T : Txt K mg) : mg "list" = none := T.fr 73
theorem Txt.n_max (T : Txt K mg) : mg "max" = none := T.fr 74
theorem Txt.n_range (T : Txt K mg) : mg "range" = none := T.fr 75
theorem Txt.n_repr (T : Txt K mg) : mg "repr" = none := T.fr 76
theorem Txt.n_set (T : Txt K mg) : mg "set" = none := T.fr 77
theorem Txt.n_sorted (T : Txt K mg) : mg "sorted" = none := T.fr 78
theorem Txt.n_tuple (T : Txt K mg) : mg "tuple" = none := T.fr 79
theorem Txt.n_zip (T : Txt K mg) : mg "zip" = none := T.fr 80
theorem Txt.c_MOST_CELLS (T : Txt K mg) : ∃ t, mg "MOST_CELLS" = some (.int 6 t) := T.int 11
theorem Txt.c_MOST_CONTENTS (T : Txt K mg) : ∃ t, mg "MOST_CONTENTS" = some (.int 36 t) := T.int 12
theorem Txt.c_MOST_STANDINGS (T : Txt K mg) : ∃ t, mg "MOST_STANDINGS" = some (.int 300 t) := T.int 13
theorem Txt.c_MOST_LOTS (T : Txt K mg) : ∃ t, mg "MOST_LOTS" = some (.int 2000 t) := T.int 14
theorem Txt.g_is_integer (T : Txt K mg) : mg "is_integer" = some (.ref (He.ga K "is_integer")) := T.gl 15
theorem Txt.g_is_number (T : Txt K mg) : mg "is_number" = some (.ref (He.ga K "is_number")) := T.gl 16
theorem Txt.g_is_sequence (T : Txt K mg) : mg "is_sequence" = some (.ref (He.ga K "is_sequence")) := T.gl 17
theorem Txt.g_times_itself (T : Txt K mg) : mg "times_itself" = some (.ref (He.ga K "times_itself")) := T.gl 18
theorem Txt.g_all_standings (T : Txt K mg) : mg "all_standings" = some (.ref (He.ga K "all_standings")) := T.gl 19
theorem Txt.g_standings_count (T : Txt K mg) : mg "standings_count" = some (.ref (He.ga K "standings_count")) := T.gl 20
theorem Txt.g_wrong_size (T : Txt K mg) : mg "wrong_size" = some (.ref (He.ga K "wrong_size")) := T.gl 21
theorem Txt.g_fits_sizes (T : Txt K mg) : mg "fits_sizes" = some (.ref (He.ga K "fits_sizes")) := T.gl 22
theorem Txt.g_wrong_standing (T : Txt K mg) : mg "wrong_standing" = some (.ref (He.ga K "wrong_standing")) := T.gl 23
theorem Txt.g_wrong_change (T : Txt K mg) : mg "wrong_change" = some (.ref (He.ga K "wrong_change")) := T.gl 24
theorem Txt.g_need_house (T : Txt K mg) : mg "need_house" = some (.ref (He.ga K "need_house")) := T.gl 25
theorem Txt.g_need_question (T : Txt K mg) : mg "need_question" = some (.ref (He.ga K "need_question")) := T.gl 26
theorem Txt.g_is_window (T : Txt K mg) : mg "is_window" = some (.ref (He.ga K "is_window")) := T.gl 27
theorem Txt.g_need_view (T : Txt K mg) : mg "need_view" = some (.ref (He.ga K "need_view")) := T.gl 28
theorem Txt.g_cell_view (T : Txt K mg) : mg "cell_view" = some (.ref (He.ga K "cell_view")) := T.gl 29
theorem Txt.g_seen_at (T : Txt K mg) : mg "seen_at" = some (.ref (He.ga K "seen_at")) := T.gl 30
theorem Txt.g_shown_contents (T : Txt K mg) : mg "shown_contents" = some (.ref (He.ga K "shown_contents")) := T.gl 31
theorem Txt.g_is_shown (T : Txt K mg) : mg "is_shown" = some (.ref (He.ga K "is_shown")) := T.gl 32
theorem Txt.g_need_row (T : Txt K mg) : mg "need_row" = some (.ref (He.ga K "need_row")) := T.gl 33
theorem Txt.g_need_pace (T : Txt K mg) : mg "need_pace" = some (.ref (He.ga K "need_pace")) := T.gl 34
theorem Txt.g_need_sight (T : Txt K mg) : mg "need_sight" = some (.ref (He.ga K "need_sight")) := T.gl 35
theorem Txt.g_is_rising_lot (T : Txt K mg) : mg "is_rising_lot" = some (.ref (He.ga K "is_rising_lot")) := T.gl 36
theorem Txt.g_is_part_of (T : Txt K mg) : mg "is_part_of" = some (.ref (He.ga K "is_part_of")) := T.gl 37
theorem Txt.g_least_sets (T : Txt K mg) : mg "least_sets" = some (.ref (He.ga K "least_sets")) := T.gl 38
theorem Txt.g_need_sizes (T : Txt K mg) : mg "need_sizes" = some (.ref (He.ga K "need_sizes")) := T.gl 39
theorem Txt.g_ways_house (T : Txt K mg) : mg "ways_house" = some (.ref (He.ga K "ways_house")) := T.gl 40
theorem Txt.g_free_house (T : Txt K mg) : mg "free_house" = some (.ref (He.ga K "free_house")) := T.gl 41
theorem Txt.g_marked_standing (T : Txt K mg) : mg "marked_standing" = some (.ref (He.ga K "marked_standing")) := T.gl 42
theorem Txt.g_marked_standings (T : Txt K mg) : mg "marked_standings" = some (.ref (He.ga K "marked_standings")) := T.gl 43
theorem Txt.g_need_marks (T : Txt K mg) : mg "need_marks" = some (.ref (He.ga K "need_marks")) := T.gl 44
theorem Txt.g_with_marks (T : Txt K mg) : mg "with_marks" = some (.ref (He.ga K "with_marks")) := T.gl 45
theorem Txt.g_marked_question (T : Txt K mg) : mg "marked_question" = some (.ref (He.ga K "marked_question")) := T.gl 46
theorem Txt.g_left_paced (T : Txt K mg) : mg "left_paced" = some (.ref (He.ga K "left_paced")) := T.gl 47
theorem Txt.g_paced_search (T : Txt K mg) : mg "paced_search" = some (.ref (He.ga K "paced_search")) := T.gl 48
theorem Txt.g_pace_word (T : Txt K mg) : mg "pace_word" = some (.ref (He.ga K "pace_word")) := T.gl 49
theorem Txt.g_pace_table (T : Txt K mg) : mg "pace_table" = some (.ref (He.ga K "pace_table")) := T.gl 50
theorem Txt.g_pace_holds (T : Txt K mg) : mg "pace_holds" = some (.ref (He.ga K "pace_holds")) := T.gl 51
theorem Txt.g_need_modulus (T : Txt K mg) : mg "need_modulus" = some (.ref (He.ga K "need_modulus")) := T.gl 52
theorem Txt.g_round_trip (T : Txt K mg) : mg "round_trip" = some (.ref (He.ga K "round_trip")) := T.gl 53
theorem Txt.g_law_dealt (T : Txt K mg) : mg "_law_dealt" = some (.ref (He.ga K "_law_dealt")) := T.gl 54
theorem Txt.g_law_any (T : Txt K mg) : mg "_law_any" = some (.ref (He.ga K "_law_any")) := T.gl 55
theorem Txt.g_law_of (T : Txt K mg) : mg "_law_of" = some (.ref (He.ga K "_law_of")) := T.gl 56
theorem Txt.g_law_standings (T : Txt K mg) : mg "_law_standings" = some (.ref (He.ga K "_law_standings")) := T.gl 57
theorem Txt.g_law_others (T : Txt K mg) : mg "_law_others" = some (.ref (He.ga K "_law_others")) := T.gl 58
theorem Txt.g_law_marks (T : Txt K mg) : mg "_law_marks" = some (.ref (He.ga K "_law_marks")) := T.gl 59
theorem Txt.g_law_moves (T : Txt K mg) : mg "_law_moves" = some (.ref (He.ga K "_law_moves")) := T.gl 60
theorem Txt.g_law_spread (T : Txt K mg) : mg "_law_spread" = some (.ref (He.ga K "_law_spread")) := T.gl 61
theorem Txt.g_law_outlived (T : Txt K mg) : mg "_law_outlived" = some (.ref (He.ga K "_law_outlived")) := T.gl 62
theorem Txt.g_law_trip (T : Txt K mg) : mg "_law_trip" = some (.ref (He.ga K "_law_trip")) := T.gl 63
theorem Txt.g_law (T : Txt K mg) : mg "law" = some (.ref (He.ga K "law")) := T.gl 64
theorem Txt.d_is_integer (T : Txt K mg) : ∃ fd, FunD K "is_integer" "is_integer" (defArgs s_is_integer) (defBody s_is_integer) (defScope s_is_integer) [] [] (He.ga K "is_integer") fd := T.says.def_ 2 (d := dd "is_integer" s_is_integer)
theorem Txt.d_is_number (T : Txt K mg) : ∃ fd, FunD K "is_number" "is_number" (defArgs s_is_number) (defBody s_is_number) (defScope s_is_number) [] [] (He.ga K "is_number") fd := T.says.def_ 3 (d := dd "is_number" s_is_number)
theorem Txt.d_is_sequence (T : Txt K mg) : ∃ fd, FunD K "is_sequence" "is_sequence" (defArgs s_is_sequence) (defBody s_is_sequence) (defScope s_is_sequence) [] [] (He.ga K "is_sequence") fd := T.says.def_ 4 (d := dd "is_sequence" s_is_sequence)
theorem Txt.d_times_itself (T : Txt K mg) : ∃ fd, FunD K "times_itself" "times_itself" (defArgs s_times_itself) (defBody s_times_itself) (defScope s_times_itself) [] [] (He.ga K "times_itself") fd := T.says.def_ 5 (d := dd "times_itself" s_times_itself)
theorem Txt.d_all_standings (T : Txt K mg) : ∃ fd, FunD K "all_standings" "all_standings" (defArgs s_all_standings) (defBody s_all_standings) (defScope s_all_standings) [] [] (He.ga K "all_standings") fd := T.says.def_ 6 (d := dd "all_standings" s_all_standings)
theorem Txt.d_standings_count (T : Txt K mg) : ∃ fd, FunD K "standings_count" "standings_count" (defArgs s_standings_count) (defBody s_standings_count) (defScope s_standings_count) [] [] (He.ga K "standings_count") fd := T.says.def_ 7 (d := dd "standings_count" s_standings_count)
theorem Txt.d_wrong_size (T : Txt K mg) : ∃ fd, FunD K "wrong_size" "wrong_size" (defArgs s_wrong_size) (defBody s_wrong_size) (defScope s_wrong_size) [] [] (He.ga K "wrong_size") fd := T.says.def_ 8 (d := dd "wrong_size" s_wrong_size)
theorem Txt.d_fits_sizes (T : Txt K mg) : ∃ fd, FunD K "fits_sizes" "fits_sizes" (defArgs s_fits_sizes) (defBody s_fits_sizes) (defScope s_fits_sizes) [] [] (He.ga K "fits_sizes") fd := T.says.def_ 9 (d := dd "fits_sizes" s_fits_sizes)
theorem Txt.d_wrong_standing (T : Txt K mg) : ∃ fd, FunD K "wrong_standing" "wrong_standing" (defArgs s_wrong_standing) (defBody s_wrong_standing) (defScope s_wrong_standing) [] [] (He.ga K "wrong_standing") fd := T.says.def_ 10 (d := dd "wrong_standing" s_wrong_standing)
theorem Txt.d_wrong_change (T : Txt K mg) : ∃ fd, FunD K "wrong_change" "wrong_change" (defArgs s_wrong_change) (defBody s_wrong_change) (defScope s_wrong_change) [] [] (He.ga K "wrong_change") fd := T.says.def_ 11 (d := dd "wrong_change" s_wrong_change)
theorem Txt.d_need_house (T : Txt K mg) : ∃ fd, FunD K "need_house" "need_house" (defArgs s_need_house) (defBody s_need_house) (defScope s_need_house) [] [] (He.ga K "need_house") fd := T.says.def_ 12 (d := dd "need_house" s_need_house)
theorem Txt.d_need_question (T : Txt K mg) : ∃ fd, FunD K "need_question" "need_question" (defArgs s_need_question) (defBody s_need_question) (defScope s_need_question) [] [] (He.ga K "need_question") fd := T.says.def_ 13 (d := dd "need_question" s_need_question)
theorem Txt.d_is_window (T : Txt K mg) : ∃ fd, FunD K "is_window" "is_window" (defArgs s_is_window) (defBody s_is_window) (defScope s_is_window) [] [] (He.ga K "is_window") fd := T.says.def_ 14 (d := dd "is_window" s_is_window)
theorem Txt.d_need_view (T : Txt K mg) : ∃ fd, FunD K "need_view" "need_view" (defArgs s_need_view) (defBody s_need_view) (defScope s_need_view) [] [] (He.ga K "need_view") fd := T.says.def_ 15 (d := dd "need_view" s_need_view)
theorem Txt.d_cell_view (T : Txt K mg) : ∃ fd, FunD K "cell_view" "cell_view" (defArgs s_cell_view) (defBody s_cell_view) (defScope s_cell_view) [] [] (He.ga K "cell_view") fd := T.says.def_ 16 (d := dd "cell_view" s_cell_view)
theorem Txt.d_seen_at (T : Txt K mg) : ∃ fd, FunD K "seen_at" "seen_at" (defArgs s_seen_at) (defBody s_seen_at) (defScope s_seen_at) [] [] (He.ga K "seen_at") fd := T.says.def_ 17 (d := dd "seen_at" s_seen_at)
theorem Txt.d_shown_contents (T : Txt K mg) : ∃ fd, FunD K "shown_contents" "shown_contents" (defArgs s_shown_contents) (defBody s_shown_contents) (defScope s_shown_contents) [] [] (He.ga K "shown_contents") fd := T.says.def_ 18 (d := dd "shown_contents" s_shown_contents)
theorem Txt.d_is_shown (T : Txt K mg) : ∃ fd, FunD K "is_shown" "is_shown" (defArgs s_is_shown) (defBody s_is_shown) (defScope s_is_shown) [] [] (He.ga K "is_shown") fd := T.says.def_ 19 (d := dd "is_shown" s_is_shown)
theorem Txt.d_need_row (T : Txt K mg) : ∃ fd, FunD K "need_row" "need_row" (defArgs s_need_row) (defBody s_need_row) (defScope s_need_row) [] [] (He.ga K "need_row") fd := T.says.def_ 20 (d := dd "need_row" s_need_row)
theorem Txt.d_need_pace (T : Txt K mg) : ∃ fd, FunD K "need_pace" "need_pace" (defArgs s_need_pace) (defBody s_need_pace) (defScope s_need_pace) [] [] (He.ga K "need_pace") fd := T.says.def_ 21 (d := dd "need_pace" s_need_pace)
theorem Txt.d_need_sight (T : Txt K mg) : ∃ fd, FunD K "need_sight" "need_sight" (defArgs s_need_sight) (defBody s_need_sight) (defScope s_need_sight) [] [] (He.ga K "need_sight") fd := T.says.def_ 22 (d := dd "need_sight" s_need_sight)
theorem Txt.d_is_rising_lot (T : Txt K mg) : ∃ fd, FunD K "is_rising_lot" "is_rising_lot" (defArgs s_is_rising_lot) (defBody s_is_rising_lot) (defScope s_is_rising_lot) [] [] (He.ga K "is_rising_lot") fd := T.says.def_ 23 (d := dd "is_rising_lot" s_is_rising_lot)
theorem Txt.d_is_part_of (T : Txt K mg) : ∃ fd, FunD K "is_part_of" "is_part_of" (defArgs s_is_part_of) (defBody s_is_part_of) (defScope s_is_part_of) [] [] (He.ga K "is_part_of") fd := T.says.def_ 24 (d := dd "is_part_of" s_is_part_of)
theorem Txt.d_least_sets (T : Txt K mg) : ∃ fd, FunD K "least_sets" "least_sets" (defArgs s_least_sets) (defBody s_least_sets) (defScope s_least_sets) [] [] (He.ga K "least_sets") fd := T.says.def_ 25 (d := dd "least_sets" s_least_sets)
theorem Txt.d_need_sizes (T : Txt K mg) : ∃ fd, FunD K "need_sizes" "need_sizes" (defArgs s_need_sizes) (defBody s_need_sizes) (defScope s_need_sizes) [] [] (He.ga K "need_sizes") fd := T.says.def_ 26 (d := dd "need_sizes" s_need_sizes)
theorem Txt.d_ways_house (T : Txt K mg) : ∃ fd, FunD K "ways_house" "ways_house" (defArgs s_ways_house) (defBody s_ways_house) (defScope s_ways_house) [] [] (He.ga K "ways_house") fd := T.says.def_ 27 (d := dd "ways_house" s_ways_house)
theorem Txt.d_free_house (T : Txt K mg) : ∃ fd, FunD K "free_house" "free_house" (defArgs s_free_house) (defBody s_free_house) (defScope s_free_house) [] [] (He.ga K "free_house") fd := T.says.def_ 28 (d := dd "free_house" s_free_house)
theorem Txt.d_marked_standing (T : Txt K mg) : ∃ fd, FunD K "marked_standing" "marked_standing" (defArgs s_marked_standing) (defBody s_marked_standing) (defScope s_marked_standing) [] [] (He.ga K "marked_standing") fd := T.says.def_ 29 (d := dd "marked_standing" s_marked_standing)
theorem Txt.d_marked_standings (T : Txt K mg) : ∃ fd, FunD K "marked_standings" "marked_standings" (defArgs s_marked_standings) (defBody s_marked_standings) (defScope s_marked_standings) [] [] (He.ga K "marked_standings") fd := T.says.def_ 30 (d := dd "marked_standings" s_marked_standings)
theorem Txt.d_need_marks (T : Txt K mg) : ∃ fd, FunD K "need_marks" "need_marks" (defArgs s_need_marks) (defBody s_need_marks) (defScope s_need_marks) [] [] (He.ga K "need_marks") fd := T.says.def_ 31 (d := dd "need_marks" s_need_marks)
theorem Txt.d_with_marks (T : Txt K mg) : ∃ fd, FunD K "with_marks" "with_marks" (defArgs s_with_marks) (defBody s_with_marks) (defScope s_with_marks) [] [] (He.ga K "with_marks") fd := T.says.def_ 32 (d := dd "with_marks" s_with_marks)
theorem Txt.d_marked_question (T : Txt K mg) : ∃ fd, FunD K "marked_question" "marked_question" (defArgs s_marked_question) (defBody s_marked_question) (defScope s_marked_question) [] [] (He.ga K "marked_question") fd := T.says.def_ 33 (d := dd "marked_question" s_marked_question)
theorem Txt.d_left_paced (T : Txt K mg) : ∃ fd, FunD K "left_paced" "left_paced" (defArgs s_left_paced) (defBody s_left_paced) (defScope s_left_paced) [] [] (He.ga K "left_paced") fd := T.says.def_ 34 (d := dd "left_paced" s_left_paced)
theorem Txt.d_paced_search (T : Txt K mg) : ∃ fd, FunD K "paced_search" "paced_search" (defArgs s_paced_search) (defBody s_paced_search) (defScope s_paced_search) [] [] (He.ga K "paced_search") fd := T.says.def_ 35 (d := dd "paced_search" s_paced_search)
theorem Txt.d_pace_word (T : Txt K mg) : ∃ fd, FunD K "pace_word" "pace_word" (defArgs s_pace_word) (defBody s_pace_word) (defScope s_pace_word) [] [] (He.ga K "pace_word") fd := T.says.def_ 36 (d := dd "pace_word" s_pace_word)
theorem Txt.d_pace_table (T : Txt K mg) : ∃ fd, FunD K "pace_table" "pace_table" (defArgs s_pace_table) (defBody s_pace_table) (defScope s_pace_table) [] [] (He.ga K "pace_table") fd := T.says.def_ 37 (d := dd "pace_table" s_pace_table)
theorem Txt.d_pace_holds (T : Txt K mg) : ∃ fd, FunD K "pace_holds" "pace_holds" (defArgs s_pace_holds) (defBody s_pace_holds) (defScope s_pace_holds) [] [] (He.ga K "pace_holds") fd := T.says.def_ 38 (d := dd "pace_holds" s_pace_holds)
theorem Txt.d_need_modulus (T : Txt K mg) : ∃ fd, FunD K "need_modulus" "need_modulus" (defArgs s_need_modulus) (defBody s_need_modulus) (defScope s_need_modulus) [] [] (He.ga K "need_modulus") fd := T.says.def_ 39 (d := dd "need_modulus" s_need_modulus)
theorem Txt.d_round_trip (T : Txt K mg) : ∃ fd, FunD K "round_trip" "round_trip" (defArgs s_round_trip) (defBody s_round_trip) (defScope s_round_trip) [] [] (He.ga K "round_trip") fd := T.says.def_ 40 (d := dd "round_trip" s_round_trip)
theorem Txt.d_law_dealt (T : Txt K mg) : ∃ fd, FunD K "_law_dealt" "_law_dealt" (defArgs s_law_dealt) (defBody s_law_dealt) (defScope s_law_dealt) [] [] (He.ga K "_law_dealt") fd := T.says.def_ 41 (d := dd "_law_dealt" s_law_dealt)
theorem Txt.d_law_any (T : Txt K mg) : ∃ fd, FunD K "_law_any" "_law_any" (defArgs s_law_any) (defBody s_law_any) (defScope s_law_any) [] [] (He.ga K "_law_any") fd := T.says.def_ 42 (d := dd "_law_any" s_law_any)
theorem Txt.d_law_of (T : Txt K mg) : ∃ fd, FunD K "_law_of" "_law_of" (defArgs s_law_of) (defBody s_law_of) (defScope s_law_of) [] [] (He.ga K "_law_of") fd := T.says.def_ 43 (d := dd "_law_of" s_law_of)
theorem Txt.d_law_standings (T : Txt K mg) : ∃ fd, FunD K "_law_standings" "_law_standings" (defArgs s_law_standings) (defBody s_law_standings) (defScope s_law_standings) [] [] (He.ga K "_law_standings") fd := T.says.def_ 44 (d := dd "_law_standings" s_law_standings)
theorem Txt.d_law_others (T : Txt K mg) : ∃ fd, FunD K "_law_others" "_law_others" (defArgs s_law_others) (defBody s_law_others) (defScope s_law_others) [] [] (He.ga K "_law_others") fd := T.says.def_ 45 (d := dd "_law_others" s_law_others)
theorem Txt.d_law_marks (T : Txt K mg) : ∃ fd, FunD K "_law_marks" "_law_marks" (defArgs s_law_marks) (defBody s_law_marks) (defScope s_law_marks) [] [] (He.ga K "_law_marks") fd := T.says.def_ 46 (d := dd "_law_marks" s_law_marks)
theorem Txt.d_law_moves (T : Txt K mg) : ∃ fd, FunD K "_law_moves" "_law_moves" (defArgs s_law_moves) (defBody s_law_moves) (defScope s_law_moves) [] [] (He.ga K "_law_moves") fd := T.says.def_ 47 (d := dd "_law_moves" s_law_moves)
theorem Txt.d_law_spread (T : Txt K mg) : ∃ fd, FunD K "_law_spread" "_law_spread" (defArgs s_law_spread) (defBody s_law_spread) (defScope s_law_spread) [] [] (He.ga K "_law_spread") fd := T.says.def_ 48 (d := dd "_law_spread" s_law_spread)
theorem Txt.d_law_outlived (T : Txt K mg) : ∃ fd, FunD K "_law_outlived" "_law_outlived" (defArgs s_law_outlived) (defBody s_law_outlived) (defScope s_law_outlived) [] [] (He.ga K "_law_outlived") fd := T.says.def_ 49 (d := dd "_law_outlived" s_law_outlived)
theorem Txt.d_law_trip (T : Txt K mg) : ∃ fd, FunD K "_law_trip" "_law_trip" (defArgs s_law_trip) (defBody s_law_trip) (defScope s_law_trip) [] [] (He.ga K "_law_trip") fd := T.says.def_ 50 (d := dd "_law_trip" s_law_trip)
theorem Txt.d_law (T : Txt K mg) : ∃ fd, FunD K "law" "law" (defArgs s_law) (defBody s_law) (defScope s_law) [] [] (He.ga K "law") fd := T.says.def_ 51 (d := dd "law" s_law)
theorem Cal.of {P : Program} {w : World} {base : Heap} {k : Nat} {x : Str} {ps : List Str} {sp : Sp} {st : Stmt} (g : mg x = some (.ref (He.ga K x))) (d : ∃ fd, FunD K x x (defArgs st) (defBody st) (defScope st) [] [] (He.ga K x) fd)
    (hb : ∀ (kV doc pm : Value) (an : Option Addr) (cdv ct : Value) (us : List Value), us.length = ps.length → bindArgs (PySem.W.fnOf x x (defArgs st) (defBody st) (defScope st) .none kV doc pm an cdv ct) ⟨us, []⟩ = pure (ps.zip us))
    (h : ∀ f fd, FunD K x x (defArgs st) (defBody st) (defScope st) [] [] f fd → FnOk P w K mg base CX0 k f fd ps sp) : Cal P w K mg base k x ps sp := by
  obtain ⟨fd, F⟩ := d
  exact ⟨_, fd, g, F.kp, F.bindsN hb, h _ fd F⟩
end
end K5
/-! LayF: isinstance, len, conversions, fields. -/
namespace K5
open PySem PySem.Spec PyProof.Rows L2

/-! ### isinstance -/
def tyI : Im → String
  | .dat .none => "NoneType"
  | .dat (.bool _) => "bool"
  | .dat (.int _) => "int"
  | .dat (.list _) => "list"
  | .dat (.tuple _) => "tuple"
  | _ => ""
theorem sql_ty {K : PySem.W.Frag} {M : Hp} {a : Addr} {vs : List V} (h : SqL K M a vs) : TyX K M (.ref a) (.type "list") := by
  rcases h with (h | ⟨o, h⟩) | ⟨o, its, n, h, c, _⟩
  · exact .base (.lst h)
  · exact .base (.frz h)
  · exact .kList h c
theorem sqt_ty {K : PySem.W.Frag} {M : Hp} {a : Addr} {vs : List V} (h : SqT K M a vs) : TyX K M (.ref a) (.type "tuple") := by
  rcases h with (h | ⟨o, h⟩) | ⟨o, its, n, h, c, _⟩
  · exact .base (.tup h)
  · exact .fTuple h
  · exact .kTuple h c
theorem im_ty {K : PySem.W.Frag} {M : Hp} {v : V} {x : Im} (r : RepI K M v x) (h : (tyI x == "") = false) : TyX K M v (.type (tyI x)) := by
  cases x with
  | hs _ _ _ _ _ => cases h
  | di _ => cases h
  | dt _ => cases h
  | lk _ _ => cases h
  | dat d =>
    cases r with
    | non => exact .base .non
    | bl b => exact .base (.bl b)
    | int i => exact .base (.int i)
    | str x => cases h
    | lst q _ => exact sql_ty (.of q)
    | tup q _ => exact sqt_ty (.of q)
section
variable {X : Cx} {B : Bs} {ρ : DEnv} {pos p p2 : Pos} {e a b c : Expr} {es : List Expr}
theorem ee_isi {T : Str} {t : String} {x : Im} {r : Bool} (he : EE X B ρ e x) (hm : X.mg "isinstance" = none) (hmT : X.mg T = none) (hv : bootBuiltins T = some (.type t)) (ht : (tyI x == "") = false) (hr : kitB (tyI x) t = some r) (hg : Gl X "isinstance" := by rfl) (hgT : Gl X T := by rfl)
    (hn : T ≠ "__name__" := by decide) (hd : (T == ("__debug__" : Str)) = false := by decide) (hs1 : starEach [e, .Name T p2] X.env = (false, eval e X.env) :: starEach [.Name T p2] X.env := by rfl)
    (hs2 : starEach [Expr.Name T p2] X.env = (false, eval (.Name T p2) X.env) :: starEach [] X.env := by rfl) (hpl : (backTo pos (starEach [Expr.Name T p2] X.env)).any (·.1) = false := by rfl) : EE X B ρ (.Call (.Name "isinstance" p) [e, .Name T p2] [] pos) (Bl r) :=
  pe_imp (pe_callB call_isi hg hm PyProof.Rows.boot_isinstance (pa_cons he (pa_cons (pe_bltn (v := .ty t) hgT hmT hv rfl hn hd) pa_nil hs2) hs1) (by decide) (by decide) hs1 hpl) fun σ H Q ⟨M, k, q⟩ => ⟨M, k, fun z v M1 H1 e1 g1 r1 => by
    subst e1
    exact ⟨v, .ty t, .type (tyI z), .type t, r, rfl, .ty t, im_ty (repI_up g1.mh r1) ht, kit_ty hr, q _ _ M1 H1 rfl g1 (.bl _)⟩⟩
/-- isinstance(x, (T, U)) -/
theorem ee_isi2 {T U : Str} {t u : String} {x : Im} {r1 r2 : Bool} {k0 : Nat} {p3 p4 : Pos} (he : EE X B ρ e x) (hm : X.mg "isinstance" = none) (hmT : X.mg T = none) (hmU : X.mg U = none) (hv : bootBuiltins T = some (.type t)) (hvU : bootBuiltins U = some (.type u)) (ht : (tyI x == "") = false)
    (hr : kitB (tyI x) t = some r1) (hr2 : kitB (tyI x) u = some r2) (hg : Gl X "isinstance" := by rfl) (hgT : Gl X T := by rfl) (hgU : Gl X U := by rfl)
    (hn : T ≠ "__name__" := by decide) (hd : (T == ("__debug__" : Str)) = false := by decide) (hnU : U ≠ "__name__" := by decide) (hdU : (U == ("__debug__" : Str)) = false := by decide)
    (hs1 : starEach [e, .Tuple [.Name T p2, .Name U p3] k0 p4] X.env = (false, eval e X.env) :: starEach [.Tuple [.Name T p2, .Name U p3] k0 p4] X.env := by rfl)
    (hs2 : starEach [Expr.Tuple [.Name T p2, .Name U p3] k0 p4] X.env = (false, eval (.Tuple [.Name T p2, .Name U p3] k0 p4) X.env) :: starEach [] X.env := by rfl) (hpl : (backTo pos (starEach [Expr.Tuple [.Name T p2, .Name U p3] k0 p4] X.env)).any (·.1) = false := by rfl)
    (hs3 : starEach [Expr.Name T p2, .Name U p3] X.env = (false, eval (.Name T p2) X.env) :: starEach [.Name U p3] X.env := by rfl) (hs4 : starEach [Expr.Name U p3] X.env = (false, eval (.Name U p3) X.env) :: starEach [] X.env := by rfl) :
    EE X B ρ (.Call (.Name "isinstance" p) [e, .Tuple [.Name T p2, .Name U p3] k0 p4] [] pos) (Bl (r1 || r2)) :=
  pe_imp (pe_callB call_isiT hg hm PyProof.Rows.boot_isinstance (pa_cons he (pa_cons (pe_tup (pa_cons (pe_bltn (v := .ty t) hgT hmT hv rfl hn hd) (pa_cons (pe_bltn (v := .ty u) hgU hmU hvU rfl hnU hdU) pa_nil hs4) hs3)) pa_nil hs2) hs1) (by decide) (by decide) hs1 hpl) fun σ H Q ⟨M, k, q⟩ => ⟨M, k, fun z v M1 H1 e1 g1 rr => by
    subst e1
    refine ⟨by show 2 ≤ sizeLine; rw [sizeLine_eq]; decide, fun tp np => ?_⟩
    have k1 := k.gr g1
    have g2 := k1.tmp (o := .tup [.ty t, .ty u]) np
    refine ⟨v, tp, [.ty t, .ty u], .type (tyI z), [.type t, .type u], r1 || r2, rfl, upd_same, .cons (.ty t) (.cons (.ty u) .nil), im_ty (repI_up g2.mh rr) ht, ?_, q _ _ M1 _ rfl (g1.trans g2) (.bl _)⟩
    refine kitAny_cons (kit_ty hr) (fun e1 => kitAny_cons (kit_ty hr2) (fun e2 => ?_) fun e2 => ?_) fun e1 => ?_
    · rw [e1, e2] <;> exact kitAny_nil
    · rw [e1, e2] <;> rfl
    · rw [e1] <;> rfl⟩
/-- isinstance(x, House) of a house -/
theorem ee_isiH (T : Txt X.K X.mg) {z s f g h : PyData} (he : EE X B ρ e (.hs z s f g h)) (hg : Gl X "isinstance" := by rfl) (hgT : Gl X "House" := by rfl)
    (hs1 : starEach [e, .Name "House" p2] X.env = (false, eval e X.env) :: starEach [.Name "House" p2] X.env := by rfl)
    (hs2 : starEach [Expr.Name "House" p2] X.env = (false, eval (.Name "House" p2) X.env) :: starEach [] X.env := by rfl) (hpl : (backTo pos (starEach [Expr.Name "House" p2] X.env)).any (·.1) = false := by rfl) : EE X B ρ (.Call (.Name "isinstance" p) [e, .Name "House" p2] [] pos) (Bl true) := by
  obtain ⟨x1, x2⟩ := He.ba T.more
  obtain ⟨x3, x4⟩ := He.ba x2
  obtain ⟨x5, x6⟩ := He.ba x4
  obtain ⟨x7, x8⟩ := He.ba x6
  have cl : Cls X.K (He.ga X.K "House") := He.cls_ok (T.says.fact 0)
  have gl : X.mg "House" = some (.ref (He.ga X.K "House")) := T.gl 4
  refine pe_imp (pe_callB call_isi hg T.n_isinstance PyProof.Rows.boot_isinstance (pa_cons he (pa_cons (pe_glob (v := .ref (He.ga X.K "House")) hgT gl rfl) pa_nil hs2) hs1) (by decide) (by decide) hs1 hpl) fun σ H Q ⟨M, k, q⟩ => ⟨M, k, fun w v M1 H1 e1 g1 r1 => ?_⟩
  subst e1
  obtain ⟨P, dx, fs, vz, vs, vc, va, vb, hh⟩ := r1
  refine ⟨v, .ref (He.ga X.K "House"), .ref (He.ga X.K "House"), .ref (He.ga X.K "House"), true, rfl, .own _, ?_, of_decide_eq_true x8, q _ _ M1 H1 rfl g1 (.bl _)⟩
  rw [hh.e]
  exact .base (.ins (g1.mh _ _ hh.at_) cl (He.eqO_ok x1) (He.eqO_ok x3) (of_decide_eq_true x5) (of_decide_eq_true x7))

/-! ### len -/
theorem ee_lenT {ds : List PyData} (he : EE X B ρ e (Tu ds)) (hm : X.mg "len" = none) (hg : Gl X "len" := by rfl) (hs : starEach [e] X.env = (false, eval e X.env) :: starEach [] X.env := by rfl) : EE X B ρ (.Call (.Name "len" p) [e] [] pos) (I (ds.length : Nat)) :=
  en_cb call_len_seq (ea_cons he ea_nil hs) hm PySem.boot_len hg (fun vs σ M H Q k r q => by
    cases r with
    | cons r1 r2 =>
      cases r2
      obtain ⟨t, ws, rfl, h1, h2⟩ := rI_tup r1
      refine ⟨t, ws, rfl, .inr (tup_up k.mh h1), ?_⟩
      rw [dps_len h2]
      exact q _ _ M H rfl k.refl (.int _)) (by decide) (by decide) hs
theorem ee_lenL {ds : List PyData} (he : EE X B ρ e (Li ds)) (hm : X.mg "len" = none) (hg : Gl X "len" := by rfl) (hs : starEach [e] X.env = (false, eval e X.env) :: starEach [] X.env := by rfl) : EE X B ρ (.Call (.Name "len" p) [e] [] pos) (I (ds.length : Nat)) :=
  en_cb call_len_seq (ea_cons he ea_nil hs) hm PySem.boot_len hg (fun vs σ M H Q k r q => by
    cases r with
    | cons r1 r2 =>
      cases r2
      obtain ⟨t, ws, rfl, h1, h2⟩ := rI_lst r1
      refine ⟨t, ws, rfl, .inl (k.mh.seq h1), ?_⟩
      rw [dps_len h2]
      exact q _ _ M H rfl k.refl (.int _)) (by decide) (by decide) hs

/-! ### tuple(..), list(..), int(..), any, all -/
theorem ee_tuple {ds : List PyData} (he : EE X B ρ e (Li ds)) (hm : X.mg "tuple" = none) (hg : Gl X "tuple" := by rfl) (hs : starEach [e] X.env = (false, eval e X.env) :: starEach [] X.env := by rfl) : EE X B ρ (.Call (.Name "tuple" p) [e] [] pos) (Tu ds) :=
  en_ct call_tuple_of (ea_cons he ea_nil hs) hm PyProof.Rows.boot_tuple hg (fun vs σ M H Q k r q => by
    cases r with
    | cons r1 r2 =>
      cases r2
      obtain ⟨t, ws, rfl, h1, h2⟩ := rI_lst r1
      refine ⟨t, ws, rfl, .inl ⟨k.mh.seq h1, fun l nl => ?_⟩⟩
      have g := k.new (o := .tup ws) nl
      exact q _ _ _ _ rfl g (.tup upd_same (dps_up g.mm _ _ h2))) (by decide) (by decide) hs
theorem ee_tupleT {ds : List PyData} (he : EE X B ρ e (Tu ds)) (hm : X.mg "tuple" = none) (hg : Gl X "tuple" := by rfl) (hs : starEach [e] X.env = (false, eval e X.env) :: starEach [] X.env := by rfl) : EE X B ρ (.Call (.Name "tuple" p) [e] [] pos) (Tu ds) :=
  en_ct call_tuple_of (ea_cons he ea_nil hs) hm PyProof.Rows.boot_tuple hg (fun vs σ M H Q k r q => by
    cases r with
    | cons r1 r2 =>
      cases r2
      have r3 := r1
      obtain ⟨t, ws, rfl, h1, h2⟩ := rI_tup r1
      exact ⟨t, ws, rfl, .inr ⟨tup_up k.mh h1, q _ _ M H rfl k.refl r3⟩⟩) (by decide) (by decide) hs
theorem ee_list {ds : List PyData} (he : EE X B ρ e (Tu ds)) (hm : X.mg "list" = none) (hg : Gl X "list" := by rfl) (hs : starEach [e] X.env = (false, eval e X.env) :: starEach [] X.env := by rfl) : EE X B ρ (.Call (.Name "list" p) [e] [] pos) (Li ds) :=
  en_ct call_list_of (ea_cons he ea_nil hs) hm PyProof.Rows.boot_list hg (fun vs σ M H Q k r q => by
    cases r with
    | cons r1 r2 =>
      cases r2
      obtain ⟨t, ws, rfl, h1, h2⟩ := rI_tup r1
      refine ⟨t, ws, rfl, .inr (tup_up k.mh h1), fun l nl => ?_⟩
      have g := k.new (o := .lst ws) nl
      exact q _ _ _ _ rfl g (.lst upd_same (dps_up g.mm _ _ h2))) (by decide) (by decide) hs
theorem ee_listL {ds : List PyData} (he : EE X B ρ e (Li ds)) (hm : X.mg "list" = none) (hg : Gl X "list" := by rfl) (hs : starEach [e] X.env = (false, eval e X.env) :: starEach [] X.env := by rfl) : EE X B ρ (.Call (.Name "list" p) [e] [] pos) (Li ds) :=
  en_ct call_list_of (ea_cons he ea_nil hs) hm PyProof.Rows.boot_list hg (fun vs σ M H Q k r q => by
    cases r with
    | cons r1 r2 =>
      cases r2
      obtain ⟨t, ws, rfl, h1, h2⟩ := rI_lst r1
      refine ⟨t, ws, rfl, .inl (k.mh.seq h1), fun l nl => ?_⟩
      have g := k.new (o := .lst ws) nl
      exact q _ _ _ _ rfl g (.lst upd_same (dps_up g.mm _ _ h2))) (by decide) (by decide) hs
theorem ee_intB {x : Bool} (he : EE X B ρ e (Bl x)) (hm : X.mg "int" = none) (hg : Gl X "int" := by rfl) (hs : starEach [e] X.env = (false, eval e X.env) :: starEach [] X.env := by rfl) : EE X B ρ (.Call (.Name "int" p) [e] [] pos) (I (if x then 1 else 0)) :=
  en_ct call_int1 (ea_cons he ea_nil hs) hm PyProof.Rows.boot_int hg (fun vs σ M H Q k r q => by
    cases r with
    | cons r1 r2 =>
      cases r2
      exact .inr ⟨x, by rw [rI_bl r1], q _ _ M H rfl k.refl (.int _)⟩) (by decide) (by decide) hs
theorem ee_intI {x : Int} (he : EE X B ρ e (I x)) (hm : X.mg "int" = none) (hg : Gl X "int" := by rfl) (hs : starEach [e] X.env = (false, eval e X.env) :: starEach [] X.env := by rfl) : EE X B ρ (.Call (.Name "int" p) [e] [] pos) (I x) :=
  en_ct call_int1 (ea_cons he ea_nil hs) hm PyProof.Rows.boot_int hg (fun vs σ M H Q k r q => by
    cases r with
    | cons r1 r2 =>
      cases r2
      exact .inl ⟨x, by rw [rI_int r1], q _ _ M H rfl k.refl (.int _)⟩) (by decide) (by decide) hs
theorem dps_bls {K : PySem.W.Frag} {M : Hp} : ∀ {bs : List Bool} {vs : List V}, DqAll K M vs (bs.map PyData.bool) → vs = bs.map V.bl
  | [], _, h => by cases h; rfl
  | b :: bs, _, h => by
    cases h with
    | cons a r =>
      rw [dps_bls r]
      cases a
      rfl
theorem ee_all {bs : List Bool} (hc : X.calm = true) (he : EE X B ρ e (Li (bs.map .bool))) (hm : X.mg "all" = none) (hg : Gl X "all" := by rfl) (hs : starEach [e] X.env = (false, eval e X.env) :: starEach [] X.env := by rfl) : EE X B ρ (.Call (.Name "all" p) [e] [] pos) (Bl (bs.all id)) :=
  en_cb (cr_all hc) (ea_cons he ea_nil hs) hm (by decide +kernel) hg (fun vs σ M H Q k r q => by
    cases r with
    | cons r1 r2 =>
      cases r2
      obtain ⟨t, ws, rfl, h1, h2⟩ := rI_lst r1
      rw [dps_bls h2] at h1
      exact ⟨t, bs, rfl, k.mh.seq h1, q _ _ M H rfl k.refl (.bl _)⟩) (by decide) (by decide) hs
theorem ee_any {bs : List Bool} (hc : X.calm = true) (he : EE X B ρ e (Li (bs.map .bool))) (hm : X.mg "any" = none) (hg : Gl X "any" := by rfl) (hs : starEach [e] X.env = (false, eval e X.env) :: starEach [] X.env := by rfl) : EE X B ρ (.Call (.Name "any" p) [e] [] pos) (Bl (bs.any id)) :=
  en_cb (cr_any hc) (ea_cons he ea_nil hs) hm (by decide +kernel) hg (fun vs σ M H Q k r q => by
    cases r with
    | cons r1 r2 =>
      cases r2
      obtain ⟨t, ws, rfl, h1, h2⟩ := rI_lst r1
      rw [dps_bls h2] at h1
      exact ⟨t, bs, rfl, k.mh.seq h1, q _ _ M H rfl k.refl (.bl _)⟩) (by decide) (by decide) hs
theorem ee_max2 {x y : Int} (hc : X.calm = true) (ha : EE X B ρ a (I x)) (hb : EE X B ρ b (I y)) (hm : X.mg "max" = none) (hg : Gl X "max" := by rfl) (hs : starEach [a, b] X.env = (false, eval a X.env) :: starEach [b] X.env := by rfl) (hs2 : starEach [b] X.env = (false, eval b X.env) :: starEach [] X.env := by rfl)
    (hpl : (backTo pos (starEach [b] X.env)).any (·.1) = false := by rfl) : EE X B ρ (.Call (.Name "max" p) [a, b] [] pos) (I (if y > x then y else x)) :=
  en_cb (call_max2 hc) (ea_cons ha (ea_cons hb ea_nil hs2) hs) hm (by decide +kernel) hg (fun vs σ M H Q k r q => by
    cases r with
    | cons r1 r2 =>
      cases r2 with
      | cons r2 r3 =>
        cases r3
        exact ⟨x, y, by rw [rI_int r1, rI_int r2], q _ _ M H rfl k.refl (.int _)⟩) (by decide) (by decide) hs hpl

/-! ### fields of a house -/
theorem ee_fld {f : Str} {z s c0 g h d : PyData} (T : Txt X.K X.mg) (he : EE X B ρ e (.hs z s c0 g h)) (hn : NoAttr X.K (He.ga X.K "House") f) (hf : ∀ {K M v p dx fs vz vs vc va vb}, HsAt K M v z s c0 g h p dx fs vz vs vc va vb → ∃ u, fs.lookup f = some u ∧ Dq K M u d)
    (hb : attributeBase e f X.env (eval e X.env) = eval e X.env := by rfl) : EE X B ρ (.Attribute e f pos) (.dat d) :=
  pe_imp (pe_fld he hb) fun σ H Q ⟨M, k, q⟩ => ⟨M, k, fun w v M1 H1 e1 g1 r1 => by
    subst e1
    obtain ⟨P, dx, fs, vz, vs, vc, va, vb, hh⟩ := r1
    obtain ⟨u, hu, hd⟩ := hf hh
    exact ⟨P, _, dx, fs, u, hh.e, g1.mh _ _ hh.at_, He.cls_ok (T.says.fact 0), hn, hu, q _ _ M1 H1 rfl g1 hd⟩⟩
theorem ee_sizes {z s c0 g h : PyData} (T : Txt X.K X.mg) (he : EE X B ρ e (.hs z s c0 g h)) (hb : attributeBase e "sizes" X.env (eval e X.env) = eval e X.env := by rfl) : EE X B ρ (.Attribute e "sizes" pos) (.dat z) := ee_fld T he (He.noat_ok (T.says.fact 6)) (fun h => ⟨_, h.hz⟩) hb
theorem ee_stands {z s c0 g h : PyData} (T : Txt X.K X.mg) (he : EE X B ρ e (.hs z s c0 g h)) (hb : attributeBase e "standings" X.env (eval e X.env) = eval e X.env := by rfl) : EE X B ρ (.Attribute e "standings" pos) (.dat s) := ee_fld T he (He.noat_ok (T.says.fact 7)) (fun h => ⟨_, h.hs⟩) hb
theorem ee_chgs {z s c0 g h : PyData} (T : Txt X.K X.mg) (he : EE X B ρ e (.hs z s c0 g h)) (hb : attributeBase e "changes" X.env (eval e X.env) = eval e X.env := by rfl) : EE X B ρ (.Attribute e "changes" pos) (.dat c0) := ee_fld T he (He.noat_ok (T.says.fact 8)) (fun h => ⟨_, h.hc⟩) hb
theorem ee_ahead {z s c0 g h : PyData} (T : Txt X.K X.mg) (he : EE X B ρ e (.hs z s c0 g h)) (hb : attributeBase e "ahead" X.env (eval e X.env) = eval e X.env := by rfl) : EE X B ρ (.Attribute e "ahead" pos) (.dat g) := ee_fld T he (He.noat_ok (T.says.fact 9)) (fun h => ⟨_, h.ha⟩) hb
end
end K5
/-! Defs1: the words module. -/
namespace K5
open PySem PySem.Spec PyProof.Rows L2
theorem k_ii : kitB "int" "int" = some true := by decide +kernel
theorem k_ib : kitB "int" "bool" = some false := by decide +kernel
theorem k_ll : kitB "list" "list" = some true := by decide +kernel
theorem k_lt : kitB "list" "tuple" = some false := by decide +kernel
theorem k_tl : kitB "tuple" "list" = some false := by decide +kernel
theorem k_tt : kitB "tuple" "tuple" = some true := by decide +kernel
theorem nvr {P : Program} {w : World} {A : Around} {e : Env} {xe : Value → Shared → Prop} (h : PassesOwn (model P w) A e xe) : PassesOwn (model P w) A e xe := h
/-- data that is a list or a tuple -/
def seqD : Im → Option (List PyData)
  | .dat (.list ds) => some ds
  | .dat (.tuple ds) => some ds
  | _ => none
theorem seqD_cases {x : Im} {ds : List PyData} (h : seqD x = some ds) : x = Li ds ∨ x = Tu ds := by
  cases x with
  | hs _ _ _ _ _ => cases h
  | di _ => cases h
  | dt _ => cases h
  | lk _ _ => cases h
  | dat d =>
    cases d with
    | list l => cases h; exact .inl rfl
    | tuple l => cases h; exact .inr rfl
    | _ => cases h
section
variable {P : Program} {w : World} {K : PySem.W.Frag} {mg : Str → Option Value} {base : Heap}

theorem sc_is_integer : FnScope ["value"] ["value"] (defScope s_is_integer) := ⟨rfl, rfl, rfl, by decide +kernel, rfl, by decide +kernel, by decide +kernel⟩
def rIsInt (xs : List Im) (y : Im) : Prop := ∃ i : Int, xs = [I i] ∧ y = Bl true
theorem c_is_integer (T : Txt K mg) : Cal P w K mg base 1 "is_integer" ["value"] (spR K rIsInt) := by
  refine Cal.of T.g_is_integer T.d_is_integer (fun _ _ _ _ _ _ us hl => match us, hl with | [_], _ => rfl) fun f fd F => ?_
  refine def_ok F sc_is_integer (by decide) (by rintro xs y ⟨i, rfl, _⟩; rfl) fun cdv A outer s H M E xs y hr hR => ?_
  obtain ⟨i, rfl, rfl⟩ := hR
  exact xx_ret (y := Bl (true && true)) (ee_and (ee_isi (x := I i) (ee_var 0) T.n_isinstance T.n_int PyProof.Rows.boot_int rfl k_ii) fun _ => ee_one (ee_not (ee_isi (x := I i) (r := false) (ee_var 0) T.n_isinstance T.n_bool PyProof.Rows.boot_bool rfl k_ib))) rfl

theorem sc_is_number : FnScope ["value"] ["value"] (defScope s_is_number) := ⟨rfl, rfl, rfl, by decide +kernel, rfl, by decide +kernel, by decide +kernel⟩
def rIsNum (xs : List Im) (y : Im) : Prop := ∃ i : Int, xs = [I i] ∧ y = Bl (decide (0 ≤ i))
theorem c_is_number (T : Txt K mg) : Cal P w K mg base 2 "is_number" ["value"] (spR K rIsNum) := by
  refine Cal.of T.g_is_number T.d_is_number (fun _ _ _ _ _ _ us hl => match us, hl with | [_], _ => rfl) fun f fd F => ?_
  refine def_ok F sc_is_number (by decide) (by rintro xs y ⟨i, rfl, _⟩; rfl) fun cdv A outer s H M E xs y hr hR => ?_
  obtain ⟨i, rfl, rfl⟩ := hR
  exact xx_ret (ee_and (ee_call (c_is_integer T) hr (ea_cons (ee_var 0) ea_nil) ⟨i, rfl, rfl⟩) fun _ => ee_one (ee_ge (ee_var 0) ee_int)) rfl

theorem sc_is_sequence : FnScope ["value"] ["value"] (defScope s_is_sequence) := ⟨rfl, rfl, rfl, by decide +kernel, rfl, by decide +kernel, by decide +kernel⟩
def rIsSeq (xs : List Im) (y : Im) : Prop := ∃ x ds, xs = [x] ∧ seqD x = some ds ∧ y = Bl true
theorem c_is_sequence (T : Txt K mg) : Cal P w K mg base 1 "is_sequence" ["value"] (spR K rIsSeq) := by
  refine Cal.of T.g_is_sequence T.d_is_sequence (fun _ _ _ _ _ _ us hl => match us, hl with | [_], _ => rfl) fun f fd F => ?_
  refine def_ok F sc_is_sequence (by decide) (by rintro xs y ⟨x, ds, rfl, _⟩; rfl) fun cdv A outer s H M E xs y hr hR => ?_
  obtain ⟨x, ds, rfl, hx, rfl⟩ := hR
  rcases seqD_cases hx with rfl | rfl
  · exact xx_ret (y := Bl (true || false)) (ee_isi2 (x := Li ds) (ee_var 0) T.n_isinstance T.n_list T.n_tuple PyProof.Rows.boot_list PyProof.Rows.boot_tuple rfl k_ll k_lt) rfl
  · exact xx_ret (y := Bl (false || true)) (ee_isi2 (x := Tu ds) (ee_var 0) T.n_isinstance T.n_list T.n_tuple PyProof.Rows.boot_list PyProof.Rows.boot_tuple rfl k_tl k_tt) rfl

theorem sc_times_itself : FnScope ["base", "times", "product", "turn"] ["base", "times"] (defScope s_times_itself) := ⟨rfl, rfl, rfl, by decide +kernel, rfl, by decide +kernel, by decide +kernel⟩
def rTimes (xs : List Im) (y : Im) : Prop := ∃ b n : Nat, xs = [I b, I n] ∧ b ≤ 36 ∧ n ≤ 100 ∧ y = I ((b : Int) ^ n)
theorem c_times_itself (T : Txt K mg) : Cal P w K mg base 1 "times_itself" ["base", "times"] (spR K rTimes) := by
  refine Cal.of T.g_times_itself T.d_times_itself (fun _ _ _ _ _ _ us hl => match us, hl with | [_, _], _ => rfl) fun f fd F => ?_
  refine def_ok F sc_times_itself (by decide) (by rintro xs y ⟨b, n, rfl, _⟩; rfl) fun cdv A outer s H M E xs y hr hR => ?_
  obtain ⟨b, n, rfl, hb, hn, rfl⟩ := hR
  refine xx_set 2 sc_times_itself.nd ee_int ?_
  refine xx_nx (ρ' := [some (.im (I b)), some (.im (I n)), some (.im (I ((b : Int) ^ n))), none]) (x1_for (fun i ρ => ρ = [some (.im (I b)), some (.im (I n)), some (.im (I ((b : Int) ^ i))), none]) PassesOwn.never rfl (ei_rng (ee_var 1) T.n_range (by omega)) (eg_1 (i := 3) sc_times_itself.nd) rfl ?_ ?_) ?_
  · rintro i d ρ1 hi rfl
    refine ⟨_, rfl, xx_set 2 sc_times_itself.nd (ee_mul (ee_var 2) (ee_var 0) (.inr ⟨by omega, by omega⟩)) (xx_nil ⟨_, ?_, rfl⟩)⟩
    rw [← Int.pow_succ]
    exact ⟨rfl, rfl, rfl, trivial⟩
  · rintro ρ1 rfl
    rw [rgD_len]
  · exact xx_ret (ee_var 2) rfl
end
end K5
/-! LayG: comprehensions of two clauses; tuples put together; lists of the frame's own. -/
namespace K5
open PySem PySem.Spec PyProof.Rows L2

section
variable {X : Cx} {B : Bs} {ρ : DEnv} {pos p : Pos} {elt tg iter tg1 iter1 e a b : Expr} {ifs1 : List Expr} {scope : Scope} {own : List (Str × Nat)} {α β : Type}
/-- an inner loop of a comprehension -/
theorem in_it {J : It} {n : Nat} {G : Hp → Prop} {Y : Nat → Hp → V → Hp → Prop} (w : Walk J n G Y) {g : TG} {tt : TT} {te : TE} {vs : List Nat} {σ : L2.St} {H1 : Hp} {D : Addr} {Qd : Hp → Prop} (Pv : Nat → Hp → Prop) (h0 : Pv 0 H1) (hG : ∀ i H, i ≤ n → Pv i H → G H)
    (hs : ∀ i x H H', i < n → Pv i H → Y i H x H' → g x (L2.wipe σ vs) H' fun σ2 H2 => L2.wipe σ2 vs = L2.wipe σ vs ∧ tt σ2 H2 fun b H3 =>
      if b = true then te σ2 H3 fun y H4 => ∃ acc, H4 D = some (.lst acc) ∧ acc.length < sizeLine ∧ Pv (i + 1) (upd H4 D (.lst (acc ++ [y]))) else Pv (i + 1) H3) (hd : ∀ H, Pv n H → Qd H) :
    ∃ W : Nat → Nat → Hp → Prop, (∃ m, W 0 m H1) ∧ ∀ i m H, W i m H →
      (J.stop i H ∧ Qd H) ∨ (J.go i H ∧ ∃ Nx : Hp → Prop, (∀ H', Nx H' → ∃ m', m' < m ∧ W (i + 1) m' H') ∧ ∀ x H', J.yld i H x H' → g x (L2.wipe σ vs) H' fun σ2 H2 => L2.wipe σ2 vs = L2.wipe σ vs ∧ tt σ2 H2 fun b H3 =>
        if b = true then te σ2 H3 fun y H4 => ∃ acc, H4 D = some (.lst acc) ∧ acc.length < sizeLine ∧ Nx (upd H4 D (.lst (acc ++ [y]))) else Nx H3) := by
  refine ⟨fun i m H => m + i = n ∧ Pv i H, ⟨n, rfl, h0⟩, ?_⟩
  rintro i m H ⟨hm, pv⟩
  by_cases hi : i < n
  · exact .inr ⟨w.goes i H hi (hG i H (by omega) pv), Pv (i + 1), fun H' p' => ⟨m - 1, by omega, by omega, p'⟩, fun x H' y => hs i x H H' hi pv (w.yields i H x H' hi (hG i H (by omega) pv) y)⟩
  · have e : i = n := by omega
    subst e
    exact .inl ⟨w.stops H (hG i H (by omega) pv), hd H pv⟩
def ttL2 (K : PySem.W.Frag) (B : Bs) (xs : List α) (ys : α → List β) (q : α → β → Bool) (r : α → β → DEnv) : TT := fun σ H Q => ∃ a : { z : α × β // z.1 ∈ xs ∧ z.2 ∈ ys z.1 }, tTN K B (r a.1.1 a.1.2) (fun c => c = q a.1.1 a.1.2) σ H Q
def teL2 (K : PySem.W.Frag) (B : Bs) (xs : List α) (ys : α → List β) (q : α → β → Bool) (f : α → β → PyData) (r : α → β → DEnv) : TE := fun σ H Q => ∃ a : { z : α × β // z.1 ∈ xs ∧ z.2 ∈ ys z.1 ∧ q z.1 z.2 = true }, tEN K B (r a.1.1 a.1.2) (fun y => y = .dat (f a.1.1 a.1.2)) σ H Q
def tiL2 (K : PySem.W.Frag) (B : Bs) (xs : List α) (ys : α → List β) (enc1 : α → β → PyData) (r0 : α → DEnv) : TI := fun σ H R => ∃ a : { z : α // z ∈ xs }, tEI K B (r0 a.1) ((ys a.1).map (enc1 a.1)) σ H R
theorem pi_any {t : α → TI} (h : ∀ a, PI X tg e (t a)) : PI X tg e (fun σ H R => ∃ a, t a σ H R) := ⟨fun pins s σ H Q I ⟨a, q⟩ => (h a).run pins s σ H Q I q⟩
theorem lc2_read {K : PySem.W.Frag} {xs : List α} {enc : α → PyData} {ys : α → List β} {enc1 : α → β → PyData} {q : α → β → Bool} {f : α → β → PyData} {r0 : α → DEnv} {r : α → β → DEnv} {gT gT1 : DEnv → PyData → DEnv → Prop} {ts vs vs1 : List Nat}
    (hr0 : ∀ a ∈ xs, gT (wp ρ vs) (enc a) (r0 a)) (hno : ∀ a ∈ xs, NoOwn (r0 a)) (hr : ∀ a ∈ xs, ∀ b ∈ ys a, gT1 (wp (r0 a) vs1) (enc1 a b) (r a b)) (hts : ∀ σ σ' : L2.St, L2.wipe σ' ts = L2.wipe (L2.wipe σ vs) ts → L2.wipe σ' vs = L2.wipe σ vs)
    (hts1 : ∀ σ σ' : L2.St, L2.wipe σ' vs1 = L2.wipe (L2.wipe σ vs1) vs1 → L2.wipe σ' vs1 = L2.wipe σ vs1)
    (hl : ∀ n a, a ∈ xs → (((xs.take n).flatMap fun a => ((ys a).filter (q a)).map (f a)).length + (ys a).length ≤ sizeLine)) (σ : L2.St) (H : Hp) (Q : VK)
    (h : tEN K B ρ (fun y => y = Li (xs.flatMap fun a => ((ys a).filter (q a)).map (f a))) σ H Q) :
    tLc2 (tEI K B ρ (xs.map enc)) (tG K gT ts) tYes (tiL2 K B xs ys enc1 r0) (tG K gT1 vs1) (ttL2 K B xs ys q r) (teL2 K B xs ys q f r) vs vs1 σ H Q := by
  obtain ⟨M, k, q0⟩ := h
  refine ⟨M, k, fun J M1 H1 gr iok D nD => ?_⟩
  have k1 := k.gr gr
  have hw := k1.off nD
  have fD : B.F D = none := by
    cases z : B.F D with
    | none => rfl
    | some o =>
      obtain ⟨o', h, _⟩ := k1.ft D o z
      rw [nD] at h
      cases h
  have hn : (xs.map enc).length = xs.length := List.length_map ..
  have W := iok.walk
  let Pv : Nat → Hp → Prop := fun i H2 => ∃ M2 acc, Gr B M1 H1 M2 H2 ∧ H2 D = some (.lst acc) ∧ M2 D = none ∧ DqAll K M2 acc ((xs.take i).flatMap fun a => ((ys a).filter (q a)).map (f a))
  refine ⟨fun i m H => m + i = xs.length ∧ Pv i H, ⟨xs.length, rfl, M1, [], k1.refl.side nD (k1.clr nD) hw, upd_same, k1.clr nD, .nil⟩, ?_⟩
  rintro i m H2 ⟨hm, M2, acc, g2, hD, mD, hA⟩
  by_cases hi : ¬ i < xs.length
  · have e : i = xs.length := by omega
    subst e
    refine .inl ⟨by rw [← hn]; exact W.stops H2 ⟨M2, g2.mm, g2.mh⟩, ?_⟩
    rw [List.take_of_length_le (Nat.le_refl _)] at hA
    have g3 := g2.keep (o := .lst acc) nD mD hD
    exact q0 _ _ _ _ rfl (gr.trans g3) (.lst upd_same (dps_up (fun a u h => by rw [upd_ne (ne_of_none h mD)]; exact h) _ _ hA))
  have hi : i < xs.length := by omega
  refine .inr ⟨W.goes i H2 (by rw [hn]; exact hi) ⟨M2, g2.mm, g2.mh⟩, Pv (i + 1), fun H' p' => ⟨m - 1, by omega, by omega, p'⟩, fun x H3 hy0 => ?_⟩
  have hy := W.yields i H2 x H3 (by rw [hn]; exact hi) ⟨M2, g2.mm, g2.mh⟩ hy0
  have e : xs[i]? = some xs[i] := List.getElem?_eq_getElem hi
  have e2 : (xs.map enc)[i]? = some (enc xs[i]) := by rw [List.getElem?_map, e] <;> rfl
  obtain ⟨M3, gi, hx⟩ := hy M2 _ g2.mm g2.mh e2
  have k2 := k1.gr g2
  have g3 := k2.gi gi
  have k3 := k2.gr g3
  have am : xs[i] ∈ xs := List.getElem_mem hi
  refine ⟨B, M3, wp ρ vs, enc xs[i], r0 xs[i], k3.wipe vs, hx, hr0 _ am, fun σ' hσ kk => ⟨hts σ σ' hσ, ?_⟩⟩
  show tiL2 K B xs ys enc1 r0 σ' H3 _
  refine ⟨⟨xs[i], am⟩, M3, kk, fun J1 M4 H4 g4 iok1 => ?_⟩
  have g24 : Gr B M2 H2 M4 H4 := g3.trans g4
  have kk4 := kk.gr g4
  have W1 := iok1.walk
  have hn1 : ((ys xs[i]).map (enc1 xs[i])).length = (ys xs[i]).length := List.length_map ..
  have tk : xs.take (i + 1) = xs.take i ++ [xs[i]] := take_at e
  refine in_it W1 (g := tG K gT1 vs1) (tt := ttL2 K B xs ys q r) (te := teL2 K B xs ys q f r) (vs := vs1) (σ := σ') (H1 := H4) (D := D) (Qd := fun H => Pv (i + 1) H)
    (fun j H5 => ∃ M5 acc5, Ok K B M5 H5 σ' (r0 xs[i]) ∧ Same M4 M5 ∧ H5 D = some (.lst acc5) ∧ M5 D = none ∧ DqAll K M5 acc5 (((xs.take i).flatMap fun a => ((ys a).filter (q a)).map (f a)) ++ (((ys xs[i]).take j).filter (q xs[i])).map (f xs[i])) ∧ Gr B M1 H1 M5 H5) ?_ ?_ ?_ ?_
  · refine ⟨M4, acc, kk4, Same.refl _, g24.hh D _ hw hD, g24.fr D _ hD rfl mD, ?_, g2.trans g24⟩
    rw [List.take_zero, List.filter_nil, List.map_nil, List.append_nil]
    exact dps_up g24.mm _ _ hA
  · rintro j H5 _ ⟨M5, acc5, kk5, s5, _⟩
    exact ⟨M5, s5, kk5.mh⟩
  · rintro j x1 H5 H6 hj ⟨M5, acc5, kk5, s5, hD5, mD5, hA5, g15⟩ hy1
    rw [hn1] at hj
    have e3 : (ys xs[i])[j]? = some (ys xs[i])[j] := List.getElem?_eq_getElem hj
    have e4 : ((ys xs[i]).map (enc1 xs[i]))[j]? = some (enc1 xs[i] (ys xs[i])[j]) := by rw [List.getElem?_map, e3] <;> rfl
    obtain ⟨M6, gi6, hx6⟩ := hy1 M5 _ s5 kk5.mh e4
    have g6 := kk5.gi gi6
    have bm : (ys xs[i])[j] ∈ ys xs[i] := List.getElem_mem hj
    refine ⟨B, M6, wp (r0 xs[i]) vs1, enc1 xs[i] (ys xs[i])[j], r xs[i] (ys xs[i])[j], (kk5.gr g6).wipe vs1, hx6, hr _ am _ bm, fun σ7 hσ7 kk7 => ⟨hts1 σ' σ7 hσ7, ⟨(xs[i], (ys xs[i])[j]), am, bm⟩, M6, kk7, fun c M7 H7 ec g7 => ?_⟩⟩
    subst ec
    have g57 := g6.trans g7
    show (if q xs[i] (ys xs[i])[j] = true then _ else _)
    by_cases hb : q xs[i] (ys xs[i])[j] = true
    · rw [if_pos hb]
      refine ⟨⟨(xs[i], (ys xs[i])[j]), am, bm, hb⟩, M7, kk7.gr g7, fun y v M8 H8 ey g8 r8 => ?_⟩
      subst ey
      have g58 := g57.trans g8
      have hD8 := g58.hh D _ hw hD5
      have mD8 := g58.fr D _ hD5 rfl mD5
      have hlen := dps_len hA5
      have hsm : acc5.length < sizeLine := by
        have h1 := hl i xs[i] am
        have h2 : ((((ys xs[i]).take j).filter (q xs[i])).map (f xs[i])).length ≤ j := by
          rw [List.length_map]
          refine Nat.le_trans (List.length_filter_le ..) ?_
          rw [List.length_take]
          omega
        rw [List.length_append] at hlen
        omega
      refine ⟨acc5, hD8, hsm, M8, acc5 ++ [v], (kk5.gr g58).aside (hno _ am) mD8 fD hw, s5.trans g58.mm, upd_same, mD8, ?_, (g15.trans g58).side nD mD8 hw⟩
      rw [take_at e3, List.filter_append, List.map_append, ← List.append_assoc]
      have e5 : [(ys xs[i])[j]].filter (q xs[i]) = [(ys xs[i])[j]] := by rw [List.filter_cons, if_pos hb]; rfl
      rw [e5]
      exact dps_app (dps_up g58.mm _ _ hA5) (.cons r8 .nil)
    · rw [if_neg hb]
      refine ⟨M7, acc5, kk5.gr g57, s5.trans g57.mm, g57.hh D _ hw hD5, g57.fr D _ hD5 rfl mD5, ?_, g15.trans g57⟩
      rw [take_at e3, List.filter_append, List.map_append, ← List.append_assoc]
      have e5 : [(ys xs[i])[j]].filter (q xs[i]) = [] := by rw [List.filter_cons, if_neg hb]; rfl
      rw [e5, List.map_nil, List.append_nil]
      exact dps_up g57.mm _ _ hA5
  · rintro H5 ⟨M5, acc5, kk5, s5, hD5, mD5, hA5, g15⟩
    rw [hn1, List.take_of_length_le (Nat.le_refl _)] at hA5
    refine ⟨M5, acc5, g15, hD5, mD5, ?_⟩
    rw [tk, List.flatMap_append, List.flatMap_cons, List.flatMap_nil, List.append_nil]
    exact hA5
/-- [elt for x in iter for y in iter1 if ..], both targets names -/
theorem ee_lc22 {i j : Nat} {x y : Str} {px py : Pos} {xs : List α} {enc : α → PyData} {ys : α → List β} {enc1 : α → β → PyData} {q : α → β → Bool} {f : α → β → PyData} (hc : X.calm = true) (hN : X.N.Nodup) (hij : i ≠ j) (hi : EI X B ρ (.Name x px) iter (xs.map enc)) (ok : blkC X.N X.env.scope scope [(x, i), (y, j)] = true)
    (hi1 : ∀ s H C cl fp, ∀ a ∈ xs, EI (Blk X s H scope C cl fp) B ((wp ρ [i, j]).set i (some (.im (.dat (enc a))))) (.Name y py) iter1 ((ys a).map (enc1 a)))
    (ht : ∀ s H C cl fp, ∀ a ∈ xs, ∀ b ∈ ys a, ETs (Blk X s H scope C cl fp) B ((wp ((wp ρ [i, j]).set i (some (.im (.dat (enc a))))) [j]).set j (some (.im (.dat (enc1 a b))))) ifs1 (q a b))
    (he : ∀ s H C cl fp, ∀ a ∈ xs, ∀ b ∈ ys a, q a b = true → EE (Blk X s H scope C cl fp) B ((wp ((wp ρ [i, j]).set i (some (.im (.dat (enc a))))) [j]).set j (some (.im (.dat (enc1 a b))))) elt (.dat (f a b)))
    (hl : ∀ n a, a ∈ xs → (((xs.take n).flatMap fun a => ((ys a).filter (q a)).map (f a)).length + (ys a).length ≤ sizeLine)) (hx : X.N[i]? = some x := by rfl) (hy : X.N[j]? = some y := by rfl)
    (hg : ∀ s H C cl fp, EG (Blk X s H scope C cl fp) (.Name x px) (g1 i) [i] := by exact fun _ _ _ _ _ => eg_1 (by assumption)) (hg1 : ∀ s H C cl fp, EG (Blk X s H scope C cl fp) (.Name y py) (g1 j) [j] := by exact fun _ _ _ _ _ => eg_1 (by assumption))
    (hs : ∀ x, foldedSetIterable iter X.env x = pure x := by intro _; rfl) (hs1 : ∀ env x, foldedSetIterable iter1 env x = pure x := by intro _ _; rfl) : EE X B ρ (.ListComp elt [⟨.Name x px, iter, [], 0⟩, ⟨.Name y py, iter1, ifs1, 0⟩] scope pos) (Li (xs.flatMap fun a => ((ys a).filter (q a)).map (f a))) :=
  pe_imp (pe_lc2 (own := [(x, i), (y, j)]) (vs1 := [j]) hc hN hi (blkOk_by ok) (fun i h => by simp at h; subst h; simp) (fun s H C cl fp => (hg s H C cl fp).pg) (fun _ _ _ _ _ => pts_nil) (fun s H C cl fp => pi_any fun a : { z : α // z ∈ xs } => hi1 s H C cl fp a.1 a.2) (fun s H C cl fp => (hg1 s H C cl fp).pg)
      (fun s H C cl fp => pts_any fun a : { z : α × β // z.1 ∈ xs ∧ z.2 ∈ ys z.1 } => ht s H C cl fp a.1.1 a.2.1 a.1.2 a.2.2) (fun s H C cl fp => pe_any fun a : { z : α × β // z.1 ∈ xs ∧ z.2 ∈ ys z.1 ∧ q z.1 z.2 = true } => he s H C cl fp a.1.1 a.2.1 a.1.2 a.2.2.1 a.2.2.2) hs hs1)
    fun σ H Q h => lc2_read (r0 := fun a => (wp ρ [i, j]).set i (some (.im (.dat (enc a))))) (r := fun a b => (wp ((wp ρ [i, j]).set i (some (.im (.dat (enc a))))) [j]).set j (some (.im (.dat (enc1 a b))))) (vs := [i, j]) (vs1 := [j]) (fun _ _ => rfl) (fun _ _ => wp_no.set) (fun _ _ _ _ => rfl)
      (fun σ σ' h => by
        have h : σ'.set i none = ((σ.set j none).set i none).set i none := h
        show (σ'.set j none).set i none = (σ.set j none).set i none
        rw [List.set_comm _ _ (Ne.symm hij), h, set_none_set, List.set_comm _ _ hij, set_none_set, List.set_comm _ _ (Ne.symm hij)])
      (fun σ σ' h => h.trans (set_none_set ..)) hl σ H Q h
end
end K5
/-! LayH: enumerate and zip over lists and tuples in any mix. -/
namespace K5
open PySem PySem.Spec PyProof.Rows L2

/-! ### a source: a list (false) or a tuple (true) -/
def SrA (t : Bool) (K : PySem.W.Frag) (H : Hp) (a : Addr) (xs : List V) : Prop := if t = true then SqT K H a xs else SqL K H a xs
def SrI (t : Bool) (h : Heap) (it a : Addr) (i : Nat) : Prop := if t = true then h.IsTupleIter it a i else h.IsListIter it a i
def SrH (t : Bool) (h : Heap) (a : Addr) (items : Array Value) : Prop := if t = true then h.IsTuple a items else h.IsList a items
def srO (t : Bool) (a : Addr) : Obj := if t = true then { cls := .type "tuple_iterator", data := .fields #[.ref a, .int 0 0] } else { cls := .type "list_iterator", data := .fields #[.ref a, .int 0 0] }
theorem sr_up {t : Bool} {K : PySem.W.Frag} {M N : Hp} {a : Addr} {xs : List V} (s : Same M N) (h : SrA t K M a xs) : SrA t K N a xs := by
  cases t with
  | true => exact tup_up s h
  | false => exact s.seq h
theorem sr_inv {X : Cx} {pins : List (Addr × Obj)} {σ : L2.St} {H : Hp} {s : Shared} {t : Bool} {a : Addr} {xs : List V} (I : Inv X pins σ H s) (h : SrA t X.K H a xs) : ∃ its : List Value, Vals xs its ∧ SrH t s.heap a its.toArray := by
  cases t with
  | true => obtain ⟨its, r, p, _⟩ := I.tuple h; exact ⟨its, r, p⟩
  | false => obtain ⟨its, r, p, _⟩ := I.list h; exact ⟨its, r, p.isList⟩
theorem sr_inj {X : Cx} {pins : List (Addr × Obj)} {σ : L2.St} {H : Hp} {s : Shared} {t : Bool} {a : Addr} {xs ys : List V} (I : Inv X pins σ H s) (h : SrA t X.K H a xs) (h' : SrA t X.K H a ys) : xs = ys := by
  cases t with
  | true => exact I.tuple_inj h h'
  | false => exact I.list_inj h h'
theorem sr_lt {t : Bool} {h : Heap} {a : Addr} {items : Array Value} (x : SrH t h a items) : a < h.objs.size := by
  cases t with
  | true => obtain ⟨o, e, _⟩ := x; exact Heap.lt_size e
  | false => obtain ⟨o, e, _⟩ := x; exact Heap.lt_size e
theorem sr_at {t : Bool} {h h' : Heap} {it a : Addr} {i : Nat} (x : SrI t h it a i) (k : ∀ o, h.get? it = some o → h'.get? it = some o) : SrI t h' it a i := by
  cases t with
  | true => exact Heap.IsTupleIter.at x k
  | false => exact Heap.IsListIter.at x k
theorem sr_draws {P : Program} {w : World} {A : Around} (t : Bool) (hh : A.handled = none) (it a : Addr) (hne : a ≠ it) (items : Array Value) : Draws P w A it [it, a] items.size (fun i v => items[i]? = some v) (fun i h => SrI t h it a i ∧ SrH t h a items) := by
  cases t with
  | true => exact Draws.tuple hh it a hne items
  | false => exact Draws.list hh it a hne items
theorem sr_begins (t : Bool) (a : Addr) (items : Array Value) : Begins (.ref a) (srO t a) fun h => SrH t h a items := by
  cases t with
  | true => exact begins_tuple a items
  | false => exact begins_list a items
theorem sr_zero {t : Bool} {h : Heap} {it a : Addr} (e : h.get? it = some (srO t a)) : SrI t h it a 0 := by
  cases t with
  | true => exact ⟨_, e, rfl, rfl⟩
  | false => exact ⟨_, e, rfl, rfl⟩
theorem sr_obj {t : Bool} {h : Heap} {it a : Addr} {i : Nat} (x : SrI t h it a i) : ∃ o, h.get? it = some o ∧ ∀ v, o.data ≠ .cell v := by
  cases t with
  | true => obtain ⟨o, e, _, d⟩ := x; exact ⟨o, e, fun v z => by rw [d] at z; cases z⟩
  | false => obtain ⟨o, e, _, d⟩ := x; exact ⟨o, e, fun v z => by rw [d] at z; cases z⟩
/-- a source is no iterator of ours -/
theorem sr_ne {X : Cx} {pins : List (Addr × Obj)} {σ : L2.St} {H : Hp} {s : Shared} {t : Bool} {a b : Addr} {xs : List V} (I : Inv X pins σ H s) (h : SrA t X.K H a xs) (f : FpOk X pins H b) : a ≠ b := by
  have key : (∃ o, H a = some o) ∨ ∃ o, X.K.lookup a = some o := by
    cases t with
    | true =>
      rcases h with (h | ⟨o, h⟩) | ⟨o, _, _, h, _⟩
      · exact .inl ⟨_, h⟩
      · exact .inl ⟨_, h⟩
      · exact .inr ⟨_, h⟩
    | false =>
      rcases h with (h | ⟨o, h⟩) | ⟨o, _, _, h, _⟩
      · exact .inl ⟨_, h⟩
      · exact .inl ⟨_, h⟩
      · exact .inr ⟨_, h⟩
  rcases key with ⟨o, e⟩ | ⟨o, e⟩
  · rintro rfl
    rw [f.1] at e
    cases e
  · have e2 := I.ok.mod.kin a o e
    rintro rfl
    rcases f.2.2.2.1 with z | z
    · exact I.ok.noex a o e2 z
    · exact absurd (Nat.lt_of_lt_of_le (Heap.lt_size e2) (Nat.le_trans I.ok.bsz z)) (Nat.lt_irrefl _)

/-! ### a turn of an iterator that hands out new tuples -/
theorem wt_item {X : Cx} {it : Addr} {fp wr : List Addr} {n : Nat} {Pt : Nat → Array Value → Prop} {St : Nat → Heap → Prop} {Mid : Nat → Addr → Heap → Prop} (W : WalksT X.prog X.w X.A it fp wr n Pt St Mid) {elts : List Expr} {kk : Nat} {tpos : Pos}
    {pins : List (Addr × Obj)} {s : Shared} {σ : L2.St} {H : Hp} {E : Value → Shared → Prop} {i : Nat} {R : List V → Prop} (I : Inv X pins σ H s) (hf : ∀ b ∈ wr, FpOk X pins H b) (hst : St i s.heap) (hi : i < n)
    (hv : ∀ vals, Pt i vals → ∃ xs, Vals xs vals.toList ∧ xs.length ≤ sizeLine ∧ R xs) :
    wpAny (model X.prog X.w) X.A (pyNext (.ref it)) (fun r s1 => ∃ u, r = some u ∧ wpAny (model X.prog X.w) X.A (letOwnedTupleGo (.Tuple elts kk tpos) (.ref it) u) (fun _ s2 => ∃ T xs, u = .ref T ∧ s.heap.objs.size ≤ T ∧ Inv X pins σ (upd H T (.tup xs)) s2 ∧ H T = none ∧ R xs ∧ St (i + 1) s2.heap) E s1) E s := by
  refine W.item i s _ _ hi hst fun T vals h1 tk hp hT hI hm hk => ⟨_, rfl, ?_⟩
  refine W.go elts kk tpos i T _ _ _ hm fun h2 hst2 hk2 => ?_
  obtain ⟨xs, rv, hz, hR⟩ := hv vals hp
  have kk2 : ∀ b o, b ∉ wr → s.heap.get? b = some o → h2.get? b = some o := fun b o hb e => hk2 b o hb (hk b o hb e)
  obtain ⟨o, ho, hc, nn, hd⟩ := hI
  have ho2 : h2.get? T = some o := hk2 T o (W.apart i T h1 hm) ho
  have new : ObjOk X.prog X.w (upd H T (.tup xs)) h2 T (.tup xs) := ⟨hz, vals.toList, rv, ⟨o, ho2, hc, nn, by simpa using hd⟩⟩
  exact ⟨T, xs, rfl, hT, I.turnedNew (t' := tk) kk2 hf hT new, I.hok.fresh hT, hR, hst2⟩
theorem wt_done {X : Cx} {it : Addr} {fp wr : List Addr} {n : Nat} {Pt : Nat → Array Value → Prop} {St : Nat → Heap → Prop} {Mid : Nat → Addr → Heap → Prop} (W : WalksT X.prog X.w X.A it fp wr n Pt St Mid)
    {pins : List (Addr × Obj)} {s : Shared} {σ : L2.St} {H : Hp} {E : Value → Shared → Prop} (I : Inv X pins σ H s) (hf : ∀ b ∈ wr, FpOk X pins H b) (hst : St n s.heap) : wpAny (model X.prog X.w) X.A (pyNext (.ref it)) (fun r s1 => r = none ∧ Inv X pins σ H s1) E s :=
  W.done s _ _ hst fun h' tk hk => ⟨rfl, I.turnedL (t' := tk) hk hf⟩

/-! ### enumerate -/
def Jen (t : Bool) (K : PySem.W.Frag) (a : Addr) : It :=
  ⟨fun i H => ∃ (xs : List V) (x : V), SrA t K H a xs ∧ xs[i]? = some x, fun i H v H' => ∃ T x, v = .ref T ∧ H T = none ∧ H' = upd H T (.tup [.int (i : Nat), x]) ∧ ∀ xs, SrA t K H a xs → xs[i]? = some x, fun i H => ∃ xs : List V, SrA t K H a xs ∧ xs.length = i⟩
theorem turn_en {P : Program} {w : World} {K : PySem.W.Frag} {elts : List Expr} {kk : Nat} {tpos : Pos} (t : Bool) (a e it : Addr) :
    Turn P w K (.Tuple elts kk tpos) (Jen t K a) [e, it] e (fun i h => (∃ old, IsEnum h e it ((i : Nat) : Int) old) ∧ SrI t h it a i ∧ e ≠ it) where
  mem := by simp
  obj := fun i h st b hb => by
    obtain ⟨⟨old, he⟩, hs, _⟩ := st
    rcases List.mem_cons.mp hb with z | z
    · rw [z]; exact ⟨_, he, fun v q => nomatch q⟩
    · rw [List.mem_singleton.mp z]; exact sr_obj hs
  keep := fun i h h' st k => let ⟨⟨old, he⟩, hi, hne⟩ := st; ⟨⟨old, k e (by simp) _ he⟩, sr_at hi fun o q => k it (by simp) o q, hne⟩
  item := by
    intro X hP hw hK hc i pins s σ H E I hf st hg
    subst hP hw hK
    obtain ⟨he, hit, hne⟩ := st
    obtain ⟨xs, x, hq, hx⟩ := hg
    obtain ⟨its, rv, hs⟩ := sr_inv I hq
    have n1 := sr_ne I hq (hf it (by simp))
    have n2 := sr_ne I hq (hf e (by simp))
    obtain ⟨u, hu, ru⟩ := rv.get hx
    have hD := sr_draws (P := X.prog) (w := X.w) (A := X.A.in1) t (I.ok.hd hc) it a n1 its.toArray
    have W := WalksT.enumerateD hD e hne (by simp [hne, n2.symm]) (by simp)
    have hlt : i < its.toArray.size := by
      obtain ⟨h, _⟩ := List.getElem?_eq_some_iff.mp hu
      simpa using h
    refine thn (wt_item W (R := fun zs => zs = [.int (i : Nat), x]) I hf ⟨he, hit, hs⟩ hlt fun vals ⟨tk, y, hy, ev⟩ => ?_) fun r s1 ⟨u1, hr, h1⟩ => ⟨u1, hr, thn h1 fun _ s2 ⟨T, zs, eu, hT, I2, nT, ez, st2⟩ => ?_⟩
    · refine ⟨_, ?_, by show 2 ≤ sizeLine; rw [sizeLine_eq]; decide, rfl⟩
      rw [ev]
      have ey : y = u := by
        have h2 : its[i]? = some y := by simpa using hy
        rw [hu] at h2
        exact (Option.some.inj h2).symm
      subst ey
      exact .cons ⟨_, rfl⟩ (.cons ru .nil)
    · subst ez
      have hT' : ∀ b ∈ [e, it], b < s.heap.objs.size := fun b hb => by
        obtain ⟨old, he⟩ := he
        obtain ⟨o, e1, _⟩ := sr_obj hit
        rcases List.mem_cons.mp hb with z | z
        · rw [z]; exact Heap.lt_size he
        · rw [List.mem_singleton.mp z]; exact Heap.lt_size e1
      refine ⟨.ref T, _, I2, eu, ⟨T, x, rfl, nT, rfl, fun ys hy => by rw [sr_inj I hy hq]; exact hx⟩, ⟨?_, st2.2.1, hne⟩, fun b hb => ?_⟩
      · obtain ⟨old, q⟩ := st2.1
        exact ⟨old, q⟩
      · rw [upd_ne (Nat.ne_of_lt (Nat.lt_of_lt_of_le (hT' b hb) hT))]
        exact (hf b hb).1
  done := by
    intro X hP hw hK hc i pins s σ H E I hf st hg
    subst hP hw hK
    obtain ⟨he, hit, hne⟩ := st
    obtain ⟨xs, hq, hx⟩ := hg
    obtain ⟨its, rv, hs⟩ := sr_inv I hq
    have n1 := sr_ne I hq (hf it (by simp))
    have n2 := sr_ne I hq (hf e (by simp))
    have hD := sr_draws (P := X.prog) (w := X.w) (A := X.A.in1) t (I.ok.hd hc) it a n1 its.toArray
    have W := WalksT.enumerateD hD e hne (by simp [hne, n2.symm]) (by simp)
    have hn : i = its.toArray.size := by
      have := rv.length
      simp
      omega
    subst hn
    exact wt_done W I hf ⟨he, hit, hs⟩
  self := fun A i s Q E st h => let ⟨⟨_, he⟩, _⟩ := st; wpAny_pyIter_enum he h
theorem meets_en1 {v : Value} {o : Obj} {H : Heap → Prop} (B : Begins v o H) :
    Meets (Builtin.«enumerate.__new__» ⟨[.type "enumerate", v], []⟩) (fun _ R s => H s.heap ∧ R (.ok (.ret (.ref (s.heap.push o).objs.size))) { s with heap := (s.heap.push o).push { cls := .type "enumerate", data := .fields #[.none, .bool false, .ref s.heap.objs.size, rawInt 0, .none, .none] } }) :=
  .of_wp fun prog w A R s h => by
    obtain ⟨hp, g, d, tk, os⟩ := s
    obtain ⟨h1, h⟩ := h
    have hsub := sub_enumerate
    have q1 : ∀ {A' : Around} {E : Value → Shared → Prop} {Q : Value → Shared → Prop}, Q (.ref hp.objs.size) ⟨hp.push o, g, d, tk, os⟩ → wpAny (model prog w) A' (pyIter v) Q E ⟨hp, g, d, tk, os⟩ := fun q => B.iter prog w _ _ ⟨hp, g, d, tk, os⟩ _ h1 q
    wp_walk using q1
    refine wpAny_stack_any fun st => wpAny_pure ?_
    split
    · rename_i c _ _ _ _ _
      cases (c == Value.type "enumerate")
      · wp_walk using q1
        exact ⟨_, rfl, h⟩
      · wp_walk using q1
        exact ⟨_, rfl, h⟩
    · wp_walk using q1
      exact ⟨_, rfl, h⟩
theorem call_en1 {prog : Program} {w : World} {A : Around} {E : Value → Shared → Prop} {s : Shared} {v : Value} {o : Obj} {H : Heap → Prop} {Q : Value → Shared → Prop} (B : Begins v o H) (h1 : H s.heap)
    (h : ∀ h', IsEnum h' (s.heap.objs.size + 1) s.heap.objs.size 0 .none → h'.get? s.heap.objs.size = some o → (∀ b u, s.heap.get? b = some u → h'.get? b = some u) → Q (.ref (s.heap.objs.size + 1)) { s with heap := h' }) : wpAny (model prog w) A (call (.type "enumerate") [v]) Q E s := by
  refine callType_new F.called_enumerate (by decide) (F.typeCall_enumerate_1 _) (F.newCall_enumerate_1 _) (fun obj => F.args_object_init_2 obj _) F.entry_enumerate_new (meets_en1 B) ⟨h1, ?_⟩
  have hz : (s.heap.push o).objs.size = s.heap.objs.size + 1 := Heap.size_push ..
  show _ ∧ _
  rw [hz]
  have he : IsEnum ((s.heap.push o).push { cls := .type "enumerate", data := .fields #[.none, .bool false, .ref s.heap.objs.size, rawInt 0, .none, .none] }) (s.heap.objs.size + 1) s.heap.objs.size 0 .none := by
    have q := Heap.get?_push_size (s.heap.push o) (o := { cls := .type "enumerate", data := .fields #[.none, .bool false, .ref s.heap.objs.size, rawInt 0, .none, .none] }) rfl
    rw [hz] at q
    exact q
  exact ⟨⟨_, he, rfl⟩, h _ he (Heap.get?_push_of_some _ (Heap.get?_push_size _ B.free)) fun b u x => Heap.get?_push_of_some _ (Heap.get?_push_of_some _ x)⟩
def iEn (t : Bool) (K : PySem.W.Frag) (ta : TA) : TI := fun σ H R => ta σ H fun vs H1 => ∃ a xs, vs = [.ref a] ∧ SrA t K H1 a xs ∧ R (Jen t K a) H1
theorem pi_en {X : Cx} {e : Expr} {ta : TA} {p pos tpos : Pos} {elts : List Expr} {kk : Nat} (t : Bool) (hg : Gl X "enumerate") (hm : X.mg "enumerate" = none) (ha : PA X [e] ta) (hs : starEach [e] X.env = [(false, eval e X.env)] := by rfl) :
    PI X (.Tuple elts kk tpos) (.Call (.Name "enumerate" p) [e] [] pos) (iEn t X.K ta) := by
  refine ⟨fun pins s σ H R I h => ?_⟩
  refine Call_ (ld_blt I hg hm PyProof.Rows.boot_enumerate (PyProof.Rows.callWith_type1 (thn (ha.run pos pins s σ H _ I h) fun us s1 ⟨vs, H1, I1, r1, q1⟩ => ?_) hs rfl))
  obtain ⟨a, xs, ex, hq, q⟩ := q1
  subst ex
  obtain ⟨u, rfl, ru⟩ := vals1 r1
  cases ru
  obtain ⟨its, rv, hs⟩ := sr_inv I1 hq
  refine call_en1 (sr_begins t a its.toArray) hs fun h' he hit hk => wpAny_pyIter_enum he ?_
  have I2 : Inv X pins σ H1 { s1 with heap := h' } := I1.kept (t' := s1.toks) hk
  refine ⟨s1.heap.objs.size + 1, [s1.heap.objs.size + 1, s1.heap.objs.size], _, _, H1, rfl, I2, turn_en t a (s1.heap.objs.size + 1) s1.heap.objs.size, ⟨⟨.none, he⟩, sr_zero hit, Nat.succ_ne_self _⟩, fun b hb => ?_, q⟩
  have hle : s1.heap.objs.size ≤ b := by
    rcases List.mem_cons.mp hb with z | z
    · rw [z]; exact Nat.le_succ _
    · rw [List.mem_singleton.mp z]; exact Nat.le_refl _
  exact I1.fpOk hle (I1.hok.fresh hle)
/-- the data of an enumeration -/
def enD (ds : List PyData) : List PyData := ds.zipIdx.map fun p => .tuple [.int (p.2 : Nat), p.1]
theorem enD_len (ds : List PyData) : (enD ds).length = ds.length := by unfold enD; rw [List.length_map, List.length_zipIdx]
theorem enD_at {ds : List PyData} {i : Nat} {d : PyData} (h : ds[i]? = some d) : (enD ds)[i]? = some (.tuple [.int (i : Nat), d]) := by
  unfold enD
  rw [List.getElem?_map, List.getElem?_zipIdx, h]
  simp
theorem iok_en {K : PySem.W.Frag} {M1 : Hp} {t : Bool} {a : Addr} {vs : List V} {ds : List PyData} (h : SrA t K M1 a vs) (r : DqAll K M1 vs ds) : IOk K (Jen t K a) M1 (enD ds) := by
  have hl := dps_len r
  refine ⟨fun M H i s1 s2 hi => ?_, fun M H s1 s2 => ⟨vs, sr_up (s1.trans s2) h, by rw [enD_len]; exact hl⟩, fun M H i x H' d s1 s2 e y => ?_⟩
  · rw [enD_len] at hi
    exact ⟨vs, vs[i]'(by omega), sr_up (s1.trans s2) h, List.getElem?_eq_getElem (by omega)⟩
  · obtain ⟨hi, _⟩ := List.getElem?_eq_some_iff.mp e
    rw [enD_len] at hi
    have e1 : ds[i]? = some ds[i] := List.getElem?_eq_getElem hi
    rw [enD_at e1] at e
    cases e
    obtain ⟨T, x, rfl, nT, rfl, hx⟩ := y
    obtain ⟨v, e3, q⟩ := dps_at' r e1
    have e4 := hx vs (sr_up (s1.trans s2) h)
    rw [e3] at e4
    cases e4
    have nM : M T = none := by
      cases z : M T with
      | none => rfl
      | some o => rw [s2 _ _ z] at nT; cases nT
    refine ⟨_, .new T _ nT, .tup upd_same (.cons (.int _) (.cons (dp_up (s1.trans fun a u h => ?_) _ _ q) .nil))⟩
    rw [upd_ne (ne_of_none h nM)]
    exact h
section
variable {X : Cx} {B : Bs} {ρ : DEnv} {pos p tpos : Pos} {e e2 : Expr} {elts : List Expr} {kk : Nat}
theorem ei_enT {ds : List PyData} (h : EE X B ρ e (Tu ds)) (hm : X.mg "enumerate" = none) (hg : Gl X "enumerate" := by rfl) (hs : starEach [e] X.env = [(false, eval e X.env)] := by rfl) (hs2 : starEach (e :: []) X.env = (false, eval e X.env) :: starEach [] X.env := by rfl) :
    EI X B ρ (.Tuple elts kk tpos) (.Call (.Name "enumerate" p) [e] [] pos) (enD ds) :=
  pi_imp (pi_en true hg hm (pa_cons h pa_nil hs2) hs) fun σ H Q ⟨M, k, q⟩ => ⟨M, k, fun x v M1 H1 e1 g1 r1 => by
    subst e1
    obtain ⟨t, vs, rfl, h1, h2⟩ := rI_tup r1
    exact ⟨t, vs, rfl, tup_up g1.mh h1, q _ M1 H1 g1 (iok_en (t := true) h1 h2)⟩⟩
theorem ei_enL {ds : List PyData} (h : EE X B ρ e (Li ds)) (hm : X.mg "enumerate" = none) (hg : Gl X "enumerate" := by rfl) (hs : starEach [e] X.env = [(false, eval e X.env)] := by rfl) (hs2 : starEach (e :: []) X.env = (false, eval e X.env) :: starEach [] X.env := by rfl) :
    EI X B ρ (.Tuple elts kk tpos) (.Call (.Name "enumerate" p) [e] [] pos) (enD ds) :=
  pi_imp (pi_en false hg hm (pa_cons h pa_nil hs2) hs) fun σ H Q ⟨M, k, q⟩ => ⟨M, k, fun x v M1 H1 e1 g1 r1 => by
    subst e1
    obtain ⟨t, vs, rfl, h1, h2⟩ := rI_lst r1
    exact ⟨t, vs, rfl, g1.mh.seq h1, q _ M1 H1 g1 (iok_en (t := false) h1 h2)⟩⟩
end
end K5
/-! LayI: zip of lists and tuples in any mix; tuples and lists put together; lists of the frame's own. -/
namespace K5
open PySem PySem.Spec PyProof.Rows L2

structure Five (z TI TO i1 i2 : Addr) : Prop where
  a : TI ≠ z
  b : TO ≠ z
  c : TI ≠ TO
  d : TI ≠ i1
  e : TI ≠ i2
  f : z ≠ i1
  g : z ≠ i2
  h : TO ≠ i1
  i : TO ≠ i2
  j : i1 ≠ i2
def Jzp (t u : Bool) (K : PySem.W.Frag) (a b : Addr) : It :=
  ⟨fun i H => ∃ (xs ys : List V) (x y : V), SrA t K H a xs ∧ SrA u K H b ys ∧ xs[i]? = some x ∧ ys[i]? = some y,
    fun i H v H' => ∃ T x y, v = .ref T ∧ H T = none ∧ H' = upd H T (.tup [x, y]) ∧ (∀ xs, SrA t K H a xs → xs[i]? = some x) ∧ ∀ ys, SrA u K H b ys → ys[i]? = some y,
    fun i H => ∃ xs ys : List V, SrA t K H a xs ∧ SrA u K H b ys ∧ min xs.length ys.length = i⟩
theorem five_sep {z TI TO i1 i2 a b : Addr} (D : Five z TI TO i1 i2) (a1 : a ≠ z) (a2 : a ≠ TO) (a3 : a ≠ i2) (b1 : b ≠ z) (b2 : b ≠ TO) (b3 : b ≠ i1) : ZipSep2 z TI TO i1 i2 [i1, a] [i2, b] :=
  { TIz := D.a, TOz := D.b, TITO := D.c, TIi1 := D.d, TIi2 := D.e, mem1 := by simp, mem2 := by simp, zf1 := by simp [D.f, a1.symm], zf2 := by simp [D.g, b1.symm], Tf1 := by simp [D.h, a2.symm], Tf2 := by simp [D.i, b2.symm], sep1_2 := by simp [D.j, b3.symm], sep2_1 := by simp [D.j.symm, a3.symm] }
def zpT (t u : Bool) (a b z TI TO i1 i2 : Addr) (i : Nat) (h : Heap) : Prop := IsZip h z TI TO .none ∧ IsTupOf2 h TI (.ref i1) (.ref i2) ∧ (∃ a1 a2, IsTupOf2 h TO a1 a2) ∧ SrI t h i1 a i ∧ SrI u h i2 b i
theorem zp_obj {t u : Bool} {a b z TI TO i1 i2 : Addr} {i : Nat} {h : Heap} (st : zpT t u a b z TI TO i1 i2 i h) : ∀ c ∈ [z, TI, TO, i1, i2], ∃ o, h.get? c = some o ∧ ∀ v, o.data ≠ .cell v := fun c hc => by
  obtain ⟨hz, hT, ⟨a1, a2, hO⟩, s1, s2⟩ := st
  have e : c = z ∨ c = TI ∨ c = TO ∨ c = i1 ∨ c = i2 := by simpa using hc
  rcases e with rfl | rfl | rfl | rfl | rfl
  · exact ⟨_, hz, fun v q => nomatch q⟩
  · exact ⟨_, hT, fun v q => nomatch q⟩
  · exact ⟨_, hO, fun v q => nomatch q⟩
  · exact sr_obj s1
  · exact sr_obj s2
theorem turn_zp {P : Program} {w : World} {K : PySem.W.Frag} {elts : List Expr} {kk : Nat} {tpos : Pos} (t u : Bool) {a b z TI TO i1 i2 : Addr} (D : Five z TI TO i1 i2) : Turn P w K (.Tuple elts kk tpos) (Jzp t u K a b) [z, TI, TO, i1, i2] z (zpT t u a b z TI TO i1 i2) where
  mem := by simp
  obj := fun i h st => zp_obj st
  keep := fun i h h' st k => by
    obtain ⟨hz, hT, ⟨a1, a2, hO⟩, s1, s2⟩ := st
    exact ⟨k z (by simp) _ hz, k TI (by simp) _ hT, ⟨a1, a2, k TO (by simp) _ hO⟩, sr_at s1 fun o q => k i1 (by simp) o q, sr_at s2 fun o q => k i2 (by simp) o q⟩
  item := by
    intro X hP hw hK hc i pins s σ H E I hf st hg
    subst hP hw hK
    obtain ⟨xs, ys, x, y, hq, hq2, hx, hy⟩ := hg
    obtain ⟨its, rv, hs⟩ := sr_inv I hq
    obtain ⟨its2, rv2, hs2⟩ := sr_inv I hq2
    have na : ∀ c ∈ [z, TI, TO, i1, i2], a ≠ c := fun c h => sr_ne I hq (hf c h)
    have nb : ∀ c ∈ [z, TI, TO, i1, i2], b ≠ c := fun c h => sr_ne I hq2 (hf c h)
    obtain ⟨v1, hv1, ru1⟩ := rv.get hx
    obtain ⟨v2, hv2, ru2⟩ := rv2.get hy
    have D1 := sr_draws (P := X.prog) (w := X.w) (A := X.A.in1) t (I.ok.hd hc) i1 a (na i1 (by simp)) its.toArray
    have D2 := sr_draws (P := X.prog) (w := X.w) (A := X.A.in1) u (I.ok.hd hc) i2 b (nb i2 (by simp)) its2.toArray
    have W := WalksT.zipD2 (five_sep D (na z (by simp)) (na TO (by simp)) (na i2 (by simp)) (nb z (by simp)) (nb TO (by simp)) (nb i1 (by simp))) D1 D2
    have l1 : i < its.toArray.size := by
      obtain ⟨h, _⟩ := List.getElem?_eq_some_iff.mp hv1
      simpa using h
    have l2 : i < its2.toArray.size := by
      obtain ⟨h, _⟩ := List.getElem?_eq_some_iff.mp hv2
      simpa using h
    have ob := zp_obj st
    obtain ⟨hz, hT, hO, s1, s2⟩ := st
    have hfw : ∀ c ∈ [z, TO, i1, i2], FpOk X pins H c := fun c h => hf c (by simp at h ⊢; rcases h with h | h | h | h <;> simp [h])
    refine thn (wt_item W (R := fun zs => zs = [x, y]) I hfw ⟨hz, hT, hO, ⟨s1, hs⟩, ⟨s2, hs2⟩⟩ (by omega) fun vals ⟨y1, y2, e1, e2, ev⟩ => ?_) fun r s1 ⟨u1, hr, h1⟩ => ⟨u1, hr, thn h1 fun _ s2 ⟨T, zs, eu, hT, I2, nT, ez, st2⟩ => ?_⟩
    · refine ⟨_, ?_, by show 2 ≤ sizeLine; rw [sizeLine_eq]; decide, rfl⟩
      rw [ev]
      have q1 : y1 = v1 := by
        have h2 : its[i]? = some y1 := by simpa using e1
        rw [hv1] at h2
        exact (Option.some.inj h2).symm
      have q2 : y2 = v2 := by
        have h2 : its2[i]? = some y2 := by simpa using e2
        rw [hv2] at h2
        exact (Option.some.inj h2).symm
      subst q1 q2
      exact .cons ru1 (.cons ru2 .nil)
    · subst ez
      refine ⟨.ref T, _, I2, eu, ⟨T, x, y, rfl, nT, rfl, fun zs h => by rw [sr_inj I h hq]; exact hx, fun zs h => by rw [sr_inj I h hq2]; exact hy⟩, ⟨st2.1, st2.2.1, st2.2.2.1, st2.2.2.2.1.1, st2.2.2.2.2.1⟩, fun c hc2 => ?_⟩
      obtain ⟨o, e, _⟩ := ob c hc2
      rw [upd_ne (Nat.ne_of_lt (Nat.lt_of_lt_of_le (Heap.lt_size e) hT))]
      exact (hf c hc2).1
  done := by
    intro X hP hw hK hc i pins s σ H E I hf st hg
    subst hP hw hK
    obtain ⟨xs, ys, hq, hq2, hx⟩ := hg
    obtain ⟨its, rv, hs⟩ := sr_inv I hq
    obtain ⟨its2, rv2, hs2⟩ := sr_inv I hq2
    have na : ∀ c ∈ [z, TI, TO, i1, i2], a ≠ c := fun c h => sr_ne I hq (hf c h)
    have nb : ∀ c ∈ [z, TI, TO, i1, i2], b ≠ c := fun c h => sr_ne I hq2 (hf c h)
    have D1 := sr_draws (P := X.prog) (w := X.w) (A := X.A.in1) t (I.ok.hd hc) i1 a (na i1 (by simp)) its.toArray
    have D2 := sr_draws (P := X.prog) (w := X.w) (A := X.A.in1) u (I.ok.hd hc) i2 b (nb i2 (by simp)) its2.toArray
    have W := WalksT.zipD2 (five_sep D (na z (by simp)) (na TO (by simp)) (na i2 (by simp)) (nb z (by simp)) (nb TO (by simp)) (nb i1 (by simp))) D1 D2
    have hn : i = min its.toArray.size its2.toArray.size := by
      have q1 := rv.length
      have q2 := rv2.length
      simp
      omega
    obtain ⟨hz, hT, hO, s1, s2⟩ := st
    have hfw : ∀ c ∈ [z, TO, i1, i2], FpOk X pins H c := fun c h => hf c (by simp at h ⊢; rcases h with h | h | h | h <;> simp [h])
    subst hn
    exact wt_done W I hfw ⟨hz, hT, hO, ⟨s1, hs⟩, ⟨s2, hs2⟩⟩
  self := fun A i s Q E st h => wpAny_pyIter_zip st.1 h
def iZp (t u : Bool) (K : PySem.W.Frag) (ta : TA) : TI := fun σ H R => ta σ H fun vs H1 => ∃ a b xs ys, vs = [.ref a, .ref b] ∧ SrA t K H1 a xs ∧ SrA u K H1 b ys ∧ R (Jzp t u K a b) H1
theorem pi_zp {X : Cx} {e e2 : Expr} {ta : TA} {p pos tpos : Pos} {elts : List Expr} {kk : Nat} (t u : Bool) (hg : Gl X "zip") (hm : X.mg "zip" = none) (ha : PA X [e, e2] ta) (hs : starEach [e, e2] X.env = (false, eval e X.env) :: starEach [e2] X.env := by rfl)
    (hpl : (backTo pos (starEach [e2] X.env)).any (·.1) = false := by rfl) : PI X (.Tuple elts kk tpos) (.Call (.Name "zip" p) [e, e2] [] pos) (iZp t u X.K ta) := by
  refine ⟨fun pins s σ H R I h => ?_⟩
  refine Call_ (ld_blt I hg hm PyProof.Rows.boot_zip (PyProof.Rows.callWith_type1 (thn (ha.run pos pins s σ H _ I h) fun us s1 ⟨vs, H1, I1, r1, q1⟩ => ?_) hs hpl))
  obtain ⟨a, b, xs, ys, ex, hq, hq2, q⟩ := q1
  subst ex
  obtain ⟨u1, u2, rfl, ru1, ru2⟩ := vals2 r1
  cases ru1
  cases ru2
  obtain ⟨its, rv, hs⟩ := sr_inv I1 hq
  obtain ⟨its2, rv2, hs2⟩ := sr_inv I1 hq2
  refine zip_begins2 (sr_begins t a its.toArray) (sr_begins u b its2.toArray) hs hs2 fun h' hz hTI hTO o1 o2 hsz hk => wpAny_pyIter_zip hz ?_
  have I2 : Inv X pins σ H1 { s1 with heap := h' } := I1.kept (t' := s1.toks) hk
  refine ⟨s1.heap.objs.size + 4, [s1.heap.objs.size + 4, s1.heap.objs.size + 2, s1.heap.objs.size + 3, s1.heap.objs.size, s1.heap.objs.size + 1], _, _, H1, rfl, I2, turn_zp t u ?_, ⟨hz, hTI, ⟨_, _, hTO⟩, sr_zero o1, sr_zero o2⟩, fun c hc => ?_, q⟩
  · generalize s1.heap.objs.size = n
    exact ⟨show n + 2 ≠ n + 4 by omega, show n + 3 ≠ n + 4 by omega, show n + 2 ≠ n + 3 by omega, show n + 2 ≠ n by omega, show n + 2 ≠ n + 1 by omega, show n + 4 ≠ n by omega, show n + 4 ≠ n + 1 by omega, show n + 3 ≠ n by omega, show n + 3 ≠ n + 1 by omega, show n ≠ n + 1 by omega⟩
  · have hle : s1.heap.objs.size ≤ c := by
      have e' : c = s1.heap.objs.size + 4 ∨ c = s1.heap.objs.size + 2 ∨ c = s1.heap.objs.size + 3 ∨ c = s1.heap.objs.size ∨ c = s1.heap.objs.size + 1 := by simpa using hc
      generalize s1.heap.objs.size = n at e'
      rcases e' with z | z | z | z | z <;> rw [z] <;> first | exact Nat.le_refl _ | exact Nat.le_add_right _ _
    exact I1.fpOk hle (I1.hok.fresh hle)
theorem iok_zp {K : PySem.W.Frag} {M1 : Hp} {t u : Bool} {a b : Addr} {vs ws : List V} {ds fs : List PyData} (h : SrA t K M1 a vs) (h2 : SrA u K M1 b ws) (r : DqAll K M1 vs ds) (r2 : DqAll K M1 ws fs) : IOk K (Jzp t u K a b) M1 ((ds.zip fs).map fun p => .tuple [p.1, p.2]) := by
  have l1 := dps_len r
  have l2 := dps_len r2
  have hl : ((ds.zip fs).map fun p => PyData.tuple [p.1, p.2]).length = min ds.length fs.length := by rw [List.length_map, List.length_zip]
  refine ⟨fun M H i s1 s2 hi => ?_, fun M H s1 s2 => ⟨vs, ws, sr_up (s1.trans s2) h, sr_up (s1.trans s2) h2, by rw [hl]; omega⟩, fun M H i x H' d s1 s2 e y => ?_⟩
  · rw [hl] at hi
    exact ⟨vs, ws, vs[i]'(by omega), ws[i]'(by omega), sr_up (s1.trans s2) h, sr_up (s1.trans s2) h2, List.getElem?_eq_getElem (by omega), List.getElem?_eq_getElem (by omega)⟩
  · obtain ⟨hi, _⟩ := List.getElem?_eq_some_iff.mp e
    rw [hl] at hi
    have e1 : ds[i]? = some (ds[i]'(by omega)) := List.getElem?_eq_getElem (by omega)
    have e2 : fs[i]? = some (fs[i]'(by omega)) := List.getElem?_eq_getElem (by omega)
    have e3 : (ds.zip fs)[i]? = some (ds[i]'(by omega), fs[i]'(by omega)) := by
      rw [List.getElem?_zip_eq_some]
      exact ⟨e1, e2⟩
    rw [List.getElem?_map, e3] at e
    have e : PyData.tuple [ds[i]'(by omega), fs[i]'(by omega)] = d := Option.some.inj e
    subst e
    obtain ⟨T, x, z, rfl, nT, rfl, hx, hz⟩ := y
    obtain ⟨v, q1, q2⟩ := dps_at' r e1
    obtain ⟨v', q3, q4⟩ := dps_at' r2 e2
    have e4 := hx vs (sr_up (s1.trans s2) h)
    have e5 := hz ws (sr_up (s1.trans s2) h2)
    rw [q1] at e4
    rw [q3] at e5
    cases e4
    cases e5
    have nM : M T = none := by
      cases z : M T with
      | none => rfl
      | some o => rw [s2 _ _ z] at nT; cases nT
    have up : ∀ o, Same M1 (upd M T o) := fun o => s1.trans fun a u h => by
      rw [upd_ne (ne_of_none h nM)]
      exact h
    exact ⟨_, .new T _ nT, .tup upd_same (.cons (dp_up (up _) _ _ q2) (.cons (dp_up (up _) _ _ q4) .nil))⟩
section
variable {X : Cx} {B : Bs} {ρ : DEnv} {pos p tpos : Pos} {e e2 a b : Expr} {elts : List Expr} {kk : Nat}
theorem im_sr {K : PySem.W.Frag} {M : Hp} {v : V} {t : Bool} {ds : List PyData} (r : RepI K M v (if t = true then Tu ds else Li ds)) : ∃ a vs, v = .ref a ∧ SrA t K M a vs ∧ DqAll K M vs ds := by
  cases t with
  | true => exact rI_tup r
  | false => exact rI_lst r
theorem ei_zip {t u : Bool} {ds fs : List PyData} (h : EE X B ρ e (if t = true then Tu ds else Li ds)) (h2 : EE X B ρ e2 (if u = true then Tu fs else Li fs)) (hm : X.mg "zip" = none) (hg : Gl X "zip" := by rfl) (hs : starEach [e, e2] X.env = (false, eval e X.env) :: starEach [e2] X.env := by rfl) (hs2 : starEach [e2] X.env = (false, eval e2 X.env) :: starEach [] X.env := by rfl)
    (hpl : (backTo pos (starEach [e2] X.env)).any (·.1) = false := by rfl) : EI X B ρ (.Tuple elts kk tpos) (.Call (.Name "zip" p) [e, e2] [] pos) ((ds.zip fs).map fun p => .tuple [p.1, p.2]) :=
  pi_imp (pi_zp t u hg hm (pa_cons h (pa_cons h2 pa_nil hs2) hs) hs hpl) fun σ H Q ⟨M, k, q⟩ => ⟨M, k, fun x v M1 H1 e1 g1 r1 => ⟨M1, k.gr g1, fun y w M2 H2 e3 g2 r2 => by
    subst e1 e3
    obtain ⟨a1, vs, rfl, h1, h3⟩ := im_sr r1
    obtain ⟨a2, ws, rfl, h4, h5⟩ := im_sr r2
    exact ⟨a1, a2, vs, ws, rfl, sr_up (g2.mm.trans g2.mh) h1, sr_up g2.mh h4, q _ M2 H2 (g1.trans g2) (iok_zp (sr_up g2.mm h1) h4 (dps_up g2.mm _ _ h3) h5)⟩⟩⟩
/-- t + u -/
theorem ee_catT {ds fs : List PyData} (ha : EE X B ρ a (Tu ds)) (hb : EE X B ρ b (Tu fs)) (hl : ds.length + fs.length ≤ sizeLine) : EE X B ρ (.BinOp a .Add b pos) (Tu (ds ++ fs)) :=
  ee_op op_catA ha hb fun v u σ M H Q k r1 r2 q => by
    have r1' := r1
    have r2' := r2
    obtain ⟨a1, vs, rfl, h1, h3⟩ := rI_tup r1
    obtain ⟨a2, ws, rfl, h4, h5⟩ := rI_tup r2
    refine ⟨a1, a2, vs, ws, rfl, rfl, tup_up k.mh h1, tup_up k.mh h4, by rw [dps_len h3, dps_len h5]; exact hl, fun e => ?_, fun _ e => ?_, fun _ _ p np => ?_⟩
    · subst e
      cases h3
      exact q _ M H k.refl r2'
    · subst e
      cases h5
      rw [List.append_nil] at q
      exact q _ M H k.refl r1'
    · have g := k.new (o := .tup (vs ++ ws)) np
      exact q _ _ _ g (.tup upd_same (dps_up g.mm _ _ (dps_app h3 h5)))
end
end K5
/-! LayJ: things of a frame's own: lists that grow, dicts that are stored into. -/
namespace K5
open PySem PySem.Spec PyProof.Rows L2

def tEF (K : PySem.W.Frag) (B : Bs) (ρ : DEnv) (y : En) : TE := fun σ H Q => ∃ M, Ok K B M H σ ρ ∧ ∀ a M' H', Gr B M H M' H' → H a = none → M' a = none → RepE K M' H' (.ref a) y → Q (.ref a) H'
/-- a thing just made, nobody's yet -/
abbrev EF (X : Cx) (B : Bs) (ρ : DEnv) (e : Expr) (y : En) : Prop := PE X e (tEF X.K B ρ y)

section
variable {K : PySem.W.Frag} {B : Bs} {M H : Hp} {σ : L2.St} {ρ : DEnv}
theorem Ok.fF (k : Ok K B M H σ ρ) {a : Addr} (n : H a = none) : B.F a = none := by
  cases z : B.F a with
  | none => rfl
  | some o =>
    obtain ⟨o', h, _⟩ := k.ft a o z
    rw [n] at h
    cases h
theorem set_cases {α : Type} {l : List α} {i j : Nat} {x e : α} (h : (l.set i x)[j]? = some e) : (i = j ∧ e = x ∧ i < l.length) ∨ (i ≠ j ∧ l[j]? = some e) := by
  by_cases hj : i = j
  · subst hj
    by_cases hv : i < l.length
    · rw [List.getElem?_set_self hv] at h
      cases h
      exact .inl ⟨rfl, rfl, hv⟩
    · rw [List.getElem?_eq_none (by simpa using hv)] at h; cases h
  · rw [List.getElem?_set_ne hj] at h
    exact .inr ⟨hj, h⟩
/-- a name takes a thing of the frame's own -/
theorem Ok.tak (k : Ok K B M H σ ρ) {i : Nat} {a : Addr} {y : En} (r : RepE K M H (.ref a) y) (st : StayE y ∧ RefE y) (n : ∀ (j : Nat) (e : En), ρ[j]? = some (some e) → K5.own e = true → σ[j]? ≠ some (some (V.ref a))) (f : B.F a = none) (w : ¬ B.W a) :
    Ok K B M H (σ.set i (some (.ref a))) (ρ.set i (some y)) where
  mm := k.mm
  mh := k.mh
  fh := k.fh
  ft := k.ft
  fm := k.fm
  at_ := fun j e h => by
    rcases set_cases h with ⟨rfl, e1, hv⟩ | ⟨hj, h⟩
    · cases e1
      exact ⟨_, List.getElem?_set_self (by rw [← k.len]; exact hv), r⟩
    · rw [List.getElem?_set_ne hj]
      exact k.at_ j e h
  fresh := fun j e b h o h' => by
    rcases set_cases h with ⟨rfl, e1, hv⟩ | ⟨hj, h⟩
    · rw [List.getElem?_set_self (by rw [← k.len]; exact hv)] at h'
      cases h'
      exact ⟨f, w⟩
    · rw [List.getElem?_set_ne hj] at h'
      exact k.fresh j e b h o h'
  sep := fun j l e e' nn h h' o o' => by
    rcases set_cases h with ⟨rfl, e1, hv⟩ | ⟨hj, h⟩
    · rcases set_cases h' with ⟨rfl, e2, _⟩ | ⟨hl, h'⟩
      · exact absurd rfl nn
      · rw [List.getElem?_set_self (by rw [← k.len]; exact hv), List.getElem?_set_ne hl]
        exact fun z => n l e' h' o' z.symm
    · rw [List.getElem?_set_ne hj]
      rcases set_cases h' with ⟨rfl, e2, hv⟩ | ⟨hl, h'⟩
      · rw [List.getElem?_set_self (by rw [← k.len]; exact hv)]
        exact n j e h o
      · rw [List.getElem?_set_ne hl]
        exact k.sep j l e e' nn h h' o o'
  stay := fun j e h => by
    rcases set_cases h with ⟨rfl, e1, hv⟩ | ⟨hj, h⟩
    · cases e1
      exact st
    · exact k.stay j e h
  wm := k.wm
  vol := k.vol
  len := by rw [List.length_set, List.length_set]; exact k.len
/-- such a thing is written -/
theorem Ok.wri (k : Ok K B M H σ ρ) {i : Nat} {a : Addr} {y y' : En} {o : HO} (h : ρ[i]? = some (some y)) (hs : σ[i]? = some (some (.ref a))) (hy : K5.own y = true) (mA : M a = none) (r : RepE K M (upd H a o) (.ref a) y') (st : StayE y' ∧ RefE y') (ot : tupO o = false) :
    Ok K B M (upd H a o) σ (ρ.set i (some y')) := by
  obtain ⟨fA, wA⟩ := k.fresh i y a h hy hs
  refine ⟨k.mm, fun b u e => ?_, fun b u w e => ?_, fun b u e => ?_, k.fm, fun j e hj => ?_, fun j e b hj o' h' => ?_, fun j l e e' nn hj hl o1 o2 => ?_, fun j e hj => ?_, fun b w => ?_, ?_, by rw [List.length_set]; exact k.len⟩
  · rw [upd_ne (ne_of_none e mA)]
    exact k.mh b u e
  · rw [upd_ne (ne_of_none e fA)]
    exact k.fh b u w e
  · rw [upd_ne (ne_of_none e fA)]
    exact k.ft b u e
  · rcases set_cases hj with ⟨rfl, e1, hv⟩ | ⟨nj, hj⟩
    · cases e1
      exact ⟨_, hs, r⟩
    · obtain ⟨v, h1, r1⟩ := k.at_ j e hj
      obtain ⟨s1, w1⟩ := k.stay j e hj
      refine ⟨v, h1, repE_up r1 s1 (Same.refl M) (fun b u ho ev h2 t nb => ?_) w1⟩
      subst ev
      have hne : b ≠ a := fun z => by
        subst z
        exact k.sep i j y e nj h hj hy ho (hs.trans h1.symm)
      rw [upd_ne hne]
      exact ⟨h2, nb⟩
  · rcases set_cases hj with ⟨rfl, e1, hv⟩ | ⟨nj, hj⟩
    · exact k.fresh i y b h hy h'
    · exact k.fresh j e b hj o' h'
  · rcases set_cases hj with ⟨rfl, e1, hv⟩ | ⟨nj, hj⟩
    · rcases set_cases hl with ⟨rfl, e2, _⟩ | ⟨nl, hl⟩
      · exact absurd rfl nn
      · exact k.sep i l y e' nl h hl hy o2
    · rcases set_cases hl with ⟨rfl, e2, _⟩ | ⟨nl, hl⟩
      · exact k.sep j i e y nn hj h o1 hy
      · exact k.sep j l e e' nn hj hl o1 o2
  · rcases set_cases hj with ⟨rfl, e1, hv⟩ | ⟨nj, hj⟩
    · cases e1
      exact st
    · exact k.stay j e hj
  · rw [upd_ne (fun z => wA (by rw [← z]; exact w))]
    exact k.wm b w
  · exact B.loc H _ (fun b u w e => by rw [upd_ne (fun z => wA (by rw [← z]; exact w))]; exact e) k.vol
end

/-! ### keys -/
def tI (k : List Int) : PyData := .tuple (k.map .int)
section
variable {κ : Type} [DecidableEq κ]
def hasK (kvs : List (κ × PyData)) (k : κ) : Bool := kvs.any fun p => decide (p.1 = k)
def getK (kvs : List (κ × PyData)) (k : κ) : Option PyData := (kvs.find? fun p => decide (p.1 = k)).map (·.2)
theorem getK_isSome (kvs : List (κ × PyData)) (k : κ) : (getK kvs k).isSome = hasK kvs k := by
  unfold getK hasK
  rw [Option.isSome_map]
  induction kvs with
  | nil => rfl
  | cons p r ih =>
    rw [List.find?_cons, List.any_cons]
    by_cases e : p.1 = k
    · rw [decide_eq_true e] <;> rfl
    · rw [decide_eq_false e, Bool.false_or] <;> exact ih
theorem getK_mem {kvs : List (κ × PyData)} {k : κ} {d : PyData} (h : getK kvs k = some d) : ∃ p ∈ kvs, p.2 = d := by
  unfold getK at h
  obtain ⟨p, h1, h2⟩ := Option.map_eq_some_iff.mp h
  exact ⟨p, List.mem_of_find?_eq_some h1, h2⟩
end
theorem inl_map_inj : ∀ {k j : List Int}, k.map (Sum.inl (β := Str)) = j.map Sum.inl → k = j
  | [], [], _ => rfl
  | [], _ :: _, h => by cases h
  | _ :: _, [], h => by cases h
  | a :: k, b :: j, h => by
    rw [List.map_cons, List.map_cons] at h
    injection h with h1 h2
    cases h1
    rw [inl_map_inj h2]
theorem valV_kvT (k : List Int) : ∀ kvs : List (List Int × PyData), valV (kvT kvs) (k.map Sum.inl) = (getK kvs k).map sV
  | [] => rfl
  | p :: kvs => by
    have ih := valV_kvT k kvs
    show valV ((p.1.map Sum.inl, sV p.2) :: kvT kvs) _ = _
    by_cases e : p.1 = k
    · rw [valV_pos (by rw [← e])]
      unfold getK
      rw [List.find?_cons, decide_eq_true e]
      rfl
    · rw [valV_neg (fun z => e (inl_map_inj z)), ih]
      unfold getK
      rw [List.find?_cons, decide_eq_false e]
theorem valV_kvI (k : Int) : ∀ kvs : List (Int × PyData), valV (kvI kvs) (Sum.inl k) = (getK kvs k).map sV
  | [] => rfl
  | p :: kvs => by
    have ih := valV_kvI k kvs
    show valV ((Sum.inl p.1, sV p.2) :: kvI kvs) _ = _
    by_cases e : p.1 = k
    · rw [valV_pos (by rw [← e])]
      unfold getK
      rw [List.find?_cons, decide_eq_true e]
      rfl
    · rw [valV_neg (fun z => e (by injection z)), ih]
      unfold getK
      rw [List.find?_cons, decide_eq_false e]
theorem putK_new {κ : Type} [DecidableEq κ] {kvs : List (κ × V)} {k : κ} {v : V} (h : valV kvs k = none) : putK kvs k v = kvs ++ [(k, v)] := by
  unfold putK
  rw [valV_any, h]
  rfl
theorem dqs_ints {K : PySem.W.Frag} {M : Hp} : ∀ {k : List Int} {vs : List V}, DqAll K M vs (k.map PyData.int) → vs = (k.map Sum.inl).map kV
  | [], _, h => by cases h; rfl
  | b :: bs, _, h => by
    cases h with
    | cons a r =>
      rw [dqs_ints r]
      cases a
      rfl
theorem rI_key {K : PySem.W.Frag} {M : Hp} {v : V} {k : List Int} (r : RepI K M v (.dat (tI k))) : ∃ b, v = .ref b ∧ M b = some (.tup ((k.map Sum.inl).map kV)) := by
  obtain ⟨b, vs, e, h1, h2⟩ := rI_tupH (ds := k.map .int) r
  rw [dqs_ints h2] at h1
  exact ⟨b, e, h1⟩

section
variable {X : Cx} {B : Bs} {ρ : DEnv} {pos p px pn apos cpos : Pos} {e a b c : Expr} {sts : List Stmt} {R : Res → Prop}
/-! ### making, keeping -/
theorem ef_lst {es : List Expr} {ds : List PyData} (h : EA X B ρ es (ds.map Im.dat)) (hl : ds.length ≤ sizeLine) : EF X B ρ (.List es pos) (.lst ds) :=
  pe_imp (pe_lst h) fun σ H Q ⟨M, k, q⟩ => ⟨M, k, fun vs M1 H1 g1 r1 => by
    have hd := repIs_dp r1
    refine ⟨by rw [dps_len hd]; exact hl, fun p np => ?_⟩
    have k1 := k.gr g1
    have mp := k1.clr np
    have hp : H p = none := by
      cases z : H p with
      | none => rfl
      | some o =>
        obtain ⟨o', h', _⟩ := g1.th p o z
        rw [np] at h'
        cases h'
    exact q p M1 _ (g1.trans (k1.tmp np)) hp mp ⟨p, vs, rfl, mp, upd_same, hd⟩⟩
theorem ef_nil : EF X B ρ (.List [] pos) (.lst []) := ef_lst ea_nil (Nat.zero_le _)
theorem ef_dI : EF X B ρ (.Dict [] [] pos) (.dI []) :=
  pe_imp pe_dnewK fun σ H Q ⟨M, k, q⟩ p np => q p M _ (k.tmp np) np (k.clr np) ⟨p, rfl, k.clr np, upd_same, fun _ h => nomatch h⟩
theorem ef_dT : EF X B ρ (.Dict [] [] pos) (.dT []) :=
  pe_imp pe_dnewT fun σ H Q ⟨M, k, q⟩ p np => q p M _ (k.tmp np) np (k.clr np) ⟨p, rfl, k.clr np, upd_same, fun _ h => nomatch h⟩
theorem ee_ofL {ds : List PyData} (h : EF X B ρ e (.lst ds)) : EE X B ρ e (Li ds) :=
  pe_imp h fun σ H Q ⟨M, k, q⟩ => ⟨M, k, fun a M' H' g n n' ⟨a', vs, e1, _, e2, r⟩ => by
    cases e1
    have g2 := g.keep n n' e2
    exact q _ _ _ _ rfl g2 (.lst upd_same (dps_up (fun b u h => by rw [upd_ne (ne_of_none h n')]; exact h) _ _ r))⟩
theorem ee_ofI {kvs : List (Int × PyData)} (h : EF X B ρ e (.dI kvs)) : EE X B ρ e (.di kvs) :=
  pe_imp h fun σ H Q ⟨M, k, q⟩ => ⟨M, k, fun a M' H' g n n' ⟨a', e1, _, e2, r⟩ => by
    cases e1
    exact q _ _ _ _ rfl (g.keep n n' e2) ⟨a, rfl, upd_same, r⟩⟩
theorem ee_ofT {kvs : List (List Int × PyData)} (h : EF X B ρ e (.dT kvs)) : EE X B ρ e (.dt kvs) :=
  pe_imp h fun σ H Q ⟨M, k, q⟩ => ⟨M, k, fun a M' H' g n n' ⟨a', e1, _, e2, r⟩ => by
    cases e1
    exact q _ _ _ _ rfl (g.keep n n' e2) ⟨a, rfl, upd_same, r⟩⟩
theorem Ok.tak2 {K : PySem.W.Frag} {M H M' H' : Hp} {σ : L2.St} (k : Ok K B M H σ ρ) (g : Gr B M H M' H') {i : Nat} {a : Addr} {y : En} (n : H a = none) (r : RepE K M' H' (.ref a) y) (st : StayE y ∧ RefE y) : Ok K B M' H' (σ.set i (some (.ref a))) (ρ.set i (some y)) :=
  (k.gr g).tak r st (fun j e h o hs => by
    obtain ⟨v, h1, r1⟩ := k.at_ j e h
    obtain ⟨b, u, e1, _, h2, _⟩ := own_ref r1 (k.stay j e h).2 o
    rw [hs] at h1
    cases h1
    cases e1
    rw [n] at h2
    cases h2) (k.fF n) (k.off n)
/-- x = a thing just made -/
theorem xx_own (i : Nat) {x : Str} {y : En} (hN : X.N.Nodup) (he : EF X B ρ e y) (h : XX X B (ρ.set i (some y)) sts R) (st : StayE y ∧ RefE y := by exact ⟨trivial, trivial⟩) (hi : X.N[i]? = some x := by rfl) (hx : Loc X.env.scope x := by first | exact .inl rfl | exact .inr rfl) (hs : swapsWith e (some (.Name x px)) pos.line X.env = pure false := by rfl)
    (hf : X.fn x = true ∨ X.env.scope.names.lookup x = some .local := by first | exact .inl rfl | exact .inr rfl) : XX X B ρ (.Assign [.Name x px] e pos :: sts) R :=
  xx_nx (ρ' := ρ.set i (some y)) (ps_imp (ps_set hN hi hx he hs hf) fun D σ H ⟨M, k, q⟩ => ⟨M, k, fun a M1 H1 g1 n n' r1 => q _ rfl _ M1 H1 g1.mm (k.tak2 g1 n r1 st)⟩) h

/-! ### x.append(e) -/
theorem Ok.lstAt {K : PySem.W.Frag} {M H : Hp} {σ : L2.St} (k : Ok K B M H σ ρ) {i : Nat} {ds : List PyData} (h : ρ[i]? = some (some (.lst ds))) : ∃ a vs, σ[i]? = some (some (.ref a)) ∧ M a = none ∧ H a = some (.lst vs) ∧ DqAll K M vs ds := by
  obtain ⟨v, h1, a, vs, rfl, n, e, r⟩ := k.at_ i _ h
  exact ⟨a, vs, h1, n, e, r⟩
theorem x1_app {i : Nat} {x : Str} {ds : List PyData} {d : PyData} (h : ρ[i]? = some (some (.lst ds))) (he : EE X B ρ e (.dat d)) (hl : ds.length < sizeLine) (hN : X.N[i]? = some x := by rfl) (hv : Vis X.env.scope x := by first | exact Or.inl rfl | exact Or.inr (Or.inl rfl) | exact Or.inr (Or.inr rfl))
    (hd : (x == ("__debug__" : Str)) = false := by decide) (hcd : (x == ("__classdict__" : Str)) = false := by decide)
    (hbase : attributeBase (.Name x pn) "append" X.env (eval (.Name x pn) X.env) = eval (.Name x pn) X.env := by rfl)
    (hfew : ((backTo cpos (starEach [e] X.env)).all (fun x => !x.1) && (backToKw cpos (keywordEach [] X.env)).all (fun x => x.1.isSome)
      && decide (([e] : List Expr).length + ([] : List Keyword).length + (if ([] : List Keyword).isEmpty then 0 else 1) < 30)) = true := by rfl)
    (hline : (apos.endLine == cpos.line) = true := by rfl) (hs : starEach [e] X.env = (false, eval e X.env) :: starEach [] X.env := by rfl)
    (hsw : swapsWith (.Call (.Attribute (.Name x pn) "append" apos) [e] [] cpos) none pos.line X.env = pure false := by rfl) :
    X1 X B ρ (.Expr (.Call (.Attribute (.Name x pn) "append" apos) [e] [] cpos) pos) fun r => r = .nx (ρ.set i (some (.lst (ds ++ [d])))) :=
  ps_imp (ps_expr (pe_bm PySem.F.plainAttrs_list PySem.F.slot_list_append PySem.F.type_list_append mt_append (pe_var hN hv hd hcd) (pa_cons he pa_nil hs) hbase hfew hline hs rfl) hsw) fun D σ H ⟨M, k, q⟩ => by
    obtain ⟨a, vs, h1, n, e2, r⟩ := k.lstAt h
    refine ⟨.ref a, h1, .inl ⟨rfl, vs, .of e2⟩, M, k, fun z v M1 H1 ez g1 r1 => ?_⟩
    subst ez
    have k1 := k.gr g1
    obtain ⟨a', vs', h1', n', e2', r'⟩ := k1.lstAt h
    rw [h1] at h1'
    cases h1'
    refine ⟨a, vs', v, rfl, rfl, e2', by rw [dps_len r']; exact hl, ?_⟩
    exact q _ rfl σ M1 _ g1.mm (k1.wri h h1 rfl n' ⟨a, vs' ++ [v], rfl, n', upd_same, dps_app r' (.cons r1 .nil)⟩ ⟨trivial, trivial⟩ rfl)
theorem xx_app (i : Nat) {x : Str} {ds : List PyData} {d : PyData} (h : ρ[i]? = some (some (.lst ds))) (he : EE X B ρ e (.dat d)) (hl : ds.length < sizeLine) (hn : XX X B (ρ.set i (some (.lst (ds ++ [d])))) sts R) (hN : X.N[i]? = some x := by rfl) (hv : Vis X.env.scope x := by first | exact Or.inl rfl | exact Or.inr (Or.inl rfl) | exact Or.inr (Or.inr rfl))
    (hd : (x == ("__debug__" : Str)) = false := by decide) (hcd : (x == ("__classdict__" : Str)) = false := by decide)
    (hbase : attributeBase (.Name x pn) "append" X.env (eval (.Name x pn) X.env) = eval (.Name x pn) X.env := by rfl)
    (hfew : ((backTo cpos (starEach [e] X.env)).all (fun x => !x.1) && (backToKw cpos (keywordEach [] X.env)).all (fun x => x.1.isSome)
      && decide (([e] : List Expr).length + ([] : List Keyword).length + (if ([] : List Keyword).isEmpty then 0 else 1) < 30)) = true := by rfl)
    (hline : (apos.endLine == cpos.line) = true := by rfl) (hs : starEach [e] X.env = (false, eval e X.env) :: starEach [] X.env := by rfl)
    (hsw : swapsWith (.Call (.Attribute (.Name x pn) "append" apos) [e] [] cpos) none pos.line X.env = pure false := by rfl) :
    XX X B ρ (.Expr (.Call (.Attribute (.Name x pn) "append" apos) [e] [] cpos) pos :: sts) R := xx_nx (x1_app h he hl hN hv hd hcd hbase hfew hline hs hsw) hn

/-! ### dicts: read by a name -/
def DTat (ρ : DEnv) (i : Nat) (kvs : List (List Int × PyData)) : Prop := ρ[i]? = some (some (.dT kvs)) ∨ ρ[i]? = some (some (.im (.dt kvs)))
def DIat (ρ : DEnv) (i : Nat) (kvs : List (Int × PyData)) : Prop := ρ[i]? = some (some (.dI kvs)) ∨ ρ[i]? = some (some (.im (.di kvs)))
theorem DTat.get {K : PySem.W.Frag} {M H : Hp} {σ : L2.St} {i : Nat} {kvs : List (List Int × PyData)} (h : DTat ρ i kvs) (k : Ok K B M H σ ρ) : ∃ a, σ[i]? = some (some (.ref a)) ∧ H a = some (.dT (kvT kvs)) ∧ ∀ p ∈ kvs, isSc p.2 = true := by
  rcases h with h | h
  · obtain ⟨v, h1, a, rfl, n, e, r⟩ := k.at_ i _ h
    exact ⟨a, h1, e, r⟩
  · obtain ⟨v, h1, a, rfl, e, r⟩ := k.at_ i _ h
    exact ⟨a, h1, k.mh _ _ e, r⟩
theorem DIat.get {K : PySem.W.Frag} {M H : Hp} {σ : L2.St} {i : Nat} {kvs : List (Int × PyData)} (h : DIat ρ i kvs) (k : Ok K B M H σ ρ) : ∃ a, σ[i]? = some (some (.ref a)) ∧ H a = some (.dK (kvI kvs)) ∧ ∀ p ∈ kvs, isSc p.2 = true := by
  rcases h with h | h
  · obtain ⟨v, h1, a, rfl, n, e, r⟩ := k.at_ i _ h
    exact ⟨a, h1, e, r⟩
  · obtain ⟨v, h1, a, rfl, e, r⟩ := k.at_ i _ h
    exact ⟨a, h1, k.mh _ _ e, r⟩
theorem dget_T {K : PySem.W.Frag} {M H : Hp} {a : Addr} {y : V} {k : List Int} {kvs : List (List Int × PyData)} (e : H a = some (.dT (kvT kvs))) (s : Same M H) (r : RepI K M y (.dat (tI k))) : DGet H a y ((getK kvs k).map sV) := by
  obtain ⟨b, rfl, h⟩ := rI_key r
  rw [← valV_kvT]
  exact .t e (s _ _ h)
theorem dget_I {K : PySem.W.Frag} {M H : Hp} {a : Addr} {y : V} {k : Int} {kvs : List (Int × PyData)} (e : H a = some (.dK (kvI kvs))) (r : RepI K M y (I k)) : DGet H a y ((getK kvs k).map sV) := by
  rw [rI_int r, ← valV_kvI]
  exact .k (k := Sum.inl k) e
section
variable {i : Nat} {x : Str}
theorem ec_inT {k : List Int} {kvs : List (List Int × PyData)} (hu : X.A.units + 1 < cLine) (he : EE X B ρ e (.dat (tI k))) (h : DTat ρ i kvs) (hN : X.N[i]? = some x := by rfl) (hv : Vis X.env.scope x := by first | exact Or.inl rfl | exact Or.inr (Or.inl rfl) | exact Or.inr (Or.inr rfl))
    (hd : (x == ("__debug__" : Str)) = false := by decide) (hcd : (x == ("__classdict__" : Str)) = false := by decide) : EC X B ρ .In e (.Name x pn) (hasK kvs k) :=
  pc_imp (pc_din hu he (pe_var hN hv hd hcd)) fun σ H Q ⟨M, k0, q⟩ => ⟨M, k0, fun z v M1 H1 ez g1 r1 => by
    subst ez
    have k1 := k0.gr g1
    obtain ⟨a, h1, h2, h3⟩ := h.get k1
    refine ⟨.ref a, h1, a, _, rfl, dget_T h2 k1.mh r1, ?_⟩
    rw [Option.isSome_map, getK_isSome]
    exact q _ _ M1 H1 rfl g1 (.bl _)⟩
theorem ee_inT {k : List Int} {kvs : List (List Int × PyData)} (hu : X.A.units + 1 < cLine) (he : EE X B ρ e (.dat (tI k))) (h : DTat ρ i kvs) (hN : X.N[i]? = some x := by rfl) (hv : Vis X.env.scope x := by first | exact Or.inl rfl | exact Or.inr (Or.inl rfl) | exact Or.inr (Or.inr rfl))
    (hd : (x == ("__debug__" : Str)) = false := by decide) (hcd : (x == ("__classdict__" : Str)) = false := by decide) : EE X B ρ (.Compare e [.In] [.Name x pn] pos) (Bl (hasK kvs k)) :=
  pe_imp (pe_cmp (pc_din hu he (pe_var hN hv hd hcd))) fun σ H Q ⟨M, k0, q⟩ => ⟨M, k0, fun z v M1 H1 ez g1 r1 => by
    subst ez
    have k1 := k0.gr g1
    obtain ⟨a, h1, h2, h3⟩ := h.get k1
    refine ⟨.ref a, h1, a, _, rfl, dget_T h2 k1.mh r1, ?_⟩
    rw [Option.isSome_map, getK_isSome]
    exact q _ _ M1 H1 rfl g1 (.bl _)⟩
theorem ec_ninT {k : List Int} {kvs : List (List Int × PyData)} (hu : X.A.units + 1 < cLine) (he : EE X B ρ e (.dat (tI k))) (h : DTat ρ i kvs) (hN : X.N[i]? = some x := by rfl) (hv : Vis X.env.scope x := by first | exact Or.inl rfl | exact Or.inr (Or.inl rfl) | exact Or.inr (Or.inr rfl))
    (hd : (x == ("__debug__" : Str)) = false := by decide) (hcd : (x == ("__classdict__" : Str)) = false := by decide) : EC X B ρ .NotIn e (.Name x pn) (!hasK kvs k) :=
  pc_imp (pc_dnotin hu he (pe_var hN hv hd hcd)) fun σ H Q ⟨M, k0, q⟩ => ⟨M, k0, fun z v M1 H1 ez g1 r1 => by
    subst ez
    have k1 := k0.gr g1
    obtain ⟨a, h1, h2, h3⟩ := h.get k1
    refine ⟨.ref a, h1, a, _, rfl, dget_T h2 k1.mh r1, ?_⟩
    rw [Option.isSome_map, getK_isSome]
    exact q _ _ M1 H1 rfl g1 (.bl _)⟩
theorem ee_ninT {k : List Int} {kvs : List (List Int × PyData)} (hu : X.A.units + 1 < cLine) (he : EE X B ρ e (.dat (tI k))) (h : DTat ρ i kvs) (hN : X.N[i]? = some x := by rfl) (hv : Vis X.env.scope x := by first | exact Or.inl rfl | exact Or.inr (Or.inl rfl) | exact Or.inr (Or.inr rfl))
    (hd : (x == ("__debug__" : Str)) = false := by decide) (hcd : (x == ("__classdict__" : Str)) = false := by decide) : EE X B ρ (.Compare e [.NotIn] [.Name x pn] pos) (Bl (!hasK kvs k)) :=
  pe_imp (pe_cmp (pc_dnotin hu he (pe_var hN hv hd hcd))) fun σ H Q ⟨M, k0, q⟩ => ⟨M, k0, fun z v M1 H1 ez g1 r1 => by
    subst ez
    have k1 := k0.gr g1
    obtain ⟨a, h1, h2, h3⟩ := h.get k1
    refine ⟨.ref a, h1, a, _, rfl, dget_T h2 k1.mh r1, ?_⟩
    rw [Option.isSome_map, getK_isSome]
    exact q _ _ M1 H1 rfl g1 (.bl _)⟩
theorem ec_inI {k : Int} {kvs : List (Int × PyData)} (hu : X.A.units + 1 < cLine) (he : EE X B ρ e (I k)) (h : DIat ρ i kvs) (hN : X.N[i]? = some x := by rfl) (hv : Vis X.env.scope x := by first | exact Or.inl rfl | exact Or.inr (Or.inl rfl) | exact Or.inr (Or.inr rfl))
    (hd : (x == ("__debug__" : Str)) = false := by decide) (hcd : (x == ("__classdict__" : Str)) = false := by decide) : EC X B ρ .In e (.Name x pn) (hasK kvs k) :=
  pc_imp (pc_din hu he (pe_var hN hv hd hcd)) fun σ H Q ⟨M, k0, q⟩ => ⟨M, k0, fun z v M1 H1 ez g1 r1 => by
    subst ez
    have k1 := k0.gr g1
    obtain ⟨a, h1, h2, h3⟩ := h.get k1
    refine ⟨.ref a, h1, a, _, rfl, dget_I h2 r1, ?_⟩
    rw [Option.isSome_map, getK_isSome]
    exact q _ _ M1 H1 rfl g1 (.bl _)⟩
theorem ee_inI {k : Int} {kvs : List (Int × PyData)} (hu : X.A.units + 1 < cLine) (he : EE X B ρ e (I k)) (h : DIat ρ i kvs) (hN : X.N[i]? = some x := by rfl) (hv : Vis X.env.scope x := by first | exact Or.inl rfl | exact Or.inr (Or.inl rfl) | exact Or.inr (Or.inr rfl))
    (hd : (x == ("__debug__" : Str)) = false := by decide) (hcd : (x == ("__classdict__" : Str)) = false := by decide) : EE X B ρ (.Compare e [.In] [.Name x pn] pos) (Bl (hasK kvs k)) :=
  pe_imp (pe_cmp (pc_din hu he (pe_var hN hv hd hcd))) fun σ H Q ⟨M, k0, q⟩ => ⟨M, k0, fun z v M1 H1 ez g1 r1 => by
    subst ez
    have k1 := k0.gr g1
    obtain ⟨a, h1, h2, h3⟩ := h.get k1
    refine ⟨.ref a, h1, a, _, rfl, dget_I h2 r1, ?_⟩
    rw [Option.isSome_map, getK_isSome]
    exact q _ _ M1 H1 rfl g1 (.bl _)⟩
theorem ec_ninI {k : Int} {kvs : List (Int × PyData)} (hu : X.A.units + 1 < cLine) (he : EE X B ρ e (I k)) (h : DIat ρ i kvs) (hN : X.N[i]? = some x := by rfl) (hv : Vis X.env.scope x := by first | exact Or.inl rfl | exact Or.inr (Or.inl rfl) | exact Or.inr (Or.inr rfl))
    (hd : (x == ("__debug__" : Str)) = false := by decide) (hcd : (x == ("__classdict__" : Str)) = false := by decide) : EC X B ρ .NotIn e (.Name x pn) (!hasK kvs k) :=
  pc_imp (pc_dnotin hu he (pe_var hN hv hd hcd)) fun σ H Q ⟨M, k0, q⟩ => ⟨M, k0, fun z v M1 H1 ez g1 r1 => by
    subst ez
    have k1 := k0.gr g1
    obtain ⟨a, h1, h2, h3⟩ := h.get k1
    refine ⟨.ref a, h1, a, _, rfl, dget_I h2 r1, ?_⟩
    rw [Option.isSome_map, getK_isSome]
    exact q _ _ M1 H1 rfl g1 (.bl _)⟩
theorem ee_ninI {k : Int} {kvs : List (Int × PyData)} (hu : X.A.units + 1 < cLine) (he : EE X B ρ e (I k)) (h : DIat ρ i kvs) (hN : X.N[i]? = some x := by rfl) (hv : Vis X.env.scope x := by first | exact Or.inl rfl | exact Or.inr (Or.inl rfl) | exact Or.inr (Or.inr rfl))
    (hd : (x == ("__debug__" : Str)) = false := by decide) (hcd : (x == ("__classdict__" : Str)) = false := by decide) : EE X B ρ (.Compare e [.NotIn] [.Name x pn] pos) (Bl (!hasK kvs k)) :=
  pe_imp (pe_cmp (pc_dnotin hu he (pe_var hN hv hd hcd))) fun σ H Q ⟨M, k0, q⟩ => ⟨M, k0, fun z v M1 H1 ez g1 r1 => by
    subst ez
    have k1 := k0.gr g1
    obtain ⟨a, h1, h2, h3⟩ := h.get k1
    refine ⟨.ref a, h1, a, _, rfl, dget_I h2 r1, ?_⟩
    rw [Option.isSome_map, getK_isSome]
    exact q _ _ M1 H1 rfl g1 (.bl _)⟩
/-- d[t] -/
theorem ee_getT {k : List Int} {kvs : List (List Int × PyData)} {d : PyData} (hu : X.A.units + 1 < cLine) (h : DTat ρ i kvs) (he : EE X B ρ e (.dat (tI k))) (hg : getK kvs k = some d) (hN : X.N[i]? = some x := by rfl) (hv : Vis X.env.scope x := by first | exact Or.inl rfl | exact Or.inr (Or.inl rfl) | exact Or.inr (Or.inr rfl))
    (hd : (x == ("__debug__" : Str)) = false := by decide) (hcd : (x == ("__classdict__" : Str)) = false := by decide) (hns : NoSl e := by exact fun _ _ => rfl) : EE X B ρ (.Subscript (.Name x pn) e pos) (.dat d) :=
  pe_imp (pe_dget hu (pe_var hN hv hd hcd) he hns) fun σ H Q ⟨M, k0, q⟩ => by
    obtain ⟨a, h1, h2, h3⟩ := h.get k0
    refine ⟨.ref a, h1, M, k0, fun z v M1 H1 ez g1 r1 => ?_⟩
    subst ez
    have k1 := k0.gr g1
    obtain ⟨a', h1', h2', h3'⟩ := h.get k1
    rw [h1] at h1'
    cases h1'
    have g := dget_T h2' k1.mh r1
    rw [hg] at g
    obtain ⟨p, hp, rfl⟩ := getK_mem hg
    exact ⟨a, _, rfl, g, q _ _ M1 H1 rfl g1 (dp_sc (h3 p hp))⟩
/-- d[t] = e -/
theorem xx_putT {k : List Int} {kvs : List (List Int × PyData)} {d : PyData} {pd : Pos} (hu : X.A.units + 1 < cLine) (h : ρ[i]? = some (some (.dT kvs))) (hk : EE X B ρ e (.dat (tI k))) (hv : EE X B ρ a (.dat d)) (sd : isSc d = true) (hn : hasK kvs k = false) (hl : kvs.length < sizeLine)
    (hr : XX X B (ρ.set i (some (.dT (kvs ++ [(k, d)])))) sts R) (hN : X.N[i]? = some x := by rfl) (hvi : Vis X.env.scope x := by first | exact Or.inl rfl | exact Or.inr (Or.inl rfl) | exact Or.inr (Or.inr rfl))
    (hd : (x == ("__debug__" : Str)) = false := by decide) (hcd : (x == ("__classdict__" : Str)) = false := by decide) (hs : swapsWith a (some (.Subscript (.Name x pn) e pd)) pos.line X.env = pure false := by rfl) : XX X B ρ (.Assign [.Subscript (.Name x pn) e pd] a pos :: sts) R :=
  xx_nx (ρ' := ρ.set i (some (.dT (kvs ++ [(k, d)])))) (ps_imp (ps_dput hu (pe_var hN hvi hd hcd) hk hv hs) fun D σ H ⟨M, k0, q⟩ => ⟨M, k0, fun z v M1 H1 ez g1 r1 => by
    subst ez
    have k1 := k0.gr g1
    obtain ⟨w, h1, a1, ew, n1, h2, h3⟩ := k1.at_ i _ h
    subst ew
    refine ⟨.ref a1, h1, M1, k1, fun z v2 M2 H2 ez g2 r2 => ?_⟩
    subst ez
    have k2 := k1.gr g2
    obtain ⟨w, h1', a2, ew, n2, h2', h3'⟩ := k2.at_ i _ h
    subst ew
    rw [h1] at h1'
    cases h1'
    obtain ⟨bb, e5, h5⟩ := rI_key r2
    have hz : valV (kvT kvs) (k.map Sum.inl) = none := by
      rw [valV_kvT]
      have := getK_isSome kvs k
      rw [hn] at this
      cases hgk : getK kvs k with
      | none => rfl
      | some _ => rw [hgk] at this; cases this
    have hlen : (kvT kvs).length < sizeLine := by unfold kvT; rw [List.length_map]; exact hl
    refine ⟨a1, _, rfl, (by rw [e5]; exact .t h2' (k2.mh _ _ h5) hlen), ?_⟩
    rw [putK_new hz]
    refine q _ rfl σ M2 _ (g1.mm.trans g2.mm) (k2.wri h h1 rfl n2 ⟨a1, rfl, n2, ?_, ?_⟩ ⟨trivial, trivial⟩ rfl)
    · rw [upd_same, sc_dp sd r1]
      unfold kvT
      rw [List.map_append]
      rfl
    · intro p hp
      rcases List.mem_append.mp hp with hp | hp
      · exact h3' p hp
      · rw [List.mem_singleton] at hp
        subst hp
        exact sd⟩) hr
theorem xx_putI {k : Int} {kvs : List (Int × PyData)} {d : PyData} {pd : Pos} (hu : X.A.units + 1 < cLine) (h : ρ[i]? = some (some (.dI kvs))) (hk : EE X B ρ e (I k)) (hv : EE X B ρ a (.dat d)) (sd : isSc d = true) (hn : hasK kvs k = false) (hl : kvs.length < sizeLine)
    (hr : XX X B (ρ.set i (some (.dI (kvs ++ [(k, d)])))) sts R) (hN : X.N[i]? = some x := by rfl) (hvi : Vis X.env.scope x := by first | exact Or.inl rfl | exact Or.inr (Or.inl rfl) | exact Or.inr (Or.inr rfl))
    (hd : (x == ("__debug__" : Str)) = false := by decide) (hcd : (x == ("__classdict__" : Str)) = false := by decide) (hs : swapsWith a (some (.Subscript (.Name x pn) e pd)) pos.line X.env = pure false := by rfl) : XX X B ρ (.Assign [.Subscript (.Name x pn) e pd] a pos :: sts) R :=
  xx_nx (ρ' := ρ.set i (some (.dI (kvs ++ [(k, d)])))) (ps_imp (ps_dput hu (pe_var hN hvi hd hcd) hk hv hs) fun D σ H ⟨M, k0, q⟩ => ⟨M, k0, fun z v M1 H1 ez g1 r1 => by
    subst ez
    have k1 := k0.gr g1
    obtain ⟨w, h1, a1, ew, n1, h2, h3⟩ := k1.at_ i _ h
    subst ew
    refine ⟨.ref a1, h1, M1, k1, fun z v2 M2 H2 ez g2 r2 => ?_⟩
    subst ez
    have k2 := k1.gr g2
    obtain ⟨w, h1', a2, ew, n2, h2', h3'⟩ := k2.at_ i _ h
    subst ew
    rw [h1] at h1'
    cases h1'
    have hz : valV (kvI kvs) (Sum.inl k) = none := by
      rw [valV_kvI]
      have := getK_isSome kvs k
      rw [hn] at this
      cases hgk : getK kvs k with
      | none => rfl
      | some _ => rw [hgk] at this; cases this
    have hlen : (kvI kvs).length < sizeLine := by unfold kvI; rw [List.length_map]; exact hl
    refine ⟨a1, _, rfl, (by rw [rI_int r2]; exact .k (k := Sum.inl k) h2' hlen), ?_⟩
    rw [putK_new hz]
    refine q _ rfl σ M2 _ (g1.mm.trans g2.mm) (k2.wri h h1 rfl n2 ⟨a1, rfl, n2, ?_, ?_⟩ ⟨trivial, trivial⟩ rfl)
    · rw [upd_same, sc_dp sd r1]
      unfold kvI
      rw [List.map_append]
      rfl
    · intro p hp
      rcases List.mem_append.mp hp with hp | hp
      · exact h3' p hp
      · rw [List.mem_singleton] at hp
        subst hp
        exact sd⟩) hr
/-- len(d) -/
theorem ee_lenDT {kvs : List (List Int × PyData)} (h : DTat ρ i kvs) (hm : X.mg "len" = none) (hN : X.N[i]? = some x := by rfl) (hv : Vis X.env.scope x := by first | exact Or.inl rfl | exact Or.inr (Or.inl rfl) | exact Or.inr (Or.inr rfl))
    (hd : (x == ("__debug__" : Str)) = false := by decide) (hcd : (x == ("__classdict__" : Str)) = false := by decide) (hg : Gl X "len" := by rfl) (hs : starEach [Expr.Name x pn] X.env = (false, eval (.Name x pn) X.env) :: starEach [] X.env := by rfl) : EE X B ρ (.Call (.Name "len" p) [.Name x pn] [] pos) (I (kvs.length : Nat)) :=
  pe_imp (pe_callB call_len_dT hg hm PySem.boot_len (pa_cons (pe_var hN hv hd hcd) pa_nil hs) (by decide) (by decide) hs rfl) fun σ H Q ⟨M, k0, q⟩ => by
    obtain ⟨a, h1, h2, h3⟩ := h.get k0
    refine ⟨.ref a, h1, a, kvT kvs, rfl, h2, ?_⟩
    unfold kvT
    rw [List.length_map]
    exact q _ _ M H rfl k0.refl (.int _)
end
end
end K5
/-! LayK: dicts whose keys are tuples: displays, comprehensions. -/
namespace K5
open PySem PySem.Spec PyProof.Rows L2

section
variable {X : Cx} {pins : List (Addr × Obj)} {σ : L2.St} {H : Hp} {s : Shared}
/-- a store under a tuple, by a comprehension or a display -/
theorem setT {F : Value → Shared → Prop} {D b : Addr} {kvs : List (List Key × V)} {k : List Key} {v : V} {r : Value} {Q : Unit → Shared → Prop} (hu : X.A.units < cLine) (J : Inv X pins σ H s) (hD : H D = some (.dT kvs)) (hb : H b = some (.tup (k.map kV))) (hz : kvs.length < sizeLine)
    (rv : RelV v r) (q : ∀ s', Inv X pins σ (upd H D (.dT (putK kvs k v))) s' → Q () s') : wpAny (model X.prog X.w) X.A (dictSet D (.ref b) r) Q F s := by
  obtain ⟨zz, notSys, ents, same_, dd⟩ := dt_of J.hok hD
  refine wpAny_dictSet_heap (hsz := (by rw [← Paired.length same_]; exact zz)) (knd := tupleKind (mixKind X.prog X.w)) hu (key_of J.hok hb) dd fun hp dd' but => q _ ?_
  obtain ⟨ob, es, ep, g1, g2, g3, g4, _, g5⟩ := dd'
  have le1 := length_putK kvs k v
  exact d_write J (by rw [hD]; exact True.intro) but ⟨ob, g1⟩ ⟨by omega, notSys, _, (same_.put k hb rv).keeps fun c ys ec => (by rw [upd_ne (ne_of ec hD (fun z => nomatch z))]; exact ec), ob, es, ep, g1, g2, g3, g4, g5⟩

/-! ### {t: v} -/
def tOneT (tk tv : TE) : TE := fun σ H Q => ∀ p, H p = none → tk σ (upd H p (.dT [])) fun y H1 => tv σ H1 fun v H2 => H2 p = some (.dT []) ∧ ∃ b k, y = .ref b ∧ H2 b = some (.tup (k.map kV)) ∧ Q (.ref p) (upd H2 p (.dT (putK [] k v)))
theorem pe_oneT {ek ev : Expr} {tk tv : TE} {pos : Pos} (hu : X.A.units < cLine) (hk : PE X ek tk) (hv : PE X ev tv) : PE X (.Dict [some ek] [ev] pos) (tOneT tk tv) := by
  refine ⟨fun pins s σ H Q J q => ?_⟩
  have nw := J.hok.fresh (Nat.le_refl s.heap.objs.size)
  have J1 := J.laid (a := s.heap.objs.size) (o := .dT []) (h' := s.heap.push { cls := .type "dict", data := .dict #[] }) (t' := s.toks) (fun _ _ z => Heap.get?_push_of_some _ z) (Nat.le_refl _) (dt_empty s.heap J.big)
  refine wpAny_Dict_any rfl rfl (by simp) (by show 1 ≤ 15; decide) ?_
  refine pairTrees_cons_walk (thn (hk.run pins _ σ _ _ J1 (q _ nw)) fun kv s2 ⟨y, H1, J2, ry, q2⟩ => thn (hv.run pins s2 σ H1 _ J2 q2) fun vv s3 ⟨v, H2, J3, rv, hp, b, k, ey, hb, q3⟩ => pairTrees_nil_walk ?_)
  subst ey
  cases ry
  unfold storeAll
  rw [List.forIn_cons]
  refine wpAny_bind (wpAny_bind (setT hu J3 hp hb (by rw [sizeLine_eq]; decide) rv fun s4 J4 => wpAny_pure ?_))
  show wpAny _ _ (pure PUnit.unit) _ _ _
  exact wpAny_pure ⟨.ref _, _, J4, rfl, q3⟩

/-! ### {t: v for .. in ..} -/
def tDcT (wi : TI) (g : TG) (tt : TT) (tk tv : TE) (vs : List Nat) : TE := fun σ H Q => wi σ H fun J H1 => ∀ D, H1 D = none → ∃ W : Nat → Nat → Hp → Prop, (∃ m, W 0 m (upd H1 D (.dT []))) ∧ ∀ i m H, W i m H →
  (J.stop i H ∧ Q (.ref D) H) ∨ (J.go i H ∧ ∃ Nx : Hp → Prop, (∀ H', Nx H' → ∃ m', m' < m ∧ W (i + 1) m' H') ∧ ∀ x H', J.yld i H x H' → g x (L2.wipe σ vs) H' fun σ2 H2 => L2.wipe σ2 vs = L2.wipe σ vs ∧ tt σ2 H2 fun b H3 =>
    if b = true then tk σ2 H3 fun y H4 => tv σ2 H4 fun z H5 => ∃ b kvs k, y = .ref b ∧ H5 b = some (.tup (k.map kV)) ∧ H5 D = some (.dT kvs) ∧ kvs.length < sizeLine ∧ Nx (upd H5 D (.dT (putK kvs k z))) else Nx H3)
theorem dcT_core {pins : List (Addr × Obj)} {s : Shared} {σ : L2.St} {H : Hp} {Q : VK} {ek ev tg iter : Expr} {ifs : List Expr} {scope : Scope} {own : List (Str × Nat)} {pos pos' : Pos} {wi : TI} {g : TG} {tt : TT} {tk tv : TE} {use : Option (Value → Sem Unit)} {Qf : Value → Shared → Prop} (hu : X.A.units < cLine) (calm : X.calm = true) (nod : X.N.Nodup) (J0 : Inv X pins σ H s) (hi : PI X tg iter wi) (blk : BlkOk X.N X.env.scope scope own)
    (hg : ∀ s H C cl fp, PG (X.blk s H scope (compEnvC scope cl C X.env) fp) tg g) (ht : ∀ s H C cl fp, PTs (X.blk s H scope (compEnvC scope cl C X.env) fp) ifs tt)
    (hk : ∀ s H C cl fp, PE (X.blk s H scope (compEnvC scope cl C X.env) fp) ek tk) (hv : ∀ s H C cl fp, PE (X.blk s H scope (compEnvC scope cl C X.env) fp) ev tv) (hs : ∀ x, foldedSetIterable iter X.env x = pure x) (given : tDcT wi g tt tk tv (own.map (·.2)) σ H Q)
    (fin : ∀ D C s' m H', Inv X pins σ H' s' → Q (.ref D) H' → s'.heap.Ns C m → FpOk X pins H' C → compPost (model X.prog X.w) X.A X.xe use Qf (.ref D) C (.ok .next) s') :
    wpAny (model X.prog X.w) X.A (comprehension (.DictComp ek ev [⟨tg, iter, ifs, 0⟩] scope pos) scope X.env pos' newDict false (eval iter X.env) use) Qf X.xe s := by
  have seen : ∀ y ∈ scope.names, y.2 = .free → ∃ c, X.env.cells.lookup y.1 = some c := fun y hy e => (blk.free y hy e).elim (fun k => J0.ok.has _ (.inl k)) fun k => J0.ok.has _ (.inr k)
  refine wpAny_comprehension_free (use := use) rfl hs (closure_ok seen) blk.kind (fun y hy e => by rw [blk.uniq y hy, e]) (thn (hi.run pins s σ H _ J0 given) fun xv s1 hx => thn hx fun itv s2 got => ?_)
  obtain ⟨it, fp, tn, Jt, Ha, eIt, Ja, T, stA, fA, qA⟩ := got
  subst eIt
  refine wpAny_newObj_type (newEnv_comp ?_)
  generalize eD : s2.heap.objs.size = D
  have nD : Ha D = none := Ja.hok.fresh (Nat.le_of_eq eD)
  obtain ⟨W, ⟨m0, w0⟩, turn⟩ := qA D nD
  generalize eB : ({ s2 with heap := s2.heap.push { cls := .type "dict", data := .dict #[] } } : Shared) = sB
  have heapB : sB.heap = s2.heap.push { cls := .type "dict", data := .dict #[] } := by rw [← eB]
  have Jb : Inv X pins σ (upd Ha D (.dT [])) sB := by
    rw [← eB]
    exact Ja.laid (t' := s2.toks) (fun b o e => Heap.get?_push_of_some _ e) (Nat.le_of_eq eD) (by rw [← eD]; exact dt_empty s2.heap Ja.big)
  have below : ∀ b ∈ fp, b < s2.heap.objs.size := fun b hb => (T.obj _ _ stA b hb).elim fun o e => Heap.lt_size e.1
  have fB : ∀ b ∈ fp, FpOk X pins (upd Ha D (.dT [])) b ∧ b < sB.heap.objs.size := fun b hb =>
    ⟨⟨by rw [upd_ne (by rw [← eD]; exact Nat.ne_of_lt (below b hb))]; exact (fA b hb).1, (fA b hb).2⟩, by rw [heapB, Heap.size_push]; exact Nat.lt_succ_of_lt (below b hb)⟩
  have stB : tn 0 sB.heap := T.keep _ _ _ stA fun b _ o e => by rw [heapB]; exact Heap.get?_push_of_some _ e
  have Jc := block_start Jb blk nod fB
  generalize eH : upd Ha D (.dT []) = HB at Jb Jc w0 fB
  generalize eCl : cellsFrom (sB.heap.objs.size + 1) scope.names (cloFrom X.env.cells scope.names []) = cl at Jc
  have pg := hg sB HB sB.heap.objs.size cl fp
  have pt := ht sB HB sB.heap.objs.size cl fp
  have pk := hk sB HB sB.heap.objs.size cl fp
  have pv := hv sB HB sB.heap.objs.size cl fp
  show codeAny _ _ (.compStart (.DictComp ek ev [⟨tg, iter, ifs, 0⟩] scope pos) 0 (.ref it) (.ref D) (compEnvC scope cl sB.heap.objs.size X.env)) (compPost (model X.prog X.w) X.A X.xe use Qf (.ref D) sB.heap.objs.size) { sB with heap := pushCells (sB.heap.push { cls := .type "dict", data := .dict #[] }) scope.names }
  generalize eE : compEnvC scope cl sB.heap.objs.size X.env = ce at Jc pg pt pk pv ⊢
  have ceL : ce.locals = sB.heap.objs.size := by rw [← eE]; rfl
  generalize eC : ({ sB with heap := pushCells (sB.heap.push { cls := .type "dict", data := .dict #[] }) scope.names } : Shared) = sC at Jc ⊢
  have stC : tn 0 sC.heap := T.keep _ _ _ stB fun b _ o e => by rw [← eC]; exact pushCells_keeps _ _ _ _ (Heap.get?_push_of_some _ e)
  have noneB : ∀ b ∈ fp, HB b = none := fun b hb => (fB b hb).1.1
  have okFp : ∀ {σ' : L2.St} {H' : Hp} {s' : Shared}, Inv (X.blk sB HB scope ce fp) [] σ' H' s' → (∀ b ∈ fp, H' b = none) → ∀ b ∈ fp, FpOk (X.blk sB HB scope ce fp) [] H' b := fun {σ' H' s'} I' hn b hb =>
    ⟨hn b hb, (I'.ok.exf b hb).1, I'.ok.exfs b hb, .inl hb, fun x c e => (I'.ok.exf b hb).2 x c e, fun p hp => absurd (show p ∈ ([] : List (Addr × Obj)) ++ [] from hp) (by simp)⟩
  have loop : codeAny (model X.prog X.w) X.A (.compLoop (.DictComp ek ev [⟨tg, iter, ifs, 0⟩] scope pos) 0 (.ref it) (.ref D) ce) (compPost (model X.prog X.w) X.A X.xe use Qf (.ref D) sB.heap.objs.size) sC := by
    refine compLoop_anyD (fun n s' => ∃ i H', Inv (X.blk sB HB scope ce fp) [] (L2.wipe σ (own.map (·.2))) H' s' ∧ tn i s'.heap ∧ (∀ b ∈ fp, H' b = none) ∧ W i n H') ?_ m0 ⟨0, HB, Jc, stC, noneB, w0⟩
    rintro n sd ⟨i, Hd, Jd, std, nd, wd⟩
    rcases turn i n Hd wd with ⟨stop, fine⟩ | ⟨go, Nx, onward, step⟩
    · refine thnF (T.done (X.blk sB HB scope ce fp) rfl rfl rfl calm i [] sd _ Hd (fun _ _ => False) Jd (okFp Jd nd) std stop) fun r se ⟨er, Je⟩ => ?_
      subst er
      have Jf : Inv X pins σ Hd se := Jb.call' (ch := fp) Je.os Je.base Je.hok Je.bare fun b hb => ⟨(fB b hb).1.2.2.2.1, (fB b hb).1.2.1, (fB b hb).1.2.2.2.2.1, (fB b hb).1.2.2.2.2.2⟩
      have nC : Hd sB.heap.objs.size = none := by rw [← ceL]; exact Je.free
      obtain ⟨m, hn, _⟩ := Je.loc
      have hn : se.heap.Ns sB.heap.objs.size m := by rw [← ceL]; exact hn
      exact fin D sB.heap.objs.size se m Hd Jf fine hn (Jb.fpOk (Nat.le_refl _) nC)
    · refine thnF (T.item (X.blk sB HB scope ce fp) rfl rfl rfl calm i [] sd _ Hd (fun _ _ => False) Jd (okFp Jd nd) std go) fun r se ⟨u, er, he⟩ => ?_
      subst er
      refine thnF he fun _ sf ⟨x, Hf, Jf, rf, yf, stf, nf⟩ => ?_
      refine thnF (pg.run _ sf _ Hf x u _ (Jf.pinned (okFp Jf nf) (T.obj _ _ stf)) rf (step x Hf yf)) fun _ sg ⟨σg, Hg, Jg, wg, qg⟩ => thnF (pt.run _ sg σg Hg _ Jg qg) fun b sh ⟨Hh, Jh, qh⟩ => ?_
      have close : ∀ {s' : Shared} {H' : Hp}, Inv (X.blk sB HB scope ce fp) ([] ++ pinsAt fp sf.heap) σg H' s' → Nx H' → ∃ m, m < n ∧ ∃ i H', Inv (X.blk sB HB scope ce fp) [] (L2.wipe σ (own.map (·.2))) H' s' ∧ tn i s'.heap ∧ (∀ b ∈ fp, H' b = none) ∧ W i m H' := fun {s' H'} I' nx => by
        obtain ⟨m', less, w'⟩ := onward H' nx
        have pinned : ∀ b ∈ fp, ∀ o, sf.heap.get? b = some o → s'.heap.get? b = some o ∧ H' b = none := fun b hb o e => (I'.pin (b, o) (List.mem_append_right _ (List.mem_append_right _ (mem_pinsAt hb e)))).imp id fun z => z.1
        refine ⟨m', less, i + 1, H', (I'.unpinned (pins := [])).weak (by rw [← wg, wipe_length]) (fun j v e => (wipe_some (by rw [wg]; exact e)).1), T.keep _ _ _ stf fun b hb o e => (pinned b hb o e).1, fun b hb => ?_, w'⟩
        obtain ⟨o, e, _⟩ := T.obj _ _ stf b hb
        exact (pinned b hb o e).2
      cases b with
      | false => simp only [Bool.false_eq_true, if_false] at qh ⊢; exact close Jh qh
      | true =>
        simp only [if_true] at qh ⊢
        refine thnF (pk.run _ sh σg Hh _ Jh qh) fun z si ⟨yk, Hi, Ji, ri, qi⟩ => thnF (pv.run _ si σg Hi _ Ji qi) fun z2 sj ⟨yv, Hj, Jj, rj, b, kvs, k, ek, hb, hD, hz, nx⟩ => ?_
        subst ek
        cases ri
        exact setT (X := X.blk sB HB scope ce fp) hu Jj hD hb hz rj fun sk Jk => close Jk nx
  have run := codeAny_compStart_dict loop (T.self X.A 0 _ _ _ stC loop)
  exact run
theorem pe_dcT {ek ev tg iter : Expr} {ifs : List Expr} {scope : Scope} {own : List (Str × Nat)} {pos : Pos} {wi : TI} {g : TG} {tt : TT} {tk tv : TE} (hu : X.A.units < cLine) (calm : X.calm = true) (nod : X.N.Nodup) (hi : PI X tg iter wi) (blk : BlkOk X.N X.env.scope scope own)
    (hg : ∀ s H C cl fp, PG (X.blk s H scope (compEnvC scope cl C X.env) fp) tg g) (ht : ∀ s H C cl fp, PTs (X.blk s H scope (compEnvC scope cl C X.env) fp) ifs tt)
    (hk : ∀ s H C cl fp, PE (X.blk s H scope (compEnvC scope cl C X.env) fp) ek tk) (hv : ∀ s H C cl fp, PE (X.blk s H scope (compEnvC scope cl C X.env) fp) ev tv) (hs : ∀ x, foldedSetIterable iter X.env x = pure x) :
    PE X (.DictComp ek ev [⟨tg, iter, ifs, 0⟩] scope pos) (tDcT wi g tt tk tv (own.map (·.2))) := by
  refine ⟨fun pins s σ H Q J0 given => ?_⟩
  rw [arm_eval_DictComp]
  refine dcT_core hu calm nod J0 hi blk hg ht hk hv hs given fun D C s' m H' J q hn f => ⟨m, hn, fun hp sb => ?_⟩
  obtain ⟨f0, f1, f2, f3, f4, f5⟩ := f
  exact ⟨.ref D, H', J.turned (t' := s'.toks) (fun b o hb e => (sb.2 b hb).trans e) f0 f1 f3 f4 f5, rfl, q⟩
/-- a name takes it, on one line -/
theorem stored {pins : List (Addr × Obj)} {σ : L2.St} {i : Nat} {y : Str} {py : Pos} {D C : Addr} {m : Str → Option Value} {s' : Shared} {H' : Hp} {De : Ends} (nod : X.N.Nodup) (hy : X.N[i]? = some y) (hyl : X.env.scope.names.lookup y = some .local) (J : Inv X pins σ H' s') (q : De.nx (σ.set i (some (.ref D))) H') (hn : s'.heap.Ns C m) (f : FpOk X pins H' C) :
    compPost (model X.prog X.w) X.A X.xe (some (assign (.Name y py) X.env)) (fun _ s' => SP X pins De .next s') (.ref D) C (.ok .next) s' := by
  show wpAny _ _ (assign (.Name y py) X.env (.ref D)) _ _ _
  refine wpAny_assign_Name (store_ok2 (v := V.ref D) J nod hy (.inl hyl) rfl (fun s2 J2 ⟨a, sb, ha⟩ => ?_) (.inr hyl))
  obtain ⟨f0, f1, f2, f3, f4, f5⟩ := f
  have apart : C ≠ a := ha.elim (fun z => by rw [z]; exact f1) fun z e => f4 y a z e.symm
  exact ⟨m, hn.sameBut sb apart, fun h3 sb3 => ⟨_, H', J2.turned (t' := s2.toks) (fun b o hb e => (sb3.2 b hb).trans e) f0 f1 f3 f4 f5, q⟩⟩
theorem ps_setDcT {i : Nat} {y : Str} {py : Pos} {ek ev tg iter : Expr} {ifs : List Expr} {scope : Scope} {own : List (Str × Nat)} {pos spos : Pos} {wi : TI} {g : TG} {tt : TT} {tk tv : TE} (hu : X.A.units < cLine) (calm : X.calm = true) (nod : X.N.Nodup) (hy : X.N[i]? = some y) (hyl : X.env.scope.names.lookup y = some .local)
    (hsw : swapsWith (.DictComp ek ev [⟨tg, iter, ifs, 0⟩] scope pos) (some (.Name y py)) spos.line X.env = pure true) (hi : PI X tg iter wi) (blk : BlkOk X.N X.env.scope scope own)
    (hg : ∀ s H C cl fp, PG (X.blk s H scope (compEnvC scope cl C X.env) fp) tg g) (ht : ∀ s H C cl fp, PTs (X.blk s H scope (compEnvC scope cl C X.env) fp) ifs tt)
    (hk : ∀ s H C cl fp, PE (X.blk s H scope (compEnvC scope cl C X.env) fp) ek tk) (hv : ∀ s H C cl fp, PE (X.blk s H scope (compEnvC scope cl C X.env) fp) ev tv) (hs : ∀ x, foldedSetIterable iter X.env x = pure x) :
    PS X (.Assign [.Name y py] (.DictComp ek ev [⟨tg, iter, ifs, 0⟩] scope pos) spos) (tAsg (tDcT wi g tt tk tv (own.map (·.2))) (gName i)) := by
  refine ⟨fun pins s σ H De J0 given => ?_⟩
  rw [exec_Assign_Name_used _ _ _ _ hsw]
  refine wpAny_bind (wpAny_standAt (wpAny_bind ?_))
  show wpAny _ X.A (do let _ ← comprehension (.DictComp ek ev [⟨tg, iter, ifs, 0⟩] scope pos) scope X.env (firstIterPos [⟨tg, iter, ifs, 0⟩] pos) newDict false (eval iter X.env) (some (assign (.Name y py) X.env))) _ _ s
  have given : tDcT wi g tt tk tv (own.map (·.2)) σ H (fun x H1 => gName i x σ H1 De.nx) := given
  exact wpAny_bind (thn (dcT_core (Qf := fun _ s' => SP X pins De .next s') hu calm nod J0 hi blk hg ht hk hv hs given fun D C s' m H' J q hn f => stored nod hy hyl J q hn f) fun _ s' hq => wpAny_pure (wpAny_pure hq))
theorem ps_setDcI {i : Nat} {y : Str} {py : Pos} {ek ev tg iter : Expr} {ifs : List Expr} {scope : Scope} {own : List (Str × Nat)} {pos spos : Pos} {wi : TI} {g : TG} {tt : TT} {tk tv : TE} (calm : X.calm = true) (nod : X.N.Nodup) (hy : X.N[i]? = some y) (hyl : X.env.scope.names.lookup y = some .local)
    (hsw : swapsWith (.DictComp ek ev [⟨tg, iter, ifs, 0⟩] scope pos) (some (.Name y py)) spos.line X.env = pure true) (hi : PI X tg iter wi) (blk : BlkOk X.N X.env.scope scope own)
    (hg : ∀ s H C cl fp, PG (X.blk s H scope (compEnvC scope cl C X.env) fp) tg g) (ht : ∀ s H C cl fp, PTs (X.blk s H scope (compEnvC scope cl C X.env) fp) ifs tt)
    (hk : ∀ s H C cl fp, PE (X.blk s H scope (compEnvC scope cl C X.env) fp) ek tk) (hv : ∀ s H C cl fp, PE (X.blk s H scope (compEnvC scope cl C X.env) fp) ev tv) (hs : ∀ x, foldedSetIterable iter X.env x = pure x) :
    PS X (.Assign [.Name y py] (.DictComp ek ev [⟨tg, iter, ifs, 0⟩] scope pos) spos) (tAsg (tDc wi g tt tk tv (own.map (·.2))) (gName i)) := by
  refine ⟨fun pins s σ H De J0 given => ?_⟩
  rw [exec_Assign_Name_used _ _ _ _ hsw]
  refine wpAny_bind (wpAny_standAt (wpAny_bind ?_))
  show wpAny _ X.A (do let _ ← comprehension (.DictComp ek ev [⟨tg, iter, ifs, 0⟩] scope pos) scope X.env (firstIterPos [⟨tg, iter, ifs, 0⟩] pos) newDict false (eval iter X.env) (some (assign (.Name y py) X.env))) _ _ s
  have given : tDc wi g tt tk tv (own.map (·.2)) σ H (fun x H1 => gName i x σ H1 De.nx) := given
  exact wpAny_bind (thn (dc_core (Qf := fun _ s' => SP X pins De .next s') calm nod J0 hi blk hg ht hk hv hs given fun D C s' m H' J q hn f => stored nod hy hyl J q hn f) fun _ s' hq => wpAny_pure (wpAny_pure hq))
theorem sw_trueD {ek ev : Expr} {gs : List Comprehension} {scope : Scope} {pos py : Pos} {y : Str} {l : Nat} {env : Env} (hk : env.scope.kind = .function) (hy : env.scope.names.lookup y = some .local) (hl : (py.line == pos.line) = true)
    (ha : (scope.names.any fun (n, k) => n == y && (k == .local || k == .cell)) = false) : swapsWith (.DictComp ek ev gs scope pos) (some (.Name y py)) l env = pure true := by
  have a1 : env.kindOf y = some .local := hy
  have a2 : env.blockKind = .function := by unfold Env.blockKind; rw [hk]; rfl
  unfold swapsWith
  simp only [a2, a1, ha, Expr.pos, hl]
  rfl
end
end K5
/-! LayL: dict displays and comprehensions told by data; freezing; locks. -/
namespace K5
open PySem PySem.Spec PyProof.Rows L2

section
variable {α κ : Type} [DecidableEq κ]
theorem hasK_map {l : List α} {f : α → κ} {v : α → PyData} {k : κ} (h : k ∉ l.map f) : hasK (l.map fun a => (f a, v a)) k = false := by
  unfold hasK
  rw [List.any_eq_false]
  intro p hp
  obtain ⟨a, ha, rfl⟩ := List.mem_map.mp hp
  simp only [decide_eq_true_eq]
  intro e
  exact h (List.mem_map.mpr ⟨a, ha, e⟩)
theorem nodup_take {l : List α} {f : α → κ} (h : (l.map f).Nodup) {i : Nat} {a : α} (e : l[i]? = some a) : f a ∉ (l.take i).map f := by
  have h2 : ((l.take (i + 1)).map f).Nodup := h.sublist ((List.take_sublist _ _).map f)
  rw [take_at e, List.map_append] at h2
  intro m
  exact (List.nodup_append.mp h2).2.2 _ m _ (by simp) rfl
theorem getK_none {kvs : List (κ × PyData)} {k : κ} (h : hasK kvs k = false) : getK kvs k = none := by
  have := getK_isSome kvs k
  rw [h] at this
  cases hgk : getK kvs k with
  | none => rfl
  | some _ => rw [hgk] at this; cases this
theorem getK_map {l : List α} {f : α → κ} {v : α → PyData} (h : (l.map f).Nodup) {a : α} (ha : a ∈ l) : getK (l.map fun a => (f a, v a)) (f a) = some (v a) := by
  induction l with
  | nil => cases ha
  | cons b l ih =>
    rw [List.map_cons, List.nodup_cons] at h
    unfold getK
    rw [List.map_cons, List.find?_cons]
    by_cases e : f b = f a
    · rcases List.mem_cons.mp ha with rfl | ha
      · simp
      · exact absurd (e ▸ List.mem_map.mpr ⟨a, ha, rfl⟩) h.1
    · rw [decide_eq_false e]
      rcases List.mem_cons.mp ha with rfl | ha
      · exact absurd rfl e
      · exact ih h.2 ha
end

section
variable {X : Cx} {B : Bs} {ρ : DEnv} {pos : Pos} {ek ev tg iter : Expr} {scope : Scope} {own : List (Str × Nat)} {α : Type}
theorem Gr.non {M H M' H' : Hp} (g : Gr B M H M' H') {D : Addr} (n : H' D = none) : H D = none := by
  cases z : H D with
  | none => rfl
  | some o =>
    obtain ⟨o', h', _⟩ := g.th D o z
    rw [n] at h'
    cases h'
theorem dcT_read {K : PySem.W.Frag} {xs : List α} {enc : α → PyData} {f : α → List Int} {v : α → PyData} {r : α → DEnv} {gT : DEnv → PyData → DEnv → Prop} {ts vs : List Nat}
    (hr : ∀ a ∈ xs, gT (wp ρ vs) (enc a) (r a)) (hts : ∀ σ σ' : L2.St, L2.wipe σ' ts = L2.wipe (L2.wipe σ vs) ts → L2.wipe σ' vs = L2.wipe σ vs) (hl : xs.length ≤ sizeLine) (hsc : ∀ a ∈ xs, isSc (v a) = true) (hnd : (xs.map f).Nodup) (σ : L2.St) (H : Hp) (Q : VK)
    (h : tEF K B ρ (.dT (xs.map fun a => (f a, v a))) σ H Q) :
    tDcT (tEI K B ρ (xs.map enc)) (tG K gT ts) (ttL K B xs (fun _ => true) r) (teL K B xs (fun _ => true) (fun a => tI (f a)) r) (teL K B xs (fun _ => true) v r) vs σ H Q := by
  obtain ⟨M, k, q⟩ := h
  refine ⟨M, k, fun J M1 H1 gr iok D nD => ?_⟩
  have k1 := k.gr gr
  have hw := k1.off nD
  have hn : (xs.map enc).length = xs.length := List.length_map ..
  have W := iok.walk
  refine ⟨fun i m H2 => m + i = xs.length ∧ ∃ M2, Gr B M1 H1 M2 H2 ∧ H2 D = some (.dT (kvT ((xs.take i).map fun a => (f a, v a)))) ∧ M2 D = none, ⟨xs.length, rfl, M1, k1.refl.side nD (k1.clr nD) hw, upd_same, k1.clr nD⟩, ?_⟩
  rintro i m H2 ⟨hm, M2, g2, hD, mD⟩
  by_cases hi : i < xs.length
  · refine .inr ⟨W.goes i H2 (by rw [hn]; exact hi) ⟨M2, g2.mm, g2.mh⟩, fun H' => ∃ M3, Gr B M1 H1 M3 H' ∧ H' D = some (.dT (kvT ((xs.take (i + 1)).map fun a => (f a, v a)))) ∧ M3 D = none, fun H' h' => ⟨xs.length - (i + 1), by omega, by omega, h'⟩, fun x H3 y => ?_⟩
    have hy := W.yields i H2 x H3 (by rw [hn]; exact hi) ⟨M2, g2.mm, g2.mh⟩ y
    have e : xs[i]? = some xs[i] := List.getElem?_eq_getElem hi
    have e2 : (xs.map enc)[i]? = some (enc xs[i]) := by rw [List.getElem?_map, e] <;> rfl
    obtain ⟨M3, gi, hx⟩ := hy M2 _ g2.mm g2.mh e2
    have k2 := k1.gr g2
    have g3 := k2.gi gi
    have k3 := k2.gr g3
    have am : xs[i] ∈ xs := List.getElem_mem hi
    refine ⟨B, M3, wp ρ vs, enc xs[i], r xs[i], k3.wipe vs, hx, hr _ am, fun σ' hσ kk => ⟨hts σ σ' hσ, ⟨xs[i], am⟩, M3, kk, fun b M4 H4 eb g4 => ?_⟩⟩
    subst eb
    show (if true = true then _ else _)
    rw [if_pos rfl]
    have kk4 := kk.gr g4
    refine ⟨⟨xs[i], am, rfl⟩, M4, kk4, fun y v5 M5 H5 ey g5 r5 => ⟨⟨xs[i], am, rfl⟩, M5, kk4.gr g5, fun z v6 M6 H6 ez g6 r6 => ?_⟩⟩
    subst ey ez
    have g26 : Gr B M2 H2 M6 H6 := ((g3.trans g4).trans g5).trans g6
    have hD6 := g26.hh D _ hw hD
    have mD6 := g26.fr D _ hD rfl mD
    obtain ⟨b, e5, h5⟩ := rI_key r5
    have hz : valV (kvT ((xs.take i).map fun a => (f a, v a))) ((f xs[i]).map Sum.inl) = none := by
      rw [valV_kvT, getK_none (hasK_map (nodup_take hnd e))]
      rfl
    refine ⟨b, _, (f xs[i]).map Sum.inl, e5, g6.mh _ _ (g6.mm _ _ h5), hD6, ?_, M6, (g2.trans g26).side nD mD6 hw, ?_, mD6⟩
    · unfold kvT
      rw [List.length_map, List.length_map, List.length_take]
      omega
    · rw [upd_same, putK_new hz, sc_dp (hsc _ am) r6, take_at e]
      unfold kvT
      rw [List.map_append, List.map_append]
      rfl
  · have e : i = xs.length := by omega
    subst e
    refine .inl ⟨?_, ?_⟩
    · have := W.stops H2 ⟨M2, g2.mm, g2.mh⟩
      rw [hn] at this
      exact this
    · rw [List.take_of_length_le (Nat.le_refl _)] at hD
      refine q D M2 H2 (gr.trans g2) (gr.non nD) mD ⟨D, rfl, mD, hD, fun p hp => ?_⟩
      obtain ⟨a, ha, rfl⟩ := List.mem_map.mp hp
      exact hsc a ha
theorem dcI_read {K : PySem.W.Frag} {xs : List α} {enc : α → PyData} {f : α → Int} {v : α → PyData} {r : α → DEnv} {gT : DEnv → PyData → DEnv → Prop} {ts vs : List Nat}
    (hr : ∀ a ∈ xs, gT (wp ρ vs) (enc a) (r a)) (hts : ∀ σ σ' : L2.St, L2.wipe σ' ts = L2.wipe (L2.wipe σ vs) ts → L2.wipe σ' vs = L2.wipe σ vs) (hl : xs.length ≤ sizeLine) (hsc : ∀ a ∈ xs, isSc (v a) = true) (hnd : (xs.map f).Nodup) (σ : L2.St) (H : Hp) (Q : VK)
    (h : tEF K B ρ (.dI (xs.map fun a => (f a, v a))) σ H Q) :
    tDc (tEI K B ρ (xs.map enc)) (tG K gT ts) (ttL K B xs (fun _ => true) r) (teL K B xs (fun _ => true) (fun a => .int (f a)) r) (teL K B xs (fun _ => true) v r) vs σ H Q := by
  obtain ⟨M, k, q⟩ := h
  refine ⟨M, k, fun J M1 H1 gr iok D nD => ?_⟩
  have k1 := k.gr gr
  have hw := k1.off nD
  have hn : (xs.map enc).length = xs.length := List.length_map ..
  have W := iok.walk
  refine ⟨fun i m H2 => m + i = xs.length ∧ ∃ M2, Gr B M1 H1 M2 H2 ∧ H2 D = some (.dK (kvI ((xs.take i).map fun a => (f a, v a)))) ∧ M2 D = none, ⟨xs.length, rfl, M1, k1.refl.side nD (k1.clr nD) hw, upd_same, k1.clr nD⟩, ?_⟩
  rintro i m H2 ⟨hm, M2, g2, hD, mD⟩
  by_cases hi : i < xs.length
  · refine .inr ⟨W.goes i H2 (by rw [hn]; exact hi) ⟨M2, g2.mm, g2.mh⟩, fun H' => ∃ M3, Gr B M1 H1 M3 H' ∧ H' D = some (.dK (kvI ((xs.take (i + 1)).map fun a => (f a, v a)))) ∧ M3 D = none, fun H' h' => ⟨xs.length - (i + 1), by omega, by omega, h'⟩, fun x H3 y => ?_⟩
    have hy := W.yields i H2 x H3 (by rw [hn]; exact hi) ⟨M2, g2.mm, g2.mh⟩ y
    have e : xs[i]? = some xs[i] := List.getElem?_eq_getElem hi
    have e2 : (xs.map enc)[i]? = some (enc xs[i]) := by rw [List.getElem?_map, e] <;> rfl
    obtain ⟨M3, gi, hx⟩ := hy M2 _ g2.mm g2.mh e2
    have k2 := k1.gr g2
    have g3 := k2.gi gi
    have k3 := k2.gr g3
    have am : xs[i] ∈ xs := List.getElem_mem hi
    refine ⟨B, M3, wp ρ vs, enc xs[i], r xs[i], k3.wipe vs, hx, hr _ am, fun σ' hσ kk => ⟨hts σ σ' hσ, ⟨xs[i], am⟩, M3, kk, fun b M4 H4 eb g4 => ?_⟩⟩
    subst eb
    show (if true = true then _ else _)
    rw [if_pos rfl]
    have kk4 := kk.gr g4
    refine ⟨⟨xs[i], am, rfl⟩, M4, kk4, fun y v5 M5 H5 ey g5 r5 => ⟨⟨xs[i], am, rfl⟩, M5, kk4.gr g5, fun z v6 M6 H6 ez g6 r6 => ?_⟩⟩
    subst ey ez
    have g26 : Gr B M2 H2 M6 H6 := ((g3.trans g4).trans g5).trans g6
    have hD6 := g26.hh D _ hw hD
    have mD6 := g26.fr D _ hD rfl mD
    have hz : valV (kvI ((xs.take i).map fun a => (f a, v a))) (Sum.inl (f xs[i])) = none := by
      rw [valV_kvI, getK_none (hasK_map (nodup_take hnd e))]
      rfl
    refine ⟨_, Sum.inl (f xs[i]), rI_int r5, hD6, ?_, M6, (g2.trans g26).side nD mD6 hw, ?_, mD6⟩
    · unfold kvI
      rw [List.length_map, List.length_map, List.length_take]
      omega
    · rw [upd_same, putK_new hz, sc_dp (hsc _ am) r6, take_at e]
      unfold kvI
      rw [List.map_append, List.map_append]
      rfl
  · have e : i = xs.length := by omega
    subst e
    refine .inl ⟨?_, ?_⟩
    · have := W.stops H2 ⟨M2, g2.mm, g2.mh⟩
      rw [hn] at this
      exact this
    · rw [List.take_of_length_le (Nat.le_refl _)] at hD
      refine q D M2 H2 (gr.trans g2) (gr.non nD) mD ⟨D, rfl, mD, hD, fun p hp => ?_⟩
      obtain ⟨a, ha, rfl⟩ := List.mem_map.mp hp
      exact hsc a ha
/-- {k: v for x, y in iter}, keys tuples of ints -/
theorem ef_dc2T {i j : Nat} {x y : Str} {px py pt : Pos} {k0 : Nat} {xs : List α} {ex ey : α → PyData} {f : α → List Int} {v : α → PyData} (hu : X.A.units < cLine) (hc : X.calm = true) (hN : X.N.Nodup) (hij : i ≠ j) (hi : EI X B ρ (.Tuple [.Name x px, .Name y py] k0 pt) iter (xs.map fun a => .tuple [ex a, ey a])) (ok : blkC X.N X.env.scope scope [(x, i), (y, j)] = true)
    (hk : ∀ s H C cl fp, ∀ a ∈ xs, EE (Blk X s H scope C cl fp) B (((wp ρ [i, j]).set i (some (.im (.dat (ex a))))).set j (some (.im (.dat (ey a))))) ek (.dat (tI (f a))))
    (hv : ∀ s H C cl fp, ∀ a ∈ xs, EE (Blk X s H scope C cl fp) B (((wp ρ [i, j]).set i (some (.im (.dat (ex a))))).set j (some (.im (.dat (ey a))))) ev (.dat (v a))) (hl : xs.length ≤ sizeLine) (hsc : ∀ a ∈ xs, isSc (v a) = true) (hnd : (xs.map f).Nodup) (hx : X.N[i]? = some x := by rfl) (hy : X.N[j]? = some y := by rfl)
    (hg : ∀ s H C cl fp, EG (Blk X s H scope C cl fp) (.Tuple [.Name x px, .Name y py] k0 pt) (g2 i j) [i, j] := by exact fun _ _ _ _ _ => eg_2 (by first | rfl | assumption) (by assumption) (by decide)) (hs : ∀ x, foldedSetIterable iter X.env x = pure x := by intro _; rfl) :
    EF X B ρ (.DictComp ek ev [⟨.Tuple [.Name x px, .Name y py] k0 pt, iter, [], 0⟩] scope pos) (.dT (xs.map fun a => (f a, v a))) :=
  pe_imp (pe_dcT hu hc hN hi (blkOk_by ok) (fun s H C cl fp => (hg s H C cl fp).pg) (fun s H C cl fp => pts_any fun a : { a // a ∈ xs } => ets_nil) (fun s H C cl fp => pe_any fun a : { a // a ∈ xs ∧ true = true } => hk s H C cl fp a.1 a.2.1) (fun s H C cl fp => pe_any fun a : { a // a ∈ xs ∧ true = true } => hv s H C cl fp a.1 a.2.1) hs)
    fun σ H Q q => dcT_read (r := fun a => ((wp ρ [i, j]).set i (some (.im (.dat (ex a))))).set j (some (.im (.dat (ey a))))) (gT := g2 i j) (ts := [i, j]) (vs := [i, j]) (fun _ _ => ⟨_, _, rfl, rfl⟩) (wipe_idem2 hij) hl hsc hnd σ H Q q
/-- {k: v for x in iter}, keys ints -/
theorem ef_dc1I {i : Nat} {x : Str} {px : Pos} {xs : List α} {enc : α → PyData} {f : α → Int} {v : α → PyData} (hc : X.calm = true) (hN : X.N.Nodup) (hi : EI X B ρ (.Name x px) iter (xs.map enc)) (ok : blkC X.N X.env.scope scope [(x, i)] = true)
    (hk : ∀ s H C cl fp, ∀ a ∈ xs, EE (Blk X s H scope C cl fp) B ((wp ρ [i]).set i (some (.im (.dat (enc a))))) ek (I (f a)))
    (hv : ∀ s H C cl fp, ∀ a ∈ xs, EE (Blk X s H scope C cl fp) B ((wp ρ [i]).set i (some (.im (.dat (enc a))))) ev (.dat (v a))) (hl : xs.length ≤ sizeLine) (hsc : ∀ a ∈ xs, isSc (v a) = true) (hnd : (xs.map f).Nodup) (hx : X.N[i]? = some x := by rfl)
    (hg : ∀ s H C cl fp, EG (Blk X s H scope C cl fp) (.Name x px) (g1 i) [i] := by exact fun _ _ _ _ _ => eg_1 (by assumption)) (hs : ∀ x, foldedSetIterable iter X.env x = pure x := by intro _; rfl) :
    EF X B ρ (.DictComp ek ev [⟨.Name x px, iter, [], 0⟩] scope pos) (.dI (xs.map fun a => (f a, v a))) :=
  pe_imp (pe_dc hc hN hi (blkOk_by ok) (fun s H C cl fp => (hg s H C cl fp).pg) (fun s H C cl fp => pts_any fun a : { a // a ∈ xs } => ets_nil) (fun s H C cl fp => pe_any fun a : { a // a ∈ xs ∧ true = true } => hk s H C cl fp a.1 a.2.1) (fun s H C cl fp => pe_any fun a : { a // a ∈ xs ∧ true = true } => hv s H C cl fp a.1 a.2.1) hs)
    fun σ H Q q => dcI_read (r := fun a => (wp ρ [i]).set i (some (.im (.dat (enc a))))) (gT := g1 i) (ts := [i]) (vs := [i]) (fun _ _ => rfl) (fun σ σ' h => h.trans (set_none_set ..)) hl hsc hnd σ H Q q
/-- {t: v} -/
theorem ef_oneT {k : List Int} {d : PyData} (hu : X.A.units < cLine) (hk : EE X B ρ ek (.dat (tI k))) (hv : EE X B ρ ev (.dat d)) (sd : isSc d = true) : EF X B ρ (.Dict [some ek] [ev] pos) (.dT [(k, d)]) :=
  pe_imp (pe_oneT hu hk hv) fun σ H Q ⟨M, k0, q⟩ p np => by
    have g0 := k0.tmp (o := .dT []) np
    have hw := k0.off np
    have mp := k0.clr np
    refine ⟨M, k0.gr g0, fun y v5 M5 H5 ey g5 r5 => ⟨M5, (k0.gr g0).gr g5, fun z v6 M6 H6 ez g6 r6 => ?_⟩⟩
    subst ey ez
    have g56 := g5.trans g6
    have h6 := g56.hh p _ hw upd_same
    have m6 := g56.fr p _ upd_same rfl mp
    obtain ⟨b, e5, h5⟩ := rI_key r5
    refine ⟨h6, b, _, e5, g6.mh _ _ (g6.mm _ _ h5), ?_⟩
    rw [putK_new rfl]
    refine q p M6 _ ((g0.trans g56).side np m6 hw) np m6 ⟨p, rfl, m6, ?_, fun x hx => ?_⟩
    · rw [upd_same, sc_dp sd r6]
      rfl
    · rw [List.mem_singleton] at hx
      subst hx
      exact sd
end

/-! ### a thing of the frame's own that will not change any more -/
section
variable {K : PySem.W.Frag} {B : Bs} {M H : Hp} {σ : L2.St} {ρ : DEnv}
theorem Ok.freeze (k : Ok K B M H σ ρ) {i : Nat} {a : Addr} {y : En} {o : HO} {x : Im} (h : ρ[i]? = some (some y)) (hs : σ[i]? = some (some (.ref a))) (hy : K5.own y = true) (mA : M a = none) (hA : H a = some o) (r : RepI K (upd M a o) (.ref a) x) : Ok K B (upd M a o) H σ (ρ.set i (some (.im x))) := by
  obtain ⟨fA, wA⟩ := k.fresh i y a h hy hs
  have up : Same M (upd M a o) := fun b u e => by rw [upd_ne (ne_of_none e mA)]; exact e
  refine ⟨k.mm.trans up, fun b u e => ?_, k.fh, k.ft, fun b u e t n => ?_, fun j e hj => ?_, fun j e b hj o' h' => ?_, fun j l e e' nn hj hl o1 o2 => ?_, fun j e hj => ?_, fun b w => ?_, k.vol, by rw [List.length_set]; exact k.len⟩
  · by_cases z : b = a
    · subst z
      rw [upd_same] at e
      cases e
      exact hA
    · rw [upd_ne z] at e
      exact k.mh b u e
  · rw [upd_ne (fun z => by rw [z, fA] at e; cases e)]
    exact k.fm b u e t n
  · rcases set_cases hj with ⟨rfl, e1, hv⟩ | ⟨nj, hj⟩
    · cases e1
      exact ⟨_, hs, r⟩
    · obtain ⟨v, h1, r1⟩ := k.at_ j e hj
      obtain ⟨s1, w1⟩ := k.stay j e hj
      refine ⟨v, h1, repE_up r1 s1 up (fun b u ho ev h2 t nb => ⟨h2, ?_⟩) w1⟩
      subst ev
      rw [upd_ne (fun z => by subst z; exact k.sep i j y e nj h hj hy ho (hs.trans h1.symm))]
      exact nb
  · rcases set_cases hj with ⟨rfl, e1, hv⟩ | ⟨nj, hj⟩
    · cases e1
      cases o'
    · exact k.fresh j e b hj o' h'
  · rcases set_cases hj with ⟨rfl, e1, hv⟩ | ⟨nj, hj⟩
    · cases e1
      cases o1
    · rcases set_cases hl with ⟨rfl, e2, _⟩ | ⟨nl, hl⟩
      · cases e2
        cases o2
      · exact k.sep j l e e' nn hj hl o1 o2
  · rcases set_cases hj with ⟨rfl, e1, hv⟩ | ⟨nj, hj⟩
    · cases e1
      exact ⟨trivial, trivial⟩
    · exact k.stay j e hj
  · rw [upd_ne (fun z => wA (by rw [← z]; exact w))]
    exact k.wm b w
end
section
variable {X : Cx} {B : Bs} {ρ : DEnv} {sts : List Stmt} {R : Res → Prop}
theorem xx_frzL (i : Nat) {ds : List PyData} (h : ρ[i]? = some (some (.lst ds))) (hn : XX X B (ρ.set i (some (.im (Li ds)))) sts R) : XX X B ρ sts R :=
  pss_imp hn fun D σ H ⟨M, k, q⟩ => by
    obtain ⟨a, vs, h1, n, e, r⟩ := k.lstAt h
    have up : Same M (upd M a (.lst vs)) := fun b u e => by rw [upd_ne (ne_of_none e n)]; exact e
    exact ⟨_, k.freeze h h1 rfl n e (x := Li ds) (.lst upd_same (dps_up up _ _ r)), fun r hr => (q r hr).up up⟩
theorem xx_frzI (i : Nat) {kvs : List (Int × PyData)} (h : ρ[i]? = some (some (.dI kvs))) (hn : XX X B (ρ.set i (some (.im (.di kvs)))) sts R) : XX X B ρ sts R :=
  pss_imp hn fun D σ H ⟨M, k, q⟩ => by
    obtain ⟨v, h1, a, rfl, n, e, r⟩ := k.at_ i _ h
    have up : Same M (upd M a (.dK (kvI kvs))) := fun b u e => by rw [upd_ne (ne_of_none e n)]; exact e
    exact ⟨_, k.freeze h h1 rfl n e (x := .di kvs) ⟨a, rfl, upd_same, r⟩, fun r hr => (q r hr).up up⟩
theorem xx_frzT (i : Nat) {kvs : List (List Int × PyData)} (h : ρ[i]? = some (some (.dT kvs))) (hn : XX X B (ρ.set i (some (.im (.dt kvs)))) sts R) : XX X B ρ sts R :=
  pss_imp hn fun D σ H ⟨M, k, q⟩ => by
    obtain ⟨v, h1, a, rfl, n, e, r⟩ := k.at_ i _ h
    have up : Same M (upd M a (.dT (kvT kvs))) := fun b u e => by rw [upd_ne (ne_of_none e n)]; exact e
    exact ⟨_, k.freeze h h1 rfl n e (x := .dt kvs) ⟨a, rfl, upd_same, r⟩, fun r hr => (q r hr).up up⟩
end
end K5
/-! LayM: several names at once; membership; locks; slices; lists; sorting. -/
namespace K5
open PySem PySem.Spec PyProof.Rows L2

section
variable {X : Cx} {B : Bs} {ρ : DEnv} {pos p px pn : Pos} {e a b c : Expr} {sts : List Stmt} {R : Res → Prop}
/-! ### several names -/
theorem xx_asg {tg : Expr} {gT : DEnv → PyData → DEnv → Prop} {ts : List Nat} {d : PyData} {ρ' : DEnv} (he : EE X B ρ e (.dat d)) (hg : EG X tg gT ts) (hT : gT ρ d ρ') (h : XX X B ρ' sts R) (hs : swapsWithSole [tg] e pos.line X.env = pure false := by rfl) (hw : swappedStores [tg] e X.env = pure none := by rfl)
    (h1 : (assignEach [tg] X.env).map (·.2) = [assign tg X.env] := by rfl) : XX X B ρ (.Assign [tg] e pos :: sts) R :=
  xx_nx (ρ' := ρ') (ps_imp (ps_asg he hg.pg hs hw h1) fun D σ H ⟨M, k, q⟩ => ⟨M, k, fun z v M1 H1 e1 g1 r1 => by
    subst e1
    exact ⟨B, M1, ρ, d, ρ', k.gr g1, r1, hT, fun σ' _ k' => q _ rfl σ' M1 H1 g1.mm k'⟩⟩) h
/-- a, b = x, y -/
theorem xx_par {i j : Nat} {x y : Str} {u v : Im} {px py pt : Pos} {kt k2 : Nat} {pt2 : Pos} (hc : X.calm = true) (hN : X.N.Nodup) (hij : i ≠ j) (ha : EE X B ρ a u) (hb : EE X B ρ b v) (h : XX X B ((ρ.set i (some (.im u))).set j (some (.im v))) sts R) (hi : X.N[i]? = some x := by rfl) (hj : X.N[j]? = some y := by rfl)
    (hx : X.env.scope.names.lookup x = some .local := by rfl) (hy : X.env.scope.names.lookup y = some .local := by rfl) (h1 : starEach [a, b] X.env = (false, eval a X.env) :: starEach [b] X.env := by rfl) (h2 : starEach [b] X.env = (false, eval b X.env) :: starEach [] X.env := by rfl)
    (hw : swappedStores [.Tuple [.Name x px, .Name y py] kt pt] (.Tuple [a, b] k2 pt2) X.env = pure (some [x, y]) := by rfl)
    (hs : swapsWithSole [.Tuple [.Name x px, .Name y py] kt pt] (.Tuple [a, b] k2 pt2) pos.line X.env = pure false := by rfl) : XX X B ρ (.Assign [.Tuple [.Name x px, .Name y py] kt pt] (.Tuple [a, b] k2 pt2) pos :: sts) R :=
  xx_nx (ρ' := (ρ.set i (some (.im u))).set j (some (.im v))) (ps_imp (ps_par hc hN hi hj hij hx hy (ea_cons ha (ea_cons hb ea_nil h2) h1) hw hs) fun D σ H ⟨M, k, q⟩ => ⟨M, k, fun vs M1 H1 g1 r1 => by
    cases r1 with
    | cons r1 r2 =>
      cases r2 with
      | cons r2 r3 =>
        cases r3
        exact ⟨_, _, rfl, q _ rfl _ M1 H1 g1.mm (((k.gr g1).put r1).put r2)⟩⟩) h
/-- a, b = a thing just made, y -/
theorem xx_parO {i j : Nat} {x y : Str} {u : En} {v : Im} {px py pt : Pos} {kt k2 : Nat} {pt2 : Pos} (hc : X.calm = true) (hN : X.N.Nodup) (hij : i ≠ j) (ha : EF X B ρ a u) (ou : own u = true) (hb : EE X B ρ b v) (h : XX X B ((ρ.set i (some u)).set j (some (.im v))) sts R) (st : StayE u ∧ RefE u := by exact ⟨trivial, trivial⟩) (hi : X.N[i]? = some x := by rfl) (hj : X.N[j]? = some y := by rfl)
    (hx : X.env.scope.names.lookup x = some .local := by rfl) (hy : X.env.scope.names.lookup y = some .local := by rfl) (h1 : starEach [a, b] X.env = (false, eval a X.env) :: starEach [b] X.env := by rfl) (h2 : starEach [b] X.env = (false, eval b X.env) :: starEach [] X.env := by rfl)
    (hw : swappedStores [.Tuple [.Name x px, .Name y py] kt pt] (.Tuple [a, b] k2 pt2) X.env = pure (some [x, y]) := by rfl)
    (hs : swapsWithSole [.Tuple [.Name x px, .Name y py] kt pt] (.Tuple [a, b] k2 pt2) pos.line X.env = pure false := by rfl) : XX X B ρ (.Assign [.Tuple [.Name x px, .Name y py] kt pt] (.Tuple [a, b] k2 pt2) pos :: sts) R :=
  xx_nx (ρ' := (ρ.set i (some u)).set j (some (.im v))) (ps_imp (ps_par hc hN hi hj hij hx hy (pa_cons ha (pa_cons hb pa_nil h2) h1) hw hs) fun D σ H ⟨M, k, q⟩ => ⟨M, k, fun A M1 H1 g1 n1 n2 r1 => by
    have hw1 := k.off n1
    refine ⟨M1, k.gr g1, fun z v2 M2 H2 ez g2 r2 => ⟨.ref A, v2, rfl, ?_⟩⟩
    subst ez
    have r1' : RepE X.K M2 H2 (.ref A) u := repE_up r1 st.1 g2.mm (fun b o _ eb h t n => by cases eb; exact ⟨g2.hh _ o hw1 h, g2.fr _ o h t n⟩) st.2
    exact q _ rfl _ M2 H2 (g1.mm.trans g2.mm) ((k.tak2 (g1.trans g2) (i := i) n1 r1' st).put r2)⟩) h
/-- a, b, c = x, y, z -/
theorem xx_par3 {i j l : Nat} {x y z : Str} {u v w : Im} {px py pz pt : Pos} {kt k2 : Nat} {pt2 : Pos} (hc : X.calm = true) (hN : X.N.Nodup) (hij : i ≠ j) (hil : i ≠ l) (hjl : j ≠ l) (ha : EE X B ρ a u) (hb : EE X B ρ b v) (hcc : EE X B ρ c w) (h : XX X B (((ρ.set i (some (.im u))).set j (some (.im v))).set l (some (.im w))) sts R)
    (hi : X.N[i]? = some x := by rfl) (hj : X.N[j]? = some y := by rfl) (hl : X.N[l]? = some z := by rfl)
    (hx : X.env.scope.names.lookup x = some .local := by rfl) (hy : X.env.scope.names.lookup y = some .local := by rfl) (hz : X.env.scope.names.lookup z = some .local := by rfl) (h1 : starEach [a, b, c] X.env = (false, eval a X.env) :: starEach [b, c] X.env := by rfl) (h2 : starEach [b, c] X.env = (false, eval b X.env) :: starEach [c] X.env := by rfl) (h3 : starEach [c] X.env = (false, eval c X.env) :: starEach [] X.env := by rfl)
    (hw : swappedStores [.Tuple [.Name x px, .Name y py, .Name z pz] kt pt] (.Tuple [a, b, c] k2 pt2) X.env = pure (some [x, y, z]) := by rfl)
    (hs : swapsWithSole [.Tuple [.Name x px, .Name y py, .Name z pz] kt pt] (.Tuple [a, b, c] k2 pt2) pos.line X.env = pure false := by rfl) : XX X B ρ (.Assign [.Tuple [.Name x px, .Name y py, .Name z pz] kt pt] (.Tuple [a, b, c] k2 pt2) pos :: sts) R :=
  xx_nx (ρ' := ((ρ.set i (some (.im u))).set j (some (.im v))).set l (some (.im w))) (ps_imp (ps_par3 hc hN hi hj hl hij hil hjl hx hy hz (ea_cons ha (ea_cons hb (ea_cons hcc ea_nil h3) h2) h1) hw hs) fun D σ H ⟨M, k, q⟩ => ⟨M, k, fun vs M1 H1 g1 r1 => by
    cases r1 with
    | cons r1 r2 =>
      cases r2 with
      | cons r2 r3 =>
        cases r3 with
        | cons r3 r4 =>
          cases r4
          exact ⟨_, _, _, rfl, q _ rfl _ M1 H1 g1.mm ((((k.gr g1).put r1).put r2).put r3)⟩⟩) h

/-! ### membership -/
theorem inV_ints (i : Int) : ∀ ks : List Int, inV (.int i) (ks.map V.int) = decide (i ∈ ks)
  | [] => by simp [inV]
  | k :: ks => by
    have ih := inV_ints i ks
    unfold inV at ih ⊢
    rw [List.map_cons, List.any_cons, ih]
    have e : eqV (.int k) (.int i) = decide (i = k) := by
      show (k == i) = _
      rw [Bool.beq_eq_decide_eq]
      exact decide_eq_decide.mpr ⟨fun h => h.symm, fun h => h.symm⟩
    rw [e, ← Bool.decide_or]
    exact decide_eq_decide.mpr List.mem_cons.symm
theorem dqs_ints' {K : PySem.W.Frag} {M : Hp} : ∀ {k : List Int} {vs : List V}, DqAll K M vs (k.map PyData.int) → vs = k.map V.int
  | [], _, h => by cases h; rfl
  | b :: bs, _, h => by
    cases h with
    | cons a r =>
      rw [dqs_ints' r]
      cases a
      rfl
theorem flat_ints (ks : List Int) : (ks.map V.int).all flatV = true := by
  rw [List.all_map, List.all_eq_true]
  intro x _
  rfl
theorem ec_inIT {i : Int} {ks : List Int} (ha : EE X B ρ a (I i)) (hb : EE X B ρ b (Tu (ks.map .int))) : EC X B ρ .In a b (decide (i ∈ ks)) :=
  ec_opc op_in_seq ha hb fun v u σ M H Q k r1 r2 q => by
    obtain ⟨t, vs, rfl, h1, h2⟩ := rI_tup r2
    rw [dqs_ints' h2] at h1
    rw [rI_int r1]
    refine ⟨t, _, rfl, .inr (tup_up k.mh h1), rfl, flat_ints ks, ?_⟩
    rw [if_neg (by decide), inV_ints]
    exact q _ M H k.refl (.bl _)
theorem ee_inIT {i : Int} {ks : List Int} (ha : EE X B ρ a (I i)) (hb : EE X B ρ b (Tu (ks.map .int))) (hm : behindInMarks .In b = false := by rfl) : EE X B ρ (.Compare a [.In] [b] pos) (Bl (decide (i ∈ ks))) :=
  ee_opc op_in_seq ha hb hm fun v u σ M H Q k r1 r2 q => by
    obtain ⟨t, vs, rfl, h1, h2⟩ := rI_tup r2
    rw [dqs_ints' h2] at h1
    rw [rI_int r1]
    refine ⟨t, _, rfl, .inr (tup_up k.mh h1), rfl, flat_ints ks, ?_⟩
    rw [if_neg (by decide), inV_ints]
    exact q _ M H k.refl (.bl _)
theorem ec_inIL {i : Int} {ks : List Int} (ha : EE X B ρ a (I i)) (hb : EE X B ρ b (Li (ks.map .int))) : EC X B ρ .In a b (decide (i ∈ ks)) :=
  ec_opc op_in_seq ha hb fun v u σ M H Q k r1 r2 q => by
    obtain ⟨t, vs, rfl, h1, h2⟩ := rI_lst r2
    rw [dqs_ints' h2] at h1
    rw [rI_int r1]
    refine ⟨t, _, rfl, .inl (k.mh.seq h1), rfl, flat_ints ks, ?_⟩
    rw [if_neg (by decide), inV_ints]
    exact q _ M H k.refl (.bl _)
theorem ee_inIL {i : Int} {ks : List Int} (ha : EE X B ρ a (I i)) (hb : EE X B ρ b (Li (ks.map .int))) (hm : behindInMarks .In b = false := by rfl) : EE X B ρ (.Compare a [.In] [b] pos) (Bl (decide (i ∈ ks))) :=
  ee_opc op_in_seq ha hb hm fun v u σ M H Q k r1 r2 q => by
    obtain ⟨t, vs, rfl, h1, h2⟩ := rI_lst r2
    rw [dqs_ints' h2] at h1
    rw [rI_int r1]
    refine ⟨t, _, rfl, .inl (k.mh.seq h1), rfl, flat_ints ks, ?_⟩
    rw [if_neg (by decide), inV_ints]
    exact q _ M H k.refl (.bl _)
/-- d in a list of data -/
theorem ec_inD {d : PyData} {ds : List PyData} (hu : X.A.units + 65 < cLine) (ha : EE X B ρ a (.dat d)) (hb : EE X B ρ b (Li ds)) (h1 : SeqAt.shaped d = true) (h2 : SeqAt.shaped (.list ds) = true) : EC X B ρ .In a b (ds.any fun z => PyData.eqv z d) :=
  ec_opc (op_inD hu) ha hb fun v u σ M H Q k r1 r2 q => ⟨d, ds, dq_dp _ _ (dp_up k.mh _ _ r1), dq_dp _ _ (dp_up k.mh _ _ r2), h1, h2, q _ M H k.refl (.bl _)⟩
theorem ee_inD {d : PyData} {ds : List PyData} (hu : X.A.units + 65 < cLine) (ha : EE X B ρ a (.dat d)) (hb : EE X B ρ b (Li ds)) (h1 : SeqAt.shaped d = true) (h2 : SeqAt.shaped (.list ds) = true) (hm : behindInMarks .In b = false := by rfl) : EE X B ρ (.Compare a [.In] [b] pos) (Bl (ds.any fun z => PyData.eqv z d)) :=
  ee_opc (op_inD hu) ha hb hm fun v u σ M H Q k r1 r2 q => ⟨d, ds, dq_dp _ _ (dp_up k.mh _ _ r1), dq_dp _ _ (dp_up k.mh _ _ r2), h1, h2, q _ M H k.refl (.bl _)⟩
/-- d in a list of the frame's own -/
theorem ec_inO {i : Nat} {x : Str} {d : PyData} {ds : List PyData} (hu : X.A.units + 65 < cLine) (ha : EE X B ρ a (.dat d)) (h : ρ[i]? = some (some (.lst ds))) (h1 : SeqAt.shaped d = true) (h2 : SeqAt.shaped (.list ds) = true) (hN : X.N[i]? = some x := by rfl) (hv : Vis X.env.scope x := by first | exact Or.inl rfl | exact Or.inr (Or.inl rfl) | exact Or.inr (Or.inr rfl))
    (hd : (x == ("__debug__" : Str)) = false := by decide) (hcd : (x == ("__classdict__" : Str)) = false := by decide) : EC X B ρ .In a (.Name x pn) (ds.any fun z => PyData.eqv z d) :=
  pc_imp (pc_R (op_inD hu) ha (pe_var hN hv hd hcd)) fun σ H Q ⟨M, k0, q⟩ => ⟨M, k0, fun z v M1 H1 ez g1 r1 => by
    subst ez
    have k1 := k0.gr g1
    obtain ⟨t, vs, e1, n, e2, r⟩ := k1.lstAt h
    exact ⟨.ref t, e1, d, ds, dq_dp _ _ (dp_up k1.mh _ _ r1), .lst (.of e2) (dqs_dps _ _ (dps_up k1.mh _ _ r)), h1, h2, q _ _ M1 H1 rfl g1 (.bl _)⟩⟩
theorem ee_inO {i : Nat} {x : Str} {d : PyData} {ds : List PyData} (hu : X.A.units + 65 < cLine) (ha : EE X B ρ a (.dat d)) (h : ρ[i]? = some (some (.lst ds))) (h1 : SeqAt.shaped d = true) (h2 : SeqAt.shaped (.list ds) = true) (hN : X.N[i]? = some x := by rfl) (hv : Vis X.env.scope x := by first | exact Or.inl rfl | exact Or.inr (Or.inl rfl) | exact Or.inr (Or.inr rfl))
    (hd : (x == ("__debug__" : Str)) = false := by decide) (hcd : (x == ("__classdict__" : Str)) = false := by decide) : EE X B ρ (.Compare a [.In] [.Name x pn] pos) (Bl (ds.any fun z => PyData.eqv z d)) :=
  pe_imp (pe_cmpR (op_inD hu) ha (pe_var hN hv hd hcd) rfl) fun σ H Q ⟨M, k0, q⟩ => ⟨M, k0, fun z v M1 H1 ez g1 r1 => by
    subst ez
    have k1 := k0.gr g1
    obtain ⟨t, vs, e1, n, e2, r⟩ := k1.lstAt h
    exact ⟨.ref t, e1, d, ds, dq_dp _ _ (dp_up k1.mh _ _ r1), .lst (.of e2) (dqs_dps _ _ (dps_up k1.mh _ _ r)), h1, h2, q _ _ M1 H1 rfl g1 (.bl _)⟩⟩

/-! ### a dict stands locked while it is walked -/
theorem pe_allOd {t : Obj → TE} (h : ∀ o, PE X e (t o)) : PE X e (fun σ H Q => ∃ o, t o σ H Q) := pe_any h
theorem ee_lock {i : Nat} {kvs : List (List Int × PyData)} {bb : Bool} (h : ρ[i]? = some (some (.dT kvs))) (he : ∀ o, EE X B (ρ.set i (some (.im (.lk o kvs)))) e (Bl bb)) : EE X B ρ e (Bl bb) :=
  pe_imp (pe_lock (pe_any he)) fun σ H Q ⟨M, k, q⟩ => by
    obtain ⟨v, h1, D, rfl, mD, hD, sc⟩ := k.at_ i _ h
    obtain ⟨fD, wD⟩ := k.fresh i _ D h rfl h1
    refine ⟨D, _, hD, trivial, fun od => ⟨od, upd M D (.frz od (.dT (kvT kvs))), ?_, fun z v M' H' ez g r => ?_⟩⟩
    · have up : Same M (upd M D (.frz od (.dT (kvT kvs)))) := fun b u e => by rw [upd_ne (ne_of_none e mD)]; exact e
      refine ⟨k.mm.trans up, fun b u e => ?_, fun b u w e => ?_, fun b u e => ?_, fun b u e t n => ?_, fun j y hj => ?_, fun j y b hj o' h' => ?_, fun j l y y' nn hj hl o1 o2 => ?_, fun j y hj => ?_, fun b w => ?_, ?_, by rw [List.length_set]; exact k.len⟩
      · by_cases z : b = D
        · subst z
          rw [upd_same] at e ⊢
          exact e
        · rw [upd_ne z] at e ⊢
          exact k.mh b u e
      · rw [upd_ne (fun z => by rw [z, fD] at e; cases e)]
        exact k.fh b u w e
      · rw [upd_ne (fun z => by rw [z, fD] at e; cases e)]
        exact k.ft b u e
      · rw [upd_ne (fun z => by rw [z, fD] at e; cases e)]
        exact k.fm b u e t n
      · rcases set_cases hj with ⟨rfl, e1, hv⟩ | ⟨nj, hj⟩
        · cases e1
          exact ⟨_, h1, D, rfl, upd_same⟩
        · obtain ⟨v, h2, r2⟩ := k.at_ j y hj
          obtain ⟨s1, w1⟩ := k.stay j y hj
          refine ⟨v, h2, repE_up r2 s1 up (fun b u ho ev h3 t nb => ?_) w1⟩
          subst ev
          have hne : b ≠ D := fun z => by
            subst z
            exact k.sep i j _ y nj h hj rfl ho (h1.trans h2.symm)
          rw [upd_ne hne, upd_ne hne]
          exact ⟨h3, nb⟩
      · rcases set_cases hj with ⟨rfl, e1, hv⟩ | ⟨nj, hj⟩
        · cases e1
          cases o'
        · exact k.fresh j y b hj o' h'
      · rcases set_cases hj with ⟨rfl, e1, hv⟩ | ⟨nj, hj⟩
        · cases e1
          cases o1
        · rcases set_cases hl with ⟨rfl, e2, _⟩ | ⟨nl, hl⟩
          · cases e2
            cases o2
          · exact k.sep j l y y' nn hj hl o1 o2
      · rcases set_cases hj with ⟨rfl, e1, hv⟩ | ⟨nj, hj⟩
        · cases e1
          exact ⟨trivial, trivial⟩
        · exact k.stay j y hj
      · have hne : b ≠ D := fun z => wD (by rw [← z]; exact w)
        rw [upd_ne hne, upd_ne hne]
        exact k.wm b w
      · exact B.loc H _ (fun b u w e => by rw [upd_ne (fun z => wD (by rw [← z]; exact w))]; exact e) k.vol
    · subst ez
      have hM' : M' D = some (.frz od (.dT (kvT kvs))) := g.mm _ _ upd_same
      have hH' := g.mh _ _ hM'
      refine ⟨hH', ?_⟩
      have gg : Gr B M H (fun b => if b = D then none else M' b) (upd H' D (.dT (kvT kvs))) := by
        refine ⟨fun b u e => ?_, fun b u w e => ?_, fun b u e t n => ?_, fun b u e => ?_, ?_, fun b u e => ?_⟩
        · have hne := ne_of_none e mD
          rw [if_neg hne]
          exact g.mm b u (by rw [upd_ne hne]; exact e)
        · by_cases z : b = D
          · subst z
            rw [upd_same, ← hD]
            exact e
          · rw [upd_ne z]
            exact g.hh b u w (by rw [upd_ne z]; exact e)
        · by_cases z : b = D
          · rw [if_pos z]
          · rw [if_neg z]
            exact g.fr b u (by rw [upd_ne z]; exact e) t (by rw [upd_ne z]; exact n)
        · by_cases z : b = D
          · rw [if_pos z] at e
            cases e
          · rw [if_neg z] at e
            rw [upd_ne z]
            exact g.mh b u e
        · exact B.loc H' _ (fun b u w e => by rw [upd_ne (fun z => wD (by rw [← z]; exact w))]; exact e) g.vol
        · by_cases z : b = D
          · subst z
            exact ⟨_, upd_same, fun _ => rfl⟩
          · rw [upd_ne z]
            exact g.th b u (by rw [upd_ne z]; exact e)
      rw [rI_bl r]
      exact q _ _ _ _ rfl gg (.bl _)
/-- for k in d -/
theorem iok_keys {K : PySem.W.Frag} {M1 : Hp} {o : Obj} {D : Addr} {kvs : List (List Int × PyData)} (h : M1 D = some (.frz o (.dT (kvT kvs)))) : IOk K (Itkt D o (kvT kvs)) M1 (kvs.map fun p => tI p.1) := by
  have W := walk_keysT (d := D) (o := o) (kvs := kvT kvs)
  have hl : (kvT kvs).length = (kvs.map fun p => tI p.1).length := by unfold kvT; rw [List.length_map, List.length_map]
  refine ⟨fun M H i s1 s2 hi => W.goes i H (by omega) (s2 _ _ (s1 _ _ h)), fun M H s1 s2 => ?_, fun M H i x H' d s1 s2 e y => ?_⟩
  · rw [← hl]
    exact W.stops H (s2 _ _ (s1 _ _ h))
  · obtain ⟨hi, _⟩ := List.getElem?_eq_some_iff.mp e
    obtain ⟨rfl, k, v, q, h1, rfl, h3⟩ := W.yields i H x H' (by omega) (s2 _ _ (s1 _ _ h)) y
    unfold kvT at h1
    rw [List.getElem?_map] at h1 e
    obtain ⟨p, hp, h1⟩ := Option.map_eq_some_iff.mp h1
    rw [hp] at e
    cases e
    cases h1
    refine ⟨upd M q _, .abs q _ h3, .tup upd_same ?_⟩
    have aux : ∀ (N : Hp) (k : List Int), DqAll K N ((k.map Sum.inl).map kV) (k.map .int) := fun N k => by
      induction k with
      | nil => exact .nil
      | cons a k ih => exact .cons (.int a) ih
    exact aux _ _
theorem ei_keys {i : Nat} {x : Str} {o : Obj} {kvs : List (List Int × PyData)} {tg : Expr} (h : ρ[i]? = some (some (.im (.lk o kvs)))) (hN : X.N[i]? = some x := by rfl) (hv : Vis X.env.scope x := by first | exact Or.inl rfl | exact Or.inr (Or.inl rfl) | exact Or.inr (Or.inr rfl))
    (hd : (x == ("__debug__" : Str)) = false := by decide) (hcd : (x == ("__classdict__" : Str)) = false := by decide) : EI X B ρ tg (.Name x pn) (kvs.map fun p => tI p.1) :=
  pi_imp (pi_keys (pe_var hN hv hd hcd)) fun σ H Q ⟨M, k, q⟩ => by
    obtain ⟨v, h1, D, rfl, e⟩ := k.at_ i _ h
    exact ⟨.ref D, h1, D, o, rfl, .inr ⟨_, k.mh _ _ e, q _ M H k.refl (iok_keys e)⟩⟩
/-- list(d) -/
theorem absorbs {K : PySem.W.Frag} {σ : L2.St} : ∀ {kvs : List (List Int × PyData)} {bs : List Addr} {M H : Hp}, Ok K B M H σ ρ → IsKeys H (kvT kvs) bs → ∃ M', Gr B M H M' H ∧ DqAll K M' (bs.map V.ref) (kvs.map fun p => tI p.1) ∧ ∀ b, H b = none → M' b = none
  | [], _, M, H, k, h => by
    cases h
    exact ⟨M, k.refl, .nil, fun b n => k.clr n⟩
  | p :: kvs, _, M, H, k, h => by
    cases h with
    | @cons _ b _ bs h1 h2 =>
      have g1 := k.absorb h1
      obtain ⟨M', g2, r, n⟩ := absorbs (k.gr g1) (kvs := kvs) h2
      refine ⟨M', g1.trans g2, .cons (.tup (g2.mm _ _ upd_same) ?_) r, n⟩
      have aux : ∀ (N : Hp) (k : List Int), DqAll K N ((k.map Sum.inl).map kV) (k.map .int) := fun N k => by
        induction k with
        | nil => exact .nil
        | cons a k ih => exact .cons (.int a) ih
      exact aux _ _
theorem ee_listDT {kvs : List (List Int × PyData)} (hc : X.calm = true) (he : EE X B ρ e (.dt kvs)) (hm : X.mg "list" = none) (hg : Gl X "list" := by rfl) (hs : starEach [e] X.env = (false, eval e X.env) :: starEach [] X.env := by rfl) : EE X B ρ (.Call (.Name "list" p) [e] [] pos) (Li (kvs.map fun p => tI p.1)) :=
  en_ct (call_list_dT hc) (ea_cons he ea_nil hs) hm PyProof.Rows.boot_list hg (fun vs σ M H Q k r q => by
    cases r with
    | cons r1 r2 =>
      cases r2
      obtain ⟨D, rfl, h1, sc⟩ := r1
      refine ⟨D, kvT kvs, rfl, .inl (k.mh _ _ h1), fun p bs np ik => ?_⟩
      obtain ⟨M', g1, rr, n⟩ := absorbs k ik
      have g2 := (k.gr g1).new (o := .lst (bs.map V.ref)) np
      exact q _ _ _ _ rfl (g1.trans g2) (.lst upd_same (dps_up g2.mm _ _ rr))) (by decide) (by decide) hs

/-! ### lists -/
theorem ee_catL {ds fs : List PyData} (ha : EE X B ρ a (Li ds)) (hb : EE X B ρ b (Li fs)) (hl : ds.length + fs.length ≤ sizeLine) : EE X B ρ (.BinOp a .Add b pos) (Li (ds ++ fs)) :=
  ee_op op_cat ha hb fun v u σ M H Q k r1 r2 q => by
    obtain ⟨a1, vs, rfl, h1, h2⟩ := rI_lstH r1
    obtain ⟨a2, ws, rfl, h3, h4⟩ := rI_lstH r2
    refine ⟨a1, a2, vs, ws, rfl, rfl, k.mh _ _ h1, k.mh _ _ h3, by rw [dps_len h2, dps_len h4]; exact hl, fun p np => ?_⟩
    have g := k.new (o := .lst (vs ++ ws)) np
    exact q _ _ _ g (.lst upd_same (dps_up g.mm _ _ (dps_app h2 h4)))
/-- [x] * n -/
theorem ee_rep1 {d : PyData} {n : Nat} (ha : EE X B ρ a (Li [d])) (hb : EE X B ρ b (I (n : Nat))) (hn : n ≤ 1000) : EE X B ρ (.BinOp a .Mult b pos) (Li (List.replicate n d)) :=
  ee_op op_rep ha hb fun v u σ M H Q k r1 r2 q => by
    obtain ⟨a1, vs, rfl, h1, h2⟩ := rI_lstH r1
    cases h2 with
    | @cons w _ _ _ h2 h3 =>
      cases h3
      refine ⟨a1, (n : Nat), _, rfl, rI_int r2, k.mh _ _ h1, by omega, by omega, by rw [sizeLine_eq]; simp; omega, fun p np => ?_⟩
      have g := k.new (o := .lst (List.replicate ((n : Nat) : Int).toNat [w]).flatten) np
      refine q _ _ _ g (.lst upd_same ?_)
      rw [Int.toNat_natCast]
      have aux : ∀ n, DqAll X.K M (List.replicate n [w]).flatten (List.replicate n d) := fun n => by
        induction n with
        | zero => exact .nil
        | succ n ih => exact .cons h2 ih
      exact dps_up g.mm _ _ (aux n)
/-! ### tuple slices -/
theorem dps_drop {K : PySem.W.Frag} {M : Hp} : ∀ {vs : List V} {ds : List PyData} (n : Nat), DqAll K M vs ds → DqAll K M (vs.drop n) (ds.drop n)
  | _, _, 0, h => h
  | _, _, n + 1, .nil => .nil
  | _, _, n + 1, .cons _ h => dps_drop n h
theorem dps_take {K : PySem.W.Frag} {M : Hp} : ∀ {vs : List V} {ds : List PyData} (n : Nat), DqAll K M vs ds → DqAll K M (vs.take n) (ds.take n)
  | _, _, 0, h => .nil
  | _, _, n + 1, .nil => .nil
  | _, _, n + 1, .cons a h => .cons a (dps_take n h)
theorem cut_take {vs : List V} {n : Nat} (h : n ≤ vs.length) : cutV vs none (some (n : Nat)) = vs.take n := by
  unfold cutV
  rw [HT.sIx_none, HT.sIx_nat, List.drop_zero]
  congr 1
  omega
theorem cut_drop {vs : List V} {n : Nat} (h : n ≤ vs.length) : cutV vs (some (n : Nat)) none = vs.drop n := by
  unfold cutV
  have e : min n vs.length = n := by omega
  rw [HT.sIx_none, HT.sIx_nat, e]
  exact List.take_of_length_le (by rw [List.length_drop]; exact Nat.le_refl _)
theorem ee_takeT {p2 : Pos} {ds : List PyData} {n : Nat} (ha : EE X B ρ a (Tu ds)) (hb : EE X B ρ b (I (n : Nat))) (hn : n ≤ ds.length) : EE X B ρ (.Subscript a (.Slice none (some b) none p2) pos) (Tu (ds.take n)) :=
  pe_imp (pe_slice sl_tupA ha po_none (po_some hb)) fun σ H Q ⟨M, k, q⟩ => ⟨M, k, fun z v M1 H1 ez g1 r1 => ⟨M1, k.gr g1, fun z2 v2 M2 H2 ez2 g2 r2 => by
    subst ez ez2
    refine ⟨(n : Nat), rI_int r2, ?_⟩
    have k2 := (k.gr g1).gr g2
    have r1' := repI_up g2.mm r1
    obtain ⟨t, vs, rfl, h1, h2⟩ := rI_tupH r1'
    have hlen := dps_len h2
    refine ⟨t, vs, rfl, .of (k2.mh _ _ h1), fun hw => ?_, fun hw pp np => ?_⟩
    · rw [HT.sIx_nat, HT.sIx_none] at hw
      have e : ds.take n = ds := List.take_of_length_le (by omega)
      exact q (Tu ds) _ M2 H2 (by rw [e]) (g1.trans g2) r1'
    · rw [cut_take (by omega)]
      have g3 := k2.new (o := .tup (vs.take n)) np
      refine q _ _ _ _ rfl ((g1.trans g2).trans g3) (.tup upd_same ?_)
      exact dps_up g3.mm _ _ (dps_take n h2)⟩⟩
theorem ee_dropT {p2 : Pos} {ds : List PyData} {n : Nat} (ha : EE X B ρ a (Tu ds)) (hb : EE X B ρ b (I (n : Nat))) (hn : n ≤ ds.length) : EE X B ρ (.Subscript a (.Slice (some b) none none p2) pos) (Tu (ds.drop n)) :=
  pe_imp (pe_slice sl_tupA ha (po_some hb) po_none) fun σ H Q ⟨M, k, q⟩ => ⟨M, k, fun z v M1 H1 ez g1 r1 => ⟨M1, k.gr g1, fun z2 v2 M2 H2 ez2 g2 r2 => by
    subst ez ez2
    refine ⟨(n : Nat), rI_int r2, ?_⟩
    have k2 := (k.gr g1).gr g2
    have r1' := repI_up g2.mm r1
    obtain ⟨t, vs, rfl, h1, h2⟩ := rI_tupH r1'
    have hlen := dps_len h2
    refine ⟨t, vs, rfl, .of (k2.mh _ _ h1), fun hw => ?_, fun hw pp np => ?_⟩
    · rw [HT.sIx_nat, HT.sIx_none] at hw
      have e : ds.drop n = ds := by
        have : n = 0 := by omega
        rw [this, List.drop_zero]
      exact q (Tu ds) _ M2 H2 (by rw [e]) (g1.trans g2) r1'
    · rw [cut_drop (by omega)]
      have g3 := k2.new (o := .tup (vs.drop n)) np
      refine q _ _ _ _ rfl ((g1.trans g2).trans g3) (.tup upd_same ?_)
      exact dps_up g3.mm _ _ (dps_drop n h2)⟩⟩
end
end K5
/-! LayN: sets of tuples of ints; sorting. -/
namespace K5
open PySem PySem.Spec PyProof.Rows L2

/-! ### the order -/
section
variable {κ : Type} [DecidableEq κ]
def ddp : List κ → List κ
  | [] => []
  | a :: l => if a ∈ l then ddp l else a :: ddp l
theorem mem_ddp {a : κ} : ∀ {l : List κ}, a ∈ ddp l ↔ a ∈ l
  | [] => Iff.rfl
  | b :: l => by
    unfold ddp
    by_cases h : b ∈ l
    · rw [if_pos h, mem_ddp, List.mem_cons]
      exact ⟨.inr, fun z => z.elim (fun e => e ▸ h) id⟩
    · rw [if_neg h, List.mem_cons, List.mem_cons, mem_ddp]
theorem nodup_ddp : ∀ {l : List κ}, (ddp l).Nodup
  | [] => List.nodup_nil
  | b :: l => by
    unfold ddp
    by_cases h : b ∈ l
    · rw [if_pos h]; exact nodup_ddp
    · rw [if_neg h, List.nodup_cons]
      exact ⟨fun z => h (mem_ddp.mp z), nodup_ddp⟩
end
abbrev leT (a b : List Int) : Bool := decide (a ≤ b)
def srtT (ks : List (List Int)) : List (List Int) := (ddp ks).mergeSort leT
def srtL (ks : List (List Int)) : List (List Int) := ks.mergeSort leT
abbrev leI (a b : Int) : Bool := decide (a ≤ b)
def srtI (ks : List Int) : List Int := ks.mergeSort leI
theorem leT_trans (a b c : List Int) (h1 : leT a b = true) (h2 : leT b c = true) : leT a c = true := by
  simp only [leT, decide_eq_true_eq] at *
  exact List.le_trans h1 h2
theorem leT_total (a b : List Int) : (leT a b || leT b a) = true := by
  simp only [leT, Bool.or_eq_true, decide_eq_true_eq]
  exact List.le_total a b
theorem srtT_of {l ks : List (List Int)} (n : l.Nodup) (m : ∀ k, k ∈ l ↔ k ∈ ks) : l.mergeSort leT = srtT ks := by
  unfold srtT
  refine List.Perm.eq_of_pairwise (le := fun a b => leT a b = true) (fun a b _ _ h1 h2 => ?_) (List.pairwise_mergeSort leT_trans leT_total _) (List.pairwise_mergeSort leT_trans leT_total _) ?_
  · simp only [leT, decide_eq_true_eq] at h1 h2
    exact List.le_antisymm h1 h2
  · exact (List.mergeSort_perm _ _).trans (((List.perm_ext_iff_of_nodup n nodup_ddp).mpr fun k => (m k).trans mem_ddp.symm).trans (List.mergeSort_perm _ _).symm)
theorem srtT_uniq {l ks : List (List Int)} (p : l.Pairwise fun a b => leT a b = true) (n : l.Nodup) (m : ∀ k, k ∈ l ↔ k ∈ ks) : l = srtT ks := by
  unfold srtT
  refine List.Perm.eq_of_pairwise (le := fun a b => leT a b = true) (fun a b _ _ h1 h2 => ?_) p (List.pairwise_mergeSort leT_trans leT_total _) ?_
  · simp only [leT, decide_eq_true_eq] at h1 h2
    exact List.le_antisymm h1 h2
  · exact ((List.perm_ext_iff_of_nodup n nodup_ddp).mpr fun k => (m k).trans mem_ddp.symm).trans (List.mergeSort_perm _ _).symm
theorem mem_srtT {k : List Int} {ks : List (List Int)} : k ∈ srtT ks ↔ k ∈ ks := ((List.mergeSort_perm _ _).mem_iff).trans mem_ddp
theorem mem_srtL {k : List Int} {ks : List (List Int)} : k ∈ srtL ks ↔ k ∈ ks := (List.mergeSort_perm _ _).mem_iff
theorem mem_srtI {k : Int} {ks : List Int} : k ∈ srtI ks ↔ k ∈ ks := (List.mergeSort_perm _ _).mem_iff
theorem dataLe_tI {β : Type} (x : β → List Int) : PySem.W.dataLe false (fun b => tI (x b)) = fun p q => leT (x p) (x q) := by
  funext p q
  show (!PySem.W.dataLt (tI (x q)) (tI (x p))) = _
  unfold tI
  rw [PySem.W.dataLt_tuple]
  show (!PySem.W.rowLt ((x q).map .int) ((x p).map .int)) = _
  rw [PySem.W.dataLt_ints]
  by_cases h : x q < x p
  · have h2 : ¬ x p ≤ x q := fun r => List.not_lt.mpr r h
    simp [leT, h, h2]
  · have h2 : x p ≤ x q := List.not_lt.mp h
    simp [leT, h, h2]
theorem alike_tI (a b : List Int) : PySem.W.alike (tI a) (tI b) = true := by
  unfold tI
  rw [PySem.W.alike]
  exact PySem.W.alike_ints a b
theorem depth_tI (a : List Int) : (tI a).depth = 1 := by
  unfold tI
  rw [PyData.depth, PySem.W.depth_ints]

/-! ### values and what they stand for -/
open PySem.W (EachIs)
theorem each_of {β : Type} {K : PySem.W.Frag} {M : Hp} {enc : β → PyData} : ∀ {vs : List V} {bs : List β}, DqAll K M vs (bs.map enc) → EachIs (fun v b => Dq K M v (enc b)) vs bs
  | _, [], h => by cases h; exact .nil
  | _, b :: bs, h => by
    cases h with
    | cons a r => exact .cons a (each_of r)
theorem each_to {β : Type} {K : PySem.W.Frag} {M : Hp} {enc : β → PyData} : ∀ {vs : List V} {bs : List β}, EachIs (fun v b => Dq K M v (enc b)) vs bs → DqAll K M vs (bs.map enc)
  | _, _, .nil => .nil
  | _, _, .cons a r => .cons a (each_to r)
theorem each_vals {β : Type} {P : V → β → Prop} : ∀ {vs : List V} {bs : List β} {us : List Value}, EachIs P vs bs → Vals vs us → EachIs (fun u b => ∃ x, P x b ∧ RelV x u) us bs
  | _, _, _, .nil, .nil => .nil
  | _, _, _, .cons a r, .cons q t => .cons ⟨_, a, q⟩ (each_vals r t)
theorem each_back {β : Type} {P : V → β → Prop} : ∀ {us : List Value} {bs : List β}, EachIs (fun u b => ∃ x, P x b ∧ RelV x u) us bs → ∃ vs, EachIs P vs bs ∧ Vals vs us
  | _, _, .nil => ⟨[], .nil, .nil⟩
  | _, _, .cons ⟨x, a, q⟩ r => by
    obtain ⟨vs, h1, h2⟩ := each_back r
    exact ⟨x :: vs, .cons a h1, .cons q h2⟩
section
variable {X : Cx}
/-- sorted(xs), xs a list of data that compare -/
def rSortD (K : PySem.W.Frag) (A : Around) : List V → Hp → VK → Prop := fun vs H Q => ∃ (a : Addr) (xs : List V) (β : Type) (bs : List β) (enc : β → PyData) (M : Hp), vs = [.ref a] ∧ SqL K H a xs ∧ Same M H ∧ DqAll K M xs (bs.map enc) ∧ PySem.W.AllAlike (bs.map enc) ∧ PySem.W.Sortable (bs.map enc) ∧
  (∀ b, b ∈ bs → A.units + 2 + (enc b).depth < cLine) ∧ ∀ ys p, DqAll K M ys ((bs.mergeSort (PySem.W.dataLe false enc)).map enc) → H p = none → Q (.ref p) (upd H p (.lst ys))
theorem cr_sortD : CallR X (.builtin "sorted") (rSortD X.K X.A) := by
  intro pins s σ H vs us Q J r h
  obtain ⟨a, xs, β, bs, enc, M, rfl, hl, mh, hd, hal, hs, hu, q⟩ := h
  rw [Vals.ref1 r]
  obtain ⟨its, rv, pl, hz⟩ := J.list hl
  have e1 := each_vals (each_of hd) rv
  have er : EachIs (fun v b => ∃ as, Reads s.heap v (enc b) as) its bs := e1.mono fun u b ⟨x, dx, rx⟩ => Dp.reads J _ x u (dq_dp _ _ (dp_up mh _ _ dx)) rx
  refine PySem.W.sorted_data (vs := its) pl.isList e1 er hal hs (by rw [← e1.length, ← rv.length]; exact hz) hu fun out ho eo => ?_
  obtain ⟨ys, y1, y2⟩ := each_back eo
  obtain ⟨c, hc⟩ := sortedAll_at s.heap its (List.toArray out)
  have hlen : ys.length ≤ sizeLine := by rw [y2.length, ho, ← e1.length, ← rv.length]; exact hz
  exact ⟨.ref (s.heap.objs.size + 1), upd H (s.heap.objs.size + 1) (.lst ys), J.laid (t' := s.toks) (fun b o e => sortedAll_old e) (Nat.le_succ _) (show ObjOk X.prog X.w _ _ _ (.lst ys) from ⟨hlen, out, c, y2, hc⟩), rfl, q ys _ (each_to y1) (J.hok.fresh (Nat.le_succ _))⟩
/-- sorted(d), d a dict with keys ints -/
theorem intsOf {ks : List Int} : ∀ {us : List Value}, IntsAre us ks → Vals (ks.map V.int) us := by
  induction ks with
  | nil => intro us h; cases h; exact .nil
  | cons k ks ih =>
    intro us h
    cases h with
    | cons t r q => exact .cons ⟨_, rfl⟩ (ih q)
def rSortK : List V → Hp → VK → Prop := fun vs H Q => ∃ (a : Addr) (kvs : List (Key × V)) (ks : List Int), vs = [.ref a] ∧ Rd H a (.dK kvs) ∧ kvs.map (·.1) = ks.map Sum.inl ∧ ∀ p, H p = none → Q (.ref p) (upd H p (.lst ((srtI ks).map V.int)))
theorem cr_sortK (hcalm : X.calm = true) (hu : X.A.units + 64 < cLine) : CallR X (.builtin "sorted") rSortK := by
  intro pins s σ H vs us Q J r h
  obtain ⟨a, kvs, ks, rfl, hd, hks, q⟩ := h
  rw [Vals.ref1 r]
  obtain ⟨zz, lo, ents, same_, dd⟩ := dk_rd J.hok hd
  obtain ⟨ep, hat⟩ := dd.dictAt
  have hkeys : ents.map (·.1) = ks.map Sum.inl := same_.keys.symm.trans hks
  have hl : ents.length = ks.length := by simpa using congrArg List.length hkeys
  have hz : ents.length ≤ sizeLine := by
    have e := congrArg List.length hks
    rw [List.length_map, List.length_map] at e
    omega
  refine Calls.call_function_entry PyProof.Rows.kind_sorted PyProof.Rows.plain_sorted PyProof.Rows.entry_sorted (PyProof.Rows.args_sorted1 _) ?_
  unfold Builtin.«sorted»
  refine wpAny_bind (m := checkCount "sorted" 1 1 _) (wpAny_pure ?_)
  refine wpAny_bind (PySem.W.kdu_collect (A := X.A.in1) (PySem.W.kdl_dict (knd := mixKind X.prog X.w) (kvs := ents) (ep := ep) lo) (J.ok.hd hcalm) hat hz fun h1 tk acc kept got => ?_)
  have hal : acc.toList.length = ks.length := by rw [Array.length_toList, got.1, hl]
  have hI : IntsAre acc.toList ks := ints_each hal fun j v e => by
    obtain ⟨k, x, e1, e2⟩ := got.2 j v (by rw [← Array.getElem?_toList]; exact e)
    have e3 : (ks.map Sum.inl)[j]? = some k := by rw [← hkeys, List.getElem?_map, e1]; rfl
    rw [List.getElem?_map] at e3
    obtain ⟨y, e4, e5⟩ := Option.map_eq_some_iff.mp e3
    subst e5
    rcases keyIs_shape (show keyIs (Sum.inl y) v = true from e2) with ⟨i, t, ek, ev⟩ | ⟨z, t, ek, ev⟩
    · cases ek
      exact ⟨y, t, e4, ev⟩
    · cases ek
  have J1 : Inv X pins σ H { s with heap := h1, toks := tk } := J.kept kept
  refine wpAny_bind (wpAny_newList ?_ (by rw [hal, ← hl]; exact hz))
  have hoL : (h1.push (seqObj "list" acc.toList.toArray 0)).get? h1.objs.size = some (seqObj "list" acc.toList.toArray 0) := Heap.get?_push_size _ rfl
  show wpAny _ _ _ _ _ { s with heap := h1.push (seqObj "list" acc.toList.toArray 0), toks := tk }
  have ei : EachIs (fun u (b : Int) => ∃ x, x = V.int b ∧ RelV x u) acc.toList ks := each_vals (P := fun x b => x = V.int b) (by
    have aux : ∀ ks : List Int, EachIs (fun x (b : Int) => x = V.int b) (ks.map V.int) ks := fun ks => by
      induction ks with
      | nil => exact .nil
      | cons k ks ih => exact .cons rfl ih
    exact aux ks) (intsOf hI)
  have er : EachIs (fun u (b : Int) => ∃ as, Reads (h1.push (seqObj "list" acc.toList.toArray 0)) u (PyData.int b) as ∧ h1.objs.size ∉ as) acc.toList ks := ei.mono fun u b ⟨x, ex, rx⟩ => by
    subst ex
    obtain ⟨t, rfl⟩ := rx
    exact ⟨_, Reads.int b t, by simp⟩
  have hdep : ∀ b, b ∈ ks → X.A.in1.units + 1 + (PyData.int b).depth < cLine := fun b _ => by
    have e : (PyData.int b).depth = 0 := by simp [PyData.depth]
    have e2 : X.A.in1.units ≤ X.A.units + 1 := by
      show X.A.units + _ ≤ _
      omega
    omega
  refine wpAny_bind (wpAny_holding (PySem.W.list_sort_data (s := { s with heap := h1.push (seqObj "list" acc.toList.toArray 0), toks := tk }) (enc := PyData.int) hoL ei er (PySem.W.AllAlike.of fun b b2 => by simp [PySem.W.alike]) (PySem.W.Sortable.others fun b => ⟨(fun z => by cases z), (fun xs z => by cases z)⟩) (by rw [← hl]; exact hz) hdep fun out ho eo => ?_))
  obtain ⟨ys, y1, y2⟩ := each_back eo
  obtain ⟨c, hc⟩ := sortedHeap_at (vs := acc.toList) (out := List.toArray out) hoL
  have ey : ys = (srtI ks).map V.int := by
    have aux : ∀ {ys : List V} {bs : List Int}, EachIs (fun x (b : Int) => x = V.int b) ys bs → ys = bs.map V.int := fun h => by
      induction h with
      | nil => rfl
      | cons a r ih => rw [a, ih]; rfl
    rw [aux y1, PySem.W.dataLe_int (fun b : Int => b)]
    rfl
  have hlen : ys.length ≤ sizeLine := by rw [y2.length, ho, ← hl]; exact hz
  rw [← ey] at q
  refine wpAny_pure ⟨_, rfl, .ref h1.objs.size, upd H h1.objs.size (.lst ys), J1.laid (t' := tk) (fun b u e => ?_) (Nat.le_refl _) (show ObjOk X.prog X.w _ _ _ (.lst ys) from ⟨hlen, out, c, y2, hc⟩), rfl, q _ (J1.hok.fresh (Nat.le_refl _))⟩
  have hb : b < h1.objs.size := Heap.lt_size e
  rw [PyProof.Rows.sortedHeap_old (Nat.ne_of_lt hb) (by rw [size_push']; exact Nat.lt_succ_of_lt hb)]
  exact Heap.get?_push_of_some _ e
end
end K5
/-! LayO: sets of tuples of ints, by a comprehension, by set(..); sorted(..). -/
namespace K5
open PySem PySem.Spec PyProof.Rows L2 PpSet

section
variable {X : Cx} {pins : List (Addr × Obj)} {σ : L2.St} {H : Hp} {s : Shared}
abbrev SetI (X : Cx) (D : Addr) (L : List (Addr × List Int)) : HO := SetTO X.prog X.w D L
theorem addT_ok {E0 : Value → Shared → Prop} {D b : Addr} {L : List (Addr × List Int)} {k : List Int} {Q : Value → Shared → Prop} (hu : X.A.units + 1 < cLine) (J : Inv X pins σ H s) (hD : H D = some (SetI X D L)) (hL : ∀ p ∈ L, SqT X.K H p.1 (p.2.map V.int)) (hb : SqT X.K H b (k.map V.int)) (few : L.length + 1 < 64)
    (h : ∀ L' s', Inv X pins σ (upd H D (SetI X D L')) s' → (k ∈ L.map (·.2) → L' = L) → (k ∉ L.map (·.2) → L'.Perm ((b, k) :: L)) → Q .none s') : wpAny (model X.prog X.w) X.A (call (.builtin "set.add") [.ref D, .ref b]) Q E0 s := by
  have S0 : SetT0 X.prog X.w s.heap D L := (J.hok D _ hD).1
  obtain ⟨es, ep, t, S1⟩ := S0.full fun p hp => J.isT (hL p hp)
  have kb := J.isT hb
  obtain ⟨o, ho, hex, hd⟩ := S1.ob
  refine wpAny_call_entry F.slot_set_add ⟨o, ho, hex.1⟩ F.entry_set_add ?_ (F.args_set_add_2 _ _)
  have hu1 : X.A.in1.units < cLine := by
    have e2 : X.A.in1.units ≤ X.A.units + 1 := by
      show X.A.units + _ ≤ _
      omega
    omega
  unfold Builtin.«set.add» Builtin.Frozenset.oneOther
  simp only [List.isEmpty_nil, bind_assoc]
  unfold Builtin.Frozenset.addrOf setAdd
  refine wpAny_bind (wpAny_pure ?_)
  try dsimp only
  refine wpAny_bind (wpAny_pure ?_)
  try dsimp only
  refine wpAny_bind (wpAny_holding (wpAny_bind (wpAny_pyHash_tuple hu1 kb ?_)))
  refine add_at (s := { s with toks := s.toks + (k.length + 1) }) S1 kb hu1 few fun bb h' L' es' ep' t' but S2 c1 c2 => ?_
  show wpAny _ _ (ret Value.none) _ _ _
  obtain ⟨o2, ho2, _⟩ := S2.ob
  exact wpAny_pure ⟨_, rfl, h L' _ (J.write (e := D) (t' := s.toks + (k.length + 1)) (by rw [hD]; trivial) (.inl rfl) (fun b u hb hu => (but.2 b hb).trans hu) ⟨o2, ho2⟩ (setTO_new S2.t0)) c1 c2⟩

/-! ### {t for .. in ..} -/
def tScT (X : Cx) (wi : TI) (g : TG) (tt : TT) (te : TE) (vs : List Nat) : TE := fun σ H Q => wi σ H fun J H1 => ∀ D, H1 D = none → ∃ W : Nat → Nat → Hp → Prop, (∃ m, W 0 m (upd H1 D (SetI X D []))) ∧ ∀ i m H, W i m H →
  (J.stop i H ∧ Q (.ref D) H) ∨ (J.go i H ∧ ∃ Nx : Hp → Prop, (∀ H', Nx H' → ∃ m', m' < m ∧ W (i + 1) m' H') ∧ ∀ x H', J.yld i H x H' → g x (L2.wipe σ vs) H' fun σ2 H2 => L2.wipe σ2 vs = L2.wipe σ vs ∧ tt σ2 H2 fun b H3 =>
    if b = true then te σ2 H3 fun y H4 => ∃ b k L, y = .ref b ∧ SqT X.K H4 b (k.map V.int) ∧ H4 D = some (SetI X D L) ∧ (∀ p ∈ L, SqT X.K H4 p.1 (p.2.map V.int)) ∧ L.length + 1 < 64 ∧
      ∀ L', (k ∈ L.map (·.2) → L' = L) → (k ∉ L.map (·.2) → L'.Perm ((b, k) :: L)) → Nx (upd H4 D (SetI X D L')) else Nx H3)
theorem pe_scT {elt tg iter : Expr} {ifs : List Expr} {scope : Scope} {own : List (Str × Nat)} {pos : Pos} {wi : TI} {g : TG} {tt : TT} {te : TE} (hu : X.A.units + 1 < cLine) (calm : X.calm = true) (nod : X.N.Nodup) (hi : PI X tg iter wi) (blk : BlkOk X.N X.env.scope scope own)
    (hg : ∀ s H C cl fp, PG (X.blk s H scope (compEnvC scope cl C X.env) fp) tg g) (ht : ∀ s H C cl fp, PTs (X.blk s H scope (compEnvC scope cl C X.env) fp) ifs tt)
    (he : ∀ s H C cl fp, PE (X.blk s H scope (compEnvC scope cl C X.env) fp) elt te) (hs : ∀ x, foldedSetIterable iter X.env x = pure x) :
    PE X (.SetComp elt [⟨tg, iter, ifs, 0⟩] scope pos) (tScT X wi g tt te (own.map (·.2))) := by
  refine ⟨fun pins s σ H Q J0 given => ?_⟩
  rw [eval_SetComp]
  have seen : ∀ y ∈ scope.names, y.2 = .free → ∃ c, X.env.cells.lookup y.1 = some c := fun y hy e => (blk.free y hy e).elim (fun k => J0.ok.has _ (.inl k)) fun k => J0.ok.has _ (.inr k)
  refine wpAny_comprehension_free rfl hs (closure_ok seen) blk.kind (fun y hy e => by rw [blk.uniq y hy, e]) (thn (hi.run pins s σ H _ J0 given) fun xv s1 hx => thn hx fun itv s2 got => ?_)
  obtain ⟨it, fp, tn, Jt, Ha, eIt, Ja, T, stA, fA, qA⟩ := got
  subst eIt
  refine newSet_ok (newEnv_comp ?_)
  generalize eD : s2.heap.objs.size = D
  have nD : Ha D = none := Ja.hok.fresh (Nat.le_of_eq eD)
  obtain ⟨W, ⟨m0, w0⟩, turn⟩ := qA D nD
  generalize eO : ({ cls := .type "set", dict := none, data := .set #[] 0 (.fresh 0 0 (!X.w.params.followText "set-order")) } : Obj) = newO
  generalize eB : ({ s2 with heap := s2.heap.push newO } : Shared) = sB
  have heapB : sB.heap = s2.heap.push newO := by rw [← eB]
  have Jb : Inv X pins σ (upd Ha D (SetI X D [])) sB := by
    rw [← eB]
    exact Ja.laid (t' := s2.toks) (fun b o e => Heap.get?_push_of_some _ e) (Nat.le_of_eq eD) (by
      rw [← eD]
      refine setTO_new (setTR_fresh ?_).t0
      rw [← eO]
      exact Heap.get?_push_size _ rfl)
  have below : ∀ b ∈ fp, b < s2.heap.objs.size := fun b hb => (T.obj _ _ stA b hb).elim fun o e => Heap.lt_size e.1
  have fB : ∀ b ∈ fp, FpOk X pins (upd Ha D (SetI X D [])) b ∧ b < sB.heap.objs.size := fun b hb =>
    ⟨⟨by rw [upd_ne (by rw [← eD]; exact Nat.ne_of_lt (below b hb))]; exact (fA b hb).1, (fA b hb).2⟩, by rw [heapB, Heap.size_push]; exact Nat.lt_succ_of_lt (below b hb)⟩
  have stB : tn 0 sB.heap := T.keep _ _ _ stA fun b _ o e => by rw [heapB]; exact Heap.get?_push_of_some _ e
  have Jc := block_start Jb blk nod fB
  generalize eH : upd Ha D (SetI X D []) = HB at Jb Jc w0 fB
  generalize eCl : cellsFrom (sB.heap.objs.size + 1) scope.names (cloFrom X.env.cells scope.names []) = cl at Jc
  have pg := hg sB HB sB.heap.objs.size cl fp
  have pt := ht sB HB sB.heap.objs.size cl fp
  have pe := he sB HB sB.heap.objs.size cl fp
  show codeAny _ _ (.compStart (.SetComp elt [⟨tg, iter, ifs, 0⟩] scope pos) 0 (.ref it) (.ref D) (compEnvC scope cl sB.heap.objs.size X.env)) (compPost (model X.prog X.w) X.A X.xe none (EP X pins σ Q) (.ref D) sB.heap.objs.size) { sB with heap := pushCells (sB.heap.push { cls := .type "dict", data := .dict #[] }) scope.names }
  generalize eE : compEnvC scope cl sB.heap.objs.size X.env = ce at Jc pg pt pe ⊢
  have ceL : ce.locals = sB.heap.objs.size := by rw [← eE]; rfl
  generalize eC : ({ sB with heap := pushCells (sB.heap.push { cls := .type "dict", data := .dict #[] }) scope.names } : Shared) = sC at Jc ⊢
  have stC : tn 0 sC.heap := T.keep _ _ _ stB fun b _ o e => by rw [← eC]; exact pushCells_keeps _ _ _ _ (Heap.get?_push_of_some _ e)
  have noneB : ∀ b ∈ fp, HB b = none := fun b hb => (fB b hb).1.1
  have okFp : ∀ {σ' : L2.St} {H' : Hp} {s' : Shared}, Inv (X.blk sB HB scope ce fp) [] σ' H' s' → (∀ b ∈ fp, H' b = none) → ∀ b ∈ fp, FpOk (X.blk sB HB scope ce fp) [] H' b := fun {σ' H' s'} I' hn b hb =>
    ⟨hn b hb, (I'.ok.exf b hb).1, I'.ok.exfs b hb, .inl hb, fun x c e => (I'.ok.exf b hb).2 x c e, fun p hp => absurd (show p ∈ ([] : List (Addr × Obj)) ++ [] from hp) (by simp)⟩
  have loop : codeAny (model X.prog X.w) X.A (.compLoop (.SetComp elt [⟨tg, iter, ifs, 0⟩] scope pos) 0 (.ref it) (.ref D) ce) (compPost (model X.prog X.w) X.A X.xe none (EP X pins σ Q) (.ref D) sB.heap.objs.size) sC := by
    refine compLoopS_any (fun n s' => ∃ i H', Inv (X.blk sB HB scope ce fp) [] (L2.wipe σ (own.map (·.2))) H' s' ∧ tn i s'.heap ∧ (∀ b ∈ fp, H' b = none) ∧ W i n H') ?_ m0 ⟨0, HB, Jc, stC, noneB, w0⟩
    rintro n sd ⟨i, Hd, Jd, std, nd, wd⟩
    rcases turn i n Hd wd with ⟨stop, fine⟩ | ⟨go, Nx, onward, step⟩
    · refine thnF (T.done (X.blk sB HB scope ce fp) rfl rfl rfl calm i [] sd _ Hd (fun _ _ => False) Jd (okFp Jd nd) std stop) fun r se ⟨er, Je⟩ => ?_
      subst er
      have Jf : Inv X pins σ Hd se := Jb.call' (ch := fp) Je.os Je.base Je.hok Je.bare fun b hb => ⟨(fB b hb).1.2.2.2.1, (fB b hb).1.2.1, (fB b hb).1.2.2.2.2.1, (fB b hb).1.2.2.2.2.2⟩
      have nC : Hd sB.heap.objs.size = none := by rw [← ceL]; exact Je.free
      obtain ⟨m, hn, _⟩ := Je.loc
      have hn : se.heap.Ns sB.heap.objs.size m := by rw [← ceL]; exact hn
      obtain ⟨f0, f1, f2, f3, f4, f5⟩ := Jb.fpOk (Nat.le_refl _) nC
      exact ⟨m, hn, fun hp sb => ⟨.ref D, Hd, Jf.turned (t' := se.toks) (fun b o hb e => (sb.2 b hb).trans e) f0 f1 f3 f4 f5, rfl, fine⟩⟩
    · refine thnF (T.item (X.blk sB HB scope ce fp) rfl rfl rfl calm i [] sd _ Hd (fun _ _ => False) Jd (okFp Jd nd) std go) fun r se ⟨u, er, he⟩ => ?_
      subst er
      refine thnF he fun _ sf ⟨x, Hf, Jf, rf, yf, stf, nf⟩ => ?_
      refine thnF (pg.run _ sf _ Hf x u _ (Jf.pinned (okFp Jf nf) (T.obj _ _ stf)) rf (step x Hf yf)) fun _ sg ⟨σg, Hg, Jg, wg, qg⟩ => thnF (pt.run _ sg σg Hg _ Jg qg) fun b sh ⟨Hh, Jh, qh⟩ => ?_
      have close : ∀ {s' : Shared} {H' : Hp}, Inv (X.blk sB HB scope ce fp) ([] ++ pinsAt fp sf.heap) σg H' s' → Nx H' → ∃ m, m < n ∧ ∃ i H', Inv (X.blk sB HB scope ce fp) [] (L2.wipe σ (own.map (·.2))) H' s' ∧ tn i s'.heap ∧ (∀ b ∈ fp, H' b = none) ∧ W i m H' := fun {s' H'} I' nx => by
        obtain ⟨m', less, w'⟩ := onward H' nx
        have pinned : ∀ b ∈ fp, ∀ o, sf.heap.get? b = some o → s'.heap.get? b = some o ∧ H' b = none := fun b hb o e => (I'.pin (b, o) (List.mem_append_right _ (List.mem_append_right _ (mem_pinsAt hb e)))).imp id fun z => z.1
        refine ⟨m', less, i + 1, H', (I'.unpinned (pins := [])).weak (by rw [← wg, wipe_length]) (fun j v e => (wipe_some (by rw [wg]; exact e)).1), T.keep _ _ _ stf fun b hb o e => (pinned b hb o e).1, fun b hb => ?_, w'⟩
        obtain ⟨o, e, _⟩ := T.obj _ _ stf b hb
        exact (pinned b hb o e).2
      cases b with
      | false => simp only [Bool.false_eq_true, if_false] at qh ⊢; exact close Jh qh
      | true =>
        simp only [if_true] at qh ⊢
        refine thnF (pe.run _ sh σg Hh _ Jh qh) fun z si ⟨yk, Hi, Ji, ri, b, k, L, ek, hb, hD, hL, few, nx⟩ => ?_
        subst ek
        cases ri
        exact addT_ok (X := X.blk sB HB scope ce fp) hu Ji hD hL hb few fun L' sj Jj c1 c2 => close Jj (nx L' c1 c2)
  have run := codeAny_compStart_set loop (T.self X.A 0 _ _ _ stC loop)
  exact run
/-- sorted(set) -/
def rSortS (X : Cx) : List V → Hp → VK → Prop := fun vs H Q => ∃ (a : Addr) (L : List (Addr × List Int)), vs = [.ref a] ∧ H a = some (SetI X a L) ∧ (∀ p ∈ L, H p.1 = some (.tup (p.2.map V.int)) ∧ p.2 ≠ []) ∧
  ∀ (L' : List (Addr × List Int)) p, L'.Perm L → (L'.map (·.2)).Nodup → H p = none → Q (.ref p) (upd H p (.lst ((L'.mergeSort fun q r => leT q.2 r.2).map fun q => V.ref q.1)))
theorem cr_sortS (hcalm : X.calm = true) (hu : X.A.units + 64 < cLine) : CallR X (.builtin "sorted") (rSortS X) := by
  intro pins s σ H vs us Q J r h
  obtain ⟨a, L, rfl, ha, hk, q⟩ := h
  rw [Vals.ref1 r]
  have S0 : SetT0 X.prog X.w s.heap a L := (J.hok a _ ha).1
  obtain ⟨es, ep, t, S1⟩ := S0.full fun p hp => J.isT (.of (hk p hp).1)
  obtain ⟨o, ho, hex, hd⟩ := S1.ob
  have few := S1.few
  refine Calls.call_function_entry kind_sorted plain_sorted entry_sorted (args_sorted1 _) ?_
  unfold Builtin.«sorted»
  refine wpAny_bind (m := checkCount "sorted" 1 1 _) (wpAny_pure ?_)
  refine wpAny_bind (collect_set (A := X.A.in1) (J.ok.hd hcalm) ⟨o, ho, hex.1, hd⟩ S1.fits (by rw [S1.size]; unfold scanBound; omega) S1.tab.ris S1.led fun s1 vs kept hz g1 o1 pm => ?_)
  have hes : es.toList.map (·.2) = L.map fun q => Value.ref q.1 := by
    rw [S1.rows]
    unfold rowsOf
    rw [List.map_map] <;> rfl
  rw [hes] at pm
  have back : ∀ (vs : List Value) (L : List (Addr × List Int)), vs.Perm (L.map fun q => Value.ref q.1) → ∃ L1 : List (Addr × List Int), L1.Perm L ∧ vs = L1.map fun q => Value.ref q.1 := by
    intro vs
    induction vs with
    | nil =>
      intro L h
      have := h.length_eq
      rw [List.length_map] at this
      cases L with
      | nil => exact ⟨[], .refl _, rfl⟩
      | cons _ _ => cases this
    | cons v vs ih =>
      intro L h
      have hm : v ∈ L.map fun q => Value.ref q.1 := h.mem_iff.mp List.mem_cons_self
      obtain ⟨q, hq, e⟩ := List.mem_map.mp hm
      obtain ⟨l1, l2, rfl⟩ := List.append_of_mem hq
      subst e
      have h2 : vs.Perm ((l1 ++ l2).map fun q => Value.ref q.1) := by
        refine (List.Perm.cons_inv (a := Value.ref q.1) (h.trans ?_))
        rw [← List.map_cons (f := fun q : Addr × List Int => Value.ref q.1)]
        exact List.perm_middle.map _
      obtain ⟨L1, p1, e1⟩ := ih _ h2
      exact ⟨q :: L1, (p1.cons q).trans List.perm_middle.symm, by rw [e1] <;> rfl⟩
  obtain ⟨L1, p1, e1⟩ := back vs L pm
  subst e1
  have J1 : Inv X pins σ H s1 := by
    have J' : Inv X pins σ H { s with heap := s1.heap, gens := s1.gens, drawn := s1.drawn, toks := s1.toks } := J.call (ch := []) (Un.kept kept) (J.hok.kept kept) (by rw [g1]; exact J.bare) (fun _ z => nomatch z)
    have e : s1 = { s with heap := s1.heap, gens := s1.gens, drawn := s1.drawn, toks := s1.toks } := by
      cases s1
      cases s
      cases o1
      rfl
    rw [e]
    exact J'
  generalize eV : (L1.map fun q => Value.ref q.1) = vals
  have hL1 : L1.length < 64 := by rw [p1.length_eq]; exact few
  have hv : vals.length < 64 := by rw [← eV, List.length_map]; exact hL1
  refine wpAny_bind (wpAny_newList ?_ (by rw [sizeLine_eq]; omega))
  have hoL : (s1.heap.push (seqObj "list" vals.toArray 0)).get? s1.heap.objs.size = some (seqObj "list" vals.toArray 0) := Heap.get?_push_size _ rfl
  have hk1 : ∀ p ∈ L1, H p.1 = some (.tup (p.2.map V.int)) ∧ p.2 ≠ [] := fun p hp => hk p (p1.mem_iff.mp hp)
  have ei : PySem.W.EachIs (fun u (q : Addr × List Int) => (∃ x, x = V.ref q.1 ∧ RelV x u) ∧ q ∈ L1) vals L1 := by
    rw [← eV]
    have aux : ∀ (l : List (Addr × List Int)), (∀ q ∈ l, q ∈ L1) → PySem.W.EachIs (fun u (q : Addr × List Int) => (∃ x, x = V.ref q.1 ∧ RelV x u) ∧ q ∈ L1) (l.map fun q => Value.ref q.1) l := fun l => by
      induction l with
      | nil => intro _; exact .nil
      | cons q l ih => intro hq; exact .cons ⟨⟨_, rfl, rfl⟩, hq _ List.mem_cons_self⟩ (ih fun r hr => hq r (List.mem_cons_of_mem _ hr))
    exact aux L1 fun q hq => hq
  have er : PySem.W.EachIs (fun u (q : Addr × List Int) => ∃ as, Reads (s1.heap.push (seqObj "list" vals.toArray 0)) u (.tuple (q.2.map .int)) as ∧ s1.heap.objs.size ∉ as) vals L1 := ei.mono fun u q ⟨⟨x, ex, rx⟩, hq⟩ => by
    subst ex
    cases rx
    have dd : Dp X.K H (.ref q.1) (.tuple (q.2.map .int)) := .tup (.of (hk1 q hq).1) (by
      have aux : ∀ k : List Int, DpAll X.K H (k.map V.int) (k.map .int) := fun k => by
        induction k with
        | nil => exact .nil
        | cons a k ih => exact .cons (.int a) ih
      exact aux _)
    obtain ⟨as, rr⟩ := Dp.reads J1 _ _ (.ref q.1) dd rfl
    have noas : ∀ {h : Heap} {us : List Value} {k : List Int} {as : List Addr}, ReadsAll h us (k.map .int) as → as = [] := fun {h us k as} => by
      induction k generalizing us as with
      | nil => intro z; cases z; rfl
      | cons a k ih =>
        intro z
        cases z with
        | cons z1 z2 =>
          cases z1
          rw [ih z2]
          rfl
    refine ⟨as, PyProof.Rows.Reads.keeps (fun b o e => Heap.get?_push_of_some _ e) rr, ?_⟩
    cases rr with
    | tuple h1 h2 h3 h4 =>
      rw [noas h4]
      exact List.not_mem_nil
  have hdep : ∀ q, q ∈ L1 → X.A.in1.units + 1 + (PyData.tuple (q.2.map .int)).depth < cLine := fun q _ => by
    have e := depth_tI q.2
    unfold tI at e
    have e2 : X.A.in1.units ≤ X.A.units + 1 := by
      show X.A.units + _ ≤ _
      omega
    omega
  refine wpAny_bind (wpAny_holding (PySem.W.list_sort_data (s := { s1 with heap := s1.heap.push (seqObj "list" vals.toArray 0) }) (enc := fun q : Addr × List Int => .tuple (q.2.map .int)) hoL ei er (PySem.W.AllAlike.of fun b b2 => alike_tI b.2 b2.2) (.inl fun d hd => ?_) (by rw [sizeLine_eq]; omega) hdep fun out ho eo => ?_))
  · obtain ⟨q, hq, rfl⟩ := List.mem_map.mp hd
    cases e : q.2 with
    | nil => exact absurd e (hk1 q hq).2
    | cons x r => exact ⟨_, _, rfl⟩
  obtain ⟨c, hc⟩ := sortedHeap_at (vs := vals) (out := List.toArray out) hoL
  have dle := dataLe_tI (β := Addr × List Int) (fun q => q.2)
  unfold tI at dle
  rw [dle] at eo
  have eout : Vals ((L1.mergeSort fun q r => leT q.2 r.2).map fun q => V.ref q.1) out := by
    have aux : ∀ {us : List Value} {l : List (Addr × List Int)}, PySem.W.EachIs (fun u (q : Addr × List Int) => (∃ x, x = V.ref q.1 ∧ RelV x u) ∧ q ∈ L1) us l → Vals (l.map fun q => V.ref q.1) us := fun h => by
      induction h with
      | nil => exact .nil
      | cons a r ih =>
        obtain ⟨⟨x, ex, rx⟩, _⟩ := a
        exact .cons (show RelV (V.ref _) _ by rw [← ex]; exact rx) ih
    exact aux eo
  refine wpAny_pure ⟨_, rfl, .ref s1.heap.objs.size, upd H s1.heap.objs.size (.lst ((L1.mergeSort fun q r => leT q.2 r.2).map fun q => V.ref q.1)), J1.laid (t' := s1.toks) (fun b u e => ?_) (Nat.le_refl _) (show ObjOk X.prog X.w _ _ _ (.lst _) from ⟨?_, out, c, eout, hc⟩), rfl, q L1 _ p1 ((p1.map (·.2)).nodup_iff.mpr S1.nd) (J1.hok.fresh (Nat.le_refl _))⟩
  · have hb : b < s1.heap.objs.size := Heap.lt_size e
    rw [PyProof.Rows.sortedHeap_old (Nat.ne_of_lt hb) (by rw [size_push']; exact Nat.lt_succ_of_lt hb)]
    exact Heap.get?_push_of_some _ e
  · rw [List.length_map, (List.mergeSort_perm _ _).length_eq, sizeLine_eq]
    omega
end
end K5
/-! LayP: sets, sorting told by data. -/
namespace K5
open PySem PySem.Spec PyProof.Rows L2

/-- a set of the frame's own: its members are the tuples ks -/
def setφ (X : Cx) (ks : List (List Int)) (v : V) (M H : Hp) : Prop := ∃ (D : Addr) (L : List (Addr × List Int)), v = .ref D ∧ M D = none ∧ H D = some (SetI X D L) ∧ (∀ p ∈ L, M p.1 = some (.tup (p.2.map V.int))) ∧ ∀ k, k ∈ L.map (·.2) ↔ k ∈ ks
def setE (X : Cx) (ks : List (List Int)) : En := .ext (setφ X ks)
theorem setE_stay (X : Cx) (ks : List (List Int)) : StayE (setE X ks) ∧ RefE (setE X ks) := by
  refine ⟨fun v M H M' H' ⟨D, L, e, n, h, t, q⟩ s k => ?_, fun v M H ⟨D, L, e, n, h, t, q⟩ => ⟨D, _, e, n, h, rfl⟩⟩
  obtain ⟨h1, h2⟩ := k D e _ h
  exact ⟨D, L, e, h2, h1, fun p hp => s _ _ (t p hp), q⟩
theorem mapInt (k : List Int) : (k.map Sum.inl).map kV = k.map V.int := by
  rw [List.map_map]
  rfl
theorem dqs_int {K : PySem.W.Frag} {M : Hp} : ∀ k : List Int, DqAll K M (k.map V.int) (k.map .int)
  | [] => .nil
  | a :: k => .cons (.int a) (dqs_int k)
section
variable {X : Cx} {B : Bs} {ρ : DEnv} {pos p : Pos} {e elt iter : Expr} {scope : Scope} {α : Type}
theorem scT_read {xs : List α} {enc : α → PyData} {f : α → List Int} {r : α → DEnv} {gT : DEnv → PyData → DEnv → Prop} {ts vs : List Nat}
    (hr : ∀ a ∈ xs, gT (wp ρ vs) (enc a) (r a)) (hts : ∀ σ σ' : L2.St, L2.wipe σ' ts = L2.wipe (L2.wipe σ vs) ts → L2.wipe σ' vs = L2.wipe σ vs) (few : ∀ l : List (List Int), l.Nodup → (∀ k ∈ l, k ∈ xs.map f) → l.length + 1 < 64) (σ : L2.St) (H : Hp) (Q : VK)
    (h : tEF X.K B ρ (setE X (xs.map f)) σ H Q) :
    tScT X (tEI X.K B ρ (xs.map enc)) (tG X.K gT ts) (ttL X.K B xs (fun _ => true) r) (teL X.K B xs (fun _ => true) (fun a => tI (f a)) r) vs σ H Q := by
  obtain ⟨M, k, q⟩ := h
  refine ⟨M, k, fun J M1 H1 gr iok D nD => ?_⟩
  have k1 := k.gr gr
  have hw := k1.off nD
  have hn : (xs.map enc).length = xs.length := List.length_map ..
  have W := iok.walk
  refine ⟨fun i m H2 => m + i = xs.length ∧ ∃ M2 L, Gr B M1 H1 M2 H2 ∧ H2 D = some (SetI X D L) ∧ M2 D = none ∧ (∀ p ∈ L, M2 p.1 = some (.tup (p.2.map V.int))) ∧ (L.map (·.2)).Nodup ∧ ∀ k, k ∈ L.map (·.2) ↔ k ∈ (xs.take i).map f, ⟨xs.length, rfl, M1, [], k1.refl.side nD (k1.clr nD) hw, upd_same, k1.clr nD, (fun p h => by cases h), List.nodup_nil, fun k => Iff.rfl⟩, ?_⟩
  rintro i m H2 ⟨hm, M2, L, g2, hD, mD, hL, nd, mem⟩
  by_cases hi : i < xs.length
  · refine .inr ⟨W.goes i H2 (by rw [hn]; exact hi) ⟨M2, g2.mm, g2.mh⟩, fun H' => ∃ M3 L, Gr B M1 H1 M3 H' ∧ H' D = some (SetI X D L) ∧ M3 D = none ∧ (∀ p ∈ L, M3 p.1 = some (.tup (p.2.map V.int))) ∧ (L.map (·.2)).Nodup ∧ ∀ k, k ∈ L.map (·.2) ↔ k ∈ (xs.take (i + 1)).map f, fun H' h' => ⟨xs.length - (i + 1), by omega, by omega, h'⟩, fun x H3 y => ?_⟩
    have hy := W.yields i H2 x H3 (by rw [hn]; exact hi) ⟨M2, g2.mm, g2.mh⟩ y
    have e : xs[i]? = some xs[i] := List.getElem?_eq_getElem hi
    have e2 : (xs.map enc)[i]? = some (enc xs[i]) := by rw [List.getElem?_map, e] <;> rfl
    obtain ⟨M3, gi, hx⟩ := hy M2 _ g2.mm g2.mh e2
    have k2 := k1.gr g2
    have g3 := k2.gi gi
    have k3 := k2.gr g3
    have am : xs[i] ∈ xs := List.getElem_mem hi
    refine ⟨B, M3, wp ρ vs, enc xs[i], r xs[i], k3.wipe vs, hx, hr _ am, fun σ' hσ kk => ⟨hts σ σ' hσ, ⟨xs[i], am⟩, M3, kk, fun b M4 H4 eb g4 => ?_⟩⟩
    subst eb
    show (if true = true then _ else _)
    rw [if_pos rfl]
    refine ⟨⟨xs[i], am, rfl⟩, M4, kk.gr g4, fun y v5 M5 H5 ey g5 r5 => ?_⟩
    subst ey
    have g25 : Gr B M2 H2 M5 H5 := (g3.trans g4).trans g5
    have hD5 := g25.hh D _ hw hD
    have mD5 := g25.fr D _ hD rfl mD
    obtain ⟨b, e5, h5⟩ := rI_key r5
    rw [mapInt] at h5
    have hL5 : ∀ p ∈ L, M5 p.1 = some (.tup (p.2.map V.int)) := fun p hp => g25.mm _ _ (hL p hp)
    have few2 : L.length + 1 < 64 := by
      rw [← List.length_map (f := fun p : Addr × List Int => p.2)]
      refine few _ nd fun k hk => ?_
      exact ((List.take_sublist i xs).map f).subset ((mem k).mp hk)
    refine ⟨b, f xs[i], L, e5, .of (g25.mh _ _ h5), hD5, fun p hp => .of (g25.mh _ _ (hL5 p hp)), few2, fun L' c1 c2 => ?_⟩
    have key : (∀ p ∈ L', M5 p.1 = some (.tup (p.2.map V.int))) ∧ (L'.map (·.2)).Nodup ∧ ∀ k, k ∈ L'.map (·.2) ↔ k ∈ (xs.take (i + 1)).map f := by
      rw [take_at e, List.map_append]
      by_cases hk : f xs[i] ∈ L.map (·.2)
      · rw [c1 hk]
        refine ⟨hL5, nd, fun k => ?_⟩
        rw [mem, List.mem_append]
        refine ⟨.inl, fun z => z.elim id fun z => ?_⟩
        have e8 : k = f xs[i] := by simpa using z
        rw [e8]
        exact (mem _).mp hk
      · have pm := c2 hk
        refine ⟨fun p hp => ?_, ?_, fun k => ?_⟩
        · rcases List.mem_cons.mp (pm.mem_iff.mp hp) with z | z
          · rw [z]; exact h5
          · exact hL5 p z
        · rw [(pm.map (·.2)).nodup_iff, List.map_cons, List.nodup_cons]
          exact ⟨hk, nd⟩
        · rw [(pm.map (·.2)).mem_iff, List.map_cons, List.mem_cons, mem, List.mem_append]
          constructor
          · rintro (z | z)
            · exact .inr (by simp [z])
            · exact .inl z
          · rintro (z | z)
            · exact .inr z
            · exact .inl (by simpa using z)
    exact ⟨M5, L', (g2.trans g25).side nD mD5 hw, upd_same, mD5, key⟩
  · have e : i = xs.length := by omega
    subst e
    refine .inl ⟨?_, ?_⟩
    · have := W.stops H2 ⟨M2, g2.mm, g2.mh⟩
      rw [hn] at this
      exact this
    · rw [List.take_of_length_le (Nat.le_refl _)] at mem
      exact q D M2 H2 (gr.trans g2) (gr.non nD) mD ⟨D, L, rfl, mD, hD, hL, mem⟩
/-- {t for x in iter} -/
theorem ef_sc1 {i : Nat} {x : Str} {px : Pos} {xs : List α} {enc : α → PyData} {f : α → List Int} (hu : X.A.units + 1 < cLine) (hc : X.calm = true) (hN : X.N.Nodup) (hi : EI X B ρ (.Name x px) iter (xs.map enc)) (ok : blkC X.N X.env.scope scope [(x, i)] = true)
    (he : ∀ s H C cl fp, ∀ a ∈ xs, EE (Blk X s H scope C cl fp) B ((wp ρ [i]).set i (some (.im (.dat (enc a))))) elt (.dat (tI (f a)))) (few : ∀ l : List (List Int), l.Nodup → (∀ k ∈ l, k ∈ xs.map f) → l.length + 1 < 64) (hx : X.N[i]? = some x := by rfl)
    (hg : ∀ s H C cl fp, EG (Blk X s H scope C cl fp) (.Name x px) (g1 i) [i] := by exact fun _ _ _ _ _ => eg_1 (by assumption)) (hs : ∀ x, foldedSetIterable iter X.env x = pure x := by intro _; rfl) :
    EF X B ρ (.SetComp elt [⟨.Name x px, iter, [], 0⟩] scope pos) (setE X (xs.map f)) :=
  pe_imp (pe_scT hu hc hN hi (blkOk_by ok) (fun s H C cl fp => (hg s H C cl fp).pg) (fun s H C cl fp => pts_any fun a : { a // a ∈ xs } => ets_nil) (fun s H C cl fp => pe_any fun a : { a // a ∈ xs ∧ true = true } => he s H C cl fp a.1 a.2.1) hs)
    fun σ H Q q => scT_read (r := fun a => (wp ρ [i]).set i (some (.im (.dat (enc a))))) (gT := g1 i) (ts := [i]) (vs := [i]) (fun _ _ => rfl) (fun σ σ' h => h.trans (set_none_set ..)) few σ H Q q
/-- set(list) -/
theorem keyed {K : PySem.W.Frag} {M : Hp} : ∀ {ks : List (List Int)} {vs : List V}, DqAll K M vs (ks.map tI) → ∃ ps : List (Addr × List Int), vs = ps.map (fun p => V.ref p.1) ∧ ps.map (·.2) = ks ∧ ∀ p ∈ ps, M p.1 = some (.tup (p.2.map V.int))
  | [], _, h => by cases h; exact ⟨[], rfl, rfl, fun p h => by cases h⟩
  | k :: ks, _, h => by
    cases h with
    | cons a r =>
      obtain ⟨ps, e1, e2, e3⟩ := keyed r
      obtain ⟨b, rfl, h⟩ := rI_key (k := k) a
      rw [mapInt] at h
      refine ⟨(b, k) :: ps, by rw [e1] <;> rfl, by rw [List.map_cons, e2], fun p hp => ?_⟩
      rcases List.mem_cons.mp hp with z | z
      · rw [z]; exact h
      · exact e3 p z
theorem ef_set {ks : List (List Int)} (hu : X.A.units + 64 < cLine) (hc : X.calm = true) (he : EE X B ρ e (Li (ks.map tI))) (few : ks.length < 64) (hm : X.mg "set" = none) (hg : Gl X "set" := by rfl) (hs : starEach [e] X.env = (false, eval e X.env) :: starEach [] X.env := by rfl) :
    EF X B ρ (.Call (.Name "set" p) [e] [] pos) (setE X ks) :=
  pe_imp (pe_callTy (cr_setOfT hc hu) hg hm PyProof.Rows.boot_set (ea_cons he ea_nil hs) (by decide) (by decide) hs rfl) fun σ H Q ⟨M, k, q⟩ => ⟨M, k, fun vs M1 H1 g1 r1 => by
    cases r1 with
    | cons r1 r2 =>
      cases r2
      obtain ⟨t, ws, rfl, h1, h2⟩ := rI_lst r1
      obtain ⟨ps, e1, e2, e3⟩ := keyed h2
      subst e1
      have k1 := k.gr g1
      refine ⟨t, ps, rfl, k1.mh.seq h1, fun p hp => .of (k1.mh _ _ (e3 p hp)), by rw [← List.length_map (f := fun p : Addr × List Int => p.2), e2]; exact few, fun D L nD sub all => ?_⟩
      have mD := k1.clr nD
      refine q D M1 _ (g1.trans (k1.tmp nD)) (g1.non nD) mD ⟨D, L, rfl, mD, upd_same, fun p hp => e3 p (sub p hp), fun k => ⟨fun h => ?_, fun h => ?_⟩⟩
      · obtain ⟨p, hp, rfl⟩ := List.mem_map.mp h
        rw [← e2]
        exact List.mem_map.mpr ⟨p, sub p hp, rfl⟩
      · rw [← e2] at h
        obtain ⟨p, hp, rfl⟩ := List.mem_map.mp h
        exact all p hp⟩
/-- sorted(..) of a set -/
theorem ee_sortedSet {ks : List (List Int)} (hu : X.A.units + 64 < cLine) (hc : X.calm = true) (he : EF X B ρ e (setE X ks)) (ne : ∀ k ∈ ks, k ≠ []) (hm : X.mg "sorted" = none) (hg : Gl X "sorted" := by rfl) (hs : starEach [e] X.env = (false, eval e X.env) :: starEach [] X.env := by rfl) :
    EE X B ρ (.Call (.Name "sorted" p) [e] [] pos) (Li ((srtT ks).map tI)) :=
  pe_imp (pe_callB (cr_sortS hc hu) hg hm (by decide +kernel) (pa_cons he pa_nil hs) (by decide) (by decide) hs rfl) fun σ H Q ⟨M, k, q⟩ => ⟨M, k, fun D M1 H1 g1 n1 n2 ⟨D', L, e1, mD, hD, hL, mem⟩ => by
    cases e1
    have k1 := k.gr g1
    refine ⟨D, L, rfl, hD, fun p hp => ⟨k1.mh _ _ (hL p hp), ne _ ((mem _).mp (List.mem_map.mpr ⟨p, hp, rfl⟩))⟩, fun L' p pm nd np => ?_⟩
    have pm2 := (List.mergeSort_perm L' fun q r => leT q.2 r.2).trans pm
    have ek : (L'.mergeSort fun q r => leT q.2 r.2).map (·.2) = srtT ks := by
      refine srtT_uniq ?_ ?_ fun k => ?_
      · rw [List.pairwise_map]
        exact List.pairwise_mergeSort (le := fun q r : Addr × List Int => leT q.2 r.2) (fun a b c h1 h2 => leT_trans _ _ _ h1 h2) (fun a b => leT_total _ _) _
      · exact (((List.mergeSort_perm L' fun q r => leT q.2 r.2).map (·.2)).nodup_iff).mpr nd
      · rw [(pm2.map (·.2)).mem_iff, mem]
    have g2 := k1.new (o := .lst ((L'.mergeSort fun q r => leT q.2 r.2).map fun q => V.ref q.1)) np
    refine q _ _ _ _ rfl (g1.trans g2) (.lst upd_same ?_)
    rw [← ek]
    have aux : ∀ l : List (Addr × List Int), (∀ p ∈ l, M1 p.1 = some (.tup (p.2.map V.int))) → DqAll X.K M1 (l.map fun q => V.ref q.1) ((l.map (·.2)).map tI) := fun l => by
      induction l with
      | nil => intro _; exact .nil
      | cons a l ih => intro h; exact .cons (.tup (h a List.mem_cons_self) (dqs_int _)) (ih fun p hp => h p (List.mem_cons_of_mem _ hp))
    exact dps_up g2.mm _ _ (aux _ fun p hp => hL p (pm2.mem_iff.mp hp))⟩
/-- sorted(..) of a list of tuples of ints -/
theorem ee_sortedL {ks : List (List Int)} (hu : X.A.units + 64 < cLine) (he : EE X B ρ e (Li (ks.map tI))) (ne : ∀ k ∈ ks, k ≠ []) (hm : X.mg "sorted" = none) (hg : Gl X "sorted" := by rfl) (hs : starEach [e] X.env = (false, eval e X.env) :: starEach [] X.env := by rfl) :
    EE X B ρ (.Call (.Name "sorted" p) [e] [] pos) (Li ((srtL ks).map tI)) :=
  en_cb cr_sortD (ea_cons he ea_nil hs) hm (by decide +kernel) hg (fun vs σ M H Q k r q => by
    cases r with
    | cons r1 r2 =>
      cases r2
      obtain ⟨t, ws, rfl, h1, h2⟩ := rI_lst r1
      refine ⟨t, ws, List Int, ks, tI, M, rfl, k.mh.seq h1, k.mh, h2, PySem.W.AllAlike.of fun b b2 => alike_tI b b2, .inl fun d hd => ?_, fun b _ => by rw [depth_tI]; omega, fun ys p hd np => ?_⟩
      · obtain ⟨k, hk, rfl⟩ := List.mem_map.mp hd
        cases k with
        | nil => exact absurd rfl (ne _ hk)
        | cons x r => exact ⟨_, _, rfl⟩
      · rw [dataLe_tI (fun k : List Int => k)] at hd
        have g2 := k.new (o := .lst ys) np
        exact q _ _ _ _ rfl g2 (.lst upd_same (dps_up g2.mm _ _ hd))) (by decide) (by decide) hs
/-- sorted(..) of a dict with keys ints -/
theorem ee_sortedDI {kvs : List (Int × PyData)} (hu : X.A.units + 64 < cLine) (hc : X.calm = true) (he : EE X B ρ e (.di kvs)) (hm : X.mg "sorted" = none) (hg : Gl X "sorted" := by rfl) (hs : starEach [e] X.env = (false, eval e X.env) :: starEach [] X.env := by rfl) :
    EE X B ρ (.Call (.Name "sorted" p) [e] [] pos) (Li ((srtI (kvs.map (·.1))).map .int)) :=
  en_cb (cr_sortK hc hu) (ea_cons he ea_nil hs) hm (by decide +kernel) hg (fun vs σ M H Q k r q => by
    cases r with
    | cons r1 r2 =>
      cases r2
      obtain ⟨D, rfl, h1, sc⟩ := r1
      refine ⟨D, kvI kvs, kvs.map (·.1), rfl, .inl (k.mh _ _ h1), by unfold kvI; rw [List.map_map, List.map_map]; rfl, fun p np => ?_⟩
      have g2 := k.new (o := .lst ((srtI (kvs.map (·.1))).map V.int)) np
      exact q _ _ _ _ rfl g2 (.lst upd_same (dqs_int _))) (by decide) (by decide) hs
end
end K5
/-! LayQ: chained comparisons; sequences, list or tuple. -/
namespace K5
open PySem PySem.Spec PyProof.Rows L2
abbrev Sq (t : Bool) (ds : List PyData) : Im := if t = true then Tu ds else Li ds
theorem seqD_Sq (t : Bool) (ds : List PyData) : seqD (Sq t ds) = some ds := by cases t <;> rfl
section
variable {X : Cx} {B : Bs} {ρ : DEnv} {pos p : Pos} {e a b c tg : Expr}
theorem ee_le2 {i j k : Int} (ha : EE X B ρ a (I i)) (hb : EE X B ρ b (I j)) (hc : EE X B ρ c (I k)) (hm : lastMarks [.LtE, .LtE] [b, c] = false := by with_unfolding_all rfl) : EE X B ρ (.Compare a [.LtE, .LtE] [b, c] pos) (Bl (decide (i ≤ j) && decide (j ≤ k))) :=
  pe_imp (pe_chain op_le op_le ha hb hc hm) fun σ H Q ⟨M, k0, q⟩ => ⟨M, k0, fun z v M1 H1 ez g1 r1 => ⟨M1, k0.gr g1, fun z2 v2 M2 H2 ez2 g2 r2 => by
    subst ez ez2
    refine ⟨i, j, rI_int r1, rI_int r2, decide (i ≤ j), rfl, ?_⟩
    by_cases h : i ≤ j
    · rw [decide_eq_true h, if_pos rfl]
      refine ⟨M2, (k0.gr g1).gr g2, fun z v3 M3 H3 ez g3 r3 => ?_⟩
      subst ez
      exact ⟨j, k, rI_int r2, rI_int r3, q (Bl (decide (j ≤ k))) _ M3 H3 (by rw [decide_eq_true h, Bool.true_and]) ((g1.trans g2).trans g3) (.bl _)⟩
    · rw [decide_eq_false h, if_neg (by decide)]
      exact q (Bl false) _ M2 H2 (by rw [decide_eq_false h, Bool.false_and]) (g1.trans g2) (.bl _)⟩⟩
theorem et_le2 {i j k : Int} (ha : EE X B ρ a (I i)) (hb : EE X B ρ b (I j)) (hc : EE X B ρ c (I k)) (hm : lastMarks [.LtE, .LtE] [b, c] = false := by with_unfolding_all rfl) : ET X B ρ (.Compare a [.LtE, .LtE] [b, c] pos) (decide (i ≤ j) && decide (j ≤ k)) :=
  pt_imp (pt_chain op_le op_le ha hb hc hm) fun σ H Q ⟨M, k0, q⟩ => ⟨M, k0, fun z v M1 H1 ez g1 r1 => ⟨M1, k0.gr g1, fun z2 v2 M2 H2 ez2 g2 r2 => by
    subst ez ez2
    refine ⟨i, j, rI_int r1, rI_int r2, decide (i ≤ j), rfl, ?_⟩
    by_cases h : i ≤ j
    · rw [decide_eq_true h, if_pos rfl]
      refine ⟨M2, (k0.gr g1).gr g2, fun z v3 M3 H3 ez g3 r3 => ?_⟩
      subst ez
      exact ⟨j, k, rI_int r2, rI_int r3, _, rfl, q (decide (j ≤ k)) M3 H3 (by rw [decide_eq_true h, Bool.true_and]) ((g1.trans g2).trans g3)⟩
    · rw [decide_eq_false h, if_neg (by decide)]
      exact ⟨_, rfl, q false M2 H2 (by rw [decide_eq_false h, Bool.false_and]) (g1.trans g2)⟩⟩⟩
theorem ee_lenS {t : Bool} {ds : List PyData} (he : EE X B ρ e (Sq t ds)) (hm : X.mg "len" = none) (hg : Gl X "len" := by rfl) (hs : starEach [e] X.env = (false, eval e X.env) :: starEach [] X.env := by rfl) : EE X B ρ (.Call (.Name "len" p) [e] [] pos) (I (ds.length : Nat)) := by
  cases t with
  | true => exact ee_lenT he hm hg hs
  | false => exact ee_lenL he hm hg hs
theorem ei_S {t : Bool} {ds : List PyData} (h : EE X B ρ e (Sq t ds)) : EI X B ρ tg e ds := by
  cases t with
  | true => exact ei_tup h
  | false => exact ei_lst h
theorem ee_ixS {t : Bool} {ds : List PyData} {i : Nat} {d : PyData} (ha : EE X B ρ a (Sq t ds)) (hb : EE X B ρ b (I i)) (h : ds[i]? = some d) (hs : PlainIx b := by exact fun _ _ => rfl) : EE X B ρ (.Subscript a b pos) (.dat d) := by
  cases t with
  | true => exact ee_ixTn ha hb h hs
  | false => exact ee_ixLn ha hb h hs
theorem ee_tupleS {t : Bool} {ds : List PyData} (he : EE X B ρ e (Sq t ds)) (hm : X.mg "tuple" = none) (hg : Gl X "tuple" := by rfl) (hs : starEach [e] X.env = (false, eval e X.env) :: starEach [] X.env := by rfl) : EE X B ρ (.Call (.Name "tuple" p) [e] [] pos) (Tu ds) := by
  cases t with
  | true => exact ee_tupleT he hm hg hs
  | false => exact ee_tuple he hm hg hs
theorem ee_listS {t : Bool} {ds : List PyData} (he : EE X B ρ e (Sq t ds)) (hm : X.mg "list" = none) (hg : Gl X "list" := by rfl) (hs : starEach [e] X.env = (false, eval e X.env) :: starEach [] X.env := by rfl) : EE X B ρ (.Call (.Name "list" p) [e] [] pos) (Li ds) := by
  cases t with
  | true => exact ee_list he hm hg hs
  | false => exact ee_listL he hm hg hs
theorem ei_enS {t : Bool} {elts : List Expr} {kk : Nat} {tpos : Pos} {ds : List PyData} (h : EE X B ρ e (Sq t ds)) (hm : X.mg "enumerate" = none) (hg : Gl X "enumerate" := by rfl) (hs : starEach [e] X.env = [(false, eval e X.env)] := by rfl) (hs2 : starEach (e :: []) X.env = (false, eval e X.env) :: starEach [] X.env := by rfl) :
    EI X B ρ (.Tuple elts kk tpos) (.Call (.Name "enumerate" p) [e] [] pos) (enD ds) := by
  cases t with
  | true => exact ei_enT h hm hg hs hs2
  | false => exact ei_enL h hm hg hs hs2
end
end K5
/-! LayR: a name takes a comprehension, on one line. -/
namespace K5
open PySem PySem.Spec PyProof.Rows L2
theorem sl_le {n : Nat} (h : Nat.ble n 10000 = true) : n ≤ sizeLine := by
  have := Nat.le_of_ble_eq_true h
  rw [sizeLine_eq]
  omega
theorem sl_of {n : Nat} (h : n ≤ 16000000) : n ≤ sizeLine := by
  rw [sizeLine_eq]
  omega
section
variable {X : Cx} {B : Bs} {ρ : DEnv} {pos spos py : Pos} {elt ek ev tg iter iter1 : Expr} {ifs ifs1 : List Expr} {scope : Scope} {own : List (Str × Nat)} {α β : Type} {sts : List Stmt} {R : Res → Prop}
theorem xx_tL {t : TE} {st : Stmt} {l : Nat} {ds : List PyData} (h : PS X st (tAsg t (gName l))) (hr : ∀ σ H Q, tEN X.K B ρ (fun y => y = Li ds) σ H Q → t σ H Q) (hn : XX X B (ρ.set l (some (.im (Li ds)))) sts R) : XX X B ρ (st :: sts) R :=
  xx_nx (ρ' := ρ.set l (some (.im (Li ds)))) (ps_imp h fun D σ H ⟨M, k, q⟩ => hr σ H _ ⟨M, k, fun x v M1 H1 e1 g1 r1 => by
    subst e1
    exact q _ rfl _ M1 H1 g1.mm ((k.gr g1).put r1)⟩) hn
theorem xx_tF {t : TE} {st : Stmt} {l : Nat} {y : En} (h : PS X st (tAsg t (gName l))) (hr : ∀ σ H Q, tEF X.K B ρ y σ H Q → t σ H Q) (hn : XX X B (ρ.set l (some y)) sts R) (sty : StayE y ∧ RefE y := by exact ⟨trivial, trivial⟩) : XX X B ρ (st :: sts) R :=
  xx_nx (ρ' := ρ.set l (some y)) (ps_imp h fun D σ H ⟨M, k, q⟩ => hr σ H _ ⟨M, k, fun a M1 H1 g1 n n' r1 => q _ rfl _ M1 H1 g1.mm (k.tak2 g1 n r1 sty)⟩) hn
theorem xx_le {ρ' : DEnv} (h : XX X B ρ' sts R) (l : Le ρ' ρ) : XX X B ρ sts R := pss_imp h fun D σ H ⟨M, k, q⟩ => ⟨M, k.le l, q⟩
/-- z = [elt for x in iter if ..] -/
theorem xx_lc1 (l : Nat) {i : Nat} {z x : Str} {px : Pos} {xs : List α} {enc : α → PyData} {p : α → Bool} {f : α → PyData} (hc : X.calm = true) (hN : X.N.Nodup) (hi : EI X B ρ (.Name x px) iter (xs.map enc)) (ok : blkC X.N X.env.scope scope [(x, i)] = true)
    (ht : ∀ s H C cl fp, ∀ a ∈ xs, ETs (Blk X s H scope C cl fp) B ((wp ρ [i]).set i (some (.im (.dat (enc a))))) ifs (p a))
    (he : ∀ s H C cl fp, ∀ a ∈ xs, p a = true → EE (Blk X s H scope C cl fp) B ((wp ρ [i]).set i (some (.im (.dat (enc a))))) elt (.dat (f a))) (hl : xs.length ≤ sizeLine) (hn : XX X B (ρ.set l (some (.im (Li ((xs.filter p).map f))))) sts R)
    (hx : X.N[i]? = some x := by rfl) (hz : X.N[l]? = some z := by rfl) (hzl : X.env.scope.names.lookup z = some .local := by rfl) (hsw : swapsWith (.ListComp elt [⟨.Name x px, iter, ifs, 0⟩] scope pos) (some (.Name z py)) spos.line X.env = pure true := by exact sw_true rfl rfl rfl rfl)
    (hg : ∀ s H C cl fp, EG (Blk X s H scope C cl fp) (.Name x px) (g1 i) [i] := by exact fun _ _ _ _ _ => eg_1 (by assumption)) (hs : ∀ x, foldedSetIterable iter X.env x = pure x := by intro _; rfl) : XX X B ρ (.Assign [.Name z py] (.ListComp elt [⟨.Name x px, iter, ifs, 0⟩] scope pos) spos :: sts) R :=
  xx_tL (l := l) (ps_setLc hc hN hz hzl hsw hi (blkOk_by ok) (fun s H C cl fp => (hg s H C cl fp).pg) (fun s H C cl fp => pts_any fun a : { a // a ∈ xs } => ht s H C cl fp a.1 a.2) (fun s H C cl fp => pe_any fun a : { a // a ∈ xs ∧ p a = true } => he s H C cl fp a.1 a.2.1 a.2.2) hs)
    (fun σ H Q q => lc_read (r := fun a => (wp ρ [i]).set i (some (.im (.dat (enc a))))) (gT := g1 i) (ts := [i]) (vs := [i]) (fun _ _ => rfl) (fun σ σ' h => h.trans (set_none_set ..)) hl σ H Q q) hn
/-- z = [elt for x in iter] -/
theorem xx_lc0 (l : Nat) {i : Nat} {z x : Str} {px : Pos} {xs : List α} {enc : α → PyData} {f : α → PyData} (hc : X.calm = true) (hN : X.N.Nodup) (hi : EI X B ρ (.Name x px) iter (xs.map enc)) (ok : blkC X.N X.env.scope scope [(x, i)] = true)
    (he : ∀ s H C cl fp, ∀ a ∈ xs, EE (Blk X s H scope C cl fp) B ((wp ρ [i]).set i (some (.im (.dat (enc a))))) elt (.dat (f a))) (hl : xs.length ≤ sizeLine) (hn : XX X B (ρ.set l (some (.im (Li (xs.map f))))) sts R)
    (hx : X.N[i]? = some x := by rfl) (hz : X.N[l]? = some z := by rfl) (hzl : X.env.scope.names.lookup z = some .local := by rfl) (hsw : swapsWith (.ListComp elt [⟨.Name x px, iter, [], 0⟩] scope pos) (some (.Name z py)) spos.line X.env = pure true := by exact sw_true rfl rfl rfl rfl)
    (hg : ∀ s H C cl fp, EG (Blk X s H scope C cl fp) (.Name x px) (g1 i) [i] := by exact fun _ _ _ _ _ => eg_1 (by assumption)) (hs : ∀ x, foldedSetIterable iter X.env x = pure x := by intro _; rfl) : XX X B ρ (.Assign [.Name z py] (.ListComp elt [⟨.Name x px, iter, [], 0⟩] scope pos) spos :: sts) R :=
  xx_lc1 l (p := fun _ => true) (f := f) hc hN hi ok (fun s H C cl fp a ha => ets_nil) (fun s H C cl fp a ha _ => he s H C cl fp a ha) hl (by rw [filter_yes]; exact hn) hx hz hzl hsw hg hs
/-- z = [elt for x, y in iter] -/
theorem xx_lc2n (l : Nat) {i j : Nat} {z x y : Str} {px py2 pt : Pos} {k0 : Nat} {xs : List α} {ex ey : α → PyData} {f : α → PyData} (hc : X.calm = true) (hN : X.N.Nodup) (hij : i ≠ j) (hi : EI X B ρ (.Tuple [.Name x px, .Name y py2] k0 pt) iter (xs.map fun a => .tuple [ex a, ey a])) (ok : blkC X.N X.env.scope scope [(x, i), (y, j)] = true)
    (he : ∀ s H C cl fp, ∀ a ∈ xs, EE (Blk X s H scope C cl fp) B (((wp ρ [i, j]).set i (some (.im (.dat (ex a))))).set j (some (.im (.dat (ey a))))) elt (.dat (f a))) (hl : xs.length ≤ sizeLine) (hn : XX X B (ρ.set l (some (.im (Li (xs.map f))))) sts R) (hx : X.N[i]? = some x := by rfl) (hy : X.N[j]? = some y := by rfl)
    (hz : X.N[l]? = some z := by rfl) (hzl : X.env.scope.names.lookup z = some .local := by rfl) (hsw : swapsWith (.ListComp elt [⟨.Tuple [.Name x px, .Name y py2] k0 pt, iter, [], 0⟩] scope pos) (some (.Name z py)) spos.line X.env = pure true := by exact sw_true rfl rfl rfl rfl)
    (hg : ∀ s H C cl fp, EG (Blk X s H scope C cl fp) (.Tuple [.Name x px, .Name y py2] k0 pt) (g2 i j) [i, j] := by exact fun _ _ _ _ _ => eg_2 (by first | rfl | assumption) (by assumption) (by decide)) (hs : ∀ x, foldedSetIterable iter X.env x = pure x := by intro _; rfl) :
    XX X B ρ (.Assign [.Name z py] (.ListComp elt [⟨.Tuple [.Name x px, .Name y py2] k0 pt, iter, [], 0⟩] scope pos) spos :: sts) R :=
  xx_tL (l := l) (ps_setLc hc hN hz hzl hsw hi (blkOk_by ok) (fun s H C cl fp => (hg s H C cl fp).pg) (fun s H C cl fp => pts_any fun a : { a // a ∈ xs } => ets_nil) (fun s H C cl fp => pe_any fun a : { a // a ∈ xs ∧ true = true } => he s H C cl fp a.1 a.2.1) hs)
    (fun σ H Q q => lc_read (p := fun _ => true) (r := fun a => ((wp ρ [i, j]).set i (some (.im (.dat (ex a))))).set j (some (.im (.dat (ey a))))) (gT := g2 i j) (ts := [i, j]) (vs := [i, j]) (fun _ _ => ⟨_, _, rfl, rfl⟩) (wipe_idem2 hij) hl σ H Q (by rw [filter_yes]; exact q)) hn
/-- z = [elt for x in iter for y in iter1 if ..] -/
theorem xx_lc22 (l : Nat) {i j : Nat} {z x y : Str} {px py2 : Pos} {xs : List α} {enc : α → PyData} {ys : α → List β} {enc1 : α → β → PyData} {q : α → β → Bool} {f : α → β → PyData} (hc : X.calm = true) (hN : X.N.Nodup) (hij : i ≠ j) (hi : EI X B ρ (.Name x px) iter (xs.map enc)) (ok : blkC X.N X.env.scope scope [(x, i), (y, j)] = true)
    (hi1 : ∀ s H C cl fp, ∀ a ∈ xs, EI (Blk X s H scope C cl fp) B ((wp ρ [i, j]).set i (some (.im (.dat (enc a))))) (.Name y py2) iter1 ((ys a).map (enc1 a)))
    (ht : ∀ s H C cl fp, ∀ a ∈ xs, ∀ b ∈ ys a, ETs (Blk X s H scope C cl fp) B ((wp ((wp ρ [i, j]).set i (some (.im (.dat (enc a))))) [j]).set j (some (.im (.dat (enc1 a b))))) ifs1 (q a b))
    (he : ∀ s H C cl fp, ∀ a ∈ xs, ∀ b ∈ ys a, q a b = true → EE (Blk X s H scope C cl fp) B ((wp ((wp ρ [i, j]).set i (some (.im (.dat (enc a))))) [j]).set j (some (.im (.dat (enc1 a b))))) elt (.dat (f a b)))
    (hl : ∀ n a, a ∈ xs → (((xs.take n).flatMap fun a => ((ys a).filter (q a)).map (f a)).length + (ys a).length ≤ sizeLine)) (hn : XX X B (ρ.set l (some (.im (Li (xs.flatMap fun a => ((ys a).filter (q a)).map (f a)))))) sts R) (hx : X.N[i]? = some x := by rfl) (hy : X.N[j]? = some y := by rfl)
    (hz : X.N[l]? = some z := by rfl) (hzl : X.env.scope.names.lookup z = some .local := by rfl) (hsw : swapsWith (.ListComp elt [⟨.Name x px, iter, [], 0⟩, ⟨.Name y py2, iter1, ifs1, 0⟩] scope pos) (some (.Name z py)) spos.line X.env = pure true := by exact sw_true rfl rfl rfl rfl)
    (hg : ∀ s H C cl fp, EG (Blk X s H scope C cl fp) (.Name x px) (g1 i) [i] := by exact fun _ _ _ _ _ => eg_1 (by assumption)) (hg1 : ∀ s H C cl fp, EG (Blk X s H scope C cl fp) (.Name y py2) (g1 j) [j] := by exact fun _ _ _ _ _ => eg_1 (by assumption))
    (hs : ∀ x, foldedSetIterable iter X.env x = pure x := by intro _; rfl) (hs1 : ∀ env x, foldedSetIterable iter1 env x = pure x := by intro _ _; rfl) : XX X B ρ (.Assign [.Name z py] (.ListComp elt [⟨.Name x px, iter, [], 0⟩, ⟨.Name y py2, iter1, ifs1, 0⟩] scope pos) spos :: sts) R :=
  xx_tL (l := l) (ps_setLc2 (own := [(x, i), (y, j)]) (vs1 := [j]) hc hN hz hzl hsw hi (blkOk_by ok) (fun i h => by simp at h; subst h; simp) (fun s H C cl fp => (hg s H C cl fp).pg) (fun _ _ _ _ _ => pts_nil) (fun s H C cl fp => pi_any fun a : { z : α // z ∈ xs } => hi1 s H C cl fp a.1 a.2) (fun s H C cl fp => (hg1 s H C cl fp).pg)
      (fun s H C cl fp => pts_any fun a : { z : α × β // z.1 ∈ xs ∧ z.2 ∈ ys z.1 } => ht s H C cl fp a.1.1 a.2.1 a.1.2 a.2.2) (fun s H C cl fp => pe_any fun a : { z : α × β // z.1 ∈ xs ∧ z.2 ∈ ys z.1 ∧ q z.1 z.2 = true } => he s H C cl fp a.1.1 a.2.1 a.1.2 a.2.2.1 a.2.2.2) hs hs1)
    (fun σ H Q h => lc2_read (r0 := fun a => (wp ρ [i, j]).set i (some (.im (.dat (enc a))))) (r := fun a b => (wp ((wp ρ [i, j]).set i (some (.im (.dat (enc a))))) [j]).set j (some (.im (.dat (enc1 a b))))) (vs := [i, j]) (vs1 := [j]) (fun _ _ => rfl) (fun _ _ => wp_no.set) (fun _ _ _ _ => rfl)
      (fun σ σ' h => by
        have h : σ'.set i none = ((σ.set j none).set i none).set i none := h
        show (σ'.set j none).set i none = (σ.set j none).set i none
        rw [List.set_comm _ _ (Ne.symm hij), h, set_none_set, List.set_comm _ _ hij, set_none_set, List.set_comm _ _ (Ne.symm hij)])
      (fun σ σ' h => h.trans (set_none_set ..)) hl σ H Q h) hn
/-- z = {t: v for x, y in iter} -/
theorem xx_dc2T (l : Nat) {i j : Nat} {z x y : Str} {px py2 pt : Pos} {k0 : Nat} {xs : List α} {ex ey : α → PyData} {f : α → List Int} {v : α → PyData} (hu : X.A.units < cLine) (hc : X.calm = true) (hN : X.N.Nodup) (hij : i ≠ j) (hi : EI X B ρ (.Tuple [.Name x px, .Name y py2] k0 pt) iter (xs.map fun a => .tuple [ex a, ey a])) (ok : blkC X.N X.env.scope scope [(x, i), (y, j)] = true)
    (hk : ∀ s H C cl fp, ∀ a ∈ xs, EE (Blk X s H scope C cl fp) B (((wp ρ [i, j]).set i (some (.im (.dat (ex a))))).set j (some (.im (.dat (ey a))))) ek (.dat (tI (f a))))
    (hv : ∀ s H C cl fp, ∀ a ∈ xs, EE (Blk X s H scope C cl fp) B (((wp ρ [i, j]).set i (some (.im (.dat (ex a))))).set j (some (.im (.dat (ey a))))) ev (.dat (v a))) (hl : xs.length ≤ sizeLine) (hsc : ∀ a ∈ xs, isSc (v a) = true) (hnd : (xs.map f).Nodup) (hn : XX X B (ρ.set l (some (.dT (xs.map fun a => (f a, v a))))) sts R) (hx : X.N[i]? = some x := by rfl) (hy : X.N[j]? = some y := by rfl)
    (hz : X.N[l]? = some z := by rfl) (hzl : X.env.scope.names.lookup z = some .local := by rfl) (hsw : swapsWith (.DictComp ek ev [⟨.Tuple [.Name x px, .Name y py2] k0 pt, iter, [], 0⟩] scope pos) (some (.Name z py)) spos.line X.env = pure true := by exact sw_trueD rfl rfl rfl rfl)
    (hg : ∀ s H C cl fp, EG (Blk X s H scope C cl fp) (.Tuple [.Name x px, .Name y py2] k0 pt) (g2 i j) [i, j] := by exact fun _ _ _ _ _ => eg_2 (by first | rfl | assumption) (by assumption) (by decide)) (hs : ∀ x, foldedSetIterable iter X.env x = pure x := by intro _; rfl) :
    XX X B ρ (.Assign [.Name z py] (.DictComp ek ev [⟨.Tuple [.Name x px, .Name y py2] k0 pt, iter, [], 0⟩] scope pos) spos :: sts) R :=
  xx_tF (l := l) (ps_setDcT hu hc hN hz hzl hsw hi (blkOk_by ok) (fun s H C cl fp => (hg s H C cl fp).pg) (fun s H C cl fp => pts_any fun a : { a // a ∈ xs } => ets_nil) (fun s H C cl fp => pe_any fun a : { a // a ∈ xs ∧ true = true } => hk s H C cl fp a.1 a.2.1) (fun s H C cl fp => pe_any fun a : { a // a ∈ xs ∧ true = true } => hv s H C cl fp a.1 a.2.1) hs)
    (fun σ H Q q => dcT_read (r := fun a => ((wp ρ [i, j]).set i (some (.im (.dat (ex a))))).set j (some (.im (.dat (ey a))))) (gT := g2 i j) (ts := [i, j]) (vs := [i, j]) (fun _ _ => ⟨_, _, rfl, rfl⟩) (wipe_idem2 hij) hl hsc hnd σ H Q q) hn
/-- z = {k: v for x in iter} -/
theorem xx_dc1I (l : Nat) {i : Nat} {z x : Str} {px : Pos} {xs : List α} {enc : α → PyData} {f : α → Int} {v : α → PyData} (hc : X.calm = true) (hN : X.N.Nodup) (hi : EI X B ρ (.Name x px) iter (xs.map enc)) (ok : blkC X.N X.env.scope scope [(x, i)] = true)
    (hk : ∀ s H C cl fp, ∀ a ∈ xs, EE (Blk X s H scope C cl fp) B ((wp ρ [i]).set i (some (.im (.dat (enc a))))) ek (I (f a)))
    (hv : ∀ s H C cl fp, ∀ a ∈ xs, EE (Blk X s H scope C cl fp) B ((wp ρ [i]).set i (some (.im (.dat (enc a))))) ev (.dat (v a))) (hl : xs.length ≤ sizeLine) (hsc : ∀ a ∈ xs, isSc (v a) = true) (hnd : (xs.map f).Nodup) (hn : XX X B (ρ.set l (some (.dI (xs.map fun a => (f a, v a))))) sts R) (hx : X.N[i]? = some x := by rfl)
    (hz : X.N[l]? = some z := by rfl) (hzl : X.env.scope.names.lookup z = some .local := by rfl) (hsw : swapsWith (.DictComp ek ev [⟨.Name x px, iter, [], 0⟩] scope pos) (some (.Name z py)) spos.line X.env = pure true := by exact sw_trueD rfl rfl rfl rfl)
    (hg : ∀ s H C cl fp, EG (Blk X s H scope C cl fp) (.Name x px) (g1 i) [i] := by exact fun _ _ _ _ _ => eg_1 (by assumption)) (hs : ∀ x, foldedSetIterable iter X.env x = pure x := by intro _; rfl) :
    XX X B ρ (.Assign [.Name z py] (.DictComp ek ev [⟨.Name x px, iter, [], 0⟩] scope pos) spos :: sts) R :=
  xx_tF (l := l) (ps_setDcI hc hN hz hzl hsw hi (blkOk_by ok) (fun s H C cl fp => (hg s H C cl fp).pg) (fun s H C cl fp => pts_any fun a : { a // a ∈ xs } => ets_nil) (fun s H C cl fp => pe_any fun a : { a // a ∈ xs ∧ true = true } => hk s H C cl fp a.1 a.2.1) (fun s H C cl fp => pe_any fun a : { a // a ∈ xs ∧ true = true } => hv s H C cl fp a.1 a.2.1) hs)
    (fun σ H Q q => dcI_read (r := fun a => (wp ρ [i]).set i (some (.im (.dat (enc a))))) (gT := g1 i) (ts := [i]) (vs := [i]) (fun _ _ => rfl) (fun σ σ' h => h.trans (set_none_set ..)) hl hsc hnd σ H Q q) hn
end
end K5
/-! Defs2: the houses module: standings, checks. -/
namespace K5
open PySem PySem.Spec PyProof.Rows L2
abbrev nI (ns : List Nat) : List PyData := ns.map fun n => .int (n : Nat)
def rowsStep (rows : List (List Int)) (n : Nat) : List (List Int) := rows.flatMap fun r => (List.range n).map fun (c : Nat) => r ++ [(c : Int)]
def allRows (sz : List Nat) : List (List Int) := sz.foldl rowsStep [[]]
theorem allRows_take {sz : List Nat} {i n : Nat} (h : sz[i]? = some n) : allRows (sz.take (i + 1)) = rowsStep (allRows (sz.take i)) n := by
  unfold allRows
  rw [take_at h, List.foldl_append]
  rfl
theorem rowsStep_len (rows : List (List Int)) (n : Nat) : (rowsStep rows n).length = rows.length * n := by
  unfold rowsStep
  induction rows with
  | nil => simp
  | cons r rows ih => rw [List.flatMap_cons, List.length_append, ih, List.length_map, List.length_range, List.length_cons, Nat.succ_mul, Nat.add_comm]
theorem rowsStep_mem {rows : List (List Int)} {n l : Nat} (h : ∀ r ∈ rows, r.length = l) : ∀ r ∈ rowsStep rows n, r.length = l + 1 := by
  intro r hr
  unfold rowsStep at hr
  obtain ⟨a, ha, hr⟩ := List.mem_flatMap.mp hr
  obtain ⟨c, _, rfl⟩ := List.mem_map.mp hr
  rw [List.length_append, h a ha]
  rfl
theorem allRows_mem (sz : List Nat) : ∀ i ≤ sz.length, ∀ r ∈ allRows (sz.take i), r.length = i := by
  intro i
  induction i with
  | zero =>
    intro _ r hr
    have : r ∈ ([[]] : List (List Int)) := hr
    simp at this
    rw [this]
    rfl
  | succ i ih =>
    intro hi
    have e : sz[i]? = some sz[i] := List.getElem?_eq_getElem (by omega)
    rw [allRows_take e]
    exact rowsStep_mem (ih (by omega))
section
variable {P : Program} {w : World} {K : PySem.W.Frag} {mg : Str → Option Value} {base : Heap}

theorem sc_all_standings : FnScope ["sizes", "rows", "size", "row", "content"] ["sizes"] (defScope s_all_standings) := ⟨rfl, rfl, rfl, by decide +kernel, rfl, by decide +kernel, by decide +kernel⟩
def rAllSt (xs : List Im) (y : Im) : Prop := ∃ t sz, xs = [Sq t (nI sz)] ∧ sz.length ≤ 6 ∧ (∀ n ∈ sz, n ≤ 36) ∧ (∀ k, (allRows (sz.take k)).length ≤ 300) ∧ y = Tu ((allRows sz).map tI)
theorem c_all_standings (T : Txt K mg) : Cal P w K mg base 1 "all_standings" ["sizes"] (spR K rAllSt) := by
  refine Cal.of T.g_all_standings T.d_all_standings (fun _ _ _ _ _ _ us hl => match us, hl with | [_], _ => rfl) fun f fd F => ?_
  refine def_ok F sc_all_standings (by decide) (by rintro xs y ⟨t, sz, rfl, _⟩; rfl) fun cdv A outer s H M E xs y hr hR => ?_
  obtain ⟨t, sz, rfl, h6, h36, h300, rfl⟩ := hR
  have nd := sc_all_standings.nd
  refine xx_set 1 nd (y := Li (([[]] : List (List Int)).map tI)) (ee_lst (ds := [tI []]) (ea_cons (ee_tup (ds := []) ea_nil (Nat.zero_le _)) ea_nil) (by rw [sizeLine_eq]; decide)) ?_
  refine xx_nx (ρ' := [some (.im (Sq t (nI sz))), some (.im (Li ((allRows sz).map tI))), none, none, none]) (x1_for (fun i ρ => ρ = [some (.im (Sq t (nI sz))), some (.im (Li ((allRows (sz.take i)).map tI))), none, none, none]) PassesOwn.never rfl (ei_S (ee_var 0)) (eg_1 (i := 2) nd) rfl ?_ ?_) ?_
  · rintro i d ρ1 hi rfl
    rw [List.getElem?_map] at hi
    obtain ⟨n, hn, rfl⟩ := Option.map_eq_some_iff.mp hi
    have hm : n ≤ 36 := h36 n (List.mem_of_getElem? hn)
    obtain ⟨hlt, _⟩ := List.getElem?_eq_some_iff.mp hn
    have hrows := allRows_mem sz i (by omega)
    refine ⟨_, rfl, xx_lc22 1 (i := 3) (j := 4) (xs := allRows (sz.take i)) (enc := tI) (ys := fun _ => List.range n) (enc1 := fun _ (c : Nat) => .int (c : Nat)) (q := fun _ _ => true) (f := fun r c => tI (r ++ [(c : Int)])) rfl nd (by decide) (ei_lst (ee_var 1)) rfl
        (fun s H C cl fp a ha => ei_rng (ee_var 2) T.n_range (by omega)) (fun s H C cl fp a ha b hb => ets_nil) (fun s H C cl fp a ha b hb _ => ?_) (fun m a ha => ?_) (xx_nil ⟨_, ?_, rfl⟩)⟩
    · have e : tI (a ++ [(b : Int)]) = .tuple (a.map .int ++ [.int (b : Int)]) := by unfold tI; rw [List.map_append]; rfl
      rw [e]
      refine ee_catT (ee_var 3) (ee_tup (ds := [.int (b : Nat)]) (ea_cons (ee_var 4) ea_nil) (sl_le rfl)) ?_
      have := hrows a ha
      rw [List.length_map, this, sizeLine_eq]
      show i + 1 ≤ _
      omega
    · have h1 : (((allRows (sz.take i)).take m).flatMap fun a => ((List.range n).filter fun _ => true).map fun (c : Nat) => tI (a ++ [(c : Int)])).length = (rowsStep ((allRows (sz.take i)).take m) n).length := by
        unfold rowsStep
        rw [List.length_flatMap, List.length_flatMap]
        congr 1
        apply List.map_congr_left
        intro a _
        rw [filter_yes, List.length_map, List.length_map]
      rw [h1, rowsStep_len, List.length_range, List.length_take, sizeLine_eq]
      have h2 := h300 i
      have h3 : min m (allRows (sz.take i)).length * n ≤ 300 * 36 := Nat.mul_le_mul (by omega) hm
      omega
    · refine ⟨rfl, ?_, trivial⟩
      rw [allRows_take hn]
      unfold rowsStep
      rw [List.map_flatMap]
      congr 4
      funext a
      rw [filter_yes, List.map_map]
      rfl
  · rintro ρ1 rfl
    rw [List.length_map, List.take_of_length_le (Nat.le_refl _)]
  · exact xx_ret (ee_tuple (ee_var 1) T.n_tuple) rfl

theorem sc_standings_count : FnScope ["sizes", "count", "size"] ["sizes"] (defScope s_standings_count) := ⟨rfl, rfl, rfl, by decide +kernel, rfl, by decide +kernel, by decide +kernel⟩
def prd (sz : List Nat) : Nat := sz.foldl (· * ·) 1
def rCount (xs : List Im) (y : Im) : Prop := ∃ t sz, xs = [Sq t (nI sz)] ∧ (∀ n ∈ sz, n ≤ 36) ∧ y = I (prd sz : Nat)
theorem c_standings_count (T : Txt K mg) : Cal P w K mg base 1 "standings_count" ["sizes"] (spR K rCount) := by
  refine Cal.of T.g_standings_count T.d_standings_count (fun _ _ _ _ _ _ us hl => match us, hl with | [_], _ => rfl) fun f fd F => ?_
  refine def_ok F sc_standings_count (by decide) (by rintro xs y ⟨t, sz, rfl, _⟩; rfl) fun cdv A outer s H M E xs y hr hR => ?_
  obtain ⟨t, sz, rfl, h36, rfl⟩ := hR
  have nd := sc_standings_count.nd
  refine xx_set 1 nd ee_int ?_
  refine xx_nx (ρ' := [some (.im (Sq t (nI sz))), some (.im (I (prd sz : Nat))), none]) (x1_for (fun i ρ => ρ = [some (.im (Sq t (nI sz))), some (.im (I (prd (sz.take i) : Nat))), none]) PassesOwn.never rfl (ei_S (ee_var 0)) (eg_1 (i := 2) nd) rfl ?_ ?_) ?_
  · rintro i d ρ1 hi rfl
    rw [List.getElem?_map] at hi
    obtain ⟨n, hn, rfl⟩ := Option.map_eq_some_iff.mp hi
    have hm : n ≤ 36 := h36 n (List.mem_of_getElem? hn)
    refine ⟨_, rfl, xx_set 1 nd (ee_mul (ee_var 1) (ee_var 2) (.inr ⟨by omega, by omega⟩)) (xx_nil ⟨_, ?_, rfl⟩)⟩
    have e : (prd (sz.take (i + 1)) : Int) = (prd (sz.take i) : Int) * (n : Int) := by
      unfold prd
      rw [take_at hn, List.foldl_append]
      exact Int.natCast_mul ..
    rw [e]
    exact ⟨rfl, rfl, trivial⟩
  · rintro ρ1 rfl
    rw [List.length_map, List.take_of_length_le (Nat.le_refl _)]
  · exact xx_ret (ee_var 1) rfl

theorem sc_wrong_size : FnScope ["sizes", "at", "size"] ["sizes"] (defScope s_wrong_size) := ⟨rfl, rfl, rfl, by decide +kernel, rfl, by decide +kernel, by decide +kernel⟩
def rWSize (xs : List Im) (y : Im) : Prop := ∃ t sz, xs = [Sq t (nI sz)] ∧ 1 ≤ sz.length ∧ sz.length ≤ 6 ∧ (∀ n ∈ sz, 1 ≤ n ∧ n ≤ 36) ∧ y = .dat .none
theorem c_wrong_size (T : Txt K mg) : Cal P w K mg base 3 "wrong_size" ["sizes"] (spR K rWSize) := by
  refine Cal.of T.g_wrong_size T.d_wrong_size (fun _ _ _ _ _ _ us hl => match us, hl with | [_], _ => rfl) fun f fd F => ?_
  refine def_ok F sc_wrong_size (by decide) (by rintro xs y ⟨t, sz, rfl, _⟩; rfl) fun cdv A outer s H M E xs y hr hR => ?_
  obtain ⟨t, sz, rfl, h1, h6, h36, rfl⟩ := hR
  have nd := sc_wrong_size.nd
  refine xx_ifn (t := !true || !(decide ((1 : Int) ≤ ((nI sz).length : Nat)) && decide (((nI sz).length : Int) ≤ 6))) ((ew_or (et_not (et_val (ee_call (c_is_sequence T) (hr.mono (by decide)) (ea_cons (ee_var 0) ea_nil) ⟨_, _, rfl, seqD_Sq t _, rfl⟩))) fun _ => ew_or1 (et_not (et_le2 ee_int (ee_lenS (ee_var 0) T.n_len) (ee_gint T.c_MOST_CELLS)))).et) ?_ ?_
  · rw [List.length_map]
    simp
    omega
  refine xx_nx (ρ' := [some (.im (Sq t (nI sz))), none, none]) (x1_for (fun i ρ => ρ = [some (.im (Sq t (nI sz))), none, none]) PassesOwn.never rfl (ei_enS (ee_var 0) T.n_enumerate) (eg_2 (i := 1) (j := 2) rfl nd (by decide)) rfl ?_ ?_) ?_
  · rintro i d ρ1 hi rfl
    have hlt : i < sz.length := by
      obtain ⟨h, _⟩ := List.getElem?_eq_some_iff.mp hi
      rw [enD_len, List.length_map] at h
      exact h
    have e : (nI sz)[i]? = some (.int (sz[i] : Nat)) := by rw [List.getElem?_map, List.getElem?_eq_getElem hlt]; rfl
    rw [enD_at e] at hi
    cases hi
    obtain ⟨b1, b2⟩ := h36 _ (List.getElem_mem hlt)
    refine ⟨_, ⟨_, _, rfl, rfl⟩, xx_ifn (t := !(decide ((0 : Int) ≤ (sz[i] : Nat))) || !(decide ((1 : Int) ≤ (sz[i] : Nat)) && decide (((sz[i] : Nat) : Int) ≤ 36))) ((ew_or (et_not (et_val (ee_call (c_is_number T) (hr.mono (by decide)) (ea_cons (ee_var 2) ea_nil) ⟨_, rfl, rfl⟩))) fun _ => ew_or1 (et_not (et_le2 ee_int (ee_var 2) (ee_gint T.c_MOST_CONTENTS)))).et) ?_ (xx_nil ⟨_, ?_, rfl⟩)⟩
    · simp
      omega
    · exact ⟨rfl, trivial⟩
  · rintro ρ1 rfl
    rfl
  · exact xx_ret ee_non rfl
end
end K5
/-! Defs3: the houses module: checks of standings and changes. -/
namespace K5
open PySem PySem.Spec PyProof.Rows L2
theorem u1 {k : Nat} {A : Around} (r : Room k A) : A.units + 1 < cLine := by have := r.un; omega
theorem u0 {k : Nat} {A : Around} (r : Room k A) : A.units < cLine := by have := r.un; omega
theorem u64 {k : Nat} {A : Around} (r : Room k A) : A.units + 64 < cLine := by have := r.un; omega
theorem u65 {k : Nat} {A : Around} (r : Room k A) : A.units + 65 < cLine := by have := r.un; omega
theorem ei_is {X : Cx} {B : Bs} {ρ : DEnv} {tg e : Expr} {ds fs : List PyData} (h : EI X B ρ tg e ds) (q : ds = fs) : EI X B ρ tg e fs := q ▸ h
theorem zip_maps {α β : Type} (f : α → PyData) (g : β → PyData) : ∀ (as : List α) (bs : List β), ((as.map f).zip (bs.map g)).map (fun p => PyData.tuple [p.1, p.2]) = (as.zip bs).map fun p => .tuple [f p.1, g p.2]
  | [], _ => rfl
  | _ :: _, [] => rfl
  | a :: as, b :: bs => by
    have := zip_maps f g as bs
    simp only [List.map_cons, List.zip_cons_cons, this]
theorem en_maps {α : Type} (f : α → PyData) (as : List α) : enD (as.map f) = as.zipIdx.map fun p => .tuple [.int (p.2 : Nat), f p.1] := by
  unfold enD
  rw [List.zipIdx_map, List.map_map]
  rfl
theorem zipIdx_at {α : Type} {as : List α} {i : Nat} {a : α} (h : as[i]? = some a) : as.zipIdx[i]? = some (a, i) := by
  rw [List.getElem?_zipIdx, h]
  simp
theorem zipIdx_fst {α : Type} (as : List α) : as.zipIdx.map (·.1) = as := by
  apply List.ext_getElem?
  intro i
  rw [List.getElem?_map, List.getElem?_zipIdx]
  cases as[i]? <;> rfl
theorem met_new {κ : Type} [DecidableEq κ] {as : List κ} (n : as.Nodup) {i : Nat} {a : κ} (h : as[i]? = some a) : hasK ((as.zipIdx.take i).map fun p => (p.1, PyData.int (p.2 : Nat))) a = false := by
  refine hasK_map (f := fun p : κ × Nat => p.1) (v := fun p => .int (p.2 : Nat)) ?_
  have := nodup_take (f := fun p : κ × Nat => p.1) (l := as.zipIdx) (by rw [zipIdx_fst]; exact n) (zipIdx_at h)
  exact this
theorem met_put {κ : Type} {as : List κ} {i : Nat} {a : κ} (h : as[i]? = some a) : ((as.zipIdx.take (i + 1)).map fun p => (p.1, PyData.int (p.2 : Nat))) = ((as.zipIdx.take i).map fun p => (p.1, PyData.int (p.2 : Nat))) ++ [(a, .int (i : Nat))] := by
  rw [take_at (zipIdx_at h), List.map_append]
  rfl
abbrev pI (p : Int × Int) : PyData := tI [p.1, p.2]
def fitsB (sz : List Nat) (k : List Int) : Bool := (k.zip sz).all fun p => decide (0 ≤ p.1) && decide (p.1 < (p.2 : Int))
section
variable {P : Program} {w : World} {K : PySem.W.Frag} {mg : Str → Option Value} {base : Heap}

theorem sc_fits_sizes : FnScope ["sizes", "value", "content", "size"] ["sizes", "value"] (defScope s_fits_sizes) := ⟨rfl, rfl, rfl, by decide +kernel, rfl, by decide +kernel, by decide +kernel⟩
def rFits (xs : List Im) (y : Im) : Prop := ∃ t sz k, xs = [Sq t (nI sz), .dat (tI k)] ∧ k.length = sz.length ∧ sz.length ≤ 6 ∧ fitsB sz k = true ∧ y = Bl true
theorem c_fits_sizes (T : Txt K mg) : Cal P w K mg base 3 "fits_sizes" ["sizes", "value"] (spR K rFits) := by
  refine Cal.of T.g_fits_sizes T.d_fits_sizes (fun _ _ _ _ _ _ us hl => match us, hl with | [_, _], _ => rfl) fun f fd F => ?_
  refine def_ok F sc_fits_sizes (by decide) (by rintro xs y ⟨t, sz, k, rfl, _⟩; rfl) fun cdv A outer s H M E xs y hr hR => ?_
  obtain ⟨t, sz, k, rfl, hl, h6, hf, rfl⟩ := hR
  have nd := sc_fits_sizes.nd
  refine xx_ifn (t := !true || !decide ((((k.map PyData.int).length : Nat) : Int) = (((nI sz).length : Nat) : Int))) ((ew_or (et_not (et_val (ee_call (c_is_sequence T) (hr.mono (by decide)) (ea_cons (ee_var 1) ea_nil) ⟨Tu (k.map .int), _, rfl, rfl, rfl⟩))) fun _ => ew_or1 (ec_et (ec_neI (ee_lenT (ee_var 1) T.n_len) (ee_lenS (ee_var 0) T.n_len)))).et) ?_ ?_
  · rw [List.length_map, List.length_map, hl]
    simp
  · refine xx_ret (y := Bl (((k.zip sz).map fun p => decide (0 ≤ p.1) && decide (p.1 < (p.2 : Int))).all id)) (ee_all rfl (ee_is (ee_lc2n (i := 2) (j := 3) (xs := k.zip sz) (ex := fun p => .int p.1) (ey := fun p => .int (p.2 : Nat)) (f := fun p => .bool (decide (0 ≤ p.1) && decide (p.1 < (p.2 : Int)))) rfl nd (by decide) (ei_is (ei_zip (t := true) (u := t) (ee_var 1) (ee_var 0) T.n_zip) (zip_maps _ _ _ _)) rfl
      (fun s H C cl fp a ha => ee_and (ee_call (c_is_number T) (hr.mono (by decide)) (ea_cons (ee_var 2) ea_nil) ⟨_, rfl, rfl⟩) fun _ => ee_one (ee_lt (ee_var 2) (ee_var 3))) (sl_of ?_)) ?_) T.n_all) ?_
    · rw [List.length_zip]
      omega
    · rw [List.map_map]
      rfl
    · rw [List.all_map]
      exact congrArg Bl hf

theorem sc_wrong_standing : FnScope ["sizes", "standings", "met", "at", "standing"] ["sizes", "standings"] (defScope s_wrong_standing) := ⟨rfl, rfl, rfl, by decide +kernel, rfl, by decide +kernel, by decide +kernel⟩
/-- standings that a house may have -/
structure StOk (sz : List Nat) (ks : List (List Int)) : Prop where
  few : sz.length ≤ 6
  some_ : 1 ≤ ks.length
  most : ks.length ≤ 300
  nd : ks.Nodup
  len : ∀ k ∈ ks, k.length = sz.length
  fit : ∀ k ∈ ks, fitsB sz k = true
def rWSt (xs : List Im) (y : Im) : Prop := ∃ t u sz ks, xs = [Sq t (nI sz), Sq u (ks.map tI)] ∧ StOk sz ks ∧ y = .dat .none
theorem c_wrong_standing (T : Txt K mg) : Cal P w K mg base 4 "wrong_standing" ["sizes", "standings"] (spR K rWSt) := by
  refine Cal.of T.g_wrong_standing T.d_wrong_standing (fun _ _ _ _ _ _ us hl => match us, hl with | [_, _], _ => rfl) fun f fd F => ?_
  refine def_ok F sc_wrong_standing (by decide) (by rintro xs y ⟨t, u, sz, k, rfl, _⟩; rfl) fun cdv A outer s H M E xs y hr hR => ?_
  obtain ⟨t, u, sz, ks, rfl, ok, rfl⟩ := hR
  have nd := sc_wrong_standing.nd
  refine xx_ifn (t := !true || decide ((((ks.map tI).length : Nat) : Int) = 0)) ((ew_or (et_not (et_val (ee_call (c_is_sequence T) (hr.mono (by decide)) (ea_cons (ee_var 1) ea_nil) ⟨_, _, rfl, seqD_Sq u _, rfl⟩))) fun _ => ew_or1 (ec_et (ec_eqI (ee_lenS (ee_var 1) T.n_len) ee_int))).et) ?_ ?_
  · have := ok.some_
    rw [List.length_map]
    simp
    intro e
    rw [e] at this
    exact absurd this (by decide)
  refine xx_own 2 nd ef_dT ?_
  let J : Nat → DEnv := fun i => [some (.im (Sq t (nI sz))), some (.im (Sq u (ks.map tI))), some (.dT ((ks.zipIdx.take i).map fun p => (p.1, PyData.int (p.2 : Nat)))), none, none]
  refine xx_nx (ρ' := J ks.length) (x1_for (fun i ρ => ρ = J i) PassesOwn.never rfl (ei_enS (ee_var 1) T.n_enumerate) (eg_2 (i := 3) (j := 4) rfl nd (by decide)) rfl ?_ ?_) ?_
  · rintro i d ρ1 hi rfl
    rw [en_maps, List.getElem?_map] at hi
    obtain ⟨⟨k, j⟩, hz, rfl⟩ := Option.map_eq_some_iff.mp hi
    have hk : ks[i]? = some k := by
      rw [List.getElem?_zipIdx] at hz
      cases e : ks[i]? with
      | none => rw [e] at hz; cases hz
      | some z => rw [e] at hz; cases hz; rfl
    rw [zipIdx_at hk] at hz
    cases hz
    have hm := List.mem_of_getElem? hk
    have hlt := (List.getElem?_eq_some_iff.mp hk).1
    have most := ok.most
    refine ⟨_, ⟨_, _, rfl, rfl⟩, xx_ifn (t := !true || hasK ((ks.zipIdx.take i).map fun p => (p.1, PyData.int (p.2 : Nat))) k) ((ew_or (et_not (et_val (ee_call (c_fits_sizes T) (hr.mono (by decide)) (ea_cons (ee_var 0) (ea_cons (ee_var 4) ea_nil)) ⟨t, sz, k, rfl, ok.len k hm, ok.few, ok.fit k hm, rfl⟩))) fun _ => ew_or1 (ec_et (ec_inT (i := 2) (u1 hr) (ee_tupleT (ee_var 4) T.n_tuple) (.inl rfl)))).et) ?_ ?_⟩
    · rw [met_new ok.nd hk]
      rfl
    · refine xx_putT (i := 2) (u1 hr) rfl (ee_tupleT (ee_var 4) T.n_tuple) (ee_var 3) rfl (met_new ok.nd hk) ?_ (xx_nil ⟨J (i + 1), ?_, rfl⟩)
      · rw [List.length_map, List.length_take, List.length_zipIdx, sizeLine_eq]
        omega
      · refine ⟨rfl, rfl, ?_, trivial⟩
        rw [met_put hk]
  · rintro ρ1 rfl
    rw [enD_len, List.length_map]
  · exact xx_ret ee_non rfl

theorem sc_wrong_change : FnScope ["count", "changes", "met", "at", "pair", "one"] ["count", "changes"] (defScope s_wrong_change) := ⟨rfl, rfl, rfl, by decide +kernel, rfl, by decide +kernel, by decide +kernel⟩
/-- changes between that many things -/
structure ChOk (n : Nat) (ch : List (Int × Int)) : Prop where
  most : ch.length ≤ 100000
  nd : ch.Nodup
  bd : ∀ p ∈ ch, 0 ≤ p.1 ∧ p.1 < n ∧ 0 ≤ p.2 ∧ p.2 < n ∧ p.1 ≠ p.2
def rWCh (xs : List Im) (y : Im) : Prop := ∃ u n ch, xs = [I (n : Nat), Sq u (ch.map pI)] ∧ ChOk n ch ∧ y = .dat .none
theorem c_wrong_change (T : Txt K mg) : Cal P w K mg base 4 "wrong_change" ["count", "changes"] (spR K rWCh) := by
  refine Cal.of T.g_wrong_change T.d_wrong_change (fun _ _ _ _ _ _ us hl => match us, hl with | [_, _], _ => rfl) fun f fd F => ?_
  refine def_ok F sc_wrong_change (by decide) (by rintro xs y ⟨u, n, ch, rfl, _⟩; rfl) fun cdv A outer s H M E xs y hr hR => ?_
  obtain ⟨u, n, ch, rfl, ok, rfl⟩ := hR
  have nd := sc_wrong_change.nd
  let ks : List (List Int) := ch.map fun p => [p.1, p.2]
  have ekm : ch.map pI = ks.map tI := by rw [List.map_map]; rfl
  have knd : ks.Nodup := by
    refine List.pairwise_map.mpr (ok.nd.imp fun {a b} h e => h ?_)
    injection e with e1 e2
    injection e2 with e2
    exact Prod.ext e1 e2
  rw [ekm]
  refine xx_ifn (t := !true) (et_not (et_val (ee_call (c_is_sequence T) (hr.mono (by decide)) (ea_cons (ee_var 1) ea_nil) ⟨_, _, rfl, seqD_Sq u _, rfl⟩))) rfl ?_
  refine xx_own 2 nd ef_dT ?_
  let J : Nat → DEnv := fun i => [some (.im (I (n : Nat))), some (.im (Sq u (ks.map tI))), some (.dT ((ks.zipIdx.take i).map fun p => (p.1, PyData.int (p.2 : Nat)))), none, none, none]
  refine xx_nx (ρ' := J ks.length) (x1_for (fun i ρ => ρ = J i) PassesOwn.never rfl (ei_enS (ee_var 1) T.n_enumerate) (eg_2 (i := 3) (j := 4) rfl nd (by decide)) rfl ?_ ?_) ?_
  · rintro i d ρ1 hi rfl
    rw [en_maps, List.getElem?_map] at hi
    obtain ⟨⟨k, j⟩, hz, rfl⟩ := Option.map_eq_some_iff.mp hi
    have hk : ks[i]? = some k := by
      rw [List.getElem?_zipIdx] at hz
      cases e : ks[i]? with
      | none => rw [e] at hz; cases hz
      | some z => rw [e] at hz; cases hz; rfl
    rw [zipIdx_at hk] at hz
    cases hz
    have hm := List.mem_of_getElem? hk
    have hlt := (List.getElem?_eq_some_iff.mp hk).1
    rw [List.length_map] at hlt
    have most := ok.most
    obtain ⟨⟨a, b⟩, hp, rfl⟩ := List.mem_map.mp hm
    obtain ⟨b1, b2, b3, b4, b5⟩ := ok.bd _ hp
    refine ⟨_, ⟨_, _, rfl, rfl⟩, xx_ifn (t := !true || (!decide (((([a, b].map PyData.int).length : Nat) : Int) = 2) || !(([a, b].map fun z => decide (0 ≤ z) && decide (z < (n : Int))).all id))) ((ew_or (et_not (et_val (ee_call (c_is_sequence T) (hr.mono (by decide)) (ea_cons (ee_var 4) ea_nil) ⟨Tu _, _, rfl, rfl, rfl⟩))) fun _ => ew_or (ec_et (ec_neI (ee_lenT (ee_var 4) T.n_len) ee_int)) fun _ => ew_or1 (et_not (et_val (ee_all rfl (ee_is (ee_lc0 (i := 5) (xs := [a, b]) (enc := PyData.int) (f := fun z => .bool (decide (0 ≤ z) && decide (z < (n : Int)))) rfl nd (ei_tup (ee_var 4)) rfl
      (fun s H C cl fp z hz => ee_and (ee_call (c_is_number T) (hr.mono (by decide)) (ea_cons (ee_var 5) ea_nil) ⟨_, rfl, rfl⟩) fun _ => ee_one (ee_lt (ee_var 5) (ee_var 0))) (sl_le rfl)) rfl) T.n_all)))).et) ?_ ?_⟩
    · simp [b1, b2, b3, b4]
    refine xx_ifn (t := decide (a = b) || hasK ((ks.zipIdx.take i).map fun p => (p.1, PyData.int (p.2 : Nat))) [a, b]) ((ew_or (ec_et (ec_eqI (ee_ixTn (i := 0) (ee_var 4) ee_int rfl) (ee_ixTn (i := 1) (ee_var 4) ee_int rfl))) fun _ => ew_or1 (ec_et (ec_inT (i := 2) (u1 hr) (ee_tupleT (ee_var 4) T.n_tuple) (.inl rfl)))).et) ?_ ?_
    · rw [met_new knd hk, decide_eq_false b5]
      rfl
    · refine xx_putT (i := 2) (u1 hr) rfl (ee_tupleT (ee_var 4) T.n_tuple) (ee_var 3) rfl (met_new knd hk) ?_ (xx_nil ⟨J (i + 1), ?_, rfl⟩)
      · rw [List.length_map, List.length_take, List.length_zipIdx, sizeLine_eq]
        omega
      · refine ⟨rfl, rfl, ?_, trivial⟩
        rw [met_put hk]
  · rintro ρ1 rfl
    rw [enD_len, List.length_map]
  · exact xx_ret ee_non rfl
end
end K5
/-! LayS: len of a house; a house is made. -/
namespace K5
open PySem PySem.Spec PyProof.Rows L2
section
variable {X : Cx}
/-- len(x) of an instance whose class has the method -/
def rLenI (X : Cx) (C : Addr) (sp : Sp) : List V → Hp → VK → Prop := fun vs H Q => ∃ x dx fs, vs = [.ref x] ∧ H x = some (.ins C dx fs) ∧ sp [.ref x] H (fun v H' => ∃ n : Int, v = .int n ∧ 0 ≤ n ∧ n < 2 ^ 63 ∧ Q (.int n) H') E0
theorem cr_lenI {C f : Addr} {fd : FuncData} {sp : Sp} {k : Nat} {y : Str} (me : Meth X.K C "__len__" f) (F : FnOk X.prog X.w X.K X.mg X.base CX0 k f fd [y] sp) (hb : Binds X.K fd [y] []) (hr : Room (k + 1) X.A) : CallR X (.builtin "len") (rLenI X C sp) := by
  intro pins s σ H vs us Q J r h
  obtain ⟨x, dx, fs, rfl, hx, h⟩ := h
  rw [Vals.ref1 r]
  obtain ⟨mA, O, _⟩ := ins_get J.hok hx
  refine Calls.call_function_entry kind_len plain_len entry_len (args_len1 _) ?_
  unfold Builtin.«len»
  refine wpAny_bind (m := oneArg "len" _) (wpAny_pure ?_)
  obtain ⟨od, hod, _⟩ := lookIn_ns O.ns
  have ia : PySem.W.InstAt s.heap x (PySem.W.instObj C dx) C (some od) := ⟨O.obj, rfl, rfl, hod⟩
  refine wpAny_bind (m := callSpecial? (.ref x) (Str.ofString "__len__")) (PySem.W.special_fn J.kIn ia me.at_ (beq_iff_eq.mp me.fn) ?_)
  refine wpAny_call (codeAny_mono (F.run X.A.in1 X.stack s H ⟨[.ref x], []⟩ [.ref x] [.ref x] _ E0 hr.in1 J.env0.in1 (hb s [.ref x] J.kIn rfl) (.cons rfl .nil) h) fun r s' hq => ?_)
  cases r with
  | error e => exact pass0 pins σ H s e s' J hq
  | ok fl =>
    cases fl with
    | ret u =>
      obtain ⟨v, H', J2, rv, n, rfl, n0, n1, q⟩ := J.after hq
      obtain ⟨t, rfl⟩ := rv
      refine wpAny_bind (wpAny_holding (wpAny_pure ?_))
      refine wpAny_bind (wpAny_letGo ?_)
      show wpAny _ _ (if n < 0 then _ else _) _ _ _
      rw [if_neg (by omega)]
      show wpAny _ _ (if n ≥ 2 ^ 63 then _ else _) _ _ _
      rw [if_neg (by omega)]
      exact wpAny_bind (wpAny_mkInt (wpAny_pure ⟨_, rfl, .int n, H', J2.tok _, ⟨_, rfl⟩, q⟩))
    | next => exact False.elim hq
    | brk => exact False.elim hq
    | cont => exact False.elim hq
end

/-! ### an instance that is being made -/
def insφ (K : PySem.W.Frag) (C x dx : Addr) (fds : List (Str × PyData)) (v : V) (M H : Hp) : Prop := ∃ vs, v = .ref x ∧ M x = none ∧ H x = some (.ins C dx ((fds.map (·.1)).zip vs)) ∧ DqAll K M vs (fds.map (·.2))
def insE (K : PySem.W.Frag) (C x dx : Addr) (fds : List (Str × PyData)) : En := .ext (insφ K C x dx fds)
theorem insE_stay (K : PySem.W.Frag) (C x dx : Addr) (fds : List (Str × PyData)) : StayE (insE K C x dx fds) ∧ RefE (insE K C x dx fds) := by
  refine ⟨fun v M H M' H' ⟨vs, e, n, h, r⟩ s k => ?_, fun v M H ⟨vs, e, n, h, r⟩ => ⟨x, _, e, n, h, rfl⟩⟩
  obtain ⟨h1, h2⟩ := k x e _ h
  exact ⟨vs, e, h2, h1, dps_up s _ _ r⟩
theorem putF_new {f : Str} {v : V} : ∀ {ns : List Str} {vs : List V}, f ∉ ns → ns.length = vs.length → putF f v (ns.zip vs) = (ns ++ [f]).zip (vs ++ [v])
  | [], [], _, _ => rfl
  | [], _ :: _, _, h => by cases h
  | _ :: _, [], _, h => by cases h
  | n :: ns, w :: vs, h, hl => by
    have ih := putF_new (f := f) (v := v) (ns := ns) (vs := vs) (fun z => h (List.mem_cons_of_mem _ z)) (by simpa using hl)
    show (if n = f then _ else _) = _
    rw [if_neg (fun e => h (by rw [e]; exact List.mem_cons_self))]
    exact congrArg (List.cons (n, w)) ih
theorem zip_look {K : PySem.W.Frag} {M : Hp} {f : Str} {d : PyData} : ∀ {fds : List (Str × PyData)} {vs : List V}, DqAll K M vs (fds.map (·.2)) → fds.lookup f = some d → ∃ v, ((fds.map (·.1)).zip vs).lookup f = some v ∧ Dq K M v d
  | [], _, _, h => by cases h
  | (g, e) :: fds, _, r, h => by
    cases r with
    | @cons v vs _ _ a r =>
      show ∃ w, List.lookup f ((g, v) :: (fds.map (·.1)).zip vs) = some w ∧ _
      rw [List.lookup_cons] at h ⊢
      by_cases q : f == g
      · rw [q] at h ⊢
        cases h
        exact ⟨v, rfl, a⟩
      · have q' : (f == g) = false := by simpa using q
        rw [q'] at h ⊢
        exact zip_look r h
section
variable {X : Cx} {B : Bs} {ρ : DEnv} {pos pn po : Pos} {e : Expr} {sts : List Stmt} {R : Res → Prop}
/-- self.f = e -/
theorem xx_selfSet {i : Nat} {y f : Str} {C x dx : Addr} {fds : List (Str × PyData)} {d : PyData} (h : ρ[i]? = some (some (insE X.K C x dx fds))) (cl : Cls X.K C) (na : NoAttr X.K C f) (he : EE X B ρ e (.dat d)) (nf : (fds.map (·.1)).contains f = false) (hl : Nat.blt fds.length 1000 = true) (hn : XX X B (ρ.set i (some (insE X.K C x dx (fds ++ [(f, d)])))) sts R)
    (hN : X.N[i]? = some y := by rfl) (hv : Vis X.env.scope y := by first | exact Or.inl rfl | exact Or.inr (Or.inl rfl) | exact Or.inr (Or.inr rfl)) (hd : (y == ("__debug__" : Str)) = false := by decide) (hcd : (y == ("__classdict__" : Str)) = false := by decide)
    (hs : swapsWith e (some (.Attribute (.Name y pn) f po)) pos.line X.env = pure false := by rfl) : XX X B ρ (.Assign [.Attribute (.Name y pn) f po] e pos :: sts) R :=
  xx_nx (ρ' := ρ.set i (some (insE X.K C x dx (fds ++ [(f, d)])))) (ps_imp (ps_fld (pe_var hN hv hd hcd) he hs) fun D σ H ⟨M, k0, q⟩ => ⟨M, k0, fun z v M1 H1 ez g1 r1 => by
    subst ez
    have k1 := k0.gr g1
    obtain ⟨w, h1, vs, ew, n1, h2, r2⟩ := k1.at_ i _ h
    subst ew
    have hlen := dps_len r2
    have nf : f ∉ fds.map (·.1) := fun m => by rw [List.contains_iff_mem.mpr m] at nf; cases nf
    have hl : fds.length < 1000 := Nat.blt_eq ▸ hl
    rw [List.length_map] at hlen
    refine ⟨.ref x, h1, x, C, dx, _, rfl, h2, cl, na, ?_, ?_⟩
    · rw [List.length_zip, List.length_map]
      omega
    · rw [putF_new nf (by rw [List.length_map, hlen])]
      refine q _ rfl σ M1 _ g1.mm (k1.wri h h1 rfl n1 ⟨vs ++ [v], rfl, n1, ?_, ?_⟩ (insE_stay ..) rfl)
      · rw [upd_same, List.map_append]
        rfl
      · rw [List.map_append]
        exact dps_app r2 (.cons r1 .nil)⟩) hn
/-- self.f -/
theorem ee_self {i : Nat} {y f : Str} {C x dx : Addr} {fds : List (Str × PyData)} {d : PyData} (h : ρ[i]? = some (some (insE X.K C x dx fds))) (cl : Cls X.K C) (na : NoAttr X.K C f) (hf : fds.lookup f = some d)
    (hN : X.N[i]? = some y := by rfl) (hv : Vis X.env.scope y := by first | exact Or.inl rfl | exact Or.inr (Or.inl rfl) | exact Or.inr (Or.inr rfl)) (hd : (y == ("__debug__" : Str)) = false := by decide) (hcd : (y == ("__classdict__" : Str)) = false := by decide)
    (hb : attributeBase (.Name y pn) f X.env (eval (.Name y pn) X.env) = eval (.Name y pn) X.env := by rfl) : EE X B ρ (.Attribute (.Name y pn) f pos) (.dat d) :=
  pe_imp (pe_fld (pe_var hN hv hd hcd) hb) fun σ H Q ⟨M, k, q⟩ => by
    obtain ⟨w, h1, vs, ew, n1, h2, r2⟩ := k.at_ i _ h
    subst ew
    obtain ⟨v, h3, h4⟩ := zip_look r2 hf
    exact ⟨.ref x, h1, x, C, dx, _, v, rfl, h2, cl, na, h3, q _ _ M H rfl k.refl h4⟩
end
end K5
/-! LayT: two lists of lists that grow. -/
namespace K5
open PySem PySem.Spec PyProof.Rows L2

structure Grid where
  a : Addr
  ps : List Addr
def Grid.all (g : Grid) : List Addr := g.a :: g.ps
structure Holds (g : Grid) (rows : List (List Int)) (H : Hp) : Prop where
  root : H g.a = some (.lst (g.ps.map .ref))
  len : g.ps.length = rows.length
  row : ∀ (i : Nat) (p : Addr) (r : List Int), g.ps[i]? = some p → rows[i]? = some r → H p = some (.lst (r.map .int))
theorem Holds.some_ {g : Grid} {rows : List (List Int)} {H : Hp} (h : Holds g rows H) {z : Addr} (hz : z ∈ g.all) : ∃ l, H z = some (.lst l) := by
  rcases List.mem_cons.mp hz with e | hz
  · exact ⟨_, by rw [e]; exact h.root⟩
  · obtain ⟨i, hi⟩ := List.getElem?_of_mem hz
    have hl := (List.getElem?_eq_some_iff.mp hi).1
    rw [h.len] at hl
    exact ⟨_, h.row i z _ hi (List.getElem?_eq_getElem hl)⟩
theorem Holds.same {g : Grid} {rows : List (List Int)} {H H' : Hp} (h : Holds g rows H) (k : ∀ z ∈ g.all, ∀ o, H z = some o → H' z = some o) : Holds g rows H' :=
  ⟨k _ List.mem_cons_self _ h.root, h.len, fun i p r hp hr => k p (List.mem_cons_of_mem _ (List.mem_of_getElem? hp)) _ (h.row i p r hp hr)⟩
abbrev GG := Bool → Grid
abbrev RR := Bool → List (List Int)
def Bg (B : Bs) (G : GG) (r : RR) : Bs := ⟨B.F, B.M, fun z => ∃ c, z ∈ (G c).all, fun H => ∀ c, Holds (G c) (r c) H, fun H H' k h c => (h c).same fun z hz o => k z o ⟨c, hz⟩⟩
structure GOk (B : Bs) (G : GG) : Prop where
  nw : ∀ a, ¬ B.W a
  triv_ : ∀ H, B.V H
  nd : ∀ c, (G c).all.Nodup
  dj : ∀ z, z ∈ (G true).all → z ∉ (G false).all
  f : ∀ c, ∀ z ∈ (G c).all, B.F z = none
theorem GOk.one {B : Bs} {G : GG} (g : GOk B G) {c d : Bool} {z : Addr} (h : z ∈ (G c).all) (h' : z ∈ (G d).all) : c = d := by
  cases c <;> cases d <;> first | rfl | exact absurd h' (g.dj z h) | exact absurd h (g.dj z h')
def addAt (rows : List (List Int)) (s : Nat) (x : Int) : List (List Int) := rows.set s (rows.getD s [] ++ [x])
theorem addAt_len (rows : List (List Int)) (s : Nat) (x : Int) : (addAt rows s x).length = rows.length := List.length_set ..
def rrAdd (r : RR) (c : Bool) (s : Nat) (x : Int) : RR := fun d => if d = c then addAt (r d) s x else r d

section
variable {K : PySem.W.Frag} {B : Bs} {M H : Hp} {σ : L2.St} {ρ : DEnv} {G : GG} {r : RR}
theorem Ok.toG (k : Ok K B M H σ ρ) (h : ∀ c, Holds (G c) (r c) H) (m : ∀ c, ∀ z ∈ (G c).all, M z = none) (f : ∀ (i : Nat) (e : En) (a : Addr), ρ[i]? = some (some e) → own e = true → σ[i]? = some (some (V.ref a)) → ∀ c, a ∉ (G c).all) (nw : ∀ a, ¬ B.W a) : Ok K (Bg B G r) M H σ ρ :=
  ⟨k.mm, k.mh, fun a o _ e => k.fh a o (nw a) e, k.ft, k.fm, k.at_, fun i e a h1 h2 h3 => ⟨(k.fresh i e a h1 h2 h3).1, fun ⟨c, hc⟩ => f i e a h1 h2 h3 c hc⟩, k.sep, k.stay, fun a ⟨c, hc⟩ => ⟨m c a hc, (by
    obtain ⟨l, hl⟩ := (h c).some_ hc
    exact ⟨_, hl, rfl⟩)⟩, h, k.len⟩
/-- an inner list grows -/
theorem Ok.grow (k : Ok K (Bg B G r) M H σ ρ) (g : GOk B G) {c : Bool} {s : Nat} {p : Addr} {row : List Int} {x : Int} (hp : (G c).ps[s]? = some p) (hr : (r c)[s]? = some row) : Ok K (Bg B G (rrAdd r c s x)) M (upd H p (.lst ((row ++ [x]).map .int))) σ ρ := by
  have hall : p ∈ (G c).all := List.mem_cons_of_mem _ (List.mem_of_getElem? hp)
  have w : (Bg B G r).W p := ⟨c, hall⟩
  obtain ⟨mp, o0, ho0, to0⟩ := k.wm p w
  refine ⟨k.mm, fun b u e => ?_, fun b u nw e => ?_, fun b u e => ?_, k.fm, fun j e hj => ?_, k.fresh, k.sep, k.stay, fun b wb => ?_, fun d => ?_, k.len⟩
  · rw [upd_ne (ne_of_none e mp)]
    exact k.mh b u e
  · rw [upd_ne (fun z => nw (by rw [z]; exact w))]
    exact k.fh b u nw e
  · rw [upd_ne (fun z => by rw [z] at e; exact absurd (show B.F p = some u from e) (by rw [g.f c p hall]; simp))]
    exact k.ft b u e
  · obtain ⟨v, h1, r1⟩ := k.at_ j e hj
    obtain ⟨s1, w1⟩ := k.stay j e hj
    refine ⟨v, h1, repE_up r1 s1 (Same.refl M) (fun b u ho ev h2 t nb => ?_) w1⟩
    subst ev
    have hne : b ≠ p := fun z => (k.fresh j e b hj ho h1).2 (by rw [z]; exact w)
    rw [upd_ne hne]
    exact ⟨h2, nb⟩
  · by_cases z : b = p
    · subst z
      exact ⟨mp, _, upd_same, rfl⟩
    · rw [upd_ne z]
      exact k.wm b wb
  · have hv := k.vol d
    by_cases z : d = c
    · subst z
      have nd := g.nd d
      have pa : (G d).a ≠ p := fun e => (List.nodup_cons.mp nd).1 (by rw [e]; exact List.mem_of_getElem? hp)
      refine ⟨by rw [upd_ne pa]; exact hv.root, ?_, fun i q rw_ hq hrw => ?_⟩
      · unfold rrAdd
        rw [if_pos rfl, addAt_len]
        exact hv.len
      · unfold rrAdd at hrw
        rw [if_pos rfl] at hrw
        unfold addAt at hrw
        have hs := (List.getElem?_eq_some_iff.mp hr).1
        have gD : (r d).getD s [] = row := by rw [List.getD_eq_getElem?_getD, hr]; rfl
        by_cases e : s = i
        · subst e
          rw [List.getElem?_set_self hs, gD] at hrw
          cases hrw
          rw [hp] at hq
          cases hq
          exact upd_same
        · rw [List.getElem?_set_ne e] at hrw
          have qp : q ≠ p := fun z => by
            subst z
            obtain ⟨h1, e1⟩ := List.getElem?_eq_some_iff.mp hp
            obtain ⟨h2, e2⟩ := List.getElem?_eq_some_iff.mp hq
            have pw := List.pairwise_iff_getElem.mp (List.nodup_cons.mp nd).2
            rcases Nat.lt_or_gt_of_ne e with l | l
            · exact pw _ _ h1 h2 l (e1.trans e2.symm)
            · exact pw _ _ h2 h1 l (e2.trans e1.symm)
          rw [upd_ne qp]
          exact hv.row i q rw_ hq hrw
    · have er : rrAdd r c s x d = r d := by unfold rrAdd; rw [if_neg z]
      rw [er]
      exact hv.same fun b hb o e => by
        rw [upd_ne (fun y => by subst y; exact z (g.one hb hall))]
        exact e
/-- they stand still for good -/
theorem Ok.unG (k : Ok K (Bg B G r) M H σ ρ) (g : GOk B G) {i j : Nat} (hi : σ[i]? = some (some (.ref (G true).a))) (hj : σ[j]? = some (some (.ref (G false).a))) (ij : i ≠ j) : ∃ M', Same M M' ∧ Ok K B M' H σ ((ρ.set i (some (.im (Li ((r true).map fun x => .list (x.map .int)))))).set j (some (.im (Li ((r false).map fun x => .list (x.map .int)))))) := by
  classical
  let M' : Hp := fun z => if z ∈ (G true).all ∨ z ∈ (G false).all then H z else M z
  have inG : ∀ z, (z ∈ (G true).all ∨ z ∈ (G false).all) ↔ ∃ c, z ∈ (G c).all := fun z => ⟨fun h => h.elim (fun h => ⟨true, h⟩) fun h => ⟨false, h⟩, fun ⟨c, h⟩ => by cases c; exact .inr h; exact .inl h⟩
  have m0 : ∀ c, ∀ z ∈ (G c).all, M z = none := fun c z hz => (k.wm z ⟨c, hz⟩).1
  have up : Same M M' := fun z o e => by
    show (if _ then _ else _) = _
    by_cases h : z ∈ (G true).all ∨ z ∈ (G false).all
    · obtain ⟨c, hc⟩ := (inG z).mp h
      rw [m0 c z hc] at e
      cases e
    · rw [if_neg h]; exact e
  have mG : ∀ c, ∀ z ∈ (G c).all, M' z = H z := fun c z hz => if_pos ((inG z).mpr ⟨c, hz⟩)
  have mN : ∀ z, ¬ (∃ c, z ∈ (G c).all) → M' z = M z := fun z h => if_neg fun q => h ((inG z).mp q)
  have dat : ∀ c, RepI K M' (.ref (G c).a) (Li ((r c).map fun x => .list (x.map .int))) := fun c => by
    have hv := k.vol c
    refine .lst (by rw [mG c _ List.mem_cons_self]; exact hv.root) ?_
    have aux : ∀ (ps : List Addr) (rows : List (List Int)), (∀ p ∈ ps, p ∈ (G c).all) → ps.length = rows.length → (∀ (i : Nat) p q, ps[i]? = some p → rows[i]? = some q → H p = some (.lst (q.map .int))) → DqAll K M' (ps.map V.ref) (rows.map fun x => .list (x.map .int)) := by
      intro ps
      induction ps with
      | nil =>
        intro rows _ hl _
        cases rows with
        | nil => exact .nil
        | cons _ _ => cases hl
      | cons p ps ih =>
        intro rows hin hl hrow
        cases rows with
        | nil => cases hl
        | cons q rows =>
          refine .cons (.lst ?_ (dqs_int q)) (ih rows (fun p hp => hin p (List.mem_cons_of_mem _ hp)) (by simpa using hl) fun i p2 q2 h1 h2 => hrow (i + 1) p2 q2 (by simpa using h1) (by simpa using h2))
          rw [mG c p (hin p List.mem_cons_self)]
          exact hrow 0 p q rfl rfl
    exact aux _ _ (fun p hp => List.mem_cons_of_mem _ hp) hv.len fun i p q h1 h2 => hv.row i p q h1 h2
  have k1 : Ok K B M' H σ ρ := by
    refine ⟨k.mm.trans up, fun b u e => ?_, fun b u _ e => k.fh b u (fun ⟨c, hc⟩ => ?_) e, k.ft, fun b u e t n => ?_, fun l y hl => ?_, fun l y b hl ho hs => ⟨(k.fresh l y b hl ho hs).1, g.nw b⟩, k.sep, k.stay, fun b w => (g.nw b w).elim, g.triv_ H, k.len⟩
    · by_cases q : ∃ c, b ∈ (G c).all
      · obtain ⟨c, hc⟩ := q
        rw [mG c b hc] at e
        exact e
      · rw [mN b q] at e
        exact k.mh b u e
    · rw [g.f c b hc] at e
      cases e
    · rw [mN b fun ⟨c, hc⟩ => by rw [g.f c b hc] at e; cases e]
      exact k.fm b u e t n
    · obtain ⟨v, h1, r1⟩ := k.at_ l y hl
      obtain ⟨s1, w1⟩ := k.stay l y hl
      refine ⟨v, h1, repE_up r1 s1 up (fun b u ho ev h2 t nb => ⟨h2, ?_⟩) w1⟩
      subst ev
      rw [mN b (k.fresh l y b hl ho h1).2]
      exact nb
  have same : ∀ {τ : L2.St} {l : Nat} {v : Option V}, τ[l]? = some v → τ.set l v = τ := fun {τ l v} h => by
    obtain ⟨hl, e⟩ := List.getElem?_eq_some_iff.mp h
    rw [← e]
    exact List.set_getElem_self hl
  have k2 := (k1.put (i := i) (dat true)).put (i := j) (dat false)
  rw [same hi, same hj] at k2
  exact ⟨M', up, k2⟩
end

/-! ### [[] for x in ..] -/
def tEG (K : PySem.W.Frag) (B : Bs) (ρ : DEnv) (n : Nat) : TE := fun σ H Q => ∃ M, Ok K B M H σ ρ ∧ ∀ a ps M' H', Gr B M H M' H' → (∀ z ∈ Grid.all ⟨a, ps⟩, H z = none ∧ M' z = none) → (Grid.all ⟨a, ps⟩).Nodup → Holds ⟨a, ps⟩ (List.replicate n []) H' → Q (.ref a) H'
section
variable {X : Cx} {B : Bs} {ρ : DEnv} {pos p px : Pos} {iter : Expr} {scope : Scope}
theorem eg_lc {i : Nat} {x : Str} {ds : List PyData} (hc : X.calm = true) (hN : X.N.Nodup) (hi : EI X B ρ (.Name x px) iter ds) (ok : blkC X.N X.env.scope scope [(x, i)] = true) (hl : ds.length ≤ 1000) (hx : X.N[i]? = some x := by rfl)
    (hg : ∀ s H C cl fp, EG (Blk X s H scope C cl fp) (.Name x px) (g1 i) [i] := by exact fun _ _ _ _ _ => eg_1 (by assumption)) (hs : ∀ x, foldedSetIterable iter X.env x = pure x := by intro _; rfl) : PE X (.ListComp (.List [] p) [⟨.Name x px, iter, [], 0⟩] scope pos) (tEG X.K B ρ ds.length) := by
  refine pe_imp (pe_lc (g := tG X.K (g1 i) [i]) (tt := fun σ H Q => ∃ a : { a // a ∈ ds }, tTN X.K B ((wp ρ [i]).set i (some (.im (.dat a.1)))) (fun c => c = true) σ H Q) (te := fun σ H Q => ∃ a : { a // a ∈ ds }, tEF X.K B ((wp ρ [i]).set i (some (.im (.dat a.1)))) (.lst []) σ H Q) hc hN hi (blkOk_by (own := [(x, i)]) ok) (fun s H C cl fp => (hg s H C cl fp).pg) (fun s H C cl fp => pts_any fun a : { a // a ∈ ds } => ets_nil) (fun s H C cl fp => pe_any fun a : { a // a ∈ ds } => ef_nil) hs) fun σ H Q ⟨M, k, q⟩ => ?_
  refine ⟨M, k, fun J M1 H1 gr iok D nD => ?_⟩
  have k1 := k.gr gr
  have hw := k1.off nD
  refine lc_it iok.walk (g := tG X.K (g1 i) [i]) (tt := fun σ H Q => ∃ a : { a // a ∈ ds }, tTN X.K B ((wp ρ [i]).set i (some (.im (.dat a.1)))) (fun c => c = true) σ H Q) (te := fun σ H Q => ∃ a : { a // a ∈ ds }, tEF X.K B ((wp ρ [i]).set i (some (.im (.dat a.1)))) (.lst []) σ H Q) (vs := [i]) (σ := σ) (H1 := H1) (D := D) (Qd := fun H => Q (.ref D) H)
    (fun n H2 => ∃ M2 ps, Gr B M1 H1 M2 H2 ∧ H2 D = some (.lst (ps.map .ref)) ∧ M2 D = none ∧ ps.length = n ∧ (Grid.all ⟨D, ps⟩).Nodup ∧ ∀ z ∈ ps, H1 z = none ∧ M2 z = none ∧ H2 z = some (.lst [])) ?_ ?_ ?_ ?_
  · exact ⟨M1, [], k1.refl.side nD (k1.clr nD) hw, upd_same, k1.clr nD, rfl, by simp [Grid.all], fun z h => by cases h⟩
  · rintro n H2 _ ⟨M2, ps, g2, _⟩
    exact ⟨M2, g2.mm, g2.mh⟩
  · rintro n y H2 H3 hn ⟨M2, ps, g2, hD, mD, hlen, nd, hps⟩ hy
    have e : ds[n]? = some ds[n] := List.getElem?_eq_getElem hn
    obtain ⟨M3, gi, hx⟩ := hy M2 _ g2.mm g2.mh e
    have k2 := k1.gr g2
    have g3 := k2.gi gi
    have k3 := k2.gr g3
    have am : ds[n] ∈ ds := List.getElem_mem hn
    refine ⟨B, M3, wp ρ [i], ds[n], (wp ρ [i]).set i (some (.im (.dat ds[n]))), k3.wipe [i], hx, rfl, fun σ' hσ kk => ⟨hσ.trans (set_none_set ..), ⟨ds[n], am⟩, M3, kk, fun b M4 H4 eb g4 => ?_⟩⟩
    subst eb
    show (if true = true then _ else _)
    rw [if_pos rfl]
    refine ⟨⟨ds[n], am⟩, M4, kk.gr g4, fun z M5 H5 g5 n5 m5 r5 => ?_⟩
    obtain ⟨z', vs, ez, _, h5, r5⟩ := r5
    cases ez
    cases r5
    have g24 : Gr B M2 H2 M4 H4 := g3.trans g4
    have g25 : Gr B M2 H2 M5 H5 := g24.trans g5
    have hD5 := g25.hh D _ hw hD
    have mD5 := g25.fr D _ hD rfl mD
    have zD : z ≠ D := fun e => by
      have := g24.hh D _ hw hD
      rw [← e, n5] at this
      cases this
    have old : ∀ y ∈ ps, H1 y = none ∧ M5 y = none ∧ H5 y = some (.lst []) ∧ y ≠ z := fun y hy => by
      obtain ⟨h1, h2, h3⟩ := hps y hy
      have wy := k1.off h1
      refine ⟨h1, g25.fr y _ h3 rfl h2, g25.hh y _ wy h3, fun e => ?_⟩
      have := g24.hh y _ wy h3
      rw [e, n5] at this
      cases this
    refine ⟨ps.map .ref, hD5, by rw [List.length_map, sizeLine_eq]; omega, M5, ps ++ [z], (g2.trans g25).side nD mD5 hw, by rw [upd_same, List.map_append]; rfl, mD5, by rw [List.length_append, hlen]; rfl, ?_, fun y hy => ?_⟩
    · have nd' : (D :: ps).Nodup := nd
      obtain ⟨n1, n2⟩ := List.nodup_cons.mp nd'
      show (D :: (ps ++ [z])).Nodup
      refine List.nodup_cons.mpr ⟨fun m => ?_, ?_⟩
      · rcases List.mem_append.mp m with m | m
        · exact n1 m
        · exact zD (by rw [List.mem_singleton] at m; exact m.symm)
      · rw [List.nodup_append]
        refine ⟨n2, by simp, fun a ha b hb => ?_⟩
        rw [List.mem_singleton] at hb
        subst hb
        exact (old a ha).2.2.2
    · have yD : y ≠ D := fun e => by
        rcases List.mem_append.mp hy with m | m
        · have := (hps y m).2.2
          have nd' : (D :: ps).Nodup := nd
          exact (List.nodup_cons.mp nd').1 (by rw [← e]; exact m)
        · exact zD (by rw [← e]; rw [List.mem_singleton] at m; exact m.symm)
      rw [upd_ne yD]
      rcases List.mem_append.mp hy with m | m
      · obtain ⟨h1, h2, h3, _⟩ := old y m
        exact ⟨h1, h2, h3⟩
      · rw [List.mem_singleton] at m
        subst m
        exact ⟨g2.non (g24.non n5), m5, h5⟩
  · rintro H2 ⟨M2, ps, g2, hD, mD, hlen, nd, hps⟩
    refine q D ps M2 H2 (gr.trans g2) (fun z hz => ?_) nd ⟨hD, by rw [List.length_replicate]; exact hlen, fun j z row hz hrow => ?_⟩
    · rcases List.mem_cons.mp hz with e | hz
      · rw [e]; exact ⟨gr.non nD, mD⟩
      · obtain ⟨h1, h2, _⟩ := hps z hz
        exact ⟨gr.non h1, h2⟩
    · have : row = [] := by
        obtain ⟨_, e⟩ := List.getElem?_eq_some_iff.mp hrow
        rw [List.getElem_replicate] at e
        exact e.symm
      rw [this]
      exact (hps z (List.mem_of_getElem? hz)).2.2

/-! ### statements -/
/-- the end seen from B -/
def tXG (K : PySem.W.Frag) (B B' : Bs) (ρ : DEnv) (R : Res → Prop) : TS := fun D σ H => ∃ M, Ok K B' M H σ ρ ∧ ∀ r, R r → Ps K B D M r
def tSB (K : PySem.W.Frag) (B : Bs) (ρ : DEnv) (B' : Bs) (ρ' : DEnv) : TS := fun D σ H => ∃ M, Ok K B M H σ ρ ∧ ∀ σ' M' H', Same M M' → Ok K B' M' H' σ' ρ' → D.nx σ' H'
variable {sts : List Stmt} {st : Stmt} {R : Res → Prop} {G : GG} {r : RR}
theorem sb_one {B' : Bs} {ρ' : DEnv} (h : PS X st (tSB X.K B ρ B' ρ')) : PSs X [st] (tSB X.K B ρ B' ρ') := pss_one h
theorem sb_cons {B1 B2 : Bs} {ρ1 ρ2 : DEnv} (h : PS X st (tSB X.K B ρ B1 ρ1)) (hs : PSs X sts (tSB X.K B1 ρ1 B2 ρ2)) : PSs X (st :: sts) (tSB X.K B ρ B2 ρ2) :=
  pss_imp (pss_cons h hs) fun D σ H ⟨M, k, q⟩ => ⟨M, k, fun σ' M' H' s2 k2 => ⟨M', k2, fun σ3 M3 H3 s3 k3 => q σ3 M3 H3 (s2.trans s3) k3⟩⟩
theorem sb_le {B' : Bs} {ρ1 ρ2 : DEnv} (h : PSs X sts (tSB X.K B ρ B' ρ1)) (l : Le ρ2 ρ1) : PSs X sts (tSB X.K B ρ B' ρ2) := pss_imp h fun D σ H ⟨M, k, q⟩ => ⟨M, k, fun σ' M' H' s2 k2 => q σ' M' H' s2 (k2.le l)⟩
theorem xg_cons {B1 B2 : Bs} {ρ2 : DEnv} (h : PS X st (tSB X.K B1 ρ B2 ρ2)) (hs : PSs X sts (tXG X.K B B2 ρ2 R)) : PSs X (st :: sts) (tXG X.K B B1 ρ R) :=
  pss_imp (pss_cons h hs) fun D σ H ⟨M, k, q⟩ => ⟨M, k, fun σ' M' H' s2 k2 => ⟨M', k2, fun r hr => (q r hr).up s2⟩⟩
theorem xg_un {i j : Nat} (g : GOk B G) (ij : i ≠ j) (hi : ρ[i]? = some (some (.raw (.ref (G true).a)))) (hj : ρ[j]? = some (some (.raw (.ref (G false).a)))) (hs : XX X B ((ρ.set i (some (.im (Li ((r true).map fun x => .list (x.map .int)))))).set j (some (.im (Li ((r false).map fun x => .list (x.map .int)))))) sts R) : PSs X sts (tXG X.K B (Bg B G r) ρ R) :=
  pss_imp hs fun D σ H ⟨M, k, q⟩ => by
    obtain ⟨v, h1, e1⟩ := k.at_ i _ hi
    obtain ⟨w, h2, e2⟩ := k.at_ j _ hj
    cases (show v = _ from e1)
    cases (show w = _ from e2)
    obtain ⟨M', up, k'⟩ := k.unG g h1 h2 ij
    exact ⟨M', k', fun r hr => (q r hr).up up⟩
/-- ahead, behind = ([[] for ..], [[] for ..]) -/
theorem xg_par {i j n : Nat} {x y : Str} {a b : Expr} {px py pt : Pos} {kt k2 : Nat} {pt2 : Pos} (hc : X.calm = true) (hN : X.N.Nodup) (hij : i ≠ j) (nw : ∀ a, ¬ B.W a) (tv : ∀ H, B.V H) (ha : PE X a (tEG X.K B ρ n)) (hb : PE X b (tEG X.K B ρ n))
    (h : ∀ G, GOk B G → PSs X sts (tXG X.K B (Bg B G fun _ => List.replicate n []) ((ρ.set i (some (.raw (.ref (G true).a)))).set j (some (.raw (.ref (G false).a)))) R)) (hi : X.N[i]? = some x := by rfl) (hj : X.N[j]? = some y := by rfl)
    (hx : X.env.scope.names.lookup x = some .local := by rfl) (hy : X.env.scope.names.lookup y = some .local := by rfl) (h1 : starEach [a, b] X.env = (false, eval a X.env) :: starEach [b] X.env := by rfl) (h2 : starEach [b] X.env = (false, eval b X.env) :: starEach [] X.env := by rfl)
    (hw : swappedStores [.Tuple [.Name x px, .Name y py] kt pt] (.Tuple [a, b] k2 pt2) X.env = pure (some [x, y]) := by rfl)
    (hs : swapsWithSole [.Tuple [.Name x px, .Name y py] kt pt] (.Tuple [a, b] k2 pt2) pos.line X.env = pure false := by rfl) : XX X B ρ (.Assign [.Tuple [.Name x px, .Name y py] kt pt] (.Tuple [a, b] k2 pt2) pos :: sts) R := by
  have hrest : PSs X sts (fun D σ H => ∃ G : { G : GG // GOk B G }, tXG X.K B (Bg B G.1 fun _ => List.replicate n []) ((ρ.set i (some (.raw (.ref (G.1 true).a)))).set j (some (.raw (.ref (G.1 false).a)))) R D σ H) := pss_any fun G => h G.1 G.2
  refine pss_imp (pss_cons (ps_par hc hN hi hj hij hx hy (pa_cons ha (pa_cons hb pa_nil h2) h1) hw hs) hrest) fun D σ H ⟨M, k, q⟩ => ⟨M, k, fun A ps M1 H1 g1 f1 n1 o1 => ⟨M1, k.gr g1, fun C qs M2 H2 g2 f2 n2 o2 => ⟨.ref A, .ref C, rfl, ?_⟩⟩⟩
  let G : GG := fun c => if c = true then ⟨A, ps⟩ else ⟨C, qs⟩
  have k1 := k.gr g1
  have k2 := k1.gr g2
  have o1' : Holds ⟨A, ps⟩ (List.replicate n []) H2 := o1.same fun z hz o e => g2.hh z o (nw z) e
  have m1 : ∀ z ∈ Grid.all ⟨A, ps⟩, M2 z = none := fun z hz => by
    obtain ⟨l, hl⟩ := o1.some_ hz
    exact g2.fr z _ hl rfl (f1 z hz).2
  have ff : ∀ c, ∀ z ∈ (G c).all, H z = none ∧ M2 z = none := fun c z hz => by
    cases c
    · obtain ⟨e1, e2⟩ := f2 z hz
      exact ⟨g1.non e1, e2⟩
    · exact ⟨(f1 z hz).1, m1 z hz⟩
  have gok : GOk B G := ⟨nw, tv, fun c => (by cases c; exact n2; exact n1), fun z h1 h2 => (by
    obtain ⟨l, hl⟩ := o1.some_ (show z ∈ Grid.all ⟨A, ps⟩ from h1)
    have := (f2 z h2).1
    rw [hl] at this
    cases this), fun c z hz => k.fF (ff c z hz).1⟩
  have kG : Ok X.K (Bg B G fun _ => List.replicate n []) M2 H2 σ ρ := k2.toG (fun c => by cases c; exact o2; exact o1') (fun c z hz => (ff c z hz).2) (fun l e z hl ho hz c hc => by
    obtain ⟨v, h1, r1⟩ := k.at_ l e hl
    obtain ⟨z', o, e1, _, h2, _⟩ := own_ref r1 (k.stay l e hl).2 ho
    rw [hz] at h1
    cases h1
    cases e1
    rw [(ff c z hc).1] at h2
    cases h2) nw
  have raw : ∀ {B' : Bs} {M H : Hp} {σ : L2.St} {ρ : DEnv} {l : Nat} {v : V}, Ok X.K B' M H σ ρ → Ok X.K B' M H (σ.set l (some v)) (ρ.set l (some (.raw v))) := fun {B' M H σ ρ l v} k => by
    refine ⟨k.mm, k.mh, k.fh, k.ft, k.fm, fun m e hm => ?_, fun m e z hm ho hz => ?_, fun m m2 e e2 nn hm hm2 o1 o2 => ?_, fun m e hm => ?_, k.wm, k.vol, by rw [List.length_set, List.length_set]; exact k.len⟩
    · rcases set_cases hm with ⟨rfl, e1, hv⟩ | ⟨nj, hm⟩
      · cases e1
        exact ⟨v, List.getElem?_set_self (by rw [← k.len]; exact hv), rfl⟩
      · rw [List.getElem?_set_ne nj]
        exact k.at_ m e hm
    · rcases set_cases hm with ⟨rfl, e1, hv⟩ | ⟨nj, hm⟩
      · cases e1
        cases ho
      · rw [List.getElem?_set_ne nj] at hz
        exact k.fresh m e z hm ho hz
    · rcases set_cases hm with ⟨rfl, e1, hv⟩ | ⟨nj, hm⟩
      · cases e1
        cases o1
      · rcases set_cases hm2 with ⟨rfl, e1, hv⟩ | ⟨nl, hm2⟩
        · cases e1
          cases o2
        · rw [List.getElem?_set_ne nj, List.getElem?_set_ne nl]
          exact k.sep m m2 e e2 nn hm hm2 o1 o2
    · rcases set_cases hm with ⟨rfl, e1, hv⟩ | ⟨nj, hm⟩
      · cases e1
        exact ⟨trivial, trivial⟩
      · exact k.stay m e hm
  exact ⟨⟨G, gok⟩, M2, raw (raw kG), fun r hr => (q r hr).up (g1.mm.trans g2.mm)⟩
/-- xs[s].append(g) -/
theorem sb_app {i : Nat} {x : Str} {c : Bool} {s : Nat} {g : Int} {a e : Expr} {pn ps apos cpos : Pos} {row : List Int} (gok : GOk B G) (h : ρ[i]? = some (some (.raw (.ref (G c).a)))) (ha : EE X (Bg B G r) ρ a (I (s : Nat))) (he : EE X (Bg B G r) ρ e (I g)) (hr : (r c)[s]? = some row) (hl : row.length < sizeLine) (hN : X.N[i]? = some x := by rfl) (hv : Vis X.env.scope x := by first | exact Or.inl rfl | exact Or.inr (Or.inl rfl) | exact Or.inr (Or.inr rfl))
    (hd : (x == ("__debug__" : Str)) = false := by decide) (hcd : (x == ("__classdict__" : Str)) = false := by decide) (hpi : PlainIx a := by exact fun _ _ => rfl)
    (hbase : attributeBase (.Subscript (.Name x pn) a ps) "append" X.env (eval (.Subscript (.Name x pn) a ps) X.env) = eval (.Subscript (.Name x pn) a ps) X.env := by rfl)
    (hfew : ((backTo cpos (starEach [e] X.env)).all (fun x => !x.1) && (backToKw cpos (keywordEach [] X.env)).all (fun x => x.1.isSome)
      && decide (([e] : List Expr).length + ([] : List Keyword).length + (if ([] : List Keyword).isEmpty then 0 else 1) < 30)) = true := by rfl)
    (hline : (apos.endLine == cpos.line) = true := by rfl) (hs : starEach [e] X.env = (false, eval e X.env) :: starEach [] X.env := by rfl)
    (hsw : swapsWith (.Call (.Attribute (.Subscript (.Name x pn) a ps) "append" apos) [e] [] cpos) none pos.line X.env = pure false := by rfl) :
    PS X (.Expr (.Call (.Attribute (.Subscript (.Name x pn) a ps) "append" apos) [e] [] cpos) pos) (tSB X.K (Bg B G r) ρ (Bg B G (rrAdd r c s g)) ρ) :=
  ps_imp (ps_expr (pe_bm PySem.F.plainAttrs_list PySem.F.slot_list_append PySem.F.type_list_append mt_append (pe_ix ix_list (pe_var hN hv hd hcd) ha hpi) (pa_cons he pa_nil hs) hbase hfew hline hs rfl) hsw) fun D σ H ⟨M, k, q⟩ => by
    obtain ⟨v, h1, e1⟩ := k.at_ i _ h
    cases (show v = _ from e1)
    refine ⟨.ref (G c).a, h1, M, k, fun z u M1 H1 ez g1 r1 => ?_⟩
    subst ez
    have k1 := k.gr g1
    have hold1 := k1.vol c
    have hsl : s < (G c).ps.length := by
      rw [hold1.len]
      exact (List.getElem?_eq_some_iff.mp hr).1
    have hp : (G c).ps[s]? = some (G c).ps[s] := List.getElem?_eq_getElem hsl
    have row1 := hold1.row s _ _ hp hr
    refine ⟨(G c).a, _, (s : Nat), .ref (G c).ps[s], rfl, rI_int r1, .of hold1.root, atI_nat (by rw [List.getElem?_map, hp]; rfl), .inl ⟨rfl, _, .of row1⟩, M1, k1, fun z w M2 H2 ez g2 r2 => ?_⟩
    subst ez
    have k2 := k1.gr g2
    have row2 := (k2.vol c).row s _ _ hp hr
    refine ⟨_, _, w, rfl, rfl, row2, by rw [List.length_map]; exact hl, ?_⟩
    have k3 := k2.grow gok (x := g) hp hr
    rw [List.map_append] at k3
    rw [rI_int r2]
    exact q σ M2 _ (g1.mm.trans g2.mm) k3
/-- for target in iter: the grids grow -/
theorem xg_for {tg iter : Expr} {ds : List PyData} {body : List Stmt} {gT : DEnv → PyData → DEnv → Prop} {ts : List Nat} (Bn : Nat → Bs) (hB : ∀ i, (Bn i).F = (Bn 0).F ∧ (Bn i).M = (Bn 0).M) (hp : PassesOwn (model X.prog X.w) X.A X.env X.xe) (hc : X.calm = true) (hi : EI X (Bn 0) ρ tg iter ds) (hg : EG X tg gT ts)
    (hb : ∀ i d, ds[i]? = some d → ∃ ρ2, gT ρ d ρ2 ∧ PSs X body (tSB X.K (Bn i) ρ2 (Bn (i + 1)) ρ)) (hs : ∀ x, foldedSetIterable iter X.env x = pure x := by intro _; rfl) : PS X (.For tg iter body [] pos) (tSB X.K (Bn 0) ρ (Bn ds.length) ρ) := by
  have hb2 : PSs X body (fun D σ H => ∃ a : { q : Nat × DEnv // PSs X body (tSB X.K (Bn q.1) q.2 (Bn (q.1 + 1)) ρ) }, tSB X.K (Bn a.1.1) a.1.2 (Bn (a.1.1 + 1)) ρ D σ H) := pss_any fun a => a.2
  refine ps_imp (ps_for hp hc hi hg.pg hb2 hs) fun D σ H ⟨M, k, q⟩ => ⟨M, k, fun J M1 H1 gr iok => ?_⟩
  refine for_it iok.walk (g := tG X.K gT ts) (tb := fun D σ H => ∃ a : { q : Nat × DEnv // PSs X body (tSB X.K (Bn q.1) q.2 (Bn (q.1 + 1)) ρ) }, tSB X.K (Bn a.1.1) a.1.2 (Bn (a.1.1 + 1)) ρ D σ H) (D := D) (σ := σ) (H := H1) (fun i σ2 H2 => ∃ M2, Same M1 M2 ∧ Ok X.K (Bn i) M2 H2 σ2 ρ) ⟨M1, Same.refl _, k.gr gr⟩ ?_ ?_ ?_
  · rintro i σ2 H2 _ ⟨M2, s2, k2⟩
    exact ⟨M2, s2, k2.mh⟩
  · rintro i x σ2 H2 H3 hi ⟨M2, s2, k2⟩ hy
    obtain ⟨M3, gi, hx⟩ := hy M2 ds[i] s2 k2.mh (List.getElem?_eq_getElem hi)
    have g3 := k2.gi gi
    obtain ⟨ρ3, hg3, hbody⟩ := hb i ds[i] (List.getElem?_eq_getElem hi)
    exact ⟨Bn i, M3, ρ, ds[i], ρ3, k2.gr g3, hx, hg3, fun σ' _ kk => ⟨⟨(i, ρ3), hbody⟩, M3, kk, fun σ4 M4 H4 s4 k4 => ⟨M4, (s2.trans g3.mm).trans s4, k4⟩⟩⟩
  · rintro σ2 H2 ⟨M2, s2, k2⟩
    exact q σ2 M2 H2 (gr.mm.trans s2) k2
end
end K5
/-! DefsH: a house is made, its len. -/
namespace K5
open PySem PySem.Spec PyProof.Rows L2

def prs (ch : List (Int × Int)) : List (List Int) := ch.map fun p => [p.1, p.2]
def srtP (ch : List (Int × Int)) : List (Int × Int) := (srtL (prs ch)).map fun l => (l.getD 0 0, l.getD 1 0)
theorem mem_srtP_pr {ch : List (Int × Int)} : ∀ l ∈ srtL (prs ch), ∃ p ∈ ch, l = [p.1, p.2] := fun l hl => by
  obtain ⟨p, hp, e⟩ := List.mem_map.mp (mem_srtL.mp hl)
  exact ⟨p, hp, e.symm⟩
theorem srtP_pI (ch : List (Int × Int)) : (srtP ch).map pI = (srtL (prs ch)).map tI := by
  unfold srtP
  rw [List.map_map]
  refine List.map_congr_left fun l hl => ?_
  obtain ⟨p, _, rfl⟩ := mem_srtP_pr l hl
  rfl
theorem mem_srtP {ch : List (Int × Int)} {p : Int × Int} : p ∈ srtP ch ↔ p ∈ ch := by
  unfold srtP
  constructor
  · intro h
    obtain ⟨l, hl, rfl⟩ := List.mem_map.mp h
    obtain ⟨q, hq, rfl⟩ := mem_srtP_pr l hl
    exact hq
  · intro h
    exact List.mem_map.mpr ⟨[p.1, p.2], mem_srtL.mpr (List.mem_map.mpr ⟨p, h, rfl⟩), rfl⟩
theorem srtP_len (ch : List (Int × Int)) : (srtP ch).length = ch.length := by
  unfold srtP srtL prs
  rw [List.length_map, (List.mergeSort_perm _ _).length_eq, List.length_map]
def rowsOf2 (n : Nat) (ch : List (Int × Int)) : RR := ch.foldl (fun r p => rrAdd (rrAdd r true p.1.toNat p.2) false p.2.toNat p.1) fun _ => List.replicate n []
def aheadOf (n : Nat) (ch : List (Int × Int)) : List (List Int) := rowsOf2 n ch true
def behindOf (n : Nat) (ch : List (Int × Int)) : List (List Int) := rowsOf2 n ch false
theorem rrAdd_len (r : RR) (c : Bool) (s : Nat) (x : Int) (d : Bool) : (rrAdd r c s x d).length = (r d).length := by
  unfold rrAdd
  by_cases h : d = c
  · rw [if_pos h, addAt_len]
  · rw [if_neg h]
theorem rows_len (n : Nat) (ch : List (Int × Int)) (c : Bool) : (rowsOf2 n ch c).length = n := by
  unfold rowsOf2
  have aux : ∀ (ch : List (Int × Int)) (r : RR), (r c).length = n → (ch.foldl (fun r p => rrAdd (rrAdd r true p.1.toNat p.2) false p.2.toNat p.1) r c).length = n := fun ch => by
    induction ch with
    | nil => intro r h; exact h
    | cons p ch ih => intro r h; exact ih _ (by rw [rrAdd_len, rrAdd_len]; exact h)
  exact aux ch _ (List.length_replicate ..)
theorem rows_short (n : Nat) (ch : List (Int × Int)) (c : Bool) : ∀ row ∈ rowsOf2 n ch c, row.length ≤ ch.length := by
  unfold rowsOf2
  have add : ∀ (r : RR) (b d : Bool) (s : Nat) (x : Int) (m : Nat), (∀ row ∈ r d, row.length ≤ m) → ∀ row ∈ rrAdd r b s x d, row.length ≤ m + (if d = b then 1 else 0) := fun r b d s x m h row hr => by
    unfold rrAdd at hr
    by_cases e : d = b
    · rw [if_pos e] at hr ⊢
      unfold addAt at hr
      rcases List.mem_or_eq_of_mem_set hr with hr | rfl
      · have := h row hr
        omega
      · rw [List.length_append, List.getD_eq_getElem?_getD]
        cases hg : (r d)[s]? with
        | none => simp
        | some z => have := h z (List.mem_of_getElem? hg); simp; omega
    · rw [if_neg e] at hr ⊢
      exact h row hr
  have aux : ∀ (ch : List (Int × Int)) (r : RR) (m : Nat), (∀ row ∈ r c, row.length ≤ m) → ∀ row ∈ ch.foldl (fun r p => rrAdd (rrAdd r true p.1.toNat p.2) false p.2.toNat p.1) r c, row.length ≤ m + ch.length := fun ch => by
    induction ch with
    | nil => intro r m h; exact h
    | cons p ch ih =>
      intro r m h row hr
      have h1 := add r true c p.1.toNat p.2 m h
      have h2 := add _ false c p.2.toNat p.1 _ h1
      have := ih _ (m + 1) (fun row hr => by
        have := h2 row hr
        cases c <;> simp at this <;> omega) row hr
      rw [List.length_cons]
      omega
  intro row hr
  have := aux ch (fun _ => List.replicate n []) 0 (fun row hr => by rw [List.eq_of_mem_replicate hr]; exact Nat.le_refl _) row hr
  omega
/-- a house as a thing -/
structure Hou where
  sz : List Nat
  st : List (List Int)
  ch : List (Int × Int)
  ah : List (List Int)
  bh : List (List Int)
def Hou.im (h : Hou) : Im := .hs (.tuple (nI h.sz)) (.tuple (h.st.map tI)) (.tuple (h.ch.map pI)) (.tuple (h.ah.map tI)) (.tuple (h.bh.map tI))
def mkHou (sz : List Nat) (ks : List (List Int)) (ch : List (Int × Int)) : Hou := ⟨sz, srtL ks, srtP ch, aheadOf ks.length (srtP ch), behindOf ks.length (srtP ch)⟩
def Hou.fds (h : Hou) : List (Str × PyData) := [("sizes", .tuple (nI h.sz)), ("standings", .tuple (h.st.map tI)), ("changes", .tuple (h.ch.map pI)), ("ahead", .tuple (h.ah.map tI)), ("behind", .tuple (h.bh.map tI))]

def spInit (K : PySem.W.Frag) (C : Addr) (R : List Im → List (Str × PyData) → Prop) : Sp := fun vs H Q _ => ∃ x dx v1 v2 v3 M xs fds, vs = [.ref x, v1, v2, v3] ∧ H x = some (.ins C dx []) ∧ M x = none ∧ Same M H ∧ RepIs K M [v1, v2, v3] xs ∧ R xs fds ∧
  ∀ M' H', Same M M' → (∀ a o, a ≠ x → H a = some o → H' a = some o) → (∀ a o, H a = some o → tupO o = false → M a = none → M' a = none) → Same M' H' → (∀ a o, H a = some o → ∃ o', H' a = some o' ∧ (tupO o = false → tupO o' = false)) → insφ K C x dx fds (.ref x) M' H' → Q .non H'
/-- the frame of __init__ -/
def bsI (H M : Hp) (x : Addr) : Bs := ⟨fun a => if a = x then none else H a, M, fun _ => False, fun _ => True, fun _ _ _ _ => trivial⟩
theorem ok_init {N : List Str} {K : PySem.W.Frag} {C x dx : Addr} {M H : Hp} {vs : List V} {xs : List Im} (s : Same M H) (hx : H x = some (.ins C dx [])) (mx : M x = none) (r : RepIs K M vs xs) : Ok K (bsI H M x) M H (some (.ref x) :: L2.start N vs) (some (insE K C x dx []) :: st0 N xs) where
  mm := Same.refl M
  mh := s
  fh := fun a o _ h => by
    by_cases e : a = x
    · rw [show (bsI H M x).F a = none from if_pos e] at h; cases h
    · rw [show (bsI H M x).F a = H a from if_neg e] at h; exact h
  ft := fun a o h => by
    by_cases e : a = x
    · rw [show (bsI H M x).F a = none from if_pos e] at h; cases h
    · rw [show (bsI H M x).F a = H a from if_neg e] at h; exact ⟨o, h, id⟩
  fm := fun _ _ _ _ n => n
  at_ := fun i e h => by
    cases i with
    | zero =>
      cases h
      exact ⟨.ref x, rfl, [], rfl, mx, hx, .nil⟩
    | succ i =>
      obtain ⟨y, v, rfl, h1, h2, h3⟩ := st0_get r (show (st0 N xs)[i]? = _ from h)
      refine ⟨v, ?_, h3⟩
      obtain ⟨hi, _⟩ := List.getElem?_eq_some_iff.mp h2
      show (L2.start N vs)[i]? = _
      unfold L2.start
      rw [List.getElem?_append_left (by simpa using hi), List.getElem?_map, h2]
      rfl
  fresh := fun i e a h o h' => by
    cases i with
    | zero =>
      cases h'
      exact ⟨if_pos rfl, fun z => z⟩
    | succ i =>
      obtain ⟨y, v, rfl, _⟩ := st0_get r (show (st0 N xs)[i]? = _ from h)
      cases o
  sep := fun i j e e' n h h' o o' => by
    cases i with
    | zero =>
      cases j with
      | zero => exact absurd rfl n
      | succ j =>
        obtain ⟨y, v, rfl, _⟩ := st0_get r (show (st0 N xs)[j]? = _ from h')
        cases o'
    | succ i =>
      obtain ⟨y, v, rfl, _⟩ := st0_get r (show (st0 N xs)[i]? = _ from h)
      cases o
  stay := fun i e h => by
    cases i with
    | zero =>
      cases h
      exact insE_stay ..
    | succ i =>
      obtain ⟨y, v, rfl, _⟩ := st0_get r (show (st0 N xs)[i]? = _ from h)
      exact ⟨trivial, trivial⟩
  wm := fun _ w => w.elim
  vol := trivial
  len := by
    have := repIs_len r
    unfold st0 L2.start
    simp [this]
section
variable {P : Program} {w : World} {K : PySem.W.Frag} {mg : Str → Option Value} {base : Heap}
theorem nN_Sq {K : PySem.W.Frag} {M : Hp} {v : V} {t : Bool} {ds : List PyData} (r : RepI K M v (Sq t ds)) : decide (v = V.non) = false := by
  cases t
  · exact nN_lst r
  · exact nN_tup r
def nInit : List Str := ["self", "sizes", "standings", "changes", "at", "ahead", "behind", "start", "goal", "standing", "pair", "row"]
theorem sc_init : FnScope nInit ["self", "sizes", "standings", "changes"] (defScope s_House__init) := ⟨rfl, rfl, rfl, by decide +kernel, rfl, by decide +kernel, by decide +kernel⟩
def rInit (xs : List Im) (fds : List (Str × PyData)) : Prop := ∃ t u v sz ks ch, xs = [Sq t (nI sz), Sq u (ks.map tI), Sq v (ch.map pI)] ∧ 1 ≤ sz.length ∧ (∀ n ∈ sz, 1 ≤ n ∧ n ≤ 36) ∧ StOk sz ks ∧ ChOk ks.length ch ∧ fds = (mkHou sz ks ch).fds
theorem body_init (T : Txt K mg) {f : Addr} {cdv : Value} {A : Around} {outer : List Env} {s : Shared} {H M : Hp} {E : XK} {x dx : Addr} {xs : List Im} {fds : List (Str × PyData)} (hr : Room 4 (A.deeper (envOfC "House.__init__" (defScope s_House__init) s.heap.objs.size f cdv))) (hR : rInit xs fds) :
    XX (cxOf CX0 P w K mg base nInit "House.__init__" (defScope s_House__init) f cdv A outer s H E).nox (bsI H M x) (some (insE K (He.ga K "House") x dx []) :: st0 nInit.tail xs) (defBody s_House__init) (fun r => ∃ ρ', r = .nx ρ' ∧ ρ'[0]? = some (some (insE K (He.ga K "House") x dx fds))) := by
  obtain ⟨t, u, v, sz, ks, ch, rfl, h1, h36, sok, cok, rfl⟩ := hR
  have cl : Cls K (He.ga K "House") := He.cls_ok (T.says.fact 0)
  have nd := sc_init.nd
  have ekm : ch.map pI = (prs ch).map tI := by unfold prs; rw [List.map_map]; rfl
  have kne : ∀ k ∈ ks, k ≠ [] := fun k hk e => by
    have := sok.len k hk
    rw [e] at this
    rw [← this] at h1
    exact absurd h1 (by decide)
  have h300 := sok.most
  · refine xx_set 4 nd (ee_call (c_wrong_size T) (hr.mono (by decide)) (ea_cons (ee_var 1) ea_nil) ⟨t, sz, rfl, h1, sok.few, h36, rfl⟩) ?_
    refine xx_ifn (ec_et (ec_notN (ee_var 4) fun _ _ _ r => nN_non r)) rfl ?_
    refine xx_if (ec_et (ec_isN (ee_var 2) fun _ _ _ r => nN_Sq r)) (fun e => by cases e) fun _ => ?_
    refine xx_ifn (t := true && decide ((300 : Int) < ((ks.map tI).length : Nat))) ((ew_and (et_val (ee_call (c_is_sequence T) (hr.mono (by decide)) (ea_cons (ee_var 2) ea_nil) ⟨_, _, rfl, seqD_Sq u _, rfl⟩)) fun _ => ew_and1 (ec_et (ec_gt (ee_lenS (ee_var 2) T.n_len) (ee_gint T.c_MOST_STANDINGS)))).et) (by rw [List.length_map]; simp; omega) (xx_nil ?_)
    refine xx_set 4 nd (ee_call (c_wrong_standing T) (hr.mono (by decide)) (ea_cons (ee_var 1) (ea_cons (ee_var 2) ea_nil)) ⟨t, u, sz, ks, rfl, sok, rfl⟩) ?_
    refine xx_ifn (ec_et (ec_notN (ee_var 4) fun _ _ _ r => nN_non r)) rfl ?_
    refine xx_set 4 nd (ee_call (c_wrong_change T) (hr.mono (by decide)) (ea_cons (ee_lenS (ee_var 2) T.n_len) (ea_cons (ee_var 3) ea_nil)) ⟨v, ks.length, ch, by rw [List.length_map], cok, rfl⟩) ?_
    refine xx_ifn (ec_et (ec_notN (ee_var 4) fun _ _ _ r => nN_non r)) rfl ?_
    refine xx_selfSet (i := 0) rfl cl (He.noat_ok (T.says.fact 6)) (ee_tupleS (ee_var 1) T.n_tuple) rfl rfl ?_
    refine xx_selfSet (i := 0) rfl cl (He.noat_ok (T.says.fact 7)) (ee_tuple (ee_sortedL (ks := ks) (u64 hr) (ee_lc0 (i := 9) (xs := ks) (enc := tI) (f := tI) rfl nd (ei_S (ee_var 2)) rfl (fun s H C cl fp a ha => ee_tupleT (ee_var 9) T.n_tuple) (sl_of (by omega))) kne T.n_sorted) T.n_tuple) rfl rfl ?_
    refine xx_selfSet (i := 0) rfl cl (He.noat_ok (T.says.fact 8)) (d := .tuple ((srtP ch).map pI)) (ee_is (ee_tuple (ee_sortedL (ks := prs ch) (u64 hr) (ee_lc0 (i := 10) (xs := prs ch) (enc := tI) (f := tI) rfl nd (ei_is (ei_S (ee_var 3)) ekm) rfl (fun s H C cl fp a ha => ee_tupleT (ee_var 10) T.n_tuple) (sl_of (by unfold prs; rw [List.length_map]; have := cok.most; omega))) (fun k hk => by obtain ⟨p, _, rfl⟩ := List.mem_map.mp hk; simp) T.n_sorted) T.n_tuple) (by rw [srtP_pI])) rfl rfl ?_
    refine xg_par (i := 5) (j := 6) rfl nd (by decide) (fun _ z => z) (fun _ => trivial) (eg_lc (i := 9) rfl nd (ei_S (ee_var 2)) rfl (by rw [List.length_map]; omega)) (eg_lc (i := 9) rfl nd (ei_S (ee_var 2)) rfl (by rw [List.length_map]; omega)) fun G gok => ?_
    rw [List.length_map]
    have e0 : (fun _ => List.replicate ks.length [] : RR) = rowsOf2 ks.length ((srtP ch).take 0) := rfl
    rw [e0]
    refine xg_cons (xg_for (gT := g2 7 8) (ts := [7, 8]) (ds := (srtP ch).map pI) (fun i => Bg (bsI H M x) G (rowsOf2 ks.length ((srtP ch).take i))) (fun _ => ⟨rfl, rfl⟩) PassesOwn.never rfl (ei_tup (ee_self (i := 0) rfl cl (He.noat_ok (T.says.fact 8)) rfl)) (eg_2 rfl nd (by decide)) ?_) ?_
    · intro i d hd
      rw [List.getElem?_map] at hd
      obtain ⟨p, hp, rfl⟩ := Option.map_eq_some_iff.mp hd
      obtain ⟨b1, b2, b3, b4, _⟩ := cok.bd p (mem_srtP.mp (List.mem_of_getElem? hp))
      have hrows : ∀ c, (rowsOf2 ks.length ((srtP ch).take i) c).length = ks.length := fun c => rows_len _ _ c
      have short : ∀ c, ∀ row ∈ rowsOf2 ks.length ((srtP ch).take i) c, row.length < sizeLine := fun c row hrow => by
        have h1 := rows_short _ _ c row hrow
        rw [List.length_take, srtP_len] at h1
        have := cok.most
        rw [sizeLine_eq]
        omega
      have e1 : rowsOf2 ks.length ((srtP ch).take (i + 1)) = rrAdd (rrAdd (rowsOf2 ks.length ((srtP ch).take i)) true p.1.toNat p.2) false p.2.toNat p.1 := by
        unfold rowsOf2
        rw [take_at hp, List.foldl_append]
        rfl
      have q1 : (rowsOf2 ks.length ((srtP ch).take i) true)[p.1.toNat]? = some ((rowsOf2 ks.length ((srtP ch).take i) true)[p.1.toNat]'(by rw [hrows]; omega)) := List.getElem?_eq_getElem _
      have q2 : (rowsOf2 ks.length ((srtP ch).take i) false)[p.2.toNat]? = some ((rowsOf2 ks.length ((srtP ch).take i) false)[p.2.toNat]'(by rw [hrows]; omega)) := List.getElem?_eq_getElem _
      rw [e1]
      refine ⟨_, ⟨_, _, rfl, rfl⟩, sb_le (sb_cons (sb_app (i := 5) (c := true) gok rfl (ee_is (ee_var 7) (congrArg I (Int.toNat_of_nonneg b1).symm)) (ee_var 8) q1 (short _ _ (List.mem_of_getElem? q1))) (sb_one (sb_app (i := 6) (c := false) gok rfl (ee_is (ee_var 8) (congrArg I (Int.toNat_of_nonneg b3).symm)) (ee_var 7) (show (rowsOf2 ks.length ((srtP ch).take i) false)[p.2.toNat]? = _ from q2) (short _ _ (List.mem_of_getElem? q2))))) ?_⟩
      exact ⟨rfl, rfl, rfl, rfl, rfl, rfl, rfl, trivial⟩
    · rw [List.length_map, List.take_of_length_le (Nat.le_refl _)]
      refine xg_un (i := 5) (j := 6) gok (by decide) rfl rfl ?_
      refine xx_selfSet (i := 0) (d := .tuple ((aheadOf ks.length (srtP ch)).map tI)) rfl cl (He.noat_ok (T.says.fact 9)) (ee_tuple (ee_lc0 (i := 11) (xs := aheadOf ks.length (srtP ch)) (enc := fun x => .list (x.map .int)) (f := tI) rfl nd (ei_lst (ee_var 5)) rfl (fun s H C cl fp a ha => ee_tuple (ee_var 11) T.n_tuple) (sl_of (by unfold aheadOf; rw [rows_len]; omega))) T.n_tuple) rfl rfl ?_
      refine xx_selfSet (i := 0) (d := .tuple ((behindOf ks.length (srtP ch)).map tI)) rfl cl (He.noat_ok (T.says.fact 10)) (ee_tuple (ee_lc0 (i := 11) (xs := behindOf ks.length (srtP ch)) (enc := fun x => .list (x.map .int)) (f := tI) rfl nd (ei_lst (ee_var 6)) rfl (fun s H C cl fp a ha => ee_tuple (ee_var 11) T.n_tuple) (sl_of (by unfold behindOf; rw [rows_len]; omega))) T.n_tuple) rfl rfl ?_
      exact xx_nil ⟨_, rfl, rfl⟩
end
end K5
/-! DefsI: House(..), len(house). -/
namespace K5
open PySem PySem.Spec PyProof.Rows L2
section
variable {P : Program} {w : World} {K : PySem.W.Frag} {mg : Str → Option Value} {base : Heap}
abbrev pInit : List Str := ["self", "sizes", "standings", "changes"]
theorem fn_init (T : Txt K mg) {dvs : List V} {f : Addr} {fd : FuncData} (F : FunD K "__init__" "House.__init__" (defArgs s_House__init) (defBody s_House__init) (defScope s_House__init) dvs [] f fd) : FnOk P w K mg base CX0 5 f fd pInit (spInit K (He.ga K "House") rInit) := by
  refine F.ok sc_init (fun vs H Q E ⟨x, dx, v1, v2, v3, M, xs, fds, e, _⟩ => by rw [e]; rfl) (fun cdv A outer s H vs Q E hr ⟨x, dx, v1, v2, v3, M, xs, fds, e, hx, mx, sm, r, hR, q⟩ => ⟨_, (body_init T (H := H) (M := M) (E := E) (x := x) (dx := dx) (outer := outer) (s := s) hr hR).nox, ?_⟩)
  subst e
  have k0 := ok_init (N := nInit.tail) sm hx mx r
  refine ⟨M, k0, fun z hz => ?_⟩
  obtain ⟨ρ', rfl, h0⟩ := hz
  intro σ' M' H' s2 k2
  obtain ⟨v, h1, r1⟩ := k2.at_ 0 _ h0
  have hi : insφ K (He.ga K "House") x dx fds v M' H' := r1
  obtain ⟨vs, ev, mx', hx', _⟩ := id hi
  subst ev
  refine q M' H' s2 (fun a o ne e => k2.fh a o (fun z => z) (by rw [show (bsI H M x).F a = H a from if_neg ne]; exact e)) (fun a o e t n => ?_) k2.mh (fun a o e => ?_) hi
  · by_cases z : a = x
    · rw [z]; exact mx'
    · exact k2.fm a o (by rw [show (bsI H M x).F a = H a from if_neg z]; exact e) t n
  · by_cases z : a = x
    · rw [z]; exact ⟨_, hx', fun _ => rfl⟩
    · exact k2.ft a o (by rw [show (bsI H M x).F a = H a from if_neg z]; exact e)
theorem init_ex (T : Txt K mg) : ∃ f fd dvs ds, Mk K (He.ga K "House") f ∧ FnOk P w K mg base CX0 5 f fd pInit (spInit K (He.ga K "House") rInit) ∧ Vals dvs ds ∧ Binds K fd pInit ds ∧ dvs = [] := by
  obtain ⟨fd, F⟩ := T.says.def_ 0 (d := dInit)
  have F : FunD K "__init__" "House.__init__" (defArgs s_House__init) (defBody s_House__init) (defScope s_House__init) (He.DefD.dvs K dInit) [] (He.ma K (He.ga K "House") "__init__") fd := F
  have dl : (He.DefD.dvs K dInit).length = 2 := rfl
  obtain ⟨ds, h1, h2⟩ := F.binds1 (ps := pInit) 4 2 (fun e => by rw [e] at dl; cases dl) rfl (fun T kV doc pm an cdv ct us its hu hi => by
    rw [dl] at hi
    match us, hu, its, hi with
    | [_, _, _, _], _, [_, _], _ => exact ⟨_, rfl, rfl⟩)
  exact ⟨_, fd, _, ds, He.mkr_ok (T.says.fact 1), fn_init T F, h1, h2, rfl⟩
theorem insφ_im {K : PySem.W.Frag} {x dx : Addr} {v : V} {M H : Hp} {h : Hou} (r : insφ K (He.ga K "House") x dx h.fds v M H) : RepI K (upd M x ((H x).getD (.tup []))) (.ref x) h.im := by
  obtain ⟨vs, _, mx, hx, d⟩ := r
  have up : Same M (upd M x ((H x).getD (.tup []))) := fun b u e => by rw [upd_ne (ne_of_none e mx)]; exact e
  have d := dps_up up _ _ d
  rw [hx] at d ⊢
  cases d with
  | cons a1 d => cases d with
    | cons a2 d => cases d with
      | cons a3 d => cases d with
        | cons a4 d => cases d with
          | cons a5 d =>
            cases d
            exact ⟨x, dx, _, _, _, _, _, _, rfl, upd_same, ⟨rfl, a1⟩, ⟨rfl, a2⟩, ⟨rfl, a3⟩, ⟨rfl, a4⟩, ⟨rfl, a5⟩, rfl⟩
theorem ee_make {X : Cx} {B : Bs} {ρ : DEnv} {pos p : Pos} {a b c : Expr} {xs : List Im} {h : Hou} (T : Txt X.K X.mg) (hr : Room 6 X.A) (ha : EA X B ρ [a, b, c] xs) (hR : rInit xs h.fds) (hg : Gl X "House" := by rfl) (he : starEach [a, b, c] X.env = (false, eval a X.env) :: starEach [b, c] X.env := by rfl) (hpl : (backTo pos (starEach [b, c] X.env)).any (·.1) = false := by rfl) :
    EE X B ρ (.Call (.Name "House" p) [a, b, c] [] pos) h.im := by
  obtain ⟨f, fd, dvs, ds, mk, F, h1, h2, rfl⟩ := init_ex (P := X.prog) (w := X.w) (base := X.base) T
  refine pe_imp (pe_make mk F hr hg (T.gl 4) h2 h1 pass0 ha (by decide) he hpl) fun σ H Q ⟨M, k, q⟩ => ⟨M, k, fun vs M1 H1 g1 r1 x dx nx ndx ne => ?_⟩
  have k1 := k.gr g1
  have hl : vs.length = 3 := by
    obtain ⟨t, u, v, sz, ks, ch, e, _⟩ := hR
    rw [repIs_len r1, e]
    rfl
  match vs, hl, r1 with
  | [v1, v2, v3], _, r1 =>
    have mx := k1.clr nx
    have mdx := k1.clr ndx
    refine ⟨x, dx, v1, v2, v3, M1, xs, h.fds, rfl, upd_same, mx, fun a o e => ?_, r1, hR, fun M' H' mm hh fr mh th hi => ⟨rfl, ?_⟩⟩
    · rw [upd_ne (ne_of_none (k1.mh _ _ e) nx), upd_ne (ne_of_none (k1.mh _ _ e) ndx)]
      exact k1.mh _ _ e
    · have im := insφ_im hi
      obtain ⟨ws, _, mx', hx', _⟩ := id hi
      have old : ∀ a o, H1 a = some o → (upd (upd H1 dx (.own x)) x (.ins (He.ga X.K "House") dx [])) a = some o ∧ a ≠ x := fun a o e => by
        have n1 := ne_of_none e nx
        exact ⟨by rw [upd_ne n1, upd_ne (ne_of_none e ndx)]; exact e, n1⟩
      have hg : (H' x).getD (.tup []) = .ins (He.ga X.K "House") dx ((h.fds.map (·.1)).zip ws) := by rw [hx']; rfl
      refine q h.im (.ref x) _ H' rfl (g1.trans ⟨fun a o e => ?_, fun a o w e => hh a o (old a o e).2 (old a o e).1, fun a o e t n => ?_, fun a o e => ?_, ?_, fun a o e => th a o (old a o e).1⟩) im
      · rw [upd_ne (ne_of_none e mx)]
        exact mm a o e
      · rw [upd_ne (old a o e).2]
        exact fr a o (old a o e).1 t n
      · by_cases z : a = x
        · rw [z, upd_same] at e
          cases e
          rw [z, hg]
          exact hx'
        · rw [upd_ne z] at e
          exact mh a o e
      · exact B.loc H1 H' (fun a o w e => hh a o (old a o e).2 (old a o e).1) k1.vol
end

/-! ### len(house) -/
section
variable {P : Program} {w : World} {K : PySem.W.Frag} {mg : Str → Option Value} {base : Heap}
theorem sc_len : FnScope ["self"] ["self"] (defScope s_House__len) := ⟨rfl, rfl, rfl, by decide +kernel, rfl, by decide +kernel, by decide +kernel⟩
def rLenH (xs : List Im) (y : Im) : Prop := ∃ h : Hou, xs = [h.im] ∧ y = I (h.st.length : Nat)
theorem fn_len (T : Txt K mg) {f : Addr} {fd : FuncData} (F : FunD K "__len__" "House.__len__" (defArgs s_House__len) (defBody s_House__len) (defScope s_House__len) [] [] f fd) : FnOk P w K mg base CX0 1 f fd ["self"] (spR K rLenH) := by
  refine def_ok F sc_len (by decide) (by rintro xs y ⟨h, rfl, _⟩; rfl) fun cdv A outer s H M E xs y hr hR => ?_
  obtain ⟨h, rfl, rfl⟩ := hR
  refine xx_ret (ee_is (ee_lenT (ee_stands T (ee_var 0)) T.n_len) ?_) rfl
  rw [List.length_map]
theorem len_ex (T : Txt K mg) : ∃ f fd, Meth K (He.ga K "House") "__len__" f ∧ FnOk P w K mg base CX0 1 f fd ["self"] (spR K rLenH) ∧ Binds K fd ["self"] [] := by
  obtain ⟨fd, F⟩ := T.says.def_ 1 (d := dLen)
  have F : FunD K "__len__" "House.__len__" (defArgs s_House__len) (defBody s_House__len) (defScope s_House__len) [] [] (He.ma K (He.ga K "House") "__len__") fd := F
  exact ⟨_, fd, He.meth_ok (T.says.fact 3), fn_len T F, F.bindsN fun _ _ _ _ _ _ us hl => match us, hl with | [_], _ => rfl⟩
theorem ee_lenH {X : Cx} {B : Bs} {ρ : DEnv} {pos p : Pos} {e : Expr} {h : Hou} (T : Txt X.K X.mg) (hr : Room 2 X.A) (he : EE X B ρ e h.im) (hl : h.st.length ≤ 300) (hg : Gl X "len" := by rfl) (hs : starEach [e] X.env = (false, eval e X.env) :: starEach [] X.env := by rfl) : EE X B ρ (.Call (.Name "len" p) [e] [] pos) (I (h.st.length : Nat)) := by
  obtain ⟨f, fd, me, F, hb⟩ := len_ex (P := X.prog) (w := X.w) (base := X.base) T
  refine en_cb (cr_lenI me F hb hr) (ea_cons he ea_nil hs) T.n_len PySem.boot_len hg (fun vs σ M H Q k r q => ?_) (by decide) (by decide) hs
  cases r with
  | cons r1 r2 =>
    cases r2
    have r0 := r1
    obtain ⟨x, dx, fs, vz, v2, vc, va, vb, hh⟩ := r1
    rw [hh.e] at r0 ⊢
    refine ⟨x, dx, fs, rfl, k.mh _ _ hh.at_, M, [h.im], _, k.mh, .cons r0 .nil, ⟨h, rfl, rfl⟩, fun v M' H' g r3 => ⟨(h.st.length : Nat), rI_int r3, by omega, by omega, ?_⟩⟩
    exact q _ _ M' H' rfl (g.of0 k.vol) (.int _)
end
end K5
/-! Defs4: questions, views, sights, lots. -/
namespace K5
open PySem PySem.Spec PyProof.Rows L2

/-! ### data of tuples of ints -/
theorem lay_ints : ∀ k : List Int, PyData.canLayAll0 (k.map .int) = true
  | [] => by simp [PyData.canLayAll0]
  | a :: k => by simp [PyData.canLayAll0, PyData.canLay0, lay_ints k]
theorem lay_tIs : ∀ ks : List (List Int), PyData.canLayAll0 (ks.map tI) = true
  | [] => by simp [PyData.canLayAll0]
  | a :: k => by
    have := lay_tIs k
    have h := lay_ints a
    simp [PyData.canLayAll0, PyData.canLay0, tI, h] at this ⊢
    exact this
theorem depth_tIs : ∀ ks : List (List Int), PyData.depthAll (ks.map tI) ≤ 1
  | [] => by simp [PyData.depthAll]
  | a :: k => by
    have h1 := depth_tIs k
    have h2 := depth_tI a
    simp only [List.map_cons, PyData.depthAll]
    omega
theorem shaped_tI (k : List Int) : SeqAt.shaped (tI k) = true := by
  show ((tI k).canLay0 && decide ((tI k).depth ≤ 64)) = true
  rw [Bool.and_eq_true]
  refine ⟨?_, decide_eq_true (by rw [depth_tI]; omega)⟩
  unfold tI
  rw [PyData.canLay0]
  exact lay_ints k
theorem shaped_tIs (ks : List (List Int)) : SeqAt.shaped (.list (ks.map tI)) = true := by
  show (PyData.canLay0 (.list (ks.map tI)) && decide (PyData.depth (.list (ks.map tI)) ≤ 64)) = true
  rw [Bool.and_eq_true]
  have h := depth_tIs ks
  refine ⟨?_, decide_eq_true ?_⟩
  · rw [PyData.canLay0]
    exact lay_tIs ks
  · rw [PyData.depth]
    omega
theorem eqvAll_ints : ∀ a b : List Int, PyData.eqvAll (a.map .int) (b.map .int) = decide (a = b)
  | [], [] => by simp [PyData.eqvAll]
  | [], _ :: _ => by simp [PyData.eqvAll]
  | _ :: _, [] => by simp [PyData.eqvAll]
  | x :: a, y :: b => by
    have ih := eqvAll_ints a b
    rw [List.map_cons, List.map_cons, PyData.eqvAll, ih, PyData.eqv]
    by_cases h1 : x = y <;> by_cases h2 : a = b <;> simp [h1, h2]
theorem eqv_tI (a b : List Int) : PyData.eqv (tI a) (tI b) = decide (a = b) := by
  unfold tI
  rw [PyData.eqv]
  exact eqvAll_ints a b
theorem any_tI (k : List Int) (ks : List (List Int)) : ((ks.map tI).any fun z => PyData.eqv z (tI k)) = decide (k ∈ ks) := by
  rw [List.any_map]
  rw [Bool.eq_iff_iff, List.any_eq_true, decide_eq_true_eq]
  constructor
  · rintro ⟨x, hx, h⟩
    simp only [Function.comp, eqv_tI, decide_eq_true_eq] at h
    exact h ▸ hx
  · intro h
    exact ⟨k, h, by simp [eqv_tI]⟩
theorem nodup_sub {κ : Type} [DecidableEq κ] : ∀ (l D : List κ), l.Nodup → (∀ x ∈ l, x ∈ D) → l.length ≤ D.length
  | [], _, _, _ => Nat.zero_le _
  | a :: l, D, n, h => by
    obtain ⟨n1, n2⟩ := List.nodup_cons.mp n
    have ih := nodup_sub l (D.erase a) n2 fun x hx => (List.mem_erase_of_ne (fun e => n1 (by rw [← e]; exact hx))).mpr (h x (List.mem_cons_of_mem _ hx))
    have hm := h a List.mem_cons_self
    rw [List.length_erase_of_mem hm] at ih
    have := List.length_pos_of_mem hm
    rw [List.length_cons]
    omega
def cellT (c : Nat) : PyData := tI [(c : Int)]
def viewD (n : Nat) : List PyData := (List.range n).map cellT
/-- a house that was made -/
structure HouOk (h : Hou) : Prop where
  c1 : 1 ≤ h.sz.length
  c6 : h.sz.length ≤ 6
  s36 : ∀ n ∈ h.sz, 1 ≤ n ∧ n ≤ 36
  most : h.st.length ≤ 300
  len : ∀ k ∈ h.st, k.length = h.sz.length
  fit : ∀ k ∈ h.st, fitsB h.sz k = true
/-- what a cell shows -/
def shows (h : Hou) (c i : Nat) : Int := ((h.st.getD i []).getD c 0)
theorem HouOk.at_ {h : Hou} (ok : HouOk h) {c i : Nat} (hc : c < h.sz.length) (hi : i < h.st.length) : ∃ k, h.st[i]? = some k ∧ k[c]? = some (shows h c i) ∧ 0 ≤ shows h c i ∧ shows h c i < 36 := by
  have e := List.getElem?_eq_getElem hi
  have hm := List.getElem_mem hi
  have hl := ok.len _ hm
  have e2 : (h.st[i])[c]? = some (h.st[i])[c] := List.getElem?_eq_getElem (by omega)
  have es : shows h c i = (h.st[i])[c] := by
    have e3 : h.st.getD i [] = h.st[i] := by rw [List.getD_eq_getElem?_getD, e] <;> rfl
    show (h.st.getD i []).getD c 0 = _
    rw [e3, List.getD_eq_getElem?_getD, e2] <;> rfl
  refine ⟨_, e, by rw [es]; exact e2, ?_⟩
  have hf := ok.fit _ hm
  unfold fitsB at hf
  rw [List.all_eq_true] at hf
  have hz : ((h.st[i])[c], h.sz[c]) ∈ h.st[i].zip h.sz := List.mem_of_getElem? (i := c) (by rw [List.getElem?_zip_eq_some]; exact ⟨e2, List.getElem?_eq_getElem hc⟩)
  have := hf _ hz
  simp only [Bool.and_eq_true, decide_eq_true_eq] at this
  have b := (ok.s36 _ (List.getElem_mem hc)).2
  rw [es]
  omega
section
variable {P : Program} {w : World} {K : PySem.W.Frag} {mg : Str → Option Value} {base : Heap}

theorem sc_need_house : FnScope ["value"] ["value"] (defScope s_need_house) := ⟨rfl, rfl, rfl, by decide +kernel, rfl, by decide +kernel, by decide +kernel⟩
def rNeedHouse (xs : List Im) (y : Im) : Prop := ∃ h : Hou, xs = [h.im] ∧ y = h.im
theorem c_need_house (T : Txt K mg) : Cal P w K mg base 1 "need_house" ["value"] (spR K rNeedHouse) := by
  refine Cal.of T.g_need_house T.d_need_house (fun _ _ _ _ _ _ us hl => match us, hl with | [_], _ => rfl) fun f fd F => ?_
  refine def_ok F sc_need_house (by decide) (by rintro xs y ⟨h, rfl, _⟩; rfl) fun cdv A outer s H M E xs y hr hR => ?_
  obtain ⟨h, rfl, rfl⟩ := hR
  exact xx_ifn (et_not (et_val (ee_isiH T (ee_var 0)))) rfl (xx_ret (ee_var 0) rfl)

theorem sc_need_question : FnScope ["house", "value", "at", "answer"] ["house", "value"] (defScope s_need_question) := ⟨rfl, rfl, rfl, by decide +kernel, rfl, by decide +kernel, by decide +kernel⟩
def rNeedQ (xs : List Im) (y : Im) : Prop := ∃ (h : Hou) (u : Bool) (q : List Int), xs = [h.im, Sq u (q.map .int)] ∧ HouOk h ∧ q.length = h.st.length ∧ (∀ a ∈ q, 0 ≤ a) ∧ y = Tu (q.map .int)
theorem c_need_question (T : Txt K mg) : Cal P w K mg base 3 "need_question" ["house", "value"] (spR K rNeedQ) := by
  refine Cal.of T.g_need_question T.d_need_question (fun _ _ _ _ _ _ us hl => match us, hl with | [_, _], _ => rfl) fun f fd F => ?_
  refine def_ok F sc_need_question (by decide) (by rintro xs y ⟨h, u, q, rfl, _⟩; rfl) fun cdv A outer s H M E xs y hr hR => ?_
  obtain ⟨h, u, q, rfl, ok, hl, hq, rfl⟩ := hR
  have nd := sc_need_question.nd
  refine xx_drop (ee_call (c_need_house T) (hr.mono (by decide)) (ea_cons (ee_var 0) ea_nil) ⟨h, rfl, rfl⟩) ?_
  refine xx_ifn (t := !true || !decide ((((q.map PyData.int).length : Nat) : Int) = (h.st.length : Nat))) ((ew_or (et_not (et_val (ee_call (c_is_sequence T) (hr.mono (by decide)) (ea_cons (ee_var 1) ea_nil) ⟨_, _, rfl, seqD_Sq u _, rfl⟩))) fun _ => ew_or1 (ec_et (ec_neI (ee_lenS (ee_var 1) T.n_len) (ee_lenH T (hr.mono (by decide)) (ee_var 0) ok.most)))).et) (by rw [List.length_map, hl]; simp) ?_
  refine xx_nx (ρ' := [some (.im h.im), some (.im (Sq u (q.map .int))), none, none]) (x1_for (fun i ρ => ρ = [some (.im h.im), some (.im (Sq u (q.map .int))), none, none]) PassesOwn.never rfl (ei_enS (ee_var 1) T.n_enumerate) (eg_2 (i := 2) (j := 3) rfl nd (by decide)) rfl ?_ ?_) ?_
  · rintro i d ρ1 hi rfl
    rw [en_maps, List.getElem?_map] at hi
    obtain ⟨⟨a, j⟩, hz, rfl⟩ := Option.map_eq_some_iff.mp hi
    have ha : a ∈ q := by
      have := List.mem_of_getElem? hz
      exact (List.mem_zipIdx' this).2 ▸ List.getElem_mem _
    refine ⟨_, ⟨_, _, rfl, rfl⟩, xx_ifn (et_not (et_val (ee_call (c_is_number T) (hr.mono (by decide)) (ea_cons (ee_var 3) ea_nil) ⟨_, rfl, rfl⟩))) (by simp [hq a ha]) (xx_nil ⟨_, ?_, rfl⟩)⟩
    exact ⟨rfl, rfl, trivial⟩
  · rintro ρ1 rfl
    rfl
  · exact xx_ret (ee_tupleS (ee_var 1) T.n_tuple) rfl

theorem sc_is_window : FnScope ["house", "value", "at", "cell"] ["house", "value"] (defScope s_is_window) := ⟨rfl, rfl, rfl, by decide +kernel, rfl, by decide +kernel, by decide +kernel⟩
def rIsWin (xs : List Im) (y : Im) : Prop := ∃ (h : Hou) (c : Nat), xs = [h.im, .dat (cellT c)] ∧ c < h.sz.length ∧ y = Bl true
theorem c_is_window (T : Txt K mg) : Cal P w K mg base 3 "is_window" ["house", "value"] (spR K rIsWin) := by
  refine Cal.of T.g_is_window T.d_is_window (fun _ _ _ _ _ _ us hl => match us, hl with | [_, _], _ => rfl) fun f fd F => ?_
  refine def_ok F sc_is_window (by decide) (by rintro xs y ⟨h, c, rfl, _⟩; rfl) fun cdv A outer s H M E xs y hr hR => ?_
  obtain ⟨h, c, rfl, hc, rfl⟩ := hR
  have nd := sc_is_window.nd
  refine xx_ifn (t := !true || decide ((1 : Int) = 0)) ((ew_or (et_not (et_val (ee_call (c_is_sequence T) (hr.mono (by decide)) (ea_cons (ee_var 1) ea_nil) ⟨Tu [.int c], _, rfl, rfl, rfl⟩))) fun _ => ew_or1 (ec_et (ec_eqI (ee_lenT (ds := [.int c]) (ee_var 1) T.n_len) ee_int))).et) (by decide) ?_
  refine xx_nx (ρ' := [some (.im h.im), some (.im (.dat (cellT c))), none, none]) (x1_for (fun i ρ => ρ = [some (.im h.im), some (.im (.dat (cellT c))), none, none]) PassesOwn.never rfl (ei_enS (t := true) (ds := [.int c]) (ee_var 1) T.n_enumerate) (eg_2 (i := 2) (j := 3) rfl nd (by decide)) rfl ?_ ?_) ?_
  · rintro i d ρ1 hi rfl
    match i, hi with
    | 0, hi =>
      cases hi
      refine ⟨_, ⟨_, _, rfl, rfl⟩, xx_ifn (t := !decide ((0 : Int) ≤ (c : Int)) || (decide (((nI h.sz).length : Int) ≤ (c : Int)) || (decide ((0 : Int) < (0 : Nat)) && false))) ((ew_or (et_not (et_val (ee_call (c_is_number T) (hr.mono (by decide)) (ea_cons (ee_var 3) ea_nil) ⟨_, rfl, rfl⟩))) fun _ => ew_or (ec_et (ec_ge (ee_var 3) (ee_lenT (ee_sizes T (ee_var 0)) T.n_len))) fun _ => ew_or1 (EW.et (ew_and (y := false) (ec_et (ec_gt (ee_var 2) ee_int)) (fun e => absurd e (by decide))))).et) ?_ (xx_nil ⟨_, ?_, rfl⟩)⟩
      · rw [List.length_map]
        simp
        omega
      · exact ⟨rfl, rfl, trivial⟩
    | i + 1, hi => cases hi
  · rintro ρ1 rfl
    rfl
  · exact xx_ret ee_bl rfl

theorem sc_need_view : FnScope ["house", "value", "windows", "at", "window"] ["house", "value"] (defScope s_need_view) := ⟨rfl, rfl, rfl, by decide +kernel, rfl, by decide +kernel, by decide +kernel⟩
def rNeedView (xs : List Im) (y : Im) : Prop := ∃ (h : Hou), xs = [h.im, Tu (viewD h.sz.length)] ∧ HouOk h ∧ y = Tu (viewD h.sz.length)
theorem c_need_view (T : Txt K mg) : Cal P w K mg base 4 "need_view" ["house", "value"] (spR K rNeedView) := by
  refine Cal.of T.g_need_view T.d_need_view (fun _ _ _ _ _ _ us hl => match us, hl with | [_, _], _ => rfl) fun f fd F => ?_
  refine def_ok F sc_need_view (by decide) (by rintro xs y ⟨h, rfl, _⟩; rfl) fun cdv A outer s H M E xs y hr hR => ?_
  obtain ⟨h, rfl, ok, rfl⟩ := hR
  have nd := sc_need_view.nd
  have hv : (viewD h.sz.length).length = h.sz.length := by unfold viewD; rw [List.length_map, List.length_range]
  have c1 := ok.c1
  have c6 := ok.c6
  refine xx_drop (ee_call (c_need_house T) (hr.mono (by decide)) (ea_cons (ee_var 0) ea_nil) ⟨h, rfl, rfl⟩) ?_
  refine xx_ifn (t := !true || decide ((((viewD h.sz.length).length : Nat) : Int) = 0)) ((ew_or (et_not (et_val (ee_call (c_is_sequence T) (hr.mono (by decide)) (ea_cons (ee_var 1) ea_nil) ⟨Tu _, _, rfl, rfl, rfl⟩))) fun _ => ew_or1 (ec_et (ec_eqI (ee_lenT (ee_var 1) T.n_len) ee_int))).et) (by rw [hv]; simp; intro e; rw [e] at c1; exact absurd c1 (by decide)) ?_
  refine xx_own 2 nd ef_nil ?_
  let ks : Nat → List (List Int) := fun i => (List.range i).map fun (c : Nat) => [(c : Int)]
  have ek : ∀ i, (viewD i) = (ks i).map tI := fun i => by unfold viewD; rw [List.map_map]; rfl
  let J : Nat → DEnv := fun i => [some (.im h.im), some (.im (Tu (viewD h.sz.length))), some (.lst (viewD i)), none, none]
  refine xx_nx (ρ' := J h.sz.length) (x1_for (fun i ρ => ρ = J i) PassesOwn.never rfl (ei_enS (t := true) (ee_var 1) T.n_enumerate) (eg_2 (i := 3) (j := 4) rfl nd (by decide)) rfl ?_ ?_) ?_
  · rintro i d ρ1 hi rfl
    have hlt : i < h.sz.length := by
      have := (List.getElem?_eq_some_iff.mp hi).1
      rw [enD_len, hv] at this
      exact this
    have e : (viewD h.sz.length)[i]? = some (cellT i) := by unfold viewD; rw [List.getElem?_map, List.getElem?_range hlt]; rfl
    rw [enD_at e] at hi
    cases hi
    have fresh : decide ([(i : Int)] ∈ ks i) = false := by
      rw [decide_eq_false_iff_not]
      intro m
      obtain ⟨c, hc, e⟩ := List.mem_map.mp m
      rw [List.mem_range] at hc
      injection e with e
      omega
    refine ⟨_, ⟨_, _, rfl, rfl⟩, xx_ifn (t := !true || ((viewD i).any fun z => PyData.eqv z (cellT i))) ((ew_or (et_not (et_val (ee_call (c_is_window T) (hr.mono (by decide)) (ea_cons (ee_var 0) (ea_cons (ee_var 4) ea_nil)) ⟨h, i, rfl, hlt, rfl⟩))) fun _ => ew_or1 (ec_et (ec_inO (i := 2) (d := cellT i) (u65 hr) (ee_tupleT (ds := [.int (i : Int)]) (ee_var 4) T.n_tuple) rfl (shaped_tI _) (by rw [ek]; exact shaped_tIs _)))).et) ?_ ?_⟩
    · rw [ek]
      unfold cellT
      rw [any_tI, fresh]
      rfl
    · refine xx_app 2 rfl (ee_tupleT (ds := [.int (i : Int)]) (ee_var 4) T.n_tuple) ?_ (xx_nil ⟨J (i + 1), ?_, rfl⟩)
      · unfold viewD
        rw [List.length_map, List.length_range, sizeLine_eq]
        omega
      · refine ⟨rfl, rfl, ?_, trivial⟩
        show some (En.lst (viewD i ++ [cellT i])) = some (En.lst (viewD (i + 1)))
        unfold viewD
        rw [List.range_succ, List.map_append]
        rfl
  · rintro ρ1 rfl
    rw [enD_len, hv]
  · exact xx_frzL 2 rfl (xx_ret (ee_tuple (ee_var 2) T.n_tuple) rfl)

theorem sc_cell_view : FnScope ["house", "cell"] ["house"] (defScope s_cell_view) := ⟨rfl, rfl, rfl, by decide +kernel, rfl, by decide +kernel, by decide +kernel⟩
def rCellView (xs : List Im) (y : Im) : Prop := ∃ (h : Hou), xs = [h.im] ∧ h.sz.length ≤ 6 ∧ y = Tu (viewD h.sz.length)
theorem c_cell_view (T : Txt K mg) : Cal P w K mg base 2 "cell_view" ["house"] (spR K rCellView) := by
  refine Cal.of T.g_cell_view T.d_cell_view (fun _ _ _ _ _ _ us hl => match us, hl with | [_], _ => rfl) fun f fd F => ?_
  refine def_ok F sc_cell_view (by decide) (by rintro xs y ⟨h, rfl, _⟩; rfl) fun cdv A outer s H M E xs y hr hR => ?_
  obtain ⟨h, rfl, c6, rfl⟩ := hR
  have nd := sc_cell_view.nd
  refine xx_ret (ee_tuple (ee_lc0 (i := 1) (xs := List.range h.sz.length) (enc := fun c : Nat => .int (c : Nat)) (f := cellT) rfl nd (ei_rng (ee_is (ee_lenT (ee_sizes T (ee_call (c_need_house T) (hr.mono (by decide)) (ea_cons (ee_var 0) ea_nil) ⟨h, rfl, rfl⟩)) T.n_len) (by rw [List.length_map])) T.n_range (by omega)) rfl (fun s H C cl fp a ha => ee_tup (ds := [.int (a : Int)]) (ea_cons (ee_var 1) ea_nil) (sl_le rfl)) (sl_of (by rw [List.length_range]; omega))) T.n_tuple) rfl

theorem sc_seen_at : FnScope ["house", "window", "number", "cell"] ["house", "window", "number"] (defScope s_seen_at) := ⟨rfl, rfl, rfl, by decide +kernel, rfl, by decide +kernel, by decide +kernel⟩
def rSeenAt (xs : List Im) (y : Im) : Prop := ∃ (h : Hou) (c i : Nat), xs = [h.im, .dat (cellT c), I (i : Nat)] ∧ HouOk h ∧ c < h.sz.length ∧ i < h.st.length ∧ y = .dat (tI [shows h c i])
theorem c_seen_at (T : Txt K mg) : Cal P w K mg base 1 "seen_at" ["house", "window", "number"] (spR K rSeenAt) := by
  refine Cal.of T.g_seen_at T.d_seen_at (fun _ _ _ _ _ _ us hl => match us, hl with | [_, _, _], _ => rfl) fun f fd F => ?_
  refine def_ok F sc_seen_at (by decide) (by rintro xs y ⟨h, c, i, rfl, _⟩; rfl) fun cdv A outer s H M E xs y hr hR => ?_
  obtain ⟨h, c, i, rfl, ok, hc, hi, rfl⟩ := hR
  have nd := sc_seen_at.nd
  obtain ⟨k, hk, hkc, _⟩ := ok.at_ hc hi
  refine xx_ret (ee_tuple (ee_lc0 (i := 3) (xs := [(c : Int)]) (enc := PyData.int) (f := fun _ => .int (shows h c i)) rfl nd (ei_tup (ds := [.int (c : Int)]) (ee_var 1)) rfl (fun s H C cl fp a ha => ?_) (sl_le rfl)) T.n_tuple) rfl
  rw [List.mem_singleton] at ha
  subst ha
  exact ee_ixTn (i := c) (ds := k.map .int) (ee_ixTn (i := i) (ee_stands T (ee_var 0)) (ee_var 2) (by rw [List.getElem?_map, hk]; rfl)) (ee_var 3) (by rw [List.getElem?_map, hkc]; rfl)
end
end K5
/-! Defs5: sights, lots. -/
namespace K5
open PySem PySem.Spec PyProof.Rows L2
def contentsOf (h : Hou) (c : Nat) : List (List Int) := srtT ((List.range h.st.length).map fun i => [shows h c i])
def valD (v : Int) : PyData := tI [v]
def rowD (vals : List Int) : List PyData := vals.map valD
/-- a row that is shown -/
def RowOk (h : Hou) (vals : List Int) : Prop := vals.length = h.sz.length ∧ ∀ (c : Nat) (v : Int), vals[c]? = some v → ∃ i, i < h.st.length ∧ shows h c i = v
def othersI (q : List Int) (ans : Int) : List Int := (q.zipIdx.filter fun p => !decide (p.1 = ans)).map fun p => ((p.2 : Nat) : Int)
def shownI (h : Hou) (others : List Int) (c : Nat) (v : Int) : List Int := others.filter fun n => decide (shows h c n.toNat = v)
def shownL (h : Hou) (others : List Int) (vals : List Int) : List (List Int) := vals.zipIdx.map fun p => shownI h others p.2 p.1
theorem othersI_mem {q : List Int} {ans n : Int} (h : n ∈ othersI q ans) : ∃ i : Nat, n = i ∧ i < q.length := by
  unfold othersI at h
  obtain ⟨⟨a, i⟩, hp, rfl⟩ := List.mem_map.mp h
  have hm := (List.mem_filter.mp hp).1
  exact ⟨i, rfl, (List.mem_zipIdx' hm).1⟩
def partB (a b : List Int) : Bool := a.all fun x => decide (x ∈ b)
def leastOf (ks : List (List Int)) : List (List Int) := (srtT ks).filter fun lot => !((srtT ks).any fun o => (!decide (o = lot)) && partB o lot)
section
variable {P : Program} {w : World} {K : PySem.W.Frag} {mg : Str → Option Value} {base : Heap}

theorem sc_shown_contents : FnScope ["house", "view", "number", "window"] ["house", "view"] (defScope s_shown_contents) := ⟨rfl, rfl, rfl, by decide +kernel, rfl, by decide +kernel, by decide +kernel⟩
def rShownC (xs : List Im) (y : Im) : Prop := ∃ h : Hou, xs = [h.im, Tu (viewD h.sz.length)] ∧ HouOk h ∧ y = Li ((List.range h.sz.length).map fun c => .list ((contentsOf h c).map tI))
theorem c_shown_contents (T : Txt K mg) : Cal P w K mg base 3 "shown_contents" ["house", "view"] (spR K rShownC) := by
  refine Cal.of T.g_shown_contents T.d_shown_contents (fun _ _ _ _ _ _ us hl => match us, hl with | [_, _], _ => rfl) fun f fd F => ?_
  refine def_ok F sc_shown_contents (by decide) (by rintro xs y ⟨h, rfl, _⟩; rfl) fun cdv A outer s H M E xs y hr hR => ?_
  obtain ⟨h, rfl, ok, rfl⟩ := hR
  have nd := sc_shown_contents.nd
  have c6 := ok.c6
  have most := ok.most
  refine xx_ret (ee_lc0 (i := 3) (xs := List.range h.sz.length) (enc := cellT) (f := fun c => .list ((contentsOf h c).map tI)) rfl nd (ei_tup (ds := viewD h.sz.length) (ee_var 1)) rfl (fun s H C cl fp c hc => ?_) (sl_of (by rw [List.length_range]; omega))) rfl
  rw [List.mem_range] at hc
  refine ee_sortedSet (ks := (List.range h.st.length).map fun i => [shows h c i]) (u64 hr) rfl (ef_sc1 (i := 2) (xs := List.range h.st.length) (enc := fun i : Nat => .int (i : Nat)) (f := fun i => [shows h c i]) (u1 hr) rfl nd (ei_rng (ee_lenH T (hr.mono (by decide)) (ee_var 0) ok.most) T.n_range (by omega)) rfl (fun s H C cl fp i hi => ?_) (fun l nl hl => ?_)) (fun k hk => by obtain ⟨i, _, rfl⟩ := List.mem_map.mp hk; simp) T.n_sorted
  · rw [List.mem_range] at hi
    exact ee_call (c_seen_at T) (hr.mono (by decide)) (ea_cons (ee_var 0) (ea_cons (ee_var 3) (ea_cons (ee_var 2) ea_nil))) ⟨h, c, i, rfl, ok, hc, hi, rfl⟩
  · have := nodup_sub l ((List.range 36).map fun n : Nat => [(n : Int)]) nl fun x hx => by
      obtain ⟨i, hi, rfl⟩ := List.mem_map.mp (hl x hx)
      rw [List.mem_range] at hi
      obtain ⟨k, _, _, b0, b1⟩ := ok.at_ hc hi
      exact List.mem_map.mpr ⟨(shows h c i).toNat, List.mem_range.mpr (by omega), by rw [Int.toNat_of_nonneg b0]⟩
    rw [List.length_map, List.length_range] at this
    omega

theorem sc_is_shown : FnScope ["contents", "value", "one"] ["contents", "value"] (defScope s_is_shown) := ⟨rfl, rfl, rfl, by decide +kernel, rfl, by decide +kernel, by decide +kernel⟩
def rIsShown (xs : List Im) (y : Im) : Prop := ∃ (ks : List (List Int)) (v : Int), xs = [Li (ks.map tI), .dat (valD v)] ∧ [v] ∈ ks ∧ 0 ≤ v ∧ y = Bl true
theorem c_is_shown (T : Txt K mg) : Cal P w K mg base 3 "is_shown" ["contents", "value"] (spR K rIsShown) := by
  refine Cal.of T.g_is_shown T.d_is_shown (fun _ _ _ _ _ _ us hl => match us, hl with | [_, _], _ => rfl) fun f fd F => ?_
  refine def_ok F sc_is_shown (by decide) (by rintro xs y ⟨h, k, rfl, _⟩; rfl) fun cdv A outer s H M E xs y hr hR => ?_
  obtain ⟨ks, v, rfl, hv, h0, rfl⟩ := hR
  have nd := sc_is_shown.nd
  refine xx_ret (y := Bl (true && (([v].map fun z => decide (0 ≤ z)).all id && decide ([v] ∈ ks)))) (ee_and (ee_isi (x := .dat (valD v)) (ee_var 1) T.n_isinstance T.n_tuple PyProof.Rows.boot_tuple rfl k_tt) fun _ => ee_and (ee_all rfl (ee_is (ee_lc0 (i := 2) (xs := [v]) (enc := PyData.int) (f := fun z => .bool (decide (0 ≤ z))) rfl nd (ei_tup (ds := [.int v]) (ee_var 1)) rfl (fun s H C cl fp a ha => ee_call (c_is_number T) (hr.mono (by decide)) (ea_cons (ee_var 2) ea_nil) ⟨_, rfl, rfl⟩) (sl_le rfl)) rfl) T.n_all) fun _ => ee_one (ee_is (ec_ee (ec_inD (d := valD v) (u65 hr) (ee_var 1) (ee_var 0) (shaped_tI _) (shaped_tIs _))) (by unfold valD; rw [any_tI]))) ?_
  show (_ : Im) = _
  rw [decide_eq_true hv]
  simp [h0]

theorem sc_need_row : FnScope ["house", "view", "value", "at", "contents"] ["house", "view", "value"] (defScope s_need_row) := ⟨rfl, rfl, rfl, by decide +kernel, rfl, by decide +kernel, by decide +kernel⟩
def rNeedRow (xs : List Im) (y : Im) : Prop := ∃ (h : Hou) (vals : List Int), xs = [h.im, Tu (viewD h.sz.length), Tu (rowD vals)] ∧ HouOk h ∧ RowOk h vals ∧ y = Tu (rowD vals)
theorem c_need_row (T : Txt K mg) : Cal P w K mg base 4 "need_row" ["house", "view", "value"] (spR K rNeedRow) := by
  refine Cal.of T.g_need_row T.d_need_row (fun _ _ _ _ _ _ us hl => match us, hl with | [_, _, _], _ => rfl) fun f fd F => ?_
  refine def_ok F sc_need_row (by decide) (by rintro xs y ⟨h, k, rfl, _⟩; rfl) fun cdv A outer s H M E xs y hr hR => ?_
  obtain ⟨h, vals, rfl, ok, ⟨hl, hv⟩, rfl⟩ := hR
  have nd := sc_need_row.nd
  have e1 : (rowD vals).length = h.sz.length := by unfold rowD; rw [List.length_map, hl]
  have e2 : (viewD h.sz.length).length = h.sz.length := by unfold viewD; rw [List.length_map, List.length_range]
  refine xx_ifn (t := !true || !decide ((((rowD vals).length : Nat) : Int) = (((viewD h.sz.length).length : Nat) : Int))) ((ew_or (et_not (et_val (ee_isi (x := Tu (rowD vals)) (ee_var 2) T.n_isinstance T.n_tuple PyProof.Rows.boot_tuple rfl k_tt))) fun _ => ew_or1 (ec_et (ec_neI (ee_lenT (ee_var 2) T.n_len) (ee_lenT (ee_var 1) T.n_len)))).et) (by simp [e1, e2]) ?_
  let J : DEnv := [some (.im h.im), some (.im (Tu (viewD h.sz.length))), some (.im (Tu (rowD vals))), none, none]
  refine xx_nx (ρ' := J) (x1_for (fun i ρ => ρ = J) PassesOwn.never rfl (ei_enS (t := false) (ee_call (c_shown_contents T) (hr.mono (by decide)) (ea_cons (ee_var 0) (ea_cons (ee_var 1) ea_nil)) ⟨h, rfl, ok, rfl⟩) T.n_enumerate) (eg_2 (i := 3) (j := 4) rfl nd (by decide)) rfl ?_ ?_) ?_
  · rintro i d ρ1 hi rfl
    have hlt : i < h.sz.length := by
      have := (List.getElem?_eq_some_iff.mp hi).1
      rw [enD_len, List.length_map, List.length_range] at this
      exact this
    have e : ((List.range h.sz.length).map fun c => PyData.list ((contentsOf h c).map tI))[i]? = some (.list ((contentsOf h i).map tI)) := by rw [List.getElem?_map, List.getElem?_range hlt]; rfl
    rw [enD_at e] at hi
    cases hi
    have ev : vals[i]? = some (vals[i]'(by omega)) := List.getElem?_eq_getElem (by omega)
    obtain ⟨j, hj, es⟩ := hv i _ ev
    obtain ⟨_, _, _, b0, _⟩ := ok.at_ hlt hj
    refine ⟨_, ⟨_, _, rfl, rfl⟩, xx_ifn (t := !true) (et_not (et_val (ee_call (c_is_shown T) (hr.mono (by decide)) (ea_cons (ee_var 4) (ea_cons (ee_ixTn (i := i) (ee_var 2) (ee_var 3) (by unfold rowD; rw [List.getElem?_map, ev] <;> rfl)) ea_nil)) ⟨contentsOf h i, _, rfl, ?_, by rw [← es]; exact b0, rfl⟩))) rfl (xx_nil ⟨J, ?_, rfl⟩)⟩
    · unfold contentsOf
      rw [mem_srtT]
      exact List.mem_map.mpr ⟨j, List.mem_range.mpr hj, by rw [es]⟩
    · exact ⟨rfl, rfl, rfl, trivial⟩
  · rintro ρ1 rfl
    rfl
  · exact xx_ret (ee_var 2) rfl

theorem sc_need_pace : FnScope ["value"] ["value"] (defScope s_need_pace) := ⟨rfl, rfl, rfl, by decide +kernel, rfl, by decide +kernel, by decide +kernel⟩
def rNeedPace (xs : List Im) (y : Im) : Prop := ∃ n : Nat, xs = [I n] ∧ y = I n
theorem c_need_pace (T : Txt K mg) : Cal P w K mg base 3 "need_pace" ["value"] (spR K rNeedPace) := by
  refine Cal.of T.g_need_pace T.d_need_pace (fun _ _ _ _ _ _ us hl => match us, hl with | [_], _ => rfl) fun f fd F => ?_
  refine def_ok F sc_need_pace (by decide) (by rintro xs y ⟨n, rfl, _⟩; rfl) fun cdv A outer s H M E xs y hr hR => ?_
  obtain ⟨n, rfl, rfl⟩ := hR
  refine xx_ifn (t := (!false) && !decide ((0 : Int) ≤ (n : Int))) ((ew_and (ec_et (ec_notN (ee_var 0) fun _ _ _ r => nN_int r)) fun _ => ew_and1 (et_not (et_val (ee_call (c_is_number T) (hr.mono (by decide)) (ea_cons (ee_var 0) ea_nil) ⟨_, rfl, rfl⟩)))).et) (by simp) (xx_ret (ee_var 0) rfl)

theorem sc_need_sight : FnScope ["house", "view", "question", "answer", "row", "others", "shown", "window", "seen", "number", "one"] ["house", "view", "question", "answer", "row"] (defScope s_need_sight) := ⟨rfl, rfl, rfl, by decide +kernel, rfl, by decide +kernel, by decide +kernel⟩
/-- a sight -/
structure SightOk (h : Hou) (q : List Int) (vals : List Int) : Prop where
  ok : HouOk h
  ql : q.length = h.st.length
  q0 : ∀ a ∈ q, 0 ≤ a
  row : RowOk h vals
def sightY (h : Hou) (q : List Int) (ans : Int) (vals : List Int) : Im := Tu [tI (othersI q ans), .tuple ((shownL h (othersI q ans) vals).map tI)]
def rNeedSight (xs : List Im) (y : Im) : Prop := ∃ (h : Hou) (q : List Int) (ans : Int) (vals : List Int), xs = [h.im, Tu (viewD h.sz.length), Tu (q.map .int), I ans, Tu (rowD vals)] ∧ SightOk h q vals ∧ y = sightY h q ans vals
theorem c_need_sight (T : Txt K mg) : Cal P w K mg base 5 "need_sight" ["house", "view", "question", "answer", "row"] (spR K rNeedSight) := by
  refine Cal.of T.g_need_sight T.d_need_sight (fun _ _ _ _ _ _ us hl => match us, hl with | [_, _, _, _, _], _ => rfl) fun f fd F => ?_
  refine def_ok F sc_need_sight (by decide) (by rintro xs y ⟨h, q, a, v, rfl, _⟩; rfl) fun cdv A outer s H M E xs y hr hR => ?_
  obtain ⟨h, q, ans, vals, rfl, ⟨ok, ql, q0, hl, hv⟩, rfl⟩ := hR
  have nd := sc_need_sight.nd
  have most := ok.most
  have c6 := ok.c6
  refine xx_drop (ee_call (c_need_house T) (hr.mono (by decide)) (ea_cons (ee_var 0) ea_nil) ⟨h, rfl, rfl⟩) ?_
  refine xx_set 1 nd (ee_call (c_need_view T) (hr.mono (by decide)) (ea_cons (ee_var 0) (ea_cons (ee_var 1) ea_nil)) ⟨h, rfl, ok, rfl⟩) ?_
  refine xx_set 2 nd (ee_call (c_need_question T) (hr.mono (by decide)) (ea_cons (ee_var 0) (ea_cons (ee_var 2) ea_nil)) ⟨h, true, q, rfl, ok, ql, q0, rfl⟩) ?_
  refine xx_set 4 nd (ee_call (c_need_row T) (hr.mono (by decide)) (ea_cons (ee_var 0) (ea_cons (ee_var 1) (ea_cons (ee_var 4) ea_nil))) ⟨h, vals, rfl, ok, ⟨hl, hv⟩, rfl⟩) ?_
  refine xx_set 5 nd (y := .dat (tI (othersI q ans))) (ee_tuple (ee_is (ee_lc2t (i := 9) (j := 10) (xs := q.zipIdx) (ex := fun p => .int (p.2 : Nat)) (ey := fun p => .int p.1) (p := fun p => !decide (p.1 = ans)) (f := fun p => .int (p.2 : Nat)) rfl nd (by decide) (ei_is (ei_enS (t := true) (ee_var 2) T.n_enumerate) (en_maps _ _)) rfl
    (fun s H C cl fp a ha => ets_one (ec_et (ec_neI (ee_var 10) (ee_var 3)))) (fun s H C cl fp a ha _ => ee_var 9) (sl_of (by rw [List.length_zipIdx]; omega))) (by unfold othersI; rw [List.map_map]; rfl)) T.n_tuple) ?_
  refine xx_own 6 nd ef_nil ?_
  have hoth : ∀ n ∈ othersI q ans, ∃ i : Nat, n = i ∧ i < h.st.length := fun n hn => by
    obtain ⟨i, e, hi⟩ := othersI_mem hn
    exact ⟨i, e, by omega⟩
  have hlo : (othersI q ans).length ≤ 300 := by
    unfold othersI
    rw [List.length_map]
    have := List.length_filter_le (fun p => !decide (p.1 = ans)) q.zipIdx
    rw [List.length_zipIdx] at this
    omega
  let J : Nat → DEnv := fun i => [some (.im h.im), some (.im (Tu (viewD h.sz.length))), some (.im (Tu (q.map .int))), some (.im (I ans)), some (.im (Tu (rowD vals))), some (.im (.dat (tI (othersI q ans)))), some (.lst ((vals.zipIdx.take i).map fun p => tI (shownI h (othersI q ans) p.2 p.1))), none, none, none, none]
  refine xx_nx (ρ' := J vals.length) (x1_for (fun i ρ => ρ = J i) PassesOwn.never rfl (ei_is (ei_zip (t := true) (u := true) (ds := (List.range h.sz.length).map cellT) (fs := vals.map valD) (ee_var 1) (ee_var 4) T.n_zip) (zip_maps _ _ _ _)) (eg_2 (i := 7) (j := 8) rfl nd (by decide)) rfl ?_ ?_) ?_
  · rintro i d ρ1 hi rfl
    rw [List.getElem?_map] at hi
    obtain ⟨⟨c, v⟩, hz, rfl⟩ := Option.map_eq_some_iff.mp hi
    rw [List.getElem?_zip_eq_some] at hz
    obtain ⟨hc, hvi⟩ := hz
    have hlt : i < h.sz.length := by
      have := (List.getElem?_eq_some_iff.mp hc).1
      rw [List.length_range] at this
      exact this
    rw [List.getElem?_range hlt] at hc
    have ec : i = c := Option.some.inj hc
    subst ec
    refine ⟨_, ⟨_, _, rfl, rfl⟩, xx_app 6 rfl (d := tI (shownI h (othersI q ans) i v)) (ee_tuple (ds := (shownI h (othersI q ans) i v).map .int) (ee_lc1 (i := 9) (xs := othersI q ans) (enc := PyData.int) (p := fun n => decide (shows h i n.toNat = v)) (f := PyData.int) rfl nd (ei_tup (ds := (othersI q ans).map .int) (ee_var 5)) rfl (fun s H C cl fp n hn => ?_) (fun s H C cl fp a ha _ => ee_var 9) (sl_of (by omega))) T.n_tuple) ?_ (xx_nil ⟨J (i + 1), ?_, rfl⟩)⟩
    · obtain ⟨j, rfl, hj⟩ := hoth n hn
      refine ets_one (et_is (ec_et (ec_eqD (d := tI [shows h i j]) (f := valD v) (u64 hr) (ee_call (c_seen_at T) (hr.mono (by decide)) (ea_cons (ee_var 0) (ea_cons (ee_var 7) (ea_cons (ee_var 9) ea_nil))) ⟨h, i, j, rfl, ok, hlt, hj, rfl⟩) (ee_var 8) (shaped_tI _) (shaped_tI _))) ?_)
      unfold valD
      rw [eqv_tI, Int.toNat_natCast]
      exact decide_eq_decide.mpr ⟨fun e => by injection e, fun e => by rw [e]⟩
    · rw [List.length_map, List.length_take, List.length_zipIdx, sizeLine_eq]
      omega
    · refine ⟨rfl, rfl, rfl, rfl, rfl, rfl, ?_, trivial⟩
      show some (En.lst _) = some (En.lst _)
      rw [take_at (zipIdx_at hvi), List.map_append]
      rfl
  · rintro ρ1 rfl
    have : ((List.range h.sz.length).zip vals).length = vals.length := by rw [List.length_zip, List.length_range]; omega
    rw [List.length_map, this]
  · refine xx_frzL 6 rfl (xx_ret (ee_tup (ds := [tI (othersI q ans), .tuple ((shownL h (othersI q ans) vals).map tI)]) (ea_cons (ee_var 5) (ea_cons (ee_is (ee_tuple (ee_var 6) T.n_tuple) ?_) ea_nil)) (sl_le rfl)) rfl)
    unfold shownL
    rw [List.take_of_length_le (by rw [List.length_zipIdx]; exact Nat.le_refl _), List.map_map]
    rfl
end
end K5
/-! Defs6: lots, sizes, moduli. -/
namespace K5
open PySem PySem.Spec PyProof.Rows L2
theorem getD_at {k : List Int} {i : Nat} (h : i < k.length) : k[i]? = some (k.getD i 0) := by
  rw [List.getD_eq_getElem?_getD, List.getElem?_eq_getElem h] <;> rfl
def trip (m : Nat) : Nat := if m % 2 = 0 then m else 2 * m
section
variable {P : Program} {w : World} {K : PySem.W.Frag} {mg : Str → Option Value} {base : Heap}

theorem sc_is_rising_lot : FnScope ["value", "lot", "one", "at"] ["value", "lot"] (defScope s_is_rising_lot) := ⟨rfl, rfl, rfl, by decide +kernel, rfl, by decide +kernel, by decide +kernel⟩
/-- a rising lot of those -/
def LotOk (lot others : List Int) : Prop := lot ≠ [] ∧ (∀ x ∈ lot, 0 ≤ x ∧ x ∈ others) ∧ ∀ i, i + 1 < lot.length → lot.getD i 0 < lot.getD (i + 1) 0
def rRising (xs : List Im) (y : Im) : Prop := ∃ k l : List Int, xs = [.dat (tI k), .dat (tI l)] ∧ LotOk k l ∧ k.length ≤ 1000 ∧ y = Bl true
theorem c_is_rising_lot (T : Txt K mg) : Cal P w K mg base 3 "is_rising_lot" ["value", "lot"] (spR K rRising) := by
  refine Cal.of T.g_is_rising_lot T.d_is_rising_lot (fun _ _ _ _ _ _ us hl => match us, hl with | [_, _], _ => rfl) fun f fd F => ?_
  refine def_ok F sc_is_rising_lot (by decide) (by rintro xs y ⟨k, l, rfl, _⟩; rfl) fun cdv A outer s H M E xs y hr hR => ?_
  obtain ⟨k, l, rfl, ⟨kn, kl, kr⟩, h1000, rfl⟩ := hR
  have nd := sc_is_rising_lot.nd
  have k1 : 1 ≤ k.length := by
    cases k with
    | nil => exact absurd rfl kn
    | cons _ _ => exact Nat.succ_le_succ (Nat.zero_le _)
  refine xx_ifn (t := !true || !((k.map fun z => decide (0 ≤ z) && decide (z ∈ l)).all id)) ((ew_or (et_not (et_val (ee_isi (x := .dat (tI k)) (ee_var 0) T.n_isinstance T.n_tuple PyProof.Rows.boot_tuple rfl k_tt))) fun _ => ew_or1 (et_not (et_val (ee_all rfl (ee_is (ee_lc0 (i := 2) (xs := k) (enc := PyData.int) (f := fun z => .bool (decide (0 ≤ z) && decide (z ∈ l))) rfl nd (ei_tup (ds := k.map .int) (ee_var 0)) rfl (fun s H C cl fp a ha => ee_and (ee_call (c_is_number T) (hr.mono (by decide)) (ea_cons (ee_var 2) ea_nil) ⟨_, rfl, rfl⟩) fun _ => ee_one (ec_ee (ec_inIT (ks := l) (ee_var 2) (ee_var 1)))) (sl_of (by omega))) (by rw [List.map_map]; rfl)) T.n_all)))).et) ?_ ?_
  · have : (k.map fun z => decide (0 ≤ z) && decide (z ∈ l)).all id = true := by
      rw [List.all_map, List.all_eq_true]
      intro x hx
      obtain ⟨h1, h2⟩ := kl x hx
      simp [h1, h2]
    rw [this]
    rfl
  · refine xx_ret (y := Bl (((List.range (k.length - 1)).map fun i => decide (k.getD i 0 < k.getD (i + 1) 0)).all id)) (ee_all rfl (ee_is (ee_lc0 (i := 3) (xs := List.range (k.length - 1)) (enc := fun i : Nat => .int (i : Nat)) (f := fun i => .bool (decide (k.getD i 0 < k.getD (i + 1) 0))) rfl nd (ei_rng (n := k.length - 1) (ee_is (ee_sub (ee_lenT (ds := k.map .int) (ee_var 0) T.n_len) ee_int) (by rw [List.length_map]; congr 2; omega)) T.n_range (by omega)) rfl (fun s H C cl fp i hi => ?_) (sl_of (by rw [List.length_range]; omega))) (by rw [List.map_map]; rfl)) T.n_all) ?_
    · rw [List.mem_range] at hi
      refine ee_lt (ee_ixTn (i := i) (ds := k.map .int) (ee_var 0) (ee_var 3) (by rw [List.getElem?_map, getD_at (by omega)]; rfl)) (ee_ixTn (i := i + 1) (ds := k.map .int) (ee_var 0) (ee_is (ee_add (ee_var 3) ee_int) rfl) (by rw [List.getElem?_map, getD_at (by omega)]; rfl))
    · refine congrArg Bl ?_
      rw [List.all_map, List.all_eq_true]
      intro i hi
      rw [List.mem_range] at hi
      exact decide_eq_true (kr i (by omega))

theorem sc_is_part_of : FnScope ["lot", "other", "one"] ["lot", "other"] (defScope s_is_part_of) := ⟨rfl, rfl, rfl, by decide +kernel, rfl, by decide +kernel, by decide +kernel⟩
def rPart (xs : List Im) (y : Im) : Prop := ∃ k l : List Int, xs = [.dat (tI k), .dat (tI l)] ∧ k.length ≤ 1000 ∧ y = Bl (partB k l)
theorem c_is_part_of (T : Txt K mg) : Cal P w K mg base 1 "is_part_of" ["lot", "other"] (spR K rPart) := by
  refine Cal.of T.g_is_part_of T.d_is_part_of (fun _ _ _ _ _ _ us hl => match us, hl with | [_, _], _ => rfl) fun f fd F => ?_
  refine def_ok F sc_is_part_of (by decide) (by rintro xs y ⟨k, l, rfl, _⟩; rfl) fun cdv A outer s H M E xs y hr hR => ?_
  obtain ⟨k, l, rfl, hl, rfl⟩ := hR
  have nd := sc_is_part_of.nd
  refine xx_ret (ee_is (ee_all rfl (ee_is (ee_lc0 (i := 2) (xs := k) (enc := PyData.int) (f := fun z => .bool (decide (z ∈ l))) rfl nd (ei_tup (ds := k.map .int) (ee_var 0)) rfl (fun s H C cl fp a ha => ec_ee (ec_inIT (ks := l) (ee_var 2) (ee_var 1))) (sl_of (by omega))) (show _ = Li ((k.map fun z => decide (z ∈ l)).map .bool) by rw [List.map_map]; rfl)) T.n_all) ?_) rfl
  unfold partB
  rw [List.all_map]
  rfl

theorem sc_least_sets : FnScope ["lots", "lot", "other"] ["lots"] (defScope s_least_sets) := ⟨rfl, rfl, rfl, by decide +kernel, rfl, by decide +kernel, by decide +kernel⟩
def rLeast (xs : List Im) (y : Im) : Prop := ∃ ks : List (List Int), xs = [Li (ks.map tI)] ∧ ks.length < 64 ∧ (∀ k ∈ ks, k ≠ [] ∧ k.length ≤ 1000) ∧ y = Tu ((leastOf ks).map tI)
theorem c_least_sets (T : Txt K mg) : Cal P w K mg base 2 "least_sets" ["lots"] (spR K rLeast) := by
  refine Cal.of T.g_least_sets T.d_least_sets (fun _ _ _ _ _ _ us hl => match us, hl with | [_], _ => rfl) fun f fd F => ?_
  refine def_ok F sc_least_sets (by decide) (by rintro xs y ⟨k, rfl, _⟩; rfl) fun cdv A outer s H M E xs y hr hR => ?_
  obtain ⟨ks, rfl, h64, hk, rfl⟩ := hR
  have nd := sc_least_sets.nd
  refine xx_set 0 nd (ee_sortedSet (ks := ks) (u64 hr) rfl (ef_set (u64 hr) rfl (ee_var 0) h64 T.n_set) (fun k h => (hk k h).1) T.n_sorted) ?_
  have hl : (srtT ks).length ≤ 64 := by
    unfold srtT
    rw [(List.mergeSort_perm _ _).length_eq]
    have := nodup_sub (ddp ks) ks nodup_ddp fun x hx => mem_ddp.mp hx
    omega
  refine xx_ret (ee_tuple (ee_lc1 (i := 1) (xs := srtT ks) (enc := tI) (p := fun lot => !((srtT ks).any fun o => (!decide (o = lot)) && partB o lot)) (f := tI) rfl nd (ei_lst (ee_var 0)) rfl (fun s H C cl fp lot hlot => ets_one (et_not (et_val (ee_is (ee_any (bs := (srtT ks).map fun o => (!decide (o = lot)) && partB o lot) rfl (ee_is (ee_lc0 (i := 2) (xs := srtT ks) (enc := tI) (f := fun o => .bool ((!decide (o = lot)) && partB o lot)) rfl nd (ei_lst (ee_var 0)) rfl (fun s H C cl fp o ho => ?_) (sl_of (by omega))) (by rw [List.map_map]; rfl)) T.n_any) (by rw [List.any_map]; rfl))))) (fun s H C cl fp a ha _ => ee_var 1) (sl_of (by omega))) T.n_tuple) rfl
  refine ee_and (ee_is (ee_neD (d := tI o) (f := tI lot) (u64 hr) (ee_var 2) (ee_var 1) (shaped_tI _) (shaped_tI _)) (by rw [eqv_tI])) fun _ => ee_one (ee_call (c_is_part_of T) (hr.mono (by decide)) (ea_cons (ee_var 2) (ea_cons (ee_var 1) ea_nil)) ⟨o, lot, rfl, (hk o (mem_srtT.mp ho)).2, rfl⟩)

theorem sc_need_sizes : FnScope ["sizes", "at"] ["sizes"] (defScope s_need_sizes) := ⟨rfl, rfl, rfl, by decide +kernel, rfl, by decide +kernel, by decide +kernel⟩
def rNeedSizes (xs : List Im) (y : Im) : Prop := ∃ t sz, xs = [Sq t (nI sz)] ∧ 1 ≤ sz.length ∧ sz.length ≤ 6 ∧ (∀ n ∈ sz, 1 ≤ n ∧ n ≤ 36) ∧ prd sz ≤ 300 ∧ y = Tu (nI sz)
theorem c_need_sizes (T : Txt K mg) : Cal P w K mg base 4 "need_sizes" ["sizes"] (spR K rNeedSizes) := by
  refine Cal.of T.g_need_sizes T.d_need_sizes (fun _ _ _ _ _ _ us hl => match us, hl with | [_], _ => rfl) fun f fd F => ?_
  refine def_ok F sc_need_sizes (by decide) (by rintro xs y ⟨t, k, rfl, _⟩; rfl) fun cdv A outer s H M E xs y hr hR => ?_
  obtain ⟨t, sz, rfl, h1, h6, h36, h300, rfl⟩ := hR
  have nd := sc_need_sizes.nd
  refine xx_set 1 nd (ee_call (c_wrong_size T) (hr.mono (by decide)) (ea_cons (ee_var 0) ea_nil) ⟨t, sz, rfl, h1, h6, h36, rfl⟩) ?_
  refine xx_ifn (ec_et (ec_notN (ee_var 1) fun _ _ _ r => nN_non r)) rfl ?_
  exact xx_ifn (ec_et (ec_gt (ee_call (c_standings_count T) (hr.mono (by decide)) (ea_cons (ee_var 0) ea_nil) ⟨t, sz, rfl, fun n hn => (h36 n hn).2, rfl⟩) (ee_gint T.c_MOST_STANDINGS))) (by simp; omega) (xx_ret (ee_tupleS (ee_var 0) T.n_tuple) rfl)

theorem sc_need_modulus : FnScope ["value"] ["value"] (defScope s_need_modulus) := ⟨rfl, rfl, rfl, by decide +kernel, rfl, by decide +kernel, by decide +kernel⟩
def rNeedMod (xs : List Im) (y : Im) : Prop := ∃ m : Nat, xs = [I m] ∧ 1 ≤ m ∧ y = I m
theorem c_need_modulus (T : Txt K mg) : Cal P w K mg base 3 "need_modulus" ["value"] (spR K rNeedMod) := by
  refine Cal.of T.g_need_modulus T.d_need_modulus (fun _ _ _ _ _ _ us hl => match us, hl with | [_], _ => rfl) fun f fd F => ?_
  refine def_ok F sc_need_modulus (by decide) (by rintro xs y ⟨k, rfl, _⟩; rfl) fun cdv A outer s H M E xs y hr hR => ?_
  obtain ⟨m, rfl, h1, rfl⟩ := hR
  exact xx_ifn (t := !decide ((0 : Int) ≤ (m : Int)) || decide ((m : Int) < 1)) ((ew_or (et_not (et_val (ee_call (c_is_number T) (hr.mono (by decide)) (ea_cons (ee_var 0) ea_nil) ⟨_, rfl, rfl⟩))) fun _ => ew_or1 (ec_et (ec_lt (ee_var 0) ee_int))).et) (by simp; omega) (xx_ret (ee_var 0) rfl)

theorem sc_round_trip : FnScope ["size", "modulus"] ["size", "modulus"] (defScope s_round_trip) := ⟨rfl, rfl, rfl, by decide +kernel, rfl, by decide +kernel, by decide +kernel⟩
def rTrip (xs : List Im) (y : Im) : Prop := ∃ m : Nat, xs = [I 2, I m] ∧ 1 ≤ m ∧ m ≤ 36 ∧ y = I (trip m : Nat)
theorem fn_round_trip (T : Txt K mg) {f : Addr} {fd : FuncData} (F : FunD K "round_trip" "round_trip" (defArgs s_round_trip) (defBody s_round_trip) (defScope s_round_trip) [] [] f fd) : FnOk P w K mg base CX0 4 f fd ["size", "modulus"] (spR K rTrip) := by
  refine def_ok F sc_round_trip (by decide) (by rintro xs y ⟨k, rfl, _⟩; rfl) fun cdv A outer s H M E xs y hr hR => ?_
  obtain ⟨m, rfl, h1, h36, rfl⟩ := hR
  refine xx_ifn (t := !decide ((0 : Int) ≤ 2) || !(decide ((2 : Int) ≤ 2) && decide ((2 : Int) ≤ 6))) ((ew_or (et_not (et_val (ee_call (c_is_number T) (hr.mono (by decide)) (ea_cons (ee_var 0) ea_nil) ⟨_, rfl, rfl⟩))) fun _ => ew_or1 (et_not (et_le2 ee_int (ee_var 0) ee_int))).et) (by decide) ?_
  refine xx_drop (ee_call (c_need_modulus T) (hr.mono (by decide)) (ea_cons (ee_var 1) ea_nil) ⟨m, rfl, h1, rfl⟩) ?_
  refine xx_ify (ec_et (ec_eqI (ee_var 0) ee_int)) (by decide) (xx_ret (ee_if (y := I 0) (ec_et (ec_eqI (ee_mod (ee_var 1) ee_int (by decide)) ee_int)) (fun e => ee_is (ee_var 1) ?_) fun e => ee_is (ee_mul ee_int (ee_var 1) (.inr ⟨by omega, by omega⟩)) ?_) rfl)
  · have e := of_decide_eq_true e
    unfold trip
    rw [if_pos (by omega)]
  · have e := of_decide_eq_false e
    unfold trip
    rw [if_neg (by omega)]
    rfl
/-- round_trip(size=2, modulus=e) -/
theorem pe_callK0 {X : Cx} {k : Nat} {f : Addr} {fd : FuncData} {ps ks : List Str} {sp : Sp} {g : List Value → List Value → List Value} {gV : List V → List V → List V} {x : Str} {p pos : Pos} {kws : List Keyword} {tk : TA} (F : FnOk X.prog X.w X.K X.mg X.base CX0 k f fd ps sp) (hr : Room k X.A) (hg : Gl X x) (hm : X.mg x = some (.ref f)) (hk : PySem.W.keepIn X.K (.ref f) = true) (hb : KBinds X.K fd ps ks g gV)
    (hkw : PK X kws tk) (hall : (backToKw pos (keywordEach kws X.env)).all (·.1.isSome) = true) (hks : (backToKw pos (keywordEach kws X.env)).filterMap (·.1) = ks) (hdb : (x == ("__debug__" : Str)) = false) (hpl : ((backTo pos (starEach [] X.env)).any (·.1) || (backToKw pos (keywordEach kws X.env)).any (·.1.isNone)) = false) :
    PE X (.Call (.Name x p) [] kws pos) (fun σ H Q => tk σ H fun zs H2 => sp (gV [] zs) H2 Q E0) := by
  refine ⟨fun pins s σ H Q J h => ?_⟩
  refine wpAny_Call_Name_kw (ld_glob J hg hm ?_ hdb)
  refine PySem.W.callWith_KW0 (h₀ := X.base) J.ok.mod.kin hk hall (thn (hkw.run pos pins s σ H _ J h) fun ws s2 ⟨zs, H2, J2, rz, q2⟩ => ⟨J2.kIn, ?_⟩) hpl
  rw [hks]
  exact run_fnk F hr hb pass0 J2 .nil rz q2
end
end K5
/-! Mk1: marked standings, in plain words. -/
namespace K5
open PySem PySem.Spec PyProof.Rows L2

/-! ### rows -/
theorem mem_rowsStep {rows : List (List Int)} {n : Nat} {r : List Int} : r ∈ rowsStep rows n ↔ ∃ a ∈ rows, ∃ c : Nat, c < n ∧ r = a ++ [(c : Int)] := by
  unfold rowsStep
  rw [List.mem_flatMap]
  constructor
  · rintro ⟨a, ha, hr⟩
    obtain ⟨c, hc, rfl⟩ := List.mem_map.mp hr
    exact ⟨a, ha, c, List.mem_range.mp hc, rfl⟩
  · rintro ⟨a, ha, c, hc, rfl⟩
    exact ⟨a, ha, List.mem_map.mpr ⟨c, List.mem_range.mpr hc, rfl⟩⟩
theorem allRows_snoc (sz : List Nat) (n : Nat) : allRows (sz ++ [n]) = rowsStep (allRows sz) n := by
  unfold allRows
  rw [List.foldl_append]
  rfl
abbrev everyM (m n : Nat) : List (List Int) := allRows (List.replicate n m)
theorem everyM_succ (m n : Nat) : everyM m (n + 1) = rowsStep (everyM m n) m := by
  unfold everyM
  rw [List.replicate_succ', allRows_snoc]
theorem everyM_len (m : Nat) : ∀ n, (everyM m n).length = m ^ n
  | 0 => rfl
  | n + 1 => by rw [everyM_succ, rowsStep_len, everyM_len m n, Nat.pow_succ]
theorem mem_everyM {m : Nat} : ∀ {n : Nat} {r : List Int}, r ∈ everyM m n ↔ r.length = n ∧ ∀ x ∈ r, 0 ≤ x ∧ x < m
  | 0, r => by
    constructor
    · intro h
      have h : r ∈ ([[]] : List (List Int)) := h
      rw [List.mem_singleton] at h
      subst h
      exact ⟨rfl, fun x h => by cases h⟩
    · rintro ⟨h, _⟩
      cases r with
      | nil => exact List.mem_singleton.mpr rfl
      | cons _ _ => cases h
  | n + 1, r => by
    rw [everyM_succ, mem_rowsStep]
    constructor
    · rintro ⟨a, ha, c, hc, rfl⟩
      obtain ⟨h1, h2⟩ := mem_everyM.mp ha
      refine ⟨by rw [List.length_append, h1]; rfl, fun x hx => ?_⟩
      rcases List.mem_append.mp hx with hx | hx
      · exact h2 x hx
      · rw [List.mem_singleton] at hx
        subst hx
        omega
    · rintro ⟨h1, h2⟩
      have hne : r ≠ [] := fun e => by rw [e] at h1; cases h1
      refine ⟨r.dropLast, mem_everyM.mpr ⟨by rw [List.length_dropLast, h1]; rfl, fun x hx => h2 x (List.dropLast_subset r hx)⟩, (r.getLast hne).toNat, ?_, ?_⟩
      · have := h2 _ (List.getLast_mem hne)
        omega
      · have := (h2 _ (List.getLast_mem hne)).1
        rw [Int.toNat_of_nonneg this]
        exact (List.dropLast_concat_getLast hne).symm
theorem lt_snoc : ∀ {a b : List Int} {x y : Int}, a.length = b.length → a < b → a ++ [x] < b ++ [y]
  | [], [], _, _, _, h => absurd h (List.lt_irrefl _)
  | [], _ :: _, _, _, h, _ => by cases h
  | _ :: _, [], _, _, h, _ => by cases h
  | a :: as, b :: bs, x, y, hl, h => by
    rw [List.cons_lt_cons_iff] at h
    rw [List.cons_append, List.cons_append, List.cons_lt_cons_iff]
    rcases h with h | ⟨h1, h2⟩
    · exact .inl h
    · exact .inr ⟨h1, lt_snoc (by simpa using hl) h2⟩
theorem lt_last : ∀ {a : List Int} {x y : Int}, x < y → a ++ [x] < a ++ [y]
  | [], x, y, h => by
    show [x] < [y]
    rw [List.cons_lt_cons_iff]
    exact .inl h
  | a :: as, x, y, h => by
    rw [List.cons_append, List.cons_append, List.cons_lt_cons_iff]
    exact .inr ⟨rfl, lt_last h⟩
theorem rowsStep_sorted {rows : List (List Int)} {n l : Nat} (hl : ∀ r ∈ rows, r.length = l) (h : rows.Pairwise (· < ·)) : (rowsStep rows n).Pairwise (· < ·) := by
  unfold rowsStep
  rw [List.pairwise_flatMap]
  refine ⟨fun a ha => ?_, ?_⟩
  · rw [List.pairwise_map]
    exact List.pairwise_lt_range.imp fun h => lt_last (by omega)
  · refine List.Pairwise.imp_of_mem (fun {a b} ha hb hab x hx y hy => ?_) h
    obtain ⟨c, _, rfl⟩ := List.mem_map.mp hx
    obtain ⟨d, _, rfl⟩ := List.mem_map.mp hy
    exact lt_snoc ((hl a ha).trans (hl b hb).symm) hab
theorem allRows_sorted (sz : List Nat) : ∀ i ≤ sz.length, (allRows (sz.take i)).Pairwise (· < ·) := by
  intro i
  induction i with
  | zero => intro _; exact List.pairwise_singleton _ _
  | succ i ih =>
    intro hi
    rw [allRows_take (List.getElem?_eq_getElem (show i < sz.length by omega))]
    exact rowsStep_sorted (allRows_mem sz i (by omega)) (ih (by omega))
theorem sorted_all (sz : List Nat) : (allRows sz).Pairwise (· < ·) := by
  have := allRows_sorted sz sz.length (Nat.le_refl _)
  rw [List.take_length] at this
  exact this
theorem nodup_of_lt {l : List (List Int)} (h : l.Pairwise (· < ·)) : l.Nodup := by
  refine List.Pairwise.imp (fun {a b} (h : a < b) e => ?_) h
  rw [e] at h
  exact List.lt_irrefl _ h
theorem leT_of_lt {l : List (List Int)} (h : l.Pairwise (· < ·)) : l.Pairwise fun a b => leT a b = true := h.imp fun h => decide_eq_true (List.le_of_lt h)
theorem srtL_sorted (l : List (List Int)) : (srtL l).Pairwise fun a b => leT a b = true := List.pairwise_mergeSort leT_trans leT_total _
theorem srtL_fix {l : List (List Int)} (h : l.Pairwise fun a b => leT a b = true) : srtL l = l :=
  List.Perm.eq_of_pairwise (le := fun a b => leT a b = true) (fun a b _ _ h1 h2 => by
    simp only [leT, decide_eq_true_eq] at h1 h2
    exact List.le_antisymm h1 h2) (srtL_sorted l) h (List.mergeSort_perm _ _)
theorem srtL_len (l : List (List Int)) : (srtL l).length = l.length := (List.mergeSort_perm _ _).length_eq
theorem srtL_nodup {l : List (List Int)} : (srtL l).Nodup ↔ l.Nodup := (List.mergeSort_perm _ _).nodup_iff

/-! ### marks -/
def mStd (m : Nat) (s mk : List Int) : List Int := (s.zip mk).map fun p => p.1 * (m : Int) + p.2
theorem mStd_len {m : Nat} {s mk : List Int} : (mStd m s mk).length = min s.length mk.length := by
  unfold mStd
  rw [List.length_map, List.length_zip]
theorem mStd_div {m : Nat} (hm : 1 ≤ m) : ∀ {s mk : List Int}, s.length = mk.length → (∀ x ∈ mk, 0 ≤ x ∧ x < m) → (mStd m s mk).map (· / (m : Int)) = s
  | [], [], _, _ => rfl
  | [], _ :: _, h, _ => by cases h
  | _ :: _, [], h, _ => by cases h
  | a :: s, b :: mk, h, hb => by
    have ih := mStd_div hm (s := s) (mk := mk) (by simpa using h) fun x hx => hb x (List.mem_cons_of_mem _ hx)
    obtain ⟨b0, b1⟩ := hb b List.mem_cons_self
    unfold mStd at ih ⊢
    rw [List.zip_cons_cons, List.map_cons, List.map_cons, ih]
    congr 1
    show (a * (m : Int) + b) / (m : Int) = a
    rw [Int.add_comm, Int.add_mul_ediv_right _ _ (by omega), Int.ediv_eq_zero_of_lt b0 b1, Int.zero_add]
theorem mStd_mod {m : Nat} : ∀ {s mk : List Int}, s.length = mk.length → (∀ x ∈ mk, 0 ≤ x ∧ x < m) → (mStd m s mk).map (· % (m : Int)) = mk
  | [], [], _, _ => rfl
  | [], _ :: _, h, _ => by cases h
  | _ :: _, [], h, _ => by cases h
  | a :: s, b :: mk, h, hb => by
    have ih := mStd_mod (s := s) (mk := mk) (by simpa using h) fun x hx => hb x (List.mem_cons_of_mem _ hx)
    obtain ⟨b0, b1⟩ := hb b List.mem_cons_self
    unfold mStd at ih ⊢
    rw [List.zip_cons_cons, List.map_cons, List.map_cons, ih]
    congr 1
    show (a * (m : Int) + b) % (m : Int) = b
    rw [Int.add_comm, Int.add_mul_emod_self_right, Int.emod_eq_of_lt b0 b1]
theorem mStd_at {m : Nat} {s mk : List Int} {c : Nat} {x y : Int} (h1 : s[c]? = some x) (h2 : mk[c]? = some y) : (mStd m s mk)[c]? = some (x * (m : Int) + y) := by
  unfold mStd
  rw [List.getElem?_map, (List.getElem?_zip_eq_some (z := (x, y))).mpr ⟨h1, h2⟩]
  rfl
/-- what a house must be for it to be marked -/
structure MkOk (h : Hou) (m : Nat) : Prop where
  ok : HouOk h
  m1 : 1 ≤ m
  m36 : ∀ n ∈ h.sz, m * n ≤ 36
  some_ : 1 ≤ h.st.length
  most : h.st.length * m ^ h.sz.length ≤ 300
  nd : h.st.Nodup
  ch : ChOk h.st.length h.ch
  few : h.ch.length ≤ 100
def rawM (h : Hou) (m : Nat) : List (List Int) := h.st.flatMap fun s => (everyM m h.sz.length).map fun mk => mStd m s mk
def mStds (h : Hou) (m : Nat) : List (List Int) := srtL (rawM h m)
def laterM (m : Nat) (one other mk : List Int) : List Int := mk.zipIdx.map fun p => (p.1 + (if one.getD p.2 0 = other.getD p.2 0 then 0 else 1)) % (m : Int)
def idxM (h : Hou) (m : Nat) (k : List Int) : Int := ((mStds h m).idxOf k : Nat)
def chM1 (h : Hou) (m : Nat) (p : Int × Int) (mk : List Int) : Int × Int :=
  (idxM h m (mStd m (h.st.getD p.1.toNat []) mk), idxM h m (mStd m (h.st.getD p.2.toNat []) (laterM m (h.st.getD p.1.toNat []) (h.st.getD p.2.toNat []) mk)))
def mChs (h : Hou) (m : Nat) : List (Int × Int) := h.ch.flatMap fun p => (everyM m h.sz.length).map fun mk => chM1 h m p mk
def mSz (h : Hou) (m : Nat) : List Nat := h.sz.map (· * m)
def markedH (h : Hou) (m : Nat) : Hou := mkHou (mSz h m) (mStds h m) (mChs h m)

section
variable {h : Hou} {m : Nat} (o : MkOk h m)
include o
theorem MkOk.pow : m ^ h.sz.length ≤ 300 := Nat.le_trans (Nat.le_mul_of_pos_left _ o.some_) o.most
theorem rawM_len : (rawM h m).length = h.st.length * m ^ h.sz.length := by
  unfold rawM
  rw [List.length_flatMap]
  have : (h.st.map fun s => ((everyM m h.sz.length).map fun mk => mStd m s mk).length) = h.st.map fun _ => m ^ h.sz.length := List.map_congr_left fun s _ => by rw [List.length_map, everyM_len]
  rw [this]
  clear this
  induction h.st with
  | nil => simp
  | cons a l ih => rw [List.map_cons, List.sum_cons, ih, List.length_cons, Nat.succ_mul, Nat.add_comm]
theorem mem_rawM {k : List Int} : k ∈ rawM h m ↔ ∃ s ∈ h.st, ∃ mk ∈ everyM m h.sz.length, k = mStd m s mk := by
  unfold rawM
  rw [List.mem_flatMap]
  exact ⟨fun ⟨s, hs, hk⟩ => by obtain ⟨mk, h1, rfl⟩ := List.mem_map.mp hk; exact ⟨s, hs, mk, h1, rfl⟩, fun ⟨s, hs, mk, h1, e⟩ => ⟨s, hs, List.mem_map.mpr ⟨mk, h1, e.symm⟩⟩⟩
theorem rawM_inj {s s2 mk mk2 : List Int} (hs : s ∈ h.st) (hs2 : s2 ∈ h.st) (h1 : mk ∈ everyM m h.sz.length) (h2 : mk2 ∈ everyM m h.sz.length) (e : mStd m s mk = mStd m s2 mk2) : s = s2 ∧ mk = mk2 := by
  obtain ⟨l1, b1⟩ := mem_everyM.mp h1
  obtain ⟨l2, b2⟩ := mem_everyM.mp h2
  have e1 := (o.ok.len s hs).trans l1.symm
  have e2 := (o.ok.len s2 hs2).trans l2.symm
  exact ⟨by rw [← mStd_div o.m1 e1 b1, ← mStd_div o.m1 e2 b2, e], by rw [← mStd_mod e1 b1, ← mStd_mod e2 b2, e]⟩
theorem rawM_nodup : (rawM h m).Nodup := by
  unfold rawM List.Nodup
  rw [List.pairwise_flatMap]
  refine ⟨fun s hs => ?_, ?_⟩
  · rw [List.pairwise_map]
    exact List.Pairwise.imp_of_mem (fun {a b} ha hb ne e => ne (rawM_inj o hs hs ha hb e).2) (nodup_of_lt (sorted_all _))
  · refine List.Pairwise.imp_of_mem (fun {a b} ha hb ne x hx y hy e => ?_) o.nd
    obtain ⟨c, hc, rfl⟩ := List.mem_map.mp hx
    obtain ⟨d, hd, rfl⟩ := List.mem_map.mp hy
    exact ne (rawM_inj o ha hb hc hd e).1
theorem mem_mStds {k : List Int} : k ∈ mStds h m ↔ ∃ s ∈ h.st, ∃ mk ∈ everyM m h.sz.length, k = mStd m s mk := mem_srtL.trans (mem_rawM o)
theorem mStds_len : (mStds h m).length = h.st.length * m ^ h.sz.length := (srtL_len _).trans (rawM_len o)
theorem mSt_ok : StOk (mSz h m) (mStds h m) := by
  have hl : (mSz h m).length = h.sz.length := List.length_map ..
  refine ⟨by rw [hl]; exact o.ok.c6, ?_, by rw [mStds_len o]; exact o.most, srtL_nodup.mpr (rawM_nodup o), fun k hk => ?_, fun k hk => ?_⟩
  · rw [mStds_len o]
    exact Nat.mul_pos o.some_ (Nat.pow_pos o.m1)
  · obtain ⟨s, hs, mk, h1, rfl⟩ := (mem_mStds o).mp hk
    rw [mStd_len, (mem_everyM.mp h1).1, o.ok.len s hs, hl]
    omega
  · obtain ⟨s, hs, mk, h1, rfl⟩ := (mem_mStds o).mp hk
    obtain ⟨l1, b1⟩ := mem_everyM.mp h1
    have hf := o.ok.fit s hs
    have ls := o.ok.len s hs
    unfold fitsB at hf ⊢
    rw [List.all_eq_true] at hf ⊢
    intro p hp
    obtain ⟨c, hc⟩ := List.getElem?_of_mem hp
    rw [List.getElem?_zip_eq_some] at hc
    obtain ⟨q1, q2⟩ := hc
    unfold mSz at q2
    rw [List.getElem?_map] at q2
    obtain ⟨n, hn, e2⟩ := Option.map_eq_some_iff.mp q2
    have hcl := (List.getElem?_eq_some_iff.mp hn).1
    have es : s[c]? = some (s[c]'(by omega)) := List.getElem?_eq_getElem (by omega)
    have em : mk[c]? = some (mk[c]'(by omega)) := List.getElem?_eq_getElem (by omega)
    rw [mStd_at es em] at q1
    have hx := hf (s[c]'(by omega), n) (List.mem_of_getElem? (i := c) (List.getElem?_zip_eq_some.mpr ⟨es, hn⟩))
    simp only [Bool.and_eq_true, decide_eq_true_eq] at hx ⊢
    have hy := b1 _ (List.getElem_mem (show c < mk.length by omega))
    rw [← Option.some.inj q1, ← e2]
    obtain ⟨x0, x1⟩ := hx
    obtain ⟨y0, y1⟩ := hy
    have m0 : (0 : Int) ≤ m := Int.natCast_nonneg _
    refine ⟨Int.add_nonneg (Int.mul_nonneg x0 m0) y0, ?_⟩
    have : (s[c]'(by omega)) + 1 ≤ (n : Int) := by omega
    have h3 := Int.mul_le_mul_of_nonneg_right this m0
    rw [Int.add_mul, Int.one_mul] at h3
    have e3 : ((n * m : Nat) : Int) = (n : Int) * (m : Int) := Int.natCast_mul ..
    rw [e3]
    omega
theorem later_mem {one other mk : List Int} (h1 : mk ∈ everyM m h.sz.length) : laterM m one other mk ∈ everyM m h.sz.length := by
  have m1 := o.m1
  obtain ⟨l1, b1⟩ := mem_everyM.mp h1
  refine mem_everyM.mpr ⟨by unfold laterM; rw [List.length_map, List.length_zipIdx, l1], fun x hx => ?_⟩
  unfold laterM at hx
  obtain ⟨p, _, rfl⟩ := List.mem_map.mp hx
  exact ⟨Int.emod_nonneg _ (by omega), Int.emod_lt_of_pos _ (by omega)⟩
theorem st_at {i : Int} (h0 : 0 ≤ i) (h1 : i < (h.st.length : Nat)) : h.st[i.toNat]? = some (h.st.getD i.toNat []) ∧ h.st.getD i.toNat [] ∈ h.st := by
  have hl : i.toNat < h.st.length := by omega
  have e := List.getElem?_eq_getElem hl
  have e2 : h.st.getD i.toNat [] = h.st[i.toNat] := by rw [List.getD_eq_getElem?_getD, e] <;> rfl
  rw [e2]
  exact ⟨e, List.getElem_mem hl⟩
theorem idx_at {k : List Int} (hk : k ∈ mStds h m) : (mStds h m)[(mStds h m).idxOf k]? = some k := by
  have := List.idxOf_lt_length_of_mem hk
  rw [List.getElem?_eq_getElem this, List.getElem_idxOf]
theorem chM1_mem {p : Int × Int} (hp : p ∈ h.ch) {mk : List Int} (h1 : mk ∈ everyM m h.sz.length) : mStd m (h.st.getD p.1.toNat []) mk ∈ mStds h m ∧ mStd m (h.st.getD p.2.toNat []) (laterM m (h.st.getD p.1.toNat []) (h.st.getD p.2.toNat []) mk) ∈ mStds h m := by
  obtain ⟨a0, a1, b0, b1, _⟩ := o.ch.bd p hp
  exact ⟨(mem_mStds o).mpr ⟨_, (st_at o a0 a1).2, mk, h1, rfl⟩, (mem_mStds o).mpr ⟨_, (st_at o b0 b1).2, _, later_mem o h1, rfl⟩⟩
theorem idxM_inj {k k2 : List Int} (hk : k ∈ mStds h m) (hk2 : k2 ∈ mStds h m) (e : idxM h m k = idxM h m k2) : k = k2 := by
  have a := idx_at o hk
  have b := idx_at o hk2
  have e : (mStds h m).idxOf k = (mStds h m).idxOf k2 := by unfold idxM at e; omega
  rw [e, b] at a
  exact (Option.some.inj a).symm
theorem stN_inj {i j : Int} (i0 : 0 ≤ i) (i1 : i < (h.st.length : Nat)) (j0 : 0 ≤ j) (j1 : j < (h.st.length : Nat)) (e : h.st.getD i.toNat [] = h.st.getD j.toNat []) : i = j := by
  have a := (st_at o i0 i1).1
  have b := (st_at o j0 j1).1
  rw [← e] at b
  obtain ⟨h1, e1⟩ := List.getElem?_eq_some_iff.mp a
  obtain ⟨h2, e2⟩ := List.getElem?_eq_some_iff.mp b
  have pw := List.pairwise_iff_getElem.mp o.nd
  rcases Nat.lt_trichotomy i.toNat j.toNat with l | l | l
  · exact absurd (e1.trans e2.symm) (pw _ _ h1 h2 l)
  · omega
  · exact absurd (e2.trans e1.symm) (pw _ _ h2 h1 l)
theorem mCh_ok : ChOk (mStds h m).length (mChs h m) := by
  have lenM : (mChs h m).length = h.ch.length * m ^ h.sz.length := by
    unfold mChs
    rw [List.length_flatMap]
    have : (h.ch.map fun p => ((everyM m h.sz.length).map fun mk => chM1 h m p mk).length) = h.ch.map fun _ => m ^ h.sz.length := List.map_congr_left fun s _ => by rw [List.length_map, everyM_len]
    rw [this]
    clear this
    induction h.ch with
    | nil => simp
    | cons a l ih => rw [List.map_cons, List.sum_cons, ih, List.length_cons, Nat.succ_mul, Nat.add_comm]
  refine ⟨?_, ?_, fun p hp => ?_⟩
  · rw [lenM]
    have := Nat.mul_le_mul o.few o.pow
    omega
  · unfold mChs List.Nodup
    rw [List.pairwise_flatMap]
    refine ⟨fun p hp => ?_, ?_⟩
    · rw [List.pairwise_map]
      refine List.Pairwise.imp_of_mem (fun {a b} ha hb ne e => ne ?_) (nodup_of_lt (sorted_all (List.replicate h.sz.length m)))
      have e1 := congrArg Prod.fst e
      obtain ⟨a0, a1, _⟩ := o.ch.bd p hp
      have hm := (st_at o a0 a1).2
      exact (rawM_inj o hm hm ha hb (idxM_inj o (chM1_mem o hp ha).1 (chM1_mem o hp hb).1 e1)).2
    · refine List.Pairwise.imp_of_mem (fun {p q} hp hq ne x hx y hy e => ?_) o.ch.nd
      obtain ⟨a, ha, rfl⟩ := List.mem_map.mp hx
      obtain ⟨b, hb, rfl⟩ := List.mem_map.mp hy
      obtain ⟨p0, p1, p2, p3, _⟩ := o.ch.bd p hp
      obtain ⟨q0, q1, q2, q3, _⟩ := o.ch.bd q hq
      have e1 := (rawM_inj o (st_at o p0 p1).2 (st_at o q0 q1).2 ha hb (idxM_inj o (chM1_mem o hp ha).1 (chM1_mem o hq hb).1 (congrArg Prod.fst e))).1
      have e2 := (rawM_inj o (st_at o p2 p3).2 (st_at o q2 q3).2 (later_mem o ha) (later_mem o hb) (idxM_inj o (chM1_mem o hp ha).2 (chM1_mem o hq hb).2 (congrArg Prod.snd e))).1
      exact ne (Prod.ext (stN_inj o p0 p1 q0 q1 e1) (stN_inj o p2 p3 q2 q3 e2))
  · unfold mChs at hp
    obtain ⟨p0, hp0, hp⟩ := List.mem_flatMap.mp hp
    obtain ⟨mk, hmk, rfl⟩ := List.mem_map.mp hp
    obtain ⟨m1, m2⟩ := chM1_mem o hp0 hmk
    have l1 := List.idxOf_lt_length_of_mem m1
    have l2 := List.idxOf_lt_length_of_mem m2
    obtain ⟨a0, a1, b0, b1, ne⟩ := o.ch.bd p0 hp0
    refine ⟨Int.natCast_nonneg _, by show ((_ : Nat) : Int) < _; omega, Int.natCast_nonneg _, by show ((_ : Nat) : Int) < _; omega, fun e => ?_⟩
    exact ne (stN_inj o a0 a1 b0 b1 (rawM_inj o (st_at o a0 a1).2 (st_at o b0 b1).2 hmk (later_mem o hmk) (idxM_inj o m1 m2 e)).1)
end
end K5
/-! Defs7: marks. -/
namespace K5
open PySem PySem.Spec PyProof.Rows L2
theorem nI_rep (m n : Nat) : nI (List.replicate n m) = List.replicate n (.int (m : Nat)) := List.map_replicate ..
theorem rep_take (m n k : Nat) : (List.replicate n m).take k = List.replicate (min k n) m := by rw [List.take_replicate]
def lkp (ps : List (List Int × Int)) (k : List Int) : Int := ((ps.find? fun p => decide (p.1 = k)).map (·.2)).getD 0
theorem getK_lkp {ps : List (List Int × Int)} {k : List Int} (h : k ∈ ps.map (·.1)) : getK (ps.map fun p => (p.1, PyData.int p.2)) k = some (.int (lkp ps k)) := by
  unfold getK lkp
  induction ps with
  | nil => cases h
  | cons p ps ih =>
    rw [List.map_cons, List.find?_cons, List.find?_cons]
    by_cases e : p.1 = k
    · rw [decide_eq_true e]
      rfl
    · rw [decide_eq_false e]
      rw [List.map_cons] at h
      exact ih ((List.mem_cons.mp h).resolve_left fun z => e z.symm)
def qM (h : Hou) (q : List Int) (m : Nat) : List Int := (markedH h m).st.map fun s => lkp (h.st.zip q) (s.map (· / (m : Int)))
section
variable {P : Program} {w : World} {K : PySem.W.Frag} {mg : Str → Option Value} {base : Heap}
theorem sc_marked_standing : FnScope ["standing", "modulus", "marks", "content", "mark"] ["standing", "modulus", "marks"] (defScope s_marked_standing) := ⟨rfl, rfl, rfl, by decide +kernel, rfl, by decide +kernel, by decide +kernel⟩
def rMStd (xs : List Im) (y : Im) : Prop := ∃ (m : Nat) (t : Bool) (s mk : List Int), xs = [.dat (tI s), I m, Sq t (mk.map .int)] ∧ m ≤ 36 ∧ s.length ≤ 6 ∧ y = .dat (tI (mStd m s mk))
theorem c_marked_standing (T : Txt K mg) : Cal P w K mg base 1 "marked_standing" ["standing", "modulus", "marks"] (spR K rMStd) := by
  refine Cal.of T.g_marked_standing T.d_marked_standing (fun _ _ _ _ _ _ us hl => match us, hl with | [_, _, _], _ => rfl) fun f fd F => ?_
  refine def_ok F sc_marked_standing (by decide) (by rintro xs y ⟨k, t, s, mk, rfl, _⟩; rfl) fun cdv A outer s H M E xs y hr hR => ?_
  obtain ⟨m, t, k, mk, rfl, m36, kl, rfl⟩ := hR
  have nd := sc_marked_standing.nd
  refine xx_ret (ee_tuple (ee_is (ee_lc2n (i := 3) (j := 4) (xs := k.zip mk) (ex := fun p => .int p.1) (ey := fun p => .int p.2) (f := fun p => .int (p.1 * (m : Int) + p.2)) rfl nd (by decide) (ei_is (ei_zip (t := true) (u := t) (ds := k.map .int) (fs := mk.map .int) (ee_var 0) (ee_var 2) T.n_zip) (zip_maps _ _ _ _)) rfl
    (fun s H C cl fp a ha => ee_add (ee_mul (ee_var 3) (ee_var 1) (.inr ⟨by omega, by omega⟩)) (ee_var 4)) (sl_of (by rw [List.length_zip]; omega))) (show _ = Li ((mStd m k mk).map .int) by unfold mStd; rw [List.map_map]; rfl)) T.n_tuple) rfl

theorem ee_every {X : Cx} {B : Bs} {ρ : DEnv} {pos p pos2 pos3 : Pos} {a b : Expr} {m n : Nat} (T : Txt X.K X.mg) (hr : Room 1 X.A) (ha : EE X B ρ a (I (m : Nat))) (hb : EE X B ρ b (I (n : Nat))) (m36 : m ≤ 36) (n6 : n ≤ 6) (hp : m ^ n ≤ 300) (m1 : 1 ≤ m) (hg : Gl X "all_standings" := by rfl)
    (h1 : starEach [Expr.BinOp (.List [a] pos3) .Mult b pos2] X.env = (false, eval (.BinOp (.List [a] pos3) .Mult b pos2) X.env) :: starEach [] X.env := by rfl) (h2 : starEach [a] X.env = (false, eval a X.env) :: starEach [] X.env := by rfl) : EE X B ρ (.Call (.Name "all_standings" p) [.BinOp (.List [a] pos3) .Mult b pos2] [] pos) (Tu ((everyM m n).map tI)) :=
  ee_call (c_all_standings T) hr (ea_cons (ee_is (ee_rep1 (d := .int (m : Nat)) (n := n) (ee_lst (ds := [.int (m : Nat)]) (ea_cons ha ea_nil h2) (sl_le rfl)) hb (by omega)) (show _ = Sq false (nI (List.replicate n m)) by rw [nI_rep]; rfl)) ea_nil h1) ⟨false, List.replicate n m, rfl, by rw [List.length_replicate]; exact n6, fun z hz => by rw [List.eq_of_mem_replicate hz]; exact m36, fun k => by
    rw [rep_take]
    have := everyM_len m (min k n)
    unfold everyM at this
    rw [this]
    exact Nat.le_trans (Nat.pow_le_pow_right m1 (Nat.min_le_right _ _)) hp, rfl⟩ hg

theorem sc_marked_standings : FnScope ["house", "modulus", "every", "standing", "marks"] ["house", "modulus"] (defScope s_marked_standings) := ⟨rfl, rfl, rfl, by decide +kernel, rfl, by decide +kernel, by decide +kernel⟩
theorem MkOk.m_36 {h : Hou} {m : Nat} (o : MkOk h m) : m ≤ 36 := by
  have c1 := o.ok.c1
  have hm := List.getElem_mem (show 0 < h.sz.length by omega)
  have a := o.m36 _ hm
  have b := (o.ok.s36 _ hm).1
  exact Nat.le_trans (Nat.le_mul_of_pos_right _ b) a
def rMStds (xs : List Im) (y : Im) : Prop := ∃ (h : Hou) (m : Nat), xs = [h.im, I m] ∧ MkOk h m ∧ y = Li ((mStds h m).map tI)
theorem c_marked_standings (T : Txt K mg) : Cal P w K mg base 2 "marked_standings" ["house", "modulus"] (spR K rMStds) := by
  refine Cal.of T.g_marked_standings T.d_marked_standings (fun _ _ _ _ _ _ us hl => match us, hl with | [_, _], _ => rfl) fun f fd F => ?_
  refine def_ok F sc_marked_standings (by decide) (by rintro xs y ⟨h, m, rfl, _⟩; rfl) fun cdv A outer s H M E xs y hr hR => ?_
  obtain ⟨h, m, rfl, o, rfl⟩ := hR
  have nd := sc_marked_standings.nd
  have pw := o.pow
  have c6 := o.ok.c6
  have m36 := o.m_36
  have c1 := o.ok.c1
  refine xx_set 2 nd (ee_every T (hr.mono (by decide)) (ee_var 1) (ee_is (ee_lenT (ee_sizes T (ee_var 0)) T.n_len) (by rw [List.length_map])) m36 c6 pw o.m1) ?_
  refine xx_ret (ee_sortedL (ks := rawM h m) (u64 hr) (ee_is (ee_lc22 (i := 3) (j := 4) (xs := h.st) (enc := tI) (ys := fun _ => everyM m h.sz.length) (enc1 := fun _ mk => tI mk) (q := fun _ _ => true) (f := fun s mk => tI (mStd m s mk)) rfl nd (by decide) (ei_tup (ee_stands T (ee_var 0))) rfl
    (fun s H C cl fp a ha => ei_tup (ee_var 2)) (fun s H C cl fp a ha b hb => ets_nil) (fun s H C cl fp a ha b hb _ => ee_call (c_marked_standing T) (hr.mono (by decide)) (ea_cons (ee_var 3) (ea_cons (ee_var 1) (ea_cons (ee_var 4) ea_nil))) ⟨m, true, a, b, rfl, m36, by rw [o.ok.len a ha]; exact c6, rfl⟩) (fun n a ha => ?_)) ?_) (fun k hk => ?_) T.n_sorted) rfl
  · have h1 : ((h.st.take n).flatMap fun a => ((everyM m h.sz.length).filter fun _ => true).map fun mk => tI (mStd m a mk)).length ≤ (h.st.length) * 300 := by
      rw [List.length_flatMap]
      have : ((h.st.take n).map fun a => (((everyM m h.sz.length).filter fun _ => true).map fun mk => tI (mStd m a mk)).length) = (h.st.take n).map fun _ => m ^ h.sz.length := List.map_congr_left fun s _ => by rw [List.length_map, filter_yes, everyM_len]
      rw [this]
      have aux : ∀ l : List (List Int), (l.map fun _ => m ^ h.sz.length).sum ≤ l.length * 300 := fun l => by
        induction l with
        | nil => simp
        | cons a l ih => rw [List.map_cons, List.sum_cons, List.length_cons, Nat.succ_mul]; omega
      have := aux (h.st.take n)
      rw [List.length_take] at this
      have h3 : min n h.st.length * 300 ≤ h.st.length * 300 := Nat.mul_le_mul_right _ (Nat.min_le_right _ _)
      omega
    have := o.ok.most
    rw [everyM_len, sizeLine_eq]
    omega
  · unfold rawM
    rw [List.map_flatMap]
    congr 2
    funext a
    rw [filter_yes, List.map_map]
    rfl
  · obtain ⟨s, hs, mk, h1, rfl⟩ := (mem_rawM o).mp hk
    intro e
    have := mStd_len (m := m) (s := s) (mk := mk)
    rw [e, (mem_everyM.mp h1).1, o.ok.len s hs] at this
    simp at this
    omega

theorem sc_need_marks : FnScope ["house", "modulus", "size"] ["house", "modulus"] (defScope s_need_marks) := ⟨rfl, rfl, rfl, by decide +kernel, rfl, by decide +kernel, by decide +kernel⟩
def rNeedMarks (xs : List Im) (y : Im) : Prop := ∃ (h : Hou) (m : Nat), xs = [h.im, I m] ∧ MkOk h m ∧ y = .dat .none
theorem c_need_marks (T : Txt K mg) : Cal P w K mg base 3 "need_marks" ["house", "modulus"] (spR K rNeedMarks) := by
  refine Cal.of T.g_need_marks T.d_need_marks (fun _ _ _ _ _ _ us hl => match us, hl with | [_, _], _ => rfl) fun f fd F => ?_
  refine def_ok F sc_need_marks (by decide) (by rintro xs y ⟨h, m, rfl, _⟩; rfl) fun cdv A outer s H M E xs y hr hR => ?_
  obtain ⟨h, m, rfl, o, rfl⟩ := hR
  have nd := sc_need_marks.nd
  have c6 := o.ok.c6
  have m36 := o.m_36
  have most := o.most
  refine xx_drop (ee_call (c_need_house T) (hr.mono (by decide)) (ea_cons (ee_var 0) ea_nil) ⟨h, rfl, rfl⟩) ?_
  refine xx_ifn (t := !decide ((0 : Int) ≤ (m : Int)) || !((h.sz.map fun (n : Nat) => decide ((1 : Int) ≤ (m : Int) * (n : Int)) && decide ((m : Int) * (n : Int) ≤ 36)).all id)) ((ew_or (et_not (et_val (ee_call (c_is_number T) (hr.mono (by decide)) (ea_cons (ee_var 1) ea_nil) ⟨_, rfl, rfl⟩))) fun _ => ew_or1 (et_not (et_val (ee_all rfl (ee_is (ee_lc0 (i := 2) (xs := h.sz) (enc := fun n : Nat => .int (n : Nat)) (f := fun (n : Nat) => .bool (decide ((1 : Int) ≤ (m : Int) * (n : Int)) && decide ((m : Int) * (n : Int) ≤ 36))) rfl nd (ei_tup (ee_sizes T (ee_var 0))) rfl (fun s H C cl fp n hn => ee_le2 ee_int (ee_mul (ee_var 1) (ee_var 2) ?_) (ee_gint T.c_MOST_CONTENTS)) (sl_of (by omega))) (by rw [List.map_map]; rfl)) T.n_all)))).et) ?_ ?_
  · have := (o.ok.s36 n hn).2
    exact .inr ⟨by omega, by omega⟩
  · have : (h.sz.map fun (n : Nat) => decide ((1 : Int) ≤ (m : Int) * (n : Int)) && decide ((m : Int) * (n : Int) ≤ 36)).all id = true := by
      rw [List.all_map, List.all_eq_true]
      intro n hn
      have a := o.m36 n hn
      have b := Nat.mul_pos o.m1 (o.ok.s36 n hn).1
      have e : (m : Int) * (n : Int) = ((m * n : Nat) : Int) := (Int.natCast_mul ..).symm
      simp only [Function.comp, id, e]
      simp
      omega
    rw [this]
    simp
  · have hp := o.pow
    have hst := o.ok.most
    refine xx_ifn (ec_et (ec_gt (ee_mul (ee_lenH T (hr.mono (by decide)) (ee_var 0) hst) (ee_call (c_times_itself T) (hr.mono (by decide)) (ea_cons (ee_var 1) (ea_cons (ee_is (ee_lenT (ee_sizes T (ee_var 0)) T.n_len) (by rw [List.length_map])) ea_nil)) ⟨m, h.sz.length, rfl, m36, by omega, rfl⟩) ?_) (ee_gint T.c_MOST_STANDINGS))) ?_ (xx_nil rfl)
    · have e : (m : Int) ^ h.sz.length = ((m ^ h.sz.length : Nat) : Int) := (Int.natCast_pow ..).symm
      rw [e]
      exact .inr ⟨by omega, by omega⟩
    · have e : ((h.st.length : Nat) : Int) * (m : Int) ^ h.sz.length = ((h.st.length * m ^ h.sz.length : Nat) : Int) := by rw [Int.natCast_mul, Int.natCast_pow]
      rw [e]
      simp
      omega

abbrev nWM : List Str := ["house", "modulus", "standings", "places", "every", "changes", "start", "goal", "one", "other", "marks", "later", "first", "second", "standing", "number", "mark", "cell", "size"]
theorem sc_with_marks : FnScope nWM ["house", "modulus"] (defScope s_with_marks) := ⟨rfl, rfl, rfl, by decide +kernel, rfl, by decide +kernel, by decide +kernel⟩
def rWithMarks (xs : List Im) (y : Im) : Prop := ∃ (h : Hou) (m : Nat), xs = [h.im, I m] ∧ MkOk h m ∧ y = (markedH h m).im
def plD (h : Hou) (m : Nat) : List (List Int × PyData) := (mStds h m).zipIdx.map fun p => (p.1, .int (p.2 : Nat))
theorem plD_get {h : Hou} {m : Nat} (o : MkOk h m) {k : List Int} (hk : k ∈ mStds h m) : getK (plD h m) k = some (.int (idxM h m k)) := by
  have hz : (k, (mStds h m).idxOf k) ∈ (mStds h m).zipIdx := List.mem_of_getElem? (zipIdx_at (idx_at o hk))
  have := getK_map (l := (mStds h m).zipIdx) (f := fun p => p.1) (v := fun p => PyData.int (p.2 : Nat)) (by rw [zipIdx_fst]; exact srtL_nodup.mpr (rawM_nodup o)) hz
  exact this
theorem c_with_marks (T : Txt K mg) : Cal P w K mg base 7 "with_marks" ["house", "modulus"] (spR K rWithMarks) := by
  refine Cal.of T.g_with_marks T.d_with_marks (fun _ _ _ _ _ _ us hl => match us, hl with | [_, _], _ => rfl) fun f fd F => ?_
  refine def_ok F sc_with_marks (by decide) (by rintro xs y ⟨h, m, rfl, _⟩; rfl) fun cdv A outer s H M E xs y hr hR => ?_
  obtain ⟨h, m, rfl, o, rfl⟩ := hR
  have nd := sc_with_marks.nd
  have pw := o.pow
  have c6 := o.ok.c6
  have m36 := o.m_36
  have c1 := o.ok.c1
  have hm1 := o.m1
  have few := o.few
  have mlen := mStds_len o
  have mmost := o.most
  refine xx_drop (ee_call (c_need_marks T) (hr.mono (by decide)) (ea_cons (ee_var 0) (ea_cons (ee_var 1) ea_nil)) ⟨h, m, rfl, o, rfl⟩) ?_
  refine xx_set 2 nd (ee_call (c_marked_standings T) (hr.mono (by decide)) (ea_cons (ee_var 0) (ea_cons (ee_var 1) ea_nil)) ⟨h, m, rfl, o, rfl⟩) ?_
  refine xx_dc2T 3 (i := 15) (j := 14) (xs := (mStds h m).zipIdx) (ex := fun p => .int (p.2 : Nat)) (ey := fun p => tI p.1) (f := fun p => p.1) (v := fun p => .int (p.2 : Nat)) (u0 hr) rfl nd (by decide) (ei_is (ei_enS (t := false) (ee_var 2) T.n_enumerate) (en_maps _ _)) rfl (fun s H C cl fp a ha => ee_var 14) (fun s H C cl fp a ha => ee_var 15) (sl_of (by rw [List.length_zipIdx]; omega)) (fun _ _ => rfl) (by rw [zipIdx_fst]; exact srtL_nodup.mpr (rawM_nodup o)) ?_
  refine xx_frzT 3 rfl ?_
  refine xx_set 4 nd (ee_every T (hr.mono (by decide)) (ee_var 1) (ee_is (ee_lenT (ee_sizes T (ee_var 0)) T.n_len) (by rw [List.length_map])) m36 c6 pw o.m1) ?_
  refine xx_own 5 nd ef_nil ?_
  let ev := everyM m h.sz.length
  let hd : DEnv := [some (.im h.im), some (.im (I m)), some (.im (Li ((mStds h m).map tI))), some (.im (.dt (plD h m))), some (.im (Tu (ev.map tI)))]
  let acc : Nat → List (Int × Int) := fun i => (h.ch.take i).flatMap fun p => ev.map fun mk => chM1 h m p mk
  let J : Nat → DEnv := fun i => hd ++ [some (.lst ((acc i).map pI)), none, none, none, none, none, none, none, none, none, none, none, none, none]
  have evl : ev.length = m ^ h.sz.length := everyM_len _ _
  have accl : ∀ i, (acc i).length ≤ 100 * 300 := fun i => by
    have e1 : (acc i).length = (h.ch.take i).length * m ^ h.sz.length := by
      show ((h.ch.take i).flatMap _).length = _
      rw [List.length_flatMap]
      have : ((h.ch.take i).map fun p => (ev.map fun mk => chM1 h m p mk).length) = (h.ch.take i).map fun _ => m ^ h.sz.length := List.map_congr_left fun s _ => by rw [List.length_map, evl]
      rw [this]
      clear this
      induction h.ch.take i with
      | nil => simp
      | cons a l ih => rw [List.map_cons, List.sum_cons, ih, List.length_cons, Nat.succ_mul, Nat.add_comm]
    rw [e1, List.length_take]
    exact Nat.mul_le_mul (by omega) pw
  refine xx_nx (ρ' := J h.ch.length) (x1_for (fun i ρ => ρ = J i) PassesOwn.never rfl (ei_tup (ee_chgs T (ee_var 0))) (eg_2 (i := 6) (j := 7) rfl nd (by decide)) rfl ?_ ?_) ?_
  · rintro i d ρ1 hi rfl
    rw [List.getElem?_map] at hi
    obtain ⟨p, hp, rfl⟩ := Option.map_eq_some_iff.mp hi
    have pm := List.mem_of_getElem? hp
    obtain ⟨a0, a1, b0, b1, _⟩ := o.ch.bd p pm
    let one := h.st.getD p.1.toNat []
    let oth := h.st.getD p.2.toNat []
    obtain ⟨q1, q1m⟩ := st_at o a0 a1
    obtain ⟨q2, q2m⟩ := st_at o b0 b1
    have l1 : one.length = h.sz.length := o.ok.len _ q1m
    have l2 : oth.length = h.sz.length := o.ok.len _ q2m
    refine ⟨_, ⟨_, _, rfl, rfl⟩, ?_⟩
    refine xx_asg (d := .tuple [tI one, tI oth]) (gT := g2 8 9) (ee_tup (ds := [tI one, tI oth]) (ea_cons (ee_ixTn (i := p.1.toNat) (d := tI one) (ee_stands T (ee_var 0)) (ee_is (ee_var 6) (congrArg I (Int.toNat_of_nonneg a0).symm)) (by rw [List.getElem?_map, q1]; rfl)) (ea_cons (ee_ixTn (i := p.2.toNat) (d := tI oth) (ee_stands T (ee_var 0)) (ee_is (ee_var 7) (congrArg I (Int.toNat_of_nonneg b0).symm)) (by rw [List.getElem?_map, q2]; rfl)) ea_nil)) (sl_le rfl)) (eg_2 rfl nd (by decide)) ⟨_, _, rfl, rfl⟩ ?_
    let J2 : Nat → DEnv := fun j => hd ++ [some (.lst ((acc i ++ (ev.take j).map fun mk => chM1 h m p mk).map pI)), none, none, some (.im (.dat (tI one))), some (.im (.dat (tI oth))), none, none, none, none, none, none, none, none, none]
    have h5 : ∀ (x y : List PyData), x = y → some (En.lst x) = some (En.lst y) := fun x y e => by rw [e]
    refine xx_le (ρ' := J2 0) ?_ ⟨rfl, rfl, rfl, rfl, rfl, h5 _ _ (by rw [List.take_zero, List.map_nil, List.append_nil]), rfl, rfl, trivial⟩
    refine xx_nx (ρ' := J2 ev.length) (x1_for (fun j ρ => ρ = J2 j) PassesOwn.never rfl (ei_tup (ee_var 4)) (eg_1 (i := 10) nd) rfl ?_ ?_) (xx_nil ⟨J (i + 1), ?_, rfl⟩)
    · rintro j d ρ1 hj rfl
      rw [List.getElem?_map] at hj
      obtain ⟨mk, hmk, rfl⟩ := Option.map_eq_some_iff.mp hj
      have mkm := List.mem_of_getElem? hmk
      obtain ⟨ml, mb⟩ := mem_everyM.mp mkm
      obtain ⟨f1, f2⟩ := chM1_mem o pm mkm
      refine ⟨_, rfl, xx_lc2n 11 (i := 17) (j := 16) (xs := mk.zipIdx) (ex := fun p => .int (p.2 : Nat)) (ey := fun p => .int p.1) (f := fun p => .int ((p.1 + (if one.getD p.2 0 = oth.getD p.2 0 then 0 else 1)) % (m : Int))) rfl nd (by decide) (ei_is (ei_enS (t := true) (ds := mk.map .int) (ee_var 10) T.n_enumerate) (en_maps _ _)) rfl (fun s H C cl fp a ha => ?_) (sl_of (by rw [List.length_zipIdx]; omega)) ?_⟩
      · have al := (List.mem_zipIdx' ha).1
        refine ee_mod (ee_add (ee_var 16) (ee_is (ee_intB (ee_neI (ee_ixTn (i := a.2) (d := .int (one.getD a.2 0)) (ds := one.map .int) (ee_var 8) (ee_var 17) (by rw [List.getElem?_map, getD_at (by omega)]; rfl)) (ee_ixTn (i := a.2) (d := .int (oth.getD a.2 0)) (ds := oth.map .int) (ee_var 9) (ee_var 17) (by rw [List.getElem?_map, getD_at (by omega)]; rfl))) T.n_int) ?_)) (ee_var 1) (by omega)
        by_cases e : one.getD a.2 0 = oth.getD a.2 0
        · rw [decide_eq_true e, if_pos e]
          rfl
        · rw [decide_eq_false e, if_neg e]
          rfl
      · refine xx_par (i := 12) (j := 13) rfl nd (by decide) (ee_call (c_marked_standing T) (hr.mono (by decide)) (ea_cons (ee_var 8) (ea_cons (ee_var 1) (ea_cons (ee_var 10) ea_nil))) ⟨m, true, one, mk, rfl, m36, by omega, rfl⟩) (ee_call (c_marked_standing T) (hr.mono (by decide)) (ea_cons (ee_var 9) (ea_cons (ee_var 1) (ea_cons (ee_is (ee_var 11) (show _ = Sq false ((laterM m one oth mk).map .int) by unfold laterM; rw [List.map_map]; rfl)) ea_nil))) ⟨m, false, oth, laterM m one oth mk, rfl, m36, by omega, rfl⟩) ?_
        refine xx_app 5 rfl (d := pI (chM1 h m p mk)) (ee_tup (ds := [.int (idxM h m (mStd m one mk)), .int (idxM h m (mStd m oth (laterM m one oth mk)))]) (ea_cons (ee_getT (i := 3) (u1 hr) (.inr rfl) (ee_var 12) (plD_get o f1)) (ea_cons (ee_getT (i := 3) (u1 hr) (.inr rfl) (ee_var 13) (plD_get o f2)) ea_nil)) (sl_le rfl)) ?_ (xx_nil ⟨J2 (j + 1), ?_, rfl⟩)
        · have := accl i
          have h2 := pw
          rw [List.length_map, List.length_append, List.length_map, List.length_take, evl, sizeLine_eq]
          omega
        · refine ⟨rfl, rfl, rfl, rfl, rfl, h5 _ _ ?_, rfl, rfl, trivial⟩
          rw [take_at hmk, List.map_append, List.map_append, List.map_append, List.map_append, List.append_assoc]
          rfl
    · rintro ρ1 rfl
      rw [List.length_map]
    · refine ⟨rfl, rfl, rfl, rfl, rfl, h5 _ _ ?_, trivial⟩
      rw [List.take_of_length_le (Nat.le_refl _)]
      show (acc i ++ _).map pI = (acc (i + 1)).map pI
      congr 1
      show _ = (h.ch.take (i + 1)).flatMap _
      rw [take_at hp, List.flatMap_append, List.flatMap_cons, List.flatMap_nil, List.append_nil]
  · rintro ρ1 rfl
    rw [List.length_map]
  · have eacc : acc h.ch.length = mChs h m := by
      show (h.ch.take h.ch.length).flatMap _ = _
      rw [List.take_of_length_le (Nat.le_refl _)]
      rfl
    refine xx_frzL 5 rfl (xx_ret (ee_make T hr (ea_cons (ee_is (ee_lc0 (i := 18) (xs := h.sz) (enc := fun n : Nat => .int (n : Nat)) (f := fun n : Nat => .int ((n : Int) * (m : Int))) rfl nd (ei_tup (ee_sizes T (ee_var 0))) rfl (fun s H C cl fp n hn => ee_mul (ee_var 18) (ee_var 1) (.inr ⟨by omega, by omega⟩)) (sl_of (by omega))) (show _ = Sq false (nI (mSz h m)) by unfold mSz nI; rw [List.map_map]; exact congrArg Li (List.map_congr_left fun n _ => by show PyData.int _ = PyData.int _; rw [Int.natCast_mul]))) (ea_cons (ee_var 2) (ea_cons (ee_is (ee_var 5) (show _ = Sq false ((mChs h m).map pI) by rw [eacc]; rfl)) ea_nil))) ⟨false, false, false, mSz h m, mStds h m, mChs h m, rfl, ?_, fun n hn => ?_, mSt_ok o, mCh_ok o, rfl⟩) rfl)
    · unfold mSz
      rw [List.length_map]
      exact c1
    · unfold mSz at hn
      obtain ⟨k, hk, rfl⟩ := List.mem_map.mp hn
      refine ⟨Nat.mul_pos (o.ok.s36 k hk).1 o.m1, ?_⟩
      rw [Nat.mul_comm]
      exact o.m36 k hk

theorem sc_marked_question : FnScope ["house", "question", "modulus", "answers", "marked", "standing", "answer", "content"] ["house", "question", "modulus"] (defScope s_marked_question) := ⟨rfl, rfl, rfl, by decide +kernel, rfl, by decide +kernel, by decide +kernel⟩
theorem markedH_div {h : Hou} {m : Nat} (o : MkOk h m) {k : List Int} (hk : k ∈ (markedH h m).st) : k.map (· / (m : Int)) ∈ h.st ∧ k.length = h.sz.length := by
  obtain ⟨s, hs, mk, h1, rfl⟩ := (mem_mStds o).mp (mem_srtL.mp hk)
  obtain ⟨l1, b1⟩ := mem_everyM.mp h1
  have e := (o.ok.len s hs).trans l1.symm
  exact ⟨by rw [mStd_div o.m1 e b1]; exact hs, by rw [mStd_len, l1, o.ok.len s hs]; omega⟩
def rMQ (xs : List Im) (y : Im) : Prop := ∃ (h : Hou) (m : Nat) (u : Bool) (q : List Int), xs = [h.im, Sq u (q.map .int), I m] ∧ MkOk h m ∧ q.length = h.st.length ∧ (∀ a ∈ q, 0 ≤ a) ∧ y = Tu ((qM h q m).map .int)
theorem c_marked_question (T : Txt K mg) : Cal P w K mg base 8 "marked_question" ["house", "question", "modulus"] (spR K rMQ) := by
  refine Cal.of T.g_marked_question T.d_marked_question (fun _ _ _ _ _ _ us hl => match us, hl with | [_, _, _], _ => rfl) fun f fd F => ?_
  refine def_ok F sc_marked_question (by decide) (by rintro xs y ⟨h, m, u, q, rfl, _⟩; rfl) fun cdv A outer s H M E xs y hr hR => ?_
  obtain ⟨h, m, u, q, rfl, o, ql, q0, rfl⟩ := hR
  have nd := sc_marked_question.nd
  have most := o.ok.most
  have c6 := o.ok.c6
  have hm1 := o.m1
  have hl : (markedH h m).st.length ≤ 300 := by
    show (srtL (mStds h m)).length ≤ _
    rw [srtL_len, mStds_len o]
    exact o.most
  have zl : (h.st.zip q).map (·.1) = h.st := List.map_fst_zip (by omega)
  refine xx_drop (ee_call (c_need_house T) (hr.mono (by decide)) (ea_cons (ee_var 0) ea_nil) ⟨h, rfl, rfl⟩) ?_
  refine xx_set 1 nd (ee_call (c_need_question T) (hr.mono (by decide)) (ea_cons (ee_var 0) (ea_cons (ee_var 1) ea_nil)) ⟨h, u, q, rfl, o.ok, ql, q0, rfl⟩) ?_
  refine xx_own 3 nd (ef_dc2T (i := 5) (j := 6) (xs := h.st.zip q) (ex := fun p => tI p.1) (ey := fun p => .int p.2) (f := fun p => p.1) (v := fun p => .int p.2) (u0 hr) rfl nd (by decide) (ei_is (ei_zip (t := true) (u := true) (ds := h.st.map tI) (fs := q.map .int) (ee_stands T (ee_var 0)) (ee_var 1) T.n_zip) (zip_maps _ _ _ _)) rfl (fun s H C cl fp a ha => ee_var 5) (fun s H C cl fp a ha => ee_var 6) (sl_of (by rw [List.length_zip]; omega)) (fun _ _ => rfl) (by rw [zl]; exact o.nd)) ?_
  refine xx_frzT 3 rfl ?_
  refine xx_set 4 nd (ee_stands T (ee_call (c_with_marks T) (hr.mono (by decide)) (ea_cons (ee_var 0) (ea_cons (ee_var 2) ea_nil)) ⟨h, m, rfl, o, rfl⟩)) ?_
  refine xx_ret (ee_tuple (ee_is (ee_lc0 (i := 5) (xs := (markedH h m).st) (enc := tI) (f := fun s => .int (lkp (h.st.zip q) (s.map (· / (m : Int))))) rfl nd (ei_tup (ee_var 4)) rfl (fun s H C cl fp k hk => ?_) (sl_of (by omega))) (show _ = Li ((qM h q m).map .int) by unfold qM; rw [List.map_map]; rfl)) T.n_tuple) rfl
  obtain ⟨d1, d2⟩ := markedH_div o hk
  refine ee_getT (i := 3) (k := k.map (· / (m : Int))) (u1 hr) (.inr rfl) (ee_tuple (ds := (k.map (· / (m : Int))).map .int) (ee_is (ee_lc0 (i := 7) (xs := k) (enc := PyData.int) (f := fun c => .int (c / (m : Int))) rfl nd (ei_tup (ds := k.map .int) (ee_var 5)) rfl (fun s H C cl fp c hc => ee_fdiv (ee_var 7) (ee_var 2) ?_) (sl_of (by omega))) (by rw [List.map_map]; rfl)) T.n_tuple) (getK_lkp (by rw [zl]; exact d1))
  exact ⟨by omega, by have := o.m_36; omega⟩
end
end K5
/-! Defs8: what is left of a lot. -/
namespace K5
open PySem PySem.Spec PyProof.Rows L2
def addG (inside : List Int) (s : List Int × List Int) (g : Int) : List Int × List Int := if g ∈ inside ∧ g ∉ s.1 then (s.1 ++ [g], s.2 ++ [g]) else s
def aheadAt (ah : List (List Int)) (n : Int) : List Int := ah.getD n.toNat []
def goOver (ah : List (List Int)) (inside front : List Int) (s : List Int × List Int) : List Int × List Int := front.foldl (fun s n => (aheadAt ah n).foldl (addG inside) s) s
def spreadF (ah : List (List Int)) (inside : List Int) : Nat → List Int → List Int → List Int
  | 0, _, met => met
  | k + 1, front, met => if front = [] then met else spreadF ah inside k (goOver ah inside front (met, [])).2 (goOver ah inside front (met, [])).1
def frontOf (shown lot : List Int) : List Int := lot.filter fun n => decide (n ∈ shown)
def leftP (ah : List (List Int)) (others shown lot : List Int) (pace : Nat) : List Int := srtI (spreadF ah others pace (frontOf shown lot) (frontOf shown lot))
/-- the invariant of the walk -/
structure GoodS (inside : List Int) (s : List Int × List Int) : Prop where
  nd : s.1.Nodup
  sub : ∀ x ∈ s.1, x ∈ inside
  le : s.2.length ≤ s.1.length
  fs : ∀ x ∈ s.2, x ∈ s.1
theorem addG_good {inside : List Int} {s : List Int × List Int} (h : GoodS inside s) (g : Int) : GoodS inside (addG inside s g) := by
  unfold addG
  by_cases c : g ∈ inside ∧ g ∉ s.1
  · rw [if_pos c]
    refine ⟨?_, fun x hx => ?_, ?_, fun x hx => ?_⟩
    · show (s.1 ++ [g]).Nodup
      rw [List.nodup_append]
      refine ⟨h.nd, by simp, fun a ha b hb => ?_⟩
      rw [List.mem_singleton] at hb
      subst hb
      exact fun e => c.2 (e ▸ ha)
    · rcases List.mem_append.mp hx with hx | hx
      · exact h.sub x hx
      · rw [List.mem_singleton] at hx
        rw [hx]
        exact c.1
    · have := h.le
      show (s.2 ++ [g]).length ≤ (s.1 ++ [g]).length
      rw [List.length_append, List.length_append]
      omega
    · rcases List.mem_append.mp hx with hx | hx
      · exact List.mem_append_left _ (h.fs x hx)
      · exact List.mem_append_right _ hx
  · rw [if_neg c]
    exact h
theorem foldG_good {inside : List Int} : ∀ (gs : List Int) {s : List Int × List Int}, GoodS inside s → GoodS inside (gs.foldl (addG inside) s)
  | [], _, h => h
  | g :: gs, _, h => foldG_good gs (addG_good h g)
theorem goOver_good {ah : List (List Int)} {inside : List Int} : ∀ (front : List Int) {s : List Int × List Int}, GoodS inside s → GoodS inside (goOver ah inside front s)
  | [], _, h => h
  | n :: front, _, h => goOver_good front (foldG_good (aheadAt ah n) h)
def trueD (g : Int) : Int × PyData := (g, .bool true)
theorem hasK_true (l : List Int) (k : Int) : hasK (l.map trueD) k = decide (k ∈ l) := by
  unfold hasK
  rw [List.any_map, Bool.eq_iff_iff, List.any_eq_true, decide_eq_true_eq]
  constructor
  · rintro ⟨x, hx, e⟩
    have e : x = k := of_decide_eq_true e
    exact e ▸ hx
  · intro h
    exact ⟨k, h, decide_eq_true rfl⟩
section
variable {P : Program} {w : World} {K : PySem.W.Frag} {mg : Str → Option Value} {base : Heap}
theorem sc_left_paced : FnScope ["house", "others", "shown", "lot", "pace", "inside", "front", "met", "steps", "following", "number", "goal"] ["house", "others", "shown", "lot", "pace"] (defScope s_left_paced) := ⟨rfl, rfl, rfl, by decide +kernel, rfl, by decide +kernel, by decide +kernel⟩
/-- the lots that are asked about -/
structure LotIn (h : Hou) (others lot : List Int) : Prop where
  nd : others.Nodup
  few : others.length ≤ 300
  ix : ∀ x ∈ others, 0 ≤ x ∧ x < (h.ah.length : Nat)
  lnd : lot.Nodup
  sub : ∀ x ∈ lot, x ∈ others
def rLeft (xs : List Im) (y : Im) : Prop := ∃ (h : Hou) (others shown lot : List Int) (pace : Nat), xs = [h.im, .dat (tI others), .dat (tI shown), .dat (tI lot), I pace] ∧ LotIn h others lot ∧ y = .dat (tI (leftP h.ah others shown lot pace))
theorem c_left_paced (T : Txt K mg) : Cal P w K mg base 1 "left_paced" ["house", "others", "shown", "lot", "pace"] (spR K rLeft) := by
  refine Cal.of T.g_left_paced T.d_left_paced (fun _ _ _ _ _ _ us hl => match us, hl with | [_, _, _, _, _], _ => rfl) fun f fd F => ?_
  refine def_ok F sc_left_paced (by decide) (by rintro xs y ⟨h, o, s, l, p, rfl, _⟩; rfl) fun cdv A outer s H M E xs y hr hR => ?_
  obtain ⟨h, oth, shown, lot, pace, rfl, L, rfl⟩ := hR
  have nd := sc_left_paced.nd
  have few := L.few
  have lotl : lot.length ≤ 300 := Nat.le_trans (nodup_sub lot oth L.lnd L.sub) few
  let hd : List (Option En) := [some (.im h.im), some (.im (.dat (tI oth))), some (.im (.dat (tI shown))), some (.im (.dat (tI lot))), some (.im (I pace)), some (.im (.di (oth.map trueD)))]
  let fr := frontOf shown lot
  have frs : ∀ x ∈ fr, x ∈ oth := fun x hx => L.sub x (List.mem_filter.mp hx).1
  have frn : fr.Nodup := L.lnd.filter _
  have frl : fr.length ≤ 300 := Nat.le_trans (List.length_filter_le _ _) lotl
  refine xx_dc1I 5 (i := 10) (xs := oth) (enc := PyData.int) (f := id) (v := fun _ => .bool true) rfl nd (ei_tup (ds := oth.map .int) (ee_var 1)) rfl (fun s H C cl fp a ha => ee_var 10) (fun s H C cl fp a ha => ee_bl) (sl_of (by omega)) (fun _ _ => rfl) (by rw [List.map_id]; exact L.nd) ?_
  refine xx_frzI 5 rfl ?_
  refine xx_lc1 6 (i := 10) (xs := lot) (enc := PyData.int) (p := fun n => decide (n ∈ shown)) (f := PyData.int) rfl nd (ei_tup (ds := lot.map .int) (ee_var 3)) rfl (fun s H C cl fp a ha => ets_one (ec_et (ec_inIT (ks := shown) (ee_var 10) (ee_var 2)))) (fun s H C cl fp a ha _ => ee_var 10) (sl_of (by omega)) ?_
  refine xx_dc1I 7 (i := 10) (xs := fr) (enc := PyData.int) (f := id) (v := fun _ => .bool true) rfl nd (ei_lst (ds := fr.map .int) (ee_var 6)) rfl (fun s H C cl fp a ha => ee_var 10) (fun s H C cl fp a ha => ee_bl) (sl_of (by omega)) (fun _ _ => rfl) (by rw [List.map_id]; exact frn) ?_
  refine xx_set 8 nd ee_int ?_
  let J : List Int → List Int → Nat → DEnv := fun front met steps => hd ++ [some (.im (Li (front.map .int))), some (.dI (met.map trueD)), some (.im (I (steps : Nat))), none, none, none]
  have done : ∀ met : List Int, srtI met = leftP h.ah oth shown lot pace → XX (cxOf CX0 P w K mg base ["house", "others", "shown", "lot", "pace", "inside", "front", "met", "steps", "following", "number", "goal"] "left_paced" (defScope s_left_paced) f cdv A outer s H E).nox (bs0 H M) (hd ++ [none, some (.dI (met.map trueD)), none, none, none, none]) [(defBody s_left_paced).getD 5 (.Pass ⟨0, 0, 0, 0⟩)] (pR (.dat (tI (leftP h.ah oth shown lot pace)))) := fun met e => by
    refine xx_frzI 7 rfl (xx_ret (ee_is (ee_tuple (ee_sortedDI (u64 hr) rfl (ee_var 7) T.n_sorted) T.n_tuple) ?_) rfl)
    have : ((met.map trueD).map (·.1)) = met := by rw [List.map_map]; exact List.map_id _
    rw [this, e]
    rfl
  let last : List Int → DEnv := fun met => hd ++ [none, some (.dI (met.map trueD)), none, none, none, none]
  refine xx_seq (R1 := fun r => ∃ met ρ', srtI met = leftP h.ah oth shown lot pace ∧ r = .nx ρ' ∧ Le (last met) ρ') ?_ (fun ρ' ⟨met, ρ2, e, er, l⟩ => by cases er; exact xx_le (done met e) l) (fun x ⟨_, _, _, e, _⟩ => by cases e) (fun x ⟨_, _, _, e, _⟩ => by cases e) (fun x ⟨_, _, _, e, _⟩ => by cases e)
  have h5 : ∀ (x y : List PyData), x = y → some (En.lst x) = some (En.lst y) := fun x y e => by rw [e]
  have h7 : ∀ (x y : List (Int × PyData)), x = y → some (En.dI x) = some (En.dI y) := fun x y e => by rw [e]
  refine x1_while (fun m ρ => ∃ steps front met, m + steps = pace ∧ ρ = J front met steps ∧ srtI (spreadF h.ah oth m front met) = leftP h.ah oth shown lot pace ∧ GoodS oth (met, front)) PassesOwn.never pace ⟨0, fr, fr, rfl, rfl, rfl, frn, frs, Nat.le_refl _, fun x hx => hx⟩ ?_
  rintro m ρ1 ⟨steps, front, met, hm, rfl, hsp, good⟩
  refine ⟨!(front.map PyData.int).isEmpty && (false || decide ((steps : Int) < (pace : Int))), (ew_and (et_lstT (ee_var 6)) fun _ => ew_and1 (EW.et (ew_or (ec_et (ec_isN (ee_var 4) fun _ _ _ r => nN_int r)) fun _ => ew_or1 (ec_et (ec_lt (ee_var 8) (ee_var 4)))))).et, fun e => ?_, fun e => ?_⟩
  · refine ⟨met, _, ?_, rfl, ⟨rfl, rfl, rfl, rfl, rfl, rfl, rfl, trivial⟩⟩
    rw [← hsp]
    congr 1
    cases m with
    | zero => rfl
    | succ k =>
      unfold spreadF
      have : front = [] := by
        cases front with
        | nil => rfl
        | cons a l =>
          simp at e
          omega
      rw [if_pos this]
  · have hs : steps < pace := by
      simp at e
      omega
    have hf : front ≠ [] := by
      cases front with
      | nil => simp at e
      | cons a l => simp
    obtain ⟨k, rfl⟩ : ∃ k, m = k + 1 := ⟨m - 1, by omega⟩
    unfold spreadF at hsp
    rw [if_neg hf] at hsp
    have fl : ∀ {s : List Int × List Int}, GoodS oth s → s.1.length ≤ 300 ∧ s.2.length ≤ 300 := fun {s} g => by
      have h1 := nodup_sub s.1 oth g.nd g.sub
      have h2 := g.le
      omega
    let s0 : List Int × List Int := (met, [])
    have g0 : GoodS oth s0 := ⟨good.nd, good.sub, Nat.zero_le _, fun x hx => by cases hx⟩
    let sa : Nat → List Int × List Int := fun i => goOver h.ah oth (front.take i) s0
    have ga : ∀ i, GoodS oth (sa i) := fun i => goOver_good _ g0
    let J2 : List Int × List Int → DEnv := fun s => hd ++ [some (.im (Li (front.map .int))), some (.dI (s.1.map trueD)), some (.im (I (steps : Nat))), some (.lst (s.2.map .int)), none, none]
    refine xx_own 9 nd ef_nil ?_
    refine xx_nx (ρ' := J2 (sa front.length)) (x1_for (fun i ρ => ρ = J2 (sa i)) PassesOwn.never rfl (ei_lst (ee_var 6)) (eg_1 (i := 10) nd) rfl ?_ ?_) ?_
    · rintro i d ρ1 hi rfl
      rw [List.getElem?_map] at hi
      obtain ⟨n, hn, rfl⟩ := Option.map_eq_some_iff.mp hi
      have nm := good.sub n (good.fs n (List.mem_of_getElem? hn))
      obtain ⟨n0, n1⟩ := L.ix n nm
      let row := aheadAt h.ah n
      have hrow : (h.ah.map tI)[n.toNat]? = some (tI row) := by
        have hlt : n.toNat < h.ah.length := by omega
        have e : row = h.ah[n.toNat] := by
          show h.ah.getD n.toNat [] = _
          rw [List.getD_eq_getElem?_getD, List.getElem?_eq_getElem hlt] <;> rfl
        rw [List.getElem?_map, List.getElem?_eq_getElem hlt, e]
        rfl
      let sb : Nat → List Int × List Int := fun j => (row.take j).foldl (addG oth) (sa i)
      have gb : ∀ j, GoodS oth (sb j) := fun j => foldG_good _ (ga i)
      let J3 : List Int × List Int → DEnv := fun s => hd ++ [some (.im (Li (front.map .int))), some (.dI (s.1.map trueD)), some (.im (I (steps : Nat))), some (.lst (s.2.map .int)), some (.im (I n)), none]
      refine ⟨_, rfl, xx_nx (ρ' := J3 (sb row.length)) (x1_for (fun j ρ => ρ = J3 (sb j)) PassesOwn.never rfl (ei_tup (ds := row.map .int) (ee_ixTn (i := n.toNat) (ee_ahead T (ee_var 0)) (ee_is (ee_var 10) (congrArg I (Int.toNat_of_nonneg n0).symm)) hrow)) (eg_1 (i := 11) nd) rfl ?_ ?_) (xx_nil ⟨J2 (sa (i + 1)), ?_, rfl⟩)⟩
      · rintro j d ρ1 hj rfl
        rw [List.getElem?_map] at hj
        obtain ⟨g, hg, rfl⟩ := Option.map_eq_some_iff.mp hj
        have es : sb (j + 1) = addG oth (sb j) g := by
          show (row.take (j + 1)).foldl (addG oth) (sa i) = _
          rw [take_at hg, List.foldl_append]
          rfl
        have gj := gb j
        have fj := fl gj
        refine ⟨_, rfl, xx_if (t := hasK (oth.map trueD) g && !hasK ((sb j).1.map trueD) g) (ew_and (ec_et (ec_inI (i := 5) (u1 hr) (ee_var 11) (.inr rfl))) fun _ => ew_and1 (ec_et (ec_ninI (i := 7) (u1 hr) (ee_var 11) (.inl rfl)))).et (fun e => ?_) (fun e => ?_)⟩
        · rw [hasK_true, hasK_true] at e
          have e1 : g ∈ oth ∧ g ∉ (sb j).1 := by simpa using e
          refine xx_putI (i := 7) (u1 hr) rfl (ee_var 11) ee_bl rfl (by rw [hasK_true]; exact decide_eq_false e1.2) (by rw [List.length_map, sizeLine_eq]; omega) ?_
          refine xx_app 9 rfl (ee_var 11) (by rw [List.length_map, sizeLine_eq]; omega) (xx_nil (xx_nil ⟨J3 (sb (j + 1)), ?_, rfl⟩))
          rw [es]
          unfold addG
          rw [if_pos e1]
          exact ⟨rfl, rfl, rfl, rfl, rfl, rfl, rfl, h7 _ _ (by rw [List.map_append]; rfl), rfl, h5 _ _ (by rw [List.map_append]; rfl), rfl, trivial⟩
        · rw [hasK_true, hasK_true] at e
          have e1 : ¬ (g ∈ oth ∧ g ∉ (sb j).1) := by simpa using e
          refine xx_nil (xx_nil ⟨J3 (sb (j + 1)), ?_, rfl⟩)
          rw [es]
          unfold addG
          rw [if_neg e1]
          exact ⟨rfl, rfl, rfl, rfl, rfl, rfl, rfl, rfl, rfl, rfl, rfl, trivial⟩
      · rintro ρ1 rfl
        rw [List.length_map]
      · have es : sa (i + 1) = sb row.length := by
          show goOver h.ah oth (front.take (i + 1)) s0 = (row.take row.length).foldl (addG oth) (sa i)
          rw [take_at hn, List.take_of_length_le (Nat.le_refl _)]
          unfold goOver
          rw [List.foldl_append]
          rfl
        rw [es]
        exact ⟨rfl, rfl, rfl, rfl, rfl, rfl, rfl, rfl, rfl, rfl, trivial⟩
    · rintro ρ1 rfl
      rw [List.length_map]
    · have es : sa front.length = goOver h.ah oth front (met, []) := by
        show goOver h.ah oth (front.take front.length) s0 = _
        rw [List.take_of_length_le (Nat.le_refl _)]
      have gg := ga front.length
      rw [es] at gg ⊢
      refine xx_frzL 9 rfl (xx_par (i := 6) (j := 8) rfl nd (by decide) (ee_var 9) (ee_add (ee_var 8) ee_int) (xx_nil ⟨J _ _ (steps + 1), k, ?_, by omega, steps + 1, _, _, by omega, rfl, hsp, gg⟩))
      exact ⟨rfl, rfl, rfl, rfl, rfl, rfl, rfl, rfl, rfl, trivial⟩
end
end K5
/-! Defs9: the search. -/
namespace K5
open PySem PySem.Spec PyProof.Rows L2
inductive SS where
  | found (w : List Int)
  | go (met : List (List Int)) (fol : List (List Int × List Int))
  | bad
def stepS (left : Nat → List Int → List Int) (lot word : List Int) : SS → Nat → SS
  | .go met fol, w =>
    if left w lot = [] then .found (word ++ [(w : Int)])
    else if (met.any fun l => partB l (left w lot)) = true then .go met fol
    else if met.length = 2000 then .bad
    else .go (met ++ [left w lot]) (fol ++ [(left w lot, word ++ [(w : Int)])])
  | s, _ => s
def lotS (left : Nat → List Int → List Int) (n : Nat) (s : SS) (lw : List Int × List Int) : SS := (List.range n).foldl (stepS left lw.1 lw.2) s
def layerS (left : Nat → List Int → List Int) (n : Nat) (met : List (List Int)) (layer : List (List Int × List Int)) : SS := layer.foldl (lotS left n) (.go met [])
/-- how the search ends: k turns -/
inductive Srch (left : Nat → List Int → List Int) (n : Nat) : Nat → List (List Int) → List (List Int × List Int) → Sum (List Int) (List (List Int)) → Prop
  | stop (met : List (List Int)) : Srch left n 0 met [] (.inr met)
  | found {met : List (List Int)} {layer : List (List Int × List Int)} {w : List Int} : layer ≠ [] → layerS left n met layer = .found w → Srch left n 0 met layer (.inl w)
  | more {k : Nat} {met met' : List (List Int)} {layer fol : List (List Int × List Int)} {r : Sum (List Int) (List (List Int))} : layer ≠ [] → layerS left n met layer = .go met' fol → Srch left n k met' fol r → Srch left n (k + 1) met layer r
theorem stepS_stay {left : Nat → List Int → List Int} {lot word : List Int} {s : SS} (h : ∀ met fol, s ≠ .go met fol) : ∀ ws : List Nat, ws.foldl (stepS left lot word) s = s
  | [] => rfl
  | w :: ws => by
    rw [List.foldl_cons]
    have e : stepS left lot word s w = s := by
      cases s with
      | go met fol => exact absurd rfl (h met fol)
      | found _ => rfl
      | bad => rfl
    rw [e]
    exact stepS_stay h ws
theorem lotS_stay {left : Nat → List Int → List Int} {n : Nat} {s : SS} (h : ∀ met fol, s ≠ .go met fol) : ∀ ls : List (List Int × List Int), ls.foldl (lotS left n) s = s
  | [] => rfl
  | l :: ls => by
    rw [List.foldl_cons]
    have e : lotS left n s l = s := stepS_stay h _
    rw [e]
    exact lotS_stay h ls
def resY : Sum (List Int) (List (List Int)) → Im
  | .inl w => Tu [tI w, .list []]
  | .inr met => Tu [.none, .list (met.map tI)]
def trueT (l : List Int) : List Int × PyData := (l, .bool true)
theorem hasK_trueT (l : List (List Int)) (k : List Int) : hasK (l.map trueT) k = decide (k ∈ l) := by
  unfold hasK
  rw [List.any_map, Bool.eq_iff_iff, List.any_eq_true, decide_eq_true_eq]
  constructor
  · rintro ⟨x, hx, e⟩
    have e : x = k := of_decide_eq_true e
    exact e ▸ hx
  · intro h
    exact ⟨k, h, decide_eq_true rfl⟩
theorem spread_good {ah : List (List Int)} {inside : List Int} : ∀ (k : Nat) (front met : List Int), GoodS inside (met, front) → (spreadF ah inside k front met).Nodup ∧ ∀ x ∈ spreadF ah inside k front met, x ∈ inside
  | 0, front, met, g => ⟨g.nd, g.sub⟩
  | k + 1, front, met, g => by
    unfold spreadF
    by_cases h : front = []
    · rw [if_pos h]
      exact ⟨g.nd, g.sub⟩
    · rw [if_neg h]
      have g0 : GoodS inside (met, []) := ⟨g.nd, g.sub, Nat.zero_le _, fun x hx => by cases hx⟩
      exact spread_good k _ _ (goOver_good front g0)
theorem srtI_nodup {l : List Int} : (srtI l).Nodup ↔ l.Nodup := (List.mergeSort_perm _ _).nodup_iff
theorem left_good {ah : List (List Int)} {others shown lot : List Int} {pace : Nat} (ln : lot.Nodup) (ls : ∀ x ∈ lot, x ∈ others) : (leftP ah others shown lot pace).Nodup ∧ ∀ x ∈ leftP ah others shown lot pace, x ∈ others := by
  have := spread_good (ah := ah) (inside := others) pace (frontOf shown lot) (frontOf shown lot) ⟨ln.filter _, fun x hx => ls x (List.mem_filter.mp hx).1, Nat.le_refl _, fun x hx => hx⟩
  unfold leftP
  exact ⟨srtI_nodup.mpr this.1, fun x hx => this.2 x (mem_srtI.mp hx)⟩
def leftW (ah : List (List Int)) (others : List Int) (shown : List (List Int)) (pace : Nat) (w : Nat) (lot : List Int) : List Int := leftP ah others (shown.getD w []) lot pace
def lwD (p : List Int × List Int) : PyData := .tuple [tI p.1, tI p.2]
/-- lots that a search may meet -/
def LotsIn (others : List Int) (ls : List (List Int)) : Prop := ∀ l ∈ ls, l.Nodup ∧ ∀ x ∈ l, x ∈ others
section
variable {P : Program} {w : World} {K : PySem.W.Frag} {mg : Str → Option Value} {base : Heap}
abbrev nPS : List Str := ["house", "others", "shown", "pace", "met", "layer", "following", "lot", "word", "window", "left", "lesser"]
theorem sc_paced_search : FnScope nPS ["house", "others", "shown", "pace"] (defScope s_paced_search) := ⟨rfl, rfl, rfl, by decide +kernel, rfl, by decide +kernel, by decide +kernel⟩
structure SrchIn (h : Hou) (others : List Int) (shown : List (List Int)) : Prop where
  nd : others.Nodup
  few : others.length ≤ 300
  ix : ∀ x ∈ others, 0 ≤ x ∧ x < (h.ah.length : Nat)
  sl : shown.length ≤ 6
def rSearch (xs : List Im) (y : Im) : Prop := ∃ (h : Hou) (others : List Int) (shown : List (List Int)) (pace : Nat), xs = [h.im, .dat (tI others), Tu (shown.map tI), I pace] ∧ SrchIn h others shown ∧
  ((others = [] ∧ y = resY (.inl [])) ∨ (others ≠ [] ∧ ∃ k r, k ≤ 3000 ∧ Srch (leftW h.ah others shown pace) shown.length k [others] [(others, [])] r ∧ y = resY r))
theorem c_paced_search (T : Txt K mg) : Cal P w K mg base 2 "paced_search" ["house", "others", "shown", "pace"] (spR K rSearch) := by
  refine Cal.of T.g_paced_search T.d_paced_search (fun _ _ _ _ _ _ us hl => match us, hl with | [_, _, _, _], _ => rfl) fun f fd F => ?_
  refine def_ok F sc_paced_search (by decide) (by rintro xs y ⟨h, o, s, p, rfl, _⟩; rfl) fun cdv A outer s H M E xs y hr hR => ?_
  obtain ⟨h, oth, shown, pace, rfl, L, hR⟩ := hR
  have nd := sc_paced_search.nd
  have few := L.few
  have sl := L.sl
  refine xx_if (t := !!(oth.map PyData.int).isEmpty) (et_not (et_tupT (ee_var 1))) (fun e => ?_) (fun e => ?_)
  · rcases hR with ⟨_, rfl⟩ | ⟨ne, _⟩
    · exact xx_ret (ee_tup (ds := [tI [], .list []]) (ea_cons (ee_tup (ds := []) ea_nil (sl_le rfl)) (ea_cons (ee_lst (ds := []) ea_nil (sl_le rfl)) ea_nil)) (sl_le rfl)) rfl
    · cases oth with
      | nil => exact absurd rfl ne
      | cons a l => simp at e
  have one : oth ≠ [] := fun z => by rw [z] at e; simp at e
  obtain ⟨k0, r, hk0, hS, rfl⟩ : ∃ k r, k ≤ 3000 ∧ Srch (leftW h.ah oth shown pace) shown.length k [oth] [(oth, [])] r ∧ y = resY r := by
    rcases hR with ⟨z, _⟩ | ⟨_, h⟩
    · exact absurd z one
    · exact h
  refine xx_nil ?_
  let left := leftW h.ah oth shown pace
  let hd : DEnv := [some (.im h.im), some (.im (.dat (tI oth))), some (.im (Tu (shown.map tI))), some (.im (I pace))]
  let J : List (List Int) → List (List Int × List Int) → DEnv := fun met layer => hd ++ [some (.dT (met.map trueT)), some (.im (Li (layer.map lwD))), none, none, none, none, none, none]
  refine xx_parO (i := 4) (j := 5) rfl nd (by decide) (ef_oneT (u0 hr) (ee_var 1) ee_bl rfl) rfl (ee_lst (ds := [lwD (oth, [])]) (ea_cons (ee_tup (ds := [tI oth, tI []]) (ea_cons (ee_var 1) (ea_cons (ee_tup (ds := []) ea_nil (sl_le rfl)) ea_nil)) (sl_le rfl)) ea_nil) (sl_le rfl)) ?_
  let last : List (List Int) → DEnv := fun met => hd ++ [some (.dT (met.map trueT)), none, none, none, none, none, none, none]
  refine xx_seq (R1 := fun z => (∃ met ρ', r = .inr met ∧ met.length ≤ 3000 ∧ z = .nx ρ' ∧ Le (last met) ρ') ∨ z = .rt (resY r)) ?_ (fun ρ' hz => ?_) (fun x hz => ?_) (fun x hz => ?_) (fun x hz => ?_)
  rotate_left
  · rcases hz with ⟨met, ρ2, er, ml, e, l⟩ | e
    · cases e
      subst er
      exact xx_le (xx_frzT 4 rfl (xx_ret (ee_tup (ds := [.none, .list (met.map tI)]) (ea_cons ee_non (ea_cons (ee_is (ee_listDT rfl (ee_var 4) T.n_list) (by rw [List.map_map]; rfl)) ea_nil)) (sl_le rfl)) rfl)) l
    · cases e
  · rcases hz with ⟨_, _, _, _, e, _⟩ | e
    · cases e
    · cases e
      rfl
  · rcases hz with ⟨_, _, _, _, e, _⟩ | e <;> cases e
  · rcases hz with ⟨_, _, _, _, e, _⟩ | e <;> cases e
  refine x1_while (fun m ρ => ∃ met layer, ρ = J met layer ∧ Srch left shown.length m met layer r ∧ m ≤ k0 ∧ met.length ≤ 2000 ∧ layer.length ≤ 2000 ∧ LotsIn oth met ∧ (∀ p ∈ layer, p.1.Nodup ∧ (∀ x ∈ p.1, x ∈ oth) ∧ p.2.length ≤ k0 - m)) PassesOwn.never k0 ⟨[oth], [(oth, [])], rfl, hS, Nat.le_refl _, by simp, by simp, fun l hl => by rw [List.mem_singleton] at hl; rw [hl]; exact ⟨L.nd, fun x hx => hx⟩, fun p hp => by rw [List.mem_singleton] at hp; rw [hp]; exact ⟨L.nd, fun x hx => hx, Nat.zero_le _⟩⟩ ?_
  rintro m ρ1 ⟨met, layer, rfl, hs, mk, ml, ll, lin, lay⟩
  refine ⟨!(layer.map lwD).isEmpty, et_lstT (ee_var 5), fun e => ?_, fun e => ?_⟩
  · have : layer = [] := by
      cases layer with
      | nil => rfl
      | cons a l => simp at e
    subst this
    cases hs with
    | stop => exact .inl ⟨met, _, rfl, by omega, rfl, ⟨rfl, rfl, rfl, rfl, rfl, trivial⟩⟩
    | found h1 _ => exact absurd rfl h1
    | more h1 _ _ => exact absurd rfl h1
  · have lne : layer ≠ [] := fun z => by rw [z] at e; simp at e
    let n := shown.length
    have hbad : layerS left n met layer ≠ .bad := fun z => by
      cases hs with
      | stop => exact absurd rfl lne
      | found _ h2 => rw [show layerS left shown.length met layer = .bad from z] at h2; cases h2
      | more _ h2 _ => rw [show layerS left shown.length met layer = .bad from z] at h2; cases h2
    have hfound : ∀ w, layerS left n met layer = .found w → r = .inl w := fun w z => by
      cases hs with
      | stop => exact absurd rfl lne
      | found _ h2 => rw [show layerS left shown.length met layer = .found w from z] at h2; cases h2; rfl
      | more _ h2 _ => rw [show layerS left shown.length met layer = .found w from z] at h2; cases h2
    have hgo : ∀ met' fol, layerS left n met layer = .go met' fol → ∃ k, m = k + 1 ∧ Srch left n k met' fol r := fun met' fol z => by
      cases hs with
      | stop => exact absurd rfl lne
      | found _ h2 => rw [show layerS left shown.length met layer = .go met' fol from z] at h2; cases h2
      | more _ h2 h3 => rw [show layerS left shown.length met layer = .go met' fol from z] at h2; cases h2; exact ⟨_, rfl, h3⟩
    let J2 : List (List Int) → List (List Int × List Int) → DEnv := fun mt fl => hd ++ [some (.dT (mt.map trueT)), some (.im (Li (layer.map lwD))), some (.lst (fl.map lwD)), none, none, none, none, none]
    let Fine : List (List Int) → List (List Int × List Int) → Prop := fun mt fl => mt.length ≤ 2000 ∧ fl.length ≤ mt.length ∧ LotsIn oth mt ∧ (∀ p ∈ fl, p.1.Nodup ∧ (∀ x ∈ p.1, x ∈ oth) ∧ p.2.length ≤ k0 - m + 1)
    let sI : Nat → SS := fun i => (layer.take i).foldl (lotS left n) (.go met [])
    have sEnd : ∀ i x, sI i = x → (∀ a b, x ≠ .go a b) → layerS left n met layer = x := fun i x hx hn => by
      show layer.foldl (lotS left n) (.go met []) = x
      rw [← List.take_append_drop i layer, List.foldl_append]
      rw [show (layer.take i).foldl (lotS left n) (.go met []) = x from hx]
      exact lotS_stay hn _
    refine xx_own 6 nd ef_nil ?_
    refine xx_seq (R1 := fun z => (∃ mt fl, layerS left n met layer = .go mt fl ∧ Fine mt fl ∧ z = .nx (J2 mt fl)) ∨ z = .rt (resY r)) (x1_for (fun i ρ => ∃ mt fl, sI i = .go mt fl ∧ Fine mt fl ∧ ρ = J2 mt fl) PassesOwn.never rfl (ei_lst (ee_var 5)) (eg_2 (i := 7) (j := 8) rfl nd (by decide)) ⟨met, [], rfl, ⟨ml, Nat.zero_le _, lin, fun p hp => by cases hp⟩, rfl⟩ ?_ ?_) (fun ρ' hz => ?_) (fun x hz => ?_) (fun x hz => ?_) (fun x hz => ?_)
    · rintro i d ρ1 hi ⟨mt, fl, hsi, fine, rfl⟩
      rw [List.getElem?_map] at hi
      obtain ⟨⟨lot, word⟩, hp, rfl⟩ := Option.map_eq_some_iff.mp hi
      obtain ⟨ln, lsub, wl⟩ := lay _ (List.mem_of_getElem? hp)
      have wl : word.length ≤ k0 - m := wl
      have snext : sI (i + 1) = (List.range n).foldl (stepS left lot word) (.go mt fl) := by
        show (layer.take (i + 1)).foldl (lotS left n) (.go met []) = _
        rw [take_at hp, List.foldl_append, show (layer.take i).foldl (lotS left n) (.go met []) = .go mt fl from hsi]
        rfl
      let tJ : Nat → SS := fun j => ((List.range n).take j).foldl (stepS left lot word) (.go mt fl)
      have tEnd : ∀ j x, tJ j = x → (∀ a b, x ≠ .go a b) → layerS left n met layer = x := fun j x hx hn => by
        refine sEnd (i + 1) x ?_ hn
        rw [snext, ← List.take_append_drop j (List.range n), List.foldl_append]
        rw [show ((List.range n).take j).foldl (stepS left lot word) (.go mt fl) = x from hx]
        exact stepS_stay hn _
      let J3 : List (List Int) → List (List Int × List Int) → DEnv := fun mt fl => hd ++ [some (.dT (mt.map trueT)), some (.im (Li (layer.map lwD))), some (.lst (fl.map lwD)), some (.im (.dat (tI lot))), some (.im (.dat (tI word))), none, none, none]
      refine ⟨_, ⟨_, _, rfl, rfl⟩, xx_end (x1_for (fun j ρ => ∃ mt fl, tJ j = .go mt fl ∧ Fine mt fl ∧ ρ = J3 mt fl) PassesOwn.never rfl (ei_rng (n := n) (ee_is (ee_lenT (ee_var 2) T.n_len) (by rw [List.length_map])) T.n_range (by show shown.length < _; omega)) (eg_1 (i := 9) nd) ⟨mt, fl, rfl, fine, rfl⟩ ?_ ?_)⟩
      · rintro j d ρ1 hj ⟨mj, fj, htj, ⟨mj1, mj2, mj3, mj4⟩, rfl⟩
        have jn : j < n := by
          have := (List.getElem?_eq_some_iff.mp hj).1
          rw [rgD_len] at this
          exact this
        rw [rgD_at jn] at hj
        cases hj
        have hw : (shown.map tI)[j]? = some (tI (shown.getD j [])) := by
          rw [List.getElem?_map, List.getElem?_eq_getElem (show j < shown.length from jn), List.getD_eq_getElem?_getD, List.getElem?_eq_getElem (show j < shown.length from jn)]
          rfl
        have tnext : tJ (j + 1) = stepS left lot word (.go mj fj) j := by
          show ((List.range n).take (j + 1)).foldl (stepS left lot word) (.go mt fl) = _
          rw [take_at (List.getElem?_range jn), List.foldl_append, show ((List.range n).take j).foldl (stepS left lot word) (.go mt fl) = .go mj fj from htj]
          rfl
        obtain ⟨lfn, lfs⟩ := left_good (ah := h.ah) (others := oth) (shown := shown.getD j []) (pace := pace) ln lsub
        have lfl : (left j lot).length ≤ 300 := Nat.le_trans (nodup_sub _ oth lfn lfs) few
        refine ⟨_, rfl, xx_set 10 nd (y := .dat (tI (left j lot))) (ee_call (c_left_paced T) (hr.mono (by decide)) (ea_cons (ee_var 0) (ea_cons (ee_var 1) (ea_cons (ee_ixTn (i := j) (ee_var 2) (ee_var 9) hw) (ea_cons (ee_var 7) (ea_cons (ee_var 3) ea_nil))))) ⟨h, oth, shown.getD j [], lot, pace, rfl, ⟨L.nd, few, L.ix, ln, lsub⟩, rfl⟩) ?_⟩
        have wcat : tI (word ++ [(j : Int)]) = .tuple (word.map .int ++ [.int (j : Int)]) := by unfold tI; rw [List.map_append]; rfl
        refine xx_if (t := !!((left j lot).map PyData.int).isEmpty) (et_not (et_tupT (ds := (left j lot).map .int) (ee_var 10))) (fun e => ?_) (fun e => xx_nil ?_)
        · have l0 : left j lot = [] := by
            cases hq : left j lot with
            | nil => rfl
            | cons a l => rw [hq] at e; simp at e
          have hf : tJ (j + 1) = .found (word ++ [(j : Int)]) := by
            rw [tnext]
            show (if left j lot = [] then _ else _) = _
            rw [if_pos l0]
          refine xx_ret (y := resY r) ?_ (.inr rfl)
          rw [hfound _ (tEnd _ _ hf fun _ _ z => by cases z)]
          exact ee_tup (ds := [tI (word ++ [(j : Int)]), .list []]) (ea_cons (by rw [wcat]; exact ee_catT (ee_var 8) (ee_tup (ds := [.int (j : Nat)]) (ea_cons (ee_var 9) ea_nil) (sl_le rfl)) (by rw [List.length_map, sizeLine_eq]; show _ + 1 ≤ _; omega)) (ea_cons (ee_lst (ds := []) ea_nil (sl_le rfl)) ea_nil)) (sl_le rfl)
        have l0 : left j lot ≠ [] := fun z => by rw [z] at e; simp at e
        refine xx_if (t := mj.any fun l => partB l (left j lot)) (et_val (ee_lock (i := 4) (kvs := mj.map trueT) rfl fun o => ee_is (ee_any (bs := mj.map fun l => partB l (left j lot)) rfl (ee_is (ee_lc0 (i := 11) (xs := mj) (enc := tI) (f := fun l => .bool (partB l (left j lot))) rfl nd (ei_is (ei_keys (i := 4) rfl) (by rw [List.map_map]; rfl)) rfl (fun s H C cl fp l hl => ee_call (c_is_part_of T) (hr.mono (by decide)) (ea_cons (ee_var 11) (ea_cons (ee_var 10) ea_nil)) ⟨l, left j lot, rfl, by
          obtain ⟨a1, a2⟩ := mj3 l hl
          have := nodup_sub l oth a1 a2
          omega, rfl⟩) (sl_of (by omega))) (by rw [List.map_map]; rfl)) T.n_any) (by rw [List.any_map]; rfl))) (fun e => ?_) (fun e => xx_nil ?_)
        · refine xx_end (x1_cont ⟨J3 mj fj, ⟨rfl, rfl, rfl, rfl, rfl, rfl, rfl, rfl, rfl, trivial⟩, mj, fj, ?_, ⟨mj1, mj2, mj3, mj4⟩, rfl⟩)
          rw [tnext]
          show (if left j lot = [] then _ else _) = _
          rw [if_neg l0, if_pos e]
        have en : ¬ (mj.any fun l => partB l (left j lot)) = true := by rw [e]; exact Bool.false_ne_true
        have m2 : mj.length ≠ 2000 := fun z => by
          have hf : tJ (j + 1) = .bad := by
            rw [tnext]
            show (if left j lot = [] then _ else _) = _
            rw [if_neg l0, if_neg en, if_pos z]
          exact hbad (tEnd _ _ hf fun _ _ z => by cases z)
        have hnext : tJ (j + 1) = .go (mj ++ [left j lot]) (fj ++ [(left j lot, word ++ [(j : Int)])]) := by
          rw [tnext]
          show (if left j lot = [] then _ else _) = _
          rw [if_neg l0, if_neg en, if_neg m2]
        have newk : left j lot ∉ mj := fun hm => en (List.any_eq_true.mpr ⟨_, hm, by unfold partB; rw [List.all_eq_true]; intro x hx; exact decide_eq_true hx⟩)
        refine xx_ifn (ec_et (ec_eqI (ee_lenDT (i := 4) (.inl rfl) T.n_len) (ee_gint T.c_MOST_LOTS))) (by rw [List.length_map]; simp; omega) ?_
        refine xx_putT (i := 4) (u1 hr) rfl (ee_var 10) ee_bl rfl (by rw [hasK_trueT]; exact decide_eq_false newk) (by rw [List.length_map, sizeLine_eq]; omega) ?_
        refine xx_app 6 rfl (d := lwD (left j lot, word ++ [(j : Int)])) (ee_tup (ds := [tI (left j lot), tI (word ++ [(j : Int)])]) (ea_cons (ee_var 10) (ea_cons (by rw [wcat]; exact ee_catT (ee_var 8) (ee_tup (ds := [.int (j : Nat)]) (ea_cons (ee_var 9) ea_nil) (sl_le rfl)) (by rw [List.length_map, sizeLine_eq]; show _ + 1 ≤ _; omega)) ea_nil)) (sl_le rfl)) (by rw [List.length_map, sizeLine_eq]; omega) ?_
        refine xx_nil ⟨J3 (mj ++ [left j lot]) (fj ++ [(left j lot, word ++ [(j : Int)])]), ⟨rfl, rfl, rfl, rfl, ?_, rfl, ?_, rfl, rfl, trivial⟩, _, _, hnext, ⟨?_, ?_, fun l hl => ?_, fun p hp => ?_⟩, rfl⟩
        · show some (En.dT _) = some (En.dT _)
          rw [List.map_append]
          rfl
        · show some (En.lst _) = some (En.lst _)
          rw [List.map_append]
          rfl
        · rw [List.length_append]
          show _ + 1 ≤ _
          omega
        · rw [List.length_append, List.length_append]
          show _ + 1 ≤ _ + 1
          omega
        · rcases List.mem_append.mp hl with hl | hl
          · exact mj3 l hl
          · rw [List.mem_singleton] at hl
            rw [hl]
            exact ⟨lfn, lfs⟩
        · rcases List.mem_append.mp hp with hp | hp
          · exact mj4 p hp
          · rw [List.mem_singleton] at hp
            rw [hp]
            refine ⟨lfn, lfs, ?_⟩
            show (word ++ [(j : Int)]).length ≤ _
            rw [List.length_append]
            show _ + 1 ≤ _
            exact Nat.succ_le_succ wl
      · rintro ρ1 ⟨mj, fj, htj, fine, rfl⟩
        refine ⟨J2 mj fj, ⟨rfl, rfl, rfl, rfl, rfl, rfl, rfl, trivial⟩, mj, fj, ?_, fine, rfl⟩
        rw [snext, ← htj]
        show _ = ((List.range n).take (rgD n).length).foldl _ _
        rw [rgD_len, List.take_of_length_le (by rw [List.length_range]; exact Nat.le_refl _)]
    · rintro ρ1 ⟨mt, fl, hsi, fine, rfl⟩
      refine .inl ⟨mt, fl, ?_, fine, rfl⟩
      rw [← hsi]
      show _ = (layer.take (layer.map lwD).length).foldl _ _
      rw [List.length_map, List.take_of_length_le (Nat.le_refl _)]
      rfl
    · rcases hz with ⟨mt, fl, hl, ⟨f1, f2, f3, f4⟩, e⟩ | e
      · cases e
        obtain ⟨k, rfl, hk⟩ := hgo mt fl hl
        refine xx_frzL 6 rfl (xx_set 5 nd (ee_var 6) (xx_nil ⟨J mt fl, k, ⟨rfl, rfl, rfl, rfl, rfl, rfl, trivial⟩, by omega, mt, fl, rfl, hk, by omega, f1, by omega, f3, fun p hp => ?_⟩))
        obtain ⟨p1, p2, p3⟩ := f4 p hp
        exact ⟨p1, p2, by omega⟩
      · cases e
    · rcases hz with ⟨_, _, _, _, e⟩ | e
      · cases e
      · cases e
        exact .inr rfl
    · rcases hz with ⟨_, _, _, _, e⟩ | e <;> cases e
    · rcases hz with ⟨_, _, _, _, e⟩ | e <;> cases e
end
end K5
/-! Defs10: pace_word, pace_table, pace_holds. -/
namespace K5
open PySem PySem.Spec PyProof.Rows L2
theorem plain_ints : ∀ k : List Int, PyData.plainAll (k.map .int) = true
  | [] => by simp [PyData.plainAll]
  | a :: k => by simp [PyData.plainAll, PyData.plain, plain_ints k]
theorem plain_tIs : ∀ ks : List (List Int), PyData.plainAll (ks.map tI) = true
  | [] => by simp [PyData.plainAll]
  | a :: k => by
    have := plain_tIs k
    have h := plain_ints a
    simp [PyData.plainAll, PyData.plain, tI, h] at this ⊢
    exact this
/-- all(list of tuples of ints) -/
def rAllT (K : PySem.W.Frag) : List V → Hp → VK → Prop := fun vs H Q => ∃ (a : Addr) (M : Hp) (ks : List (List Int)), vs = [V.ref a] ∧ Same M H ∧ RepI K M (.ref a) (Li (ks.map tI)) ∧ (∀ k ∈ ks, k.length ≤ 1000) ∧ Q (.bl (ks.all fun k => !k.isEmpty)) H
theorem cr_allT {X : Cx} (hc : X.calm = true) : CallR X (.builtin "all") (rAllT X.K) := by
  intro pins s σ H vs us Q J r h
  obtain ⟨a, M, ks, rfl, mh, rr, hk, q⟩ := h
  rw [Vals.ref1 r]
  obtain ⟨a', ws, e, hl, hd⟩ := rI_lst rr
  cases e
  obtain ⟨its, rv, pl, _⟩ := J.list (mh.seq hl)
  obtain ⟨as, hr⟩ := Dp.readsAll J _ ws its (dqs_dps _ _ (dps_up mh _ _ hd)) rv
  refine PySem.W.all_list_data (vs := its.toArray) (J.ok.hd hc) pl.isList (by simpa using hr) (plain_tIs ks) (fun x hx => ?_) fun h' tk kept => ⟨.bl _, H, J.kept kept, ?_, q⟩
  · obtain ⟨k, hkm, rfl⟩ := List.mem_map.mp hx
    show (((k.map PyData.int).length : Nat) : Int) < 2 ^ 63
    rw [List.length_map]
    have := hk k hkm
    omega
  · show Value.bool _ = Value.bool _
    rw [List.all_map]
    congr 2
    funext k
    show (!(k.map PyData.int).isEmpty) = !k.isEmpty
    cases k <;> rfl
section
variable {X : Cx} {B : Bs} {ρ : DEnv} {pos p : Pos} {e a b : Expr}
theorem ee_allT {ks : List (List Int)} (hc : X.calm = true) (he : EE X B ρ e (Li (ks.map tI))) (hk : ∀ k ∈ ks, k.length ≤ 1000) (hm : X.mg "all" = none) (hg : Gl X "all" := by rfl) (hs : starEach [e] X.env = (false, eval e X.env) :: starEach [] X.env := by rfl) : EE X B ρ (.Call (.Name "all" p) [e] [] pos) (Bl (ks.all fun k => !k.isEmpty)) :=
  en_cb (cr_allT hc) (ea_cons he ea_nil hs) hm (by decide +kernel) hg (fun vs σ M H Q k r q => by
    cases r with
    | cons r1 r2 =>
      cases r2
      obtain ⟨t, ws, e1, h1, h2⟩ := rI_lst r1
      subst e1
      exact ⟨t, M, ks, rfl, k.mh, r1, hk, q _ _ M H rfl k.refl (.bl _)⟩) (by decide) (by decide) hs
/-- True and x is x -/
theorem ee_andV {rest : List Expr} {x : Im} (ha : EE X B ρ a (Bl true)) (hb : EE X B ρ (.BoolOp .And (b :: rest) pos) x) : EE X B ρ (.BoolOp .And (a :: b :: rest) pos) x :=
  pe_imp (pe_and ha hb) fun σ H Q ⟨M, k, q⟩ => ⟨M, k, fun z v M1 H1 e1 g1 r1 => ⟨true, by subst e1; exact rI_bl r1, (show (if true = true then _ else _) by rw [if_pos rfl]; exact ⟨M1, k.gr g1, fun z2 v2 M2 H2 e2 g2 r2 => q z2 v2 M2 H2 e2 (g1.trans g2) r2⟩)⟩⟩
end
/-- how a search ends for a sight -/
def Searched (h : Hou) (others : List Int) (shown : List (List Int)) (pace : Nat) (r : Sum (List Int) (List (List Int))) : Prop :=
  SrchIn h others shown ∧ ((others = [] ∧ r = .inl []) ∨ (others ≠ [] ∧ ∃ k, k ≤ 3000 ∧ Srch (leftW h.ah others shown pace) shown.length k [others] [(others, [])] r))
theorem Searched.rS {h : Hou} {others : List Int} {shown : List (List Int)} {pace : Nat} {r : Sum (List Int) (List (List Int))} (s : Searched h others shown pace r) : rSearch [h.im, .dat (tI others), Tu (shown.map tI), I pace] (resY r) := by
  obtain ⟨a, b⟩ := s
  refine ⟨h, others, shown, pace, rfl, a, ?_⟩
  rcases b with ⟨e, rfl⟩ | ⟨ne, k, hk, hs⟩
  · exact .inl ⟨e, rfl⟩
  · exact .inr ⟨ne, k, r, hk, hs, rfl⟩
section
variable {P : Program} {w : World} {K : PySem.W.Frag} {mg : Str → Option Value} {base : Heap}
theorem sc_pace_word : FnScope ["house", "view", "question", "answer", "row", "pace", "others", "shown"] ["house", "view", "question", "answer", "row", "pace"] (defScope s_pace_word) := ⟨rfl, rfl, rfl, by decide +kernel, rfl, by decide +kernel, by decide +kernel⟩
/-- the arguments of a pace question -/
structure PaceQ (xs : List Im) (h : Hou) (q : List Int) (ans : Int) (vals : List Int) (pace : Nat) : Prop where
  e : xs = [h.im, Tu (viewD h.sz.length), Tu (q.map .int), I ans, Tu (rowD vals), I pace]
  s : SightOk h q vals
def wordY : Sum (List Int) (List (List Int)) → Im
  | .inl w => .dat (tI w)
  | .inr _ => .dat .none
def rPaceWord (xs : List Im) (y : Im) : Prop := ∃ h q ans vals pace r, PaceQ xs h q ans vals pace ∧ Searched h (othersI q ans) (shownL h (othersI q ans) vals) pace r ∧ y = wordY r
theorem c_pace_word (T : Txt K mg) : Cal P w K mg base 6 "pace_word" ["house", "view", "question", "answer", "row", "pace"] (spR K rPaceWord) := by
  refine Cal.of T.g_pace_word T.d_pace_word (fun _ _ _ _ _ _ us hl => match us, hl with | [_, _, _, _, _, _], _ => rfl) fun f fd F => ?_
  refine def_ok F sc_pace_word (by decide) (by rintro xs y ⟨h, q, a, v, p, r, ⟨rfl, _⟩, _⟩; rfl) fun cdv A outer s H M E xs y hr hR => ?_
  obtain ⟨h, q, ans, vals, pace, r, ⟨rfl, sok⟩, sr, rfl⟩ := hR
  have nd := sc_pace_word.nd
  refine xx_asg (d := .tuple [tI (othersI q ans), .tuple ((shownL h (othersI q ans) vals).map tI)]) (gT := g2 6 7) (ee_call (c_need_sight T) (hr.mono (by decide)) (ea_cons (ee_var 0) (ea_cons (ee_var 1) (ea_cons (ee_var 2) (ea_cons (ee_var 3) (ea_cons (ee_var 4) ea_nil))))) ⟨h, q, ans, vals, rfl, sok, rfl⟩) (eg_2 rfl nd (by decide)) ⟨_, _, rfl, rfl⟩ ?_
  cases r with
  | inl wd => exact xx_ret (ee_ixTn (i := 0) (ds := [tI wd, .list []]) (ee_call (c_paced_search T) (hr.mono (by decide)) (ea_cons (ee_var 0) (ea_cons (ee_var 6) (ea_cons (ee_var 7) (ea_cons (ee_call (c_need_pace T) (hr.mono (by decide)) (ea_cons (ee_var 5) ea_nil) ⟨pace, rfl, rfl⟩) ea_nil)))) sr.rS) ee_int rfl) rfl
  | inr met => exact xx_ret (ee_ixTn (i := 0) (ds := [.none, .list (met.map tI)]) (ee_call (c_paced_search T) (hr.mono (by decide)) (ea_cons (ee_var 0) (ea_cons (ee_var 6) (ea_cons (ee_var 7) (ea_cons (ee_call (c_need_pace T) (hr.mono (by decide)) (ea_cons (ee_var 5) ea_nil) ⟨pace, rfl, rfl⟩) ea_nil)))) sr.rS) ee_int rfl) rfl

theorem sc_pace_table : FnScope ["house", "view", "question", "answer", "row", "pace", "others", "shown", "word", "lots"] ["house", "view", "question", "answer", "row", "pace"] (defScope s_pace_table) := ⟨rfl, rfl, rfl, by decide +kernel, rfl, by decide +kernel, by decide +kernel⟩
def rPaceTable (xs : List Im) (y : Im) : Prop := ∃ h q ans vals pace met, PaceQ xs h q ans vals pace ∧ Searched h (othersI q ans) (shownL h (othersI q ans) vals) pace (.inr met) ∧ met.length < 64 ∧ (∀ k ∈ met, k ≠ [] ∧ k.length ≤ 1000) ∧ y = Tu ((leastOf met).map tI)
theorem c_pace_table (T : Txt K mg) : Cal P w K mg base 6 "pace_table" ["house", "view", "question", "answer", "row", "pace"] (spR K rPaceTable) := by
  refine Cal.of T.g_pace_table T.d_pace_table (fun _ _ _ _ _ _ us hl => match us, hl with | [_, _, _, _, _, _], _ => rfl) fun f fd F => ?_
  refine def_ok F sc_pace_table (by decide) (by rintro xs y ⟨h, q, a, v, p, r, ⟨rfl, _⟩, _⟩; rfl) fun cdv A outer s H M E xs y hr hR => ?_
  obtain ⟨h, q, ans, vals, pace, met, ⟨rfl, sok⟩, sr, m64, mk, rfl⟩ := hR
  have nd := sc_pace_table.nd
  refine xx_asg (d := .tuple [tI (othersI q ans), .tuple ((shownL h (othersI q ans) vals).map tI)]) (gT := g2 6 7) (ee_call (c_need_sight T) (hr.mono (by decide)) (ea_cons (ee_var 0) (ea_cons (ee_var 1) (ea_cons (ee_var 2) (ea_cons (ee_var 3) (ea_cons (ee_var 4) ea_nil))))) ⟨h, q, ans, vals, rfl, sok, rfl⟩) (eg_2 rfl nd (by decide)) ⟨_, _, rfl, rfl⟩ ?_
  refine xx_asg (d := .tuple [.none, .list (met.map tI)]) (gT := g2 8 9) (ee_call (c_paced_search T) (hr.mono (by decide)) (ea_cons (ee_var 0) (ea_cons (ee_var 6) (ea_cons (ee_var 7) (ea_cons (ee_call (c_need_pace T) (hr.mono (by decide)) (ea_cons (ee_var 5) ea_nil) ⟨pace, rfl, rfl⟩) ea_nil)))) sr.rS) (eg_2 rfl nd (by decide)) ⟨_, _, rfl, rfl⟩ ?_
  exact xx_ret (ee_if (y := I 0) (ec_et (ec_isN (ee_var 8) fun _ _ _ r => nN_non r)) (fun _ => ee_call (c_least_sets T) (hr.mono (by decide)) (ea_cons (ee_var 9) ea_nil) ⟨met, rfl, m64, mk, rfl⟩) (fun e => by cases e)) rfl

theorem sc_pace_holds : FnScope ["house", "view", "question", "answer", "row", "pace", "value", "others", "shown", "lot", "one", "left", "lesser"] ["house", "view", "question", "answer", "row", "pace", "value"] (defScope s_pace_holds) := ⟨rfl, rfl, rfl, by decide +kernel, rfl, by decide +kernel, by decide +kernel⟩
def rPaceHolds (xs : List Im) (y : Im) : Prop := ∃ h q ans vals pace tb xs0, PaceQ xs0 h q ans vals pace ∧ xs = xs0 ++ [Tu (tb.map tI)] ∧ SrchIn h (othersI q ans) (shownL h (othersI q ans) vals) ∧ tb ≠ [] ∧ tb.length ≤ 1000 ∧ (∀ l ∈ tb, LotOk l (othersI q ans) ∧ l.Nodup) ∧
  (∀ l ∈ tb, ∀ one ∈ shownL h (othersI q ans) vals, (tb.any fun z => partB z (leftP h.ah (othersI q ans) one l pace)) = true) ∧ y = Bl true
theorem c_pace_holds (T : Txt K mg) : Cal P w K mg base 6 "pace_holds" ["house", "view", "question", "answer", "row", "pace", "value"] (spR K rPaceHolds) := by
  refine Cal.of T.g_pace_holds T.d_pace_holds (fun _ _ _ _ _ _ us hl => match us, hl with | [_, _, _, _, _, _, _], _ => rfl) fun f fd F => ?_
  refine def_ok F sc_pace_holds (by decide) (by rintro xs y ⟨h, q, a, v, p, tb, xs0, ⟨rfl, _⟩, rfl, _⟩; rfl) fun cdv A outer s H M E xs y hr hR => ?_
  obtain ⟨h, q, ans, vals, pace, tb, xs0, ⟨rfl, sok⟩, rfl, L, tne, tl, tok, tcl, rfl⟩ := hR
  have nd := sc_pace_holds.nd
  let oth := othersI q ans
  let shown := shownL h oth vals
  have few := L.few
  have tlen : ∀ l ∈ tb, l.length ≤ 300 := fun l hl => Nat.le_trans (nodup_sub l oth (tok l hl).2 fun x hx => ((tok l hl).1.2.1 x hx).2) few
  refine xx_asg (d := .tuple [tI oth, .tuple (shown.map tI)]) (gT := g2 7 8) (ee_call (c_need_sight T) (hr.mono (by decide)) (ea_cons (ee_var 0) (ea_cons (ee_var 1) (ea_cons (ee_var 2) (ea_cons (ee_var 3) (ea_cons (ee_var 4) ea_nil))))) ⟨h, q, ans, vals, rfl, sok, rfl⟩) (eg_2 rfl nd (by decide)) ⟨_, _, rfl, rfl⟩ ?_
  refine xx_drop (ee_call (c_need_pace T) (hr.mono (by decide)) (ea_cons (ee_var 5) ea_nil) ⟨pace, rfl, rfl⟩) ?_
  refine xx_ifn (t := !true || !!(tb.map tI).isEmpty) ((ew_or (et_not (et_val (ee_isi (x := Tu (tb.map tI)) (ee_var 6) T.n_isinstance T.n_tuple PyProof.Rows.boot_tuple rfl k_tt))) fun _ => ew_or1 (et_not (et_tupT (ee_var 6)))).et) (by cases tb with | nil => exact absurd rfl tne | cons a l => rfl) ?_
  refine xx_ifn (t := !(tb.all fun k => !k.isEmpty)) (et_not (et_val (ee_allT rfl (ee_lc0 (i := 9) (xs := tb) (enc := tI) (f := tI) rfl nd (ei_tup (ee_var 6)) rfl (fun s H C cl fp l hl => ee_andV (ee_call (c_is_rising_lot T) (hr.mono (by decide)) (ea_cons (ee_var 9) (ea_cons (ee_var 7) ea_nil)) ⟨l, oth, rfl, (tok l hl).1, by have := tlen l hl; omega, rfl⟩) (ee_one (ee_var 9))) (sl_of (by omega))) (fun k hk => by have := tlen k hk; omega) T.n_all))) ?_ ?_
  · have : (tb.all fun k => !k.isEmpty) = true := by
      rw [List.all_eq_true]
      intro l hl
      have := (tok l hl).1.1
      cases l with
      | nil => exact absurd rfl this
      | cons _ _ => rfl
    rw [this]
    rfl
  let J : DEnv := [some (.im h.im), some (.im (Tu (viewD h.sz.length))), some (.im (Tu (q.map .int))), some (.im (I ans)), some (.im (Tu (rowD vals))), some (.im (I pace)), some (.im (Tu (tb.map tI))), some (.im (.dat (tI oth))), some (.im (Tu (shown.map tI))), none, none, none, none]
  refine xx_nx (ρ' := J) (x1_for (fun i ρ => ρ = J) PassesOwn.never rfl (ei_tup (ee_var 6)) (eg_1 (i := 9) nd) rfl ?_ ?_) ?_
  · rintro i d ρ1 hi rfl
    rw [List.getElem?_map] at hi
    obtain ⟨lot, hlot, rfl⟩ := Option.map_eq_some_iff.mp hi
    have lm := List.mem_of_getElem? hlot
    obtain ⟨lok, lnd⟩ := tok lot lm
    have lsub : ∀ x ∈ lot, x ∈ oth := fun x hx => (lok.2.1 x hx).2
    let J2 : DEnv := [some (.im h.im), some (.im (Tu (viewD h.sz.length))), some (.im (Tu (q.map .int))), some (.im (I ans)), some (.im (Tu (rowD vals))), some (.im (I pace)), some (.im (Tu (tb.map tI))), some (.im (.dat (tI oth))), some (.im (Tu (shown.map tI))), some (.im (.dat (tI lot))), none, none, none]
    refine ⟨_, rfl, xx_nx (ρ' := J2) (x1_for (fun i ρ => ρ = J2) PassesOwn.never rfl (ei_tup (ee_var 8)) (eg_1 (i := 10) nd) rfl ?_ ?_) (xx_nil ⟨J, ⟨rfl, rfl, rfl, rfl, rfl, rfl, rfl, rfl, rfl, trivial⟩, rfl⟩)⟩
    · rintro j d ρ1 hj rfl
      rw [List.getElem?_map] at hj
      obtain ⟨one, hone, rfl⟩ := Option.map_eq_some_iff.mp hj
      have om := List.mem_of_getElem? hone
      have lft := left_good (ah := h.ah) (others := oth) (shown := one) (pace := pace) lnd lsub
      refine ⟨_, rfl, xx_set 11 nd (y := .dat (tI (leftP h.ah oth one lot pace))) (ee_call (c_left_paced T) (hr.mono (by decide)) (ea_cons (ee_var 0) (ea_cons (ee_var 7) (ea_cons (ee_var 10) (ea_cons (ee_var 9) (ea_cons (ee_var 5) ea_nil))))) ⟨h, oth, one, lot, pace, rfl, ⟨L.nd, few, L.ix, lnd, lsub⟩, rfl⟩) ?_⟩
      refine xx_ifn (t := !(tb.any fun z => partB z (leftP h.ah oth one lot pace))) (et_not (et_val (ee_is (ee_any (bs := tb.map fun z => partB z (leftP h.ah oth one lot pace)) rfl (ee_is (ee_lc0 (i := 12) (xs := tb) (enc := tI) (f := fun z => .bool (partB z (leftP h.ah oth one lot pace))) rfl nd (ei_tup (ee_var 6)) rfl (fun s H C cl fp z hz => ee_call (c_is_part_of T) (hr.mono (by decide)) (ea_cons (ee_var 12) (ea_cons (ee_var 11) ea_nil)) ⟨z, leftP h.ah oth one lot pace, rfl, by have := tlen z hz; omega, rfl⟩) (sl_of (by omega))) (by rw [List.map_map]; rfl)) T.n_any) (by rw [List.any_map]; rfl)))) ?_ (xx_nil ⟨J2, ⟨rfl, rfl, rfl, rfl, rfl, rfl, rfl, rfl, rfl, rfl, trivial⟩, rfl⟩)
      rw [tcl lot lm one om]
      rfl
    · rintro ρ1 rfl
      rfl
  · rintro ρ1 rfl
    rfl
  · exact xx_ret ee_bl rfl
end
end K5
/-! Defs11: the free house. -/
namespace K5
open PySem PySem.Spec PyProof.Rows L2
abbrev sz2 : List Nat := [2, 2]
def ks2 : List (List Int) := [[0, 0], [0, 1], [1, 0], [1, 1]]
theorem ks2_eq : allRows sz2 = ks2 := by decide +kernel
def way2 : List (Int × Int) := [(0, 1), (1, 0)]
def pl2 (k : List Int) : Int := (ks2.idxOf k : Nat)
def moved (st : List Int) (cell : Nat) (g : Int) : List Int := st.take cell ++ [g] ++ st.drop (cell + 1)
def wStep (n : Nat) (st : List Int) (cell : Nat) (acc : List (Int × Int)) (p : Int × Int) : List (Int × Int) := if st.getD cell 0 = p.1 then acc ++ [((n : Int), pl2 (moved st cell p.2))] else acc
def wCell (n : Nat) (st : List Int) (acc : List (Int × Int)) (c : Nat) : List (Int × Int) := way2.foldl (wStep n st c) acc
def wSt (acc : List (Int × Int)) (p : List Int × Nat) : List (Int × Int) := [0, 1].foldl (wCell p.2 p.1) acc
def fch : List (Int × Int) := ks2.zipIdx.foldl wSt []
theorem fch_eq : fch = [(0, 2), (0, 1), (1, 3), (1, 0), (2, 0), (2, 3), (3, 1), (3, 2)] := by decide +kernel
def freeH : Hou := mkHou sz2 ks2 fch
theorem pl2D (k : List Int) (h : k ∈ ks2) : getK (ks2.zipIdx.map fun p => (p.1, PyData.int (p.2 : Nat))) k = some (.int (pl2 k)) := by
  have hz : (k, ks2.idxOf k) ∈ ks2.zipIdx := by
    refine List.mem_of_getElem? (zipIdx_at ?_)
    have := List.idxOf_lt_length_of_mem h
    rw [List.getElem?_eq_getElem this, List.getElem_idxOf]
  exact getK_map (l := ks2.zipIdx) (f := fun p => p.1) (v := fun p => PyData.int (p.2 : Nat)) (by decide +kernel) hz
theorem moved_in : ∀ st ∈ ks2, ∀ c ∈ [0, 1], ∀ p ∈ way2, moved st c p.2 ∈ ks2 := by decide +kernel
theorem wStep_len (n : Nat) (st : List Int) (cell : Nat) (acc : List (Int × Int)) (p : Int × Int) : (wStep n st cell acc p).length ≤ acc.length + 1 := by
  unfold wStep
  by_cases h : st.getD cell 0 = p.1
  · rw [if_pos h, List.length_append]
    exact Nat.le_refl _
  · rw [if_neg h]
    omega
theorem fold_len {β : Type} (f : List (Int × Int) → β → List (Int × Int)) (k : Nat) (h : ∀ acc b, (f acc b).length ≤ acc.length + k) : ∀ (l : List β) (acc : List (Int × Int)), (l.foldl f acc).length ≤ acc.length + l.length * k
  | [], acc => by simp
  | b :: l, acc => by
    have h1 := fold_len f k h l (f acc b)
    have h2 := h acc b
    rw [List.foldl_cons, List.length_cons, Nat.succ_mul]
    omega
section
variable {P : Program} {w : World} {K : PySem.W.Frag} {mg : Str → Option Value} {base : Heap}
abbrev nWH : List Str := ["sizes", "ways", "cell", "size", "standings", "places", "changes", "number", "standing", "pairs", "start", "goal"]
theorem sc_ways_house : FnScope nWH ["sizes", "ways"] (defScope s_ways_house) := ⟨rfl, rfl, rfl, by decide +kernel, rfl, by decide +kernel, by decide +kernel⟩
def wayD : PyData := .list (way2.map pI)
def rWays (xs : List Im) (y : Im) : Prop := xs = [Tu (nI sz2), Li [wayD, wayD]] ∧ y = freeH.im
theorem c_ways_house (T : Txt K mg) : Cal P w K mg base 7 "ways_house" ["sizes", "ways"] (spR K rWays) := by
  refine Cal.of T.g_ways_house T.d_ways_house (fun _ _ _ _ _ _ us hl => match us, hl with | [_, _], _ => rfl) fun f fd F => ?_
  refine def_ok F sc_ways_house (by decide) (by rintro xs y ⟨rfl, _⟩; rfl) fun cdv A outer s H M E xs y hr hR => ?_
  obtain ⟨rfl, rfl⟩ := hR
  have nd := sc_ways_house.nd
  have h36 : ∀ n ∈ sz2, 1 ≤ n ∧ n ≤ 36 := by decide
  refine xx_set 0 nd (ee_call (c_need_sizes T) (hr.mono (by decide)) (ea_cons (ee_var 0) ea_nil) ⟨true, sz2, rfl, by decide, by decide, h36, by decide, rfl⟩) ?_
  refine xx_ifn (t := !true || !decide (((([wayD, wayD] : List PyData).length : Nat) : Int) = (((nI sz2).length : Nat) : Int))) ((ew_or (et_not (et_val (ee_call (c_is_sequence T) (hr.mono (by decide)) (ea_cons (ee_var 1) ea_nil) ⟨Li [wayD, wayD], _, rfl, rfl, rfl⟩))) fun _ => ew_or1 (ec_et (ec_neI (ee_lenL (ee_var 1) T.n_len) (ee_lenT (ee_var 0) T.n_len)))).et) rfl ?_
  let J0 : DEnv := [some (.im (Tu (nI sz2))), some (.im (Li [wayD, wayD])), none, none, none, none, none, none, none, none, none, none]
  refine xx_nx (ρ' := J0) (x1_for (fun i ρ => ρ = J0) PassesOwn.never rfl (ei_enS (t := true) (ee_var 0) T.n_enumerate) (eg_2 (i := 2) (j := 3) rfl nd (by decide)) rfl ?_ ?_) ?_
  · rintro i d ρ1 hi rfl
    have hlt : i < 2 := by
      have := (List.getElem?_eq_some_iff.mp hi).1
      rw [enD_len] at this
      exact this
    have e : (nI sz2)[i]? = some (.int (2 : Nat)) ∧ ([wayD, wayD] : List PyData)[i]? = some wayD := by
      match i, hlt with
      | 0, _ => exact ⟨rfl, rfl⟩
      | 1, _ => exact ⟨rfl, rfl⟩
    rw [enD_at e.1] at hi
    cases hi
    refine ⟨_, ⟨_, _, rfl, rfl⟩, xx_ifn (ec_et (ec_notN (ee_call (c_wrong_change T) (hr.mono (by decide)) (ea_cons (ee_var 3) (ea_cons (ee_ixLn (i := i) (ee_var 1) (ee_var 2) e.2) ea_nil)) ⟨false, 2, way2, rfl, ⟨by decide, by decide, by decide⟩, rfl⟩) fun _ _ _ r => nN_non r)) rfl (xx_nil ⟨J0, ⟨rfl, rfl, trivial⟩, rfl⟩)⟩
  · rintro ρ1 rfl
    rfl
  refine xx_set 4 nd (y := Tu (ks2.map tI)) (ee_is (ee_call (c_all_standings T) (hr.mono (by decide)) (ea_cons (ee_var 0) ea_nil) ⟨true, sz2, rfl, by decide, by decide, fun k => by
    match k with
    | 0 => decide
    | 1 => decide
    | k + 2 =>
      rw [List.take_of_length_le (by simp)]
      decide, rfl⟩) (by rw [ks2_eq])) ?_
  refine xx_dc2T 5 (i := 7) (j := 8) (xs := ks2.zipIdx) (ex := fun p => .int (p.2 : Nat)) (ey := fun p => tI p.1) (f := fun p => p.1) (v := fun p => .int (p.2 : Nat)) (u0 hr) rfl nd (by decide) (ei_is (ei_enS (t := true) (ee_var 4) T.n_enumerate) (en_maps _ _)) rfl (fun s H C cl fp a ha => ee_var 8) (fun s H C cl fp a ha => ee_var 7) (sl_of (by decide)) (fun _ _ => rfl) (by decide +kernel) ?_
  refine xx_frzT 5 rfl ?_
  refine xx_own 6 nd ef_nil ?_
  let hd : DEnv := [some (.im (Tu (nI sz2))), some (.im (Li [wayD, wayD])), none, none, some (.im (Tu (ks2.map tI))), some (.im (.dt (ks2.zipIdx.map fun p => (p.1, PyData.int (p.2 : Nat)))))]
  let J : List (Int × Int) → DEnv := fun acc => hd ++ [some (.lst (acc.map pI)), none, none, none, none, none]
  have h5 : ∀ (x y : List PyData), x = y → some (En.lst x) = some (En.lst y) := fun x y e => by rw [e]
  have b1 : ∀ n st (acc : List (Int × Int)) c, (wCell n st acc c).length ≤ acc.length + 2 := fun n st acc c => fold_len (wStep n st c) 1 (fun acc p => wStep_len n st c acc p) way2 acc
  have b2 : ∀ (acc : List (Int × Int)) p, (wSt acc p).length ≤ acc.length + 4 := fun acc p => fold_len (wCell p.2 p.1) 2 (fun acc c => b1 p.2 p.1 acc c) [0, 1] acc
  refine xx_nx (ρ' := J fch) (x1_for (fun i ρ => ρ = J ((ks2.zipIdx.take i).foldl wSt [])) PassesOwn.never rfl (ei_enS (t := true) (ee_var 4) T.n_enumerate) (eg_2 (i := 7) (j := 8) rfl nd (by decide)) rfl ?_ ?_) ?_
  · rintro i d ρ1 hi rfl
    rw [en_maps, List.getElem?_map] at hi
    obtain ⟨⟨st, n⟩, hz, rfl⟩ := Option.map_eq_some_iff.mp hi
    have zm := List.mem_of_getElem? hz
    have stm : st ∈ ks2 := by
      have := (List.mem_zipIdx' zm)
      exact this.2 ▸ List.getElem_mem _
    have nl : n < 4 := (List.mem_zipIdx' zm).1
    have stl : st.length = 2 := (by decide : ∀ s ∈ ks2, s.length = 2) st stm
    let accI := (ks2.zipIdx.take i).foldl wSt []
    have lI : accI.length ≤ 16 := by
      have := fold_len wSt 4 b2 (ks2.zipIdx.take i) []
      rw [List.length_take] at this
      have h4 : ks2.zipIdx.length = 4 := rfl
      have : accI.length ≤ 0 + min i ks2.zipIdx.length * 4 := this
      omega
    let J2 : List (Int × Int) → DEnv := fun acc => hd ++ [some (.lst (acc.map pI)), some (.im (I (n : Nat))), some (.im (.dat (tI st))), none, none, none]
    refine ⟨_, ⟨_, _, rfl, rfl⟩, xx_nx (ρ' := J2 ([0, 1].foldl (wCell n st) accI)) (x1_for (fun j ρ => ρ = J2 (([0, 1].take j).foldl (wCell n st) accI)) PassesOwn.never rfl (ei_enS (t := false) (ee_var 1) T.n_enumerate) (eg_2 (i := 2) (j := 9) rfl nd (by decide)) rfl ?_ ?_) (xx_nil ⟨J ((ks2.zipIdx.take (i + 1)).foldl wSt []), ?_, rfl⟩)⟩
    · rintro c d ρ1 hc rfl
      have hlt : c < 2 := by
        have := (List.getElem?_eq_some_iff.mp hc).1
        rw [enD_len] at this
        exact this
      have ec : ([wayD, wayD] : List PyData)[c]? = some wayD ∧ ([0, 1] : List Nat)[c]? = some c ∧ c ∈ [0, 1] := by
        match c, hlt with
        | 0, _ => exact ⟨rfl, rfl, by decide⟩
        | 1, _ => exact ⟨rfl, rfl, by decide⟩
      rw [enD_at ec.1] at hc
      cases hc
      let accJ := ([0, 1].take c).foldl (wCell n st) accI
      have lJ : accJ.length ≤ 20 := by
        have := fold_len (wCell n st) 2 (fun acc q => b1 n st acc q) (([0, 1] : List Nat).take c) accI
        rw [List.length_take] at this
        have : accJ.length ≤ accI.length + min c 2 * 2 := this
        omega
      let J3 : List (Int × Int) → DEnv := fun acc => [some (.im (Tu (nI sz2))), some (.im (Li [wayD, wayD])), some (.im (I (c : Nat))), none, some (.im (Tu (ks2.map tI))), some (.im (.dt (ks2.zipIdx.map fun p => (p.1, PyData.int (p.2 : Nat))))), some (.lst (acc.map pI)), some (.im (I (n : Nat))), some (.im (.dat (tI st))), some (.im (.dat wayD)), none, none]
      refine ⟨_, ⟨_, _, rfl, rfl⟩, xx_nx (ρ' := J3 (wCell n st accJ c)) (x1_for (fun k ρ => ρ = J3 ((way2.take k).foldl (wStep n st c) accJ)) PassesOwn.never rfl (ei_lst (ds := way2.map pI) (ee_var 9)) (eg_2 (i := 10) (j := 11) rfl nd (by decide)) rfl ?_ ?_) (xx_nil ⟨J2 (([0, 1].take (c + 1)).foldl (wCell n st) accI), ?_, rfl⟩)⟩
      · rintro k d ρ1 hk rfl
        rw [List.getElem?_map] at hk
        obtain ⟨p, hp, rfl⟩ := Option.map_eq_some_iff.mp hk
        have pm := List.mem_of_getElem? hp
        let accK := (way2.take k).foldl (wStep n st c) accJ
        have lK : accK.length ≤ 22 := by
          have := fold_len (wStep n st c) 1 (fun acc q => wStep_len n st c acc q) (way2.take k) accJ
          rw [List.length_take] at this
          have h2 : way2.length = 2 := rfl
          have : accK.length ≤ accJ.length + min k way2.length * 1 := this
          omega
        have eK : (way2.take (k + 1)).foldl (wStep n st c) accJ = wStep n st c accK p := by
          rw [take_at hp, List.foldl_append]
          rfl
        refine ⟨_, ⟨_, _, rfl, rfl⟩, xx_if (t := decide (st.getD c 0 = p.1)) (ec_et (ec_eqI (ee_ixTn (i := c) (ds := st.map .int) (d := .int (st.getD c 0)) (ee_var 8) (ee_var 2) (by rw [List.getElem?_map, getD_at (by omega)]; rfl)) (ee_var 10))) (fun e => ?_) (fun e => xx_nil (xx_nil ⟨J3 ((way2.take (k + 1)).foldl (wStep n st c) accJ), ?_, rfl⟩))⟩
        · have mv := moved_in st stm c ec.2.2 p pm
          have ekey : tI (moved st c p.2) = .tuple (((st.map PyData.int).take c ++ [.int p.2]) ++ (st.map PyData.int).drop (c + 1)) := by
            unfold tI moved
            rw [List.map_append, List.map_append, List.map_take, List.map_drop]
            rfl
          refine xx_app 6 rfl (d := pI ((n : Int), pl2 (moved st c p.2))) (ee_tup (ds := [.int (n : Nat), .int (pl2 (moved st c p.2))]) (ea_cons (ee_var 7) (ea_cons (ee_getT (i := 5) (k := moved st c p.2) (u1 hr) (.inr rfl) (by
            rw [ekey]
            exact ee_catT (ee_catT (ee_takeT (ds := st.map .int) (n := c) (ee_var 8) (ee_var 2) (by rw [List.length_map]; omega)) (ee_tup (ds := [.int p.2]) (ea_cons (ee_var 11) ea_nil) (sl_le rfl)) (sl_of (by rw [List.length_take, List.length_map]; show _ + 1 ≤ _; omega))) (ee_dropT (ds := st.map .int) (n := c + 1) (ee_var 8) (ee_is (ee_add (ee_var 2) ee_int) rfl) (by rw [List.length_map]; omega)) (sl_of (by rw [List.length_append, List.length_take, List.length_drop, List.length_map]; show _ + 1 + _ ≤ _; omega))) (pl2D _ mv)) ea_nil)) (sl_le rfl)) (by rw [List.length_map, sizeLine_eq]; show accK.length < _; omega) (xx_nil (xx_nil ⟨J3 ((way2.take (k + 1)).foldl (wStep n st c) accJ), ?_, rfl⟩))
          refine ⟨rfl, rfl, rfl, rfl, rfl, h5 _ _ ?_, rfl, rfl, rfl, trivial⟩
          rw [eK]
          unfold wStep
          rw [if_pos (of_decide_eq_true e), List.map_append]
          rfl
        · refine ⟨rfl, rfl, rfl, rfl, rfl, h5 _ _ ?_, rfl, rfl, rfl, trivial⟩
          rw [eK]
          have e9 : wStep n st c accK p = accK := if_neg (of_decide_eq_false e)
          rw [e9]
      · rintro ρ1 rfl
        rfl
      · refine ⟨rfl, rfl, rfl, rfl, h5 _ _ ?_, rfl, rfl, trivial⟩
        rw [take_at ec.2.1, List.foldl_append]
        rfl
    · rintro ρ1 rfl
      rfl
    · refine ⟨rfl, rfl, rfl, rfl, h5 _ _ ?_, trivial⟩
      rw [take_at hz, List.foldl_append]
      rfl
  · rintro ρ1 rfl
    rfl
  · refine xx_frzL 6 rfl (xx_ret (ee_make T hr (ea_cons (ee_var 0) (ea_cons (ee_var 4) (ea_cons (ee_var 6) ea_nil))) ⟨true, true, false, sz2, ks2, fch, rfl, by decide, h36, ⟨by decide, by decide, by decide, by decide +kernel, by decide, by decide +kernel⟩, ⟨by rw [fch_eq]; decide, by rw [fch_eq]; decide +kernel, by rw [fch_eq]; decide +kernel⟩, rfl⟩) rfl)

theorem sc_free_house : FnScope ["sizes", "ways", "one", "other", "size"] ["sizes"] (defScope s_free_house) := ⟨rfl, rfl, rfl, by decide +kernel, rfl, by decide +kernel, by decide +kernel⟩
def rFree (xs : List Im) (y : Im) : Prop := xs = [Tu (nI sz2)] ∧ y = freeH.im
theorem c_free_house (T : Txt K mg) : Cal P w K mg base 8 "free_house" ["sizes"] (spR K rFree) := by
  refine Cal.of T.g_free_house T.d_free_house (fun _ _ _ _ _ _ us hl => match us, hl with | [_], _ => rfl) fun f fd F => ?_
  refine def_ok F sc_free_house (by decide) (by rintro xs y ⟨rfl, _⟩; rfl) fun cdv A outer s H M E xs y hr hR => ?_
  obtain ⟨rfl, rfl⟩ := hR
  have nd := sc_free_house.nd
  have h36 : ∀ n ∈ sz2, 1 ≤ n ∧ n ≤ 36 := by decide
  refine xx_set 0 nd (ee_call (c_need_sizes T) (hr.mono (by decide)) (ea_cons (ee_var 0) ea_nil) ⟨true, sz2, rfl, by decide, by decide, h36, by decide, rfl⟩) ?_
  refine xx_lc0 1 (i := 4) (xs := [0, 1]) (enc := fun _ : Nat => .int (2 : Nat)) (f := fun _ => wayD) rfl nd (ei_tup (ds := nI sz2) (ee_var 0)) rfl (fun s H C cl fp a ha => ?_) (sl_le rfl) ?_
  · refine ee_is (ee_lc22 (i := 2) (j := 3) (xs := List.range 2) (enc := fun c : Nat => .int (c : Nat)) (ys := fun _ => List.range 2) (enc1 := fun _ (c : Nat) => .int (c : Nat)) (q := fun a b => !decide ((a : Int) = (b : Int))) (f := fun a b => pI ((a : Int), (b : Int))) rfl nd (by decide) (ei_rng (n := 2) (ee_var 4) T.n_range (by decide)) rfl (fun s H C cl fp a ha => ei_rng (n := 2) (ee_var 4) T.n_range (by decide)) (fun s H C cl fp a ha b hb => ets_one (ec_et (ec_neI (ee_var 2) (ee_var 3)))) (fun s H C cl fp a ha b hb _ => ee_tup (ds := [.int (a : Nat), .int (b : Nat)]) (ea_cons (ee_var 2) (ea_cons (ee_var 3) ea_nil)) (sl_le rfl)) (fun n a ha => ?_)) ?_
    · refine sl_of ?_
      rw [List.length_flatMap]
      have aux : ∀ l : List Nat, (l.map fun (a : Nat) => (((List.range 2).filter fun (b : Nat) => !decide ((a : Int) = (b : Int))).map fun (b : Nat) => pI ((a : Int), (b : Int))).length).sum ≤ l.length * 2 := fun l => by
        induction l with
        | nil => simp
        | cons a l ih =>
          rw [List.map_cons, List.sum_cons, List.length_cons, List.length_map]
          have := List.length_filter_le (fun b : Nat => !decide ((a : Int) = (b : Int))) (List.range 2)
          rw [List.length_range] at this
          omega
      have := aux ((List.range 2).take n)
      rw [List.length_take, List.length_range] at this
      show _ + (List.range 2).length ≤ _
      rw [List.length_range]
      omega
    · rfl
  · exact xx_ret (ee_call (c_ways_house T) (hr.mono (by decide)) (ea_cons (ee_var 0) (ea_cons (ee_var 1) ea_nil)) ⟨rfl, rfl⟩) rfl
end
end K5
/-! LayU: dicts whose keys are pairs (number, marks). -/
namespace K5
open PySem PySem.Spec PyProof.Rows L2
abbrev Sta := Int × List Int
def stD (p : Sta) : PyData := .tuple [.int p.1, tI p.2]
def nk (p : Sta) : NestedKey := .tup [.num p.1, .tup (p.2.map .num)]
theorem num_inj : ∀ {a b : List Int}, a.map NestedKey.num = b.map NestedKey.num → a = b
  | [], [], _ => rfl
  | [], _ :: _, h => by cases h
  | _ :: _, [], h => by cases h
  | x :: a, y :: b, h => by
    rw [List.map_cons, List.map_cons] at h
    injection h with h1 h2
    injection h1 with h1
    rw [h1, num_inj h2]
theorem nk_inj {p q : Sta} (h : nk p = nk q) : p = q := by
  unfold nk at h
  injection h with h
  injection h with h1 h2
  injection h1 with h1
  injection h2 with h2
  injection h2 with h2
  exact Prod.ext h1 (num_inj h2)
def xsN (L : List (Addr × Sta)) : List (NestedKey × Addr × Value) := L.map fun q => (nk q.2, q.1, .bool true)
def DN0 (P : Program) (w : World) (h : Heap) (a : Addr) (L : List (Addr × Sta)) : Prop :=
  ∃ o es ep, h.get? a = some o ∧ o.ExactDict ∧ o.data = .dict es ep ∧ es.toList = (xsN L).map (entryOfKey (nestedKind P w)) ∧ ((xsN L).map (·.1)).Nodup ∧ L.length ≤ sizeLine ∧ (a == sysModules) = false
def DN (P : Program) (w : World) (a : Addr) (L : List (Addr × Sta)) : HO := .ext fun h => DN0 P w h a L
theorem dn_new {P : Program} {w : World} {H : Hp} {h : Heap} {a : Addr} {L : List (Addr × Sta)} (R : DN0 P w h a L) : ObjOk P w H h a (DN P w a L) := by
  have ⟨o, es, ep, ho, r⟩ := R
  refine ⟨R, ⟨o, ho⟩, fun h1 h2 p k => ?_⟩
  have ⟨o', es', ep', ho', r'⟩ := p
  exact ⟨o', es', ep', k o' ho', r'⟩
/-- a pair (number, marks) as it stands -/
def KeyN (H : Hp) (b : Addr) (p : Sta) : Prop := ∃ c, H b = some (.tup [.int p.1, .ref c]) ∧ H c = some (.tup (p.2.map V.int))
theorem depthN : ∀ k : List Int, NestedKey.depthAll (k.map .num) = 0
  | [] => by simp [NestedKey.depthAll]
  | a :: k => by simp [NestedKey.depthAll, NestedKey.depth, depthN k]
section
variable {X : Cx} {pins : List (Addr × Obj)} {σ : L2.St} {H : Hp} {s : Shared}
theorem nestedAll : ∀ {h : Heap} {k : List Int} {us : List Value}, Vals (k.map V.int) us → NestedAll h (k.map .num) us
  | _, [], _, .nil => .nil
  | _, a :: k, _, .cons r t => by
    obtain ⟨tk, rfl⟩ := r
    exact .cons (.int a tk) (nestedAll t)
theorem key_is (J : Inv X pins σ H s) {b : Addr} {p : Sta} (h : KeyN H b p) : (nestedKind X.prog X.w).is s.heap (nk p) b := by
  obtain ⟨c, hb, hc⟩ := h
  obtain ⟨_, its, r, o, ho, hcl, n, hd⟩ := J.hok _ _ hb
  obtain ⟨u1, u2, rfl, ri, rj⟩ := vals2 r
  obtain ⟨t, rfl⟩ := ri
  cases rj
  obtain ⟨_, its2, r2, o2, ho2, hcl2, n2, hd2⟩ := J.hok _ _ hc
  refine ⟨.tup ho hcl hd (.cons (.int p.1 t) (.cons (.tup ho2 hcl2 hd2 (by simpa using nestedAll r2)) .nil)), ?_⟩
  have := depthN p.2
  unfold nk
  simp [NestedKey.depth, NestedKey.depthAll, this]
theorem dn_full (J : Inv X pins σ H s) {a : Addr} {L : List (Addr × Sta)} (hD : H a = some (DN X.prog X.w a L)) (hk : ∀ q ∈ L, KeyN H q.1 q.2) : s.heap.DictOfH (nestedKind X.prog X.w) a (xsN L) ∧ L.length ≤ sizeLine ∧ (a == sysModules) = false ∧ (L.map (·.2)).Nodup := by
  obtain ⟨o, es, ep, h1, h2, h3, h4, h5, h6, h7⟩ := (show DN0 X.prog X.w s.heap a L from (J.hok a _ hD).1)
  refine ⟨⟨o, es, ep, h1, h2, h3, h4, fun x hx => ?_, h5⟩, h6, h7, ?_⟩
  · obtain ⟨q, hq, rfl⟩ := List.mem_map.mp hx
    exact key_is J (hk q hq)
  · unfold xsN at h5
    rw [List.map_map] at h5
    refine List.pairwise_map.mpr ((List.pairwise_map.mp h5).imp fun {a b} ne e => ne ?_)
    show nk a.2 = nk b.2
    rw [e]
theorem atKey_N (L : List (Addr × Sta)) (p : Sta) : (atKey (xsN L) (nk p)).isSome = decide (p ∈ L.map (·.2)) := by
  unfold atKey
  rw [Option.isSome_map]
  induction L with
  | nil => rfl
  | cons q L ih =>
    show (List.find? _ ((nk q.2, q.1, Value.bool true) :: xsN L)).isSome = _
    rw [List.find?_cons]
    by_cases e : q.2 = p
    · rw [decide_eq_true (show nk q.2 = nk p by rw [e]), decide_eq_true (by rw [← e]; exact List.mem_cons_self)]
      rfl
    · rw [decide_eq_false (fun z => e (nk_inj z))]
      show (List.find? _ (xsN L)).isSome = _
      rw [ih]
      refine decide_eq_decide.mpr ⟨fun h => List.mem_cons_of_mem _ h, fun h => (List.mem_cons.mp h).resolve_left fun z => e z.symm⟩
/-- {} that will have such keys -/
theorem pe_dnewN {pos : Pos} : PE X (.Dict [] [] pos) (fun _ H Q => ∀ p, H p = none → Q (.ref p) (upd H p (DN X.prog X.w p []))) := ⟨fun pins s σ H Q J h =>
  wpAny_Dict_empty ⟨.ref s.heap.objs.size, _, J.laid (a := s.heap.objs.size) (o := DN X.prog X.w s.heap.objs.size []) (t' := s.toks) (fun _ _ q => Heap.get?_push_of_some _ q) (Nat.le_refl _) (dn_new ⟨_, #[], 0, Heap.get?_push_size _ rfl, ⟨rfl, rfl, rfl⟩, rfl, rfl, List.nodup_nil, Nat.zero_le _, beq_eq_false_iff_ne.mpr (Ne.symm (Nat.ne_of_lt J.big))⟩), rfl, h _ (J.hok.fresh (Nat.le_refl _))⟩⟩
/-- p not in d -/
def tNotN' (X : Cx) (ty td : TE) : TE := fun σ H Q => ty σ H fun y H1 => td σ H1 fun x H2 => ∃ a b L p, x = .ref a ∧ y = .ref b ∧ H2 a = some (DN X.prog X.w a L) ∧ (∀ q ∈ L, KeyN H2 q.1 q.2) ∧ KeyN H2 b p ∧ Q (.bl (!decide (p ∈ L.map (·.2)))) H2
theorem pc_notN' {i o : Expr} {ty td : TE} (hu : X.A.units + 64 < cLine) (hi : PE X i ty) (ho : PE X o td) : PC X .NotIn i o (tNotN' X ty td) := by
  refine ⟨fun pins s σ H Q J h => ?_⟩
  refine thn (hi.run pins s σ H _ J h) fun iv s1 ⟨y, H1, J1, ry, q1⟩ => thn (ho.run pins s1 σ H1 _ J1 q1) fun u s2 ⟨x, H2, J2, rx, a, b, L, p, ex, ey, hD, hk, hb, q2⟩ => ?_
  subst ex ey
  cases rx
  cases ry
  obtain ⟨dd, hl, hs, nd⟩ := dn_full J2 hD hk
  refine wpAny_notIn_heap (show X.A.in1.units + 8 < cLine from ?_) (key_is J2 hb) hs dd ?_
  · have e2 : X.A.in1.units ≤ X.A.units + 1 := by
      show X.A.units + _ ≤ _
      omega
    omega
  · rw [atKey_N]
    exact ⟨_, H2, J2.tok _, (show RelV (V.bl (!decide (p ∈ L.map (fun x => x.2)))) (Value.bool (!decide (p ∈ L.map (fun x => x.2)))) from rfl), q2⟩
/-- d[p] = True, p not yet in it -/
def sPutN (X : Cx) (td ty : TE) (tv : TE) : TS := fun D σ H => tv σ H fun v H1 => td σ H1 fun x H2 => ty σ H2 fun y H3 => ∃ a b L p, v = .bl true ∧ x = .ref a ∧ y = .ref b ∧ H3 a = some (DN X.prog X.w a L) ∧ (∀ q ∈ L, KeyN H3 q.1 q.2) ∧ KeyN H3 b p ∧ p ∉ L.map (·.2) ∧ L.length < sizeLine ∧ D.nx σ (upd H3 a (DN X.prog X.w a (L ++ [(b, p)])))
theorem ps_putN {o i value : Expr} {pos pos' : Pos} {td ty tv : TE} (hu : X.A.units + 64 < cLine) (ho : PE X o td) (hi : PE X i ty) (hv : PE X value tv) (hs : swapsWith value (some (.Subscript o i pos')) pos.line X.env = pure false) : PS X (.Assign [.Subscript o i pos'] value pos) (sPutN X td ty tv) := by
  refine ⟨fun pins s σ H D J h => ?_⟩
  refine wpAny_Assign_Subscript (thn (hv.run pins s σ H _ J h) fun r s1 ⟨v, H1, J1, rv, q1⟩ => thn (ho.run pins s1 σ H1 _ J1 q1) fun u s2 ⟨x, H2, J2, rx, q2⟩ => thn (hi.run pins s2 σ H2 _ J2 q2) fun iv s3 ⟨y, H3, J3, ry, a, b, L, p, ev, ex, ey, hD, hk, hb, np, lz, q3⟩ => ?_) hs
  subst ex ey ev
  cases rx
  cases ry
  cases rv
  obtain ⟨dd, hl, hsys, nd⟩ := dn_full J3 hD hk
  have hx : (xsN L).length = L.length := List.length_map ..
  have hnone : atKey (xsN L) (nk p) = none := by
    have := atKey_N L p
    rw [decide_eq_false np] at this
    cases e : atKey (xsN L) (nk p) with
    | none => rfl
    | some z => rw [e] at this; cases this
  refine wpAny_setItem_heap (hsz := by rw [hx]; exact hl) (show X.A.in1.units + 8 < cLine from ?_) (key_is J3 hb) dd fun h' dd' but => ?_
  · have e2 : X.A.in1.units ≤ X.A.units + 1 := by
      show X.A.units + _ ≤ _
      omega
    omega
  · rw [storedH_new hnone] at dd'
    obtain ⟨ob, es, ep, g1, g2, g3, g4, _, g5⟩ := dd'
    have exs : xsN L ++ [(nk p, b, Value.bool true)] = xsN (L ++ [(b, p)]) := by
      unfold xsN
      rw [List.map_append]
      rfl
    rw [exs] at g4 g5
    exact ⟨σ, _, d_write J3 (by rw [hD]; exact True.intro) but ⟨ob, g1⟩ (dn_new ⟨ob, es, ep, g1, g2, g3, g4, g5, by rw [List.length_append]; show _ + 1 ≤ _; omega, hsys⟩), q3⟩
/-- list(d) -/
theorem cr_listN (hc : X.calm = true) : CallR X (.type "list") (fun xs H Q => ∃ d L, xs = [V.ref d] ∧ H d = some (DN X.prog X.w d L) ∧ ∀ p, H p = none → Q (.ref p) (upd H p (.lst (L.map fun q => V.ref q.1)))) := by
  intro pins s σ H xs us Q J r h
  obtain ⟨d, L, rfl, hD, q⟩ := h
  rw [Vals.ref1 r]
  obtain ⟨o, es, ep, ho, hx, hdt, he, hn, hz, hs⟩ := (show DN0 X.prog X.w s.heap d L from (J.hok d _ hD).1)
  have l1 : es.size = L.length := by
    have := size_of_entries he
    rw [this]
    exact List.length_map ..
  refine PySem.W.kdl_call (kdl_raw hs hx hdt) (J.ok.hd hc) ho (by omega) fun h' tk acc' c' kp e it => ?_
  have ea : acc'.toList = L.map fun q => Value.ref q.1 := by
    apply List.ext_getElem?
    intro j
    rw [List.getElem?_map]
    cases hj : acc'.toList[j]? with
    | none =>
      have h1 := List.getElem?_eq_none_iff.mp hj
      rw [Array.length_toList, it.1, l1] at h1
      rw [List.getElem?_eq_none h1]
      rfl
    | some v =>
      obtain ⟨en, hen, hv⟩ := it.2 j v (by rw [← Array.getElem?_toList]; exact hj)
      have qe := entry_at he j
      unfold xsN at qe
      rw [hen, List.getElem?_map] at qe
      cases hb : L[j]? with
      | none =>
        rw [hb] at qe
        cases qe
      | some b =>
        rw [hb] at qe
        rw [hv, Option.some.inj qe]
        rfl
  have rv : Vals (L.map fun q => V.ref q.1) acc'.toList := by
    rw [ea]
    have aux : ∀ l : List (Addr × Sta), Vals (l.map fun q => V.ref q.1) (l.map fun q => Value.ref q.1) := fun l => by
      induction l with
      | nil => exact .nil
      | cons a l ih => exact .cons rfl ih
    exact aux L
  exact ⟨.ref s.heap.objs.size, _, J.laid (t' := tk) (o := .lst (L.map fun q => V.ref q.1)) kp (Nat.le_refl _) ⟨by rw [List.length_map]; exact hz, acc'.toList, c', rv, by rw [Array.toArray_toList]; exact e⟩, rfl, q _ (J.hok.fresh (Nat.le_refl _))⟩
end
/-! ### told by data -/
def dnφ (X : Cx) (ps : List Sta) (v : V) (M H : Hp) : Prop := ∃ D L, v = .ref D ∧ M D = none ∧ H D = some (DN X.prog X.w D L) ∧ L.map (·.2) = ps ∧ ∀ q ∈ L, Dq X.K M (.ref q.1) (stD q.2)
def dnE (X : Cx) (ps : List Sta) : En := .ext (dnφ X ps)
theorem dnE_stay (X : Cx) (ps : List Sta) : StayE (dnE X ps) ∧ RefE (dnE X ps) := by
  refine ⟨fun v M H M' H' ⟨D, L, e, n, h, t, q⟩ s k => ?_, fun v M H ⟨D, L, e, n, h, t, q⟩ => ⟨D, _, e, n, h, rfl⟩⟩
  obtain ⟨h1, h2⟩ := k D e _ h
  exact ⟨D, L, e, h2, h1, t, fun x hx => dp_up s _ _ (q x hx)⟩
theorem keyN_of {K : PySem.W.Frag} {M H : Hp} {b : Addr} {p : Sta} (s : Same M H) (h : Dq K M (.ref b) (stD p)) : KeyN H b p := by
  cases h with
  | tup q r =>
    cases r with
    | cons r1 r2 =>
      cases r2 with
      | cons r2 r3 =>
        cases r3
        cases r1
        obtain ⟨c, e, h2⟩ := rI_key (k := p.2) r2
        subst e
        rw [mapInt] at h2
        exact ⟨c, s _ _ q, s _ _ h2⟩
section
variable {X : Cx} {B : Bs} {ρ : DEnv} {pos p pn pd : Pos} {e a : Expr} {sts : List Stmt} {R : Res → Prop}
theorem ef_dN : EF X B ρ (.Dict [] [] pos) (dnE X []) :=
  pe_imp pe_dnewN fun σ H Q ⟨M, k, q⟩ p np => q p M _ (k.tmp np) np (k.clr np) ⟨p, [], rfl, k.clr np, upd_same, rfl, fun x hx => by cases hx⟩
section
variable {i : Nat} {x : Str} {ps : List Sta} {st : Sta} (h : ρ[i]? = some (some (dnE X ps)))
include h
theorem ec_ninN (hu : X.A.units + 64 < cLine) (he : EE X B ρ e (.dat (stD st))) (hN : X.N[i]? = some x := by rfl) (hv : Vis X.env.scope x := by first | exact Or.inl rfl | exact Or.inr (Or.inl rfl) | exact Or.inr (Or.inr rfl))
    (hd : (x == ("__debug__" : Str)) = false := by decide) (hcd : (x == ("__classdict__" : Str)) = false := by decide) : EC X B ρ .NotIn e (.Name x pn) (!decide (st ∈ ps)) :=
  pc_imp (pc_notN' hu he (pe_var hN hv hd hcd)) fun σ H Q ⟨M, k0, q⟩ => ⟨M, k0, fun z v M1 H1 ez g1 r1 => by
    subst ez
    have k1 := k0.gr g1
    obtain ⟨w, h1, D, L, ew, n, h2, em, hk⟩ := k1.at_ i _ h
    subst ew
    have r2 : Dq X.K M1 v (stD st) := r1
    have hb : ∃ b, v = .ref b := by cases r2; exact ⟨_, rfl⟩
    obtain ⟨b, rfl⟩ := hb
    refine ⟨.ref D, h1, D, b, L, st, rfl, rfl, h2, fun y hy => keyN_of k1.mh (hk y hy), keyN_of k1.mh r2, ?_⟩
    rw [em]
    exact q _ _ M1 H1 rfl g1 (.bl _)⟩
theorem xx_putN (hu : X.A.units + 64 < cLine) (hk : EE X B ρ e (.dat (stD st))) (hv : EE X B ρ a (Bl true)) (hn : st ∉ ps) (hl : ps.length < sizeLine) (hr : XX X B (ρ.set i (some (dnE X (ps ++ [st])))) sts R) (hN : X.N[i]? = some x := by rfl) (hvi : Vis X.env.scope x := by first | exact Or.inl rfl | exact Or.inr (Or.inl rfl) | exact Or.inr (Or.inr rfl))
    (hd : (x == ("__debug__" : Str)) = false := by decide) (hcd : (x == ("__classdict__" : Str)) = false := by decide) (hs : swapsWith a (some (.Subscript (.Name x pn) e pd)) pos.line X.env = pure false := by rfl) : XX X B ρ (.Assign [.Subscript (.Name x pn) e pd] a pos :: sts) R :=
  xx_nx (ρ' := ρ.set i (some (dnE X (ps ++ [st])))) (ps_imp (ps_putN hu (pe_var hN hvi hd hcd) hk hv hs) fun D σ H ⟨M, k0, q⟩ => ⟨M, k0, fun z v M1 H1 ez g1 r1 => by
    subst ez
    have k1 := k0.gr g1
    obtain ⟨w, h1, A, L, ew, n1, h2, em, hk1⟩ := k1.at_ i _ h
    subst ew
    refine ⟨.ref A, h1, M1, k1, fun z v2 M2 H2 ez g2 r2 => ?_⟩
    subst ez
    have k2 := k1.gr g2
    obtain ⟨w, h1', A', L', ew, n2, h2', em', hk2⟩ := k2.at_ i _ h
    subst ew
    rw [h1] at h1'
    cases h1'
    have r3 : Dq X.K M2 v2 (stD st) := r2
    have hb : ∃ b, v2 = .ref b := by cases r3; exact ⟨_, rfl⟩
    obtain ⟨b, rfl⟩ := hb
    refine ⟨A, b, L', st, rI_bl r1, rfl, rfl, h2', fun y hy => keyN_of k2.mh (hk2 y hy), keyN_of k2.mh r3, by rw [em']; exact hn, by rw [← List.length_map (f := fun q : Addr × Sta => q.2), em']; exact hl, ?_⟩
    refine q _ rfl σ M2 _ (g1.mm.trans g2.mm) (k2.wri h h1 rfl n2 ⟨A, L' ++ [(b, st)], rfl, n2, upd_same, by rw [List.map_append, em']; rfl, fun y hy => ?_⟩ (dnE_stay ..) rfl)
    rcases List.mem_append.mp hy with hy | hy
    · exact hk2 y hy
    · rw [List.mem_singleton] at hy
      subst hy
      exact r3⟩) hr
theorem ee_listN (hc : X.calm = true) (hm : X.mg "list" = none) (hN : X.N[i]? = some x := by rfl) (hv : Vis X.env.scope x := by first | exact Or.inl rfl | exact Or.inr (Or.inl rfl) | exact Or.inr (Or.inr rfl))
    (hd : (x == ("__debug__" : Str)) = false := by decide) (hcd : (x == ("__classdict__" : Str)) = false := by decide) (hg : Gl X "list" := by rfl) (hs : starEach [Expr.Name x pn] X.env = (false, eval (.Name x pn) X.env) :: starEach [] X.env := by rfl) : EE X B ρ (.Call (.Name "list" p) [.Name x pn] [] pos) (Li (ps.map stD)) :=
  pe_imp (pe_callTy (cr_listN hc) hg hm PyProof.Rows.boot_list (pa_cons (pe_var hN hv hd hcd) pa_nil hs) (by decide) (by decide) hs rfl) fun σ H Q ⟨M, k0, q⟩ => by
    obtain ⟨w, h1, D, L, ew, n, h2, em, hk⟩ := k0.at_ i _ h
    subst ew
    refine ⟨.ref D, h1, D, L, rfl, h2, fun p np => ?_⟩
    have g := k0.new (o := .lst (L.map fun q => V.ref q.1)) np
    refine q _ _ _ _ rfl g (.lst upd_same (dps_up g.mm _ _ ?_))
    rw [← em]
    have aux : ∀ l : List (Addr × Sta), (∀ y ∈ l, Dq X.K M (.ref y.1) (stD y.2)) → DqAll X.K M (l.map fun q => V.ref q.1) ((l.map (·.2)).map stD) := fun l => by
      induction l with
      | nil => intro _; exact .nil
      | cons a l ih => intro hl; exact .cons (hl a List.mem_cons_self) (ih fun y hy => hl y (List.mem_cons_of_mem _ hy))
    exact aux L hk
end
end
end K5
/-! Defs12: the law's own defs, those of plain data. -/
namespace K5
open PySem PySem.Spec PyProof.Rows L2
def sqD (t : Bool) (ds : List PyData) : PyData := if t = true then .tuple ds else .list ds
theorem sqD_Sq (t : Bool) (ds : List PyData) : Im.dat (sqD t ds) = Sq t ds := by cases t <;> rfl
def toldD (t : Bool) (sz : List Nat) (kept : List (List Int)) (ch : List (Int × Int)) : List PyData := [.tuple (nI sz), .list (kept.map tI), sqD t (ch.map pI)]
def laterR (m : Nat) (one oth mk : List Int) : List Int := (List.range one.length).map fun i => (mk.getD i 0 + (if one.getD i 0 = oth.getD i 0 then 0 else 1)) % (m : Int)
def movesOf (kept : List (List Int)) (ch : List (Int × Int)) (inside : List Int) (m : Nat) (s : Sta) : List Sta :=
  (ch.filter fun p => decide (p.1 = s.1) && decide (p.2 ∈ inside)).map fun p => (p.2, laterR m (kept.getD p.1.toNat []) (kept.getD p.2.toNat []) s.2)
/-- what the law is told -/
structure Told (n : Nat) (kept : List (List Int)) (ch : List (Int × Int)) (inside : List Int) (m : Nat) : Prop where
  n6 : n ≤ 6
  m1 : 1 ≤ m
  m36 : m ≤ 36
  pw : m ^ n ≤ 300
  kl : kept.length ≤ 300
  len : ∀ k ∈ kept, k.length = n
  cl : ch.length ≤ 100
  bd : ∀ p ∈ ch, 0 ≤ p.1 ∧ p.1 < kept.length ∧ 0 ≤ p.2 ∧ p.2 < kept.length
  ins : ∀ x ∈ inside, 0 ≤ x ∧ x < kept.length
  ind : inside.Nodup
section
variable {P : Program} {w : World} {K : PySem.W.Frag} {mg : Str → Option Value} {base : Heap}
theorem sc_law_standings : FnScope ["_law_sizes", "_law_rows", "_law_size", "_law_longer", "_law_row", "_law_content"] ["_law_sizes"] (defScope s_law_standings) := ⟨rfl, rfl, rfl, by decide +kernel, rfl, by decide +kernel, by decide +kernel⟩
def rLSt (xs : List Im) (y : Im) : Prop := ∃ t sz, xs = [Sq t (nI sz)] ∧ sz.length ≤ 6 ∧ (∀ n ∈ sz, n ≤ 36) ∧ (∀ k, (allRows (sz.take k)).length ≤ 300) ∧ y = Li ((allRows sz).map tI)
theorem c_law_standings (T : Txt K mg) : Cal P w K mg base 1 "_law_standings" ["_law_sizes"] (spR K rLSt) := by
  refine Cal.of T.g_law_standings T.d_law_standings (fun _ _ _ _ _ _ us hl => match us, hl with | [_], _ => rfl) fun f fd F => ?_
  refine def_ok F sc_law_standings (by decide) (by rintro xs y ⟨t, sz, rfl, _⟩; rfl) fun cdv A outer s H M E xs y hr hR => ?_
  obtain ⟨t, sz, rfl, h6, h36, h300, rfl⟩ := hR
  have nd := sc_law_standings.nd
  refine xx_set 1 nd (y := Li (([[]] : List (List Int)).map tI)) (ee_lst (ds := [tI []]) (ea_cons (ee_tup (ds := []) ea_nil (Nat.zero_le _)) ea_nil) (sl_le rfl)) ?_
  let J : List (List Int) → DEnv := fun rows => [some (.im (Sq t (nI sz))), some (.im (Li (rows.map tI))), none, none, none, none]
  refine xx_nx (ρ' := J (allRows sz)) (x1_for (fun i ρ => ρ = J (allRows (sz.take i))) PassesOwn.never rfl (ei_S (ee_var 0)) (eg_1 (i := 2) nd) rfl ?_ ?_) (xx_ret (ee_var 1) rfl)
  · rintro i d ρ1 hi rfl
    rw [List.getElem?_map] at hi
    obtain ⟨n, hn, rfl⟩ := Option.map_eq_some_iff.mp hi
    have hm : n ≤ 36 := h36 n (List.mem_of_getElem? hn)
    obtain ⟨hlt, _⟩ := List.getElem?_eq_some_iff.mp hn
    let rows := allRows (sz.take i)
    have hrows : ∀ r ∈ rows, r.length = i := allRows_mem sz i (by omega)
    have hr3 : rows.length ≤ 300 := h300 i
    refine ⟨_, rfl, xx_set 3 nd (y := Li []) (ee_lst (ds := []) ea_nil (Nat.zero_le _)) ?_⟩
    let J2 : List (List Int) → DEnv := fun lg => [some (.im (Sq t (nI sz))), some (.im (Li (rows.map tI))), some (.im (I (n : Nat))), some (.im (Li (lg.map tI))), none, none]
    refine xx_nx (ρ' := J2 (rowsStep rows n)) (x1_for (fun j ρ => ρ = J2 (rowsStep (rows.take j) n)) PassesOwn.never rfl (ei_lst (ee_var 1)) (eg_1 (i := 4) nd) rfl ?_ ?_) (xx_set 1 nd (ee_var 3) (xx_nil ⟨J (allRows (sz.take (i + 1))), ?_, rfl⟩))
    · rintro j d ρ1 hj rfl
      rw [List.getElem?_map] at hj
      obtain ⟨row, hrow, rfl⟩ := Option.map_eq_some_iff.mp hj
      have rl := hrows row (List.mem_of_getElem? hrow)
      refine ⟨_, rfl, xx_set 3 nd (y := Li ((rowsStep (rows.take (j + 1)) n).map tI)) (ee_is (ee_catL (ee_var 3) (ee_lc0 (i := 5) (xs := List.range n) (enc := fun c : Nat => .int (c : Nat)) (f := fun c : Nat => tI (row ++ [(c : Int)])) rfl nd (ei_rng (n := n) (ee_var 2) T.n_range (by omega)) rfl (fun s H C cl fp c hc => ?_) (sl_of (by rw [List.length_range]; omega))) ?_) ?_) (xx_nil ⟨J2 (rowsStep (rows.take (j + 1)) n), ⟨rfl, rfl, rfl, rfl, trivial⟩, rfl⟩)⟩
      · have e : tI (row ++ [(c : Int)]) = .tuple (row.map .int ++ [.int (c : Int)]) := by unfold tI; rw [List.map_append]; rfl
        rw [e]
        exact ee_catT (ee_var 4) (ee_tup (ds := [.int (c : Nat)]) (ea_cons (ee_var 5) ea_nil) (sl_le rfl)) (by rw [List.length_map, rl, sizeLine_eq]; show i + 1 ≤ _; omega)
      · rw [List.length_map, rowsStep_len, List.length_map, List.length_range, List.length_take, sizeLine_eq]
        have h3 : min j rows.length * n ≤ 300 * 36 := Nat.mul_le_mul (by omega) hm
        omega
      · rw [take_at hrow]
        show Li _ = Li _
        unfold rowsStep
        rw [List.flatMap_append, List.map_append, List.flatMap_cons, List.flatMap_nil, List.append_nil, List.map_map]
        rfl
    · rintro ρ1 rfl
      rw [List.length_map, List.take_of_length_le (Nat.le_refl _)]
    · refine ⟨rfl, ?_, trivial⟩
      rw [allRows_take hn]
  · rintro ρ1 rfl
    rw [List.length_map, List.take_of_length_le (Nat.le_refl _)]

theorem sc_law_others : FnScope ["_law_question", "_law_answer", "_law_number", "_law_one"] ["_law_question", "_law_answer"] (defScope s_law_others) := ⟨rfl, rfl, rfl, by decide +kernel, rfl, by decide +kernel, by decide +kernel⟩
def rLOth (xs : List Im) (y : Im) : Prop := ∃ (q : List Int) (ans : Int), xs = [Li (q.map .int), I ans] ∧ q.length ≤ 1000 ∧ y = Li ((othersI q ans).map .int)
theorem c_law_others (T : Txt K mg) : Cal P w K mg base 1 "_law_others" ["_law_question", "_law_answer"] (spR K rLOth) := by
  refine Cal.of T.g_law_others T.d_law_others (fun _ _ _ _ _ _ us hl => match us, hl with | [_, _], _ => rfl) fun f fd F => ?_
  refine def_ok F sc_law_others (by decide) (by rintro xs y ⟨t, sz, rfl, _⟩; rfl) fun cdv A outer s H M E xs y hr hR => ?_
  obtain ⟨q, ans, rfl, hl, rfl⟩ := hR
  have nd := sc_law_others.nd
  exact xx_ret (ee_is (ee_lc2t (i := 2) (j := 3) (xs := q.zipIdx) (ex := fun p => .int (p.2 : Nat)) (ey := fun p => .int p.1) (p := fun p => !decide (p.1 = ans)) (f := fun p => .int (p.2 : Nat)) rfl nd (by decide) (ei_is (ei_enS (t := false) (ee_var 0) T.n_enumerate) (en_maps _ _)) rfl
    (fun s H C cl fp a ha => ets_one (ec_et (ec_neI (ee_var 3) (ee_var 1)))) (fun s H C cl fp a ha _ => ee_var 2) (sl_of (by rw [List.length_zipIdx]; omega))) (by unfold othersI; rw [List.map_map]; rfl)) rfl

theorem sc_law_marks : FnScope ["_law_modulus", "_law_count"] ["_law_modulus", "_law_count"] (defScope s_law_marks) := ⟨rfl, rfl, rfl, by decide +kernel, rfl, by decide +kernel, by decide +kernel⟩
def rLMk (xs : List Im) (y : Im) : Prop := ∃ m n : Nat, xs = [I m, I n] ∧ 1 ≤ m ∧ m ≤ 36 ∧ n ≤ 6 ∧ m ^ n ≤ 300 ∧ y = Li ((everyM m n).map tI)
theorem c_law_marks (T : Txt K mg) : Cal P w K mg base 2 "_law_marks" ["_law_modulus", "_law_count"] (spR K rLMk) := by
  refine Cal.of T.g_law_marks T.d_law_marks (fun _ _ _ _ _ _ us hl => match us, hl with | [_, _], _ => rfl) fun f fd F => ?_
  refine def_ok F sc_law_marks (by decide) (by rintro xs y ⟨t, sz, rfl, _⟩; rfl) fun cdv A outer s H M E xs y hr hR => ?_
  obtain ⟨m, n, rfl, m1, m36, n6, hp, rfl⟩ := hR
  exact xx_ret (ee_call (c_law_standings T) (hr.mono (by decide)) (ea_cons (ee_is (ee_rep1 (d := .int (m : Nat)) (n := n) (ee_lst (ds := [.int (m : Nat)]) (ea_cons (ee_var 0) ea_nil) (sl_le rfl)) (ee_var 1) (by omega)) (show _ = Sq false (nI (List.replicate n m)) by rw [nI_rep]; rfl)) ea_nil) ⟨false, List.replicate n m, rfl, by rw [List.length_replicate]; exact n6, fun z hz => by rw [List.eq_of_mem_replicate hz]; exact m36, fun k => by
    rw [rep_take]
    have := everyM_len m (min k n)
    unfold everyM at this
    rw [this]
    exact Nat.le_trans (Nat.pow_le_pow_right m1 (Nat.min_le_right _ _)) hp, rfl⟩) rfl

abbrev nLM : List Str := ["_law_told", "_law_inside", "_law_modulus", "_law_state", "_law_number", "_law_marks_here", "_law_found", "_law_start", "_law_goal", "_law_one", "_law_other", "_law_later", "_law_at"]
theorem sc_law_moves : FnScope nLM ["_law_told", "_law_inside", "_law_modulus", "_law_state"] (defScope s_law_moves) := ⟨rfl, rfl, rfl, by decide +kernel, rfl, by decide +kernel, by decide +kernel⟩
def rLMv (xs : List Im) (y : Im) : Prop := ∃ t sz kept ch inside m st, xs = [Li (toldD t sz kept ch), Li (inside.map .int), I (m : Nat), .dat (stD st)] ∧ Told sz.length kept ch inside m ∧ st.2.length = sz.length ∧ y = Li ((movesOf kept ch inside m st).map stD)
theorem c_law_moves (T : Txt K mg) : Cal P w K mg base 1 "_law_moves" ["_law_told", "_law_inside", "_law_modulus", "_law_state"] (spR K rLMv) := by
  refine Cal.of T.g_law_moves T.d_law_moves (fun _ _ _ _ _ _ us hl => match us, hl with | [_, _, _, _], _ => rfl) fun f fd F => ?_
  refine def_ok F sc_law_moves (by decide) (by rintro xs y ⟨t, sz, a, b, c, d, e, rfl, _⟩; rfl) fun cdv A outer s H M E xs y hr hR => ?_
  obtain ⟨t, sz, kept, ch, inside, m, ⟨n, mk⟩, rfl, L, ml, rfl⟩ := hR
  have nd := sc_law_moves.nd
  have n6 := L.n6
  have m1 := L.m1
  have cl := L.cl
  have ml : mk.length = sz.length := ml
  refine xx_asg (d := .tuple [.int n, tI mk]) (gT := g2 4 5) (ee_var 3) (eg_2 rfl nd (by decide)) ⟨_, _, rfl, rfl⟩ ?_
  refine xx_own 6 nd ef_nil ?_
  let hd : DEnv := [some (.im (Li (toldD t sz kept ch))), some (.im (Li (inside.map .int))), some (.im (I (m : Nat))), some (.im (.dat (stD (n, mk)))), some (.im (I n)), some (.im (.dat (tI mk)))]
  let fnd : Nat → List Sta := fun i => movesOf kept (ch.take i) inside m (n, mk)
  let J : Nat → DEnv := fun i => hd ++ [some (.lst ((fnd i).map stD)), none, none, none, none, none, none]
  have h5 : ∀ (x y : List PyData), x = y → some (En.lst x) = some (En.lst y) := fun x y e => by rw [e]
  have fl : ∀ i, (fnd i).length ≤ 100 := fun i => by
    show ((ch.take i).filter _ |>.map _).length ≤ _
    rw [List.length_map]
    have := List.length_filter_le (fun p : Int × Int => decide (p.1 = n) && decide (p.2 ∈ inside)) (ch.take i)
    rw [List.length_take] at this
    exact Nat.le_trans this (by omega)
  refine xx_nx (ρ' := J ch.length) (x1_for (fun i ρ => ρ = J i) PassesOwn.never rfl (ei_S (t := t) (ds := ch.map pI) (ee_is (ee_ixLn (i := 2) (ds := toldD t sz kept ch) (ee_var 0) ee_int rfl) (sqD_Sq t _))) (eg_2 (i := 7) (j := 8) rfl nd (by decide)) rfl ?_ ?_) ?_
  · rintro i d ρ1 hi rfl
    rw [List.getElem?_map] at hi
    obtain ⟨p, hp, rfl⟩ := Option.map_eq_some_iff.mp hi
    obtain ⟨a0, a1, b0, b1⟩ := L.bd p (List.mem_of_getElem? hp)
    have fnext : fnd (i + 1) = fnd i ++ (if (decide (p.1 = n) && decide (p.2 ∈ inside)) = true then [(p.2, laterR m (kept.getD p.1.toNat []) (kept.getD p.2.toNat []) mk)] else []) := by
      show movesOf kept (ch.take (i + 1)) inside m (n, mk) = movesOf kept (ch.take i) inside m (n, mk) ++ _
      unfold movesOf
      rw [take_at hp, List.filter_append, List.map_append, List.filter_cons]
      by_cases e : (decide (p.1 = n) && decide (p.2 ∈ inside)) = true
      · rw [if_pos e, if_pos e]
        rfl
      · rw [if_neg e, if_neg e]
        rfl
    refine ⟨_, ⟨_, _, rfl, rfl⟩, xx_if (t := decide (p.1 = n) && decide (p.2 ∈ inside)) (ew_and (ec_et (ec_eqI (ee_var 7) (ee_var 4))) fun _ => ew_and1 (ec_et (ec_inIL (ks := inside) (ee_var 8) (ee_var 1)))).et (fun e => ?_) (fun e => xx_nil (xx_nil ⟨J (i + 1), ⟨rfl, rfl, rfl, rfl, rfl, rfl, h5 _ _ (by rw [fnext, e]; simp), trivial⟩, rfl⟩))⟩
    let one := kept.getD p.1.toNat []
    let oth := kept.getD p.2.toNat []
    have kat : ∀ z : Int, 0 ≤ z → z < kept.length → (kept.map tI)[z.toNat]? = some (tI (kept.getD z.toNat [])) ∧ (kept.getD z.toNat []).length = sz.length := fun z z0 z1 => by
      have hlt : z.toNat < kept.length := by omega
      have e : kept.getD z.toNat [] = kept[z.toNat] := by rw [List.getD_eq_getElem?_getD, List.getElem?_eq_getElem hlt] <;> rfl
      rw [List.getElem?_map, List.getElem?_eq_getElem hlt, e]
      exact ⟨rfl, L.len _ (List.getElem_mem hlt)⟩
    obtain ⟨q1, l1⟩ := kat p.1 a0 a1
    obtain ⟨q2, l2⟩ := kat p.2 b0 b1
    have l1 : one.length = sz.length := l1
    have l2 : oth.length = sz.length := l2
    refine xx_asg (d := .tuple [tI one, tI oth]) (gT := g2 9 10) (ee_tup (ds := [tI one, tI oth]) (ea_cons (ee_ixLn (i := p.1.toNat) (ee_ixLn (i := 1) (ds := toldD t sz kept ch) (ee_var 0) ee_int rfl) (ee_is (ee_var 7) (congrArg I (Int.toNat_of_nonneg a0).symm)) q1) (ea_cons (ee_ixLn (i := p.2.toNat) (ee_ixLn (i := 1) (ds := toldD t sz kept ch) (ee_var 0) ee_int rfl) (ee_is (ee_var 8) (congrArg I (Int.toNat_of_nonneg b0).symm)) q2) ea_nil)) (sl_le rfl)) (eg_2 rfl nd (by decide)) ⟨_, _, rfl, rfl⟩ ?_
    refine xx_lc0 11 (i := 12) (xs := List.range one.length) (enc := fun c : Nat => .int (c : Nat)) (f := fun i : Nat => .int ((mk.getD i 0 + (if one.getD i 0 = oth.getD i 0 then 0 else 1)) % (m : Int))) rfl nd (ei_rng (n := one.length) (ee_is (ee_lenT (ds := one.map .int) (ee_var 9) T.n_len) (by rw [List.length_map])) T.n_range (by omega)) rfl (fun s H C cl fp c hc => ?_) (sl_of (by rw [List.length_range]; omega)) ?_
    · rw [List.mem_range] at hc
      refine ee_mod (ee_intI (ee_add (ee_ixTn (i := c) (d := .int (mk.getD c 0)) (ds := mk.map .int) (ee_var 5) (ee_var 12) (by rw [List.getElem?_map, getD_at (by omega)]; rfl)) (ee_is (ee_intB (ee_neI (ee_ixTn (i := c) (d := .int (one.getD c 0)) (ds := one.map .int) (ee_var 9) (ee_var 12) (by rw [List.getElem?_map, getD_at (by omega)]; rfl)) (ee_ixTn (i := c) (d := .int (oth.getD c 0)) (ds := oth.map .int) (ee_var 10) (ee_var 12) (by rw [List.getElem?_map, getD_at (by omega)]; rfl))) T.n_int) ?_)) T.n_int) (ee_var 2) (by omega)
      by_cases e : one.getD c 0 = oth.getD c 0
      · rw [decide_eq_true e, if_pos e]
        rfl
      · rw [decide_eq_false e, if_neg e]
        rfl
    · refine xx_app 6 rfl (d := stD (p.2, laterR m one oth mk)) (ee_tup (ds := [.int p.2, tI (laterR m one oth mk)]) (ea_cons (ee_var 8) (ea_cons (ee_is (ee_tuple (ee_var 11) T.n_tuple) (by unfold laterR tI; rw [List.map_map]; rfl)) ea_nil)) (sl_le rfl)) (by have := fl i; rw [List.length_map, sizeLine_eq]; omega) (xx_nil (xx_nil ⟨J (i + 1), ⟨rfl, rfl, rfl, rfl, rfl, rfl, h5 _ _ ?_, trivial⟩, rfl⟩))
      rw [fnext, if_pos e, List.map_append]
      rfl
  · rintro ρ1 rfl
    rw [List.length_map]
  · refine xx_frzL 6 rfl (xx_ret (ee_is (ee_var 6) ?_) rfl)
    show Li ((fnd ch.length).map stD) = _
    show Li ((movesOf kept (ch.take ch.length) inside m (n, mk)).map stD) = _
    rw [List.take_of_length_le (Nat.le_refl _)]
end
end K5
/-! Defs13: the law's spread. -/
namespace K5
open PySem PySem.Spec PyProof.Rows L2
def addS (s : List Sta × List Sta) (o : Sta) : List Sta × List Sta := if o ∈ s.1 then s else (s.1 ++ [o], s.2 ++ [o])
def goS (mv : Sta → List Sta) (front : List Sta) (s : List Sta × List Sta) : List Sta × List Sta := front.foldl (fun s st => (mv st).foldl addS s) s
def spreadS (mv : Sta → List Sta) : Nat → List Sta → List Sta → List Sta
  | 0, _, met => met
  | k + 1, front, met => if front = [] then met else spreadS mv k (goS mv front (met, [])).2 (goS mv front (met, [])).1
/-- the states there are -/
def everyS (inside : List Int) (m n : Nat) : List Sta := inside.flatMap fun x => (everyM m n).map fun mk => (x, mk)
theorem mem_everyS {inside : List Int} {m n : Nat} {s : Sta} : s ∈ everyS inside m n ↔ s.1 ∈ inside ∧ s.2 ∈ everyM m n := by
  unfold everyS
  rw [List.mem_flatMap]
  constructor
  · rintro ⟨x, hx, h⟩
    obtain ⟨mk, h1, rfl⟩ := List.mem_map.mp h
    exact ⟨hx, h1⟩
  · rintro ⟨h1, h2⟩
    exact ⟨s.1, h1, List.mem_map.mpr ⟨s.2, h2, rfl⟩⟩
theorem everyS_len (inside : List Int) (m n : Nat) : (everyS inside m n).length = inside.length * m ^ n := by
  unfold everyS
  rw [List.length_flatMap]
  have : (inside.map fun x => ((everyM m n).map fun mk => ((x, mk) : Sta)).length) = inside.map fun _ => m ^ n := List.map_congr_left fun s _ => by rw [List.length_map, everyM_len]
  rw [this]
  clear this
  induction inside with
  | nil => simp
  | cons a l ih => rw [List.map_cons, List.sum_cons, ih, List.length_cons, Nat.succ_mul, Nat.add_comm]
structure GoodT (uni : List Sta) (s : List Sta × List Sta) : Prop where
  nd : s.1.Nodup
  sub : ∀ x ∈ s.1, x ∈ uni
  le : s.2.length ≤ s.1.length
  fs : ∀ x ∈ s.2, x ∈ s.1
theorem addS_good {uni : List Sta} {s : List Sta × List Sta} (h : GoodT uni s) {o : Sta} (ho : o ∈ uni) : GoodT uni (addS s o) := by
  unfold addS
  by_cases c : o ∈ s.1
  · rw [if_pos c]
    exact h
  · rw [if_neg c]
    refine ⟨?_, fun x hx => ?_, ?_, fun x hx => ?_⟩
    · show (s.1 ++ [o]).Nodup
      rw [List.nodup_append]
      refine ⟨h.nd, by simp, fun a ha b hb => ?_⟩
      rw [List.mem_singleton] at hb
      subst hb
      exact fun e => c (e ▸ ha)
    · rcases List.mem_append.mp hx with hx | hx
      · exact h.sub x hx
      · rw [List.mem_singleton] at hx
        rw [hx]
        exact ho
    · have := h.le
      show (s.2 ++ [o]).length ≤ (s.1 ++ [o]).length
      rw [List.length_append, List.length_append]
      omega
    · rcases List.mem_append.mp hx with hx | hx
      · exact List.mem_append_left _ (h.fs x hx)
      · exact List.mem_append_right _ hx
theorem foldS_good {uni : List Sta} : ∀ (gs : List Sta) {s : List Sta × List Sta}, (∀ x ∈ gs, x ∈ uni) → GoodT uni s → GoodT uni (gs.foldl addS s)
  | [], _, _, h => h
  | g :: gs, _, hg, h => foldS_good gs (fun x hx => hg x (List.mem_cons_of_mem _ hx)) (addS_good h (hg g List.mem_cons_self))
theorem goS_good {uni : List Sta} {mv : Sta → List Sta} (hm : ∀ s ∈ uni, ∀ x ∈ mv s, x ∈ uni) : ∀ (front : List Sta) {s : List Sta × List Sta}, (∀ x ∈ front, x ∈ uni) → GoodT uni s → GoodT uni (goS mv front s)
  | [], _, _, h => h
  | n :: front, _, hf, h => goS_good hm front (fun x hx => hf x (List.mem_cons_of_mem _ hx)) (foldS_good (mv n) (hm n (hf n List.mem_cons_self)) h)
theorem spreadS_good {uni : List Sta} {mv : Sta → List Sta} (hm : ∀ s ∈ uni, ∀ x ∈ mv s, x ∈ uni) : ∀ (k : Nat) (front met : List Sta), GoodT uni (met, front) → (spreadS mv k front met).Nodup ∧ ∀ x ∈ spreadS mv k front met, x ∈ uni
  | 0, front, met, g => ⟨g.nd, g.sub⟩
  | k + 1, front, met, g => by
    unfold spreadS
    by_cases h : front = []
    · rw [if_pos h]
      exact ⟨g.nd, g.sub⟩
    · rw [if_neg h]
      exact spreadS_good hm k _ _ (goS_good hm front (fun x hx => g.sub x (g.fs x hx)) ⟨g.nd, g.sub, Nat.zero_le _, fun x hx => by cases hx⟩)
theorem moves_in {kept : List (List Int)} {ch : List (Int × Int)} {inside : List Int} {m n : Nat} (L : Told n kept ch inside m) {s : Sta} : ∀ x ∈ movesOf kept ch inside m s, x ∈ everyS inside m n := by
  intro x hx
  unfold movesOf at hx
  obtain ⟨p, hp, rfl⟩ := List.mem_map.mp hx
  obtain ⟨hp, hf⟩ := List.mem_filter.mp hp
  simp only [Bool.and_eq_true, decide_eq_true_eq] at hf
  refine mem_everyS.mpr ⟨hf.2, mem_everyM.mpr ⟨?_, fun z hz => ?_⟩⟩
  · obtain ⟨a0, a1, _⟩ := L.bd p hp
    have hlt : p.1.toNat < kept.length := by omega
    show (laterR m _ _ s.2).length = n
    unfold laterR
    rw [List.length_map, List.length_range, List.getD_eq_getElem?_getD, List.getElem?_eq_getElem hlt]
    exact L.len _ (List.getElem_mem hlt)
  · have := L.m1
    obtain ⟨i, _, rfl⟩ := List.mem_map.mp (show z ∈ laterR m _ _ s.2 from hz)
    exact ⟨Int.emod_nonneg _ (by omega), Int.emod_lt_of_pos _ (by omega)⟩
theorem lay_stD (s : Sta) : (stD s).canLay0 = true := by
  have := lay_ints s.2
  simp [stD, tI, PyData.canLay0, PyData.canLayAll0, this]
theorem lay_stDs : ∀ l : List Sta, PyData.canLayAll0 (l.map stD) = true
  | [] => by simp [PyData.canLayAll0]
  | a :: l => by simp [PyData.canLayAll0, lay_stD a, lay_stDs l]
theorem depth_stD (s : Sta) : (stD s).depth = 2 := by
  have := depth_tI s.2
  simp [stD, PyData.depth, PyData.depthAll, this]
theorem depth_stDs : ∀ l : List Sta, PyData.depthAll (l.map stD) ≤ 2
  | [] => by simp [PyData.depthAll]
  | a :: l => by
    have h1 := depth_stDs l
    have h2 := depth_stD a
    simp only [List.map_cons, PyData.depthAll]
    omega
theorem shaped_stDs (l : List Sta) : SeqAt.shaped (.list (l.map stD)) = true := by
  show (PyData.canLay0 (.list (l.map stD)) && decide (PyData.depth (.list (l.map stD)) ≤ 64)) = true
  rw [Bool.and_eq_true]
  have h := depth_stDs l
  refine ⟨?_, decide_eq_true ?_⟩
  · rw [PyData.canLay0]
    exact lay_stDs l
  · rw [PyData.depth]
    omega
theorem eqv_nil (l : List PyData) : PyData.eqv (.list l) (.list []) = l.isEmpty := by
  cases l <;> simp [PyData.eqv, PyData.eqvAll]
section
variable {X : Cx} {B : Bs} {ρ : DEnv} {pos p px pn : Pos} {e a b c : Expr} {sts : List Stmt} {R : Res → Prop}
/-- a, b, c = a thing just made, y, z -/
theorem xx_par3O {i j l : Nat} {x y z : Str} {u : En} {v w : Im} {px py pz pt : Pos} {kt k2 : Nat} {pt2 : Pos} (hc : X.calm = true) (hN : X.N.Nodup) (hij : i ≠ j) (hil : i ≠ l) (hjl : j ≠ l) (ha : EF X B ρ a u) (hb : EE X B ρ b v) (hcc : EE X B ρ c w) (h : XX X B (((ρ.set i (some u)).set j (some (.im v))).set l (some (.im w))) sts R) (st : StayE u ∧ RefE u)
    (hi : X.N[i]? = some x := by rfl) (hj : X.N[j]? = some y := by rfl) (hl : X.N[l]? = some z := by rfl)
    (hx : X.env.scope.names.lookup x = some .local := by rfl) (hy : X.env.scope.names.lookup y = some .local := by rfl) (hz : X.env.scope.names.lookup z = some .local := by rfl) (h1 : starEach [a, b, c] X.env = (false, eval a X.env) :: starEach [b, c] X.env := by rfl) (h2 : starEach [b, c] X.env = (false, eval b X.env) :: starEach [c] X.env := by rfl) (h3 : starEach [c] X.env = (false, eval c X.env) :: starEach [] X.env := by rfl)
    (hw : swappedStores [.Tuple [.Name x px, .Name y py, .Name z pz] kt pt] (.Tuple [a, b, c] k2 pt2) X.env = pure (some [x, y, z]) := by rfl)
    (hs : swapsWithSole [.Tuple [.Name x px, .Name y py, .Name z pz] kt pt] (.Tuple [a, b, c] k2 pt2) pos.line X.env = pure false := by rfl) : XX X B ρ (.Assign [.Tuple [.Name x px, .Name y py, .Name z pz] kt pt] (.Tuple [a, b, c] k2 pt2) pos :: sts) R :=
  xx_nx (ρ' := ((ρ.set i (some u)).set j (some (.im v))).set l (some (.im w))) (ps_imp (ps_par3 hc hN hi hj hl hij hil hjl hx hy hz (pa_cons ha (ea_cons hb (ea_cons hcc ea_nil h3) h2) h1) hw hs) fun D σ H ⟨M, k, q⟩ => ⟨M, k, fun A M1 H1 g1 n1 n2 r1 => ⟨M1, k.gr g1, fun vs M2 H2 g2 r2 => by
    have hw1 := k.off n1
    have r1' : RepE X.K M2 H2 (.ref A) u := repE_up r1 st.1 g2.mm (fun b o _ eb h t n => by cases eb; exact ⟨g2.hh _ o hw1 h, g2.fr _ o h t n⟩) st.2
    cases r2 with
    | cons r2 r3 =>
      cases r3 with
      | cons r3 r4 =>
        cases r4
        exact ⟨_, _, _, rfl, q _ rfl _ M2 H2 (g1.mm.trans g2.mm) (((k.tak2 (g1.trans g2) (i := i) n1 r1' st).put r2).put r3)⟩⟩⟩) h
end
section
variable {P : Program} {w : World} {K : PySem.W.Frag} {mg : Str → Option Value} {base : Heap}
abbrev nLS : List Str := ["_law_told", "_law_inside", "_law_modulus", "_law_states", "_law_pace", "_law_met", "_law_front", "_law_steps", "_law_state", "_law_following", "_law_other"]
theorem sc_law_spread : FnScope nLS ["_law_told", "_law_inside", "_law_modulus", "_law_states", "_law_pace"] (defScope s_law_spread) := ⟨rfl, rfl, rfl, by decide +kernel, rfl, by decide +kernel, by decide +kernel⟩
def rLSp (xs : List Im) (y : Im) : Prop := ∃ t sz kept ch inside m states pace, xs = [Li (toldD t sz kept ch), Li (inside.map .int), I (m : Nat), Li (states.map stD), I (pace : Nat)] ∧ Told sz.length kept ch inside m ∧ states.Nodup ∧ (∀ s ∈ states, s ∈ everyS inside m sz.length) ∧ y = Li ((spreadS (movesOf kept ch inside m) pace states states).map stD)
theorem c_law_spread (T : Txt K mg) : Cal P w K mg base 2 "_law_spread" ["_law_told", "_law_inside", "_law_modulus", "_law_states", "_law_pace"] (spR K rLSp) := by
  refine Cal.of T.g_law_spread T.d_law_spread (fun _ _ _ _ _ _ us hl => match us, hl with | [_, _, _, _, _], _ => rfl) fun f fd F => ?_
  refine def_ok F sc_law_spread (by decide) (by rintro xs y ⟨t, sz, a, b, c, d, e, g, rfl, _⟩; rfl) fun cdv A outer s H M E xs y hr hR => ?_
  obtain ⟨t, sz, kept, ch, inside, m, states, pace, rfl, L, snd, ssub, rfl⟩ := hR
  have nd := sc_law_spread.nd
  let X := (cxOf CX0 P w K mg base nLS "_law_spread" (defScope s_law_spread) f cdv A outer s H E).nox
  let uni := everyS inside m sz.length
  let mv := movesOf kept ch inside m
  have hmv : ∀ s ∈ uni, ∀ x ∈ mv s, x ∈ uni := fun s _ => moves_in L
  have ul : uni.length ≤ 300 * 300 := by
    show (everyS inside m sz.length).length ≤ _
    rw [everyS_len]
    refine Nat.mul_le_mul ?_ L.pw
    have := nodup_sub inside ((List.range kept.length).map fun n : Nat => (n : Int)) L.ind fun x hx => by
      obtain ⟨h0, h1⟩ := L.ins x hx
      exact List.mem_map.mpr ⟨x.toNat, List.mem_range.mpr (by omega), Int.toNat_of_nonneg h0⟩
    rw [List.length_map, List.length_range] at this
    have := L.kl
    omega
  have gl : ∀ {s : List Sta × List Sta}, GoodT uni s → s.1.length ≤ 90000 ∧ s.2.length ≤ 90000 := fun {s} g => by
    have h1 := nodup_sub s.1 uni g.nd g.sub
    have h2 := g.le
    omega
  have sl : states.length ≤ 90000 := (gl (s := (states, [])) ⟨snd, ssub, Nat.zero_le _, fun x hx => by cases hx⟩).1
  let hd : DEnv := [some (.im (Li (toldD t sz kept ch))), some (.im (Li (inside.map .int))), some (.im (I (m : Nat))), some (.im (Li (states.map stD))), some (.im (I (pace : Nat)))]
  let J : List Sta → List Sta → Nat → DEnv := fun front met steps => hd ++ [some (dnE X met), some (.im (Li (front.map stD))), some (.im (I (steps : Nat))), none, none, none]
  refine xx_par3O (i := 5) (j := 6) (l := 7) rfl nd (by decide) (by decide) (by decide) ef_dN (ee_listL (ee_var 3) T.n_list) ee_int ?_ (dnE_stay X [])
  refine xx_nx (ρ' := J states states 0) (x1_for (fun i ρ => ρ = J states (states.take i) 0) PassesOwn.never rfl (ei_lst (ee_var 6)) (eg_1 (i := 8) nd) rfl ?_ ?_) ?_
  · rintro i d ρ1 hi rfl
    rw [List.getElem?_map] at hi
    obtain ⟨st, hst, rfl⟩ := Option.map_eq_some_iff.mp hi
    have nw : st ∉ states.take i := by
      have := nodup_take (f := fun s : Sta => s) (l := states) (by rw [List.map_id']; exact snd) hst
      rw [List.map_id'] at this
      exact this
    refine ⟨_, rfl, xx_putN (i := 5) rfl (u64 hr) (ee_var 8) ee_bl nw (by rw [List.length_take, sizeLine_eq]; omega) (xx_nil ⟨J states (states.take (i + 1)) 0, ⟨rfl, rfl, rfl, rfl, rfl, ?_, rfl, rfl, trivial⟩, rfl⟩)⟩
    rw [take_at hst]
  · rintro ρ1 rfl
    rw [List.length_map, List.take_of_length_le (Nat.le_refl _)]
  let last : List Sta → DEnv := fun met => hd ++ [some (dnE X met), none, none, none, none, none]
  refine xx_seq (R1 := fun r => ∃ met ρ', met = spreadS mv pace states states ∧ r = .nx ρ' ∧ Le (last met) ρ') ?_ (fun ρ' ⟨met, ρ2, e, er, l⟩ => by cases er; exact xx_le (xx_ret (ee_listN (i := 5) (ps := met) rfl rfl T.n_list) (by rw [e]; rfl)) l) (fun x ⟨_, _, _, e, _⟩ => by cases e) (fun x ⟨_, _, _, e, _⟩ => by cases e) (fun x ⟨_, _, _, e, _⟩ => by cases e)
  have h5 : ∀ (x y : List PyData), x = y → some (En.lst x) = some (En.lst y) := fun x y e => by rw [e]
  refine x1_while (fun k ρ => ∃ steps front met, k + steps = pace ∧ ρ = J front met steps ∧ spreadS mv k front met = spreadS mv pace states states ∧ GoodT uni (met, front)) PassesOwn.never pace ⟨0, states, states, rfl, rfl, rfl, snd, ssub, Nat.le_refl _, fun x hx => hx⟩ ?_
  rintro k ρ1 ⟨steps, front, met, hk, rfl, hsp, good⟩
  refine ⟨!(front.map stD).isEmpty && (false || decide ((steps : Int) < (pace : Int))), (ew_and (et_is (ec_et (ec_neD (d := .list (front.map stD)) (f := .list []) (u64 hr) (ee_var 6) (ee_lst (ds := []) ea_nil (sl_le rfl)) (shaped_stDs _) (shaped_stDs []))) (by rw [eqv_nil])) fun _ => ew_and1 (EW.et (ew_or (ec_et (ec_isN (ee_var 4) fun _ _ _ r => nN_int r)) fun _ => ew_or1 (ec_et (ec_lt (ee_var 7) (ee_var 4)))))).et, fun e => ?_, fun e => ?_⟩
  · refine ⟨met, _, ?_, rfl, ⟨rfl, rfl, rfl, rfl, rfl, rfl, trivial⟩⟩
    rw [← hsp]
    cases k with
    | zero => rfl
    | succ k =>
      unfold spreadS
      have : front = [] := by
        cases front with
        | nil => rfl
        | cons a l =>
          simp at e
          omega
      rw [if_pos this]
  · have hs : steps < pace := by
      simp at e
      omega
    have hf : front ≠ [] := by
      cases front with
      | nil => simp at e
      | cons a l => simp
    obtain ⟨k, rfl⟩ : ∃ j, k = j + 1 := ⟨k - 1, by omega⟩
    rw [show spreadS mv (k + 1) front met = spreadS mv k (goS mv front (met, [])).2 (goS mv front (met, [])).1 from if_neg hf] at hsp
    let s0 : List Sta × List Sta := (met, [])
    have g0 : GoodT uni s0 := ⟨good.nd, good.sub, Nat.zero_le _, fun x hx => by cases hx⟩
    have fsub : ∀ x ∈ front, x ∈ uni := fun x hx => good.sub x (good.fs x hx)
    let sa : Nat → List Sta × List Sta := fun i => goS mv (front.take i) s0
    have ga : ∀ i, GoodT uni (sa i) := fun i => goS_good hmv _ (fun x hx => fsub x (List.mem_of_mem_take hx)) g0
    let J2 : List Sta × List Sta → DEnv := fun s => hd ++ [some (dnE X s.1), some (.im (Li (front.map stD))), some (.im (I (steps : Nat))), none, some (.lst (s.2.map stD)), none]
    refine xx_own 9 nd ef_nil ?_
    refine xx_le (ρ' := J2 s0) ?_ ⟨rfl, rfl, rfl, rfl, rfl, rfl, rfl, rfl, rfl, trivial⟩
    refine xx_nx (ρ' := J2 (sa front.length)) (x1_for (fun i ρ => ρ = J2 (sa i)) PassesOwn.never rfl (ei_lst (ee_var 6)) (eg_1 (i := 8) nd) rfl ?_ ?_) ?_
    · rintro i d ρ1 hi rfl
      rw [List.getElem?_map] at hi
      obtain ⟨st, hst, rfl⟩ := Option.map_eq_some_iff.mp hi
      have stu := fsub st (List.mem_of_getElem? hst)
      let row := mv st
      let sb : Nat → List Sta × List Sta := fun j => (row.take j).foldl addS (sa i)
      have gb : ∀ j, GoodT uni (sb j) := fun j => foldS_good _ (fun x hx => hmv st stu x (List.mem_of_mem_take hx)) (ga i)
      let J3 : List Sta × List Sta → DEnv := fun s => hd ++ [some (dnE X s.1), some (.im (Li (front.map stD))), some (.im (I (steps : Nat))), some (.im (.dat (stD st))), some (.lst (s.2.map stD)), none]
      refine ⟨_, rfl, xx_nx (ρ' := J3 (sb row.length)) (x1_for (fun j ρ => ρ = J3 (sb j)) PassesOwn.never rfl (ei_lst (ds := row.map stD) (ee_call (c_law_moves T) (hr.mono (by decide)) (ea_cons (ee_var 0) (ea_cons (ee_var 1) (ea_cons (ee_var 2) (ea_cons (ee_var 8) ea_nil)))) ⟨t, sz, kept, ch, inside, m, st, rfl, L, (mem_everyM.mp (mem_everyS.mp stu).2).1, rfl⟩)) (eg_1 (i := 10) nd) rfl ?_ ?_) (xx_nil ⟨J2 (sa (i + 1)), ?_, rfl⟩)⟩
      · rintro j d ρ1 hj rfl
        rw [List.getElem?_map] at hj
        obtain ⟨g, hg, rfl⟩ := Option.map_eq_some_iff.mp hj
        have es : sb (j + 1) = addS (sb j) g := by
          show (row.take (j + 1)).foldl addS (sa i) = _
          rw [take_at hg, List.foldl_append]
          rfl
        obtain ⟨f1, f2⟩ := gl (gb j)
        refine ⟨_, rfl, xx_if (t := !decide (g ∈ (sb j).1)) (ec_et (ec_ninN (i := 5) (ps := (sb j).1) rfl (u64 hr) (ee_var 10))) (fun e => ?_) (fun e => ?_)⟩
        · have e1 : g ∉ (sb j).1 := by simpa using e
          refine xx_putN (i := 5) (ps := (sb j).1) rfl (u64 hr) (ee_var 10) ee_bl e1 (by rw [sizeLine_eq]; omega) ?_
          refine xx_app 9 rfl (ee_var 10) (by rw [List.length_map, sizeLine_eq]; omega) (xx_nil (xx_nil ⟨J3 (sb (j + 1)), ?_, rfl⟩))
          rw [es]
          unfold addS
          rw [if_neg e1]
          exact ⟨rfl, rfl, rfl, rfl, rfl, rfl, rfl, rfl, rfl, h5 _ _ (by rw [List.map_append]; rfl), trivial⟩
        · have e1 : g ∈ (sb j).1 := by simpa using e
          refine xx_nil (xx_nil ⟨J3 (sb (j + 1)), ?_, rfl⟩)
          rw [es]
          unfold addS
          rw [if_pos e1]
          exact ⟨rfl, rfl, rfl, rfl, rfl, rfl, rfl, rfl, rfl, rfl, trivial⟩
      · rintro ρ1 rfl
        rw [List.length_map]
      · have es : sa (i + 1) = sb row.length := by
          show goS mv (front.take (i + 1)) s0 = (row.take row.length).foldl addS (sa i)
          rw [take_at hst, List.take_of_length_le (Nat.le_refl _)]
          unfold goS
          rw [List.foldl_append]
          rfl
        rw [es]
        exact ⟨rfl, rfl, rfl, rfl, rfl, rfl, rfl, rfl, rfl, trivial⟩
    · rintro ρ1 rfl
      rw [List.length_map]
    · have es : sa front.length = goS mv front (met, []) := by
        show goS mv (front.take front.length) s0 = _
        rw [List.take_of_length_le (Nat.le_refl _)]
      have gg := ga front.length
      rw [es] at gg ⊢
      refine xx_frzL 9 rfl (xx_par (i := 6) (j := 7) rfl nd (by decide) (ee_var 9) (ee_add (ee_var 7) ee_int) (xx_nil ⟨J _ _ (steps + 1), k, ?_, by omega, steps + 1, _, _, by omega, rfl, hsp, gg⟩))
      exact ⟨rfl, rfl, rfl, rfl, rfl, rfl, rfl, rfl, trivial⟩
end
end K5
/-! Defs14: what outlives a word; the law's own trip. -/
namespace K5
open PySem PySem.Spec PyProof.Rows L2
def filtS (kept : List (List Int)) (sh : List (Int × Int)) (c : Nat) (states : List Sta) : List Sta :=
  states.filter fun s => decide ((kept.getD s.1.toNat []).getD c 0 = (sh.getD c (0, 0)).1) && decide (s.2.getD c 0 = (sh.getD c (0, 0)).2)
def outl (mv : Sta → List Sta) (pace : Nat) (kept : List (List Int)) (sh : List (Int × Int)) : List Nat → List Sta → List Sta
  | [], st => st
  | [c], st => filtS kept sh c st
  | c :: d :: rest, st => outl mv pace kept sh (d :: rest) (spreadS mv pace (filtS kept sh c st) (filtS kept sh c st))
theorem trip_leastB : ((List.range 6).all fun m => (List.range 11).all fun k => !(decide (1 ≤ m) && decide (2 ≤ k) && decide (k ≤ trip m)) || (decide (k % m = 0 ∧ k % 2 = 0) == decide (k = trip m))) = true := by decide +kernel
theorem trip_least (m : Nat) (h6 : m < 6) (h1 : 1 ≤ m) (k : Nat) (h11 : k < 11) (h2 : 2 ≤ k) (h3 : k ≤ trip m) : (k % m = 0 ∧ k % 2 = 0) ↔ k = trip m := by
  have h := List.all_eq_true.mp (List.all_eq_true.mp trip_leastB m (List.mem_range.mpr h6)) k (List.mem_range.mpr h11)
  rw [decide_eq_true h1, decide_eq_true h2, decide_eq_true h3] at h
  have h : (decide (k % m = 0 ∧ k % 2 = 0) == decide (k = trip m)) = true := h
  exact decide_eq_decide.mp (eq_of_beq h)
theorem trip_bd : ∀ m, m < 6 → 1 ≤ m → 2 ≤ trip m ∧ trip m ≤ 10 := by decide +kernel
theorem pI_eqv (a b : Int × Int) : PyData.eqv (pI a) (pI b) = (decide (a.1 = b.1) && decide (a.2 = b.2)) := by
  rw [eqv_tI, ← Bool.decide_and]
  refine decide_eq_decide.mpr ⟨fun e => ?_, fun ⟨e1, e2⟩ => by rw [e1, e2]⟩
  injection e with e1 e2
  injection e2 with e2
  exact ⟨e1, e2⟩
section
variable {P : Program} {w : World} {K : PySem.W.Frag} {mg : Str → Option Value} {base : Heap}
abbrev nLO : List Str := ["_law_told", "_law_inside", "_law_modulus", "_law_pace", "_law_shown", "_law_word", "_law_states", "_law_number", "_law_at", "_law_cell", "_law_marks_here", "_law_one"]
theorem sc_law_outlived : FnScope nLO ["_law_told", "_law_inside", "_law_modulus", "_law_pace", "_law_shown", "_law_word"] (defScope s_law_outlived) := ⟨rfl, rfl, rfl, by decide +kernel, rfl, by decide +kernel, by decide +kernel⟩
def rLOut (xs : List Im) (y : Im) : Prop := ∃ t sz kept ch inside m pace sh word, xs = [Li (toldD t sz kept ch), Li (inside.map .int), I (m : Nat), I (pace : Nat), Li (sh.map pI), Li (nI word)] ∧ Told sz.length kept ch inside m ∧ sh.length = sz.length ∧ (∀ c ∈ word, c < sz.length) ∧ word.length ≤ 10000 ∧
  y = Bl (!(outl (movesOf kept ch inside m) pace kept sh word (everyS inside m sz.length)).isEmpty)
theorem c_law_outlived (T : Txt K mg) : Cal P w K mg base 3 "_law_outlived" ["_law_told", "_law_inside", "_law_modulus", "_law_pace", "_law_shown", "_law_word"] (spR K rLOut) := by
  refine Cal.of T.g_law_outlived T.d_law_outlived (fun _ _ _ _ _ _ us hl => match us, hl with | [_, _, _, _, _, _], _ => rfl) fun f fd F => ?_
  refine def_ok F sc_law_outlived (by decide) (by rintro xs y ⟨t, sz, a, b, c, d, e, g, i, rfl, _⟩; rfl) fun cdv A outer s H M E xs y hr hR => ?_
  obtain ⟨t, sz, kept, ch, inside, m, pace, sh, word, rfl, L, shl, wc, wl, rfl⟩ := hR
  have nd := sc_law_outlived.nd
  have n6 := L.n6
  let n := sz.length
  let uni := everyS inside m n
  let mv := movesOf kept ch inside m
  have hmv : ∀ s ∈ uni, ∀ x ∈ mv s, x ∈ uni := fun s _ => moves_in L
  have kl := L.kl
  have il : inside.length ≤ 300 := by
    have := nodup_sub inside ((List.range kept.length).map fun n : Nat => (n : Int)) L.ind fun x hx => by
      obtain ⟨h0, h1⟩ := L.ins x hx
      exact List.mem_map.mpr ⟨x.toNat, List.mem_range.mpr (by omega), Int.toNat_of_nonneg h0⟩
    rw [List.length_map, List.length_range] at this
    omega
  have ul : uni.length ≤ 90000 := by
    show (everyS inside m sz.length).length ≤ _
    rw [everyS_len]
    exact Nat.mul_le_mul il L.pw
  have und : uni.Nodup := by
    show (everyS inside m n).Nodup
    unfold everyS List.Nodup
    rw [List.pairwise_flatMap]
    refine ⟨fun x hx => ?_, ?_⟩
    · rw [List.pairwise_map]
      exact (nodup_of_lt (sorted_all (List.replicate n m))).imp fun ne e => ne (congrArg Prod.snd e)
    · refine L.ind.imp fun {a b} ne x hx y hy e => ?_
      obtain ⟨c, _, rfl⟩ := List.mem_map.mp hx
      obtain ⟨d, _, rfl⟩ := List.mem_map.mp hy
      exact ne (congrArg Prod.fst e)
  let hd : DEnv := [some (.im (Li (toldD t sz kept ch))), some (.im (Li (inside.map .int))), some (.im (I (m : Nat))), some (.im (I (pace : Nat))), some (.im (Li (sh.map pI))), some (.im (Li (nI word)))]
  let J : List Sta → DEnv := fun st => hd ++ [some (.im (Li (st.map stD))), none, none, none, none, none]
  have hLi : ∀ (a b : List Sta), a = b → some (En.im (Li (a.map stD))) = some (En.im (Li (b.map stD))) := fun a b e => by rw [e]
  refine xx_set 6 nd (y := Li []) (ee_lst (ds := []) ea_nil (Nat.zero_le _)) ?_
  refine xx_nx (ρ' := J uni) (x1_for (fun i ρ => ρ = J (everyS (inside.take i) m n)) PassesOwn.never rfl (ei_lst (ee_var 1)) (eg_1 (i := 7) nd) rfl ?_ ?_) ?_
  · rintro i d ρ1 hi rfl
    rw [List.getElem?_map] at hi
    obtain ⟨x, hx, rfl⟩ := Option.map_eq_some_iff.mp hi
    have pw := L.pw
    refine ⟨_, rfl, xx_set 6 nd (y := Li ((everyS (inside.take (i + 1)) m n).map stD)) (ee_is (ee_catL (ee_var 6) (ee_lc0 (i := 10) (xs := everyM m n) (enc := tI) (f := fun mk => stD (x, mk)) rfl nd (ei_lst (ee_call (c_law_marks T) (hr.mono (by decide)) (ea_cons (ee_var 2) (ea_cons (ee_is (ee_lenT (ds := nI sz) (ee_ixLn (i := 0) (ds := toldD t sz kept ch) (ee_var 0) ee_int rfl) T.n_len) (by rw [List.length_map])) ea_nil)) ⟨m, n, rfl, L.m1, L.m36, n6, pw, rfl⟩)) rfl (fun s H C cl fp mk hmk => ee_tup (ds := [.int x, tI mk]) (ea_cons (ee_var 7) (ea_cons (ee_var 10) ea_nil)) (sl_le rfl)) (sl_of (by rw [everyM_len]; show m ^ sz.length ≤ _; omega))) ?_) ?_) (xx_nil ⟨J (everyS (inside.take (i + 1)) m n), ⟨rfl, rfl, rfl, rfl, rfl, rfl, rfl, trivial⟩, rfl⟩)⟩
    · rw [List.length_map, List.length_map, everyS_len, everyM_len, List.length_take, sizeLine_eq]
      have h3 : min i inside.length * m ^ n ≤ 300 * 300 := Nat.mul_le_mul (by omega) pw
      show _ * m ^ n + m ^ n ≤ _
      have : m ^ n ≤ 300 := pw
      omega
    · show Li _ = Li _
      unfold everyS
      rw [take_at hx, List.flatMap_append, List.map_append, List.flatMap_cons, List.flatMap_nil, List.append_nil, List.map_map]
      rfl
  · rintro ρ1 rfl
    rw [List.length_map, List.take_of_length_le (Nat.le_refl _)]
  let fin := outl mv pace kept sh word uni
  refine xx_seq (R1 := fun r => ∃ ρ', r = .nx ρ' ∧ Le (J fin) ρ') (x1_for (fun i ρ => ∃ st, ρ = J st ∧ outl mv pace kept sh (word.drop i) st = fin ∧ st.Nodup ∧ ∀ s ∈ st, s ∈ uni) PassesOwn.never rfl (ei_rng (n := word.length) (ee_is (ee_lenL (ds := nI word) (ee_var 5) T.n_len) (by rw [List.length_map])) T.n_range (by omega)) (eg_1 (i := 8) nd) ⟨uni, rfl, rfl, und, fun s h => h⟩ ?_ ?_) (fun ρ' ⟨ρ2, e, l⟩ => by
      cases e
      exact xx_le (xx_ret (ee_is (ee_neD (d := .list (fin.map stD)) (f := .list []) (u64 hr) (ee_var 6) (ee_lst (ds := []) ea_nil (sl_le rfl)) (shaped_stDs _) (shaped_stDs [])) (by rw [eqv_nil]; show (Bl !(fin.map stD).isEmpty) = Bl !fin.isEmpty; rw [List.isEmpty_map])) rfl) l) (fun x ⟨_, e, _⟩ => by cases e) (fun x ⟨_, e, _⟩ => by cases e) (fun x ⟨_, e, _⟩ => by cases e)
  · rintro i d ρ1 hi ⟨st, rfl, hout, snd, ssub⟩
    have iw : i < word.length := by
      have := (List.getElem?_eq_some_iff.mp hi).1
      rw [rgD_len] at this
      exact this
    rw [rgD_at iw] at hi
    cases hi
    let c := word[i]
    have ew : word[i]? = some c := List.getElem?_eq_getElem iw
    have cn : c < sz.length := wc c (List.getElem_mem iw)
    have stl : st.length ≤ 90000 := Nat.le_trans (nodup_sub st uni snd ssub) ul
    have dropE : word.drop i = c :: word.drop (i + 1) := List.drop_eq_getElem_cons iw
    rw [dropE] at hout
    let fs := filtS kept sh c st
    have fsub : ∀ s ∈ fs, s ∈ uni := fun s hs => ssub s (List.mem_filter.mp hs).1
    have fnd : fs.Nodup := snd.filter _
    have shc : (sh.map pI)[c]? = some (pI (sh.getD c (0, 0))) := by
      have hlt : c < sh.length := by omega
      rw [List.getElem?_map, List.getElem?_eq_getElem hlt, List.getD_eq_getElem?_getD, List.getElem?_eq_getElem hlt]
      rfl
    refine ⟨_, rfl, xx_set 9 nd (ee_ixLn (i := i) (ds := nI word) (d := .int (c : Nat)) (ee_var 5) (ee_var 8) (by rw [List.getElem?_map, ew]; rfl)) ?_⟩
    refine xx_lc1 6 (i := 11) (xs := st) (enc := stD) (p := fun s => decide ((kept.getD s.1.toNat []).getD c 0 = (sh.getD c (0, 0)).1) && decide (s.2.getD c 0 = (sh.getD c (0, 0)).2)) (f := stD) rfl nd (ei_lst (ee_var 6)) rfl (fun s0 H C cl fp s hs => ?_) (fun s H C cl fp a ha _ => ee_var 11) (sl_of (by omega)) ?_
    · obtain ⟨sin, smk⟩ := mem_everyS.mp (ssub s hs)
      obtain ⟨h0, h1⟩ := L.ins _ sin
      have hlt : s.1.toNat < kept.length := by omega
      have ek : kept.getD s.1.toNat [] = kept[s.1.toNat] := by rw [List.getD_eq_getElem?_getD, List.getElem?_eq_getElem hlt] <;> rfl
      have lk := L.len _ (List.getElem_mem hlt)
      have lm := (mem_everyM.mp smk).1
      refine ets_one (et_is (ec_et (ec_eqD (d := pI ((kept.getD s.1.toNat []).getD c 0, s.2.getD c 0)) (f := pI (sh.getD c (0, 0))) (u64 hr) (ee_tup (ds := [.int ((kept.getD s.1.toNat []).getD c 0), .int (s.2.getD c 0)]) (ea_cons (ee_ixTn (i := c) (ds := (kept.getD s.1.toNat []).map .int) (ee_ixLn (i := s.1.toNat) (d := tI (kept.getD s.1.toNat [])) (ds := kept.map tI) (ee_ixLn (i := 1) (ds := toldD t sz kept ch) (ee_var 0) ee_int rfl) (ee_is (ee_ixTn (i := 0) (ds := [.int s.1, tI s.2]) (ee_var 11) ee_int rfl) (congrArg I (Int.toNat_of_nonneg h0).symm)) (by rw [List.getElem?_map, List.getElem?_eq_getElem hlt, ek]; rfl)) (ee_var 9) (by rw [List.getElem?_map, getD_at (by rw [ek, lk]; exact cn)]; rfl)) (ea_cons (ee_ixTn (i := c) (ds := s.2.map .int) (ee_ixTn (i := 1) (d := tI s.2) (ds := [.int s.1, tI s.2]) (ee_var 11) ee_int rfl) (ee_var 9) (by rw [List.getElem?_map, getD_at (by rw [lm]; exact cn)]; rfl)) ea_nil)) (sl_le rfl)) (ee_ixLn (i := c) (ee_var 4) (ee_var 9) shc) (shaped_tI _) (shaped_tI _))) (pI_eqv _ _))
    · refine xx_if (t := decide ((i : Int) < ((word.length : Nat) : Int) - 1)) (ec_et (ec_lt (ee_var 8) (ee_sub (ee_is (ee_lenL (ds := nI word) (ee_var 5) T.n_len) (by rw [List.length_map])) ee_int))) (fun e => ?_) (fun e => ?_)
      · have hlt : i + 1 < word.length := by
          have := of_decide_eq_true e
          omega
        have d2 : word.drop (i + 1) = word[i + 1] :: word.drop (i + 2) := List.drop_eq_getElem_cons hlt
        rw [d2] at hout
        have hout2 : outl mv pace kept sh (word[i + 1] :: word.drop (i + 2)) (spreadS mv pace fs fs) = fin := hout
        have sg := spreadS_good hmv pace fs fs ⟨fnd, fsub, Nat.le_refl _, fun x hx => hx⟩
        refine xx_set 6 nd (ee_call (c_law_spread T) (hr.mono (by decide)) (ea_cons (ee_var 0) (ea_cons (ee_var 1) (ea_cons (ee_var 2) (ea_cons (ee_var 6) (ea_cons (ee_var 3) ea_nil))))) ⟨t, sz, kept, ch, inside, m, fs, pace, rfl, L, fnd, fsub, rfl⟩) (xx_nil (xx_nil ⟨J (spreadS mv pace fs fs), ⟨rfl, rfl, rfl, rfl, rfl, rfl, rfl, trivial⟩, _, rfl, by rw [d2]; exact hout2, sg.1, sg.2⟩))
      · have hge : word.length ≤ i + 1 := by
          have := of_decide_eq_false e
          omega
        have d2 : word.drop (i + 1) = [] := List.drop_eq_nil_of_le hge
        rw [d2] at hout
        exact xx_nil (xx_nil ⟨J fs, ⟨rfl, rfl, rfl, rfl, rfl, rfl, rfl, trivial⟩, fs, rfl, by rw [d2]; exact hout, fnd, fsub⟩)
  · rintro ρ1 ⟨st, rfl, hout, _⟩
    refine ⟨_, rfl, ?_⟩
    rw [rgD_len, List.drop_eq_nil_of_le (Nat.le_refl _)] at hout
    have hout : st = fin := hout
    rw [hout]
    exact Le.refl _

theorem sc_law_trip : FnScope ["_law_size", "_law_modulus", "_law_many"] ["_law_size", "_law_modulus"] (defScope s_law_trip) := ⟨rfl, rfl, rfl, by decide +kernel, rfl, by decide +kernel, by decide +kernel⟩
def rLTrip (xs : List Im) (y : Im) : Prop := ∃ m : Nat, xs = [I 2, I m] ∧ 1 ≤ m ∧ m < 6 ∧ y = I (trip m : Nat)
theorem c_law_trip (T : Txt K mg) : Cal P w K mg base 1 "_law_trip" ["_law_size", "_law_modulus"] (spR K rLTrip) := by
  refine Cal.of T.g_law_trip T.d_law_trip (fun _ _ _ _ _ _ us hl => match us, hl with | [_, _], _ => rfl) fun f fd F => ?_
  refine def_ok F sc_law_trip (by decide) (by rintro xs y ⟨m, rfl, _⟩; rfl) fun cdv A outer s H M E xs y hr hR => ?_
  obtain ⟨m, rfl, m1, m6, rfl⟩ := hR
  have nd := sc_law_trip.nd
  obtain ⟨t2, t10⟩ := trip_bd m m6 m1
  refine xx_set 2 nd ee_int ?_
  refine xx_nx (ρ' := [some (.im (I 2)), some (.im (I m)), some (.im (I (trip m : Nat)))]) (x1_while (fun k ρ => ∃ many : Nat, k + many = trip m ∧ 2 ≤ many ∧ ρ = [some (.im (I 2)), some (.im (I m)), some (.im (I many))]) PassesOwn.never (trip m - 2) ⟨2, by omega, by omega, rfl⟩ ?_) (xx_ret (ee_var 2) rfl)
  rintro k ρ1 ⟨many, hk, h2, rfl⟩
  have key := trip_least m m6 m1 many (by omega) h2 (by omega)
  refine ⟨!decide (((many : Int) % (m : Int)) = 0) || (decide ((2 : Int) = 2) && !decide ((many : Int) % 2 = 0)), (ew_or (ec_et (ec_neI (ee_mod (ee_intI (ee_var 2) T.n_int) (ee_var 1) (by omega)) ee_int)) fun _ => ew_or1 (EW.et (ew_and (ec_et (ec_eqI (ee_var 0) ee_int)) fun _ => ew_and1 (ec_et (ec_neI (ee_mod (ee_var 2) ee_int (by decide)) ee_int))))).et, fun e => ?_, fun e => ?_⟩
  · have a : many % m = 0 ∧ many % 2 = 0 := by
      simp at e
      omega
    rw [key.mp a]
  · have a : many ≠ trip m := fun z => by
      obtain ⟨b1, b2⟩ := key.mpr z
      simp at e
      omega
    exact xx_set 2 nd (ee_add (ee_var 2) ee_int) (xx_nil ⟨[some (.im (I 2)), some (.im (I m)), some (.im (I ((many + 1 : Nat) : Int)))], k - 1, ⟨rfl, rfl, rfl, trivial⟩, by omega, many + 1, by omega, by omega, rfl⟩)
end
end K5
/-! Any1: the law's deal: a list of a list and a whole number, both of which turn at every draw. -/
namespace K5
open PySem PySem.Spec PyProof.Rows L2
structure DL (A i : Addr) (xs : List Int) (b : Int) (H : Hp) : Prop where
  ne : A ≠ i
  ha : H A = some (.lst [.ref i, .int b])
  hi : H i = some (.lst (xs.map .int))
/-- all but the deal's two lists stays -/
def Kp (A i : Addr) (H H' : Hp) : Prop := ∀ a o, a ≠ A → a ≠ i → H a = some o → H' a = some o
theorem Kp.refl {A i : Addr} {H : Hp} : Kp A i H H := fun _ _ _ _ h => h
theorem Kp.trans {A i : Addr} {H H1 H2 : Hp} (a : Kp A i H H1) (b : Kp A i H1 H2) : Kp A i H H2 := fun c o n1 n2 h => b c o n1 n2 (a c o n1 n2 h)
theorem Kp.new {A i p : Addr} {H : Hp} {o : HO} (h : H p = none) : Kp A i H (upd H p o) := fun c u _ _ e => by rw [upd_ne (ne_of_none e h)]; exact e
theorem Kp.inn {A i : Addr} {H : Hp} {o : HO} : Kp A i H (upd H i o) := fun c u _ n e => by rw [upd_ne n]; exact e
theorem Kp.out {A i : Addr} {H : Hp} {o : HO} : Kp A i H (upd H A o) := fun c u n _ e => by rw [upd_ne n]; exact e
theorem DL.new {A i p : Addr} {xs : List Int} {b : Int} {H : Hp} {o : HO} (d : DL A i xs b H) (h : H p = none) : DL A i xs b (upd H p o) :=
  ⟨d.ne, by rw [upd_ne (ne_of_none d.ha h)]; exact d.ha, by rw [upd_ne (ne_of_none d.hi h)]; exact d.hi⟩
theorem DL.inn {A i : Addr} {xs ys : List Int} {b : Int} {H : Hp} (d : DL A i xs b H) : DL A i ys b (upd H i (.lst (ys.map .int))) :=
  ⟨d.ne, by rw [upd_ne d.ne]; exact d.ha, upd_same⟩
theorem DL.out {A i : Addr} {xs : List Int} {b c : Int} {H : Hp} (d : DL A i xs b H) : DL A i xs c (upd H A (.lst [.ref i, .int c])) :=
  ⟨d.ne, upd_same, by rw [upd_ne (Ne.symm d.ne)]; exact d.hi⟩
structure SL (A i : Addr) (n : Int) (xs : List Int) (b : Int) (σ : L2.St) (H : Hp) : Prop where
  s0 : σ[0]? = some (some (.ref A))
  s1 : σ[1]? = some (some (.int n))
  d : DL A i xs b H
abbrev nAN : List Str := ["_law_deal", "_law_bound", "_law_rest"]
theorem sc_law_any : FnScope nAN ["_law_deal", "_law_bound"] (defScope s_law_any) := ⟨rfl, rfl, rfl, by decide +kernel, rfl, by decide +kernel, by decide +kernel⟩
section
variable {X : Cx} {pos p q p0 p1 p2 p3 p4 p5 p6 p7 : Pos} {j j2 : Nat}
theorem pe_d0 {x : Str} (hN : X.N[0]? = some x := by rfl) (hv : Vis X.env.scope x := by first | exact Or.inl rfl | exact Or.inr (Or.inl rfl) | exact Or.inr (Or.inr rfl)) (hd : (x == ("__debug__" : Str)) = false := by decide) (hcd : (x == ("__classdict__" : Str)) = false := by decide) :
    PE X (.Subscript (.Name x p) (.Constant (.int 0) j q) pos) (fun σ H Q => ∃ A i n xs b, SL A i n xs b σ H ∧ Q (.ref i) H) :=
  pe_imp (pe_ix ix_list (pe_var hN hv hd hcd) pe_int (fun _ _ => rfl)) fun σ H Q ⟨A, i, n, xs, b, s, h⟩ => ⟨_, s.s0, A, _, 0, .ref i, rfl, rfl, SqL.of s.d.ha, rfl, h⟩
theorem pe_d1 {x : Str} (hN : X.N[0]? = some x := by rfl) (hv : Vis X.env.scope x := by first | exact Or.inl rfl | exact Or.inr (Or.inl rfl) | exact Or.inr (Or.inr rfl)) (hd : (x == ("__debug__" : Str)) = false := by decide) (hcd : (x == ("__classdict__" : Str)) = false := by decide) :
    PE X (.Subscript (.Name x p) (.Constant (.int 1) j q) pos) (fun σ H Q => ∃ A i n xs b, SL A i n xs b σ H ∧ Q (.int b) H) :=
  pe_imp (pe_ix ix_list (pe_var hN hv hd hcd) pe_int (fun _ _ => rfl)) fun σ H Q ⟨A, i, n, xs, b, s, h⟩ => ⟨_, s.s0, A, _, 1, .int b, rfl, rfl, SqL.of s.d.ha, rfl, h⟩
theorem dp_ints {K : PySem.W.Frag} {H : Hp} : ∀ xs : List Int, DpAll K H (xs.map V.int) (xs.map PyData.int)
  | [] => .nil
  | x :: xs => .cons (.int x) (dp_ints xs)
theorem SL.dp {K : PySem.W.Frag} {A i : Addr} {n b : Int} {xs : List Int} {σ : L2.St} {H : Hp} (d : DL A i xs b H) : Dp K H (.ref i) (.list (xs.map .int)) := .lst (.of d.hi) (dp_ints xs)
theorem SL.new {A i p : Addr} {n b : Int} {xs : List Int} {σ : L2.St} {H : Hp} {o : HO} (s : SL A i n xs b σ H) (h : H p = none) : SL A i n xs b σ (upd H p o) := ⟨s.s0, s.s1, s.d.new h⟩
theorem shaped_Ls (xs : List Int) : SeqAt.shaped (.list (xs.map .int)) = true := by
  have h := shaped_tI xs
  have e : SeqAt.shaped (.list (xs.map .int)) = SeqAt.shaped (tI xs) := by
    unfold SeqAt.shaped tI
    simp only [PyData.canLay0, PyData.depth]
    rfl
  rw [e]
  exact h
/-- the deal's list is not empty -/
theorem pt_dne {x : Str} (hu : X.A.units + 64 < cLine) (hN : X.N[0]? = some x := by rfl) (hv : Vis X.env.scope x := by first | exact Or.inl rfl | exact Or.inr (Or.inl rfl) | exact Or.inr (Or.inr rfl)) (hd : (x == ("__debug__" : Str)) = false := by decide) (hcd : (x == ("__classdict__" : Str)) = false := by decide) :
    PT X (.Compare (.Subscript (.Name x p) (.Constant (.int 0) j q) pos) [.NotEq] [.List [] p0] p1) (fun σ H Q => ∃ A i n xs b, SL A i n xs b σ H ∧ ∀ H', SL A i n xs b σ H' → Kp A i H H' → Q (!xs.isEmpty) H') :=
  pt_imp (pt_cmp (pc_R (op_neD hu) (pe_d0 hN hv hd hcd) (pe_lst pa_nil))) fun σ H Q ⟨A, i, n, xs, b, s, h⟩ => ⟨A, i, n, xs, b, s, Nat.zero_le _, fun z hz => ⟨.list (xs.map .int), .list [], SL.dp (n := n) (σ := σ) (s.new hz).d, .lst (.of upd_same) .nil, shaped_Ls xs, rfl, _, rfl, by
    have e : PyData.eqv (.list (xs.map .int)) (.list []) = xs.isEmpty := by cases xs <;> rfl
    rw [e]
    exact h _ (s.new hz) (Kp.new hz)⟩⟩
/-- its last whole number is no 0 -/
theorem pt_dz {x : Str} (hN : X.N[0]? = some x := by rfl) (hv : Vis X.env.scope x := by first | exact Or.inl rfl | exact Or.inr (Or.inl rfl) | exact Or.inr (Or.inr rfl)) (hd : (x == ("__debug__" : Str)) = false := by decide) (hcd : (x == ("__classdict__" : Str)) = false := by decide) :
    PT X (.Compare (.Subscript (.Subscript (.Name x p) (.Constant (.int 0) j q) pos) (.UnaryOp .USub (.Constant (.int 1) j2 p0) p1) p2) [.Eq] [.Constant (.int 0) 0 p3] p4) (fun σ H Q => ∃ A i n xs b, SL A i n xs b σ H ∧ xs ≠ [] ∧ ∀ c, Q c H) :=
  pt_imp (pt_cmp (pc_R op_eq (pe_ix ix_list (pe_d0 hN hv hd hcd) (pe_un un_neg pe_int) (fun _ _ => rfl)) pe_int)) fun σ H Q ⟨A, i, n, xs, b, s, ne, h⟩ => ⟨A, i, n, xs, b, s, 1, rfl, i, _, -1, .int (xs.getLast ne), rfl, rfl, SqL.of s.d.hi, by
    have hl : xs.length ≠ 0 := fun e => ne (List.length_eq_zero_iff.mp e)
    show (ixN (xs.map V.int).length (-1)).bind _ = _
    have e : ixN (xs.map V.int).length (-1) = some (xs.length - 1) := by
      unfold ixN
      rw [List.length_map, if_neg (by decide), if_pos (by omega)]
      congr 1
      omega
    rw [e]
    show (xs.map V.int)[xs.length - 1]? = _
    rw [List.getElem?_map, List.getLast_eq_getElem, List.getElem?_eq_getElem (by omega)]
    rfl, rfl, _, rfl, h _⟩
/-- its last one is taken -/
theorem pe_dpop {x : Str} (hN : X.N[0]? = some x := by rfl) (hv : Vis X.env.scope x := by first | exact Or.inl rfl | exact Or.inr (Or.inl rfl) | exact Or.inr (Or.inr rfl)) (hd : (x == ("__debug__" : Str)) = false := by decide) (hcd : (x == ("__classdict__" : Str)) = false := by decide)
    (hbase : attributeBase (.Subscript (.Name x p) (.Constant (.int 0) j q) pos) "pop" X.env (eval (.Subscript (.Name x p) (.Constant (.int 0) j q) pos) X.env) = eval (.Subscript (.Name x p) (.Constant (.int 0) j q) pos) X.env := by rfl) (hline : (p0.endLine == p1.line) = true := by rfl) :
    PE X (.Call (.Attribute (.Subscript (.Name x p) (.Constant (.int 0) j q) pos) "pop" p0) [] [] p1) (fun σ H Q => ∃ A i n xs b, SL A i n xs b σ H ∧ xs ≠ [] ∧ ∀ y H', SL A i n xs.dropLast b σ H' → Kp A i H H' → Q (.int y) H') :=
  pe_imp (pe_bm0 PySem.F.plainAttrs_list PySem.F.slot_list_pop PySem.F.type_list_pop mt_pop (pe_d0 hN hv hd hcd) hbase hline) fun σ H Q ⟨A, i, n, xs, b, s, ne, h⟩ => ⟨A, i, n, xs, b, s, .inl ⟨rfl, _, SqL.of s.d.hi⟩, i, _, .int (xs.getLast ne), rfl, rfl, s.d.hi, by
    have hl : xs.length ≠ 0 := fun e => ne (List.length_eq_zero_iff.mp e)
    rw [List.length_map, List.getElem?_map, List.getLast_eq_getElem, List.getElem?_eq_getElem (by omega)]
    rfl, by
    rw [← List.map_dropLast]
    exact h _ _ ⟨s.s0, s.s1, s.d.inn⟩ Kp.inn⟩
end
end K5
/-! Any2: _law_any: any whole number below the bound. -/
namespace K5
open PySem PySem.Spec PyProof.Rows L2
/-- a deal as it stands between two draws -/
def Deal (A i : Addr) (H : Hp) : Prop := ∃ xs b, DL A i xs b H ∧ xs.length ≤ 48 ∧ 0 ≤ b ∧ b < 2147483647
def spAny : Sp := fun vs H Q _ => ∃ A i n, vs = [.ref A, .int n] ∧ 0 < n ∧ n < 1073741824 ∧ Deal A i H ∧ ∀ r H', 0 ≤ r → r < n → Deal A i H' → Kp A i H H' → Q (.int r) H'
/-- what is asked behind the loop -/
def tAnyT : TS := fun D σ H => ∃ A i n xs b, SL A i n xs b σ H ∧ σ.length = 3 ∧ 0 < n ∧ n < 1073741824 ∧ xs.length ≤ 48 ∧ (0 ≤ b ∧ b < 2147483647) ∧ ∀ r H', 0 ≤ r → r < n → Deal A i H' → Kp A i H H' → D.rt (.int r) H'
section
variable {P : Program} {w : World} {K : PySem.W.Frag} {mg : Str → Option Value} {base : Heap}
theorem c_law_any (T : Txt K mg) : Cal P w K mg base 1 "_law_any" ["_law_deal", "_law_bound"] spAny := by
  refine Cal.of T.g_law_any T.d_law_any (fun _ _ _ _ _ _ us hl => match us, hl with | [_, _], _ => rfl) fun f fd F => ?_
  refine F.ok sc_law_any (by rintro vs H Q E ⟨A, i, n, rfl, _⟩; rfl) fun cdv A0 outer s H vs Q E hr ⟨A, i, n, e, n0, n1, ⟨xs, b, d, xl, b0, b1⟩, q⟩ => ?_
  subst e
  have nd := sc_law_any.nd
  refine ⟨_, (PSs.nox (pss_cons (ps_while PassesOwn.never (pw_and (pt_dne (u64 hr)) (pw_and1 pt_dz)).pt (pss_one (ps_expr pe_dpop)))
    (pss_imp (u := tAnyT) (pss_cons (ps_if (pt_dne (u64 hr)) (pss_cons (ps_set (i := 2) nd rfl (.inl rfl) (pe_callTy call_int1 rfl T.n_int PyProof.Rows.boot_int (pa_cons pe_dpop pa_nil) (by decide) (by decide)))
        (pss_cons (ps_expr (pe_bm PySem.F.plainAttrs_list PySem.F.slot_list_append PySem.F.type_list_append mt_append pe_d0 (pa_cons (pe_op op_fdiv (pe_var (i := 2) rfl (.inl rfl)) (pe_var (i := 1) rfl (.inl rfl))) pa_nil)))
          (pss_one (ps_ret (pe_op op_mod (pe_var (i := 2) rfl (.inl rfl)) (pe_var (i := 1) rfl (.inl rfl))))))) pss_nil)
      (pss_cons (ps_asg (pe_op op_mod (pe_callTy call_int1 rfl T.n_int PyProof.Rows.boot_int (pa_cons (pe_op op_add (pe_op op_mul pe_d1 pe_int) pe_int) pa_nil) (by decide) (by decide)) pe_int) (pg_sub (pe_var (i := 0) rfl (.inl rfl)) pe_int set_list))
        (pss_one (ps_ret (pe_op op_mod (pe_callTy call_int1 rfl T.n_int PyProof.Rows.boot_int (pa_cons (pe_op op_fdiv pe_d1 pe_int) pa_nil) (by decide) (by decide)) (pe_var (i := 1) rfl (.inl rfl))))))) ?_))), ?_⟩
  · rintro D σ H ⟨A, i, n, xs, b, s, sl, n0, n1, xl, ⟨b0, b1⟩, q⟩
    refine ⟨A, i, n, xs, b, s, fun H2 s2 k2 => ?_⟩
    cases xs with
    | nil =>
      show (if (false = true) then _ else _)
      rw [if_neg (by decide)]
      refine ⟨A, i, n, [], b, s2, ?_⟩
      refine ⟨b, 48271, rfl, rfl, .inr ⟨by omega, by omega⟩, ?_⟩
      refine ⟨_, _, rfl, rfl, ?_⟩
      refine .inl ⟨_, rfl, ?_⟩
      refine ⟨_, 2147483647, rfl, rfl, by omega, ?_⟩
      refine ⟨_, s2.s0, A, _, 1, 1, rfl, rfl, s2.d.ha, rfl, ?_⟩
      let c := (b * 48271 + 97) % 2147483647
      have s3 : SL A i n [] c σ (upd H2 A (.lst [.ref i, .int c])) := ⟨s2.s0, s2.s1, s2.d.out⟩
      have c0 : 0 ≤ c := Int.emod_nonneg _ (by decide)
      have c1 : c < 2147483647 := Int.emod_lt_of_pos _ (by decide)
      refine ⟨A, i, n, [], c, s3, ?_⟩
      refine ⟨c, 64, rfl, rfl, ⟨by decide, by decide⟩, ?_⟩
      refine .inl ⟨_, rfl, ?_⟩
      refine ⟨_, s3.s1, _, n, rfl, rfl, n0, ?_⟩
      exact q _ _ (Int.emod_nonneg _ (by omega)) (Int.emod_lt_of_pos _ n0) ⟨[], c, s3.d, xl, c0, c1⟩ (k2.trans Kp.out)
    | cons x xs =>
      show (if (true = true) then _ else _)
      rw [if_pos rfl]
      refine ⟨A, i, n, x :: xs, b, s2, by simp, fun y H3 s3 k3 => ?_⟩
      refine .inl ⟨y, rfl, ?_⟩
      have l2 : 2 < σ.length := by omega
      let σ2 := σ.set 2 (some (.int y))
      have t0 : σ2[0]? = some (some (.ref A)) := by rw [List.getElem?_set_ne (by decide)]; exact s3.s0
      have t1 : σ2[1]? = some (some (.int n)) := by rw [List.getElem?_set_ne (by decide)]; exact s3.s1
      have t2 : σ2[2]? = some (some (.int y)) := List.getElem?_set_self l2
      refine ⟨A, i, n, _, b, ⟨t0, t1, s3.d⟩, .inl ⟨rfl, _, SqL.of s3.d.hi⟩, ?_⟩
      refine ⟨_, t2, _, t1, y, n, rfl, rfl, ⟨n0, n1⟩, ?_⟩
      refine ⟨i, _, _, rfl, rfl, s3.d.hi, ?_, ?_⟩
      · rw [List.length_map, List.length_dropLast, sizeLine_eq]
        omega
      refine ⟨_, t2, _, t1, y, n, rfl, rfl, n0, ?_⟩
      refine q _ _ (Int.emod_nonneg _ (by omega)) (Int.emod_lt_of_pos _ n0) ⟨(x :: xs).dropLast ++ [y / n], b, ?_, ?_, b0, b1⟩ ((k2.trans k3).trans Kp.inn)
      · have := s3.d.inn (ys := (x :: xs).dropLast ++ [y / n])
        rw [List.map_append] at this
        exact this
      · rw [List.length_append, List.length_dropLast]
        exact xl
  · refine ⟨fun m σ1 H1 => ∃ xs, SL A i n xs b σ1 H1 ∧ σ1.length = 3 ∧ Kp A i H H1 ∧ xs.length = m ∧ xs.length ≤ 48, ⟨xs.length, xs, ⟨rfl, rfl, d⟩, rfl, Kp.refl, rfl, xl⟩, ?_⟩
    rintro m σ1 H1 ⟨ys, s, sl, kp, rfl, yl⟩
    refine ⟨A, i, n, ys, b, s, fun H2 s2 k2 => ?_⟩
    have next : ∀ H3, SL A i n ys b σ1 H3 → Kp A i H H3 → ∃ A i n xs b, SL A i n xs b σ1 H3 ∧ σ1.length = 3 ∧ 0 < n ∧ n < 1073741824 ∧ xs.length ≤ 48 ∧ (0 ≤ b ∧ b < 2147483647) ∧ ∀ r H', 0 ≤ r → r < n → Deal A i H' → Kp A i H3 H' → Q (.int r) H' := fun H3 s3 k3 =>
      ⟨A, i, n, ys, b, s3, sl, n0, n1, yl, ⟨b0, b1⟩, fun r H' r0 r1 dl k4 => q r H' r0 r1 dl (k3.trans k4)⟩
    cases ys with
    | nil =>
      show (if (false = true) then _ else _)
      rw [if_neg (by decide)]
      exact next H2 s2 (kp.trans k2)
    | cons y ys =>
      show (if (true = true) then _ else _)
      rw [if_pos rfl]
      refine ⟨A, i, n, _, b, s2, by simp, fun c => ?_⟩
      cases c with
      | false => exact next H2 s2 (kp.trans k2)
      | true =>
        show (if (true = true) then _ else _)
        rw [if_pos rfl]
        refine ⟨_, fun σ' H' h => h, ?_⟩
        refine ⟨A, i, n, _, b, s2, by simp, fun z H3 s3 k3 => ⟨ys.length, by simp, _, s3, sl, (kp.trans k2).trans k3, by simp, ?_⟩⟩
        rw [List.length_dropLast]
        simp at yl ⊢
        omega
end
end K5
/-! Any3: _law_of: any one of a list. -/
namespace K5
open PySem PySem.Spec PyProof.Rows L2
def spOf (K : PySem.W.Frag) : Sp := fun vs H Q _ => ∃ A i v M ds, vs = [.ref A, v] ∧ Same M H ∧ M A = none ∧ M i = none ∧ RepI K M v (Li ds) ∧ 0 < ds.length ∧ ds.length < 1000 ∧ Deal A i H ∧ ∀ x u H', x ∈ ds → Deal A i H' → Kp A i H H' → RepI K M u (.dat x) → Q u H'
abbrev nOF : List Str := ["_law_deal", "_law_some"]
theorem sc_law_of : FnScope nOF ["_law_deal", "_law_some"] (defScope s_law_of) := ⟨rfl, rfl, rfl, by decide +kernel, rfl, by decide +kernel, by decide +kernel⟩
section
variable {P : Program} {w : World} {K : PySem.W.Frag} {mg : Str → Option Value} {base : Heap}
/-- a call by its def's worth -/
theorem pe_cal {X : Cx} {k : Nat} {x : Str} {ps : List Str} {sp : Sp} {e : Expr} {es : List Expr} {p pos : Pos} {ta : TA} (C : Cal X.prog X.w X.K X.mg X.base k x ps sp) (hr : Room k X.A) (ha : PA X (e :: es) ta) (hg : Gl X x := by rfl)
    (hdb : (x == ("__debug__" : Str)) = false := by decide) (he : starEach (e :: es) X.env = (false, eval e X.env) :: starEach es X.env := by rfl) (hpl : (backTo pos (starEach es X.env)).any (·.1) = false := by rfl) : PE X (.Call (.Name x p) (e :: es) [] pos) (fun σ H Q => ta σ H fun vs H1 => sp (vs ++ []) H1 Q E0) := by
  obtain ⟨f, fd, hm, hk, hb, F⟩ := C
  exact pe_call F hr hg hm hk hb .nil pass0 ha hdb he hpl
theorem c_law_of (T : Txt K mg) : Cal P w K mg base 2 "_law_of" ["_law_deal", "_law_some"] (spOf K) := by
  refine Cal.of T.g_law_of T.d_law_of (fun _ _ _ _ _ _ us hl => match us, hl with | [_, _], _ => rfl) fun f fd F => ?_
  refine F.ok sc_law_of (by rintro vs H Q E ⟨A, i, v, M, ds, rfl, _⟩; rfl) fun cdv A0 outer s H vs Q E hr ⟨A, i, v, M, ds, e, sm, mA, mi, rv, d0, d1, dl, q⟩ => ?_
  subst e
  have nd := sc_law_of.nd
  refine ⟨_, (PSs.nox (pss_one (ps_ret (pe_ix ix_list (pe_var (i := 1) rfl (.inl rfl)) (pe_cal (c_law_any T) (hr.mono (by decide)) (pa_cons (pe_var (i := 0) rfl (.inl rfl)) (pa_cons (pe_callB call_len_seq rfl T.n_len PySem.boot_len (pa_cons (pe_var (i := 1) rfl (.inl rfl)) pa_nil)) pa_nil))) (fun _ _ => rfl))))), ?_⟩
  obtain ⟨a, vs, rfl, ha, hd⟩ := rI_lstH rv
  have hl := dps_len hd
  refine ⟨.ref a, rfl, .ref A, rfl, .ref a, rfl, a, vs, rfl, .inl (.of (sm _ _ ha)), ?_⟩
  rw [hl]
  refine ⟨A, i, (ds.length : Nat), rfl, by omega, by omega, dl, fun r H' r0 r1 dl2 kp => ?_⟩
  have aA : a ≠ A := fun z => by rw [z, mA] at ha; cases ha
  have ai : a ≠ i := fun z => by rw [z, mi] at ha; cases ha
  have hlt : r.toNat < ds.length := by omega
  obtain ⟨u, hu, ru⟩ := dps_at' hd (List.getElem?_eq_getElem hlt)
  refine ⟨a, vs, r, u, rfl, rfl, .of (kp a _ aA ai (sm _ _ ha)), ?_, q _ u H' (List.getElem_mem hlt) dl2 kp ru⟩
  show (ixN vs.length r).bind _ = _
  have e : ixN vs.length r = some r.toNat := by
    unfold ixN
    rw [if_pos r0, if_pos (by omega)]
  rw [e]
  exact hu
end
end K5
/-! Any4: _law_dealt: a deal. -/
namespace K5
open PySem PySem.Spec PyProof.Rows L2
theorem cut_takeA {vs : List V} {n : Nat} : cutV vs none (some (n : Nat)) = vs.take n := by
  by_cases h : n ≤ vs.length
  · exact cut_take h
  · unfold cutV
    rw [HT.sIx_none, HT.sIx_nat, List.drop_zero, List.take_of_length_le (by omega), List.take_of_length_le (by omega)]
/-- what stays of a deal-maker's frame -/
def tAL (K : PySem.W.Frag) (B : Bs) (ρ : DEnv) (post : VK → Prop) : TS := fun D σ H => (∃ M, Ok K B M H σ ρ) ∧ post D.rt
section
variable {X : Cx} {B : Bs} {ρ : DEnv} {pos p q p0 p1 p2 p3 : Pos} {e a b : Expr} {st : Stmt} {sts : List Stmt} {post : VK → Prop}
theorem al_nx {ρ' : DEnv} (h1 : X1 X B ρ st fun r => r = .nx ρ') (h2 : PSs X sts (tAL X.K B ρ' post)) : PSs X (st :: sts) (tAL X.K B ρ post) :=
  pss_imp (pss_cons h1 h2) fun D σ H ⟨⟨M, k⟩, q⟩ => ⟨M, k, fun r hr => by
    subst hr
    exact fun σ' M' H' s2 k2 => ⟨⟨M', k2⟩, q⟩⟩
theorem al_ex {W : DEnv → Prop} (h1 : X1 X B ρ st fun r => ∃ ρ', r = .nx ρ' ∧ W ρ') (h2 : ∀ ρ', W ρ' → PSs X sts (tAL X.K B ρ' post)) : PSs X (st :: sts) (tAL X.K B ρ post) := by
  have hs : PSs X sts (fun D σ H => ∃ a : { ρ' // W ρ' }, tAL X.K B a.1 post D σ H) := pss_any fun a => h2 a.1 a.2
  refine pss_imp (pss_cons h1 hs) fun D σ H ⟨⟨M, k⟩, q⟩ => ⟨M, k, fun r hr => ?_⟩
  obtain ⟨ρ', rfl, w⟩ := hr
  exact fun σ' M' H' s2 k2 => ⟨⟨ρ', w⟩, ⟨M', k2⟩, q⟩
theorem ee_abs {x : Int} (ha : EE X B ρ a (I x)) (hm : X.mg "abs" = none) (hg : Gl X "abs" := by rfl) (hs : starEach [a] X.env = (false, eval a X.env) :: starEach [] X.env := by rfl) : EE X B ρ (.Call (.Name "abs" p) [a] [] pos) (I (if x < 0 then -x else x)) :=
  en_cb call_abs (ea_cons ha ea_nil hs) hm (by decide +kernel) hg (fun vs σ M H Q k r q => by
    cases r with
    | cons r1 r2 =>
      cases r2
      exact ⟨x, by rw [rI_int r1], q _ _ M H rfl k.refl (.int _)⟩) (by decide) (by decide) hs
theorem ee_pow {i j : Int} (ha : EE X B ρ a (I i)) (hb : EE X B ρ b (I j)) (h : CPow i j) : EE X B ρ (.BinOp a .Pow b pos) (I (i ^ j.toNat)) :=
  ee_op op_pow ha hb fun v u σ M H Q k r1 r2 q => ⟨i, j, rI_int r1, rI_int r2, h, q _ M H k.refl (.int _)⟩
theorem ee_takeR {i : Nat} {x : Str} {ad : Addr} {ns : List Int} {n : Nat} {j : Nat} (h : ρ[i]? = some (some (.raw (.ref ad)))) (hq : SqL X.K B.M ad (ns.map V.int)) (hN : X.N[i]? = some x := by rfl) (hv : Vis X.env.scope x := by first | exact Or.inl rfl | exact Or.inr (Or.inl rfl) | exact Or.inr (Or.inr rfl))
    (hd : (x == ("__debug__" : Str)) = false := by decide) (hcd : (x == ("__classdict__" : Str)) = false := by decide) : EE X B ρ (.Subscript (.Name x p) (.Slice none (some (.Constant (.int (n : Nat)) j p0)) none p2) pos) (Li ((ns.take n).map .int)) :=
  pe_imp (pe_slice sl_list (pe_var hN hv hd hcd) po_none (po_some pe_int)) fun σ H Q ⟨M, k, q⟩ => by
    obtain ⟨v, h1, r1⟩ := k.at_ i _ h
    cases (show v = _ from r1)
    refine ⟨_, h1, (n : Nat), rfl, ad, _, rfl, k.mh.seq (k.mm.seq hq), fun c nc => ?_⟩
    rw [cut_takeA, ← List.map_take]
    have g3 := k.new (o := .lst ((ns.take n).map .int)) nc
    exact q _ _ _ _ rfl g3 (.lst upd_same (dqs_int _))
theorem ee_varR (i : Nat) {x : Str} {n : Int} (h : ρ[i]? = some (some (.raw (.int n))) := by rfl) (hN : X.N[i]? = some x := by rfl) (hv : Vis X.env.scope x := by first | exact Or.inl rfl | exact Or.inr (Or.inl rfl) | exact Or.inr (Or.inr rfl))
    (hd : (x == ("__debug__" : Str)) = false := by decide) (hcd : (x == ("__classdict__" : Str)) = false := by decide) : EE X B ρ (.Name x pos) (I n) :=
  pe_imp (pe_var hN hv hd hcd) fun σ H Q ⟨M, k, q⟩ => by
    obtain ⟨v, e1, r⟩ := k.at_ i _ h
    cases (show v = _ from r)
    exact ⟨_, e1, q (I n) _ M H rfl k.refl (.int n)⟩
end
section
variable {X : Cx} {B : Bs} {ρ : DEnv} {pos spos py : Pos} {elt iter : Expr} {scope : Scope} {α : Type} {sts : List Stmt} {post : VK → Prop}
theorem x1_tL {t : TE} {st : Stmt} {l : Nat} {ds : List PyData} (h : PS X st (tAsg t (gName l))) (hr : ∀ σ H Q, tEN X.K B ρ (fun y => y = Li ds) σ H Q → t σ H Q) : X1 X B ρ st fun r => r = .nx (ρ.set l (some (.im (Li ds)))) :=
  ps_imp h fun D σ H ⟨M, k, q⟩ => hr σ H _ ⟨M, k, fun x v M1 H1 e1 g1 r1 => by
    subst e1
    exact q _ rfl _ M1 H1 g1.mm ((k.gr g1).put r1)⟩
theorem al_lc0 (l : Nat) {i : Nat} {z x : Str} {px : Pos} {xs : List α} {enc : α → PyData} {f : α → PyData} (hc : X.calm = true) (hN : X.N.Nodup) (hi : EI X B ρ (.Name x px) iter (xs.map enc)) (ok : blkC X.N X.env.scope scope [(x, i)] = true)
    (he : ∀ s H C cl fp, ∀ a ∈ xs, EE (Blk X s H scope C cl fp) B ((wp ρ [i]).set i (some (.im (.dat (enc a))))) elt (.dat (f a))) (hl : xs.length ≤ sizeLine) (hn : PSs X sts (tAL X.K B (ρ.set l (some (.im (Li (xs.map f))))) post))
    (hx : X.N[i]? = some x := by rfl) (hz : X.N[l]? = some z := by rfl) (hzl : X.env.scope.names.lookup z = some .local := by rfl) (hsw : swapsWith (.ListComp elt [⟨.Name x px, iter, [], 0⟩] scope pos) (some (.Name z py)) spos.line X.env = pure true := by exact sw_true rfl rfl rfl rfl)
    (hg : ∀ s H C cl fp, EG (Blk X s H scope C cl fp) (.Name x px) (g1 i) [i] := by exact fun _ _ _ _ _ => eg_1 (by assumption)) (hs : ∀ x, foldedSetIterable iter X.env x = pure x := by intro _; rfl) : PSs X (.Assign [.Name z py] (.ListComp elt [⟨.Name x px, iter, [], 0⟩] scope pos) spos :: sts) (tAL X.K B ρ post) :=
  al_nx (x1_tL (l := l) (ps_setLc hc hN hz hzl hsw hi (blkOk_by ok) (fun s H C cl fp => (hg s H C cl fp).pg) (fun s H C cl fp => pts_any fun a : { a // a ∈ xs } => ets_nil) (fun s H C cl fp => pe_any fun a : { a // a ∈ xs ∧ (fun _ => true) a = true } => he s H C cl fp a.1 a.2.1) hs)
    (fun σ H Q q => lc_read (p := fun _ => true) (r := fun a => (wp ρ [i]).set i (some (.im (.dat (enc a))))) (gT := g1 i) (ts := [i]) (vs := [i]) (fun _ _ => rfl) (fun σ σ' h => h.trans (set_none_set ..)) hl σ H Q (by rw [filter_yes]; exact q))) hn
end
/-- the slots as a def finds them, told as they stand -/
def stR (N : List Str) (vs : List V) : DEnv := vs.map (fun v => some (.raw v)) ++ List.replicate (N.length - vs.length) none
theorem stR_get {N : List Str} {vs : List V} : ∀ {i : Nat} {e : En}, (stR N vs)[i]? = some (some e) → ∃ v, e = .raw v ∧ vs[i]? = some v := by
  intro i e h
  unfold stR at h
  by_cases hi : i < vs.length
  · rw [List.getElem?_append_left (by simpa using hi), List.getElem?_map, List.getElem?_eq_getElem hi] at h
    have e1 : En.raw vs[i] = e := by simpa using h
    exact ⟨vs[i], e1.symm, List.getElem?_eq_getElem hi⟩
  · rw [List.getElem?_append_right (by simpa using hi)] at h
    obtain ⟨_, h2⟩ := List.getElem?_eq_some_iff.mp h
    rw [List.getElem_replicate] at h2
    cases h2
theorem ok_startR {N : List Str} {K : PySem.W.Frag} {M H : Hp} {vs : List V} (s : Same M H) (hl : vs.length ≤ N.length) : Ok K (bs0 H M) M H (L2.start N vs) (stR N vs) where
  mm := Same.refl M
  mh := s
  fh := fun _ _ _ h => h
  ft := fun _ o h => ⟨o, h, id⟩
  fm := fun _ _ _ _ n => n
  at_ := fun i e h => by
    obtain ⟨v, rfl, h2⟩ := stR_get h
    refine ⟨v, ?_, rfl⟩
    obtain ⟨hi, _⟩ := List.getElem?_eq_some_iff.mp h2
    unfold L2.start
    rw [List.getElem?_append_left (by simpa using hi), List.getElem?_map, h2]
    rfl
  fresh := fun i e a h o _ => by
    obtain ⟨v, rfl, _⟩ := stR_get h
    cases o
  sep := fun i j e e' _ h _ o _ => by
    obtain ⟨v, rfl, _⟩ := stR_get h
    cases o
  stay := fun i e h => by
    obtain ⟨v, rfl, _⟩ := stR_get h
    exact ⟨trivial, trivial⟩
  wm := fun _ w => w.elim
  vol := trivial
  len := by
    unfold stR L2.start
    simp
def spDealt (K : PySem.W.Frag) : Sp := fun vs H Q _ => ∃ (a : Addr) (ns : List Int), vs = [.ref a, .int 53] ∧ SqL K H a (ns.map V.int) ∧ ∀ A i H', Same H H' → H A = none → H i = none → Deal A i H' → Q (.ref A) H'
abbrev nDE : List Str := ["_law_script", "_law_base", "_law_cell", "_law_cells", "_law_blend"]
theorem sc_law_dealt : FnScope nDE ["_law_script", "_law_base"] (defScope s_law_dealt) := ⟨rfl, rfl, rfl, by decide +kernel, rfl, by decide +kernel, by decide +kernel⟩
section
variable {P : Program} {w : World} {K : PySem.W.Frag} {mg : Str → Option Value} {base : Heap}
theorem c_law_dealt (T : Txt K mg) : Cal P w K mg base 1 "_law_dealt" ["_law_script", "_law_base"] (spDealt K) := by
  refine Cal.of T.g_law_dealt T.d_law_dealt (fun _ _ _ _ _ _ us hl => match us, hl with | [_, _], _ => rfl) fun f fd F => ?_
  refine F.ok sc_law_dealt (by rintro vs H Q E ⟨a, ns, rfl, _⟩; rfl) fun cdv A0 outer s H vs Q E hr ⟨a, ns, e, sq, q⟩ => ?_
  subst e
  have nd := sc_law_dealt.nd
  let post : VK → Prop := fun rt => ∀ A i H', Same H H' → H A = none → H i = none → Deal A i H' → rt (.ref A) H'
  let cs := (ns.take 48).map fun x => if x < 0 then -x else x
  have cl : cs.length ≤ 48 := by
    show ((ns.take 48).map _).length ≤ 48
    rw [List.length_map, List.length_take]
    omega
  let J : Int → DEnv := fun b => [some (.raw (.ref a)), some (.raw (.int 53)), none, some (.im (Li (cs.map .int))), some (.im (I b))]
  let X : Cx := (cxOf CX0 P w K mg base nDE "_law_dealt" (defScope s_law_dealt) f cdv A0 outer s H E).nox
  have body : PSs X (defBody s_law_dealt) (tAL K (bs0 H H) (stR nDE [.ref a, .int 53]) post) := by
    refine al_lc0 3 (i := 2) (xs := ns.take 48) (enc := .int) (f := fun x => .int (if x < 0 then -x else x)) rfl nd (ei_lst (ee_takeR (i := 0) (n := 48) rfl sq)) rfl (fun s H C cl fp x hx => ee_abs (ee_intI (ee_var 2) T.n_int) T.n_abs) (sl_of (by rw [List.length_take]; omega)) ?_
    have e3 : (ns.take 48).map (fun x => PyData.int (if x < 0 then -x else x)) = cs.map PyData.int := by
      show _ = ((ns.take 48).map _).map _
      rw [List.map_map]
      rfl
    rw [e3]
    refine al_nx (ρ' := J 35750352) (x1_set (i := 4) nd (ee_is (ee_add ee_int (ee_mul ee_int (ee_varR 1) (.inl ⟨by decide, by decide⟩))) rfl)) ?_
    refine al_ex (W := fun ρ' => ∃ b, ρ' = J b ∧ 0 ≤ b ∧ b < 2147483647) (x1_for (fun i ρ => ∃ b, ρ = J b ∧ 0 ≤ b ∧ b < 2147483647) PassesOwn.never rfl (ei_lst (ee_var 3)) (eg_1 (i := 2) nd) ⟨_, rfl, by decide, by decide⟩ ?_ ?_) ?_
    · rintro i d ρ1 hi ⟨b, rfl, b0, b1⟩
      rw [List.getElem?_map] at hi
      obtain ⟨x, hx, rfl⟩ := Option.map_eq_some_iff.mp hi
      refine ⟨_, rfl, xx_set 4 nd (ee_mod (ee_intI (ee_add (ee_add (ee_mul (ee_var 4) ee_int (.inr ⟨by decide, by decide⟩)) (ee_mod (ee_var 2) ee_int (by decide))) ee_int) T.n_int) ee_int (by decide)) (xx_nil ⟨J _, ⟨rfl, rfl, rfl, rfl, trivial⟩, _, rfl, Int.emod_nonneg _ (by decide), Int.emod_lt_of_pos _ (by decide)⟩)⟩
    · rintro ρ1 ⟨b, rfl, b0, b1⟩
      exact ⟨_, rfl, b, rfl, b0, b1⟩
    rintro ρ' ⟨b, rfl, b0, b1⟩
    let big : Int → Bool := fun x => decide (10 ^ 18 ≤ x)
    refine pss_imp (pss_one (ps_ret (pe_lst (pa_cons (pe_revL (ee_lc1 (B := bs0 H H) (ρ := J b) (i := 2) (xs := cs) (enc := .int) (p := big) (f := .int) rfl nd (ei_lst (ee_var 3)) rfl (fun s H C cl fp x hx => ets_one (et_is (ec_et (ec_ge (ee_var 2) (ee_pow ee_int ee_int ⟨by decide, by decide, by decide⟩))) rfl)) (fun s H C cl fp x hx _ => ee_var 2) (sl_of (by omega)))) (pa_cons (ee_var (B := bs0 H H) (ρ := J b) 4) pa_nil))))) fun D σ H1 ⟨⟨M, k⟩, q⟩ => ?_
    refine ⟨M, k, fun y v M2 H2 ey g r => ?_⟩
    subst ey
    obtain ⟨c, vs, rfl, hc, hd⟩ := rI_lstH r
    have k2 := k.gr g
    have hvs := dqs_ints' hd
    subst hvs
    refine ⟨c, _, rfl, .of (k2.mh _ _ hc), fun z nz => ?_⟩
    rw [← List.map_reverse]
    let ys := (cs.filter big).reverse
    have g3 := k2.refl.side (o := .lst (ys.map V.int)) nz (k2.clr nz) (k2.off nz)
    have k3 := k2.gr g3
    refine ⟨M2, k3, fun y v M4 H4 ey g4 r4 => ?_⟩
    subst ey
    cases rI_int r4
    have k4 := k3.gr g4
    refine ⟨sl_le rfl, fun t nt => ?_⟩
    have hz4 : H4 z = some (.lst (ys.map V.int)) := g4.hh z _ (k2.off nz) upd_same
    have tz : t ≠ z := fun e => by rw [e, hz4] at nt; cases nt
    have yl : ys.length ≤ 48 := by
      show (cs.filter big).reverse.length ≤ 48
      rw [List.length_reverse]
      exact Nat.le_trans (List.length_filter_le _ _) cl
    refine q t z _ (fun u o e => ?_) (k4.fF nt) (k2.fF nz) ⟨ys, b, ⟨tz, upd_same, by rw [upd_ne (Ne.symm tz)]; exact hz4⟩, yl, b0, b1⟩
    have e4 := k4.fh u o (fun z => z) e
    rw [upd_ne (ne_of_none e4 nt)]
    exact e4
  exact ⟨_, body.nox, ⟨⟨H, ok_startR (Same.refl H) (by show 2 ≤ 5; decide)⟩, q⟩⟩
end
end K5
/-! Any5: a frame that holds a deal; what it draws is any value in its bounds. -/
namespace K5
open PySem PySem.Spec PyProof.Rows L2
theorem Deal.kp {A i : Addr} {H H' : Hp} (h : Deal A i H) (k : ∀ a o, (a = A ∨ a = i) → H a = some o → H' a = some o) : Deal A i H' := by
  obtain ⟨xs, b, d, r⟩ := h
  exact ⟨xs, b, ⟨d.ne, k _ _ (.inl rfl) d.ha, k _ _ (.inr rfl) d.hi⟩, r⟩
theorem Deal.get {A i : Addr} {H : Hp} (h : Deal A i H) {a : Addr} (e : a = A ∨ a = i) : ∃ l, H a = some (.lst l) := by
  obtain ⟨xs, b, d, r⟩ := h
  rcases e with e | e
  · exact ⟨_, by rw [e]; exact d.ha⟩
  · exact ⟨_, by rw [e]; exact d.hi⟩
def Bd (F M0 : Hp) (A i : Addr) : Bs := ⟨F, M0, fun z => z = A ∨ z = i, fun H => Deal A i H, fun H H' k h => h.kp fun a o e => k a o e⟩
section
variable {K : PySem.W.Frag} {F M0 M H H' : Hp} {σ : L2.St} {ρ : DEnv} {A i : Addr}
theorem Ok.unD (k : Ok K (Bd F M0 A i) M H σ ρ) (hA : F A = none) (hi : F i = none) : Ok K (bs0 F M0) M H σ ρ :=
  ⟨k.mm, k.mh, fun a o _ e => k.fh a o (fun w => by
    rcases w with w | w
    · rw [w] at e; rw [show F A = some o from e] at hA; cases hA
    · rw [w] at e; rw [show F i = some o from e] at hi; cases hi) e, k.ft, k.fm, k.at_, fun l e a h1 h2 h3 => ⟨(k.fresh l e a h1 h2 h3).1, fun z => z⟩, k.sep, k.stay, fun _ z => z.elim, trivial, k.len⟩
theorem Ok.toD (k : Ok K (bs0 F M0) M H σ ρ) (s : Same H H') (hA : H A = none) (hi : H i = none) (d : Deal A i H') : Ok K (Bd F M0 A i) M H' σ ρ :=
  ⟨k.mm, k.mh.trans s, fun a o _ e => s _ _ (k.fh a o (fun z => z) e), fun a o e => by
    obtain ⟨o', h1, h2⟩ := k.ft a o e
    exact ⟨o', s _ _ h1, h2⟩, k.fm, fun l e h => by
    obtain ⟨v, h1, r1⟩ := k.at_ l e h
    obtain ⟨s1, w1⟩ := k.stay l e h
    exact ⟨v, h1, repE_up r1 s1 (Same.refl M) (fun a o _ _ h2 _ n => ⟨s _ _ h2, n⟩) w1⟩, fun l e a h1 h2 h3 => ⟨(k.fresh l e a h1 h2 h3).1, fun z => by
      obtain ⟨v, e1, r1⟩ := k.at_ l e h1
      obtain ⟨a', o, e2, _, h4, _⟩ := own_ref r1 (k.stay l e h1).2 h2
      rw [h3] at e1
      cases e1
      cases e2
      rcases z with z | z
      · rw [z, hA] at h4; cases h4
      · rw [z, hi] at h4; cases h4⟩, k.sep, k.stay, fun a z => by
      obtain ⟨l, hl⟩ := d.get z
      refine ⟨?_, _, hl, rfl⟩
      rcases z with z | z
      · rw [z]; exact k.clr hA
      · rw [z]; exact k.clr hi, d, k.len⟩
/-- a draw -/
theorem gr_draw (k : Ok K (Bd F M0 A i) M H σ ρ) (d : Deal A i H') (kp : Kp A i H H') : Gr (Bd F M0 A i) M H M H' where
  mm := Same.refl M
  hh := fun a o w h => kp a o (fun z => w (.inl z)) (fun z => w (.inr z)) h
  fr := fun _ _ _ _ n => n
  mh := fun a o h => kp a o (fun z => by have := (k.wm a (.inl z)).1; rw [this] at h; cases h) (fun z => by have := (k.wm a (.inr z)).1; rw [this] at h; cases h) (k.mh a o h)
  vol := d
  th := fun a o h => by
    by_cases w : a = A ∨ a = i
    · obtain ⟨l, hl⟩ := d.get w
      exact ⟨_, hl, fun _ => rfl⟩
    · exact ⟨o, kp a o (fun z => w (.inl z)) (fun z => w (.inr z)) h, id⟩
end
section
variable {X : Cx} {B : Bs} {ρ : DEnv} {F M0 : Hp} {A i : Addr} {pos p q p0 p1 p2 p3 : Pos} {e a b : Expr} {es : List Expr} {st : Stmt} {sts : List Stmt} {R : Res → Prop}
theorem xx_undeal (hA : F A = none) (hi : F i = none) (h : XX X (Bd F M0 A i) ρ sts R) : PSs X sts (fun D σ H => ∃ M, Ok X.K (Bd F M0 A i) M H σ ρ ∧ ∀ r, R r → Ps X.K (bs0 F M0) D M r) :=
  pss_imp h fun D σ H ⟨M, k, q⟩ => ⟨M, k, fun r hr => by
    have := q r hr
    cases r with
    | nx ρ' => exact fun σ' M' H' s2 k2 => this σ' M' H' s2 (k2.unD hA hi)
    | bk ρ' => exact fun σ' M' H' s2 k2 => this σ' M' H' s2 (k2.unD hA hi)
    | ct ρ' => exact fun σ' M' H' s2 k2 => this σ' M' H' s2 (k2.unD hA hi)
    | rt x => exact fun v M' H' s2 k2 r2 => this v M' H' s2 (k2.unD hA hi) r2⟩
theorem en_imp {P P' : Im → Prop} (h : EN X B ρ e P) (w : ∀ y, P y → P' y) : EN X B ρ e P' := pe_imp h fun σ H Q ⟨M, k, q⟩ => ⟨M, k, fun x v M' H' hx g r => q x v M' H' (w x hx) g r⟩
theorem en_ee {y : Im} {P : Im → Prop} (h : EE X B ρ e y) (w : P y) : EN X B ρ e P := en_imp h fun z ez => by rw [ez]; exact w
theorem en_any (T : Txt X.K X.mg) {l : Nat} {x : Str} {n : Int} (hr : Room 1 X.A) (h : ρ[l]? = some (some (.raw (.ref A)))) (hb : EE X (Bd F M0 A i) ρ b (I n)) (n0 : 0 < n) (n1 : n < 1073741824) (hN : X.N[l]? = some x := by rfl) (hv : Vis X.env.scope x := by first | exact Or.inl rfl | exact Or.inr (Or.inl rfl) | exact Or.inr (Or.inr rfl))
    (hg : Gl X "_law_any" := by rfl) (hd : (x == ("__debug__" : Str)) = false := by decide) (hcd : (x == ("__classdict__" : Str)) = false := by decide) (he : starEach [.Name x p, b] X.env = (false, eval (.Name x p) X.env) :: starEach [b] X.env := by rfl) (he2 : starEach [b] X.env = (false, eval b X.env) :: starEach [] X.env := by rfl) (hpl : (backTo pos (starEach [b] X.env)).any (·.1) = false := by rfl) :
    EN X (Bd F M0 A i) ρ (.Call (.Name "_law_any" p0) [.Name x p, b] [] pos) (fun y => ∃ r, y = I r ∧ 0 ≤ r ∧ r < n) :=
  pe_imp (pe_cal (c_law_any T) hr (pa_cons (pe_var hN hv hd hcd) (pa_cons hb pa_nil he2) he) hg (by decide) he hpl) fun σ H Q ⟨M, k, q⟩ => by
    obtain ⟨v, h1, r1⟩ := k.at_ l _ h
    cases (show v = _ from r1)
    refine ⟨_, h1, M, k, fun y v M1 H1 ey g r => ?_⟩
    subst ey
    cases rI_int r
    have k1 := k.gr g
    exact ⟨A, i, n, rfl, n0, n1, k1.vol, fun r H' r0 rn d kp => q (I r) _ M1 H' ⟨r, rfl, r0, rn⟩ (g.trans (gr_draw k1 d kp)) (.int r)⟩
theorem en_of (T : Txt X.K X.mg) {l : Nat} {x : Str} {PL P : Im → Prop} (hr : Room 2 X.A) (h : ρ[l]? = some (some (.raw (.ref A)))) (hb : EN X (Bd F M0 A i) ρ b PL) (hl : ∀ y, PL y → ∃ ds, y = Li ds ∧ 0 < ds.length ∧ ds.length < 1000 ∧ ∀ d ∈ ds, P (.dat d)) (hN : X.N[l]? = some x := by rfl) (hv : Vis X.env.scope x := by first | exact Or.inl rfl | exact Or.inr (Or.inl rfl) | exact Or.inr (Or.inr rfl))
    (hg : Gl X "_law_of" := by rfl) (hd : (x == ("__debug__" : Str)) = false := by decide) (hcd : (x == ("__classdict__" : Str)) = false := by decide) (he : starEach [.Name x p, b] X.env = (false, eval (.Name x p) X.env) :: starEach [b] X.env := by rfl) (he2 : starEach [b] X.env = (false, eval b X.env) :: starEach [] X.env := by rfl) (hpl : (backTo pos (starEach [b] X.env)).any (·.1) = false := by rfl) :
    EN X (Bd F M0 A i) ρ (.Call (.Name "_law_of" p0) [.Name x p, b] [] pos) P :=
  pe_imp (pe_cal (c_law_of T) hr (pa_cons (pe_var hN hv hd hcd) (pa_cons hb pa_nil he2) he) hg (by decide) he hpl) fun σ H Q ⟨M, k, q⟩ => by
    obtain ⟨v, h1, r1⟩ := k.at_ l _ h
    cases (show v = _ from r1)
    refine ⟨_, h1, M, k, fun y v M1 H1 ey g r => ?_⟩
    obtain ⟨ds, rfl, l0, l1, hP⟩ := hl y ey
    have k1 := k.gr g
    exact ⟨A, i, v, M1, ds, rfl, k1.mh, (k1.wm A (.inl rfl)).1, (k1.wm i (.inr rfl)).1, r, l0, l1, k1.vol, fun x u H' hx d kp ru => q (.dat x) u M1 H' (hP x hx) (g.trans (gr_draw k1 d kp)) ru⟩
/-! ### several, not told apart -/
def tAN (K : PySem.W.Frag) (B : Bs) (ρ : DEnv) (P : List PyData → Prop) : TA := fun σ H Q => ∃ M, Ok K B M H σ ρ ∧ ∀ ds vs M' H', P ds → Gr B M H M' H' → DqAll K M' vs ds → Q vs H'
theorem an_nil : PA X [] (tAN X.K B ρ fun l => l = []) := pa_imp pa_nil fun σ H Q ⟨M, k, q⟩ => q [] [] M H rfl k.refl .nil
theorem an_cons {P1 : PyData → Prop} {P2 : List PyData → Prop} (ha : EN X B ρ a fun y => ∃ d, y = .dat d ∧ P1 d) (hb : PA X es (tAN X.K B ρ P2)) (hs : starEach (a :: es) X.env = (false, eval a X.env) :: starEach es X.env := by rfl) : PA X (a :: es) (tAN X.K B ρ fun l => ∃ d ds, l = d :: ds ∧ P1 d ∧ P2 ds) :=
  pa_imp (pa_cons ha hb hs) fun σ H Q ⟨M, k, q⟩ => ⟨M, k, fun y v M1 H1 ⟨d, ey, hd⟩ g1 r1 => ⟨M1, k.gr g1, fun ds vs M2 H2 hds g2 r2 => by
    subst ey
    exact q (d :: ds) (v :: vs) M2 H2 ⟨d, ds, rfl, hd, hds⟩ (g1.trans g2) (.cons (dp_up g2.mm d v r1) r2)⟩⟩
theorem en_lst {P : List PyData → Prop} (h : PA X es (tAN X.K B ρ P)) (hl : ∀ l, P l → l.length ≤ sizeLine) : EN X B ρ (.List es pos) (fun y => ∃ l, y = Li l ∧ P l) :=
  pe_imp (pe_lst h) fun σ H Q ⟨M, k, q⟩ => ⟨M, k, fun ds vs M1 H1 hP g1 r1 => ⟨by rw [dps_len r1]; exact hl ds hP, fun p np => by
    have k1 := k.gr g1
    have g3 := k1.new (o := .lst vs) np
    exact q (Li ds) _ _ _ ⟨ds, rfl, hP⟩ (g1.trans g3) (.lst upd_same (dps_up g3.mm _ _ r1))⟩⟩
/-! ### statements -/
theorem xx_setN (l : Nat) {x : Str} {P : Im → Prop} {px : Pos} (hN : X.N.Nodup) (he : EN X B ρ e P) (h : ∀ y, P y → XX X B (ρ.set l (some (.im y))) sts R) (hi : X.N[l]? = some x := by rfl) (hx : Loc X.env.scope x := by first | exact .inl rfl | exact .inr rfl) (hs : swapsWith e (some (.Name x px)) pos.line X.env = pure false := by rfl)
    (hf : X.fn x = true ∨ X.env.scope.names.lookup x = some .local := by first | exact .inl rfl | exact .inr rfl) : XX X B ρ (.Assign [.Name x px] e pos :: sts) R :=
  xx_seq (R1 := fun r => ∃ y, P y ∧ r = .nx (ρ.set l (some (.im y)))) (ps_imp (ps_set hN hi hx he hs hf) fun D σ H ⟨M, k, q⟩ => ⟨M, k, fun z v M1 H1 e1 g1 r1 => q _ ⟨z, e1, rfl⟩ _ M1 H1 g1.mm ((k.gr g1).put r1)⟩)
    (fun ρ' ⟨y, hy, e⟩ => by cases e; exact h y hy) (fun _ ⟨_, _, e⟩ => nomatch e) (fun _ ⟨_, _, e⟩ => nomatch e) (fun _ ⟨_, _, e⟩ => nomatch e)
end
end K5
/-! Any6: statements with draws in them. -/
namespace K5
open PySem PySem.Spec PyProof.Rows L2
theorem Ok.rawP {K : PySem.W.Frag} {B' : Bs} {M H : Hp} {σ : L2.St} {ρ : DEnv} {l : Nat} {v : V} (k : Ok K B' M H σ ρ) : Ok K B' M H (σ.set l (some v)) (ρ.set l (some (.raw v))) := by
  refine ⟨k.mm, k.mh, k.fh, k.ft, k.fm, fun m e hm => ?_, fun m e z hm ho hz => ?_, fun m m2 e e2 nn hm hm2 o1 o2 => ?_, fun m e hm => ?_, k.wm, k.vol, by rw [List.length_set, List.length_set]; exact k.len⟩
  · rcases set_cases hm with ⟨rfl, e1, hv⟩ | ⟨nj, hm⟩
    · cases e1
      exact ⟨v, List.getElem?_set_self (by rw [← k.len]; exact hv), rfl⟩
    · rw [List.getElem?_set_ne nj]
      exact k.at_ m e hm
  · rcases set_cases hm with ⟨rfl, e1, hv⟩ | ⟨nj, hm⟩
    · cases e1
      cases ho
    · rw [List.getElem?_set_ne nj] at hz
      exact k.fresh m e z hm ho hz
  · rcases set_cases hm with ⟨rfl, e1, hv⟩ | ⟨nj, hm⟩
    · cases e1
      cases o1
    · rcases set_cases hm2 with ⟨rfl, e1, hv⟩ | ⟨nl, hm2⟩
      · cases e1
        cases o2
      · rw [List.getElem?_set_ne nj, List.getElem?_set_ne nl]
        exact k.sep m m2 e e2 nn hm hm2 o1 o2
  · rcases set_cases hm with ⟨rfl, e1, hv⟩ | ⟨nj, hm⟩
    · cases e1
      exact ⟨trivial, trivial⟩
    · exact k.stay m e hm
section
variable {X : Cx} {B : Bs} {ρ : DEnv} {F M0 : Hp} {A i : Addr} {pos p q p0 p1 p2 p3 : Pos} {e a b c elt iter tg : Expr} {es ifs : List Expr} {st : Stmt} {sts : List Stmt} {R : Res → Prop} {scope : Scope} {own : List (Str × Nat)} {α : Type}
theorem xx_dealt (T : Txt X.K X.mg) (l j : Nat) {x y : Str} {j0 : Nat} {px : Pos} {ad : Addr} {ns : List Int} (hN : X.N.Nodup) (hr : Room 1 X.A) (h : ρ[j]? = some (some (.raw (.ref ad)))) (sq : SqL X.K M0 ad (ns.map V.int)) (hn : ∀ A i, F A = none → F i = none → XX X (Bd F M0 A i) (ρ.set l (some (.raw (.ref A)))) sts R)
    (hl : X.N[l]? = some x := by rfl) (hx : Loc X.env.scope x := by first | exact .inl rfl | exact .inr rfl) (hj : X.N[j]? = some y := by rfl) (hv : Vis X.env.scope y := by first | exact Or.inl rfl | exact Or.inr (Or.inl rfl) | exact Or.inr (Or.inr rfl)) (hd : (y == ("__debug__" : Str)) = false := by decide) (hcd : (y == ("__classdict__" : Str)) = false := by decide)
    (hg : Gl X "_law_dealt" := by rfl) (he : starEach [.Name y p, .Constant (.int 53) j0 p1] X.env = (false, eval (.Name y p) X.env) :: starEach [.Constant (.int 53) j0 p1] X.env := by rfl) (he2 : starEach [.Constant (.int 53) j0 p1] X.env = (false, eval (.Constant (.int 53) j0 p1) X.env) :: starEach [] X.env := by rfl) (hpl : (backTo p2 (starEach [.Constant (.int 53) j0 p1] X.env)).any (·.1) = false := by rfl)
    (hs : swapsWith (.Call (.Name "_law_dealt" p0) [.Name y p, .Constant (.int 53) j0 p1] [] p2) (some (.Name x px)) pos.line X.env = pure false := by rfl) (hf : X.fn x = true ∨ X.env.scope.names.lookup x = some .local := by first | exact .inl rfl | exact .inr rfl) :
    XX X (bs0 F M0) ρ (.Assign [.Name x px] (.Call (.Name "_law_dealt" p0) [.Name y p, .Constant (.int 53) j0 p1] [] p2) pos :: sts) R := by
  have hrest : PSs X sts (fun D σ H => ∃ w : { w : Addr × Addr // F w.1 = none ∧ F w.2 = none }, ∃ M, Ok X.K (Bd F M0 w.1.1 w.1.2) M H σ (ρ.set l (some (.raw (.ref w.1.1)))) ∧ ∀ r, R r → Ps X.K (bs0 F M0) D M r) := pss_any fun w => xx_undeal w.2.1 w.2.2 (hn w.1.1 w.1.2 w.2.1 w.2.2)
  refine pss_imp (pss_cons (ps_set hN hl hx (pe_cal (c_law_dealt T) hr (pa_cons (pe_var hj hv hd hcd) (pa_cons pe_int pa_nil he2) he) hg (by decide) he hpl) hs hf) hrest) fun D σ H ⟨M, k, q⟩ => ?_
  obtain ⟨v, h1, r1⟩ := k.at_ j _ h
  cases (show v = _ from r1)
  refine ⟨_, h1, ad, ns, rfl, k.mh.seq (k.mm.seq sq), fun A i H' sm nA ni d => ?_⟩
  exact ⟨⟨(A, i), k.fF nA, k.fF ni⟩, M, (k.toD sm nA ni d).rawP, q⟩
/-- x, y = a list of two -/
theorem xx_lst2 (l m : Nat) {x y : Str} {P : Im → Prop} {px py pt : Pos} {kt : Nat} (hc : X.calm = true) (hN : X.N.Nodup) (he : EN X B ρ e P) (h : ∀ y, P y → ∃ d1 d2, y = Li [d1, d2] ∧ XX X B ((ρ.set l (some (.im (.dat d1)))).set m (some (.im (.dat d2)))) sts R) (hi : X.N[l]? = some x := by rfl) (hj : X.N[m]? = some y := by rfl)
    (hx : Loc X.env.scope x := by first | exact .inl rfl | exact .inr rfl) (hy : Loc X.env.scope y := by first | exact .inl rfl | exact .inr rfl) (hf : X.fn x = true ∨ X.env.scope.names.lookup x = some .local := by first | exact .inl rfl | exact .inr rfl) (hf2 : X.fn y = true ∨ X.env.scope.names.lookup y = some .local := by first | exact .inl rfl | exact .inr rfl)
    (hs : swapsWithSole [.Tuple [.Name x px, .Name y py] kt pt] e pos.line X.env = pure false := by rfl) (hw : swappedStores [.Tuple [.Name x px, .Name y py] kt pt] e X.env = pure none := by rfl)
    (h1 : (assignEach [.Tuple [.Name x px, .Name y py] kt pt] X.env).map (·.2) = [assign (.Tuple [.Name x px, .Name y py] kt pt) X.env] := by rfl) : XX X B ρ (.Assign [.Tuple [.Name x px, .Name y py] kt pt] e pos :: sts) R :=
  xx_seq (R1 := fun r => ∃ d1 d2, P (Li [d1, d2]) ∧ r = .nx ((ρ.set l (some (.im (.dat d1)))).set m (some (.im (.dat d2))))) (ps_imp (ps_asg he (pg_lst hc (pgs_cons (pg_name hN hi hx hf) (pgs_cons (pg_name hN hj hy hf2) pgs_nil))) hs hw h1) fun D σ H ⟨M, k, q⟩ => ⟨M, k, fun z v M1 H1 e1 g1 r1 => by
      obtain ⟨d1, d2, ez, _⟩ := h z e1
      subst ez
      obtain ⟨t, vs, rfl, h1, h2⟩ := rI_lstH r1
      have k1 := k.gr g1
      cases h2 with
      | @cons v1 _ _ _ q1 h2 =>
        cases h2 with
        | @cons v2 _ _ _ q2 h2 =>
          cases h2
          exact ⟨t, [v1, v2], rfl, .of (k1.mh _ _ h1), rfl, v1, [v2], rfl, v2, [], rfl, rfl, q _ ⟨d1, d2, e1, rfl⟩ _ M1 H1 g1.mm ((k1.put (x := .dat d1) q1).put (x := .dat d2) q2)⟩⟩)
    (fun ρ' ⟨d1, d2, hp, e⟩ => by
      cases e
      obtain ⟨e1, e2, ez, hx⟩ := h _ hp
      cases ez
      exact hx) (fun _ ⟨_, _, _, e⟩ => nomatch e) (fun _ ⟨_, _, _, e⟩ => nomatch e) (fun _ ⟨_, _, _, e⟩ => nomatch e)
/-- x, y = a, b -/
theorem xx_parN {l m : Nat} {x y : Str} {P1 P2 : Im → Prop} {px py pt : Pos} {kt k2 : Nat} {pt2 : Pos} (hc : X.calm = true) (hN : X.N.Nodup) (hij : l ≠ m) (ha : EN X B ρ a P1) (hb : EN X B ρ b P2) (h : ∀ u v, P1 u → P2 v → XX X B ((ρ.set l (some (.im u))).set m (some (.im v))) sts R) (hi : X.N[l]? = some x := by rfl) (hj : X.N[m]? = some y := by rfl)
    (hx : X.env.scope.names.lookup x = some .local := by rfl) (hy : X.env.scope.names.lookup y = some .local := by rfl) (h1 : starEach [a, b] X.env = (false, eval a X.env) :: starEach [b] X.env := by rfl) (h2 : starEach [b] X.env = (false, eval b X.env) :: starEach [] X.env := by rfl)
    (hw : swappedStores [.Tuple [.Name x px, .Name y py] kt pt] (.Tuple [a, b] k2 pt2) X.env = pure (some [x, y]) := by rfl)
    (hs : swapsWithSole [.Tuple [.Name x px, .Name y py] kt pt] (.Tuple [a, b] k2 pt2) pos.line X.env = pure false := by rfl) : XX X B ρ (.Assign [.Tuple [.Name x px, .Name y py] kt pt] (.Tuple [a, b] k2 pt2) pos :: sts) R :=
  xx_seq (R1 := fun r => ∃ u v, P1 u ∧ P2 v ∧ r = .nx ((ρ.set l (some (.im u))).set m (some (.im v)))) (ps_imp (ps_par hc hN hi hj hij hx hy (pa_cons ha (pa_cons hb pa_nil h2) h1) hw hs) fun D σ H ⟨M, k, q⟩ => ⟨M, k, fun u v1 M1 H1 e1 g1 r1 => ⟨M1, k.gr g1, fun w v2 M2 H2 e2 g2 r2 => ⟨v1, v2, rfl, q _ ⟨u, w, e1, e2, rfl⟩ _ M2 H2 (g1.mm.trans g2.mm) ((((k.gr g1).gr g2).put (repI_up g2.mm r1)).put r2)⟩⟩⟩)
    (fun ρ' ⟨u, v, h1, h2, e⟩ => by cases e; exact h u v h1 h2) (fun _ ⟨_, _, _, _, e⟩ => nomatch e) (fun _ ⟨_, _, _, _, e⟩ => nomatch e) (fun _ ⟨_, _, _, _, e⟩ => nomatch e)
/-- x, y = a, b by a tuple (a target is captured) -/
theorem xx_tupN {l m : Nat} {x y : Str} {P1 P2 : Im → Prop} {px py pt : Pos} {kt k2 : Nat} {pt2 : Pos} (hc : X.calm = true) (hN : X.N.Nodup) (ha : EN X B ρ a P1) (hb : EN X B ρ b P2) (h : ∀ u v, P1 u → P2 v → XX X B ((ρ.set l (some (.im u))).set m (some (.im v))) sts R) (hi : X.N[l]? = some x := by rfl) (hj : X.N[m]? = some y := by rfl)
    (hx : Loc X.env.scope x := by first | exact .inl rfl | exact .inr rfl) (hy : Loc X.env.scope y := by first | exact .inl rfl | exact .inr rfl) (hf : X.fn x = true ∨ X.env.scope.names.lookup x = some .local := by first | exact .inl rfl | exact .inr rfl) (hf2 : X.fn y = true ∨ X.env.scope.names.lookup y = some .local := by first | exact .inl rfl | exact .inr rfl)
    (h1 : starEach [a, b] X.env = (false, eval a X.env) :: starEach [b] X.env := by rfl) (h2 : starEach [b] X.env = (false, eval b X.env) :: starEach [] X.env := by rfl)
    (hs : swapsWithSole [.Tuple [.Name x px, .Name y py] kt pt] (.Tuple [a, b] k2 pt2) pos.line X.env = pure false := by rfl) (hw : swappedStores [.Tuple [.Name x px, .Name y py] kt pt] (.Tuple [a, b] k2 pt2) X.env = pure none := by rfl)
    (h3 : (assignEach [.Tuple [.Name x px, .Name y py] kt pt] X.env).map (·.2) = [assign (.Tuple [.Name x px, .Name y py] kt pt) X.env] := by rfl) : XX X B ρ (.Assign [.Tuple [.Name x px, .Name y py] kt pt] (.Tuple [a, b] k2 pt2) pos :: sts) R :=
  xx_seq (R1 := fun r => ∃ u v, P1 u ∧ P2 v ∧ r = .nx ((ρ.set l (some (.im u))).set m (some (.im v)))) (ps_imp (ps_asg (pe_tup (pa_cons ha (pa_cons hb pa_nil h2) h1)) (pg_tup hc (pgs_cons (pg_name hN hi hx hf) (pgs_cons (pg_name hN hj hy hf2) pgs_nil))) hs hw h3) fun D σ H ⟨M, k, q⟩ => ⟨M, k, fun u v1 M1 H1 e1 g1 r1 => ⟨M1, k.gr g1, fun w v2 M2 H2 e2 g2 r2 => ⟨sl_le rfl, fun z nz => by
      have k2 := (k.gr g1).gr g2
      have g3 := k2.new (o := .tup [v1, v2]) nz
      exact ⟨z, [v1, v2], rfl, .of upd_same, rfl, v1, [v2], rfl, v2, [], rfl, rfl, q _ ⟨u, w, e1, e2, rfl⟩ _ _ _ ((g1.mm.trans g2.mm).trans g3.mm) (((k2.gr g3).put (repI_up (g2.mm.trans g3.mm) r1)).put (repI_up g3.mm r2))⟩⟩⟩⟩)
    (fun ρ' ⟨u, v, h1, h2, e⟩ => by cases e; exact h u v h1 h2) (fun _ ⟨_, _, _, _, e⟩ => nomatch e) (fun _ ⟨_, _, _, _, e⟩ => nomatch e) (fun _ ⟨_, _, _, _, e⟩ => nomatch e)
/-- if: either way -/
theorem x1_ifN {P : Bool → Prop} {th el : List Stmt} (hc : PT X c (tTN X.K B ρ P)) (h1 : P true → XX X B ρ th R) (h2 : P false → XX X B ρ el R) : X1 X B ρ (.If c th el pos) R := by
  have a1 : PSs X th (fun D σ H => ∃ _ : PLift (P true), tXX X.K B ρ R D σ H) := pss_any fun a => h1 a.down
  have a2 : PSs X el (fun D σ H => ∃ _ : PLift (P false), tXX X.K B ρ R D σ H) := pss_any fun a => h2 a.down
  refine ps_imp (ps_if hc a1 a2) fun D σ H ⟨M, k, q⟩ => ⟨M, k, fun z M1 H1 e1 g1 => ?_⟩
  cases z with
  | true =>
    show (if true = true then _ else _)
    rw [if_pos rfl]
    exact ⟨⟨e1⟩, M1, k.gr g1, fun r hr => (q r hr).up g1.mm⟩
  | false =>
    show (if false = true then _ else _)
    rw [if_neg (by decide)]
    exact ⟨⟨e1⟩, M1, k.gr g1, fun r hr => (q r hr).up g1.mm⟩
end
end K5
/-! Any7: comprehensions with draws in them; tests of draws. -/
namespace K5
open PySem PySem.Spec PyProof.Rows L2
section
variable {X : Cx} {B : Bs} {ρ : DEnv} {pos p q px spos py : Pos} {e a b c elt iter tg : Expr} {es ifs : List Expr} {st : Stmt} {sts : List Stmt} {R : Res → Prop} {scope : Scope} {own : List (Str × Nat)} {α : Type}
def ttN (K : PySem.W.Frag) (B : Bs) (xs : List α) (T : α → Bool → Prop) (r : α → DEnv) : TT := fun σ H Q => ∃ a : { a // a ∈ xs }, tTN K B (r a.1) (T a.1) σ H Q
def teN (K : PySem.W.Frag) (B : Bs) (xs : List α) (P : α → PyData → Prop) (r : α → DEnv) : TE := fun σ H Q => ∃ a : { a // a ∈ xs }, tEN K B (r a.1) (fun y => ∃ d, y = .dat d ∧ P a.1 d) σ H Q
theorem lc_readN {K : PySem.W.Frag} {xs : List α} {enc : α → PyData} {T : α → Bool → Prop} {P : α → PyData → Prop} {r : α → DEnv} {gT : DEnv → PyData → DEnv → Prop} {ts vs : List Nat} (G : Nat → List PyData → Prop) (G0 : G 0 [])
    (Gy : ∀ i a acc d, xs[i]? = some a → G i acc → T a true → P a d → G (i + 1) (acc ++ [d])) (Gn : ∀ i a acc, xs[i]? = some a → G i acc → T a false → G (i + 1) acc)
    (hr : ∀ a ∈ xs, gT (wp ρ vs) (enc a) (r a)) (hts : ∀ σ σ' : L2.St, L2.wipe σ' ts = L2.wipe (L2.wipe σ vs) ts → L2.wipe σ' vs = L2.wipe σ vs) (hl : xs.length ≤ sizeLine) (σ : L2.St) (H : Hp) (Q : VK)
    (h : tEN K B ρ (fun y => ∃ ds, y = Li ds ∧ G xs.length ds) σ H Q) :
    tLc (tEI K B ρ (xs.map enc)) (tG K gT ts) (ttN K B xs T r) (teN K B xs P r) vs σ H Q := by
  obtain ⟨M, k, q⟩ := h
  refine ⟨M, k, fun J M1 H1 gr iok D nD => ?_⟩
  have k1 := k.gr gr
  have hw := k1.off nD
  have hn : (xs.map enc).length = xs.length := List.length_map ..
  refine lc_it iok.walk (g := tG K gT ts) (tt := ttN K B xs T r) (te := teN K B xs P r) (vs := vs) (σ := σ) (H1 := H1) (D := D) (Qd := fun H => Q (.ref D) H) (fun i H2 => ∃ M2 acc ds, Gr B M1 H1 M2 H2 ∧ H2 D = some (.lst acc) ∧ M2 D = none ∧ DqAll K M2 acc ds ∧ G i ds ∧ ds.length ≤ i) ?_ ?_ ?_ ?_
  · refine ⟨M1, [], [], k1.refl.side nD (k1.clr nD) hw, upd_same, k1.clr nD, ?_, G0, Nat.le_refl _⟩
    exact .nil
  · rintro i H2 _ ⟨M2, acc, ds, g2, _⟩
    exact ⟨M2, g2.mm, g2.mh⟩
  · rintro i x H2 H3 hi ⟨M2, acc, ds, g2, hD, mD, hA, hG, hdl⟩ hy
    rw [hn] at hi
    have e : xs[i]? = some xs[i] := List.getElem?_eq_getElem hi
    have e2 : (xs.map enc)[i]? = some (enc xs[i]) := by rw [List.getElem?_map, e] <;> rfl
    obtain ⟨M3, gi, hx⟩ := hy M2 _ g2.mm g2.mh e2
    have k2 := k1.gr g2
    have g3 := k2.gi gi
    have k3 := k2.gr g3
    have am : xs[i] ∈ xs := List.getElem_mem hi
    refine ⟨B, M3, wp ρ vs, enc xs[i], r xs[i], k3.wipe vs, hx, hr _ am, fun σ' hσ kk => ⟨hts σ σ' hσ, ⟨xs[i], am⟩, M3, kk, fun b M4 H4 eb g4 => ?_⟩⟩
    have hD4 : ∀ {M5 H5 : Hp}, Gr B M2 H2 M5 H5 → H5 D = some (.lst acc) ∧ M5 D = none := fun g => ⟨g.hh D _ hw hD, g.fr D _ hD rfl mD⟩
    cases b with
    | true =>
      show (if true = true then _ else _)
      rw [if_pos rfl]
      refine ⟨⟨xs[i], am⟩, M4, kk.gr g4, fun y v M5 H5 ⟨d, ey, hPd⟩ g5 r5 => ?_⟩
      subst ey
      have g25 : Gr B M2 H2 M5 H5 := (g3.trans g4).trans g5
      obtain ⟨h5, m5⟩ := hD4 g25
      have hlen := dps_len hA
      have hsm : acc.length < sizeLine := by omega
      refine ⟨acc, h5, hsm, M5, acc ++ [v], ds ++ [d], (g2.trans g25).side nD m5 hw, upd_same, m5, ?_, Gy i _ ds d e hG eb hPd, by rw [List.length_append]; exact Nat.succ_le_succ hdl⟩
      exact dps_app (dps_up g25.mm _ _ hA) (.cons r5 .nil)
    | false =>
      show (if false = true then _ else _)
      rw [if_neg (by decide)]
      have g24 : Gr B M2 H2 M4 H4 := g3.trans g4
      obtain ⟨h4, m4⟩ := hD4 g24
      refine ⟨M4, acc, ds, g2.trans g24, h4, m4, dps_up g24.mm _ _ hA, Gn i _ ds e hG eb, Nat.le_succ_of_le hdl⟩
  · rintro H2 ⟨M2, acc, ds, g2, hD, mD, hA, hG, _⟩
    rw [hn] at hG
    have g3 := g2.keep (o := .lst acc) nD mD hD
    exact q (Li ds) _ _ _ ⟨ds, rfl, hG⟩ (gr.trans g3) (.lst upd_same (dps_up (fun a u h => by rw [upd_ne (ne_of_none h mD)]; exact h) _ _ hA))
theorem en_lc1 {i : Nat} {x : Str} {px : Pos} {xs : List α} {enc : α → PyData} {T : α → Bool → Prop} {P : α → PyData → Prop} (G : Nat → List PyData → Prop) (G0 : G 0 []) (Gy : ∀ i a acc d, xs[i]? = some a → G i acc → T a true → P a d → G (i + 1) (acc ++ [d])) (Gn : ∀ i a acc, xs[i]? = some a → G i acc → T a false → G (i + 1) acc)
    (hc : X.calm = true) (hN : X.N.Nodup) (hi : EI X B ρ (.Name x px) iter (xs.map enc)) (ok : blkC X.N X.env.scope scope [(x, i)] = true)
    (ht : ∀ s H C cl fp, ∀ a ∈ xs, PTs (Blk X s H scope C cl fp) ifs (tTN X.K B ((wp ρ [i]).set i (some (.im (.dat (enc a))))) (T a)))
    (he : ∀ s H C cl fp, ∀ a ∈ xs, EN (Blk X s H scope C cl fp) B ((wp ρ [i]).set i (some (.im (.dat (enc a))))) elt fun y => ∃ d, y = .dat d ∧ P a d) (hl : xs.length ≤ sizeLine) (hx : X.N[i]? = some x := by rfl)
    (hg : ∀ s H C cl fp, EG (Blk X s H scope C cl fp) (.Name x px) (g1 i) [i] := by exact fun _ _ _ _ _ => eg_1 (by assumption)) (hs : ∀ x, foldedSetIterable iter X.env x = pure x := by intro _; rfl) : EN X B ρ (.ListComp elt [⟨.Name x px, iter, ifs, 0⟩] scope pos) (fun y => ∃ ds, y = Li ds ∧ G xs.length ds) :=
  pe_imp (pe_lc hc hN hi (blkOk_by ok) (fun s H C cl fp => (hg s H C cl fp).pg) (fun s H C cl fp => pts_any fun a : { a // a ∈ xs } => ht s H C cl fp a.1 a.2) (fun s H C cl fp => pe_any fun a : { a // a ∈ xs } => he s H C cl fp a.1 a.2) hs)
    fun σ H Q q => lc_readN (r := fun a => (wp ρ [i]).set i (some (.im (.dat (enc a))))) (gT := g1 i) (ts := [i]) (vs := [i]) G G0 Gy Gn (fun _ _ => rfl) (fun σ σ' h => h.trans (set_none_set ..)) hl σ H Q q
/-- [a draw for x in iter] -/
theorem en_lc0 {i : Nat} {x : Str} {px : Pos} {xs : List α} {enc : α → PyData} {P : PyData → Prop}
    (hc : X.calm = true) (hN : X.N.Nodup) (hi : EI X B ρ (.Name x px) iter (xs.map enc)) (ok : blkC X.N X.env.scope scope [(x, i)] = true)
    (he : ∀ s H C cl fp, ∀ a ∈ xs, EN (Blk X s H scope C cl fp) B ((wp ρ [i]).set i (some (.im (.dat (enc a))))) elt fun y => ∃ d, y = .dat d ∧ P d) (hl : xs.length ≤ sizeLine) (hx : X.N[i]? = some x := by rfl)
    (hg : ∀ s H C cl fp, EG (Blk X s H scope C cl fp) (.Name x px) (g1 i) [i] := by exact fun _ _ _ _ _ => eg_1 (by assumption)) (hs : ∀ x, foldedSetIterable iter X.env x = pure x := by intro _; rfl) : EN X B ρ (.ListComp elt [⟨.Name x px, iter, [], 0⟩] scope pos) (fun y => ∃ ds, y = Li ds ∧ ds.length = xs.length ∧ ∀ d ∈ ds, P d) :=
  en_lc1 (T := fun _ c => c = true) (P := fun _ => P) (fun i ds => ds.length = i ∧ ∀ d ∈ ds, P d) ⟨rfl, fun d h => by cases h⟩ (fun i a acc d _ ⟨h1, h2⟩ _ hd => ⟨by rw [List.length_append, h1]; rfl, fun z hz => by
    rcases List.mem_append.mp hz with hz | hz
    · exact h2 z hz
    · rw [List.mem_singleton] at hz; rw [hz]; exact hd⟩) (fun i a acc _ _ h => by cases h) hc hN hi ok (fun s H C cl fp a ha => ets_nil) he hl hx hg hs
/-- [x for x in iter if a draw] -/
theorem en_lcF {i : Nat} {x : Str} {px : Pos} {xs : List α} {enc : α → PyData} {c : Expr}
    (hc : X.calm = true) (hN : X.N.Nodup) (hi : EI X B ρ (.Name x px) iter (xs.map enc)) (ok : blkC X.N X.env.scope scope [(x, i)] = true)
    (ht : ∀ s H C cl fp, ∀ a ∈ xs, PT (Blk X s H scope C cl fp) c (tTN X.K B ((wp ρ [i]).set i (some (.im (.dat (enc a))))) fun _ => True))
    (he : ∀ s H C cl fp, ∀ a ∈ xs, EE (Blk X s H scope C cl fp) B ((wp ρ [i]).set i (some (.im (.dat (enc a))))) elt (.dat (enc a))) (hl : xs.length ≤ sizeLine) (hx : X.N[i]? = some x := by rfl)
    (hg : ∀ s H C cl fp, EG (Blk X s H scope C cl fp) (.Name x px) (g1 i) [i] := by exact fun _ _ _ _ _ => eg_1 (by assumption)) (hs : ∀ x, foldedSetIterable iter X.env x = pure x := by intro _; rfl) : EN X B ρ (.ListComp elt [⟨.Name x px, iter, [c], 0⟩] scope pos) (fun y => ∃ ys : List α, y = Li (ys.map enc) ∧ ys.Sublist xs) :=
  en_imp (en_lc1 (T := fun _ _ => True) (P := fun a d => d = enc a) (fun i ds => ∃ ys : List α, ds = ys.map enc ∧ ys.Sublist (xs.take i)) ⟨[], rfl, List.nil_sublist _⟩ (fun i a acc d hi ⟨ys, h1, h2⟩ _ hd => ⟨ys ++ [a], by rw [h1, hd, List.map_append]; rfl, by rw [take_at hi]; exact h2.append (List.Sublist.refl _)⟩)
      (fun i a acc hi ⟨ys, h1, h2⟩ _ => ⟨ys, h1, by rw [take_at hi]; exact h2.trans (List.sublist_append_left ..)⟩) hc hN hi ok (fun s H C cl fp a ha => pts_one (ht s H C cl fp a ha)) (fun s H C cl fp a ha => en_imp (he s H C cl fp a ha) fun y ey => ⟨_, ey, rfl⟩) hl hx hg hs)
    fun y ⟨ds, ey, ys, h1, h2⟩ => ⟨ys, by rw [ey, h1], by rw [List.take_of_length_le (Nat.le_refl _)] at h2; exact h2⟩
/-- a draw above a number -/
theorem etN_gt {P : Int → Prop} {j : Int} (ha : EN X B ρ a fun y => ∃ r, y = I r ∧ P r) (hb : EE X B ρ b (I j)) (h1 : behindInMarks .Gt b = false := by first | exact nobehind _ (by decide) (by decide) | rfl) : PT X (.Compare a [.Gt] [b] pos) (tTN X.K B ρ fun _ => True) :=
  pt_imp (pt_cmp (pc_R op_gt ha hb) h1) fun σ H Q ⟨M, k, q⟩ => ⟨M, k, fun y v M1 H1 ⟨r, ey, _⟩ g1 r1 => ⟨M1, k.gr g1, fun z u M2 H2 ez g2 r2 => by
    subst ey ez
    cases rI_int r1
    cases rI_int r2
    exact ⟨r, j, rfl, rfl, _, rfl, q _ M2 H2 trivial (g1.trans g2)⟩⟩⟩
theorem etN_any {t : Bool} {P : Bool → Prop} (h : ET X B ρ a t) (w : P t) : PT X a (tTN X.K B ρ P) := pt_imp h fun σ H Q ⟨M, k, q⟩ => ⟨M, k, fun c M' H' e g => q c M' H' (by rw [e]; exact w) g⟩
/-- a test, and a draw -/
theorem etN_and {t : Bool} {P : Bool → Prop} (ha : ET X B ρ a t) (hb : t = true → PT X b (tTN X.K B ρ P)) : PT X (.BoolOp .And [a, b] pos) (tTN X.K B ρ fun c => c = true → t = true ∧ P true) := by
  cases t with
  | false =>
    refine pt_imp (pw_and ha (pw_and1 pt_off)).pt fun σ H Q ⟨M, k, q⟩ => ⟨M, k, fun c M1 H1 ec g1 => ?_⟩
    subst ec
    show (if false = true then _ else _)
    rw [if_neg (by decide)]
    exact q _ M1 H1 (fun h => by cases h) g1
  | true =>
    refine pt_imp (pw_and ha (pw_and1 (hb rfl))).pt fun σ H Q ⟨M, k, q⟩ => ⟨M, k, fun c M1 H1 ec g1 => ?_⟩
    subst ec
    show (if true = true then _ else _)
    rw [if_pos rfl]
    exact ⟨M1, k.gr g1, fun d M2 H2 hd g2 => q d M2 H2 (fun h => ⟨rfl, by rw [h] at hd; exact hd⟩) (g1.trans g2)⟩
end
end K5
/-! Any8: a call by names; repr of whole numbers. -/
namespace K5
open PySem PySem.Spec PyProof.Rows L2
section
variable {X : Cx} {B : Bs} {ρ : DEnv} {pos p q p0 p1 p2 p3 p4 : Pos} {e a b c : Expr}
theorem ee_repr {i : Int} (he : EE X B ρ e (I i)) (hi : i.natAbs.log2 < 1920) (hm : X.mg "repr" = none) (hg : Gl X "repr" := by rfl) (hs : starEach [e] X.env = (false, eval e X.env) :: starEach [] X.env := by rfl) : EE X B ρ (.Call (.Name "repr" p) [e] [] pos) (.dat (.str (toString i))) :=
  en_cb SkE.call_repr_int (ea_cons he ea_nil hs) hm (by decide +kernel) hg (fun vs σ M H Q k r q => by
    cases r with
    | cons r1 r2 =>
      cases r2
      exact ⟨i, by rw [rI_int r1], hi, q _ _ M H rfl k.refl (.str _)⟩) (by decide) (by decide) hs
theorem ec_reprNe {i : Int} (hu : X.A.units + 64 < cLine) (ha : EE X B ρ a (I i)) (hb : EE X B ρ b (I i)) (hi : i.natAbs.log2 < 1920) (sh : SeqAt.shaped (.str (toString i)) = true) (hm : X.mg "repr" = none) (hg : Gl X "repr" := by rfl) (hs : starEach [a] X.env = (false, eval a X.env) :: starEach [] X.env := by rfl) (hs2 : starEach [b] X.env = (false, eval b X.env) :: starEach [] X.env := by rfl) :
    EC X B ρ .NotEq (.Call (.Name "repr" p) [a] [] p0) (.Call (.Name "repr" p1) [b] [] p2) false := by
  have h := ec_neD (d := .str (toString i)) (f := .str (toString i)) hu (ee_repr (p := p) (pos := p0) ha hi hm hg hs) (ee_repr (p := p1) (pos := p2) hb hi hm hg hs2) sh sh
  have e : PyData.eqv (.str (toString i)) (.str (toString i)) = true := by simp [PyData.eqv]
  rw [e] at h
  exact h
theorem kb_trip {K : PySem.W.Frag} {f : Addr} {fd : FuncData} (F : FunD K "round_trip" "round_trip" (defArgs s_round_trip) (defBody s_round_trip) (defScope s_round_trip) [] [] f fd) :
    KBinds K fd ["size", "modulus"] ["size", "modulus"] (fun us ws => if us.isEmpty then ws else []) (fun vs zs => if vs.isEmpty then zs else []) where
  to := fun s us ws _ hl => by
    obtain ⟨oc, od, dV, kV, doc, pm, an, cdv, ct, osl, rfl, lk, hcd, hD, hK⟩ := F.ex
    cases us with
    | cons u us => cases hl
    | nil =>
      rcases hD with ⟨_, rfl⟩ | ⟨e, _⟩
      · match ws, hl with
        | [w1, w2], _ => exact .of_eq rfl
      · exact absurd rfl e
  rel := fun {vs us zs ws} h1 h2 => by
    cases h1 with
    | nil => exact h2
    | cons _ _ => exact .nil
theorem ee_trip (T : Txt X.K X.mg) {m : Nat} {j : Nat} (hr : Room 4 X.A) (hb : EE X B ρ e (I (m : Nat))) (h1 : 1 ≤ m) (h2 : m ≤ 36) (hg : Gl X "round_trip" := by rfl) (hall : (backToKw pos (keywordEach [⟨some "size", .Constant (.int 2) j p1, p2⟩, ⟨some "modulus", e, p3⟩] X.env)).all (·.1.isSome) = true := by rfl)
    (hks : (backToKw pos (keywordEach [⟨some "size", .Constant (.int 2) j p1, p2⟩, ⟨some "modulus", e, p3⟩] X.env)).filterMap (·.1) = [("size" : Str), ("modulus" : Str)] := by rfl) (hpl : ((backTo pos (starEach [] X.env)).any (·.1) || (backToKw pos (keywordEach [⟨some "size", .Constant (.int 2) j p1, p2⟩, ⟨some "modulus", e, p3⟩] X.env)).any (·.1.isNone)) = false := by rfl) :
    EE X B ρ (.Call (.Name "round_trip" p) [] [⟨some "size", .Constant (.int 2) j p1, p2⟩, ⟨some "modulus", e, p3⟩] pos) (I (trip m : Nat)) := by
  obtain ⟨fd, F⟩ := T.d_round_trip
  refine pe_imp (pe_callK0 (fn_round_trip T F) hr hg T.g_round_trip F.kp (kb_trip F) (pk_cons (ee_int (B := B) (ρ := ρ)) (pk_cons hb pk_nil)) hall hks (by decide) hpl) fun σ H Q ⟨M, k, q⟩ => ?_
  refine ⟨M, k, fun y v M1 H1 ey g1 r1 => ⟨M1, k.gr g1, fun z u M2 H2 ez g2 r2 => ?_⟩⟩
  subst ey ez
  have k2 := (k.gr g1).gr g2
  exact ⟨M2, [I 2, I m], I (trip m : Nat), k2.mh, .cons (repI_up g2.mm r1) (.cons r2 .nil), ⟨m, rfl, h1, h2, rfl⟩, fun v M' H' g r => q _ v M' H' rfl ((g1.trans g2).trans (g.of0 k2.vol)) r⟩
theorem trip_repr : ∀ m : Nat, m < 6 → 1 ≤ m → SeqAt.shaped (.str (toString (trip m : Int))) = true := by
  intro m h1 h2
  have : m = 1 ∨ m = 2 ∨ m = 3 ∨ m = 4 ∨ m = 5 := by omega
  rcases this with e | e | e | e | e <;> (subst e; decide +kernel)
end
end K5
/-! Law1: the law's own def, walked: sizes, modulus, pace. -/
namespace K5
open PySem PySem.Spec PyProof.Rows L2
abbrev nLW : List Str := ["_law_script", "_law_deal", "_law_two", "_law_three", "_law_sizes", "_law_modulus", "_law_cells", "_law_trip_here", "_law_most", "_law_pace", "_law_row", "_law_kept", "_law_pairs", "_law_one", "_law_other", "_law_at", "_law_unlike", "_law_told", "_law_many", "_law_question", "_law_house", "_law_marks_here", "_law_marked", "_law_asked", "_law_word", "_law_shown", "_law_free", "_law_table", "_law_number", "_law_cell", "_law_mark"]
theorem sc_law : FnScope nLW ["_law_script"] (defScope s_law) := ⟨rfl, rfl, rfl, by decide +kernel, rfl, by decide +kernel, by decide +kernel⟩
/-- cells and modulus -/
def Drawn (n m : Nat) : Prop := (n = 2 ∧ 1 ≤ m ∧ m ≤ 5) ∨ (n = 3 ∧ 1 ≤ m ∧ m ≤ 2)
def most (n m : Nat) : Nat := (2 * trip m - 1) / n
section
variable {P : Program} {w : World} {K : PySem.W.Frag} {mg : Str → Option Value} {base : Heap} {f : Addr}
abbrev xL (P : Program) (w : World) (K : PySem.W.Frag) (mg : Str → Option Value) (base : Heap) (f : Addr) (cdv : Value) (A0 : Around) (outer : List Env) (s : Shared) (H : Hp) (E : XK) : Cx := (cxOf CX0 P w K mg base nLW "law" (defScope s_law) f cdv A0 outer s H E).nox
def sizD (n : Nat) : PyData := .tuple (nI (List.replicate n 2))
def jA (a A : Addr) (n m pace : Nat) (l : DEnv) : DEnv := [some (.raw (.ref a)), some (.raw (.ref A)), some (.im (.dat (sizD 2))), some (.im (.dat (sizD 3))), some (.im (.dat (sizD n))), some (.im (I (m : Nat))), some (.im (I (n : Nat))), some (.im (I (trip m : Nat))), some (.im (I (most n m : Nat))), some (.im (I (pace : Nat)))] ++ l
theorem law_a (T : Txt K mg) {cdv : Value} {A0 : Around} {outer : List Env} {s : Shared} {H : Hp} {E : XK} {a : Addr} {ns : List Int} {R : Res → Prop} (hr : Room 8 (xL P w K mg base f cdv A0 outer s H E).A) (sq : SqL K H a (ns.map V.int))
    (next : ∀ A i n m pace, Drawn n m → pace ≤ most n m → XX (xL P w K mg base f cdv A0 outer s H E) (Bd H H A i) (jA a A n m pace (List.replicate 21 none)) ((defBody s_law).drop 7) R) :
    XX (xL P w K mg base f cdv A0 outer s H E) (bs0 H H) (stR nLW [.ref a]) (defBody s_law) R := by
  have nd := sc_law.nd
  refine xx_dealt T 1 0 nd (hr.mono (by decide)) rfl sq fun A i fA fi => ?_
  refine xx_tupN (l := 2) (m := 3) (P1 := fun y => y = .dat (sizD 2)) (P2 := fun y => y = .dat (sizD 3)) rfl nd (ee_tup (ds := [.int 2, .int 2]) (ea_cons ee_int (ea_cons ee_int ea_nil)) (sl_le rfl)) (ee_tup (ds := [.int 2, .int 2, .int 2]) (ea_cons ee_int (ea_cons ee_int (ea_cons ee_int ea_nil))) (sl_le rfl)) ?_
  rintro u v rfl rfl
  let row : Nat → Nat → PyData := fun n m => .list [sizD n, .int (m : Nat)]
  refine xx_lst2 4 5 (P := fun y => ∃ n m, y = .dat (row n m) ∧ Drawn n m) rfl nd (en_of T (l := 1) (PL := fun y => y = Li [row 2 1, row 2 2, row 2 3, row 2 4, row 2 5, row 3 1, row 3 2]) (hr.mono (by decide)) rfl (ee_lst (ds := [row 2 1, row 2 2, row 2 3, row 2 4, row 2 5, row 3 1, row 3 2])
    (ea_cons (ee_lst (ds := [sizD 2, .int 1]) (ea_cons (ee_var 2) (ea_cons ee_int ea_nil)) (sl_le rfl)) (ea_cons (ee_lst (ds := [sizD 2, .int 2]) (ea_cons (ee_var 2) (ea_cons ee_int ea_nil)) (sl_le rfl)) (ea_cons (ee_lst (ds := [sizD 2, .int 3]) (ea_cons (ee_var 2) (ea_cons ee_int ea_nil)) (sl_le rfl)) (ea_cons (ee_lst (ds := [sizD 2, .int 4]) (ea_cons (ee_var 2) (ea_cons ee_int ea_nil)) (sl_le rfl)) (ea_cons (ee_lst (ds := [sizD 2, .int 5]) (ea_cons (ee_var 2) (ea_cons ee_int ea_nil)) (sl_le rfl)) (ea_cons (ee_lst (ds := [sizD 3, .int 1]) (ea_cons (ee_var 3) (ea_cons ee_int ea_nil)) (sl_le rfl)) (ea_cons (ee_lst (ds := [sizD 3, .int 2]) (ea_cons (ee_var 3) (ea_cons ee_int ea_nil)) (sl_le rfl)) ea_nil))))))) (sl_le rfl)) fun y ey => ⟨_, ey, by decide, by decide, fun d hd => ?_⟩) ?_
  · simp only [List.mem_cons, List.not_mem_nil, or_false] at hd
    rcases hd with e | e | e | e | e | e | e <;> subst e
    · exact ⟨2, 1, rfl, .inl ⟨rfl, by decide, by decide⟩⟩
    · exact ⟨2, 2, rfl, .inl ⟨rfl, by decide, by decide⟩⟩
    · exact ⟨2, 3, rfl, .inl ⟨rfl, by decide, by decide⟩⟩
    · exact ⟨2, 4, rfl, .inl ⟨rfl, by decide, by decide⟩⟩
    · exact ⟨2, 5, rfl, .inl ⟨rfl, by decide, by decide⟩⟩
    · exact ⟨3, 1, rfl, .inr ⟨rfl, by decide, by decide⟩⟩
    · exact ⟨3, 2, rfl, .inr ⟨rfl, by decide, by decide⟩⟩
  rintro y ⟨n, m, rfl, dr⟩
  refine ⟨sizD n, .int (m : Nat), rfl, ?_⟩
  have n23 : n = 2 ∨ n = 3 := by rcases dr with h | h <;> omega
  have m1 : 1 ≤ m := by rcases dr with h | h <;> omega
  have m5 : m ≤ 5 := by rcases dr with h | h <;> omega
  have tb := trip_bd m (by omega) m1
  have nl : (nI (List.replicate n 2)).length = n := by rw [List.length_map, List.length_replicate]
  refine xx_par (i := 6) (j := 7) (u := I (n : Nat)) (v := I (trip m : Nat)) rfl nd (by decide) (ee_is (ee_lenT (ds := nI (List.replicate n 2)) (ee_var 4) T.n_len) (by rw [nl])) (ee_trip T (hr.mono (by decide)) (ee_var 5) m1 (by omega)) ?_
  refine xx_ifn (ec_et (ec_reprNe (i := (trip m : Nat)) (u64 hr) (ee_var 7) (ee_call (c_law_trip T) (hr.mono (by decide)) (ea_cons ee_int (ea_cons (ee_var 5) ea_nil)) ⟨m, rfl, m1, by omega, rfl⟩) ?_ (trip_repr m (by omega) m1) T.n_repr)) rfl ?_
  · have : (trip m : Int).natAbs.log2 ≤ (trip m : Int).natAbs := Nat.log2_le_self _
    omega
  have c1 : ((2 : Int) * (trip m : Nat) - 1) / (n : Nat) = (most n m : Nat) := by
    unfold most
    rw [Int.natCast_ediv]
    congr 1
    omega
  have mb : most n m ≤ 20 := by
    unfold most
    have := Nat.div_le_self (2 * trip m - 1) n
    omega
  refine xx_set 8 nd (ee_is (ee_fdiv (ee_sub (ee_mul ee_int (ee_var 7) (.inl ⟨by decide, by decide⟩)) ee_int) (ee_var 6) ⟨by omega, by omega⟩) (congrArg I c1)) ?_
  refine xx_setN 9 (P := fun y => ∃ pace : Nat, y = I (pace : Nat) ∧ pace ≤ most n m) nd (en_of T (l := 1) (PL := fun y => ∃ l, y = Li l ∧ ∃ d1 ds, l = d1 :: ds ∧ d1 = .int (most n m : Nat) ∧ ∃ d2 es, ds = d2 :: es ∧ d2 = .int ((most n m - 1 : Nat) : Int) ∧ ∃ d3 gs, es = d3 :: gs ∧ (∃ r : Int, d3 = .int r ∧ 0 ≤ r ∧ r < (most n m : Nat) + 1) ∧ gs = []) (hr.mono (by decide)) rfl
    (en_lst (an_cons (en_ee (ee_var 8) ⟨_, rfl, rfl⟩) (an_cons (en_ee (ee_max2 rfl ee_int (ee_sub (ee_var 8) ee_int) T.n_max) ⟨_, rfl, ?_⟩) (an_cons (en_imp (en_any T (l := 1) (hr.mono (by decide)) rfl (ee_add (ee_var 8) ee_int) (by omega) (by omega)) fun y ⟨r, ey, r0, r1⟩ => ⟨_, ey, r, rfl, r0, r1⟩) an_nil))) ?_) ?_) ?_
  · congr 1
    split <;> omega
  · rintro l ⟨d1, ds, rfl, _, d2, es, rfl, _, d3, gs, rfl, _, rfl⟩
    exact sl_le rfl
  · rintro y ⟨l, rfl, d1, ds, rfl, rfl, d2, es, rfl, rfl, d3, gs, rfl, ⟨r, rfl, r0, r1⟩, rfl⟩
    refine ⟨_, rfl, by simp, by simp, fun d hd => ?_⟩
    simp only [List.mem_cons, List.not_mem_nil, or_false] at hd
    rcases hd with e | e | e <;> subst e
    · exact ⟨most n m, rfl, Nat.le_refl _⟩
    · exact ⟨most n m - 1, rfl, by omega⟩
    · exact ⟨r.toNat, by rw [Int.toNat_of_nonneg r0], by omega⟩
  rintro y ⟨pace, rfl, hp⟩
  exact next A i n m pace dr hp
end
end K5
/-! Law2: the law's rows that are kept. -/
namespace K5
open PySem PySem.Spec PyProof.Rows L2
abbrev two (n : Nat) : List Nat := List.replicate n 2
structure KeptOk (n : Nat) (kept : List (List Int)) : Prop where
  sub : kept.Sublist (allRows (two n))
  three : 3 ≤ kept.length
theorem rows_few : ∀ n : Nat, n = 2 ∨ n = 3 → (∀ k, (allRows ((two n).take k)).length ≤ 300) ∧ 3 ≤ (allRows (two n)).length ∧ (allRows (two n)).length ≤ 8 := by
  rintro n (rfl | rfl)
  · refine ⟨fun k => ?_, by decide, by decide⟩
    by_cases h : k ≤ 2
    · have : k = 0 ∨ k = 1 ∨ k = 2 := by omega
      rcases this with e | e | e <;> (subst e; decide)
    · rw [List.take_of_length_le (by rw [List.length_replicate]; omega)]
      decide
  · refine ⟨fun k => ?_, by decide, by decide⟩
    by_cases h : k ≤ 3
    · have : k = 0 ∨ k = 1 ∨ k = 2 ∨ k = 3 := by omega
      rcases this with e | e | e | e <;> (subst e; decide)
    · rw [List.take_of_length_le (by rw [List.length_replicate]; omega)]
      decide
section
variable {P : Program} {w : World} {K : PySem.W.Frag} {mg : Str → Option Value} {base : Heap} {f : Addr}
abbrev keptE (kept : List (List Int)) : Option En := some (.im (Li (kept.map tI)))
theorem law_b (T : Txt K mg) {cdv : Value} {A0 : Around} {outer : List Env} {s : Shared} {H : Hp} {E : XK} {a A i : Addr} {n m pace : Nat} {R : Res → Prop} (hr : Room 8 (xL P w K mg base f cdv A0 outer s H E).A) (dr : Drawn n m)
    (next : ∀ kept, KeptOk n kept → XX (xL P w K mg base f cdv A0 outer s H E) (Bd H H A i) (jA a A n m pace (none :: keptE kept :: List.replicate 19 none)) ((defBody s_law).drop 9) R) :
    XX (xL P w K mg base f cdv A0 outer s H E) (Bd H H A i) (jA a A n m pace (List.replicate 21 none)) ((defBody s_law).drop 7) R := by
  have nd := sc_law.nd
  have n23 : n = 2 ∨ n = 3 := by rcases dr with h | h <;> omega
  obtain ⟨rf, r3, r8⟩ := rows_few n n23
  have st : ∀ {ρ : DEnv} {B : Bs} {p p1 p2 : Pos}, ρ[4]? = some (some (.im (.dat (sizD n)))) → EE (xL P w K mg base f cdv A0 outer s H E) B ρ (.Call (.Name "_law_standings" p) [.Name "_law_sizes" p1] [] p2) (Li ((allRows (two n)).map tI)) := fun h =>
    ee_call (c_law_standings T) (hr.mono (by decide)) (ea_cons (ee_var 4 h) ea_nil) ⟨true, two n, rfl, by rw [List.length_replicate]; omega, fun x hx => by rw [List.eq_of_mem_replicate hx]; decide, rf, rfl⟩
  refine xx_setN 11 (P := fun y => ∃ ys : List (List Int), y = Li (ys.map tI) ∧ ys.Sublist (allRows (two n))) nd (en_lcF (i := 10) (xs := allRows (two n)) (enc := tI) rfl nd (ei_lst (st rfl)) rfl (fun s H C cl fp x hx => etN_gt (P := fun _ => True) (en_imp (en_any T (l := 1) (hr.mono (by decide)) rfl ee_int (by decide) (by decide)) fun y ⟨r, ey, _⟩ => ⟨r, ey, trivial⟩) ee_int) (fun s H C cl fp x hx => ee_var 10) (sl_of (by omega))) ?_
  rintro y ⟨ys, rfl, hs⟩
  refine xx_if (t := decide ((ys.length : Int) < 3)) (ec_et (ec_lt (ee_is (ee_lenL (ds := ys.map tI) (ee_var 11) T.n_len) (by rw [List.length_map])) ee_int)) (fun e => ?_) (fun e => ?_)
  · exact xx_set 11 nd (st rfl) (xx_nil (next _ ⟨List.Sublist.refl _, r3⟩))
  · have e := of_decide_eq_false e
    exact xx_nil (next ys ⟨hs, by omega⟩)
end
end K5
/-! Law3: the law's changes. -/
namespace K5
open PySem PySem.Spec PyProof.Rows L2
def prow (k i : Nat) : List (Int × Int) := (List.range k).map fun j => ((i : Int), ((j : Nat) : Int))
def pall (k : Nat) : List (Int × Int) := (List.range k).flatMap (prow k)
def unl (n : Nat) (kept : List (List Int)) (i j : Nat) : List Nat := (List.range n).filter fun c => !decide ((kept.getD i []).getD c 0 = (kept.getD j []).getD c 0)
structure PrsOk (n : Nat) (kept : List (List Int)) (prs : List (Int × Int)) : Prop where
  sub : prs.Sublist (pall kept.length)
  one : ∀ p ∈ prs, (unl n kept p.1.toNat p.2.toNat).length = 1
section
variable {P : Program} {w : World} {K : PySem.W.Frag} {mg : Str → Option Value} {base : Heap} {f : Addr}
abbrev prsE (prs : List (Int × Int)) : Option En := some (.im (Li (prs.map pI)))
theorem pI_app (l : List (Int × Int)) (p : Int × Int) : l.map pI ++ [pI p] = (l ++ [p]).map pI := by rw [List.map_append]; rfl
theorem law_c (T : Txt K mg) {cdv : Value} {A0 : Around} {outer : List Env} {s : Shared} {H : Hp} {E : XK} {a A i : Addr} {n m pace : Nat} {kept : List (List Int)} {R : Res → Prop} (hr : Room 8 (xL P w K mg base f cdv A0 outer s H E).A) (dr : Drawn n m) (ko : KeptOk n kept)
    (next : ∀ prs, PrsOk n kept prs → XX (xL P w K mg base f cdv A0 outer s H E) (Bd H H A i) (jA a A n m pace (none :: keptE kept :: prsE prs :: none :: none :: none :: none :: some (.im (Li [sizD n, .list (kept.map tI), .list (prs.map pI)])) :: some (.im (I (kept.length : Nat))) :: List.replicate 12 none)) ((defBody s_law).drop 12) R) :
    XX (xL P w K mg base f cdv A0 outer s H E) (Bd H H A i) (jA a A n m pace (none :: keptE kept :: List.replicate 19 none)) ((defBody s_law).drop 9) R := by
  have nd := sc_law.nd
  have n23 : n = 2 ∨ n = 3 := by rcases dr with h | h <;> omega
  obtain ⟨rf, r3, r8⟩ := rows_few n n23
  have k8 : kept.length ≤ 8 := Nat.le_trans ko.sub.length_le r8
  have kl : ∀ r ∈ kept, r.length = n := fun r hr => by
    have := allRows_mem (two n) n (by rw [List.length_replicate]; exact Nat.le_refl _) r (by rw [List.take_of_length_le (by rw [List.length_replicate]; exact Nat.le_refl _)]; exact ko.sub.subset hr)
    exact this
  let G : List (Int × Int) → DEnv := fun prs => jA a A n m pace (none :: keptE kept :: some (.lst (prs.map pI)) :: List.replicate 18 none)
  let Gi : List (Int × Int) → Nat → DEnv := fun prs x => jA a A n m pace (none :: keptE kept :: some (.lst (prs.map pI)) :: some (.im (I (x : Nat))) :: List.replicate 17 none)
  have plen : ∀ (k x : Nat), (prow k x).length = k := fun k x => by unfold prow; rw [List.length_map, List.length_range]
  have pal : ∀ k, (pall k).length = k * k := fun k => by
    unfold pall
    rw [List.length_flatMap]
    have : (List.range k).map (fun x => (prow k x).length) = List.replicate k k := by
      rw [List.eq_replicate_iff]
      refine ⟨by rw [List.length_map, List.length_range], fun b hb => ?_⟩
      obtain ⟨x, _, rfl⟩ := List.mem_map.mp hb
      exact plen k x
    rw [this]
    have aux : ∀ j : Nat, (List.replicate j k).sum = j * k := fun j => by
      induction j with
      | zero => simp
      | succ j ih => rw [List.replicate_succ, List.sum_cons, ih, Nat.succ_mul, Nat.add_comm]
    exact aux k
  refine xx_own 12 nd ef_nil ?_
  refine xx_seq (R1 := fun r => ∃ prs, r = .nx (G prs) ∧ PrsOk n kept prs) (x1_for (fun x ρ => ∃ prs : List (Int × Int), ρ = G prs ∧ prs.Sublist ((List.range x).flatMap (prow kept.length)) ∧ ∀ p ∈ prs, (unl n kept p.1.toNat p.2.toNat).length = 1) PassesOwn.never rfl (ei_rng (n := kept.length) (ee_is (ee_lenL (ds := kept.map tI) (ee_var 11) T.n_len) (by rw [List.length_map])) T.n_range (by omega)) (eg_1 (i := 13) nd) ⟨[], rfl, List.nil_sublist _, fun p h => by cases h⟩ ?_ ?_) ?_ (fun x ⟨_, e, _⟩ => by cases e) (fun x ⟨_, e, _⟩ => by cases e) (fun x ⟨_, e, _⟩ => by cases e)
  · rintro x d ρ1 hi ⟨prs, rfl, hs, h1⟩
    have xk : x < kept.length := by
      have := (List.getElem?_eq_some_iff.mp hi).1
      rw [rgD_len] at this
      exact this
    rw [rgD_at xk] at hi
    cases hi
    refine ⟨_, rfl, ?_⟩
    refine xx_end (x1_for (fun y ρ => ∃ prs : List (Int × Int), ρ = Gi prs x ∧ prs.Sublist ((List.range x).flatMap (prow kept.length) ++ (prow kept.length x).take y) ∧ ∀ p ∈ prs, (unl n kept p.1.toNat p.2.toNat).length = 1) PassesOwn.never rfl (ei_rng (n := kept.length) (ee_is (ee_lenL (ds := kept.map tI) (ee_var 11) T.n_len) (by rw [List.length_map])) T.n_range (by omega)) (eg_1 (i := 14) nd) ⟨prs, rfl, by rw [List.take_zero, List.append_nil]; exact hs, h1⟩ ?_ ?_)
    · rintro y d ρ1 hi ⟨prs, rfl, hs, h1⟩
      have yk : y < kept.length := by
        have := (List.getElem?_eq_some_iff.mp hi).1
        rw [rgD_len] at this
        exact this
      rw [rgD_at yk] at hi
      cases hi
      refine ⟨_, rfl, ?_⟩
      have gx : kept[x]? = some (kept.getD x []) := by rw [List.getD_eq_getElem?_getD, List.getElem?_eq_getElem xk]; rfl
      have gy : kept[y]? = some (kept.getD y []) := by rw [List.getD_eq_getElem?_getD, List.getElem?_eq_getElem yk]; rfl
      have lx : (kept.getD x []).length = n := kl _ (List.mem_of_getElem? gx)
      have ly : (kept.getD y []).length = n := kl _ (List.mem_of_getElem? gy)
      have cell : ∀ {r : List Int} {c : Nat}, r.length = n → c < n → (r.map PyData.int)[c]? = some (.int (r.getD c 0)) := fun {r c} hl hc => by
        rw [List.getElem?_map, List.getD_eq_getElem?_getD, List.getElem?_eq_getElem (by omega)]
        rfl
      let cnt := unl n kept x y
      have cn : cnt.length ≤ n := by
        have := List.length_filter_le (fun c => !decide ((kept.getD x []).getD c 0 = (kept.getD y []).getD c 0)) (List.range n)
        rw [List.length_range] at this
        exact this
      refine xx_set 16 (y := I (cnt.length : Nat)) nd (ee_is (ee_lenL (ds := cnt.map fun c : Nat => .int (c : Nat)) (ee_lc1 (i := 15) (xs := List.range n) (enc := fun c : Nat => .int (c : Nat)) (f := fun c : Nat => .int (c : Nat)) (p := fun c => !decide ((kept.getD x []).getD c 0 = (kept.getD y []).getD c 0)) rfl nd (ei_rng (n := n) (ee_var 6) T.n_range (by omega)) rfl (fun s H C cl fp c hc => ?_) (fun s H C cl fp c hc _ => ee_var 15) (sl_of (by rw [List.length_range]; omega))) T.n_len) (by rw [List.length_map])) ?_
      · have cl : c < n := List.mem_range.mp hc
        exact ets_one (ec_et (ec_neI (ee_ixTn (ds := (kept.getD x []).map .int) (ee_ixLn (d := tI (kept.getD x [])) (ds := kept.map tI) (ee_var 11) (ee_var 13) (by rw [List.getElem?_map, gx]; rfl)) (ee_var 15) (cell lx cl)) (ee_ixTn (ds := (kept.getD y []).map .int) (ee_ixLn (d := tI (kept.getD y [])) (ds := kept.map tI) (ee_var 11) (ee_var 14) (by rw [List.getElem?_map, gy]; rfl)) (ee_var 15) (cell ly cl))))
      have ty : (prow kept.length x).take (y + 1) = (prow kept.length x).take y ++ [((x : Int), (y : Int))] := take_at (by unfold prow; rw [List.getElem?_map, List.getElem?_range yk]; rfl)
      refine xx_end (x1_ifN (P := fun c => c = true → decide ((cnt.length : Int) = 1) = true ∧ True) (etN_and (P := fun _ => True) (ec_et (ec_eqI (ee_var 16) ee_int)) fun _ => etN_gt (P := fun _ => True) (en_imp (en_any T (l := 1) (hr.mono (by decide)) rfl ee_int (by decide) (by decide)) fun y ⟨r, ey, _⟩ => ⟨r, ey, trivial⟩) ee_int) (fun hp => ?_) (fun _ => xx_nil ⟨Gi prs x, ?_, prs, rfl, ?_, h1⟩))
      · have c1 := of_decide_eq_true (hp rfl).1
        have l300 : prs.length < sizeLine := by
          have := hs.length_le
          rw [List.length_append, List.length_take, plen] at this
          have e : ((List.range x).flatMap (prow kept.length)).length ≤ 64 := by
            have h2 : ((List.range x).flatMap (prow kept.length)).Sublist (pall kept.length) := by
              unfold pall
              have : List.range kept.length = List.range x ++ (List.range kept.length).drop x := by
                rw [← List.take_append_drop x (List.range kept.length), List.take_range, Nat.min_eq_left (by omega)]
                simp
              rw [this, List.flatMap_append]
              exact List.sublist_append_left ..
            have := h2.length_le
            rw [pal] at this
            have h3 : kept.length * kept.length ≤ 8 * 8 := Nat.mul_le_mul k8 k8
            omega
          rw [sizeLine_eq]
          omega
        refine xx_end (x1_mono (x1_app (i := 12) (ds := prs.map pI) (d := pI ((x : Int), (y : Int))) rfl (ee_tup (ds := [.int x, .int y]) (ea_cons (ee_var 13) (ea_cons (ee_var 14) ea_nil)) (sl_le rfl)) (by rw [List.length_map]; exact l300)) fun r hr => ?_)
        subst hr
        rw [pI_app]
        refine ⟨Gi (prs ++ [((x : Int), (y : Int))]) x, ?_, prs ++ [((x : Int), (y : Int))], rfl, ?_, ?_⟩
        · exact ⟨rfl, rfl, rfl, rfl, rfl, rfl, rfl, rfl, rfl, rfl, rfl, rfl, rfl, trivial⟩
        · rw [ty, ← List.append_assoc]
          exact hs.append (List.Sublist.refl _)
        · intro p hp
          rcases List.mem_append.mp hp with hp | hp
          · exact h1 p hp
          · rw [List.mem_singleton] at hp
            rw [hp]
            show (unl n kept (x : Int).toNat (y : Int).toNat).length = 1
            have : cnt.length = 1 := by omega
            exact this
      · exact ⟨rfl, rfl, rfl, rfl, rfl, rfl, rfl, rfl, rfl, rfl, rfl, rfl, rfl, trivial⟩
      · rw [ty, ← List.append_assoc]
        exact hs.trans (List.sublist_append_left ..)
    · rintro ρ1 ⟨prs, rfl, hs, h1⟩
      rw [rgD_len, List.take_of_length_le (by rw [plen]; exact Nat.le_refl _)] at hs
      refine ⟨G prs, ?_, prs, rfl, ?_, h1⟩
      · exact ⟨rfl, rfl, rfl, rfl, rfl, rfl, rfl, rfl, rfl, rfl, rfl, rfl, trivial⟩
      · rw [List.range_succ, List.flatMap_append, List.flatMap_cons, List.flatMap_nil, List.append_nil]
        exact hs
  · rintro ρ1 ⟨prs, rfl, hs, h1⟩
    rw [rgD_len] at hs
    exact ⟨prs, rfl, hs, h1⟩
  · rintro ρ' ⟨prs, e, po⟩
    cases e
    refine xx_frzL 12 rfl (xx_le (ρ' := jA a A n m pace (none :: keptE kept :: some (.im (Li (prs.map pI))) :: List.replicate 18 none)) ?_ (Le.refl _))
    refine xx_par (i := 17) (j := 18) (u := Li [sizD n, .list (kept.map tI), .list (prs.map pI)]) (v := I (kept.length : Nat)) rfl nd (by decide) (ee_lst (ds := [sizD n, .list (kept.map tI), .list (prs.map pI)]) (ea_cons (ee_var 4) (ea_cons (ee_var 11) (ea_cons (ee_var 12) ea_nil))) (sl_le rfl)) (ee_is (ee_lenL (ds := kept.map tI) (ee_var 11) T.n_len) (by rw [List.length_map])) ?_
    exact xx_le (next prs po) (by exact ⟨rfl, rfl, rfl, rfl, rfl, rfl, rfl, rfl, rfl, rfl, rfl, rfl, rfl, rfl, trivial⟩)
end
end K5
/-! Law4: the law's question. -/
namespace K5
open PySem PySem.Spec PyProof.Rows L2
abbrev toldE (n : Nat) (kept : List (List Int)) (prs : List (Int × Int)) : Option En := some (.im (Li [sizD n, .list (kept.map tI), .list (prs.map pI)]))
structure QstOk (many at_ : Nat) (q : List Int) : Prop where
  len : q.length = many
  bit : ∀ x ∈ q, 0 ≤ x ∧ x < 2
  lt : at_ < many
section
variable {P : Program} {w : World} {K : PySem.W.Frag} {mg : Str → Option Value} {base : Heap} {f : Addr}
theorem ints_of : ∀ {ds : List PyData}, (∀ d ∈ ds, ∃ r : Int, d = .int r ∧ 0 ≤ r ∧ r < 2) → ∃ q : List Int, ds = q.map .int ∧ ∀ x ∈ q, 0 ≤ x ∧ x < 2
  | [], _ => ⟨[], rfl, fun x h => by cases h⟩
  | d :: ds, h => by
    obtain ⟨r, e, h1⟩ := h d List.mem_cons_self
    obtain ⟨q, e2, h2⟩ := ints_of (ds := ds) fun d hd => h d (List.mem_cons_of_mem _ hd)
    refine ⟨r :: q, by rw [e, e2]; rfl, fun x hx => ?_⟩
    rcases List.mem_cons.mp hx with e | hx
    · rw [e]; exact h1
    · exact h2 x hx
theorem law_d (T : Txt K mg) {cdv : Value} {A0 : Around} {outer : List Env} {s : Shared} {H : Hp} {E : XK} {a A i : Addr} {n m pace : Nat} {kept : List (List Int)} {prs : List (Int × Int)} {R : Res → Prop} (hr : Room 8 (xL P w K mg base f cdv A0 outer s H E).A) (k3 : 3 ≤ kept.length) (k8 : kept.length ≤ 8)
    (next : ∀ (at_ : Nat) (q : List Int), QstOk kept.length at_ q → XX (xL P w K mg base f cdv A0 outer s H E) (Bd H H A i) (jA a A n m pace (none :: keptE kept :: prsE prs :: none :: none :: some (.im (I (at_ : Nat))) :: none :: toldE n kept prs :: some (.im (I (kept.length : Nat))) :: some (.im (Li (q.map .int))) :: List.replicate 11 none)) ((defBody s_law).drop 14) R) :
    XX (xL P w K mg base f cdv A0 outer s H E) (Bd H H A i) (jA a A n m pace (none :: keptE kept :: prsE prs :: none :: none :: none :: none :: toldE n kept prs :: some (.im (I (kept.length : Nat))) :: List.replicate 12 none)) ((defBody s_law).drop 12) R := by
  have nd := sc_law.nd
  refine xx_tupN (l := 15) (m := 19) (P1 := fun y => ∃ at_ : Nat, y = I (at_ : Nat) ∧ at_ < kept.length) (P2 := fun y => ∃ q : List Int, y = Li (q.map .int) ∧ q.length = kept.length ∧ ∀ x ∈ q, 0 ≤ x ∧ x < 2) rfl nd
    (en_imp (en_any T (l := 1) (n := (kept.length : Nat)) (hr.mono (by decide)) rfl (ee_var 18) (by omega) (by omega)) fun y ⟨r, ey, r0, r1⟩ => ⟨r.toNat, by rw [ey, Int.toNat_of_nonneg r0], by omega⟩)
    (en_imp (en_lc0 (i := 28) (xs := List.range kept.length) (enc := fun c : Nat => .int (c : Nat)) (P := fun d => ∃ r : Int, d = .int r ∧ 0 ≤ r ∧ r < 2) rfl nd (ei_rng (n := kept.length) (ee_var 18) T.n_range (by omega)) rfl (fun s H C cl fp c hc => en_imp (en_any T (l := 1) (hr.mono (by decide)) rfl ee_int (by decide) (by decide)) fun y ⟨r, ey, r0, r1⟩ => ⟨_, ey, r, rfl, r0, r1⟩) (sl_of (by rw [List.length_range]; omega))) fun y ⟨ds, ey, hl, hd⟩ => by
      obtain ⟨q, e, h2⟩ := ints_of hd
      refine ⟨q, by rw [ey, e], ?_, h2⟩
      rw [e, List.length_map, List.length_range] at hl
      exact hl) ?_
  rintro u v ⟨at_, rfl, hat⟩ ⟨q, rfl, ql, qb⟩
  refine xx_seq (R1 := fun r => ∃ q : List Int, r = .nx (jA a A n m pace (none :: keptE kept :: prsE prs :: none :: none :: some (.im (I (at_ : Nat))) :: none :: toldE n kept prs :: some (.im (I (kept.length : Nat))) :: some (.im (Li (q.map .int))) :: List.replicate 11 none)) ∧ QstOk kept.length at_ q)
    (x1_ifN (P := fun _ => True) (etN_gt (P := fun _ => True) (en_imp (en_any T (l := 1) (hr.mono (by decide)) rfl ee_int (by decide) (by decide)) fun y ⟨r, ey, _⟩ => ⟨r, ey, trivial⟩) ee_int) (fun _ => ?_) (fun _ => xx_nil ⟨q, rfl, ql, qb, hat⟩)) (fun ρ' ⟨q, e, h⟩ => by cases e; exact next at_ q h) (fun x ⟨_, e, _⟩ => by cases e) (fun x ⟨_, e, _⟩ => by cases e) (fun x ⟨_, e, _⟩ => by cases e)
  refine xx_lc0 19 (i := 28) (xs := List.range kept.length) (enc := fun c : Nat => .int (c : Nat)) (f := fun c : Nat => .int (if (!decide (((c : Nat) : Int) = (at_ : Nat))) = true then 1 else 0)) rfl nd (ei_rng (n := kept.length) (ee_var 18) T.n_range (by omega)) rfl (fun s H C cl fp c hc => ee_intB (ee_neI (ee_var 28) (ee_var 15)) T.n_int) (sl_of (by rw [List.length_range]; omega)) (xx_nil ⟨(List.range kept.length).map fun c : Nat => if (!decide (((c : Nat) : Int) = (at_ : Nat))) = true then 1 else 0, ?_, ?_, ?_, hat⟩)
  · rw [List.map_map]
    rfl
  · rw [List.length_map, List.length_range]
  · intro x hx
    obtain ⟨c, _, rfl⟩ := List.mem_map.mp hx
    split <;> decide
end
end K5
/-! Law5: the law's house, its marks, the marked house and question. -/
namespace K5
open PySem PySem.Spec PyProof.Rows L2
abbrev houL (n : Nat) (kept : List (List Int)) (prs : List (Int × Int)) : Hou := mkHou (two n) kept prs
structure MksOk (n m : Nat) (mk : List Int) : Prop where
  len : mk.length = n
  bd : ∀ x ∈ mk, 0 ≤ x ∧ x < m
section
variable {P : Program} {w : World} {K : PySem.W.Frag} {mg : Str → Option Value} {base : Heap} {f : Addr}
theorem intsB_of {b : Int} : ∀ {ds : List PyData}, (∀ d ∈ ds, ∃ r : Int, d = .int r ∧ 0 ≤ r ∧ r < b) → ∃ q : List Int, ds = q.map .int ∧ ∀ x ∈ q, 0 ≤ x ∧ x < b
  | [], _ => ⟨[], rfl, fun x h => by cases h⟩
  | d :: ds, h => by
    obtain ⟨r, e, h1⟩ := h d List.mem_cons_self
    obtain ⟨q, e2, h2⟩ := intsB_of (ds := ds) fun d hd => h d (List.mem_cons_of_mem _ hd)
    refine ⟨r :: q, by rw [e, e2]; rfl, fun x hx => ?_⟩
    rcases List.mem_cons.mp hx with e | hx
    · rw [e]; exact h1
    · exact h2 x hx
def jB (a A : Addr) (n m pace : Nat) (kept : List (List Int)) (prs : List (Int × Int)) (at_ : Nat) (q mk : List Int) (l : DEnv) : DEnv := jA a A n m pace (none :: keptE kept :: prsE prs :: none :: none :: some (.im (I (at_ : Nat))) :: none :: toldE n kept prs :: some (.im (I (kept.length : Nat))) :: some (.im (Li (q.map .int))) :: some (.im (houL n kept prs).im) :: some (.im (Li (mk.map .int))) :: l)
theorem law_e (T : Txt K mg) {cdv : Value} {A0 : Around} {outer : List Env} {s : Shared} {H : Hp} {E : XK} {a A i : Addr} {n m pace at_ : Nat} {q : List Int} {kept : List (List Int)} {prs : List (Int × Int)} {R : Res → Prop} (hr : Room 8 (xL P w K mg base f cdv A0 outer s H E).A) (dr : Drawn n m)
    (hI : rInit [Sq true (nI (two n)), Sq false (kept.map tI), Sq false (prs.map pI)] (houL n kept prs).fds) (hM : MkOk (houL n kept prs) m) (hq : q.length = (houL n kept prs).st.length) (hq0 : ∀ x ∈ q, 0 ≤ x)
    (next : ∀ mk, MksOk n m mk → XX (xL P w K mg base f cdv A0 outer s H E) (Bd H H A i) (jB a A n m pace kept prs at_ q mk (some (.im (markedH (houL n kept prs) m).im) :: some (.im (Tu ((qM (houL n kept prs) q m).map .int))) :: List.replicate 7 none)) ((defBody s_law).drop 16) R) :
    XX (xL P w K mg base f cdv A0 outer s H E) (Bd H H A i) (jA a A n m pace (none :: keptE kept :: prsE prs :: none :: none :: some (.im (I (at_ : Nat))) :: none :: toldE n kept prs :: some (.im (I (kept.length : Nat))) :: some (.im (Li (q.map .int))) :: List.replicate 11 none)) ((defBody s_law).drop 14) R := by
  have nd := sc_law.nd
  have n23 : n = 2 ∨ n = 3 := by rcases dr with h | h <;> omega
  have m1 : 1 ≤ m := by rcases dr with h | h <;> omega
  have m5 : m ≤ 5 := by rcases dr with h | h <;> omega
  refine xx_tupN (l := 20) (m := 21) (P1 := fun y => y = (houL n kept prs).im) (P2 := fun y => ∃ mk : List Int, y = Li (mk.map .int) ∧ MksOk n m mk) rfl nd
    (ee_make T (hr.mono (by decide)) (ea_cons (ee_var 4) (ea_cons (ee_var 11) (ea_cons (ee_var 12) ea_nil))) hI)
    (en_imp (en_lc0 (i := 29) (xs := List.range n) (enc := fun c : Nat => .int (c : Nat)) (P := fun d => ∃ r : Int, d = .int r ∧ 0 ≤ r ∧ r < (m : Nat)) rfl nd (ei_rng (n := n) (ee_var 6) T.n_range (by omega)) rfl (fun s H C cl fp c hc => en_imp (en_any T (l := 1) (n := (m : Nat)) (hr.mono (by decide)) rfl (ee_var 5) (by omega) (by omega)) fun y ⟨r, ey, r0, r1⟩ => ⟨_, ey, r, rfl, r0, r1⟩) (sl_of (by rw [List.length_range]; omega))) fun y ⟨ds, ey, hl, hd⟩ => by
      obtain ⟨mk, e, h2⟩ := intsB_of hd
      refine ⟨mk, by rw [ey, e], ?_, h2⟩
      rw [e, List.length_map, List.length_range] at hl
      exact hl) ?_
  rintro u v rfl ⟨mk, rfl, mo⟩
  refine xx_par (i := 22) (j := 23) (u := (markedH (houL n kept prs) m).im) (v := Tu ((qM (houL n kept prs) q m).map .int)) rfl nd (by decide) (ee_call (c_with_marks T) (hr.mono (by decide)) (ea_cons (ee_var 20) (ea_cons (ee_var 5) ea_nil)) ⟨_, m, rfl, hM, rfl⟩) (ee_call (c_marked_question T) hr (ea_cons (ee_var 20) (ea_cons (ee_var 19) (ea_cons (ee_var 5) ea_nil))) ⟨_, m, false, q, rfl, hM, hq, hq0, rfl⟩) ?_
  exact next mk mo
end
end K5
/-! Law6: the law's row and word. -/
namespace K5
open PySem PySem.Spec PyProof.Rows L2
def valsL (n m : Nat) (kept : List (List Int)) (at_ : Nat) (mk : List Int) : List Int := (List.range n).map fun c => (kept.getD at_ []).getD c 0 * (m : Int) + mk.getD c 0
abbrev mH (n m : Nat) (kept : List (List Int)) (prs : List (Int × Int)) : Hou := markedH (houL n kept prs) m
abbrev mQ (n m : Nat) (kept : List (List Int)) (prs : List (Int × Int)) (q : List Int) : List Int := qM (houL n kept prs) q m
section
variable {P : Program} {w : World} {K : PySem.W.Frag} {mg : Str → Option Value} {base : Heap} {f : Addr}
theorem law_g (T : Txt K mg) {cdv : Value} {A0 : Around} {outer : List Env} {s : Shared} {H : Hp} {E : XK} {a A i : Addr} {n m pace at_ : Nat} {q mk wd : List Int} {kept : List (List Int)} {prs : List (Int × Int)} {R : Res → Prop} (hr : Room 8 (xL P w K mg base f cdv A0 outer s H E).A) (dr : Drawn n m)
    (kl : ∀ r ∈ kept, r.length = n) (qo : QstOk kept.length at_ q) (mo : MksOk n m mk) (hz : (mH n m kept prs).sz.length = n) (hS : SightOk (mH n m kept prs) (mQ n m kept prs q) (valsL n m kept at_ mk))
    (hW : Searched (mH n m kept prs) (othersI (mQ n m kept prs q) (q.getD at_ 0)) (shownL (mH n m kept prs) (othersI (mQ n m kept prs q) (q.getD at_ 0)) (valsL n m kept at_ mk)) pace (.inl wd))
    (next : XX (xL P w K mg base f cdv A0 outer s H E) (Bd H H A i) (jB a A n m pace kept prs at_ q mk (some (.im (mH n m kept prs).im) :: some (.im (Tu ((mQ n m kept prs q).map .int))) :: some (.im (.dat (tI wd))) :: List.replicate 6 none)) ((defBody s_law).drop 19) R) :
    XX (xL P w K mg base f cdv A0 outer s H E) (Bd H H A i) (jB a A n m pace kept prs at_ q mk (some (.im (mH n m kept prs).im) :: some (.im (Tu ((mQ n m kept prs q).map .int))) :: List.replicate 7 none)) ((defBody s_law).drop 16) R := by
  have nd := sc_law.nd
  have n23 : n = 2 ∨ n = 3 := by rcases dr with h | h <;> omega
  have m5 : m ≤ 5 := by rcases dr with h | h <;> omega
  have ga : kept[at_]? = some (kept.getD at_ []) := by rw [List.getD_eq_getElem?_getD, List.getElem?_eq_getElem qo.lt]; rfl
  have la : (kept.getD at_ []).length = n := kl _ (List.mem_of_getElem? ga)
  have cell : ∀ {r : List Int} {c : Nat}, r.length = n → c < n → (r.map PyData.int)[c]? = some (.int (r.getD c 0)) := fun {r c} hl hc => by
    rw [List.getElem?_map, List.getD_eq_getElem?_getD, List.getElem?_eq_getElem (by omega)]
    rfl
  have gq : (q.map PyData.int)[at_]? = some (.int (q.getD at_ 0)) := by
    rw [List.getElem?_map, List.getD_eq_getElem?_getD, List.getElem?_eq_getElem (by rw [qo.len]; exact qo.lt)]
    rfl
  have row : rowD (valsL n m kept at_ mk) = (List.range n).map fun c => valD ((kept.getD at_ []).getD c 0 * (m : Int) + mk.getD c 0) := by
    unfold rowD valsL
    rw [List.map_map]
    rfl
  refine xx_set 10 (y := Tu (rowD (valsL n m kept at_ mk))) nd (ee_is (ee_tuple (ee_lc0 (i := 29) (xs := List.range n) (enc := fun c : Nat => .int (c : Nat)) (f := fun c => valD ((kept.getD at_ []).getD c 0 * (m : Int) + mk.getD c 0)) rfl nd (ei_rng (n := n) (ee_var 6) T.n_range (by omega)) rfl (fun s H C cl fp c hc => ?_) (sl_of (by rw [List.length_range]; omega))) T.n_tuple) (by rw [row])) ?_
  · have cl : c < n := List.mem_range.mp hc
    exact ee_tup (ds := [.int ((kept.getD at_ []).getD c 0 * (m : Int) + mk.getD c 0)]) (ea_cons (ee_add (ee_mul (ee_ixTn (ds := (kept.getD at_ []).map .int) (ee_ixLn (d := tI (kept.getD at_ [])) (ds := kept.map tI) (ee_var 11) (ee_var 15) (by rw [List.getElem?_map, ga]; rfl)) (ee_var 29) (cell la cl)) (ee_var 5) (.inr ⟨by omega, by omega⟩)) (ee_ixLn (ds := mk.map .int) (ee_var 21) (ee_var 29) (cell mo.len cl))) ea_nil) (sl_le rfl)
  refine xx_set 24 (y := .dat (tI wd)) nd (ee_call (c_pace_word T) (hr.mono (by decide)) (ea_cons (ee_var 22) (ea_cons (ee_call (c_cell_view T) (hr.mono (by decide)) (ea_cons (ee_var 22) ea_nil) ⟨_, rfl, by rw [hz]; omega, rfl⟩) (ea_cons (ee_var 23) (ea_cons (ee_ixLn (ds := q.map .int) (ee_var 19) (ee_var 15) gq) (ea_cons (ee_var 10) (ea_cons (ee_var 9) ea_nil)))))) ⟨_, _, _, _, _, .inl wd, ⟨rfl, hS⟩, hW, rfl⟩) ?_
  refine xx_ifn (ec_et (ec_isN (bb := false) (ee_var 24) (fun K M v r => ?_))) rfl ?_
  · obtain ⟨t, vs, rfl, _⟩ := rI_tupH (ds := wd.map .int) r
    rfl
  exact xx_le next ⟨rfl, rfl, rfl, rfl, rfl, rfl, rfl, rfl, rfl, rfl, rfl, rfl, rfl, rfl, rfl, rfl, rfl, rfl, rfl, rfl, rfl, trivial⟩
end
end K5
/-! Law7: nothing outlives the law's word. -/
namespace K5
open PySem PySem.Spec PyProof.Rows L2
def shL (n : Nat) (kept : List (List Int)) (at_ : Nat) (mk : List Int) : List (Int × Int) := (List.range n).map fun c => ((kept.getD at_ []).getD c 0, mk.getD c 0)
section
variable {P : Program} {w : World} {K : PySem.W.Frag} {mg : Str → Option Value} {base : Heap} {f : Addr}
theorem law_h (T : Txt K mg) {cdv : Value} {A0 : Around} {outer : List Env} {s : Shared} {H : Hp} {E : XK} {a A i : Addr} {n m pace at_ : Nat} {q mk : List Int} {wd : List Nat} {kept : List (List Int)} {prs : List (Int × Int)} {R : Res → Prop} (hr : Room 8 (xL P w K mg base f cdv A0 outer s H E).A) (dr : Drawn n m)
    (kl : ∀ r ∈ kept, r.length = n) (qo : QstOk kept.length at_ q) (ql : q.length ≤ 1000) (mo : MksOk n m mk) (hT : Told n kept prs (othersI q (q.getD at_ 0)) m) (hw : ∀ c ∈ wd, c < n) (hl : wd.length ≤ 10000)
    (hO : outl (movesOf kept prs (othersI q (q.getD at_ 0)) m) pace kept (shL n kept at_ mk) wd (everyS (othersI q (q.getD at_ 0)) m n) = [])
    (next : XX (xL P w K mg base f cdv A0 outer s H E) (Bd H H A i) (jB a A n m pace kept prs at_ q mk (List.replicate 9 none)) ((defBody s_law).drop 21) R) :
    XX (xL P w K mg base f cdv A0 outer s H E) (Bd H H A i) (jB a A n m pace kept prs at_ q mk (some (.im (mH n m kept prs).im) :: some (.im (Tu ((mQ n m kept prs q).map .int))) :: some (.im (Tu (nI wd))) :: List.replicate 6 none)) ((defBody s_law).drop 19) R := by
  have nd := sc_law.nd
  have n23 : n = 2 ∨ n = 3 := by rcases dr with h | h <;> omega
  have ga : kept[at_]? = some (kept.getD at_ []) := by rw [List.getD_eq_getElem?_getD, List.getElem?_eq_getElem qo.lt]; rfl
  have la : (kept.getD at_ []).length = n := kl _ (List.mem_of_getElem? ga)
  have cell : ∀ {r : List Int} {c : Nat}, r.length = n → c < n → (r.map PyData.int)[c]? = some (.int (r.getD c 0)) := fun {r c} hl hc => by
    rw [List.getElem?_map, List.getD_eq_getElem?_getD, List.getElem?_eq_getElem (by omega)]
    rfl
  have gq : (q.map PyData.int)[at_]? = some (.int (q.getD at_ 0)) := by
    rw [List.getElem?_map, List.getD_eq_getElem?_getD, List.getElem?_eq_getElem (by rw [qo.len]; exact qo.lt)]
    rfl
  have sh : (shL n kept at_ mk).map pI = (List.range n).map fun c => pI ((kept.getD at_ []).getD c 0, mk.getD c 0) := by
    unfold shL
    rw [List.map_map]
    rfl
  refine xx_lc0 25 (i := 29) (xs := List.range n) (enc := fun c : Nat => .int (c : Nat)) (f := fun c => pI ((kept.getD at_ []).getD c 0, mk.getD c 0)) rfl nd (ei_rng (n := n) (ee_var 6) T.n_range (by omega)) rfl (fun s H C cl fp c hc => ?_) (sl_of (by rw [List.length_range]; omega)) ?_
  · have cl : c < n := List.mem_range.mp hc
    exact ee_tup (ds := [.int ((kept.getD at_ []).getD c 0), .int (mk.getD c 0)]) (ea_cons (ee_ixTn (ds := (kept.getD at_ []).map .int) (ee_ixLn (d := tI (kept.getD at_ [])) (ds := kept.map tI) (ee_var 11) (ee_var 15) (by rw [List.getElem?_map, ga]; rfl)) (ee_var 29) (cell la cl)) (ea_cons (ee_ixLn (ds := mk.map .int) (ee_var 21) (ee_var 29) (cell mo.len cl)) ea_nil)) (sl_le rfl)
  rw [← sh]
  have two_n : (two n).length = n := List.length_replicate
  refine xx_ifn (t := !(outl (movesOf kept prs (othersI q (q.getD at_ 0)) m) pace kept (shL n kept at_ mk) wd (everyS (othersI q (q.getD at_ 0)) m n)).isEmpty) (et_val (ee_call (c_law_outlived T) (hr.mono (by decide)) (ea_cons (ee_var 17) (ea_cons (ee_call (c_law_others T) (hr.mono (by decide)) (ea_cons (ee_var 19) (ea_cons (ee_ixLn (ds := q.map .int) (ee_var 19) (ee_var 15) gq) ea_nil)) ⟨q, _, rfl, ql, rfl⟩) (ea_cons (ee_var 5) (ea_cons (ee_var 9) (ea_cons (ee_var 25) (ea_cons (ee_list (ee_var 24) T.n_list) ea_nil))))))
    ⟨false, two n, kept, prs, othersI q (q.getD at_ 0), m, pace, shL n kept at_ mk, wd, rfl, by rw [two_n]; exact hT, by rw [two_n]; unfold shL; rw [List.length_map, List.length_range], by rw [two_n]; exact hw, hl, by rw [two_n]⟩)) (by rw [hO]; rfl) ?_
  exact xx_le next ⟨rfl, rfl, rfl, rfl, rfl, rfl, rfl, rfl, rfl, rfl, rfl, rfl, rfl, rfl, rfl, rfl, rfl, rfl, trivial⟩
end
end K5
/-! Law8: three cells: done; two: the free house. -/
namespace K5
open PySem PySem.Spec PyProof.Rows L2
theorem en_addE {X : Cx} {B : Bs} {ρ : DEnv} {a b : Expr} {pos : Pos} {i : Int} {P : Int → Prop} (ha : EE X B ρ a (I i)) (hb : EN X B ρ b fun y => ∃ r, y = I r ∧ P r) : EN X B ρ (.BinOp a .Add b pos) fun y => ∃ r, y = I (i + r) ∧ P r :=
  en_op op_add ha hb fun x y v u σ M H Q e1 e2 k r1 r2 q => by
    subst e1
    obtain ⟨r, rfl, hp⟩ := e2
    exact ⟨i, r, rI_int r1, rI_int r2, q (I (i + r)) _ M H ⟨r, rfl, hp⟩ k.refl (.int _)⟩
section
variable {P : Program} {w : World} {K : PySem.W.Frag} {mg : Str → Option Value} {base : Heap} {f : Addr}
def fQ : List Int := [0, 1, 1, 1]
theorem law_i (T : Txt K mg) {cdv : Value} {A0 : Around} {outer : List Env} {s : Shared} {H : Hp} {E : XK} {a A i : Addr} {n m pace at_ : Nat} {q mk : List Int} {kept : List (List Int)} {prs : List (Int × Int)} {R : Res → Prop} (hr : Room 8 (xL P w K mg base f cdv A0 outer s H E).A) (dr : Drawn n m) (hR : R (.rt (Bl true)))
    (next : n = 2 → ∀ x : Nat, x < 3 → XX (xL P w K mg base f cdv A0 outer s H E) (Bd H H A i) (jB a A n m (trip m + x) kept prs at_ q mk (List.replicate 4 none ++ some (.im freeH.im) :: List.replicate 4 none)) ((defBody s_law).drop 23) R) :
    XX (xL P w K mg base f cdv A0 outer s H E) (Bd H H A i) (jB a A n m pace kept prs at_ q mk (List.replicate 9 none)) ((defBody s_law).drop 21) R := by
  have nd := sc_law.nd
  have n23 : n = 2 ∨ n = 3 := by rcases dr with h | h <;> omega
  refine xx_if (t := decide ((2 : Int) < (n : Nat))) (ec_et (ec_gt (ee_var 6) ee_int)) (fun _ => xx_ret ee_bl hR) (fun e => xx_nil ?_)
  have e := of_decide_eq_false e
  have n2 : n = 2 := by omega
  refine xx_parN (l := 26) (m := 9) (P1 := fun y => y = freeH.im) (P2 := fun y => ∃ x : Nat, y = I ((trip m + x : Nat) : Int) ∧ x < 3) rfl nd (by decide) (ee_call (c_free_house T) hr (ea_cons (ee_tup (ds := nI sz2) (ea_cons ee_int (ea_cons ee_int ea_nil)) (sl_le rfl)) ea_nil) ⟨rfl, rfl⟩)
    (en_imp (en_addE (i := (trip m : Nat)) (P := fun r => 0 ≤ r ∧ r < 3) (ee_var 7) (en_any T (l := 1) (n := 3) (hr.mono (by decide)) rfl ee_int (by decide) (by decide))) fun y ⟨r, ey, r0, r1⟩ => ⟨r.toNat, by rw [ey, Int.natCast_add, Int.toNat_of_nonneg r0], by omega⟩) ?_
  rintro u v rfl ⟨x, rfl, hx⟩
  exact next n2 x hx
end
end K5
/-! Law9: the free house, marked, and its table. -/
namespace K5
open PySem PySem.Spec PyProof.Rows L2
section
variable {P : Program} {w : World} {K : PySem.W.Frag} {mg : Str → Option Value} {base : Heap} {f : Addr}
abbrev fH (m : Nat) : Hou := markedH freeH m
abbrev fA (m : Nat) : List Int := qM freeH fQ m
theorem law_j (T : Txt K mg) {cdv : Value} {A0 : Around} {outer : List Env} {s : Shared} {H : Hp} {E : XK} {a A i : Addr} {n m pace at_ : Nat} {q mk : List Int} {kept : List (List Int)} {prs : List (Int × Int)} {R : Res → Prop} (hr : Room 8 (xL P w K mg base f cdv A0 outer s H E).A) (hM : MkOk freeH m) (hfl : fQ.length = freeH.st.length) (mkl : mk.length ≤ 3)
    (next : XX (xL P w K mg base f cdv A0 outer s H E) (Bd H H A i) (jA a A n m pace (some (.im (Tu (rowD mk))) :: keptE kept :: prsE prs :: none :: none :: some (.im (I (at_ : Nat))) :: none :: toldE n kept prs :: some (.im (I (kept.length : Nat))) :: some (.im (Li (q.map .int))) :: some (.im (houL n kept prs).im) :: some (.im (Li (mk.map .int))) :: some (.im (fH m).im) :: some (.im (Tu ((fA m).map .int))) :: none :: none :: some (.im freeH.im) :: List.replicate 4 none)) ((defBody s_law).drop 25) R) :
    XX (xL P w K mg base f cdv A0 outer s H E) (Bd H H A i) (jB a A n m pace kept prs at_ q mk (List.replicate 4 none ++ some (.im freeH.im) :: List.replicate 4 none)) ((defBody s_law).drop 23) R := by
  have nd := sc_law.nd
  refine xx_par (i := 22) (j := 23) (u := (fH m).im) (v := Tu ((fA m).map .int)) rfl nd (by decide) (ee_call (c_with_marks T) (hr.mono (by decide)) (ea_cons (ee_var 26) (ea_cons (ee_var 5) ea_nil)) ⟨_, m, rfl, hM, rfl⟩) (ee_call (c_marked_question T) hr (ea_cons (ee_var 26) (ea_cons (ee_lst (ds := fQ.map .int) (ea_cons ee_int (ea_cons ee_int (ea_cons ee_int (ea_cons ee_int ea_nil)))) (sl_le rfl)) (ea_cons (ee_var 5) ea_nil))) ⟨_, m, false, fQ, rfl, hM, hfl, by decide, rfl⟩) ?_
  refine xx_set 10 (y := Tu (rowD mk)) nd (ee_tuple (ee_lc0 (i := 30) (xs := mk) (enc := .int) (f := valD) rfl nd (ei_lst (ee_var 21)) rfl (fun s H C cl fp c hc => ee_tup (ds := [.int c]) (ea_cons (ee_var 30) ea_nil) (sl_le rfl)) (sl_of (by omega))) T.n_tuple) ?_
  exact next
end
end K5
/-! Law10: the free house's table, no word. -/
namespace K5
open PySem PySem.Spec PyProof.Rows L2
section
variable {P : Program} {w : World} {K : PySem.W.Frag} {mg : Str → Option Value} {base : Heap} {f : Addr}
def jC (a A : Addr) (n m pace : Nat) (kept : List (List Int)) (prs : List (Int × Int)) (at_ : Nat) (q mk : List Int) (tb : Option En) : DEnv := jA a A n m pace (some (.im (Tu (rowD mk))) :: keptE kept :: prsE prs :: none :: none :: some (.im (I (at_ : Nat))) :: none :: toldE n kept prs :: some (.im (I (kept.length : Nat))) :: some (.im (Li (q.map .int))) :: some (.im (houL n kept prs).im) :: some (.im (Li (mk.map .int))) :: some (.im (fH m).im) :: some (.im (Tu ((fA m).map .int))) :: none :: none :: some (.im freeH.im) :: tb :: List.replicate 3 none)
theorem law_k (T : Txt K mg) {cdv : Value} {A0 : Around} {outer : List Env} {s : Shared} {H : Hp} {E : XK} {a A i : Addr} {n m pace at_ : Nat} {q mk : List Int} {met : List (List Int)} {kept : List (List Int)} {prs : List (Int × Int)} {R : Res → Prop} (hr : Room 8 (xL P w K mg base f cdv A0 outer s H E).A) (hz : (fH m).sz.length = 2)
    (hS : SightOk (fH m) (fA m) mk) (hW : Searched (fH m) (othersI (fA m) 0) (shownL (fH m) (othersI (fA m) 0) mk) pace (.inr met)) (hl : met.length < 64) (hk : ∀ k ∈ met, k ≠ [] ∧ k.length ≤ 1000)
    (next : XX (xL P w K mg base f cdv A0 outer s H E) (Bd H H A i) (jC a A n m pace kept prs at_ q mk (some (.im (Tu ((leastOf met).map tI))))) ((defBody s_law).drop 26) R) :
    XX (xL P w K mg base f cdv A0 outer s H E) (Bd H H A i) (jC a A n m pace kept prs at_ q mk none) ((defBody s_law).drop 25) R := by
  have nd := sc_law.nd
  refine xx_set 27 (y := Tu ((leastOf met).map tI)) nd (ee_call (c_pace_table T) (hr.mono (by decide)) (ea_cons (ee_var 22) (ea_cons (ee_call (c_cell_view T) (hr.mono (by decide)) (ea_cons (ee_var 22) ea_nil) ⟨_, rfl, by rw [hz]; decide, rfl⟩) (ea_cons (ee_var 23) (ea_cons ee_int (ea_cons (ee_var 10) (ea_cons (ee_var 9) ea_nil)))))) ⟨_, _, _, _, _, met, ⟨rfl, hS⟩, hW, hl, hk, rfl⟩) ?_
  exact next
end
end K5
/-! Law11: no word in the free house. -/
namespace K5
open PySem PySem.Spec PyProof.Rows L2
section
variable {P : Program} {w : World} {K : PySem.W.Frag} {mg : Str → Option Value} {base : Heap} {f : Addr}
theorem law_l (T : Txt K mg) {cdv : Value} {A0 : Around} {outer : List Env} {s : Shared} {H : Hp} {E : XK} {a A i : Addr} {n m pace at_ : Nat} {q mk : List Int} {met tb : List (List Int)} {kept : List (List Int)} {prs : List (Int × Int)} {R : Res → Prop} (hr : Room 8 (xL P w K mg base f cdv A0 outer s H E).A) (hz : (fH m).sz.length = 2)
    (hS : SightOk (fH m) (fA m) mk) (hW : Searched (fH m) (othersI (fA m) 0) (shownL (fH m) (othersI (fA m) 0) mk) pace (.inr met))
    (next : XX (xL P w K mg base f cdv A0 outer s H E) (Bd H H A i) (jC a A n m pace kept prs at_ q mk (some (.im (Tu (tb.map tI))))) ((defBody s_law).drop 27) R) :
    XX (xL P w K mg base f cdv A0 outer s H E) (Bd H H A i) (jC a A n m pace kept prs at_ q mk (some (.im (Tu (tb.map tI))))) ((defBody s_law).drop 26) R := by
  have nd := sc_law.nd
  refine xx_ifn ((ew_or (ec_et (ec_notN (bb := true) (x := .dat .none) (ee_call (c_pace_word T) (hr.mono (by decide)) (ea_cons (ee_var 22) (ea_cons (ee_call (c_cell_view T) (hr.mono (by decide)) (ea_cons (ee_var 22) ea_nil) ⟨_, rfl, by rw [hz]; decide, rfl⟩) (ea_cons (ee_var 23) (ea_cons ee_int (ea_cons (ee_var 10) (ea_cons (ee_var 9) ea_nil)))))) ⟨_, _, _, _, _, .inr met, ⟨rfl, hS⟩, hW, rfl⟩) (fun K M v r => by cases r; rfl))) fun _ => ew_or1 (ec_et (ec_isN (bb := false) (ee_var 27) (fun K M v r => by obtain ⟨t, vs, rfl, _⟩ := rI_tupH (ds := tb.map tI) r; rfl)))).et) (by decide) next
end
end K5
/-! Law12: the free house's table holds. -/
namespace K5
open PySem PySem.Spec PyProof.Rows L2
section
variable {P : Program} {w : World} {K : PySem.W.Frag} {mg : Str → Option Value} {base : Heap} {f : Addr}
theorem law_m (T : Txt K mg) {cdv : Value} {A0 : Around} {outer : List Env} {s : Shared} {H : Hp} {E : XK} {a A i : Addr} {n m pace at_ : Nat} {q mk : List Int} {tb : List (List Int)} {kept : List (List Int)} {prs : List (Int × Int)} {R : Res → Prop} (hr : Room 8 (xL P w K mg base f cdv A0 outer s H E).A) (hz : (fH m).sz.length = 2)
    (hS : SightOk (fH m) (fA m) mk) (hI : SrchIn (fH m) (othersI (fA m) 0) (shownL (fH m) (othersI (fA m) 0) mk)) (t0 : tb ≠ []) (tl : tb.length ≤ 1000) (tok : ∀ l ∈ tb, LotOk l (othersI (fA m) 0) ∧ l.Nodup)
    (tc : ∀ l ∈ tb, ∀ one ∈ shownL (fH m) (othersI (fA m) 0) mk, (tb.any fun z => partB z (leftP (fH m).ah (othersI (fA m) 0) one l pace)) = true)
    (next : XX (xL P w K mg base f cdv A0 outer s H E) (Bd H H A i) (jC a A n m pace kept prs at_ q mk (some (.im (Tu (tb.map tI))))) ((defBody s_law).drop 28) R) :
    XX (xL P w K mg base f cdv A0 outer s H E) (Bd H H A i) (jC a A n m pace kept prs at_ q mk (some (.im (Tu (tb.map tI))))) ((defBody s_law).drop 27) R := by
  have nd := sc_law.nd
  refine xx_ifn (et_not (et_val (ee_call (c_pace_holds T) (hr.mono (by decide)) (ea_cons (ee_var 22) (ea_cons (ee_call (c_cell_view T) (hr.mono (by decide)) (ea_cons (ee_var 22) ea_nil) ⟨_, rfl, by rw [hz]; decide, rfl⟩) (ea_cons (ee_var 23) (ea_cons ee_int (ea_cons (ee_var 10) (ea_cons (ee_var 9) (ea_cons (ee_var 27) ea_nil))))))) ⟨_, _, _, _, _, tb, _, ⟨rfl, hS⟩, rfl, hI, t0, tl, tok, tc, rfl⟩))) rfl next
end
end K5
/-! Law13: the end of the free house. -/
namespace K5
open PySem PySem.Spec PyProof.Rows L2
section
variable {P : Program} {w : World} {K : PySem.W.Frag} {mg : Str → Option Value} {base : Heap} {f : Addr}
def shF (mk : List Int) : List (Int × Int) := mk.map fun x => (0, x)
theorem law_n (T : Txt K mg) {cdv : Value} {A0 : Around} {outer : List Env} {s : Shared} {H : Hp} {E : XK} {a A i : Addr} {n m pace at_ : Nat} {q mk : List Int} {tb : List (List Int)} {kept : List (List Int)} {prs : List (Int × Int)} {R : Res → Prop} (hr : Room 8 (xL P w K mg base f cdv A0 outer s H E).A) (mkl : mk.length = 2)
    (hT : Told 2 (allRows (two 2)) freeH.ch [1, 2, 3] m) (hO : outl (movesOf (allRows (two 2)) freeH.ch [1, 2, 3] m) pace (allRows (two 2)) (shF mk) [0, 1, 0, 1, 0] (everyS [1, 2, 3] m 2) ≠ []) (hR : R (.rt (Bl true))) :
    XX (xL P w K mg base f cdv A0 outer s H E) (Bd H H A i) (jC a A n m pace kept prs at_ q mk (some (.im (Tu (tb.map tI))))) ((defBody s_law).drop 28) R := by
  have nd := sc_law.nd
  obtain ⟨rf, r3, r8⟩ := rows_few 2 (.inl rfl)
  have sh : (shF mk).map pI = mk.map fun x => pI (0, x) := by unfold shF; rw [List.map_map]; rfl
  refine xx_par (i := 17) (j := 25) (u := Li (toldD true (two 2) (allRows (two 2)) freeH.ch)) (v := Li ((shF mk).map pI)) rfl nd (by decide) (ee_lst (ds := toldD true (two 2) (allRows (two 2)) freeH.ch) (ea_cons (ee_var 2) (ea_cons (ee_call (c_law_standings T) (hr.mono (by decide)) (ea_cons (ee_var 2) ea_nil) ⟨true, two 2, rfl, by decide, by decide, rf, rfl⟩) (ea_cons (ee_chgs T (ee_var 26)) ea_nil))) (sl_le rfl))
    (ee_is (ee_lc0 (i := 30) (xs := mk) (enc := .int) (f := fun x => pI (0, x)) rfl nd (ei_lst (ee_var 21)) rfl (fun s H C cl fp c hc => ee_tup (ds := [.int 0, .int c]) (ea_cons ee_int (ea_cons (ee_var 30) ea_nil)) (sl_le rfl)) (sl_of (by omega))) (by rw [sh])) ?_
  refine xx_ret (ee_is (ee_call (c_law_outlived T) (hr.mono (by decide)) (ea_cons (ee_var 17) (ea_cons (ee_lst (ds := [.int 1, .int 2, .int 3]) (ea_cons ee_int (ea_cons ee_int (ea_cons ee_int ea_nil))) (sl_le rfl)) (ea_cons (ee_var 5) (ea_cons (ee_var 9) (ea_cons (ee_var 25) (ea_cons (ee_lst (ds := nI [0, 1, 0, 1, 0]) (ea_cons ee_int (ea_cons ee_int (ea_cons ee_int (ea_cons ee_int (ea_cons ee_int ea_nil))))) (sl_le rfl)) ea_nil))))))
    ⟨true, two 2, allRows (two 2), freeH.ch, [1, 2, 3], m, pace, shF mk, [0, 1, 0, 1, 0], rfl, hT, by unfold shF; rw [List.length_map]; exact mkl, by decide, by decide, rfl⟩) ?_) hR
  show Bl _ = Bl true
  congr 2
  cases h : outl (movesOf (allRows (two 2)) freeH.ch [1, 2, 3] m) pace (allRows (two 2)) (shF mk) [0, 1, 0, 1, 0] (everyS [1, 2, 3] m 2) with
  | nil => exact absurd h hO
  | cons _ _ =>
    rw [show (two 2).length = 2 from rfl, h]
    rfl
end
end K5
/-! Pl1: who is reached by a spread. -/
namespace K5
inductive Walk {α : Type} (nx : α → α → Prop) : Nat → α → α → Prop
  | zero (a : α) : Walk nx 0 a a
  | succ {k : Nat} {a b c : α} : nx a b → Walk nx k b c → Walk nx (k + 1) a c
structure Adds {α β : Type} (f : List α × List α → β → List α × List α) (Q : β → α → Prop) : Prop where
  all : ∀ s b x, x ∈ (f s b).1 ↔ x ∈ s.1 ∨ Q b x
  new : ∀ s b x, x ∈ (f s b).1 → x ∈ s.1 ∨ x ∈ (f s b).2
  old : ∀ s b x, x ∈ s.2 → x ∈ (f s b).2
  only : ∀ s b x, x ∈ (f s b).2 → x ∈ s.2 ∨ Q b x
theorem Adds.fold {α β : Type} {f : List α × List α → β → List α × List α} {Q : β → α → Prop} (h : Adds f Q) : Adds (fun s (l : List β) => l.foldl f s) fun l x => ∃ b ∈ l, Q b x := by
  refine ⟨fun s l => ?_, fun s l => ?_, fun s l => ?_, fun s l => ?_⟩
  · induction l generalizing s with
    | nil => intro x; simp
    | cons b l ih =>
      intro x
      show x ∈ (l.foldl f (f s b)).1 ↔ _
      rw [ih, h.all]
      simp only [List.mem_cons, exists_eq_or_imp, or_assoc]
  · induction l generalizing s with
    | nil => intro x hx; exact .inl hx
    | cons b l ih =>
      intro x hx
      have old : ∀ (l : List β) s, x ∈ s.2 → x ∈ (l.foldl f s).2 := fun l => by
        induction l with
        | nil => exact fun s h => h
        | cons b l ih => exact fun s hs => ih _ (h.old _ _ _ hs)
      rcases ih (f s b) x hx with h1 | h1
      · rcases h.new _ _ _ h1 with h2 | h2
        · exact .inl h2
        · exact .inr (old l _ h2)
      · exact .inr h1
  · induction l generalizing s with
    | nil => exact fun x hx => hx
    | cons b l ih => exact fun x hx => ih (f s b) x (h.old _ _ _ hx)
  · induction l generalizing s with
    | nil => exact fun x hx => .inl hx
    | cons b l ih =>
      intro x hx
      rcases ih (f s b) x hx with h1 | ⟨c, hc, h1⟩
      · rcases h.only _ _ _ h1 with h2 | h2
        · exact .inl h2
        · exact .inr ⟨b, List.mem_cons_self, h2⟩
      · exact .inr ⟨c, List.mem_cons_of_mem _ hc, h1⟩
/-- what a spread is -/
structure IsSpread {α : Type} (go : List α × List α → List α → List α × List α) (nx : α → α → Prop) (sp : Nat → List α → List α → List α) : Prop where
  z : ∀ f m, sp 0 f m = m
  s : ∀ k f m, sp (k + 1) f m = if f = [] then m else sp k (go (m, []) f).2 (go (m, []) f).1
  a : Adds go fun l x => ∃ b ∈ l, nx b x
section
variable {α : Type} {go : List α × List α → List α → List α × List α} {nx : α → α → Prop} {sp : Nat → List α → List α → List α}
theorem IsSpread.sub (h : IsSpread go nx sp) {x : α} : ∀ (k : Nat) (f m : List α), (∀ a ∈ f, a ∈ m) → x ∈ sp k f m → ∃ a ∈ m, ∃ j, j ≤ k ∧ Walk nx j a x
  | 0, f, m, _, hx => by
    rw [h.z] at hx
    exact ⟨x, hx, 0, Nat.le_refl _, .zero _⟩
  | k + 1, f, m, hf, hx => by
    rw [h.s] at hx
    by_cases e : f = []
    · rw [if_pos e] at hx
      exact ⟨x, hx, 0, Nat.zero_le _, .zero _⟩
    · rw [if_neg e] at hx
      obtain ⟨a, ha, j, hj, wk⟩ := h.sub k _ _ (fun a ha => by
        rcases h.a.only _ _ _ ha with h1 | h1
        · cases h1
        · exact (h.a.all _ _ _).mpr (.inr h1)) hx
      rcases (h.a.all _ _ _).mp ha with h1 | ⟨b, hb, h1⟩
      · exact ⟨a, h1, j, by omega, wk⟩
      · exact ⟨b, hf b hb, j + 1, by omega, .succ h1 wk⟩
theorem IsSpread.sup (h : IsSpread go nx sp) {x : α} : ∀ (k : Nat) (f m : List α), (∀ a ∈ m, a ∉ f → ∀ g, nx a g → g ∈ m) → ∀ a ∈ m, ∀ j, j ≤ k → Walk nx j a x → x ∈ sp k f m
  | 0, f, m, _, a, ha, j, hj, wk => by
    rw [h.z]
    cases wk with
    | zero => exact ha
    | succ => omega
  | k + 1, f, m, inv, a, ha, j, hj, wk => by
    rw [h.s]
    by_cases e : f = []
    · rw [if_pos e]
      subst e
      clear hj
      induction wk with
      | zero => exact ha
      | succ n _ ih => exact ih (inv _ ha (by simp) _ n)
    · rw [if_neg e]
      have hm : ∀ a ∈ m, a ∈ (go (m, []) f).1 := fun a ha => (h.a.all _ _ _).mpr (.inl ha)
      have inv2 : ∀ a ∈ (go (m, []) f).1, a ∉ (go (m, []) f).2 → ∀ g, nx a g → g ∈ (go (m, []) f).1 := fun a ha hn g hg => by
        rcases h.a.new _ _ _ ha with h1 | h1
        · by_cases hf : a ∈ f
          · exact (h.a.all _ _ _).mpr (.inr ⟨a, hf, hg⟩)
          · exact hm _ (inv a h1 hf g hg)
        · exact absurd h1 hn
      cases wk with
      | zero => exact h.sup k _ _ inv2 x (hm _ ha) 0 (Nat.zero_le _) (.zero _)
      | @succ k' _ b _ n wk =>
        refine h.sup k _ _ inv2 b ?_ k' (by omega) wk
        by_cases hf : a ∈ f
        · exact (h.a.all _ _ _).mpr (.inr ⟨a, hf, n⟩)
        · exact hm _ (inv a ha hf b n)
theorem IsSpread.iff (h : IsSpread go nx sp) {x : α} (k : Nat) (f : List α) : x ∈ sp k f f ↔ ∃ a ∈ f, ∃ j, j ≤ k ∧ Walk nx j a x :=
  ⟨h.sub k f f fun _ h => h, fun ⟨a, ha, j, hj, wk⟩ => h.sup k f f (fun a h1 h2 => absurd h1 h2) a ha j hj wk⟩
end
/-- one change inside -/
def nxI (ah : List (List Int)) (inside : List Int) (a b : Int) : Prop := b ∈ aheadAt ah a ∧ b ∈ inside
theorem isF (ah : List (List Int)) (inside : List Int) : IsSpread (fun s f => goOver ah inside f s) (nxI ah inside) (spreadF ah inside) := by
  have a1 : Adds (addG inside) fun g x => x = g ∧ g ∈ inside := by
    refine ⟨fun s b x => ?_, fun s b x hx => ?_, fun s b x hx => ?_, fun s b x hx => ?_⟩
    · unfold addG
      by_cases h : b ∈ inside ∧ b ∉ s.1
      · rw [if_pos h]
        simp [h.1]
      · rw [if_neg h]
        constructor
        · exact .inl
        · rintro (h1 | ⟨rfl, h2⟩)
          · exact h1
          · exact Decidable.not_not.mp fun h3 => h ⟨h2, h3⟩
    · unfold addG at hx ⊢
      by_cases h : b ∈ inside ∧ b ∉ s.1
      · rw [if_pos h] at hx ⊢
        simp at hx ⊢
        rcases hx with h1 | h1
        · exact .inl h1
        · exact .inr (.inr h1)
      · rw [if_neg h] at hx ⊢
        exact .inl hx
    · unfold addG
      by_cases h : b ∈ inside ∧ b ∉ s.1
      · rw [if_pos h]
        exact List.mem_append_left _ hx
      · rw [if_neg h]
        exact hx
    · unfold addG at hx
      by_cases h : b ∈ inside ∧ b ∉ s.1
      · rw [if_pos h] at hx
        rcases List.mem_append.mp hx with h1 | h1
        · exact .inl h1
        · exact .inr ⟨List.mem_singleton.mp h1, h.1⟩
      · rw [if_neg h] at hx
        exact .inl hx
  have a2 := a1.fold
  have a3 : Adds (fun s n => (aheadAt ah n).foldl (addG inside) s) (nxI ah inside) := by
    have e : ∀ n x, (∃ b ∈ aheadAt ah n, x = b ∧ b ∈ inside) ↔ nxI ah inside n x := fun n x => ⟨fun ⟨b, h1, h2, h3⟩ => by subst h2; exact ⟨h1, h3⟩, fun h => ⟨x, h.1, rfl, h.2⟩⟩
    exact ⟨fun s b x => (a2.all s _ x).trans (or_congr Iff.rfl (e b x)), fun s b x => a2.new s _ x, fun s b x => a2.old s _ x, fun s b x h => (a2.only s _ x h).imp id (e b x).mp⟩
  exact ⟨fun _ _ => rfl, fun _ _ _ => rfl, a3.fold⟩
theorem isS (mv : Sta → List Sta) : IsSpread (fun s f => goS mv f s) (fun a b => b ∈ mv a) (spreadS mv) := by
  have a1 : Adds addS fun (g x : Sta) => x = g := by
    refine ⟨fun s b x => ?_, fun s b x hx => ?_, fun s b x hx => ?_, fun s b x hx => ?_⟩
    · unfold addS
      by_cases h : b ∈ s.1
      · rw [if_pos h]
        exact ⟨.inl, fun h1 => h1.elim id fun e => e ▸ h⟩
      · rw [if_neg h]
        simp
    · unfold addS at hx ⊢
      by_cases h : b ∈ s.1
      · rw [if_pos h] at hx ⊢
        exact .inl hx
      · rw [if_neg h] at hx ⊢
        rcases List.mem_append.mp hx with h1 | h1
        · exact .inl h1
        · exact .inr (List.mem_append_right _ h1)
    · unfold addS
      by_cases h : b ∈ s.1
      · rw [if_pos h]; exact hx
      · rw [if_neg h]; exact List.mem_append_left _ hx
    · unfold addS at hx
      by_cases h : b ∈ s.1
      · rw [if_pos h] at hx; exact .inl hx
      · rw [if_neg h] at hx
        rcases List.mem_append.mp hx with h1 | h1
        · exact .inl h1
        · exact .inr (List.mem_singleton.mp h1)
  have a2 := a1.fold
  have a3 : Adds (fun s st => (mv st).foldl addS s) (fun a b => b ∈ mv a) := by
    have e : ∀ (n x : Sta), (∃ b ∈ mv n, x = b) ↔ x ∈ mv n := fun n x => ⟨fun ⟨b, h1, h2⟩ => h2 ▸ h1, fun h => ⟨x, h, rfl⟩⟩
    exact ⟨fun s b x => (a2.all s _ x).trans (or_congr Iff.rfl (e b x)), fun s b x => a2.new s _ x, fun s b x => a2.old s _ x, fun s b x h => (a2.only s _ x h).imp id (e b x).mp⟩
  exact ⟨fun _ _ => rfl, fun _ _ _ => rfl, a3.fold⟩
theorem mem_left {ah : List (List Int)} {others shown lot : List Int} {pace : Nat} {x : Int} : x ∈ leftP ah others shown lot pace ↔ ∃ a, a ∈ lot ∧ a ∈ shown ∧ ∃ j, j ≤ pace ∧ Walk (nxI ah others) j a x := by
  unfold leftP
  rw [mem_srtI, (isF ah others).iff]
  unfold frontOf
  constructor
  · rintro ⟨a, ha, r⟩
    rw [List.mem_filter] at ha
    exact ⟨a, ha.1, of_decide_eq_true ha.2, r⟩
  · rintro ⟨a, h1, h2, r⟩
    exact ⟨a, List.mem_filter.mpr ⟨h1, decide_eq_true h2⟩, r⟩
end K5
/-! Pl2: how a search ends. -/
namespace K5
theorem partB_iff {a b : List Int} : partB a b = true ↔ ∀ x ∈ a, x ∈ b := by
  unfold partB
  rw [List.all_eq_true]
  exact ⟨fun h x hx => of_decide_eq_true (h x hx), fun h x hx => decide_eq_true (h x hx)⟩
theorem partB_rfl (a : List Int) : partB a a = true := partB_iff.mpr fun _ h => h
abbrev LW := List Int × List Int
def itemsS (n : Nat) (layer : List LW) : List (LW × Nat) := layer.flatMap fun lw => (List.range n).map fun w => (lw, w)
theorem mem_items {n : Nat} {layer : List LW} {it : LW × Nat} : it ∈ itemsS n layer ↔ it.1 ∈ layer ∧ it.2 < n := by
  unfold itemsS
  rw [List.mem_flatMap]
  constructor
  · rintro ⟨lw, h, h2⟩
    obtain ⟨w, hw, rfl⟩ := List.mem_map.mp h2
    exact ⟨h, List.mem_range.mp hw⟩
  · rintro ⟨h1, h2⟩
    exact ⟨it.1, h1, List.mem_map.mpr ⟨it.2, List.mem_range.mpr h2, rfl⟩⟩
section
variable {left : Nat → List Int → List Int} {n : Nat}
theorem layer_items (met : List (List Int)) (layer : List LW) : layerS left n met layer = (itemsS n layer).foldl (fun s it => stepS left it.1.1 it.1.2 s it.2) (.go met []) := by
  unfold layerS
  generalize SS.go met [] = s
  induction layer generalizing s with
  | nil => rfl
  | cons lw layer ih =>
    show layer.foldl (lotS left n) (lotS left n s lw) = _
    rw [ih]
    have : itemsS n (lw :: layer) = ((List.range n).map fun w => (lw, w)) ++ itemsS n layer := List.flatMap_cons
    rw [this, List.foldl_append, List.foldl_map]
    rfl
/-- what one layer comes to -/
def Out (left : Nat → List Int → List Int) (items : List (LW × Nat)) (met : List (List Int)) (fol : List LW) (c : Nat) : SS → Prop
  | .found wd => ∃ it ∈ items, left it.2 it.1.1 = [] ∧ wd = it.1.2 ++ [(it.2 : Int)]
  | .go met' fol' => ∃ add : List LW, met' = met ++ add.map (·.1) ∧ fol' = fol ++ add ∧ add.length ≤ c ∧ (met.Nodup → met'.Nodup) ∧
      (∀ p ∈ add, ∃ it ∈ items, p = (left it.2 it.1.1, it.1.2 ++ [(it.2 : Int)]) ∧ p.1 ≠ []) ∧ ∀ it ∈ items, left it.2 it.1.1 ≠ [] ∧ ∃ l ∈ met', partB l (left it.2 it.1.1) = true
  | .bad => 2000 < met.length + c
def cnt (left : Nat → List Int → List Int) (items : List (LW × Nat)) : Nat := items.countP fun it => !partB it.1.1 (left it.2 it.1.1)
theorem fold_found {w : List Int} : ∀ (items : List (LW × Nat)), items.foldl (fun s it => stepS left it.1.1 it.1.2 s it.2) (.found w) = .found w
  | [] => rfl
  | _ :: items => fold_found items
theorem fold_bad : ∀ (items : List (LW × Nat)), items.foldl (fun s it => stepS left it.1.1 it.1.2 s it.2) .bad = .bad
  | [] => rfl
  | _ :: items => fold_bad items
theorem out_fold : ∀ (items : List (LW × Nat)) (met : List (List Int)) (fol : List LW), (∀ it ∈ items, it.1.1 ∈ met) → Out left items met fol (cnt left items) (items.foldl (fun s it => stepS left it.1.1 it.1.2 s it.2) (.go met fol))
  | [], met, fol, _ => ⟨[], by simp, by simp, Nat.le_refl _, fun h => h, fun p h => absurd h (by simp), fun p h => absurd h (by simp)⟩
  | it :: items, met, fol, hin => by
    rw [List.foldl_cons]
    have hin2 : ∀ it ∈ items, it.1.1 ∈ met := fun x hx => hin x (List.mem_cons_of_mem _ hx)
    by_cases h0 : left it.2 it.1.1 = []
    · have e : stepS left it.1.1 it.1.2 (.go met fol) it.2 = .found (it.1.2 ++ [(it.2 : Int)]) := by
        show (if left it.2 it.1.1 = [] then _ else _) = _
        rw [if_pos h0]
      rw [e, fold_found]
      exact ⟨it, List.mem_cons_self, h0, rfl⟩
    · by_cases h1 : (met.any fun l => partB l (left it.2 it.1.1)) = true
      · have e : stepS left it.1.1 it.1.2 (.go met fol) it.2 = .go met fol := by
          show (if left it.2 it.1.1 = [] then _ else if _ then _ else _) = _
          rw [if_neg h0, if_pos h1]
        rw [e]
        obtain ⟨lm, hlm, hp⟩ := List.any_eq_true.mp h1
        have le : cnt left items ≤ cnt left (it :: items) := by
          unfold cnt
          rw [List.countP_cons]
          exact Nat.le_add_right _ _
        have ih := out_fold items met fol hin2
        generalize items.foldl (fun s it => stepS left it.1.1 it.1.2 s it.2) (.go met fol) = r at ih
        cases r with
        | found wd =>
          obtain ⟨x, hx, h2, h3⟩ := ih
          exact ⟨x, List.mem_cons_of_mem _ hx, h2, h3⟩
        | bad =>
          have ih : 2000 < met.length + cnt left items := ih
          show 2000 < met.length + cnt left (it :: items)
          omega
        | go met' fol' =>
          obtain ⟨add, a1, a2, a3, a4, a5, a6⟩ := ih
          refine ⟨add, a1, a2, by omega, a4, fun p hp => ?_, fun x hx => ?_⟩
          · obtain ⟨x, hx, h2⟩ := a5 p hp
            exact ⟨x, List.mem_cons_of_mem _ hx, h2⟩
          · rcases List.mem_cons.mp hx with rfl | hx
            · exact ⟨h0, lm, by rw [a1]; exact List.mem_append_left _ hlm, hp⟩
            · exact a6 x hx
      · have le : cnt left (it :: items) = cnt left items + 1 := by
          unfold cnt
          rw [List.countP_cons, if_pos]
          have : ¬ partB it.1.1 (left it.2 it.1.1) = true := fun h => h1 (List.any_eq_true.mpr ⟨it.1.1, hin it List.mem_cons_self, h⟩)
          simp [this]
        by_cases h2 : met.length = 2000
        · have e : stepS left it.1.1 it.1.2 (.go met fol) it.2 = .bad := by
            show (if left it.2 it.1.1 = [] then _ else if _ then _ else if _ then _ else _) = _
            rw [if_neg h0, if_neg h1, if_pos h2]
          rw [e, fold_bad]
          show 2000 < met.length + cnt left (it :: items)
          omega
        · have e : stepS left it.1.1 it.1.2 (.go met fol) it.2 = .go (met ++ [left it.2 it.1.1]) (fol ++ [(left it.2 it.1.1, it.1.2 ++ [(it.2 : Int)])]) := by
            show (if left it.2 it.1.1 = [] then _ else if _ then _ else if _ then _ else _) = _
            rw [if_neg h0, if_neg h1, if_neg h2]
          rw [e]
          have ih := out_fold items (met ++ [left it.2 it.1.1]) (fol ++ [(left it.2 it.1.1, it.1.2 ++ [(it.2 : Int)])]) fun x hx => List.mem_append_left _ (hin2 x hx)
          generalize items.foldl (fun s it => stepS left it.1.1 it.1.2 s it.2) (.go (met ++ [left it.2 it.1.1]) (fol ++ [(left it.2 it.1.1, it.1.2 ++ [(it.2 : Int)])])) = r at ih
          cases r with
          | found wd =>
            obtain ⟨x, hx, h2, h3⟩ := ih
            exact ⟨x, List.mem_cons_of_mem _ hx, h2, h3⟩
          | bad =>
            have ih : 2000 < (met ++ [left it.2 it.1.1]).length + cnt left items := ih
            show 2000 < met.length + cnt left (it :: items)
            rw [List.length_append, List.length_singleton] at ih
            omega
          | go met' fol' =>
            obtain ⟨add, a1, a2, a3, a4, a5, a6⟩ := ih
            refine ⟨(left it.2 it.1.1, it.1.2 ++ [(it.2 : Int)]) :: add, by rw [a1]; simp, by rw [a2]; simp, by rw [List.length_cons]; omega, fun nd => a4 ?_, fun p hp => ?_, fun x hx => ?_⟩
            · rw [List.nodup_append]
              refine ⟨nd, by simp, fun a ha b hb e => h1 ?_⟩
              rw [List.mem_singleton] at hb
              subst hb
              subst e
              exact List.any_eq_true.mpr ⟨_, ha, partB_rfl _⟩
            · rcases List.mem_cons.mp hp with rfl | hp
              · exact ⟨it, List.mem_cons_self, rfl, h0⟩
              · obtain ⟨x, hx, h2⟩ := a5 p hp
                exact ⟨x, List.mem_cons_of_mem _ hx, h2⟩
            · rcases List.mem_cons.mp hx with rfl | hx
              · exact ⟨h0, _, by rw [a1]; exact List.mem_append_left _ (List.mem_append_right _ List.mem_cons_self), partB_rfl _⟩
              · exact a6 x hx
theorem out_layer (met : List (List Int)) (layer : List LW) (h : ∀ p ∈ layer, p.1 ∈ met) : Out left (itemsS n layer) met [] (cnt left (itemsS n layer)) (layerS left n met layer) := by
  rw [layer_items]
  exact out_fold _ _ _ fun it hit => h _ (mem_items.mp hit).1
theorem cnt_all (layer : List LW) : cnt left (itemsS n layer) ≤ n * layer.length := by
  unfold cnt
  refine Nat.le_trans List.countP_le_length ?_
  unfold itemsS
  rw [List.length_flatMap]
  induction layer with
  | nil => exact Nat.zero_le _
  | cons a l ih =>
    rw [List.map_cons, List.sum_cons, List.length_map, List.length_range, List.length_cons, Nat.mul_succ]
    omega
theorem cnt_stuck (layer : List LW) (h : ∀ p ∈ layer, ∃ w, w < n ∧ ∀ x ∈ p.1, x ∈ left w p.1) : cnt left (itemsS n layer) ≤ (n - 1) * layer.length := by
  unfold cnt itemsS
  induction layer with
  | nil => exact Nat.zero_le _
  | cons a l ih =>
    rw [List.flatMap_cons, List.countP_append, List.countP_map, List.length_cons, Nat.mul_succ]
    have ih := ih fun p hp => h p (List.mem_cons_of_mem _ hp)
    obtain ⟨w, hw, hs⟩ := h a List.mem_cons_self
    have : (List.range n).countP ((fun it : LW × Nat => !partB it.1.1 (left it.2 it.1.1)) ∘ fun w => (a, w)) ≤ n - 1 := by
      have l1 := List.countP_le_length (p := ((fun it : LW × Nat => !partB it.1.1 (left it.2 it.1.1)) ∘ fun w => (a, w))) (l := List.range n)
      have l2 : (List.range n).countP ((fun it : LW × Nat => !partB it.1.1 (left it.2 it.1.1)) ∘ fun w => (a, w)) ≠ (List.range n).length := fun e => by
        have := List.countP_eq_length.mp e w (List.mem_range.mpr hw)
        simp [partB_iff.mpr hs] at this
      rw [List.length_range] at l1 l2
      omega
    omega
def runW (left : Nat → List Int → List Int) (ws : List Nat) (l : List Int) : List Int := ws.foldl (fun l w => left w l) l
/-- the words that led to the lots of a layer -/
def WOk (left : Nat → List Int → List Int) (n : Nat) (others : List Int) (d : Nat) (p : LW) : Prop := ∃ ws : List Nat, (∀ w ∈ ws, w < n) ∧ p.2 = ws.map (fun w : Nat => (w : Int)) ∧ ws.length = d ∧ runW left ws others = p.1
def Stl (left : Nat → List Int → List Int) (n : Nat) : Nat → List Int → Prop
  | 0, l => l = []
  | k + 1, l => ∃ w, w < n ∧ Stl left n k (left w l)
theorem Stl.mono (hm : ∀ w l l', (∀ x ∈ l, x ∈ l') → ∀ x ∈ left w l, x ∈ left w l') : ∀ {k : Nat} {l l' : List Int}, (∀ x ∈ l, x ∈ l') → Stl left n k l' → Stl left n k l
  | 0, l, l', h, s => by
    have s : l' = [] := s
    show l = []
    cases l with
    | nil => rfl
    | cons a l =>
      have := h a List.mem_cons_self
      rw [s] at this
      cases this
  | k + 1, l, l', h, ⟨w, hw, s⟩ => ⟨w, hw, s.mono hm (hm w l l' h)⟩
theorem Stl.of_run : ∀ {ws : List Nat} {l : List Int}, (∀ w ∈ ws, w < n) → runW left ws l = [] → Stl left n ws.length l
  | [], _, _, h => h
  | w :: ws, l, hw, h => ⟨w, hw w List.mem_cons_self, Stl.of_run (fun x hx => hw x (List.mem_cons_of_mem _ hx)) h⟩
def need (n : Nat) : Nat → Nat → Nat
  | 0, _ => 0
  | k + 1, c => (n - 1) * c + need n k ((n - 1) * c)
theorem need_mono {n : Nat} : ∀ {j k c d : Nat}, j ≤ k → c ≤ d → need n j c ≤ need n k d
  | 0, _, _, _, _, _ => Nat.zero_le _
  | j + 1, 0, _, _, h, _ => absurd h (by omega)
  | j + 1, k + 1, c, d, h, h2 => by
    have h3 := Nat.mul_le_mul_left (n - 1) h2
    exact Nat.add_le_add h3 (need_mono (by omega) h3)
theorem least_of {p : Nat → Prop} {k : Nat} (h : p k) : ∃ j, j ≤ k ∧ p j ∧ ∀ i, p i → j ≤ i := by
  induction k using Nat.strongRecOn with
  | _ k ih =>
    by_cases e : ∃ i, i < k ∧ p i
    · obtain ⟨i, hi, pi⟩ := e
      obtain ⟨j, h1, h2, h3⟩ := ih i hi pi
      exact ⟨j, by omega, h2, h3⟩
    · exact ⟨k, Nat.le_refl _, h, fun i pi => Nat.le_of_not_lt fun hl => e ⟨i, hl, pi⟩⟩
theorem srch_found {others : List Int} (hm : ∀ w l l', (∀ x ∈ l, x ∈ l') → ∀ x ∈ left w l, x ∈ left w l') (hs : ∀ w l, ∀ x ∈ left w l, x ∈ left w (left w l)) :
    ∀ (k : Nat) (met : List (List Int)) (layer : List LW) (c d : Nat), (∀ p ∈ layer, p.1 ∈ met ∧ p.1 ≠ [] ∧ WOk left n others d p) → cnt left (itemsS n layer) ≤ c →
      (∃ p ∈ layer, Stl left n k p.1) → (∀ l ∈ met, ∀ j, Stl left n j l → k ≤ j) → met.length + c + need n (k - 1) c ≤ 2000 →
      ∃ k', k' ≤ k ∧ ∃ ws : List Nat, (∀ w ∈ ws, w < n) ∧ ws.length ≤ d + k ∧ runW left ws others = [] ∧ Srch left n k' met layer (.inl (ws.map fun w : Nat => (w : Int))) := by
  intro k
  induction k using Nat.strongRecOn with
  | _ k ih =>
    intro met layer c d hl hc ⟨p, hp, sp⟩ hk hn
    obtain ⟨p1, p2, p3⟩ := hl p hp
    cases k with
    | zero => exact absurd sp p2
    | succ k =>
      obtain ⟨w, hw, sp⟩ := sp
      have lne : layer ≠ [] := fun e => by rw [e] at hp; cases hp
      have o := out_layer (left := left) (n := n) met layer fun p hp => (hl p hp).1
      generalize hr : layerS left n met layer = r at o
      cases r with
      | found wd =>
        obtain ⟨it, hit, e0, e1⟩ := o
        obtain ⟨i1, i2⟩ := mem_items.mp hit
        obtain ⟨ws, w1, w2, w3, w4⟩ := (hl _ i1).2.2
        refine ⟨0, Nat.zero_le _, ws ++ [it.2], fun x hx => ?_, ?_, ?_, ?_⟩
        · rcases List.mem_append.mp hx with hx | hx
          · exact w1 x hx
          · rw [List.mem_singleton] at hx
            rw [hx]
            exact i2
        · rw [List.length_append, w3, List.length_singleton]
          omega
        · unfold runW at w4 ⊢
          rw [List.foldl_append, w4]
          exact e0
        · rw [List.map_append, ← w2]
          exact .found lne (hr.trans (congrArg SS.found e1))
      | bad =>
        have o : 2000 < met.length + cnt left (itemsS n layer) := o
        omega
      | go met' fol =>
        obtain ⟨add, a1, a2, a3, _, a5, a6⟩ := o
        rw [List.nil_append] at a2
        subst a2
        have hpm : (p, w) ∈ itemsS n layer := mem_items.mpr ⟨hp, hw⟩
        obtain ⟨_, l1, hl1, pl⟩ := a6 _ hpm
        have s1 : Stl left n k l1 := sp.mono hm (partB_iff.mp pl)
        obtain ⟨k', k1, ⟨l2, hl2, s2⟩, k3⟩ := least_of (p := fun j => ∃ l ∈ met', Stl left n j l) ⟨l1, hl1, s1⟩
        rw [a1] at hl2
        rcases List.mem_append.mp hl2 with hl2 | hl2
        · have := hk l2 hl2 _ s2
          omega
        · obtain ⟨q, hq, rfl⟩ := List.mem_map.mp hl2
          have hq0 : q.1 ≠ [] := by
            obtain ⟨_, _, _, h⟩ := a5 q hq
            exact h
          have k0 : 1 ≤ k' := by
            cases k' with
            | zero => exact absurd s2 hq0
            | succ _ => omega
          have hfl : ∀ p ∈ fol, ∃ w, w < n ∧ ∀ x ∈ p.1, x ∈ left w p.1 := fun p hp => by
            obtain ⟨it, hit, e, _⟩ := a5 p hp
            refine ⟨it.2, (mem_items.mp hit).2, ?_⟩
            rw [e]
            exact hs _ _
          have c1 := cnt_stuck fol hfl
          have c2 : (n - 1) * fol.length ≤ (n - 1) * c := Nat.mul_le_mul_left _ (by omega)
          obtain ⟨k2, e1, ws, e2, e3, e4, e5⟩ := ih k' (by omega) met' fol ((n - 1) * c) (d + 1) (fun p hp => by
            obtain ⟨it, hit, e, e0⟩ := a5 p hp
            refine ⟨by rw [a1]; exact List.mem_append_right _ (List.mem_map.mpr ⟨p, hp, rfl⟩), e0, ?_⟩
            obtain ⟨i1, i2⟩ := mem_items.mp hit
            obtain ⟨ws, w1, w2, w3, w4⟩ := (hl _ i1).2.2
            refine ⟨ws ++ [it.2], fun x hx => ?_, ?_, ?_, ?_⟩
            · rcases List.mem_append.mp hx with hx | hx
              · exact w1 x hx
              · rw [List.mem_singleton] at hx
                rw [hx]
                exact i2
            · rw [e, List.map_append, w2]
              rfl
            · rw [List.length_append, w3, List.length_singleton]
            · unfold runW at w4 ⊢
              rw [List.foldl_append, w4, e]
              rfl) (by omega) ⟨q, hq, s2⟩ (fun l hl j hj => k3 j ⟨l, hl, hj⟩) (by
            rw [a1, List.length_append, List.length_map]
            obtain ⟨k4, rfl⟩ : ∃ k4, k = k4 + 1 := ⟨k - 1, by omega⟩
            have n1 : need n (k' - 1) ((n - 1) * c) ≤ need n k4 ((n - 1) * c) := need_mono (by omega) (Nat.le_refl _)
            have n2 : need n (k4 + 1 + 1 - 1) c = (n - 1) * c + need n k4 ((n - 1) * c) := rfl
            omega)
          exact ⟨k2 + 1, by omega, ws, e2, by omega, e4, .more lne hr e5⟩
/-- a search among lots that are all of one family -/
theorem srch_fam {Fam : List (List Int)} (hF : ∀ l ∈ Fam, ∀ w, w < n → left w l ≠ [] ∧ left w l ∈ Fam) (few : Fam.length + n * Fam.length ≤ 2000) :
    ∀ (r : Nat) (met : List (List Int)) (layer : List LW), (∀ p ∈ layer, p.1 ∈ met) → (∀ l ∈ met, l ∈ Fam) → met.Nodup → layer.length ≤ Fam.length → Fam.length - met.length < r →
      (∀ l ∈ met, (∀ p ∈ layer, p.1 ≠ l) → ∀ w, w < n → ∃ z ∈ met, partB z (left w l) = true) →
      ∃ k, k ≤ r ∧ ∃ met', Srch left n k met layer (.inr met') ∧ (∀ l ∈ met, l ∈ met') ∧ (∀ l ∈ met', l ∈ Fam) ∧ met'.Nodup ∧ ∀ l ∈ met', ∀ w, w < n → ∃ z ∈ met', partB z (left w l) = true
  | 0, _, _, _, _, _, _, h, _ => by omega
  | r + 1, met, layer, hl, hm, nd, len, hr, hc => by
    by_cases lne : layer = []
    · subst lne
      exact ⟨0, Nat.zero_le _, met, .stop met, fun _ h => h, hm, nd, fun l hl w hw => hc l hl (fun p hp => by cases hp) w hw⟩
    · have o := out_layer (left := left) (n := n) met layer hl
      generalize hr0 : layerS left n met layer = r0 at o
      cases r0 with
      | found wd =>
        obtain ⟨it, hit, e0, e1⟩ := o
        obtain ⟨i1, i2⟩ := mem_items.mp hit
        exact absurd e0 (hF _ (hm _ (hl _ i1)) _ i2).1
      | bad =>
        have o : 2000 < met.length + cnt left (itemsS n layer) := o
        have c1 := cnt_all (left := left) (n := n) layer
        have c2 := Nat.mul_le_mul_left n len
        have c3 := nodup_sub met Fam nd hm
        omega
      | go met' fol =>
        obtain ⟨add, a1, a2, a3, a4, a5, a6⟩ := o
        rw [List.nil_append] at a2
        subst a2
        have nd' := a4 nd
        have hm' : ∀ l ∈ met', l ∈ Fam := fun l hl' => by
          rw [a1] at hl'
          rcases List.mem_append.mp hl' with h | h
          · exact hm l h
          · obtain ⟨q, hq, rfl⟩ := List.mem_map.mp h
            obtain ⟨it, hit, e, _⟩ := a5 q hq
            obtain ⟨i1, i2⟩ := mem_items.mp hit
            rw [e]
            exact (hF _ (hm _ (hl _ i1)) _ i2).2
        have len' := nodup_sub met' Fam nd' hm'
        have e1 : met'.length = met.length + fol.length := by rw [a1, List.length_append, List.length_map]
        have hc' : ∀ l ∈ met', (∀ p ∈ fol, p.1 ≠ l) → ∀ w, w < n → ∃ z ∈ met', partB z (left w l) = true := fun l hl' hn w hw => by
          rw [a1] at hl'
          rcases List.mem_append.mp hl' with h | h
          · by_cases hp : ∃ p ∈ layer, p.1 = l
            · obtain ⟨p, hp, rfl⟩ := hp
              exact (a6 (p, w) (mem_items.mpr ⟨hp, hw⟩)).2
            · obtain ⟨z, hz, hz2⟩ := hc l h (fun p h1 h2 => hp ⟨p, h1, h2⟩) w hw
              exact ⟨z, by rw [a1]; exact List.mem_append_left _ hz, hz2⟩
          · obtain ⟨q, hq, rfl⟩ := List.mem_map.mp h
            exact absurd rfl (hn q hq)
        by_cases f0 : fol = []
        · subst f0
          have : met' = met := by rw [a1]; simp
          subst this
          exact ⟨1, by omega, met', .more lne hr0 (.stop _), fun _ h => h, hm', nd', fun l hl w hw => hc' l hl (fun p hp => by cases hp) w hw⟩
        · have f1 : 0 < fol.length := List.length_pos_iff.mpr f0
          obtain ⟨k, k1, met'', s, b1, b2, b3, b4⟩ := srch_fam hF few r met' fol (fun p hp => by rw [a1]; exact List.mem_append_right _ (List.mem_map.mpr ⟨p, hp, rfl⟩)) hm' nd' (by omega) (by omega) hc'
          exact ⟨k + 1, by omega, met'', .more lne hr0 s, fun l hl => b1 l (by rw [a1]; exact List.mem_append_left _ hl), b2, b3, b4⟩
end
end K5
/-! Pl3: the changes of a marked house, by its numbers. -/
namespace K5
theorem getD_set {α : Type} (l : List α) (s k : Nat) (x d : α) : (l.set s x).getD k d = if k = s ∧ s < l.length then x else l.getD k d := by
  rw [List.getD_eq_getElem?_getD, List.getElem?_set]
  by_cases h : s = k
  · subst h
    by_cases h2 : s < l.length
    · rw [if_pos rfl, if_pos h2, if_pos ⟨rfl, h2⟩]
      rfl
    · rw [if_pos rfl, if_neg h2, if_neg fun h => h2 h.2, List.getD_eq_getElem?_getD, List.getElem?_eq_none (by omega)]
  · rw [if_neg h, if_neg fun e => h e.1.symm, List.getD_eq_getElem?_getD]
theorem rows_mem {n : Nat} {g : Int} {s : Nat} : ∀ (ch : List (Int × Int)) (r : RR), (∀ p ∈ ch, p.1.toNat < n) → (r true).length = n →
    (g ∈ (ch.foldl (fun r p => rrAdd (rrAdd r true p.1.toNat p.2) false p.2.toNat p.1) r true).getD s [] ↔ g ∈ (r true).getD s [] ∨ ∃ p ∈ ch, p.1.toNat = s ∧ p.2 = g)
  | [], r, _, _ => by simp
  | p :: ch, r, hb, hl => by
    rw [List.foldl_cons]
    have e : rrAdd (rrAdd r true p.1.toNat p.2) false p.2.toNat p.1 true = addAt (r true) p.1.toNat p.2 := by
      unfold rrAdd
      rw [if_neg (by decide), if_pos rfl]
    rw [rows_mem ch _ (fun q hq => hb q (List.mem_cons_of_mem _ hq)) (by rw [e, addAt_len]; exact hl), e]
    have hp := hb p List.mem_cons_self
    unfold addAt
    rw [getD_set]
    by_cases h : s = p.1.toNat
    · rw [if_pos ⟨h, by omega⟩, List.mem_append, List.mem_singleton, h]
      constructor
      · rintro ((h1 | h1) | ⟨q, hq, h2⟩)
        · exact .inl h1
        · exact .inr ⟨p, List.mem_cons_self, rfl, h1.symm⟩
        · exact .inr ⟨q, List.mem_cons_of_mem _ hq, h2⟩
      · rintro (h1 | ⟨q, hq, h2⟩)
        · exact .inl (.inl h1)
        · rcases List.mem_cons.mp hq with rfl | hq
          · exact .inl (.inr h2.2.symm)
          · exact .inr ⟨q, hq, h2⟩
    · rw [if_neg fun h2 => h h2.1]
      constructor
      · rintro (h1 | ⟨q, hq, h2⟩)
        · exact .inl h1
        · exact .inr ⟨q, List.mem_cons_of_mem _ hq, h2⟩
      · rintro (h1 | ⟨q, hq, h2⟩)
        · exact .inl h1
        · rcases List.mem_cons.mp hq with rfl | hq
          · exact absurd h2.1.symm h
          · exact .inr ⟨q, hq, h2⟩
theorem mem_ahead {n : Nat} {ch : List (Int × Int)} (hb : ∀ p ∈ ch, 0 ≤ p.1 ∧ p.1 < n) {a g : Int} (h0 : 0 ≤ a) : g ∈ aheadAt (aheadOf n ch) a ↔ (a, g) ∈ ch := by
  unfold aheadAt aheadOf rowsOf2
  rw [rows_mem (n := n) ch _ (fun p hp => by have := hb p hp; omega) (List.length_replicate ..)]
  constructor
  · rintro (h | ⟨p, hp, h1, h2⟩)
    · rw [List.getD_eq_getElem?_getD, List.getElem?_replicate] at h
      split at h <;> cases h
    · have := hb p hp
      have e : p = (a, g) := Prod.ext (by show p.1 = a; omega) h2
      exact e ▸ hp
  · exact fun h => .inr ⟨(a, g), h, rfl, rfl⟩
/-- the vector of a number -/
def vv (h : Hou) (m : Nat) (i : Int) : List Int := (mStds h m).getD i.toNat []
def cel (h : Hou) (m c : Nat) (i : Int) : Int := (vv h m i).getD c 0
/-- one change at a cell -/
def nxt (m : Nat) (v : Int) : Int := (1 - v / (m : Int)) * (m : Int) + (v % (m : Int) + 1) % (m : Int)
section
variable {h : Hou} {m : Nat} (o : MkOk h m)
include o
theorem srt_mStds : srtL (mStds h m) = mStds h m := srtL_fix (srtL_sorted _)
theorem mH_st : (markedH h m).st = mStds h m := srt_mStds o
theorem cel_shows (c : Nat) (i : Int) : shows (markedH h m) c i.toNat = cel h m c i := by
  unfold shows cel vv
  rw [mH_st o]
theorem vv_idx {k : List Int} (hk : k ∈ mStds h m) : vv h m (idxM h m k) = k := by
  unfold vv idxM
  rw [Int.toNat_natCast, List.getD_eq_getElem?_getD, idx_at o hk]
  rfl
theorem idx_vv {i : Int} (h0 : 0 ≤ i) (h1 : i < ((mStds h m).length : Nat)) : vv h m i ∈ mStds h m ∧ idxM h m (vv h m i) = i := by
  have hl : i.toNat < (mStds h m).length := by omega
  have e : vv h m i = (mStds h m)[i.toNat] := by
    unfold vv
    rw [List.getD_eq_getElem?_getD, List.getElem?_eq_getElem hl]
    rfl
  have hm : vv h m i ∈ mStds h m := e ▸ List.getElem_mem hl
  refine ⟨hm, ?_⟩
  have a := idx_at o hm
  have nd : (mStds h m).Nodup := srtL_nodup.mpr (rawM_nodup o)
  have l2 := List.idxOf_lt_length_of_mem hm
  have a2 := (List.getElem?_eq_some_iff.mp a).2
  have pw := List.pairwise_iff_getElem.mp nd
  have : (mStds h m).idxOf (vv h m i) = i.toNat := by
    rcases Nat.lt_trichotomy ((mStds h m).idxOf (vv h m i)) i.toNat with l | l | l
    · exact absurd (a2.trans e) (pw _ _ l2 hl l)
    · exact l
    · exact absurd (e.symm.trans a2.symm) (pw _ _ hl l2 l)
  unfold idxM
  omega
theorem idx_rng {k : List Int} (hk : k ∈ mStds h m) : 0 ≤ idxM h m k ∧ idxM h m k < ((mStds h m).length : Nat) := by
  have := List.idxOf_lt_length_of_mem hk
  unfold idxM
  omega
theorem ah_len : (markedH h m).ah.length = (mStds h m).length := rows_len _ _ _
theorem mem_mah {a b : Int} (h0 : 0 ≤ a) : b ∈ aheadAt (markedH h m).ah a ↔ (a, b) ∈ mChs h m := by
  have ok := mCh_ok o
  exact (mem_ahead (fun p hp => by have := ok.bd p (mem_srtP.mp hp); exact ⟨this.1, this.2.1⟩) h0).trans mem_srtP
/-- what a change is -/
theorem mah_iff {a b : Int} (h0 : 0 ≤ a) : b ∈ aheadAt (markedH h m).ah a ↔ ∃ p ∈ h.ch, ∃ mk ∈ everyM m h.sz.length, a = idxM h m (mStd m (h.st.getD p.1.toNat []) mk) ∧ b = idxM h m (mStd m (h.st.getD p.2.toNat []) (laterM m (h.st.getD p.1.toNat []) (h.st.getD p.2.toNat []) mk)) := by
  rw [mem_mah o h0]
  unfold mChs
  rw [List.mem_flatMap]
  constructor
  · rintro ⟨p, hp, hx⟩
    obtain ⟨mk, hmk, e⟩ := List.mem_map.mp hx
    have e1 := congrArg Prod.fst e
    have e2 := congrArg Prod.snd e
    exact ⟨p, hp, mk, hmk, e1.symm, e2.symm⟩
  · rintro ⟨p, hp, mk, hmk, rfl, rfl⟩
    exact ⟨p, hp, List.mem_map.mpr ⟨mk, hmk, rfl⟩⟩
omit o in
theorem mStd_getD {s mk : List Int} (l : s.length = mk.length) {c : Nat} (hc : c < s.length) : (mStd m s mk).getD c 0 = s.getD c 0 * (m : Int) + mk.getD c 0 := by
  have e1 : s[c]? = some (s.getD c 0) := by rw [List.getD_eq_getElem?_getD, List.getElem?_eq_getElem hc]; rfl
  have e2 : mk[c]? = some (mk.getD c 0) := by rw [List.getD_eq_getElem?_getD, List.getElem?_eq_getElem (by omega)]; rfl
  rw [List.getD_eq_getElem?_getD, mStd_at e1 e2]
  rfl
omit o in
theorem laterM_getD {s t mk : List Int} {c : Nat} (hc : c < mk.length) : (laterM m s t mk).getD c 0 = (mk.getD c 0 + (if s.getD c 0 = t.getD c 0 then 0 else 1)) % (m : Int) := by
  unfold laterM
  rw [List.getD_eq_getElem?_getD, List.getElem?_map, List.getElem?_zipIdx, List.getElem?_eq_getElem hc, List.getD_eq_getElem?_getD, List.getElem?_eq_getElem hc]
  simp
/-- numbers: contents and marks -/
theorem vv_std {i : Int} (h0 : 0 ≤ i) (h1 : i < ((mStds h m).length : Nat)) : ∃ s ∈ h.st, ∃ mk ∈ everyM m h.sz.length, vv h m i = mStd m s mk := (mem_mStds o).mp (idx_vv o h0 h1).1
theorem cel_std {s mk : List Int} (hs : s ∈ h.st) (hm : mk ∈ everyM m h.sz.length) {c : Nat} (hc : c < h.sz.length) : cel h m c (idxM h m (mStd m s mk)) = s.getD c 0 * (m : Int) + mk.getD c 0 := by
  have l1 := o.ok.len s hs
  have l2 := (mem_everyM.mp hm).1
  unfold cel
  rw [vv_idx o ((mem_mStds o).mpr ⟨s, hs, mk, hm, rfl⟩), mStd_getD (by omega) (by omega)]
omit o in
theorem every_getD {mk : List Int} {n : Nat} (hm : mk ∈ everyM m n) {c : Nat} (hc : c < n) : 0 ≤ mk.getD c 0 ∧ mk.getD c 0 < m := by
  obtain ⟨l, b⟩ := mem_everyM.mp hm
  have : mk.getD c 0 = mk[c]'(by omega) := by
    rw [List.getD_eq_getElem?_getD, List.getElem?_eq_getElem (by omega)]
    rfl
  rw [this]
  exact b _ (List.getElem_mem _)
omit o in
theorem div_std {x y : Int} (m1 : 1 ≤ m) (y0 : 0 ≤ y) (y1 : y < m) : (x * (m : Int) + y) / (m : Int) = x ∧ (x * (m : Int) + y) % (m : Int) = y := by
  constructor
  · rw [Int.add_comm, Int.add_mul_ediv_right _ _ (by omega), Int.ediv_eq_zero_of_lt y0 y1, Int.zero_add]
  · rw [Int.add_comm, Int.add_mul_emod_self_right, Int.emod_eq_of_lt y0 y1]
end
/-- contents of two, one flip at a time -/
structure Flip (h : Hou) : Prop where
  bit : ∀ s ∈ h.st, ∀ c, c < h.sz.length → s.getD c 0 = 0 ∨ s.getD c 0 = 1
  one : ∀ p ∈ h.ch, ∃ c, c < h.sz.length ∧ (h.st.getD p.1.toNat []).getD c 0 ≠ (h.st.getD p.2.toNat []).getD c 0 ∧ ∀ d, d < h.sz.length → d ≠ c → (h.st.getD p.1.toNat []).getD d 0 = (h.st.getD p.2.toNat []).getD d 0
section
variable {h : Hou} {m : Nat} (o : MkOk h m) (fl : Flip h)
include o fl
theorem cel_rng {i : Int} (h0 : 0 ≤ i) (h1 : i < ((mStds h m).length : Nat)) {c : Nat} (hc : c < h.sz.length) : 0 ≤ cel h m c i ∧ cel h m c i < 2 * (m : Int) := by
  obtain ⟨s, hs, mk, hm, e⟩ := vv_std o h0 h1
  have e2 := cel_std o hs hm hc
  rw [← e, (idx_vv o h0 h1).2] at e2
  have := every_getD hm hc
  rw [e2]
  rcases fl.bit s hs c hc with h | h
  · rw [h]; omega
  · rw [h]; omega
theorem nx_cel {others : List Int} {a b : Int} (h0 : 0 ≤ a) (nx : nxI (markedH h m).ah others a b) : ∃ c, c < h.sz.length ∧ cel h m c b = nxt m (cel h m c a) ∧ ∀ d, d < h.sz.length → d ≠ c → cel h m d b = cel h m d a := by
  obtain ⟨p, hp, mk, hm, rfl, rfl⟩ := (mah_iff o h0).mp nx.1
  obtain ⟨a0, a1, b0, b1, _⟩ := o.ch.bd p hp
  have ha := (st_at o a0 a1).2
  have hb := (st_at o b0 b1).2
  obtain ⟨c, hc, ne, eq⟩ := fl.one p hp
  have lm := (mem_everyM.mp hm).1
  have hl := later_mem o (one := h.st.getD p.1.toNat []) (other := h.st.getD p.2.toNat []) hm
  refine ⟨c, hc, ?_, fun d hd hne => ?_⟩
  · rw [cel_std o hb hl hc, cel_std o ha hm hc, laterM_getD (by omega), if_neg ne]
    have r := every_getD hm hc
    have dv := div_std (x := (h.st.getD p.1.toNat []).getD c 0) o.m1 r.1 r.2
    unfold nxt
    rw [dv.1, dv.2]
    congr 2
    rcases fl.bit _ ha c hc with h1 | h1 <;> rcases fl.bit _ hb c hc with h2 | h2 <;> omega
  · rw [cel_std o hb hl hd, cel_std o ha hm hd, laterM_getD (by omega), if_pos (eq d hd hne), eq d hd hne, Int.add_zero]
    have r := every_getD hm hd
    rw [Int.emod_eq_of_lt r.1 r.2]
end
end K5
/-! Pl4: some word settles. -/
namespace K5
def itn (f : Int → Int) : Nat → Int → Int
  | 0, v => v
  | j + 1, v => itn f j (f v)
theorem itn_add (f : Int → Int) : ∀ (i j : Nat) (v : Int), itn f j (itn f i v) = itn f (i + j) v
  | 0, j, v => by rw [Nat.zero_add]; rfl
  | i + 1, j, v => by
    rw [show i + 1 + j = (i + j) + 1 by omega]
    exact itn_add f i j (f v)
theorem walk_in {ah : List (List Int)} {others : List Int} {j : Nat} {a b : Int} (w : Walk (nxI ah others) j a b) (ha : a ∈ others) : b ∈ others := by
  induction w with
  | zero => exact ha
  | succ n _ ih => exact ih n.2
section
variable {ah : List (List Int)} {others : List Int} {shown : List (List Int)} {pace : Nat}
theorem mem_leftW {w : Nat} {lot : List Int} {x : Int} : x ∈ leftW ah others shown pace w lot ↔ ∃ a, a ∈ lot ∧ a ∈ shown.getD w [] ∧ ∃ j, j ≤ pace ∧ Walk (nxI ah others) j a x := mem_left
theorem left_mono : ∀ w l l', (∀ x ∈ l, x ∈ l') → ∀ x ∈ leftW ah others shown pace w l, x ∈ leftW ah others shown pace w l' := fun w l l' h x hx => by
  obtain ⟨a, h1, h2⟩ := mem_leftW.mp hx
  exact mem_leftW.mpr ⟨a, h a h1, h2⟩
theorem left_stuck : ∀ w l, ∀ x ∈ leftW ah others shown pace w l, x ∈ leftW ah others shown pace w (leftW ah others shown pace w l) := fun w l x hx => by
  obtain ⟨a, h1, h2, h3⟩ := mem_leftW.mp hx
  exact mem_leftW.mpr ⟨a, mem_leftW.mpr ⟨a, h1, h2, 0, Nat.zero_le _, .zero _⟩, h2, h3⟩
theorem left_in {w : Nat} {lot : List Int} (h : ∀ x ∈ lot, x ∈ others) : ∀ x ∈ leftW ah others shown pace w lot, x ∈ others := fun x hx => by
  obtain ⟨a, h1, _, j, _, h3⟩ := mem_leftW.mp hx
  exact walk_in h3 (h a h1)
theorem nil_of {l : List Int} (h : ∀ x, x ∉ l) : l = [] := by
  cases l with
  | nil => rfl
  | cons a l => exact absurd List.mem_cons_self (h a)
def alt : Nat → Nat → List Nat
  | _, 0 => []
  | c, k + 1 => c :: alt (1 - c) k
theorem alt_lt : ∀ (k c : Nat), c < 2 → ∀ w ∈ alt c k, w < 2
  | 0, _, _, w, h => by cases h
  | k + 1, c, hc, w, h => by
    rcases List.mem_cons.mp h with rfl | h
    · exact hc
    · exact alt_lt k (1 - c) (by omega) w h
theorem alt_len : ∀ (k c : Nat), (alt c k).length = k
  | 0, _ => rfl
  | k + 1, c => congrArg (· + 1) (alt_len k (1 - c))
variable {cel : Nat → Int → Int} {u : Nat → Int} {nx : Int → Int} {T : Nat}
theorem walk2 (E : ∀ a ∈ others, ∀ b, nxI ah others a b → (cel 0 b = nx (cel 0 a) ∧ cel 1 b = cel 1 a) ∨ (cel 0 b = cel 0 a ∧ cel 1 b = nx (cel 1 a))) {j : Nat} {a b : Int} (w : Walk (nxI ah others) j a b) (ha : a ∈ others) {c : Nat} (hc : c < 2) :
    ∃ p q, p + q = j ∧ cel c b = itn nx p (cel c a) ∧ cel (1 - c) b = itn nx q (cel (1 - c) a) := by
  induction w with
  | zero => exact ⟨0, 0, rfl, rfl, rfl⟩
  | @succ k a b d n w ih =>
    obtain ⟨p, q, e, e1, e2⟩ := ih n.2
    have : (cel c b = nx (cel c a) ∧ cel (1 - c) b = cel (1 - c) a) ∨ (cel c b = cel c a ∧ cel (1 - c) b = nx (cel (1 - c) a)) := by
      match c, hc with
      | 0, _ => exact E a ha b n
      | 1, _ => exact (E a ha b n).symm.imp And.symm And.symm
    rcases this with ⟨h1, h2⟩ | ⟨h1, h2⟩
    · exact ⟨p + 1, q, by omega, by rw [e1, h1]; rfl, by rw [e2, h2]⟩
    · exact ⟨p, q + 1, by omega, by rw [e1, h1], by rw [e2, h2]; rfl⟩
theorem two_run (E : ∀ a ∈ others, ∀ b, nxI ah others a b → (cel 0 b = nx (cel 0 a) ∧ cel 1 b = cel 1 a) ∨ (cel 0 b = cel 0 a ∧ cel 1 b = nx (cel 1 a)))
    (S : ∀ c, c < 2 → ∀ i ∈ shown.getD c [], cel c i = u c) (N : ∀ i ∈ others, ¬ (cel 0 i = u 0 ∧ cel 1 i = u 1)) (ret : ∀ c, c < 2 → ∀ j, 1 ≤ j → j < T → itn nx j (u c) ≠ u c) (hp : pace < T) :
    ∀ (r B c : Nat) (lot : List Int), c < 2 → (∀ x ∈ lot, x ∈ others) → (∀ i ∈ lot, cel c i = u c → ∀ q, q < B → itn nx q (cel (1 - c) i) ≠ u (1 - c)) → pace < B + r → runW (leftW ah others shown pace) (alt c (r + 2)) lot = []
  | 0, B, c, lot, hc, hl, far, hB => by
    show leftW ah others shown pace (1 - c) (leftW ah others shown pace c lot) = []
    refine nil_of fun x hx => ?_
    obtain ⟨a, h1, h2, _⟩ := mem_leftW.mp hx
    obtain ⟨i, i1, i2, j, hj, wk⟩ := mem_leftW.mp h1
    obtain ⟨p, q, e, e1, e2⟩ := walk2 E wk (hl i i1) hc
    exact far i i1 (S c hc i i2) q (by omega) (e2.symm.trans (S (1 - c) (by omega) a h2))
  | r + 1, B, c, lot, hc, hl, far, hB => by
    show runW (leftW ah others shown pace) (alt (1 - c) (r + 2)) (leftW ah others shown pace c lot) = []
    have cc : 1 - (1 - c) = c := by omega
    refine two_run E S N ret hp r (B + 1) (1 - c) _ (by omega) (left_in hl) (fun a ha ea q' hq' => ?_) (by omega)
    rw [cc]
    obtain ⟨i, i1, i2, j, hj, wk⟩ := mem_leftW.mp ha
    obtain ⟨p, q, e, e1, e2⟩ := walk2 E wk (hl i i1) hc
    have si := S c hc i i2
    have qB : B ≤ q := Nat.le_of_not_lt fun hq => far i i1 si q hq (e2.symm.trans ea)
    have p0 : p ≠ 0 := fun e0 => by
      subst e0
      have e1 : cel c a = u c := e1.trans si
      have : cel 0 a = u 0 ∧ cel 1 a = u 1 := by
        match c, hc with
        | 0, _ => exact ⟨e1, ea⟩
        | 1, _ => exact ⟨ea, e1⟩
      exact N a (left_in hl a ha) this
    rw [e1, si, itn_add]
    exact ret c hc _ (by omega) (by omega)
/-! three cells: only contents count -/
abbrev Tri := Bool × Bool × Bool
def getT (t : Tri) : Nat → Bool
  | 0 => t.1
  | 1 => t.2.1
  | _ => t.2.2
def abs3 (c : Nat) (S : List Tri) : List Tri :=
  ((S.filter fun t => getT t c) ++ (S.filter fun t => getT t c).flatMap fun t => [(!t.1, t.2.1, t.2.2), (t.1, !t.2.1, t.2.2), (t.1, t.2.1, !t.2.2)]).filter fun t => !(t.1 && (t.2.1 && t.2.2))
def all7 : List Tri := [(false, false, false), (false, false, true), (false, true, false), (false, true, true), (true, false, false), (true, false, true), (true, true, false)]
theorem abs3_end : abs3 0 (abs3 2 (abs3 1 (abs3 0 all7))) = [] := by decide +kernel
variable {b : Nat → Int → Bool}
def triO (b : Nat → Int → Bool) (i : Int) : Tri := (b 0 i, b 1 i, b 2 i)
theorem three_step (hp : pace ≤ 1) (E : ∀ a ∈ others, ∀ d, nxI ah others a d → ∃ c, c < 3 ∧ b c d = !b c a ∧ ∀ e, e < 3 → e ≠ c → b e d = b e a) (S : ∀ c, c < 3 → ∀ i ∈ shown.getD c [], b c i = true)
    (N : ∀ i ∈ others, ¬ (b 0 i = true ∧ b 1 i = true ∧ b 2 i = true)) {c : Nat} (hc : c < 3) {lot : List Int} {L : List Tri} (hl : ∀ x ∈ lot, x ∈ others ∧ triO b x ∈ L) :
    ∀ x ∈ leftW ah others shown pace c lot, x ∈ others ∧ triO b x ∈ abs3 c L := fun x hx => by
  have xo := left_in (fun y hy => (hl y hy).1) x hx
  refine ⟨xo, ?_⟩
  obtain ⟨a, a1, a2, j, hj, wk⟩ := mem_leftW.mp hx
  have sa := S c hc a a2
  obtain ⟨ao, aL⟩ := hl a a1
  unfold abs3
  rw [List.mem_filter]
  have fa : triO b a ∈ L.filter fun t => getT t c := by
    rw [List.mem_filter]
    refine ⟨aL, ?_⟩
    match c, hc with
    | 0, _ => exact sa
    | 1, _ => exact sa
    | 2, _ => exact sa
  refine ⟨?_, ?_⟩
  · cases wk with
    | zero => exact List.mem_append_left _ fa
    | succ n wk =>
      cases wk with
      | zero =>
        refine List.mem_append_right _ (List.mem_flatMap.mpr ⟨_, fa, ?_⟩)
        obtain ⟨d, hd, e1, e2⟩ := E a ao x n
        match d, hd with
        | 0, _ =>
          have : triO b x = (!(triO b a).1, (triO b a).2.1, (triO b a).2.2) := by
            unfold triO
            rw [e1, e2 1 (by decide) (by decide), e2 2 (by decide) (by decide)]
          rw [this]
          exact List.mem_cons_self
        | 1, _ =>
          have : triO b x = ((triO b a).1, !(triO b a).2.1, (triO b a).2.2) := by
            unfold triO
            rw [e1, e2 0 (by decide) (by decide), e2 2 (by decide) (by decide)]
          rw [this]
          exact List.mem_cons_of_mem _ List.mem_cons_self
        | 2, _ =>
          have : triO b x = ((triO b a).1, (triO b a).2.1, !(triO b a).2.2) := by
            unfold triO
            rw [e1, e2 0 (by decide) (by decide), e2 1 (by decide) (by decide)]
          rw [this]
          exact List.mem_cons_of_mem _ (List.mem_cons_of_mem _ List.mem_cons_self)
      | succ => omega
  · have := N x xo
    show (!(b 0 x && (b 1 x && b 2 x))) = true
    cases h0 : b 0 x <;> cases h1 : b 1 x <;> cases h2 : b 2 x <;> simp_all
theorem mem_all7 {t : Tri} (h : ¬ (t.1 = true ∧ t.2.1 = true ∧ t.2.2 = true)) : t ∈ all7 := by
  obtain ⟨x, y, z⟩ := t
  cases x <;> cases y <;> cases z <;> first | (exact absurd ⟨rfl, rfl, rfl⟩ h) | decide
theorem three_run (hp : pace ≤ 1) (E : ∀ a ∈ others, ∀ d, nxI ah others a d → ∃ c, c < 3 ∧ b c d = !b c a ∧ ∀ e, e < 3 → e ≠ c → b e d = b e a) (S : ∀ c, c < 3 → ∀ i ∈ shown.getD c [], b c i = true)
    (N : ∀ i ∈ others, ¬ (b 0 i = true ∧ b 1 i = true ∧ b 2 i = true)) : runW (leftW ah others shown pace) [0, 1, 2, 0] others = [] := by
  have h0 : ∀ x ∈ others, x ∈ others ∧ triO b x ∈ all7 := fun x hx => ⟨hx, mem_all7 (N x hx)⟩
  have h1 := three_step hp E S N (c := 0) (by decide) h0
  have h2 := three_step hp E S N (c := 1) (by decide) h1
  have h3 := three_step hp E S N (c := 2) (by decide) h2
  have h4 := three_step hp E S N (c := 0) (by decide) h3
  rw [abs3_end] at h4
  exact nil_of fun x hx => by
    have := (h4 x hx).2
    cases this
end
end K5
/-! Pl5: the houses of the law, their others. -/
namespace K5
/-! ### others -/
theorem mem_oth {q : List Int} {ans x : Int} : x ∈ othersI q ans ↔ ∃ i : Nat, x = i ∧ i < q.length ∧ q.getD i 0 ≠ ans := by
  unfold othersI
  rw [List.mem_map]
  constructor
  · rintro ⟨⟨a, i⟩, hp, rfl⟩
    rw [List.mem_filter] at hp
    obtain ⟨h1, h2⟩ := hp
    have hg : q[i]? = some a := by
      rw [List.mem_zipIdx_iff_getElem?] at h1
      exact h1
    refine ⟨i, rfl, (List.getElem?_eq_some_iff.mp hg).1, ?_⟩
    rw [List.getD_eq_getElem?_getD, hg]
    simpa using h2
  · rintro ⟨i, rfl, hi, hn⟩
    refine ⟨(q.getD i 0, i), List.mem_filter.mpr ⟨?_, by simpa using hn⟩, rfl⟩
    rw [List.mem_zipIdx_iff_getElem?]
    show q[i]? = some (q.getD i 0)
    rw [List.getD_eq_getElem?_getD, List.getElem?_eq_getElem hi]
    rfl
theorem oth_sorted (q : List Int) (ans : Int) : (othersI q ans).Pairwise (· < ·) := by
  unfold othersI
  rw [List.pairwise_map]
  refine List.Pairwise.filter _ ?_
  have : (q.zipIdx.map fun p => p.2).Pairwise (· < ·) := by
    rw [show (fun p : Int × Nat => p.2) = Prod.snd from rfl, List.zipIdx_map_snd]
    exact List.pairwise_lt_range'
  exact (List.pairwise_map.mp this).imp fun h => by omega
theorem nodup_of_ltI {l : List Int} (h : l.Pairwise (· < ·)) : l.Nodup := h.imp fun h e => by omega
theorem lkp_at : ∀ (st : List (List Int)) (q : List Int), st.Nodup → q.length = st.length → ∀ (j : Nat) (s : List Int), st[j]? = some s → lkp (st.zip q) s = q.getD j 0
  | [], _, _, _, j, s, h => by cases h
  | _ :: _, [], _, hl, _, _, _ => by cases hl
  | a :: st, b :: q, nd, hl, 0, s, h => by
    cases h
    unfold lkp
    rw [List.zip_cons_cons, List.find?_cons_of_pos (by simp)]
    rfl
  | a :: st, b :: q, nd, hl, j + 1, s, h => by
    obtain ⟨n1, n2⟩ := List.nodup_cons.mp nd
    have hm : s ∈ st := List.mem_of_getElem? (i := j) (by simpa using h)
    have ih := lkp_at st q n2 (by simpa using hl) j s (by simpa using h)
    unfold lkp at ih ⊢
    rw [List.zip_cons_cons, List.find?_cons_of_neg (by simp; intro e; exact n1 (e ▸ hm)), ih]
    rfl
section
variable {h : Hou} {m : Nat} (o : MkOk h m) {q : List Int} (hq : q.length = h.st.length)
include o
theorem houOk_marked : HouOk (markedH h m) := by
  have ok := mSt_ok o
  have e := mH_st o
  have hl : (mSz h m).length = h.sz.length := List.length_map ..
  refine ⟨by show 1 ≤ (mSz h m).length; rw [hl]; exact o.ok.c1, ok.few, fun x hx => ?_, by rw [e]; exact ok.most, fun k hk => ?_, fun k hk => ?_⟩
  · obtain ⟨y, hy, rfl⟩ := List.mem_map.mp (show x ∈ h.sz.map (· * m) from hx)
    have h1 := (o.ok.s36 y hy).1
    have h2 := o.m36 y hy
    have h3 := Nat.mul_pos h1 o.m1
    rw [Nat.mul_comm] at h2
    exact ⟨h3, h2⟩
  · rw [e] at hk
    exact ok.len k hk
  · rw [e] at hk
    exact ok.fit k hk
omit o in
theorem std_div {s mk : List Int} (o : MkOk h m) (hs : s ∈ h.st) (hm : mk ∈ everyM m h.sz.length) : (mStd m s mk).map (· / (m : Int)) = s := by
  obtain ⟨l, b⟩ := mem_everyM.mp hm
  exact mStd_div o.m1 ((o.ok.len s hs).trans l.symm) b
theorem qM_len : (qM h q m).length = (mStds h m).length := by
  unfold qM
  rw [List.length_map, mH_st o]
omit o in
theorem st_idx (o : MkOk h m) {s : List Int} (hs : s ∈ h.st) : ∃ j, j < h.st.length ∧ h.st.getD j [] = s ∧ h.st[j]? = some s := by
  obtain ⟨j, hj⟩ := List.getElem?_of_mem hs
  exact ⟨j, (List.getElem?_eq_some_iff.mp hj).1, by rw [List.getD_eq_getElem?_getD, hj]; rfl, hj⟩
omit o in
theorem st_get {j : Nat} (hj : j < h.st.length) : h.st[j]? = some (h.st.getD j []) ∧ h.st.getD j [] ∈ h.st := by
  have e := List.getElem?_eq_getElem hj
  have e2 : h.st.getD j [] = h.st[j] := by rw [List.getD_eq_getElem?_getD, e]; rfl
  rw [e2]
  exact ⟨e, List.getElem_mem hj⟩
include hq
theorem qM_at {i : Nat} {j : Nat} {mk : List Int} (hi : i < (mStds h m).length) (hj : j < h.st.length) (hm : mk ∈ everyM m h.sz.length) (e : (mStds h m).getD i [] = mStd m (h.st.getD j []) mk) : (qM h q m).getD i 0 = q.getD j 0 := by
  have e1 : (mStds h m)[i]? = some ((mStds h m).getD i []) := by
    rw [List.getD_eq_getElem?_getD, List.getElem?_eq_getElem hi]
    rfl
  unfold qM
  rw [List.getD_eq_getElem?_getD, List.getElem?_map, mH_st o, e1, e]
  show lkp (h.st.zip q) ((mStd m (h.st.getD j []) mk).map (· / (m : Int))) = _
  rw [std_div o (st_get hj).2 hm]
  exact lkp_at _ _ o.nd hq j _ (st_get hj).1
theorem mem_othM {x ans : Int} : x ∈ othersI (qM h q m) ans ↔ ∃ j, j < h.st.length ∧ q.getD j 0 ≠ ans ∧ ∃ mk ∈ everyM m h.sz.length, x = idxM h m (mStd m (h.st.getD j []) mk) := by
  rw [mem_oth]
  constructor
  · rintro ⟨i, rfl, hi, hn⟩
    rw [qM_len o] at hi
    obtain ⟨s, hs, mk, hm, e⟩ := vv_std o (i := (i : Nat)) (by omega) (by omega)
    obtain ⟨j, hj, rfl, _⟩ := st_idx o hs
    refine ⟨j, hj, ?_, mk, hm, ?_⟩
    · rw [qM_at o hq hi hj hm e] at hn
      exact hn
    · rw [← e]
      exact (idx_vv o (by omega) (by omega)).2.symm
  · rintro ⟨j, hj, hn, mk, hm, rfl⟩
    have hk : mStd m (h.st.getD j []) mk ∈ mStds h m := (mem_mStds o).mpr ⟨_, (st_get hj).2, mk, hm, rfl⟩
    have hl := List.idxOf_lt_length_of_mem hk
    refine ⟨(mStds h m).idxOf (mStd m (h.st.getD j []) mk), rfl, by rw [qM_len o]; exact hl, ?_⟩
    rw [qM_at o hq hl hj hm (by rw [List.getD_eq_getElem?_getD, idx_at o hk]; rfl)]
    exact hn
omit hq in
theorem oth_rng {x ans : Int} (hx : x ∈ othersI (qM h q m) ans) : 0 ≤ x ∧ x < ((mStds h m).length : Nat) := by
  obtain ⟨i, rfl, hi, _⟩ := mem_oth.mp hx
  rw [qM_len o] at hi
  omega
omit hq in
theorem srchIn_marked {ans : Int} {vals : List Int} (hv : vals.length ≤ 6) : SrchIn (markedH h m) (othersI (qM h q m) ans) (shownL (markedH h m) (othersI (qM h q m) ans) vals) := by
  have nd := nodup_of_ltI (oth_sorted (qM h q m) ans)
  refine ⟨nd, ?_, fun x hx => ?_, ?_⟩
  · have : (othersI (qM h q m) ans).length ≤ (qM h q m).length := by
      unfold othersI
      rw [List.length_map]
      exact Nat.le_trans (List.length_filter_le ..) (by rw [List.length_zipIdx]; exact Nat.le_refl _)
    rw [qM_len o, mStds_len o] at this
    exact Nat.le_trans this o.most
  · have := oth_rng o hx
    rw [ah_len o]
    exact this
  · unfold shownL
    rw [List.length_map, List.length_zipIdx]
    exact hv
end
theorem shownL_getD {h : Hou} {others vals : List Int} {c : Nat} (hc : c < vals.length) : (shownL h others vals).getD c [] = shownI h others c (vals.getD c 0) := by
  unfold shownL
  rw [List.getD_eq_getElem?_getD, List.getElem?_map, List.getElem?_zipIdx, List.getElem?_eq_getElem hc, List.getD_eq_getElem?_getD, List.getElem?_eq_getElem hc]
  simp
theorem shownL_len {h : Hou} {others vals : List Int} : (shownL h others vals).length = vals.length := by
  unfold shownL
  rw [List.length_map, List.length_zipIdx]
/-! ### the law's house -/
theorem pall_mem {k : Nat} {p : Int × Int} (h : p ∈ pall k) : 0 ≤ p.1 ∧ p.1 < k ∧ 0 ≤ p.2 ∧ p.2 < k := by
  unfold pall prow at h
  obtain ⟨i, hi, h⟩ := List.mem_flatMap.mp h
  obtain ⟨j, hj, rfl⟩ := List.mem_map.mp h
  rw [List.mem_range] at hi hj
  refine ⟨?_, ?_, ?_, ?_⟩ <;> show _ <;> simp <;> omega
theorem pall_nodup (k : Nat) : (pall k).Nodup := by
  unfold pall List.Nodup
  rw [List.pairwise_flatMap]
  refine ⟨fun i _ => ?_, ?_⟩
  · unfold prow
    rw [List.pairwise_map]
    exact List.pairwise_lt_range.imp fun {a b} h e => by
      have := congrArg Prod.snd e
      simp at this
      omega
  · refine List.pairwise_lt_range.imp fun {a b} h x hx y hy e => ?_
    unfold prow at hx hy
    obtain ⟨c, _, rfl⟩ := List.mem_map.mp hx
    obtain ⟨d, _, rfl⟩ := List.mem_map.mp hy
    have := congrArg Prod.fst e
    simp at this
    omega
theorem pall_len (k : Nat) : (pall k).length = k * k := by
  unfold pall
  rw [List.length_flatMap]
  have : ((List.range k).map fun a => (prow k a).length) = (List.range k).map fun _ => k := List.map_congr_left fun a _ => by
    unfold prow
    rw [List.length_map, List.length_range]
  rw [this, List.map_const', List.sum_replicate_nat, List.length_range]
theorem srtP_perm (ch : List (Int × Int)) : (srtP ch).Perm ch := by
  unfold srtP
  have h1 : (srtL (prs ch)).Perm (prs ch) := List.mergeSort_perm _ _
  have h2 := h1.map fun l : List Int => (l.getD 0 0, l.getD 1 0)
  have e : (prs ch).map (fun l : List Int => (l.getD 0 0, l.getD 1 0)) = ch := by
    unfold prs
    rw [List.map_map]
    exact List.map_id'' (fun p => rfl) ch
  rw [e] at h2
  exact h2
structure KeptFacts (n : Nat) (kept : List (List Int)) : Prop where
  len : ∀ k ∈ kept, k.length = n
  bit : ∀ k ∈ kept, ∀ c, c < n → k.getD c 0 = 0 ∨ k.getD c 0 = 1
  nd : kept.Nodup
  srt : srtL kept = kept
  few : kept.length ≤ 2 ^ n
theorem kept_facts {n : Nat} {kept : List (List Int)} (k : KeptOk n kept) : KeptFacts n kept := by
  have hm : ∀ r ∈ kept, r.length = n ∧ ∀ x ∈ r, 0 ≤ x ∧ x < ((2 : Nat) : Int) := fun r hr => mem_everyM.mp (show r ∈ everyM 2 n from k.sub.subset hr)
  have so : kept.Pairwise (· < ·) := (sorted_all (two n)).sublist k.sub
  refine ⟨fun r hr => (hm r hr).1, fun r hr c hc => ?_, nodup_of_lt so, srtL_fix (leT_of_lt so), ?_⟩
  · obtain ⟨l, b⟩ := hm r hr
    have : r.getD c 0 = r[c]'(by omega) := by
      rw [List.getD_eq_getElem?_getD, List.getElem?_eq_getElem (by omega)]
      rfl
    have := b _ (List.getElem_mem (show c < r.length by omega))
    omega
  · have := k.sub.length_le
    rw [show allRows (two n) = everyM 2 n from rfl, everyM_len] at this
    exact this
section
variable {n m : Nat} {kept : List (List Int)} {prs : List (Int × Int)} (dr : Drawn n m) (ko : KeptOk n kept) (po : PrsOk n kept prs)
include ko
theorem houL_st : (houL n kept prs).st = kept := (kept_facts ko).srt
theorem houL_ch_mem {p : Int × Int} : p ∈ (houL n kept prs).ch ↔ p ∈ prs := mem_srtP
include po
theorem prs_facts {p : Int × Int} (hp : p ∈ prs) : (0 ≤ p.1 ∧ p.1 < kept.length ∧ 0 ≤ p.2 ∧ p.2 < kept.length) ∧ ∃ c, c < n ∧ (kept.getD p.1.toNat []).getD c 0 ≠ (kept.getD p.2.toNat []).getD c 0 ∧ ∀ d, d < n → d ≠ c → (kept.getD p.1.toNat []).getD d 0 = (kept.getD p.2.toNat []).getD d 0 := by
  refine ⟨pall_mem (po.sub.subset hp), ?_⟩
  have h1 := po.one p hp
  obtain ⟨c, hc⟩ := List.length_eq_one_iff.mp h1
  have hm : ∀ d, d ∈ unl n kept p.1.toNat p.2.toNat ↔ d < n ∧ (kept.getD p.1.toNat []).getD d 0 ≠ (kept.getD p.2.toNat []).getD d 0 := fun d => by
    unfold unl
    rw [List.mem_filter, List.mem_range]
    simp
  rw [hc] at hm
  have h2 := (hm c).mp List.mem_cons_self
  refine ⟨c, h2.1, h2.2, fun d hd hne => ?_⟩
  refine Decidable.not_not.mp fun hx => hne ?_
  exact List.mem_singleton.mp ((hm d).mpr ⟨hd, hx⟩)
include dr
omit po in
theorem kept8 : kept.length ≤ 8 ∧ 3 ≤ kept.length ∧ n ≤ 3 ∧ 2 ≤ n ∧ 1 ≤ m ∧ m ≤ 5 := by
  have := (kept_facts ko).few
  have k3 := ko.three
  rcases dr with ⟨rfl, h1, h2⟩ | ⟨rfl, h1, h2⟩
  · have : kept.length ≤ 4 := this
    omega
  · have : kept.length ≤ 8 := this
    omega
theorem stOk_L : StOk (two n) kept := by
  have f := kept_facts ko
  have b := kept8 dr ko
  have ln : (two n).length = n := List.length_replicate ..
  refine ⟨by rw [ln]; omega, by omega, by omega, f.nd, fun k hk => by rw [ln]; exact f.len k hk, fun k hk => ?_⟩
  unfold fitsB
  rw [List.all_eq_true]
  intro p hp
  obtain ⟨c, hc⟩ := List.getElem?_of_mem hp
  rw [List.getElem?_zip_eq_some] at hc
  obtain ⟨q1, q2⟩ := hc
  have hl := (List.getElem?_eq_some_iff.mp q1).1
  rw [f.len k hk] at hl
  have := f.bit k hk c hl
  rw [List.getD_eq_getElem?_getD, q1] at this
  rw [List.getElem?_replicate, if_pos hl] at q2
  have q2 := (Option.some.inj q2).symm
  rw [q2]
  simp only [Option.getD_some] at this
  simp only [Bool.and_eq_true, decide_eq_true_eq]
  omega
theorem prs_len : prs.length ≤ 64 := by
  have b := kept8 dr ko
  have := po.sub.length_le
  rw [pall_len] at this
  exact Nat.le_trans this (Nat.mul_le_mul b.1 b.1)
theorem chOk_L : ChOk kept.length prs := by
  refine ⟨by have := prs_len dr ko po; omega, (pall_nodup _).sublist po.sub, fun p hp => ?_⟩
  obtain ⟨⟨a0, a1, b0, b1⟩, c, hc, ne, _⟩ := prs_facts ko po hp
  exact ⟨a0, a1, b0, b1, fun e => ne (by rw [e])⟩
theorem rInit_parts : 1 ≤ (two n).length ∧ (∀ x ∈ two n, 1 ≤ x ∧ x ≤ 36) := by
  have b := kept8 dr ko
  refine ⟨by rw [List.length_replicate]; omega, fun x hx => ?_⟩
  have := (List.mem_replicate.mp hx).2
  omega
theorem mkOk_L : MkOk (houL n kept prs) m := by
  have f := kept_facts ko
  have b := kept8 dr ko
  have so := stOk_L dr ko po
  have co := chOk_L dr ko po
  have r := rInit_parts dr ko po
  have est := houL_st (prs := prs) ko
  have ln : (houL n kept prs).sz.length = n := List.length_replicate ..
  refine ⟨⟨r.1, so.few, r.2, by rw [est]; exact so.most, by rw [est]; exact so.len, by rw [est]; exact so.fit⟩, by omega, fun x hx => ?_, by rw [est]; omega, ?_, by rw [est]; exact f.nd, ?_, ?_⟩
  · have := (List.mem_replicate.mp hx).2
    rw [this]
    omega
  · rw [est, ln]
    have fw := f.few
    rcases dr with ⟨rfl, h1, h2⟩ | ⟨rfl, h1, h2⟩
    · have h3 : m ^ 2 ≤ 5 ^ 2 := Nat.pow_le_pow_left h2 2
      have h4 : kept.length ≤ 4 := fw
      have := Nat.mul_le_mul h4 h3
      exact Nat.le_trans this (by decide)
    · have h3 : m ^ 3 ≤ 2 ^ 3 := Nat.pow_le_pow_left h2 3
      have h4 : kept.length ≤ 8 := fw
      have := Nat.mul_le_mul h4 h3
      exact Nat.le_trans this (by decide)
  · rw [est]
    exact ⟨by rw [show (houL n kept prs).ch.length = prs.length from srtP_len _]; exact co.most, (srtP_perm prs).nodup_iff.mpr co.nd, fun p hp => co.bd p (mem_srtP.mp hp)⟩
  · have := prs_len dr ko po
    rw [show (houL n kept prs).ch.length = prs.length from srtP_len _]
    omega
omit dr in
theorem flip_L : Flip (houL n kept prs) := by
  have f := kept_facts ko
  have est := houL_st (prs := prs) ko
  have ln : (houL n kept prs).sz.length = n := List.length_replicate ..
  refine ⟨fun s hs c hc => ?_, fun p hp => ?_⟩
  · rw [est] at hs
    rw [ln] at hc
    exact f.bit s hs c hc
  · obtain ⟨_, c, hc, ne, eq⟩ := prs_facts ko po (mem_srtP.mp hp)
    rw [est, ln]
    exact ⟨c, hc, ne, eq⟩
end
end K5
/-! Pl6: at most pace changes between the looks: a word is found. -/
namespace K5
theorem ret_all : ∀ m, m < 6 → 1 ≤ m → ∀ v : Nat, v < 2 * m → ∀ j, j < trip m → 1 ≤ j → itn (nxt m) j (v : Int) ≠ (v : Int) := by decide +kernel
theorem trip_most : ∀ m, m < 6 → 1 ≤ m → most 2 m < trip m := by decide +kernel
theorem most3 : ∀ m, m < 3 → 1 ≤ m → most 3 m ≤ 1 := by decide +kernel
theorem nxt_div {m : Nat} (m1 : 1 ≤ m) (v : Int) : nxt m v / (m : Int) = 1 - v / (m : Int) := by
  unfold nxt
  exact (div_std m1 (Int.emod_nonneg _ (by omega)) (Int.emod_lt_of_pos _ (by omega))).1
theorem valsL_len {n m at_ : Nat} {kept : List (List Int)} {mk : List Int} : (valsL n m kept at_ mk).length = n := by
  unfold valsL
  rw [List.length_map, List.length_range]
theorem valsL_getD {n m at_ : Nat} {kept : List (List Int)} {mk : List Int} {c : Nat} (hc : c < n) : (valsL n m kept at_ mk).getD c 0 = (kept.getD at_ []).getD c 0 * (m : Int) + mk.getD c 0 := by
  unfold valsL
  rw [List.getD_eq_getElem?_getD, List.getElem?_map, List.getElem?_range hc]
  rfl
section
variable {n m at_ pace : Nat} {kept : List (List Int)} {prs : List (Int × Int)} {q mk : List Int} (dr : Drawn n m) (ko : KeptOk n kept) (po : PrsOk n kept prs) (qo : QstOk kept.length at_ q) (mo : MksOk n m mk)
include dr ko po qo mo
omit dr ko po qo in
theorem mks_every : mk ∈ everyM m n := mem_everyM.mpr ⟨mo.len, mo.bd⟩
omit dr po mo in
theorem q_len : q.length = (houL n kept prs).st.length := by
  rw [houL_st ko]
  exact qo.len
omit mo in
theorem oth_L {x : Int} : x ∈ othersI (mQ n m kept prs q) (q.getD at_ 0) ↔ ∃ j, j < kept.length ∧ q.getD j 0 ≠ q.getD at_ 0 ∧ ∃ mk ∈ everyM m n, x = idxM (houL n kept prs) m (mStd m (kept.getD j []) mk) := by
  have := mem_othM (mkOk_L dr ko po) (q_len (prs := prs) ko qo) (x := x) (ans := q.getD at_ 0)
  rw [houL_st ko, show (houL n kept prs).sz.length = n from List.length_replicate ..] at this
  exact this
theorem shown_L {c : Nat} (hc : c < n) {i : Int} (hi : i ∈ (shownL (mH n m kept prs) (othersI (mQ n m kept prs q) (q.getD at_ 0)) (valsL n m kept at_ mk)).getD c []) : cel (houL n kept prs) m c i = (valsL n m kept at_ mk).getD c 0 := by
  rw [shownL_getD (by rw [valsL_len]; exact hc)] at hi
  unfold shownI at hi
  rw [List.mem_filter] at hi
  have := of_decide_eq_true hi.2
  rw [cel_shows (mkOk_L dr ko po)] at this
  exact this
theorem not_L {i : Int} (hi : i ∈ othersI (mQ n m kept prs q) (q.getD at_ 0)) : ¬ ∀ c, c < n → cel (houL n kept prs) m c i / (m : Int) = (valsL n m kept at_ mk).getD c 0 / (m : Int) := fun hx => by
  have o := mkOk_L dr ko po
  have f := kept_facts ko
  obtain ⟨j, hj, hn, mk', hm', rfl⟩ := (oth_L dr ko po qo).mp hi
  have est := houL_st (prs := prs) ko
  have ln : (houL n kept prs).sz.length = n := List.length_replicate ..
  have ej : kept[j]? = some (kept.getD j []) := by rw [List.getD_eq_getElem?_getD, List.getElem?_eq_getElem hj]; rfl
  have ea : kept[at_]? = some (kept.getD at_ []) := by rw [List.getD_eq_getElem?_getD, List.getElem?_eq_getElem qo.lt]; rfl
  have mj := List.mem_of_getElem? ej
  have ma := List.mem_of_getElem? ea
  have hm2 := mks_every mo
  have e : kept.getD j [] = kept.getD at_ [] := by
    apply List.ext_getElem?
    intro c
    by_cases hc : c < n
    · have h1 := hx c hc
      rw [cel_std o (by rw [est]; exact mj) (by rw [ln]; exact hm') (by rw [ln]; exact hc), valsL_getD hc] at h1
      have r1 := every_getD hm' hc
      have r2 := every_getD hm2 hc
      rw [(div_std o.m1 r1.1 r1.2).1, (div_std o.m1 r2.1 r2.2).1] at h1
      have g : ∀ l : List Int, l.length = n → l[c]? = some (l.getD c 0) := fun l hl => by rw [List.getD_eq_getElem?_getD, List.getElem?_eq_getElem (by omega)]; rfl
      rw [g _ (f.len _ mj), g _ (f.len _ ma), h1]
    · rw [List.getElem?_eq_none (by have := f.len _ mj; omega), List.getElem?_eq_none (by have := f.len _ ma; omega)]
  have pw := List.pairwise_iff_getElem.mp f.nd
  obtain ⟨_, g1⟩ := List.getElem?_eq_some_iff.mp ej
  obtain ⟨_, g2⟩ := List.getElem?_eq_some_iff.mp ea
  rcases Nat.lt_trichotomy j at_ with l | l | l
  · exact pw _ _ hj qo.lt l (g1.trans (e.trans g2.symm))
  · exact hn (by rw [l])
  · exact pw _ _ qo.lt hj l (g2.trans (e.symm.trans g1.symm))
theorem vals_rng {c : Nat} (hc : c < n) : 0 ≤ (valsL n m kept at_ mk).getD c 0 ∧ (valsL n m kept at_ mk).getD c 0 < 2 * (m : Int) ∧ ((valsL n m kept at_ mk).getD c 0 / (m : Int) = 0 ∨ (valsL n m kept at_ mk).getD c 0 / (m : Int) = 1) := by
  have f := kept_facts ko
  have ea : kept[at_]? = some (kept.getD at_ []) := by rw [List.getD_eq_getElem?_getD, List.getElem?_eq_getElem qo.lt]; rfl
  have b := f.bit _ (List.mem_of_getElem? ea) c hc
  have r := every_getD (mks_every mo) hc
  rw [valsL_getD hc, (div_std (kept8 dr ko).2.2.2.2.1 r.1 r.2).1]
  rcases b with h | h
  · rw [h]; omega
  · rw [h]; omega
theorem oth_bit {c : Nat} (hc : c < n) {i : Int} (hi : i ∈ othersI (mQ n m kept prs q) (q.getD at_ 0)) : cel (houL n kept prs) m c i / (m : Int) = 0 ∨ cel (houL n kept prs) m c i / (m : Int) = 1 := by
  have o := mkOk_L dr ko po
  obtain ⟨j, hj, hn, mk', hm', rfl⟩ := (oth_L dr ko po qo).mp hi
  have est := houL_st (prs := prs) ko
  have ln : (houL n kept prs).sz.length = n := List.length_replicate ..
  have ej : kept[j]? = some (kept.getD j []) := by rw [List.getD_eq_getElem?_getD, List.getElem?_eq_getElem hj]; rfl
  have mj := List.mem_of_getElem? ej
  have r1 := every_getD hm' hc
  rw [cel_std o (by rw [est]; exact mj) (by rw [ln]; exact hm') (by rw [ln]; exact hc), (div_std o.m1 r1.1 r1.2).1]
  exact (kept_facts ko).bit _ mj c hc
theorem run_L (hp : pace ≤ most n m) : ∃ ws : List Nat, (∀ w ∈ ws, w < n) ∧ ws.length ≤ (if n = 2 then 12 else 4) ∧ runW (leftW (mH n m kept prs).ah (othersI (mQ n m kept prs q) (q.getD at_ 0)) (shownL (mH n m kept prs) (othersI (mQ n m kept prs q) (q.getD at_ 0)) (valsL n m kept at_ mk)) pace) ws (othersI (mQ n m kept prs q) (q.getD at_ 0)) = [] := by
  have o := mkOk_L dr ko po
  have fl := flip_L ko po
  have m1 := o.m1
  have rng : ∀ x ∈ othersI (mQ n m kept prs q) (q.getD at_ 0), 0 ≤ x := fun x hx => (oth_rng o hx).1
  have S := fun c (hc : c < n) i hi => shown_L dr ko po qo mo hc (i := i) hi
  have N := fun i hi => not_L dr ko po qo mo (i := i) hi
  have ln : (houL n kept prs).sz.length = n := List.length_replicate ..
  have E := fun a (ha : a ∈ othersI (mQ n m kept prs q) (q.getD at_ 0)) b (hb : nxI (mH n m kept prs).ah (othersI (mQ n m kept prs q) (q.getD at_ 0)) a b) => nx_cel o fl (rng a ha) hb
  rw [ln] at E
  have VR := fun c (hc : c < n) => vals_rng dr ko po qo mo hc
  have OB := fun c (hc : c < n) i hi => oth_bit dr ko po qo mo hc (i := i) hi
  rcases dr with ⟨rfl, h1, h2⟩ | ⟨rfl, h1, h2⟩
  · have tm := trip_most m (by omega) h1
    have t10 : ∀ m, m < 6 → trip m ≤ 10 := by decide +kernel
    have t10 := t10 m (by omega)
    refine ⟨alt 0 (pace + 1 + 2), alt_lt _ _ (by decide), by rw [alt_len, if_pos rfl]; omega, ?_⟩
    refine two_run (cel := cel (houL 2 kept prs) m) (u := fun c => (valsL 2 m kept at_ mk).getD c 0) (nx := nxt m) (T := trip m) (fun a ha b hb => ?_) S (fun i hi he => ?_) (fun c hc j j1 j2 => ?_) (by omega) (pace + 1) 0 0 _ (by decide) (fun _ h => h) (fun _ _ _ q hq => absurd hq (Nat.not_lt_zero q)) (by omega)
    · obtain ⟨c, hc, e1, e2⟩ := E a ha b hb
      match c, hc with
      | 0, _ => exact .inl ⟨e1, e2 1 (by decide) (by decide)⟩
      | 1, _ => exact .inr ⟨e2 0 (by decide) (by decide), e1⟩
    · refine N i hi fun c hc => ?_
      match c, hc with
      | 0, _ => rw [he.1]
      | 1, _ => rw [he.2]
    · obtain ⟨v0, v1, _⟩ := VR c hc
      have := ret_all m (by omega) h1 ((valsL 2 m kept at_ mk).getD c 0).toNat (by omega) j j2 j1
      rw [Int.toNat_of_nonneg v0] at this
      exact this
  · have hp1 : pace ≤ 1 := Nat.le_trans hp (most3 m (by omega) h1)
    refine ⟨[0, 1, 2, 0], by decide, by decide, ?_⟩
    refine three_run (b := fun c i => decide (cel (houL 3 kept prs) m c i / (m : Int) = (valsL 3 m kept at_ mk).getD c 0 / (m : Int))) hp1 (fun a ha d hd => ?_) (fun c hc i hi => decide_eq_true (by rw [S c hc i hi])) (fun i hi he => ?_)
    · obtain ⟨c, hc, e1, e2⟩ := E a ha d hd
      refine ⟨c, hc, ?_, fun e he hne => by show decide _ = decide _; rw [e2 e he hne]⟩
      show decide _ = !decide _
      rw [e1, nxt_div m1]
      have b1 := OB c hc a ha
      have b2 := (VR c hc).2.2
      rcases b1 with h | h <;> rcases b2 with h' | h' <;> rw [h, h'] <;> decide
    · refine N i hi fun c hc => ?_
      match c, hc with
      | 0, _ => exact of_decide_eq_true he.1
      | 1, _ => exact of_decide_eq_true he.2.1
      | 2, _ => exact of_decide_eq_true he.2.2
theorem sight_L : SightOk (mH n m kept prs) (mQ n m kept prs q) (valsL n m kept at_ mk) := by
  have o := mkOk_L dr ko po
  have est := houL_st (prs := prs) ko
  have ln : (houL n kept prs).sz.length = n := List.length_replicate ..
  refine ⟨houOk_marked o, ?_, fun a ha => ?_, ?_, fun c v hv => ?_⟩
  · unfold mQ qM
    rw [List.length_map]
  · obtain ⟨i, hi⟩ := List.getElem?_of_mem ha
    have hl := (List.getElem?_eq_some_iff.mp hi).1
    have hl2 : i < (mStds (houL n kept prs) m).length := by
      have e : (qM (houL n kept prs) q m).length = _ := qM_len o (q := q)
      have hl : i < (qM (houL n kept prs) q m).length := hl
      omega
    obtain ⟨s, hs, mk', hm, e⟩ := vv_std o (i := (i : Nat)) (by omega) (by omega)
    obtain ⟨j, hj, rfl, _⟩ := st_idx o hs
    have := qM_at o (q_len ko qo) hl2 hj hm e
    rw [List.getD_eq_getElem?_getD, hi] at this
    have e2 : a = q.getD j 0 := this
    have hjq : j < q.length := by rw [q_len (prs := prs) ko qo]; exact hj
    rw [e2, List.getD_eq_getElem?_getD, List.getElem?_eq_getElem hjq]
    exact (qo.bit _ (List.getElem_mem hjq)).1
  · rw [valsL_len]
    show n = (mSz _ _).length
    unfold mSz
    rw [List.length_map, ln]
  · have hc := (List.getElem?_eq_some_iff.mp hv).1
    rw [valsL_len] at hc
    have ea : kept[at_]? = some (kept.getD at_ []) := by rw [List.getD_eq_getElem?_getD, List.getElem?_eq_getElem qo.lt]; rfl
    have ma := List.mem_of_getElem? ea
    have hm := mks_every mo
    have hk : mStd m (kept.getD at_ []) mk ∈ mStds (houL n kept prs) m := (mem_mStds o).mpr ⟨_, by rw [est]; exact ma, mk, by rw [ln]; exact hm, rfl⟩
    have r := idx_rng o hk
    refine ⟨(idxM (houL n kept prs) m (mStd m (kept.getD at_ []) mk)).toNat, by rw [mH_st o]; omega, ?_⟩
    rw [cel_shows o, cel_std o (by rw [est]; exact ma) (by rw [ln]; exact hm) (by rw [ln]; exact hc)]
    have e2 := valsL_getD (m := m) (at_ := at_) (kept := kept) (mk := mk) hc
    rw [List.getD_eq_getElem?_getD, hv] at e2
    exact e2.symm
theorem part1 (hp : pace ≤ most n m) : ∃ ws : List Nat, (∀ w ∈ ws, w < n) ∧ ws.length ≤ 10000 ∧
    runW (leftW (mH n m kept prs).ah (othersI (mQ n m kept prs q) (q.getD at_ 0)) (shownL (mH n m kept prs) (othersI (mQ n m kept prs q) (q.getD at_ 0)) (valsL n m kept at_ mk)) pace) ws (othersI (mQ n m kept prs q) (q.getD at_ 0)) = [] ∧
    Searched (mH n m kept prs) (othersI (mQ n m kept prs q) (q.getD at_ 0)) (shownL (mH n m kept prs) (othersI (mQ n m kept prs q) (q.getD at_ 0)) (valsL n m kept at_ mk)) pace (.inl (ws.map fun w : Nat => (w : Int))) := by
  have o := mkOk_L dr ko po
  have b := kept8 dr ko
  have hI := srchIn_marked o (q := q) (ans := q.getD at_ 0) (vals := valsL n m kept at_ mk) (by rw [valsL_len]; omega)
  by_cases h0 : othersI (mQ n m kept prs q) (q.getD at_ 0) = []
  · exact ⟨[], fun w h => absurd h (by simp), Nat.zero_le _, h0, hI, .inl ⟨h0, rfl⟩⟩
  · obtain ⟨ws, w1, w2, w3⟩ := run_L dr ko po qo mo hp
    obtain ⟨D, d1, d2, d3⟩ := least_of (p := fun j => Stl (leftW (mH n m kept prs).ah (othersI (mQ n m kept prs q) (q.getD at_ 0)) (shownL (mH n m kept prs) (othersI (mQ n m kept prs q) (q.getD at_ 0)) (valsL n m kept at_ mk)) pace) n j (othersI (mQ n m kept prs q) (q.getD at_ 0))) (Stl.of_run w1 w3)
    have nd : 1 + n + need n (D - 1) n ≤ 2000 := by
      have : need n (D - 1) n ≤ need n ((if n = 2 then 12 else 4) - 1) n := need_mono (by omega) (Nat.le_refl _)
      rcases dr with ⟨rfl, _⟩ | ⟨rfl, _⟩
      · have e : need 2 ((if 2 = 2 then 12 else 4) - 1) 2 = 22 := by decide +kernel
        omega
      · have e : need 3 ((if 3 = 2 then 12 else 4) - 1) 3 = 42 := by decide +kernel
        omega
    obtain ⟨k', k1, us, u1, u2, u3, u4⟩ := srch_found (n := n) left_mono left_stuck D [othersI (mQ n m kept prs q) (q.getD at_ 0)] [(othersI (mQ n m kept prs q) (q.getD at_ 0), [])] n 0
      (fun p hp => by rw [List.mem_singleton] at hp; subst hp; exact ⟨List.mem_cons_self, h0, [], fun w h => absurd h (by simp), rfl, rfl, rfl⟩)
      (Nat.le_trans (cnt_all _) (by simp)) ⟨_, List.mem_cons_self, d2⟩ (fun l hl j hj => by rw [List.mem_singleton] at hl; subst hl; exact d3 j hj) nd
    have dw : D ≤ 12 := by
      have : (if n = 2 then 12 else 4) ≤ 12 := by split <;> decide
      omega
    refine ⟨us, u1, by omega, u3, hI, .inr ⟨h0, k', by omega, ?_⟩⟩
    rw [shownL_len, valsL_len]
    exact u4
end
end K5
/-! Pl7: a word that settles is not outlived. -/
namespace K5
theorem laterR_M {m : Nat} {s t mk : List Int} (l : s.length = mk.length) : laterR m s t mk = laterM m s t mk := by
  apply List.ext_getElem?
  intro c
  unfold laterR laterM
  rw [List.getElem?_map, List.getElem?_map, List.getElem?_zipIdx]
  by_cases hc : c < mk.length
  · rw [List.getElem?_range (by omega), List.getElem?_eq_getElem hc]
    simp only [Option.map_some, Nat.zero_add]
    rw [List.getD_eq_getElem?_getD (l := mk), List.getElem?_eq_getElem hc]
    rfl
  · rw [List.getElem?_eq_none (l := List.range s.length) (by rw [List.length_range]; omega), List.getElem?_eq_none (l := mk) (by omega)]
    rfl
theorem mem_moves {kept : List (List Int)} {ch : List (Int × Int)} {inside : List Int} {m : Nat} {s t : Sta} : t ∈ movesOf kept ch inside m s ↔ ∃ p ∈ ch, p.1 = s.1 ∧ p.2 ∈ inside ∧ t = (p.2, laterR m (kept.getD p.1.toNat []) (kept.getD p.2.toNat []) s.2) := by
  unfold movesOf
  rw [List.mem_map]
  constructor
  · rintro ⟨p, hp, rfl⟩
    rw [List.mem_filter, Bool.and_eq_true, decide_eq_true_eq, decide_eq_true_eq] at hp
    exact ⟨p, hp.1, hp.2.1, hp.2.2, rfl⟩
  · rintro ⟨p, hp, h1, h2, rfl⟩
    exact ⟨p, List.mem_filter.mpr ⟨hp, by rw [Bool.and_eq_true, decide_eq_true_eq, decide_eq_true_eq]; exact ⟨h1, h2⟩⟩, rfl⟩
theorem mem_filtS {kept : List (List Int)} {sh : List (Int × Int)} {c : Nat} {st : List Sta} {s : Sta} : s ∈ filtS kept sh c st ↔ s ∈ st ∧ (kept.getD s.1.toNat []).getD c 0 = (sh.getD c (0, 0)).1 ∧ s.2.getD c 0 = (sh.getD c (0, 0)).2 := by
  unfold filtS
  rw [List.mem_filter, Bool.and_eq_true, decide_eq_true_eq, decide_eq_true_eq]
theorem shL_getD {n at_ : Nat} {kept : List (List Int)} {mk : List Int} {c : Nat} (hc : c < n) : (shL n kept at_ mk).getD c (0, 0) = ((kept.getD at_ []).getD c 0, mk.getD c 0) := by
  unfold shL
  rw [List.getD_eq_getElem?_getD, List.getElem?_map, List.getElem?_range hc]
  rfl
/-- states that follow the lots -/
theorem sim_end {n pace : Nat} {kept : List (List Int)} {sh : List (Int × Int)} {mv : Sta → List Sta} {ok : Sta → Prop} {io : Sta → Int} {ah : List (List Int)} {others : List Int} {shown : List (List Int)}
    (mvo : ∀ s, ok s → ∀ t ∈ mv s, ok t ∧ nxI ah others (io s) (io t)) (fo : ∀ c, c < n → ∀ st, ∀ s ∈ filtS kept sh c st, ok s → io s ∈ shown.getD c []) :
    ∀ (ws : List Nat) (st : List Sta) (lot : List Int), (∀ w ∈ ws, w < n) → (∀ s ∈ st, ok s ∧ io s ∈ lot) → runW (leftW ah others shown pace) ws lot = [] → outl mv pace kept sh ws st = []
  | [], st, lot, _, h, e => by
    have e : lot = [] := e
    show st = []
    cases st with
    | nil => rfl
    | cons s st =>
      have := (h s List.mem_cons_self).2
      rw [e] at this
      cases this
  | [c], st, lot, hw, h, e => by
    have e : leftW ah others shown pace c lot = [] := e
    show filtS kept sh c st = []
    cases hf : filtS kept sh c st with
    | nil => rfl
    | cons s l =>
      have hs : s ∈ filtS kept sh c st := by rw [hf]; exact List.mem_cons_self
      obtain ⟨o1, o2⟩ := h s (mem_filtS.mp hs).1
      have := (mem_leftW (ah := ah) (others := others) (pace := pace)).mpr ⟨io s, o2, fo c (hw c List.mem_cons_self) st s hs o1, 0, Nat.zero_le _, .zero _⟩
      rw [e] at this
      cases this
  | c :: d :: rest, st, lot, hw, h, e => by
    show outl mv pace kept sh (d :: rest) (spreadS mv pace (filtS kept sh c st) (filtS kept sh c st)) = []
    refine sim_end mvo fo (d :: rest) _ (leftW ah others shown pace c lot) (fun x hx => hw x (List.mem_cons_of_mem _ hx)) (fun s hs => ?_) e
    obtain ⟨a, ha, j, hj, wk⟩ := ((isS mv).iff pace _).mp hs
    obtain ⟨o1, o2⟩ := h a (mem_filtS.mp ha).1
    have sa := fo c (hw c List.mem_cons_self) st a ha o1
    have : ∀ {j : Nat} {a s : Sta}, Walk (fun a b => b ∈ mv a) j a s → ok a → ok s ∧ Walk (nxI ah others) j (io a) (io s) := fun wk => by
      induction wk with
      | zero => exact fun h => ⟨h, .zero _⟩
      | succ n _ ih =>
        intro h
        obtain ⟨h1, h2⟩ := mvo _ h _ n
        obtain ⟨h3, h4⟩ := ih h1
        exact ⟨h3, .succ h2 h4⟩
    obtain ⟨h3, h4⟩ := this wk o1
    exact ⟨h3, mem_leftW.mpr ⟨io a, o2, sa, j, hj, h4⟩⟩
section
variable {n m at_ pace : Nat} {kept : List (List Int)} {prs : List (Int × Int)} {q mk : List Int} (dr : Drawn n m) (ko : KeptOk n kept) (po : PrsOk n kept prs) (qo : QstOk kept.length at_ q) (mo : MksOk n m mk)
include dr ko po qo mo
theorem part2 {ws : List Nat} (hw : ∀ w ∈ ws, w < n) (hr : runW (leftW (mH n m kept prs).ah (othersI (mQ n m kept prs q) (q.getD at_ 0)) (shownL (mH n m kept prs) (othersI (mQ n m kept prs q) (q.getD at_ 0)) (valsL n m kept at_ mk)) pace) ws (othersI (mQ n m kept prs q) (q.getD at_ 0)) = []) :
    outl (movesOf kept prs (othersI q (q.getD at_ 0)) m) pace kept (shL n kept at_ mk) ws (everyS (othersI q (q.getD at_ 0)) m n) = [] := by
  have o := mkOk_L dr ko po
  have f := kept_facts ko
  have est := houL_st (prs := prs) ko
  have ln : (houL n kept prs).sz.length = n := List.length_replicate ..
  let ok : Sta → Prop := fun s => s.1 ∈ othersI q (q.getD at_ 0) ∧ s.2 ∈ everyM m n
  let io : Sta → Int := fun s => idxM (houL n kept prs) m (mStd m (kept.getD s.1.toNat []) s.2)
  have kin : ∀ s, ok s → kept.getD s.1.toNat [] ∈ kept := fun s hs => by
    obtain ⟨j, e, hj, hn⟩ := mem_oth.mp hs.1
    have hj : j < kept.length := by rw [← qo.len]; exact hj
    have e2 : s.1.toNat = j := by omega
    rw [e2, List.getD_eq_getElem?_getD, List.getElem?_eq_getElem hj]
    exact List.getElem_mem hj
  have oin : ∀ s, ok s → io s ∈ othersI (mQ n m kept prs q) (q.getD at_ 0) := fun s hs => by
    obtain ⟨j, e, hj, hn⟩ := mem_oth.mp hs.1
    have hj : j < kept.length := by rw [← qo.len]; exact hj
    have e2 : s.1.toNat = j := by omega
    refine (oth_L dr ko po qo).mpr ⟨j, hj, hn, s.2, hs.2, ?_⟩
    show idxM _ _ (mStd m (kept.getD s.1.toNat []) s.2) = _
    rw [e2]
  refine sim_end (ok := ok) (io := io) (fun s hs t ht => ?_) (fun c hc st s hs hok => ?_) ws _ _ hw (fun s hs => ⟨mem_everyS.mp hs, oin s (mem_everyS.mp hs)⟩) hr
  · obtain ⟨p, hp, e1, h2, rfl⟩ := mem_moves.mp ht
    have k1 := kin s hs
    have ll : (kept.getD p.1.toNat []).length = s.2.length := by
      rw [e1, f.len _ k1, (mem_everyM.mp hs.2).1]
    have hl := later_mem o (one := kept.getD p.1.toNat []) (other := kept.getD p.2.toNat []) (mk := s.2) (by rw [ln]; exact hs.2)
    rw [ln] at hl
    have okt : ok (p.2, laterR m (kept.getD p.1.toNat []) (kept.getD p.2.toNat []) s.2) := ⟨h2, by rw [laterR_M ll]; exact hl⟩
    refine ⟨okt, ?_, oin _ okt⟩
    have r0 : 0 ≤ io s := (oth_rng o (oin s hs)).1
    refine (mah_iff o r0).mpr ⟨p, mem_srtP.mpr hp, s.2, by rw [ln]; exact hs.2, ?_, ?_⟩
    · rw [est, e1]
    · show idxM _ _ (mStd m (kept.getD p.2.toNat []) (laterR m (kept.getD p.1.toNat []) (kept.getD p.2.toNat []) s.2)) = _
      rw [est, laterR_M ll]
  · obtain ⟨h1, h2, h3⟩ := mem_filtS.mp hs
    rw [shL_getD hc] at h2 h3
    rw [shownL_getD (by rw [valsL_len]; exact hc)]
    unfold shownI
    refine List.mem_filter.mpr ⟨oin s hok, decide_eq_true ?_⟩
    rw [cel_shows o, cel_std o (by rw [est]; exact kin s hok) (by rw [ln]; exact hok.2) (by rw [ln]; exact hc), valsL_getD hc, h2, h3]
end
end K5
/-! Pl8: the free house. -/
namespace K5
def fchS : List (Int × Int) := [(0, 1), (0, 2), (1, 0), (1, 3), (2, 0), (2, 3), (3, 1), (3, 2)]
theorem srtL_of {l k : List (List Int)} (h : k.Pairwise fun a b => leT a b = true) (p : l.Perm k) : srtL l = k :=
  List.Perm.eq_of_pairwise (le := fun a b => leT a b = true) (fun a b _ _ h1 h2 => by
    simp only [leT, decide_eq_true_eq] at h1 h2
    exact List.le_antisymm h1 h2) (srtL_sorted l) h ((List.mergeSort_perm _ _).trans p)
theorem prs_fchS : srtL (prs fchS) = prs fchS := srtL_fix (by decide +kernel)
theorem prs_fch : srtL (prs fch) = prs fchS := srtL_of (by decide +kernel) (by rw [fch_eq]; decide +kernel)
theorem ks2_rows : allRows (two 2) = ks2 := by decide +kernel
abbrev frH : Hou := houL 2 ks2 fchS
theorem freeH_eq : freeH = frH := by
  have e : srtP fch = srtP fchS := by
    unfold srtP
    rw [prs_fch, prs_fchS]
  show mkHou sz2 ks2 fch = mkHou (two 2) ks2 fchS
  unfold mkHou
  rw [e]
  rfl
theorem ko_free : KeptOk 2 ks2 := ⟨by rw [ks2_rows]; exact List.Sublist.refl _, by decide⟩
theorem po_free : PrsOk 2 ks2 fchS := ⟨by decide +kernel, by decide +kernel⟩
theorem qo_free : QstOk ks2.length 0 fQ := ⟨rfl, by decide, by decide⟩
/-! ### one cell -/
theorem nxt_all : ∀ m, m < 6 → 1 ≤ m → ∀ v : Nat, v < 2 * m → (0 ≤ nxt m (v : Int) ∧ nxt m (v : Int) < 2 * (m : Int)) ∧ (v < m ↔ (m : Int) ≤ nxt m (v : Int)) ∧ itn (nxt m) (trip m) (v : Int) = (v : Int) := by decide +kernel
theorem trip_pos : ∀ m, m < 6 → 1 ≤ m → 1 ≤ trip m := by decide +kernel
section
variable {m : Nat} (h1 : 1 ≤ m) (h5 : m ≤ 5)
include h1 h5
theorem nxt_rng {v : Int} (v0 : 0 ≤ v) (v1 : v < 2 * (m : Int)) : 0 ≤ nxt m v ∧ nxt m v < 2 * (m : Int) := by
  have := (nxt_all m (by omega) h1 v.toNat (by omega)).1
  rw [Int.toNat_of_nonneg v0] at this
  exact this
theorem nxt_flip {v : Int} (v0 : 0 ≤ v) (v1 : v < 2 * (m : Int)) : v < m ↔ (m : Int) ≤ nxt m v := by
  have := (nxt_all m (by omega) h1 v.toNat (by omega)).2.1
  rw [Int.toNat_of_nonneg v0] at this
  rw [← this]
  omega
theorem itn_trip {v : Int} (v0 : 0 ≤ v) (v1 : v < 2 * (m : Int)) : itn (nxt m) (trip m) v = v := by
  have := (nxt_all m (by omega) h1 v.toNat (by omega)).2.2
  rw [Int.toNat_of_nonneg v0] at this
  exact this
theorem itn_rng : ∀ (d : Nat) {v : Int}, 0 ≤ v → v < 2 * (m : Int) → 0 ≤ itn (nxt m) d v ∧ itn (nxt m) d v < 2 * (m : Int)
  | 0, v, v0, v1 => ⟨v0, v1⟩
  | d + 1, v, v0, v1 => itn_rng d (nxt_rng h1 h5 v0 v1).1 (nxt_rng h1 h5 v0 v1).2
def Cl (m : Nat) (u v : Int) : Prop := ∃ d, d < trip m ∧ itn (nxt m) d u = v
theorem Cl.refl (u : Int) : Cl m u u := ⟨0, trip_pos m (by omega) h1, rfl⟩
theorem Cl.next {u v : Int} (u0 : 0 ≤ u) (u1 : u < 2 * (m : Int)) (c : Cl m u v) : Cl m u (nxt m v) := by
  obtain ⟨d, hd, rfl⟩ := c
  have e : nxt m (itn (nxt m) d u) = itn (nxt m) (d + 1) u := itn_add (nxt m) d 1 u
  rw [e]
  by_cases h : d + 1 = trip m
  · rw [h, itn_trip h1 h5 u0 u1]
    exact Cl.refl h1 h5 u
  · exact ⟨d + 1, by omega, rfl⟩
theorem Cl.many {u : Int} (u0 : 0 ≤ u) (u1 : u < 2 * (m : Int)) : ∀ (p : Nat) {v : Int}, Cl m u v → Cl m u (itn (nxt m) p v)
  | 0, v, c => c
  | p + 1, v, c => Cl.many u0 u1 p (c.next h1 h5 u0 u1)
end
/-! ### numbers of pairs -/
def fx (m : Nat) (v w : Int) : Int := idxM frH m [v, w]
theorem div_bit {m : Nat} (h1 : 1 ≤ m) {v : Int} (v0 : 0 ≤ v) (v1 : v < 2 * (m : Int)) : (v / (m : Int) = 0 ∧ v < m) ∨ (v / (m : Int) = 1 ∧ (m : Int) ≤ v) := by
  by_cases h : v < m
  · exact .inl ⟨Int.ediv_eq_zero_of_lt v0 h, h⟩
  · refine .inr ⟨?_, by omega⟩
    have : v = (v - m) + 1 * (m : Int) := by omega
    rw [this, Int.add_mul_ediv_right _ _ (by omega), Int.ediv_eq_zero_of_lt (by omega) (by omega)]
    rfl
theorem std_pair {m : Nat} (v w : Int) : mStd m [v / (m : Int), w / (m : Int)] [v % (m : Int), w % (m : Int)] = [v, w] := by
  show [v / (m : Int) * (m : Int) + v % (m : Int), w / (m : Int) * (m : Int) + w % (m : Int)] = [v, w]
  rw [Int.mul_comm, Int.mul_ediv_add_emod, Int.mul_comm, Int.mul_ediv_add_emod]
theorem emod_every {m : Nat} (h1 : 1 ≤ m) (v w : Int) : [v % (m : Int), w % (m : Int)] ∈ everyM m 2 := by
  refine mem_everyM.mpr ⟨rfl, fun x hx => ?_⟩
  have g : ∀ z : Int, 0 ≤ z % (m : Int) ∧ z % (m : Int) < m := fun z => ⟨Int.emod_nonneg _ (by omega), Int.emod_lt_of_pos _ (by omega)⟩
  rcases List.mem_cons.mp hx with rfl | hx
  · exact g v
  · rw [List.mem_singleton] at hx
    subst hx
    exact g w
theorem ks2_at {a b : Int} (ha : a = 0 ∨ a = 1) (hb : b = 0 ∨ b = 1) : ks2.getD (2 * a + b).toNat [] = [a, b] ∧ 0 ≤ 2 * a + b ∧ 2 * a + b < 4 := by
  rcases ha with rfl | rfl <;> rcases hb with rfl | rfl <;> exact ⟨by decide, by decide, by decide⟩
/-- a pair that is none of the answer's -/
structure Oth2 (m : Nat) (v w : Int) : Prop where
  v0 : 0 ≤ v
  v1 : v < 2 * (m : Int)
  w0 : 0 ≤ w
  w1 : w < 2 * (m : Int)
  ne : (m : Int) ≤ v ∨ (m : Int) ≤ w
abbrev otF (m : Nat) : List Int := othersI (mQ 2 m ks2 fchS fQ) (fQ.getD 0 0)
section
variable {m : Nat} (h1 : 1 ≤ m) (h5 : m ≤ 5)
include h1 h5
theorem dr_free : Drawn 2 m := .inl ⟨rfl, h1, h5⟩
theorem o_free : MkOk frH m := mkOk_L (dr_free h1 h5) ko_free po_free
omit h1 h5 in
theorem st_free : frH.st = ks2 := houL_st ko_free
theorem fx_in {v w : Int} (o : 0 ≤ v ∧ v < 2 * (m : Int) ∧ 0 ≤ w ∧ w < 2 * (m : Int)) : [v, w] ∈ mStds frH m := by
  obtain ⟨v0, v1, w0, w1⟩ := o
  have b1 := (div_bit h1 v0 v1).imp And.left And.left
  have b2 := (div_bit h1 w0 w1).imp And.left And.left
  refine (mem_mStds (o_free h1 h5)).mpr ⟨[v / (m : Int), w / (m : Int)], ?_, [v % (m : Int), w % (m : Int)], emod_every h1 v w, (std_pair v w).symm⟩
  rw [st_free]
  rcases b1 with e | e <;> rcases b2 with e' | e' <;> rw [e, e'] <;> decide
theorem fx_cel {v w : Int} (o : 0 ≤ v ∧ v < 2 * (m : Int) ∧ 0 ≤ w ∧ w < 2 * (m : Int)) : cel frH m 0 (fx m v w) = v ∧ cel frH m 1 (fx m v w) = w := by
  unfold cel fx
  rw [vv_idx (o_free h1 h5) (fx_in h1 h5 o)]
  exact ⟨rfl, rfl⟩
theorem mem_otF {x : Int} : x ∈ otF m ↔ ∃ v w, Oth2 m v w ∧ x = fx m v w := by
  rw [oth_L (dr_free h1 h5) ko_free po_free qo_free]
  constructor
  · rintro ⟨j, hj, hn, mk, hm, rfl⟩
    obtain ⟨l, b⟩ := mem_everyM.mp hm
    match mk, l with
    | [a, b'], _ =>
      have ra := b a List.mem_cons_self
      have rb := b b' (List.mem_cons_of_mem _ List.mem_cons_self)
      have : ∃ s t : Int, ks2.getD j [] = [s, t] ∧ (s = 0 ∨ s = 1) ∧ (t = 0 ∨ t = 1) ∧ (s = 1 ∨ t = 1) := by
        have hj : j < 4 := hj
        match j, hj with
        | 0, _ => exact absurd rfl hn
        | 1, _ => exact ⟨0, 1, rfl, by decide, by decide, by decide⟩
        | 2, _ => exact ⟨1, 0, rfl, by decide, by decide, by decide⟩
        | 3, _ => exact ⟨1, 1, rfl, by decide, by decide, by decide⟩
      obtain ⟨s, t, e, hs, ht, hst⟩ := this
      refine ⟨s * (m : Int) + a, t * (m : Int) + b', ?_, ?_⟩
      · rcases hs with rfl | rfl <;> rcases ht with rfl | rfl <;> first | (exact absurd hst (by decide)) | exact ⟨by omega, by omega, by omega, by omega, by omega⟩
      · rw [e]
        rfl
  · rintro ⟨v, w, o, rfl⟩
    have b1 := div_bit h1 o.v0 o.v1
    have b2 := div_bit h1 o.w0 o.w1
    obtain ⟨k1, k2, k3⟩ := ks2_at (b1.imp And.left And.left) (b2.imp And.left And.left)
    have k4 : 1 ≤ 2 * (v / (m : Int)) + w / (m : Int) := by
      have := o.ne
      omega
    refine ⟨(2 * (v / (m : Int)) + w / (m : Int)).toNat, show _ < 4 by omega, ?_, [v % (m : Int), w % (m : Int)], emod_every h1 v w, ?_⟩
    · have : ∀ i, i < 4 → 1 ≤ i → fQ.getD i 0 ≠ fQ.getD 0 0 := by decide
      exact this _ (by omega) (by omega)
    · rw [k1, std_pair]
      rfl
theorem nx_free {v w v' w' : Int} (o : Oth2 m v w) (o' : Oth2 m v' w') (hs : (v' = nxt m v ∧ w' = w) ∨ (v' = v ∧ w' = nxt m w)) : nxI (mH 2 m ks2 fchS).ah (otF m) (fx m v w) (fx m v' w') := by
  have ok := o_free h1 h5
  refine ⟨?_, (mem_otF h1 h5).mpr ⟨v', w', o', rfl⟩⟩
  have r0 : 0 ≤ fx m v w := Int.natCast_nonneg _
  have b1 := (div_bit h1 o.v0 o.v1).imp And.left And.left
  have b2 := (div_bit h1 o.w0 o.w1).imp And.left And.left
  have b1' := (div_bit h1 o'.v0 o'.v1).imp And.left And.left
  have b2' := (div_bit h1 o'.w0 o'.w1).imp And.left And.left
  obtain ⟨k1, _, _⟩ := ks2_at b1 b2
  obtain ⟨k1', _, _⟩ := ks2_at b1' b2'
  have em := emod_every h1 v w
  refine (mah_iff ok r0).mpr ⟨(2 * (v / (m : Int)) + w / (m : Int), 2 * (v' / (m : Int)) + w' / (m : Int)), ?_, [v % (m : Int), w % (m : Int)], em, ?_, ?_⟩
  · refine mem_srtP.mpr ?_
    rcases hs with ⟨rfl, rfl⟩ | ⟨rfl, rfl⟩ <;> rw [nxt_div h1] <;> rcases b1 with e | e <;> rcases b2 with e' | e' <;> rw [e, e'] <;> decide
  · rw [st_free]
    show _ = idxM frH m (mStd m (ks2.getD (2 * (v / (m : Int)) + w / (m : Int)).toNat []) _)
    rw [k1, std_pair]
    rfl
  · rw [st_free]
    show _ = idxM frH m (mStd m (ks2.getD (2 * (v' / (m : Int)) + w' / (m : Int)).toNat []) (laterM m (ks2.getD (2 * (v / (m : Int)) + w / (m : Int)).toNat []) (ks2.getD (2 * (v' / (m : Int)) + w' / (m : Int)).toNat []) _))
    rw [k1, k1']
    have el : laterM m [v / (m : Int), w / (m : Int)] [v' / (m : Int), w' / (m : Int)] [v % (m : Int), w % (m : Int)] = [v' % (m : Int), w' % (m : Int)] := by
      show [(v % (m : Int) + if v / (m : Int) = v' / (m : Int) then 0 else 1) % (m : Int), (w % (m : Int) + if w / (m : Int) = w' / (m : Int) then 0 else 1) % (m : Int)] = _
      have nm : ∀ z : Int, nxt m z % (m : Int) = (z % (m : Int) + 1) % (m : Int) := fun z => by
        unfold nxt
        exact (div_std h1 (Int.emod_nonneg _ (by omega)) (Int.emod_lt_of_pos _ (by omega))).2
      rcases hs with ⟨rfl, rfl⟩ | ⟨rfl, rfl⟩
      · rw [nm, nxt_div h1, if_neg (by rcases b1 with e | e <;> rw [e] <;> decide), if_pos rfl, Int.add_zero, Int.emod_emod]
      · rw [nm, nxt_div h1, if_pos rfl, if_neg (by rcases b2 with e | e <;> rw [e] <;> decide), Int.add_zero, Int.emod_emod]
    rw [el, std_pair]
    rfl
/-! by the cell that moves -/
def gx (m c : Nat) (v w : Int) : Int := if c = 0 then fx m v w else fx m w v
omit h1 h5 in
theorem Oth2.symm {v w : Int} (o : Oth2 m v w) : Oth2 m w v := ⟨o.w0, o.w1, o.v0, o.v1, o.ne.symm⟩
theorem gx_cel {c : Nat} (hc : c < 2) {v w : Int} (o : Oth2 m v w) : cel frH m c (gx m c v w) = v ∧ cel frH m (1 - c) (gx m c v w) = w := by
  match c, hc with
  | 0, _ => exact fx_cel h1 h5 ⟨o.v0, o.v1, o.w0, o.w1⟩
  | 1, _ => exact (fx_cel h1 h5 ⟨o.w0, o.w1, o.v0, o.v1⟩).symm
theorem mem_gx {c : Nat} (hc : c < 2) {x : Int} : x ∈ otF m ↔ ∃ v w, Oth2 m v w ∧ x = gx m c v w := by
  rw [mem_otF h1 h5]
  match c, hc with
  | 0, _ => exact Iff.rfl
  | 1, _ => exact ⟨fun ⟨v, w, o, e⟩ => ⟨w, v, o.symm, e⟩, fun ⟨v, w, o, e⟩ => ⟨w, v, o.symm, e⟩⟩
theorem nx_gx {c : Nat} (hc : c < 2) {v w v' w' : Int} (o : Oth2 m v w) (o' : Oth2 m v' w') (hs : (v' = nxt m v ∧ w' = w) ∨ (v' = v ∧ w' = nxt m w)) : nxI (mH 2 m ks2 fchS).ah (otF m) (gx m c v w) (gx m c v' w') := by
  match c, hc with
  | 0, _ => exact nx_free h1 h5 o o' hs
  | 1, _ => exact nx_free h1 h5 o.symm o'.symm (hs.symm.imp And.symm And.symm)
theorem walk_gx {c : Nat} (hc : c < 2) {w : Int} (w0 : (m : Int) ≤ w) (w1 : w < 2 * (m : Int)) : ∀ (d : Nat) {v : Int}, 0 ≤ v → v < 2 * (m : Int) → Walk (nxI (mH 2 m ks2 fchS).ah (otF m)) d (gx m c v w) (gx m c (itn (nxt m) d v) w)
  | 0, v, _, _ => .zero _
  | d + 1, v, v0, v1 => by
    have r := nxt_rng h1 h5 v0 v1
    exact .succ (nx_gx h1 h5 hc ⟨v0, v1, by omega, w1, .inr w0⟩ ⟨r.1, r.2, by omega, w1, .inr w0⟩ (.inl ⟨rfl, rfl⟩)) (walk_gx hc w0 w1 d r.1 r.2)
end
end K5
/-! Pl9: the free house: no word, and a table that holds. -/
namespace K5
theorem Walk.snoc {α : Type} {nx : α → α → Prop} {j : Nat} {a b c : α} (w : Walk nx j a b) (n : nx b c) : Walk nx (j + 1) a c := by
  induction w with
  | zero => exact .succ n (.zero _)
  | succ n' _ ih => exact .succ n' (ih n)
theorem srtI_sorted (l : List Int) : (srtI l).Pairwise fun a b => leI a b = true :=
  List.pairwise_mergeSort (fun a b c h1 h2 => by simp only [leI, decide_eq_true_eq] at *; omega) (fun a b => by simp only [leI, Bool.or_eq_true, decide_eq_true_eq]; omega) _
theorem sorted_ext {l k : List Int} (h : l.Pairwise fun a b => leI a b = true) (nl : l.Nodup) (hk : k.Pairwise (· < ·)) (e : ∀ x, x ∈ l ↔ x ∈ k) : l = k :=
  List.Perm.eq_of_pairwise (le := fun a b => leI a b = true) (fun a b _ _ h1 h2 => by
    simp only [leI, decide_eq_true_eq] at h1 h2
    omega) h (hk.imp fun h => decide_eq_true (Int.le_of_lt h)) ((List.perm_ext_iff_of_nodup nl (nodup_of_ltI hk)).mpr e)
theorem leftW_eq {ah : List (List Int)} {others : List Int} {shown : List (List Int)} {pace w : Nat} {lot k : List Int} (nl : lot.Nodup) (sl : ∀ x ∈ lot, x ∈ others) (hk : k.Pairwise (· < ·)) (e : ∀ x, x ∈ leftW ah others shown pace w lot ↔ x ∈ k) : leftW ah others shown pace w lot = k :=
  sorted_ext (srtI_sorted _) (left_good nl sl).1 hk e
/-! ### the least lots -/
theorem sub_full {a b : List Int} (na : a.Nodup) (s : ∀ x ∈ a, x ∈ b) (h : b.length ≤ a.length) : ∀ x ∈ b, x ∈ a := fun x hx => by
  refine Decidable.not_not.mp fun hn => ?_
  have := nodup_sub (x :: a) b (List.nodup_cons.mpr ⟨hn, na⟩) fun y hy => by
    rcases List.mem_cons.mp hy with rfl | hy
    · exact hx
    · exact s y hy
  rw [List.length_cons] at this
  omega
theorem mem_leastOf {ks : List (List Int)} {l : List Int} : l ∈ leastOf ks ↔ l ∈ ks ∧ ∀ o ∈ ks, o ≠ l → ¬ ∀ x ∈ o, x ∈ l := by
  unfold leastOf
  rw [List.mem_filter, mem_srtT]
  refine and_congr Iff.rfl ?_
  rw [Bool.not_eq_true', ← Bool.not_eq_true, List.any_eq_true]
  constructor
  · intro h o ho ne s
    exact h ⟨o, mem_srtT.mpr ho, by rw [Bool.and_eq_true, partB_iff]; exact ⟨by simp [ne], s⟩⟩
  · rintro h ⟨o, ho, e⟩
    rw [Bool.and_eq_true, partB_iff] at e
    exact h o (mem_srtT.mp ho) (by simpa using e.1) e.2
theorem least_below {ks : List (List Int)} (hs : ∀ l ∈ ks, l.Pairwise (· < ·)) : ∀ (n : Nat) (z : List Int), z ∈ ks → z.length ≤ n → ∃ y ∈ leastOf ks, ∀ x ∈ y, x ∈ z
  | n, z, hz, hn => by
    by_cases h : ∃ o ∈ ks, o ≠ z ∧ ∀ x ∈ o, x ∈ z
    · obtain ⟨o, ho, ne, s⟩ := h
      have no := nodup_of_ltI (hs o ho)
      have nz := nodup_of_ltI (hs z hz)
      have l1 := nodup_sub o z no s
      have l2 : ¬ z.length ≤ o.length := fun hl => ne (sorted_ext ((hs o ho).imp fun h => decide_eq_true (Int.le_of_lt h)) no (hs z hz) fun x => ⟨s x, sub_full no s hl x⟩)
      match n with
      | 0 => omega
      | n + 1 =>
        obtain ⟨y, hy, sy⟩ := least_below hs n o ho (by omega)
        exact ⟨y, hy, fun x hx => s x (sy x hx)⟩
    · exact ⟨z, mem_leastOf.mpr ⟨hz, fun o ho ne s => h ⟨o, ho, ne, s⟩⟩, fun _ h => h⟩
theorem srtT_nodup (ks : List (List Int)) : (srtT ks).Nodup := (List.mergeSort_perm _ _).nodup_iff.mpr nodup_ddp
theorem leastOf_len (ks : List (List Int)) : (leastOf ks).length ≤ ks.length := nodup_sub _ _ ((srtT_nodup ks).filter _) fun x hx => (mem_leastOf.mp hx).1
/-! ### the four lots -/
def flg (p : Bool × Bool) (c : Nat) : Bool := if c = 0 then p.1 else p.2
def setF (p : Bool × Bool) (c : Nat) : Bool × Bool := if c = 0 then (true, p.2) else (p.1, true)
open Classical in
noncomputable def XL (m : Nat) (mk : List Int) (p : Bool × Bool) : List Int := (otF m).filter fun i => decide (∀ c, c < 2 → flg p c = true → Cl m (mk.getD c 0) (cel frH m c i))
abbrev shF0 (m : Nat) (mk : List Int) : List (List Int) := shownL (mH 2 m ks2 fchS) (otF m) mk
abbrev lfF (m pace : Nat) (mk : List Int) : Nat → List Int → List Int := leftW (mH 2 m ks2 fchS).ah (otF m) (shF0 m mk) pace
theorem mem_XL {m : Nat} {mk : List Int} {p : Bool × Bool} {x : Int} : x ∈ XL m mk p ↔ x ∈ otF m ∧ ∀ c, c < 2 → flg p c = true → Cl m (mk.getD c 0) (cel frH m c x) := by
  unfold XL
  rw [List.mem_filter]
  simp
theorem XL_sorted (m : Nat) (mk : List Int) (p : Bool × Bool) : (XL m mk p).Pairwise (· < ·) := (oth_sorted _ _).filter _
noncomputable def famF (m : Nat) (mk : List Int) : List (List Int) := [(false, false), (false, true), (true, false), (true, true)].map (XL m mk)
theorem mem_famF {m : Nat} {mk l : List Int} : l ∈ famF m mk ↔ ∃ p, l = XL m mk p := by
  unfold famF
  rw [List.mem_map]
  exact ⟨fun ⟨p, _, e⟩ => ⟨p, e.symm⟩, fun ⟨p, e⟩ => ⟨p, by obtain ⟨a, b⟩ := p; cases a <;> cases b <;> simp, e.symm⟩⟩
theorem valsL_free {m : Nat} {mk : List Int} (l : mk.length = 2) : valsL 2 m ks2 0 mk = mk := by
  match mk, l with
  | [a, b], _ =>
    show [0 * (m : Int) + a, 0 * (m : Int) + b] = [a, b]
    rw [Int.zero_mul, Int.zero_add, Int.zero_add]
section
variable {m pace : Nat} {mk : List Int} (h1 : 1 ≤ m) (h5 : m ≤ 5) (mo : MksOk 2 m mk)
include h1 h5 mo
omit h1 h5 in
theorem mk_rng {c : Nat} (hc : c < 2) : 0 ≤ mk.getD c 0 ∧ mk.getD c 0 < m := every_getD (mks_every mo) hc
theorem mem_shF {c : Nat} (hc : c < 2) {i : Int} : i ∈ (shF0 m mk).getD c [] ↔ i ∈ otF m ∧ cel frH m c i = mk.getD c 0 := by
  rw [shownL_getD (by rw [mo.len]; exact hc)]
  unfold shownI
  rw [List.mem_filter, decide_eq_true_eq, cel_shows (o_free h1 h5)]
theorem E_free : ∀ a ∈ otF m, ∀ b, nxI (mH 2 m ks2 fchS).ah (otF m) a b → (cel frH m 0 b = nxt m (cel frH m 0 a) ∧ cel frH m 1 b = cel frH m 1 a) ∨ (cel frH m 0 b = cel frH m 0 a ∧ cel frH m 1 b = nxt m (cel frH m 1 a)) := fun a ha b hb => by
  have o := o_free h1 h5
  obtain ⟨c, hc, e1, e2⟩ := nx_cel o (flip_L ko_free po_free) (oth_rng o ha).1 hb
  have hc : c < 2 := hc
  match c, hc with
  | 0, _ => exact .inl ⟨e1, e2 1 (show (1 : Nat) < 2 by decide) (by decide)⟩
  | 1, _ => exact .inr ⟨e2 0 (show (0 : Nat) < 2 by decide) (by decide), e1⟩
omit h1 h5 mo in
theorem flg_cases {c e : Nat} (hc : c < 2) (he : e < 2) : e = c ∨ e = 1 - c := by omega
omit h1 h5 mo in
theorem flg_set (p : Bool × Bool) {c : Nat} (hc : c < 2) : flg (setF p c) c = true ∧ flg (setF p c) (1 - c) = flg p (1 - c) := by
  match c, hc with
  | 0, _ => exact ⟨rfl, rfl⟩
  | 1, _ => exact ⟨rfl, rfl⟩
theorem left_XL (hp : trip m ≤ pace) (p : Bool × Bool) {c : Nat} (hc : c < 2) : lfF m pace mk c (XL m mk p) = XL m mk (setF p c) := by
  have fs := flg_set p hc
  refine leftW_eq (nodup_of_ltI (XL_sorted ..)) (fun x hx => (mem_XL.mp hx).1) (XL_sorted ..) fun x => ?_
  rw [mem_leftW, mem_XL]
  constructor
  · rintro ⟨a, a1, a2, j, hj, wk⟩
    obtain ⟨ao, ac⟩ := mem_XL.mp a1
    have sa := ((mem_shF h1 h5 mo hc).mp a2).2
    obtain ⟨P, Q, _, e1, e2⟩ := walk2 (E_free h1 h5 mo) wk ao hc
    refine ⟨walk_in wk ao, fun e he hf => ?_⟩
    have ru := mk_rng mo he
    rcases flg_cases hc he with rfl | rfl
    · rw [e1, sa]
      exact Cl.many h1 h5 ru.1 (by omega) P (Cl.refl h1 h5 _)
    · rw [e2]
      rw [fs.2] at hf
      exact Cl.many h1 h5 ru.1 (by omega) Q (ac _ he hf)
  · rintro ⟨xo, xc⟩
    obtain ⟨v, w, o, rfl⟩ := (mem_gx h1 h5 hc).mp xo
    obtain ⟨g1, g2⟩ := gx_cel h1 h5 hc o
    obtain ⟨d, hd, ed⟩ := xc c hc fs.1
    rw [g1] at ed
    have ru := mk_rng mo hc
    have o0 := o.v0
    have o1 := o.w0
    have o2 := o.w1
    by_cases hw : (m : Int) ≤ w
    · have oa : Oth2 m (mk.getD c 0) w := ⟨ru.1, by omega, by omega, o.w1, .inr hw⟩
      obtain ⟨k1, k2⟩ := gx_cel h1 h5 hc oa
      have ina := (mem_gx h1 h5 hc).mpr ⟨_, _, oa, rfl⟩
      refine ⟨gx m c (mk.getD c 0) w, mem_XL.mpr ⟨ina, fun e he hf => ?_⟩, (mem_shF h1 h5 mo hc).mpr ⟨ina, k1⟩, d, by omega, ?_⟩
      · rcases flg_cases hc he with rfl | rfl
        · rw [k1]
          exact Cl.refl h1 h5 _
        · have := xc (1 - c) he (by rw [fs.2]; exact hf)
          rw [g2] at this
          rw [k2]
          exact this
      · have := walk_gx h1 h5 hc hw o.w1 d (v := mk.getD c 0) ru.1 (by omega)
        rw [ed] at this
        exact this
    · have hv : (m : Int) ≤ v := o.ne.resolve_right hw
      have T0 := trip_pos m (by omega) h1
      obtain ⟨t, ht⟩ : ∃ t, trip m = t + 1 := ⟨trip m - 1, by omega⟩
      have r := itn_rng h1 h5 t o1 o2
      have en : nxt m (itn (nxt m) t w) = w := by
        have e : nxt m (itn (nxt m) t w) = itn (nxt m) (t + 1) w := itn_add (nxt m) t 1 w
        rw [e, ← ht, itn_trip h1 h5 o1 o2]
      have hw' : (m : Int) ≤ itn (nxt m) t w := by
        have := nxt_flip h1 h5 r.1 r.2
        rw [en] at this
        omega
      have oa : Oth2 m (mk.getD c 0) (itn (nxt m) t w) := ⟨ru.1, by omega, r.1, r.2, .inr hw'⟩
      have ob : Oth2 m v (itn (nxt m) t w) := ⟨o.v0, o.v1, r.1, r.2, .inr hw'⟩
      obtain ⟨k1, k2⟩ := gx_cel h1 h5 hc oa
      have ina := (mem_gx h1 h5 hc).mpr ⟨_, _, oa, rfl⟩
      refine ⟨gx m c (mk.getD c 0) (itn (nxt m) t w), mem_XL.mpr ⟨ina, fun e he hf => ?_⟩, (mem_shF h1 h5 mo hc).mpr ⟨ina, k1⟩, d + 1, by omega, ?_⟩
      · rcases flg_cases hc he with rfl | rfl
        · rw [k1]
          exact Cl.refl h1 h5 _
        · have := xc (1 - c) he (by rw [fs.2]; exact hf)
          rw [g2] at this
          rw [k2]
          have ru2 := mk_rng mo he
          exact Cl.many h1 h5 ru2.1 (by omega) t this
      · have := walk_gx h1 h5 hc hw' r.2 d (v := mk.getD c 0) ru.1 (by omega)
        rw [ed] at this
        exact this.snoc (nx_gx h1 h5 hc ob o (.inr ⟨rfl, en.symm⟩))
theorem XL_ne (p : Bool × Bool) : XL m mk p ≠ [] := fun e => by
  have r0 := mk_rng mo (c := 0) (by decide)
  have r1 := mk_rng mo (c := 1) (by decide)
  have n1 := nxt_rng h1 h5 r1.1 (by omega)
  have n2 := (nxt_flip h1 h5 r1.1 (by omega)).mp r1.2
  have oa : Oth2 m (mk.getD 0 0) (nxt m (mk.getD 1 0)) := ⟨r0.1, by omega, n1.1, n1.2, .inr n2⟩
  obtain ⟨k1, k2⟩ := gx_cel h1 h5 (c := 0) (by decide) oa
  have : gx m 0 (mk.getD 0 0) (nxt m (mk.getD 1 0)) ∈ XL m mk p := mem_XL.mpr ⟨(mem_gx h1 h5 (by decide)).mpr ⟨_, _, oa, rfl⟩, fun e he _ => by
    match e, he with
    | 0, _ => rw [k1]; exact Cl.refl h1 h5 _
    | 1, _ =>
      have k2 : cel frH m 1 (gx m 0 (mk.getD 0 0) (nxt m (mk.getD 1 0))) = nxt m (mk.getD 1 0) := k2
      rw [k2]
      exact (Cl.refl h1 h5 _).next h1 h5 r1.1 (by omega)⟩
  rw [e] at this
  cases this
omit h1 h5 mo in
theorem XL_all : XL m mk (false, false) = otF m := by
  unfold XL
  refine List.filter_eq_self.mpr fun a _ => ?_
  refine @decide_eq_true _ (_) fun c hc h => ?_
  match c, hc with
  | 0, _ => cases h
  | 1, _ => cases h
theorem otF_few : (otF m).length ≤ 300 := (srchIn_marked (o_free h1 h5) (q := fQ) (ans := fQ.getD 0 0) (vals := mk) (by rw [mo.len]; decide)).few
theorem part3 (hp : trip m ≤ pace) : ∃ met : List (List Int), Searched (mH 2 m ks2 fchS) (otF m) (shF0 m mk) pace (.inr met) ∧ met.length < 64 ∧ (∀ k ∈ met, k ≠ [] ∧ k.length ≤ 1000) ∧ leastOf met ≠ [] ∧ (leastOf met).length ≤ 1000 ∧
    (∀ l ∈ leastOf met, LotOk l (otF m) ∧ l.Nodup) ∧ ∀ l ∈ leastOf met, ∀ one ∈ shF0 m mk, ((leastOf met).any fun z => partB z (leftP (mH 2 m ks2 fchS).ah (otF m) one l pace)) = true := by
  have o := o_free h1 h5
  have hI : SrchIn (mH 2 m ks2 fchS) (otF m) (shF0 m mk) := srchIn_marked o (by rw [mo.len]; decide)
  have sl : (shF0 m mk).length = 2 := by rw [shownL_len, mo.len]
  have oin : otF m ∈ famF m mk := mem_famF.mpr ⟨_, XL_all.symm⟩
  have one : otF m ≠ [] := fun e => XL_ne h1 h5 mo (false, false) (XL_all.trans e)
  have hF : ∀ l ∈ famF m mk, ∀ w, w < 2 → lfF m pace mk w l ≠ [] ∧ lfF m pace mk w l ∈ famF m mk := fun l hl w hw => by
    obtain ⟨p, rfl⟩ := mem_famF.mp hl
    rw [left_XL h1 h5 mo hp p hw]
    exact ⟨XL_ne h1 h5 mo _, mem_famF.mpr ⟨_, rfl⟩⟩
  have fl : (famF m mk).length = 4 := rfl
  obtain ⟨k, hk, met, s, m1, m2, m3, m4⟩ := srch_fam (n := 2) hF (by rw [fl]; decide) 4 [otF m] [(otF m, [])] (fun p hp => by rw [List.mem_singleton] at hp; subst hp; exact List.mem_cons_self)
    (fun l hl => by rw [List.mem_singleton] at hl; subst hl; exact oin) (by simp) (by rw [fl]; exact (by decide : 1 ≤ 4)) (by rw [fl]; exact (by decide : 4 - 1 < 4))
    (fun l hl h => absurd (List.mem_singleton.mp hl).symm (h (otF m, []) List.mem_cons_self))
  have ml := nodup_sub met (famF m mk) m3 m2
  have so : ∀ l ∈ met, l.Pairwise (· < ·) := fun l hl => by
    obtain ⟨p, rfl⟩ := mem_famF.mp (m2 l hl)
    exact XL_sorted ..
  have sub : ∀ l ∈ met, ∀ x ∈ l, x ∈ otF m := fun l hl => by
    obtain ⟨p, rfl⟩ := mem_famF.mp (m2 l hl)
    exact fun x hx => (mem_XL.mp hx).1
  have ne : ∀ l ∈ met, l ≠ [] := fun l hl => by
    obtain ⟨p, rfl⟩ := mem_famF.mp (m2 l hl)
    exact XL_ne h1 h5 mo p
  have om := m1 (otF m) List.mem_cons_self
  have ll := leastOf_len met
  refine ⟨met, ⟨hI, .inr ⟨one, k, by omega, by rw [sl]; exact s⟩⟩, by omega, fun l hl => ⟨ne l hl, ?_⟩, fun e => ?_, by omega, fun l hl => ?_, fun l hl on hon => ?_⟩
  · have := nodup_sub l (otF m) (nodup_of_ltI (so l hl)) (sub l hl)
    have := otF_few h1 h5 mo
    omega
  · obtain ⟨y, hy, _⟩ := least_below so _ _ om (Nat.le_refl _)
    rw [e] at hy
    cases hy
  · have hl := (mem_leastOf.mp hl).1
    refine ⟨⟨ne l hl, fun x hx => ⟨(oth_rng o (sub l hl x hx)).1, sub l hl x hx⟩, fun i hi => ?_⟩, nodup_of_ltI (so l hl)⟩
    have := List.pairwise_iff_getElem.mp (so l hl) i (i + 1) (by omega) hi (by omega)
    rw [List.getD_eq_getElem?_getD, List.getD_eq_getElem?_getD, List.getElem?_eq_getElem hi, List.getElem?_eq_getElem (show i < l.length by omega)]
    exact this
  · have hl := (mem_leastOf.mp hl).1
    obtain ⟨w, hw⟩ := List.getElem?_of_mem hon
    have hw2 := (List.getElem?_eq_some_iff.mp hw).1
    obtain ⟨z, hz, pz⟩ := m4 l hl w (by omega)
    obtain ⟨y, hy, sy⟩ := least_below so _ _ hz (Nat.le_refl _)
    refine List.any_eq_true.mpr ⟨y, hy, partB_iff.mpr fun x hx => ?_⟩
    have := partB_iff.mp pz x (sy x hx)
    have e : lfF m pace mk w l = leftP (mH 2 m ks2 fchS).ah (otF m) on l pace := by
      show leftP _ _ ((shF0 m mk).getD w []) _ _ = _
      rw [List.getD_eq_getElem?_getD, hw]
      rfl
    rw [← e]
    exact this
end
end K5
/-! Pl10: the free house: some state outlives every word. -/
namespace K5
def tau (m : Nat) (v w : Int) : Sta := (2 * (v / (m : Int)) + w / (m : Int), [v % (m : Int), w % (m : Int)])
def gta (m c : Nat) (v w : Int) : Sta := if c = 0 then tau m v w else tau m w v
abbrev mvF (m : Nat) : Sta → List Sta := movesOf (allRows (two 2)) freeH.ch [1, 2, 3] m
theorem mem_fch {p : Int × Int} : p ∈ freeH.ch ↔ p ∈ fchS := by
  rw [freeH_eq]
  exact mem_srtP
section
variable {m pace : Nat} {mk : List Int} (h1 : 1 ≤ m) (h5 : m ≤ 5) (mo : MksOk 2 m mk)
include h1 h5
omit h5 in
theorem tau_in {v w : Int} (o : Oth2 m v w) : (tau m v w).1 ∈ ([1, 2, 3] : List Int) := by
  have b1 := div_bit h1 o.v0 o.v1
  have b2 := div_bit h1 o.w0 o.w1
  have ne := o.ne
  show 2 * (v / (m : Int)) + w / (m : Int) ∈ _
  rcases b1 with ⟨e, h⟩ | ⟨e, h⟩ <;> rcases b2 with ⟨e', h'⟩ | ⟨e', h'⟩ <;> rw [e, e']
  · omega
  · decide
  · decide
  · decide
omit h5 in
theorem tau_mv {v w v' w' : Int} (o : Oth2 m v w) (o' : Oth2 m v' w') (hs : (v' = nxt m v ∧ w' = w) ∨ (v' = v ∧ w' = nxt m w)) : tau m v' w' ∈ mvF m (tau m v w) := by
  have b1 := (div_bit h1 o.v0 o.v1).imp And.left And.left
  have b2 := (div_bit h1 o.w0 o.w1).imp And.left And.left
  have b1' := (div_bit h1 o'.v0 o'.v1).imp And.left And.left
  have b2' := (div_bit h1 o'.w0 o'.w1).imp And.left And.left
  obtain ⟨k1, _, _⟩ := ks2_at b1 b2
  obtain ⟨k1', _, _⟩ := ks2_at b1' b2'
  refine mem_moves.mpr ⟨(2 * (v / (m : Int)) + w / (m : Int), 2 * (v' / (m : Int)) + w' / (m : Int)), ?_, rfl, tau_in h1 o', ?_⟩
  · refine mem_fch.mpr ?_
    rcases hs with ⟨rfl, rfl⟩ | ⟨rfl, rfl⟩ <;> rw [nxt_div h1] <;> rcases b1 with e | e <;> rcases b2 with e' | e' <;> rw [e, e'] <;> decide
  · rw [ks2_rows]
    show _ = (2 * (v' / (m : Int)) + w' / (m : Int), laterR m (ks2.getD (2 * (v / (m : Int)) + w / (m : Int)).toNat []) (ks2.getD (2 * (v' / (m : Int)) + w' / (m : Int)).toNat []) [v % (m : Int), w % (m : Int)])
    rw [k1, k1']
    have el : laterR m [v / (m : Int), w / (m : Int)] [v' / (m : Int), w' / (m : Int)] [v % (m : Int), w % (m : Int)] = [v' % (m : Int), w' % (m : Int)] := by
      show [(v % (m : Int) + if v / (m : Int) = v' / (m : Int) then 0 else 1) % (m : Int), (w % (m : Int) + if w / (m : Int) = w' / (m : Int) then 0 else 1) % (m : Int)] = _
      have nm : ∀ z : Int, nxt m z % (m : Int) = (z % (m : Int) + 1) % (m : Int) := fun z => by
        unfold nxt
        exact (div_std h1 (Int.emod_nonneg _ (by omega)) (Int.emod_lt_of_pos _ (by omega))).2
      rcases hs with ⟨rfl, rfl⟩ | ⟨rfl, rfl⟩
      · rw [nm, nxt_div h1, if_neg (by rcases b1 with e | e <;> rw [e] <;> decide), if_pos rfl, Int.add_zero, Int.emod_emod]
      · rw [nm, nxt_div h1, if_pos rfl, if_neg (by rcases b2 with e | e <;> rw [e] <;> decide), Int.add_zero, Int.emod_emod]
    rw [el]
    rfl
omit h5 in
theorem gta_mv {c : Nat} (hc : c < 2) {v w v' w' : Int} (o : Oth2 m v w) (o' : Oth2 m v' w') (hs : (v' = nxt m v ∧ w' = w) ∨ (v' = v ∧ w' = nxt m w)) : gta m c v' w' ∈ mvF m (gta m c v w) := by
  match c, hc with
  | 0, _ => exact tau_mv h1 o o' hs
  | 1, _ => exact tau_mv h1 o.symm o'.symm (hs.symm.imp And.symm And.symm)
theorem walk_gta {c : Nat} (hc : c < 2) {w : Int} (w0 : (m : Int) ≤ w) (w1 : w < 2 * (m : Int)) : ∀ (d : Nat) {v : Int}, 0 ≤ v → v < 2 * (m : Int) → Walk (fun a b => b ∈ mvF m a) d (gta m c v w) (gta m c (itn (nxt m) d v) w)
  | 0, v, _, _ => .zero _
  | d + 1, v, v0, v1 => by
    have r := nxt_rng h1 h5 v0 v1
    exact .succ (gta_mv h1 hc ⟨v0, v1, by omega, w1, .inr w0⟩ ⟨r.1, r.2, by omega, w1, .inr w0⟩ (.inl ⟨rfl, rfl⟩)) (walk_gta hc w0 w1 d r.1 r.2)
omit h1 h5 in
theorem gta_swap {c : Nat} (hc : c < 2) (v w : Int) : gta m c v w = gta m (1 - c) w v := by
  match c, hc with
  | 0, _ => rfl
  | 1, _ => rfl
/-- the state that a look at c leaves -/
def stP (m : Nat) (mk : List Int) (c : Nat) : Sta := gta m c (mk.getD c 0) (nxt m (mk.getD (1 - c) 0))
include mo
theorem stP_oth {c : Nat} (hc : c < 2) : Oth2 m (mk.getD c 0) (nxt m (mk.getD (1 - c) 0)) ∧ (m : Int) ≤ nxt m (mk.getD (1 - c) 0) := by
  have r0 := mk_rng mo hc
  have r1 := mk_rng mo (show 1 - c < 2 by omega)
  have n1 := nxt_rng h1 h5 r1.1 (by omega)
  have n2 := (nxt_flip h1 h5 r1.1 (by omega)).mp r1.2
  exact ⟨⟨r0.1, by omega, n1.1, n1.2, .inr n2⟩, n2⟩
theorem stP_walk {c : Nat} (hc : c < 2) : Walk (fun a b => b ∈ mvF m a) (trip m) (stP m mk c) (stP m mk (1 - c)) := by
  have T0 := trip_pos m (by omega) h1
  obtain ⟨t, ht⟩ : ∃ t, trip m = t + 1 := ⟨trip m - 1, by omega⟩
  have hd : 1 - c < 2 := by omega
  have cc : 1 - (1 - c) = c := by omega
  obtain ⟨oc, nc⟩ := stP_oth h1 h5 mo hc
  obtain ⟨od, nd⟩ := stP_oth h1 h5 mo hd
  rw [cc] at od nd
  have r0 := mk_rng mo hc
  have r1 := mk_rng mo hd
  have n0 := nxt_rng h1 h5 r0.1 (by omega)
  have n1 := nxt_rng h1 h5 r1.1 (by omega)
  rw [ht]
  have s1 : gta m c (nxt m (mk.getD c 0)) (nxt m (mk.getD (1 - c) 0)) ∈ mvF m (stP m mk c) := gta_mv h1 hc oc ⟨n0.1, n0.2, n1.1, n1.2, .inr nc⟩ (.inl ⟨rfl, rfl⟩)
  refine .succ s1 ?_
  rw [gta_swap hc]
  have := walk_gta h1 h5 hd nd n0.2 t n1.1 n1.2
  have e : itn (nxt m) t (nxt m (mk.getD (1 - c) 0)) = mk.getD (1 - c) 0 := by
    have := itn_trip h1 h5 r1.1 (v := mk.getD (1 - c) 0) (by omega)
    rw [ht] at this
    exact this
  rw [e] at this
  unfold stP
  rw [cc]
  exact this
theorem stP_filt {c : Nat} (hc : c < 2) {st : List Sta} (h : stP m mk c ∈ st) : stP m mk c ∈ filtS (allRows (two 2)) (shF mk) c st := by
  obtain ⟨o, _⟩ := stP_oth h1 h5 mo hc
  have r := mk_rng mo hc
  have sh : (shF mk).getD c (0, 0) = (0, mk.getD c 0) := by
    unfold shF
    have hl : c < mk.length := by rw [mo.len]; exact hc
    rw [List.getD_eq_getElem?_getD, List.getElem?_map, List.getElem?_eq_getElem hl, List.getD_eq_getElem?_getD, List.getElem?_eq_getElem hl]
    rfl
  have d0 : mk.getD c 0 / (m : Int) = 0 := Int.ediv_eq_zero_of_lt r.1 r.2
  have d1 : mk.getD c 0 % (m : Int) = mk.getD c 0 := Int.emod_eq_of_lt r.1 r.2
  refine mem_filtS.mpr ⟨h, ?_, ?_⟩
  · rw [sh, ks2_rows]
    have b1 := (div_bit h1 o.v0 o.v1).imp And.left And.left
    have b2 := (div_bit h1 o.w0 o.w1).imp And.left And.left
    have ka := (ks2_at b1 b2).1
    have kb := (ks2_at b2 b1).1
    match c, hc with
    | 0, _ =>
      show (ks2.getD (2 * (mk.getD 0 0 / (m : Int)) + nxt m (mk.getD (1 - 0) 0) / (m : Int)).toNat []).getD 0 0 = 0
      rw [ka]
      exact d0
    | 1, _ =>
      show (ks2.getD (2 * (nxt m (mk.getD (1 - 1) 0) / (m : Int)) + mk.getD 1 0 / (m : Int)).toNat []).getD 1 0 = 0
      rw [kb]
      exact d0
  · rw [sh]
    match c, hc with
    | 0, _ => exact d1
    | 1, _ => exact d1
theorem outl_alive (hp : trip m ≤ pace) : ∀ (k c : Nat) (st : List Sta), c < 2 → stP m mk c ∈ st → outl (mvF m) pace (allRows (two 2)) (shF mk) (alt c (k + 1)) st ≠ []
  | 0, c, st, hc, h, e => by
    have e : filtS (allRows (two 2)) (shF mk) c st = [] := e
    have := stP_filt h1 h5 mo hc h
    rw [e] at this
    cases this
  | k + 1, c, st, hc, h, e => by
    have e : outl (mvF m) pace (allRows (two 2)) (shF mk) (alt (1 - c) (k + 1)) (spreadS (mvF m) pace (filtS (allRows (two 2)) (shF mk) c st) (filtS (allRows (two 2)) (shF mk) c st)) = [] := e
    exact outl_alive hp k (1 - c) _ (by omega) (((isS (mvF m)).iff pace _).mpr ⟨_, stP_filt h1 h5 mo hc h, trip m, hp, stP_walk h1 h5 mo hc⟩) e
theorem part3_out (hp : trip m ≤ pace) : outl (movesOf (allRows (two 2)) freeH.ch [1, 2, 3] m) pace (allRows (two 2)) (shF mk) [0, 1, 0, 1, 0] (everyS [1, 2, 3] m 2) ≠ [] := by
  refine outl_alive h1 h5 mo hp 4 0 _ (by decide) (mem_everyS.mpr ⟨?_, ?_⟩)
  · exact tau_in h1 (stP_oth h1 h5 mo (c := 0) (by decide)).1
  · exact emod_every h1 _ _
omit mo in
theorem told_free : Told 2 (allRows (two 2)) freeH.ch [1, 2, 3] m := by
  have e : freeH.ch.length = 8 := by
    rw [freeH_eq]
    exact srtP_len _
  refine ⟨by decide, h1, by omega, ?_, by rw [ks2_rows]; decide, by rw [ks2_rows]; decide, by omega, fun p hp => ?_, by rw [ks2_rows]; decide, by decide⟩
  · exact Nat.le_trans (Nat.pow_le_pow_left h5 2) (by decide)
  · have g : ∀ p ∈ fchS, 0 ≤ p.1 ∧ p.1 < ks2.length ∧ 0 ≤ p.2 ∧ p.2 < ks2.length := by decide
    rw [ks2_rows]
    exact g p (mem_fch.mp hp)
end
end K5
/-! Law14: the whole walk of the law. -/
namespace K5
open PySem PySem.Spec PyProof.Rows L2
theorem wd_im (ws : List Nat) : Im.dat (tI (ws.map fun w : Nat => (w : Int))) = Tu (nI ws) := by
  show Im.dat (.tuple ((ws.map fun w : Nat => (w : Int)).map .int)) = _
  rw [List.map_map]
  rfl
theorem told_L {n m at_ : Nat} {kept : List (List Int)} {prs : List (Int × Int)} {q : List Int} (dr : Drawn n m) (ko : KeptOk n kept) (po : PrsOk n kept prs) (qo : QstOk kept.length at_ q) : Told n kept prs (othersI q (q.getD at_ 0)) m := by
  have b := kept8 dr ko
  have o := mkOk_L dr ko po
  have f := kept_facts ko
  have pl := prs_len dr ko po
  refine ⟨by omega, o.m1, by omega, ?_, by omega, f.len, by omega, fun p hp => ?_, fun x hx => ?_, nodup_of_ltI (oth_sorted _ _)⟩
  · have := o.pow
    rw [show (houL n kept prs).sz.length = n from List.length_replicate ..] at this
    exact this
  · exact pall_mem (po.sub.subset hp)
  · obtain ⟨i, rfl, hi, _⟩ := mem_oth.mp hx
    rw [qo.len] at hi
    omega
section
variable {P : Program} {w : World} {K : PySem.W.Frag} {mg : Str → Option Value} {base : Heap} {f : Addr}
theorem law_all (T : Txt K mg) {cdv : Value} {A0 : Around} {outer : List Env} {s : Shared} {H : Hp} {E : XK} {a : Addr} {ns : List Int} {R : Res → Prop} (hr : Room 8 (xL P w K mg base f cdv A0 outer s H E).A) (sq : SqL K H a (ns.map V.int)) (hR : R (.rt (Bl true))) :
    XX (xL P w K mg base f cdv A0 outer s H E) (bs0 H H) (stR nLW [.ref a]) (defBody s_law) R := by
  refine law_a T hr sq fun A i n m pace dr hp => ?_
  refine law_b T hr dr fun kept ko => ?_
  have b := kept8 dr ko
  refine law_c T hr dr ko fun prs po => ?_
  refine law_d T hr b.2.1 b.1 fun at_ q qo => ?_
  have ri := rInit_parts dr ko po
  refine law_e T hr dr ⟨true, false, false, two n, kept, prs, rfl, ri.1, ri.2, stOk_L dr ko po, chOk_L dr ko po, rfl⟩ (mkOk_L dr ko po) (q_len ko qo) (fun x hx => (qo.bit x hx).1) fun mk mo => ?_
  obtain ⟨ws, w1, w2, w3, w4⟩ := part1 dr ko po qo mo hp
  have hz : (mH n m kept prs).sz.length = n := by
    show (mSz _ _).length = n
    unfold mSz
    rw [List.length_map]
    exact List.length_replicate ..
  refine law_g T hr dr (kept_facts ko).len qo mo hz (sight_L dr ko po qo mo) w4 ?_
  rw [wd_im]
  refine law_h T hr dr (kept_facts ko).len qo (by rw [qo.len]; omega) mo (told_L dr ko po qo) w1 w2 (part2 dr ko po qo mo w1 w3) ?_
  refine law_i T hr dr hR fun hn x hx => ?_
  subst hn
  have h1 := b.2.2.2.2.1
  have h5 := b.2.2.2.2.2
  have oF : MkOk freeH m := by rw [freeH_eq]; exact o_free h1 h5
  have eF : fH m = mH 2 m ks2 fchS := by show markedH freeH m = _; rw [freeH_eq]
  have eA : fA m = mQ 2 m ks2 fchS fQ := by show qM freeH fQ m = _; rw [freeH_eq]
  have hfl : fQ.length = freeH.st.length := by rw [freeH_eq]; exact q_len ko_free qo_free
  have hS : SightOk (fH m) (fA m) mk := by
    have := sight_L (dr_free h1 h5) ko_free po_free qo_free mo
    rw [valsL_free mo.len] at this
    rw [eF, eA]
    exact this
  have hzF : (fH m).sz.length = 2 := rfl
  obtain ⟨met, p1, p2, p3, p4, p5, p6, p7⟩ := part3 (pace := trip m + x) h1 h5 mo (Nat.le_add_right _ _)
  have e0 : othersI (fA m) 0 = otF m := by rw [eA]; rfl
  have hW : Searched (fH m) (othersI (fA m) 0) (shownL (fH m) (othersI (fA m) 0) mk) (trip m + x) (.inr met) := by
    rw [e0, eF]
    exact p1
  refine law_j T hr oF hfl (by rw [mo.len]; decide) ?_
  refine law_k T hr hzF hS hW p2 p3 ?_
  refine law_l T hr hzF hS hW ?_
  refine law_m T hr hzF hS hW.1 p4 p5 (by rw [e0]; exact p6) (by rw [e0, eF]; exact p7) ?_
  exact law_n T hr mo.len (told_free h1 h5) (part3_out h1 h5 mo (Nat.le_add_right _ _)) hR
end
end K5
/-! Law15: the law's promise. -/
namespace K5
open PySem PySem.Spec PyProof.Rows L2
section
variable {P : Program} {w : World} {K : PySem.W.Frag} {mg : Str → Option Value} {base : Heap} {f : Addr} {fd : FuncData}
def spLaw (K : PySem.W.Frag) : Sp := fun vs H Q _ => ∃ (a : Addr) (ns : List Int), vs = [.ref a] ∧ SqL K H a (ns.map V.int) ∧ ∀ H', Q (.bl true) H'
theorem law_ok (T : Txt K mg) (F : FunD K "law" "law" (defArgs s_law) (defBody s_law) (defScope s_law) [] [] f fd) : FnOk P w K mg base CX0 9 f fd ["_law_script"] (spLaw K) := by
  refine F.ok sc_law (by rintro vs H Q E ⟨a, ns, rfl, _⟩; rfl) fun cdv A0 outer s H vs Q E hr ⟨a, ns, e, sq, q⟩ => ?_
  subst e
  refine ⟨_, (law_all T hr sq (R := fun r => r = .rt (Bl true)) rfl).nox, ?_⟩
  refine ⟨H, ok_startR (Same.refl H) (show 1 ≤ 31 by decide), fun z hz => ?_⟩
  cases z with
  | rt x =>
    have e : x = Bl true := by cases hz; rfl
    subst e
    refine fun v M' H' s2 k2 r2 => ?_
    rw [rI_bl r2]
    exact q H'
  | nx ρ => cases hz
  | bk ρ => cases hz
  | ct ρ => cases hz
end
end K5
set_option Elab.async false
set_option linter.all false
set_option maxRecDepth 100000
set_option maxHeartbeats 0
namespace K5
open PySem PySem.Spec PyProof.Rows L2
def nam1 : List PySem.Str := ["HouseError", "InvalidHouse", "InvalidStanding", "InvalidQuestion", "InvalidView", "InvalidRow", "InvalidPace", "InvalidSize", "is_integer", "is_number", "is_sequence", "times_itself", "MOST_CELLS", "MOST_CONTENTS", "MOST_STANDINGS", "all_standings", "standings_count", "wrong_size", "fits_sizes", "wrong_standing", "wrong_change", "House", "need_house", "need_number", "need_question", "is_window", "need_view", "cell_view", "seen_at", "shown_contents", "is_shown", "need_row"]
def nam2 : List PySem.Str := ["need_pace", "need_sight", "is_rising_lot", "is_part_of", "least_sets", "need_sizes", "ways_house", "free_house", "marked_standing", "marked_standings", "need_marks", "with_marks", "marked_question", "MOST_LOTS", "left_paced", "paced_search", "pace_word", "pace_table", "pace_holds", "need_modulus", "round_trip", "_law_dealt", "_law_any", "_law_of", "_law_standings", "_law_others", "_law_marks", "_law_moves", "_law_spread", "_law_outlived", "_law_trip"]
abbrev nams : List PySem.Str := nam1 ++ nam2
abbrev Rw : PySem.W.OpenRow := PySem.W.OpenLaw.row PySem.Challenge.rw_onceitwas_k53_whole_cells_of_two_content
/-- the head's facts, one Bool more -/
def hk : PySem.W.Hook where
  α := He.AlD × Bool
  obs := fun s => (He.obsD fa fn (He.frG s.heap.get? (He.asD s.heap.get? 5)), xtra (He.frG s.heap.get? (He.asD s.heap.get? 5)))
  val := fun _ => (He.valD fn, true)
  says := fun _ h => ∃ K : PySem.W.Frag, K.In h ∧ He.SaysD fa fn K ∧ xtra K = true
  of := fun _ _ e => ⟨_, He.frG_in, congrArg Prod.fst e, congrArg Prod.snd e⟩
  keeps := fun _ _ _ ⟨K, hK, c⟩ k => ⟨K, PySem.W.Frag.In.keeps hK k, c⟩
def obs1 (g : Addr → Option Obj) (as : List Addr) : He.AlD × Bool := (He.obsD fa fn (He.frG g as), xtra (He.frG g as))
def ob (s : PySem.W.SharedT) : He.AlD × Bool := obs1 (HandSHeadRun.getT s) (He.asD (HandSHeadRun.getT s) 5)
theorem ob_eq (s : PySem.W.SharedT) : ob s = hk.obs s.abs := by
  have e : HandSHeadRun.getT s = s.abs.heap.get? := funext fun a => HandSHeadRun.getT_eq s a
  unfold ob
  rw [e]
  rfl
theorem run (w : World) : HandSHeadRun.RunEq Rw (PySem.W.view Rw.prog [73]) hk ob 6000 nams w := by
  intro os
  kernel_rfl
end K5
set_option Elab.async false
set_option linter.all false
set_option maxRecDepth 100000
set_option maxHeartbeats 0
/-! Fin: the head and the walk joined. -/
namespace K5
open PySem PySem.Spec PyProof.Rows L2
theorem facts {P : Program} {w : World} {K : PySem.W.Frag} {h : Heap} {mg : Str → Option Value} {f : Addr} (X : K.In h) (G : h.Ns mainGlobals mg) (hfa : mg ("law" : Str) = some (.ref f)) (c : He.SaysD fa fn K ∧ xtra K = true) :
    ∃ fd : FuncData, (∀ (s : Shared) (v : Value), BindsTo s fd ⟨[v], []⟩ [("_law_script", v)]) ∧ ∀ base : Heap, K.In base → base.Ns mainGlobals mg → FnOk P w K mg base CX0 9 f fd ["_law_script"] (spLaw K) := by
  have T : Txt K mg := ⟨⟨h, X, G⟩, c.1, c.2⟩
  obtain ⟨fd, F⟩ := T.d_law
  have e := hfa.symm.trans T.g_law
  cases e
  have b := FunD.bindsA (ps := ["_law_script"]) F fun _ _ _ _ _ _ us hl => match us, hl with | [_], _ => rfl
  exact ⟨fd, fun s v => b s [v] rfl, fun base _ _ => law_ok T F⟩
end K5
open PySem PySem.W PySem.Calls PyProof.Rows
theorem PySem.Challenge.cw_onceitwas_k53_whole_cells_of_two_content_holds : PySem.Challenge.rw_onceitwas_k53_whole_cells_of_two_content.Holds := by
  w_on; o_law
  refine HandSHeadRun.head_any (r := K5.Rw) (q := view K5.Rw.prog [73]) (H := K5.hk) (ob := K5.ob) (M := 6000) (loose := K5.nams) (d := HandSHeadRun.topDef K5.Rw.prog 73) (kwd := []) K5.ob_eq
    (by kernel_rfl) (fun s => by kernel_rfl) K5.run (by kernel_rfl) (by kernel_rfl) (by kernel_rfl) (by rfl) (by first | assumption | decide +kernel) (by decide +kernel) ⟨rfl, rfl, rfl, rfl, rfl, by decide +kernel⟩ ?hw ?hc
  case hw => w_witness2
  case hc =>
    refine L2.walk_ofE (l := PySem.Challenge.rw_onceitwas_k53_whole_cells_of_two_content) (n := 63) (k := 9) (x := "_law_script") (CX := L2.CX0) rfl (by decide) (by kernel_rfl) ⟨rfl, by decide, by decide⟩ ?F (fun _ _ _ _ z => z)
    intro w mg fa h Y G hmg0
    obtain ⟨K, KX, c⟩ := Y
    have hmg : mg ("law" : PySem.Str) = some (.ref fa) := by
      have e : (HandSHeadRun.topDef K5.Rw.prog 73).name = ("law" : PySem.Str) := by kernel_rfl
      rw [← e]
      exact hmg0
    obtain ⟨fd, hb, hF⟩ := K5.facts (P := (PySem.Challenge.rw_onceitwas_k53_whole_cells_of_two_content).prog) (w := w) KX G hmg c
    exact ⟨K, fd, K5.spLaw K, KX, hb, fun H a ns hl _ hS => ⟨a, ns, rfl, hS, fun _ => rfl⟩, hF⟩
