import PyProof.Rows.All
import Wide.All
import OpenK.AllK
import Wide.FinOn
import HandS.ForMost
import HandS.ForExc
import HandS.Deep
import HandS.IsInst
import HandS.TupAny
import HandS.TupMul
import HandS.TupLe
import HandS.Rev
import HandS.StrMore
import HandS.Replace
import HandS.Strs
import HandS.Iter
import HandS.RevTup
import HandS.WordsExc
import HandS.ExcIs
import KE.DataMinMax
import KE.KOwnIn
import PySem.Challenge.RW_showtree_k06_above
set_option Elab.async false
set_option linter.all false
set_option maxRecDepth 100000
set_option maxHeartbeats 2000000
/-! THE DATA LAYER: a reading as a plain function over PyData. A def's body is read as a function from the values of its slots (as data) to what it answers. -/
namespace DL
open PySem L2 PyProof.Rows

/-- an equation that simp is not to take for one by unfolding -/
theorem nrfl {α : Sort u} {a b : α} (h : a = b) : a = b := h
/-! ### results -/
inductive Res (α : Type) where
  | ok (a : α) | ex (n : Nat) | bad
namespace Res
variable {α β : Type}
def bind (r : Res α) (f : α → Res β) : Res β := match r with
  | .ok a => f a
  | .ex n => .ex n
  | .bad => .bad
def of (o : Option α) : Res α := match o with
  | some a => .ok a
  | none => .bad
def post (r : Res α) (p : α → Prop) (e : Nat → Prop) : Prop := match r with
  | .ok a => p a
  | .ex n => e n
  | .bad => False
@[simp] theorem ok_bind (a : α) (f : α → Res β) : (Res.ok a).bind f = f a := nrfl rfl
@[simp] theorem ex_bind (n : Nat) (f : α → Res β) : (Res.ex n : Res α).bind f = .ex n := nrfl rfl
@[simp] theorem bad_bind (f : α → Res β) : (Res.bad : Res α).bind f = .bad := nrfl rfl
@[simp] theorem of_some (a : α) : Res.of (some a) = .ok a := nrfl rfl
@[simp] theorem of_none : Res.of (none : Option α) = .bad := nrfl rfl
theorem post_bind {r : Res α} {f : α → Res β} {p : β → Prop} {e : Nat → Prop} : (r.bind f).post p e ↔ r.post (fun a => (f a).post p e) e := by cases r <;> exact Iff.rfl
theorem post.mono {r : Res α} {p q : α → Prop} {e g : Nat → Prop} (h : r.post p e) (h1 : ∀ a, p a → q a) (h2 : ∀ n, e n → g n) : r.post q g := by
  cases r with
  | ok a => exact h1 a h
  | ex n => exact h2 n h
  | bad => exact h.elim
theorem post_of {o : Option α} {p : α → Prop} {e : Nat → Prop} (h : (Res.of o).post p e) : ∃ a, o = some a ∧ p a := by
  cases o with
  | none => exact h.elim
  | some a => exact ⟨a, rfl, h⟩
end Res

abbrev PEnv := List (Option PyData)
abbrev SE := PEnv → Res PyData
abbrev SA := PEnv → Res (List PyData)
abbrev ST := PEnv → Res Bool
inductive Out where
  | nx (ρ : PEnv) | rt (d : PyData) | bk (ρ : PEnv) | ct (ρ : PEnv)
abbrev SS := PEnv → Res Out
abbrev Wis := Nat → Hp → Prop

/-! ### data over a heap -/
/-- a key, a scalar, as data -/
def keyD : Key → PyData
  | .inl i => .int i
  | .inr x => .str x
def scaD : V → Option PyData
  | .non => some .none
  | .bl b => some (.bool b)
  | .int i => some (.int i)
  | .str x => some (.str x)
  | _ => none
def kvD (kvs : List (Key × V)) : List (PyData × PyData) := kvs.map fun p => (keyD p.1, (scaD p.2).getD .none)
mutual
inductive Dp (K : PySem.W.Frag) (H : Hp) : V → PyData → Prop
  | non : Dp K H .non .none
  | bl (b : Bool) : Dp K H (.bl b) (.bool b)
  | int (i : Int) : Dp K H (.int i) (.int i)
  | str (x : Str) : Dp K H (.str x) (.str x)
  | lst {a : Addr} {xs : List V} {ds : List PyData} : SqL K H a xs → DpAll K H xs ds → Dp K H (.ref a) (.list ds)
  | tup {a : Addr} {xs : List V} {ds : List PyData} : SqT K H a xs → DpAll K H xs ds → Dp K H (.ref a) (.tuple ds)
  | dct {a : Addr} {kvs : List (Key × V)} : H a = some (.dK kvs) → (∀ p ∈ kvs, (scaD p.2).isSome = true) → Dp K H (.ref a) (.dict (kvD kvs))
inductive DpAll (K : PySem.W.Frag) (H : Hp) : List V → List PyData → Prop
  | nil : DpAll K H [] []
  | cons {v : V} {vs : List V} {d : PyData} {ds : List PyData} : Dp K H v d → DpAll K H vs ds → DpAll K H (v :: vs) (d :: ds)
end
theorem dp_sca {K : PySem.W.Frag} {H : Hp} {v : V} {d : PyData} (h : scaD v = some d) : Dp K H v d := by
  cases v <;> simp only [scaD, reduceCtorEq, Option.some.injEq] at h <;> subst h
  · exact .non
  · exact .bl _
  · exact .int _
  · exact .str _
section
variable {K : PySem.W.Frag} {H H' : Hp}
theorem sqT_same {a : Addr} {xs : List V} (e : Same H H') (h : SqT K H a xs) : SqT K H' a xs := by
  rcases h with (h | ⟨o, h⟩) | h
  · exact .inl (.inl (e _ _ h))
  · exact .inl (.inr ⟨o, e _ _ h⟩)
  · exact .inr h
mutual
theorem dp_mono (e : Same H H') : ∀ (d : PyData) (v : V), Dp K H v d → Dp K H' v d
  | .none, _, h => by cases h; exact .non
  | .bool b, _, h => by cases h; exact .bl b
  | .int i, _, h => by cases h; exact .int i
  | .str x, _, h => by cases h; exact .str x
  | .list ds, _, h => by
    cases h with
    | lst h1 h2 => exact .lst (e.seq h1) (dps_mono e ds _ h2)
  | .tuple ds, _, h => by
    cases h with
    | tup h1 h2 => exact .tup (sqT_same e h1) (dps_mono e ds _ h2)
  | .dict kvs, _, h => by
    cases h with
    | dct h1 h2 => exact .dct (e _ _ h1) h2
theorem dps_mono (e : Same H H') : ∀ (ds : List PyData) (vs : List V), DpAll K H vs ds → DpAll K H' vs ds
  | [], _, h => by cases h; exact .nil
  | d :: ds, _, h => by
    cases h with
    | cons h1 h2 => exact .cons (dp_mono e d _ h1) (dps_mono e ds _ h2)
end
/-! data without a list -/
mutual
def frz : PyData → Bool
  | .none => true
  | .bool _ => true
  | .int _ => true
  | .str _ => true
  | .list _ => false
  | .tuple ds => frzs ds
  | .dict _ => false
def frzs : List PyData → Bool
  | [] => true
  | d :: ds => frz d && frzs ds
end
mutual
theorem frz_mono (e : ∀ a xs, SqT K H a xs → SqT K H' a xs) : ∀ (d : PyData) (v : V), frz d = true → Dp K H v d → Dp K H' v d
  | .none, _, _, h => by cases h; exact .non
  | .bool b, _, _, h => by cases h; exact .bl b
  | .int i, _, _, h => by cases h; exact .int i
  | .str x, _, _, h => by cases h; exact .str x
  | .list ds, _, z, h => by simp [frz] at z
  | .tuple ds, _, z, h => by
    cases h with
    | tup h1 h2 => exact .tup (e _ _ h1) (frzs_mono e ds _ (by simpa [frz] using z) h2)
  | .dict kvs, _, z, h => by simp [frz] at z
theorem frzs_mono (e : ∀ a xs, SqT K H a xs → SqT K H' a xs) : ∀ (ds : List PyData) (vs : List V), frzs ds = true → DpAll K H vs ds → DpAll K H' vs ds
  | [], _, _, h => by cases h; exact .nil
  | d :: ds, _, z, h => by
    simp only [frzs, Bool.and_eq_true] at z
    cases h with
    | cons h1 h2 => exact .cons (frz_mono e d _ z.1 h1) (frzs_mono e ds _ z.2 h2)
end
mutual
theorem dp_l2 : ∀ (d : PyData) (v : V), d.canLay0 = true → Dp K H v d → L2.Dp K H v d
  | .none, _, _, h => by cases h; exact .non
  | .bool b, _, _, h => by cases h; exact .bl b
  | .int i, _, _, h => by cases h; exact .int i
  | .str x, _, _, h => by cases h; exact .str x
  | .list ds, _, z, h => by
    cases h with
    | lst h1 h2 => exact .lst h1 (dps_l2 ds _ (by simpa [PyData.canLay0] using z) h2)
  | .tuple ds, _, z, h => by
    cases h with
    | tup h1 h2 => exact .tup h1 (dps_l2 ds _ (by simpa [PyData.canLay0] using z) h2)
  | .dict kvs, _, z, h => by simp [PyData.canLay0] at z
theorem dps_l2 : ∀ (ds : List PyData) (vs : List V), PyData.canLayAll0 ds = true → DpAll K H vs ds → L2.DpAll K H vs ds
  | [], _, _, h => by cases h; exact .nil
  | d :: ds, _, z, h => by
    simp only [PyData.canLayAll0, Bool.and_eq_true] at z
    cases h with
    | cons h1 h2 => exact .cons (dp_l2 d _ z.1 h1) (dps_l2 ds _ z.2 h2)
end
theorem dp_sh {d : PyData} {v : V} (z : SeqAt.shaped d = true) (h : Dp K H v d) : L2.Dp K H v d := dp_l2 d v (SeqAt.canLay_of_shaped z) h
/-- a list that H tracks is changed: the tuples stand -/
theorem sqT_lst {l : Addr} {ys zs : List V} (h : H l = some (.lst ys)) : ∀ a xs, SqT K H a xs → SqT K (upd H l (.lst zs)) a xs := fun a xs q => by
  rcases q with (q | ⟨o, q⟩) | q
  · exact .inl (.inl (by rw [upd_ne (ne_of q h (by intro z; cases z))]; exact q))
  · exact .inl (.inr ⟨o, by rw [upd_ne (ne_of q h (by intro z; cases z))]; exact q⟩)
  · exact .inr q
theorem dps_len : ∀ {vs : List V} {ds : List PyData}, DpAll K H vs ds → vs.length = ds.length
  | _, _, .nil => rfl
  | _, _, .cons _ h => congrArg (· + 1) (dps_len h)
theorem dps_get : ∀ {vs : List V} {ds : List PyData} {i : Nat} {d : PyData}, DpAll K H vs ds → ds[i]? = some d → ∃ v, vs[i]? = some v ∧ Dp K H v d
  | _, _, _, _, .nil, e => by simp at e
  | _, _, 0, _, .cons h _, e => by simp at e; subst e; exact ⟨_, rfl, h⟩
  | _, _, i + 1, d, .cons _ h, e => by
    obtain ⟨v, h1, h2⟩ := dps_get (i := i) (d := d) h (by simpa using e)
    exact ⟨v, by simpa using h1, h2⟩
theorem dps_getv : ∀ {vs : List V} {ds : List PyData} {i : Nat} {v : V}, DpAll K H vs ds → vs[i]? = some v → ∃ d, ds[i]? = some d ∧ Dp K H v d
  | _, _, _, _, .nil, e => by simp at e
  | _, _, 0, _, .cons h _, e => by simp at e; subst e; exact ⟨_, rfl, h⟩
  | _, _, i + 1, d, .cons _ h, e => by
    obtain ⟨v, h1, h2⟩ := dps_getv (i := i) (v := d) h (by simpa using e)
    exact ⟨v, by simpa using h1, h2⟩
theorem dps_append : ∀ {vs us : List V} {ds es : List PyData}, DpAll K H vs ds → DpAll K H us es → DpAll K H (vs ++ us) (ds ++ es)
  | _, _, _, _, .nil, h => h
  | _, _, _, _, .cons h t, s => .cons h (dps_append t s)
theorem dps_take : ∀ {vs : List V} {ds : List PyData} (n : Nat), DpAll K H vs ds → DpAll K H (vs.take n) (ds.take n)
  | _, _, 0, _ => .nil
  | _, _, _ + 1, .nil => .nil
  | _, _, n + 1, .cons h t => .cons h (dps_take n t)
theorem dps_drop : ∀ {vs : List V} {ds : List PyData} (n : Nat), DpAll K H vs ds → DpAll K H (vs.drop n) (ds.drop n)
  | _, _, 0, h => h
  | _, _, _ + 1, .nil => .nil
  | _, _, n + 1, .cons _ t => dps_drop n t
theorem dps_set : ∀ {vs : List V} {ds : List PyData} {v : V} {d : PyData} (i : Nat), Dp K H v d → DpAll K H vs ds → DpAll K H (vs.set i v) (ds.set i d)
  | _, _, _, _, _, _, .nil => .nil
  | _, _, _, _, 0, h, .cons _ t => .cons h t
  | _, _, _, _, i + 1, h, .cons q t => .cons q (dps_set i h t)
theorem dps_ints : ∀ (ns : List Int), DpAll K H (ns.map V.int) (ns.map PyData.int)
  | [] => .nil
  | n :: ns => .cons (.int n) (dps_ints ns)
theorem dps_strs_of : ∀ {vs : List V} {xs : List Str}, DpAll K H vs (xs.map PyData.str) → vs = xs.map V.str
  | [], [], _ => rfl
  | _ :: _, [], h => by cases h
  | [], _ :: _, h => by cases h
  | v :: vs, x :: xs, h => by
    cases h with
    | cons h1 h2 =>
      cases h1
      rw [dps_strs_of h2]
      rfl
theorem dps_strs : ∀ (xs : List Str), DpAll K H (xs.map V.str) (xs.map PyData.str)
  | [] => .nil
  | n :: ns => .cons (.str n) (dps_strs ns)
theorem dps_bls_of : ∀ {vs : List V} {xs : List Bool}, DpAll K H vs (xs.map PyData.bool) → vs = xs.map V.bl
  | [], [], _ => rfl
  | _ :: _, [], h => by cases h
  | [], _ :: _, h => by cases h
  | v :: vs, x :: xs, h => by
    cases h with
    | cons h1 h2 =>
      cases h1
      rw [dps_bls_of h2]
      rfl
end
theorem same_new {H : Hp} {p : Addr} (h : H p = none) (o : HO) : Same H (upd H p o) := fun b u q => by rw [upd_ne (ne_of_none q h)]; exact q

/-! ### the values of the slots -/
def EnvR (K : PySem.W.Frag) (H : Hp) (σ : L2.St) (ρ : PEnv) : Prop := ρ.length = σ.length ∧ ∀ (i : Nat) (d : PyData), ρ[i]? = some (some d) → ∃ v, σ[i]? = some (some v) ∧ Dp K H v d
section
variable {K : PySem.W.Frag} {H H' : Hp} {σ : L2.St} {ρ : PEnv}
theorem EnvR.mono (e : Same H H') (h : EnvR K H σ ρ) : EnvR K H' σ ρ := ⟨h.1, fun i d q => by
  obtain ⟨v, a, b⟩ := h.2 i d q
  exact ⟨v, a, dp_mono e d v b⟩⟩
theorem EnvR.set {i : Nat} {v : V} {d : PyData} (h : EnvR K H σ ρ) (hv : Dp K H v d) : EnvR K H (σ.set i (some v)) (ρ.set i (some d)) := by
  refine ⟨by rw [List.length_set, List.length_set]; exact h.1, fun j e q => ?_⟩
  by_cases hj : i = j
  · subst hj
    have hl : i < ρ.length := by
      have z := (List.getElem?_eq_some_iff.mp q).1
      rw [List.length_set] at z
      exact z
    rw [List.getElem?_set_self hl] at q
    cases q
    exact ⟨v, List.getElem?_set_self (by rw [← h.1]; exact hl), hv⟩
  · rw [List.getElem?_set_ne hj] at q
    obtain ⟨u, a, b⟩ := h.2 j e q
    exact ⟨u, by rw [List.getElem?_set_ne hj]; exact a, b⟩
theorem EnvR.forget {i : Nat} (h : EnvR K H σ ρ) : EnvR K H (σ.set i none) (ρ.set i none) := by
  refine ⟨by rw [List.length_set, List.length_set]; exact h.1, fun j e q => ?_⟩
  by_cases hj : i = j
  · subst hj
    have hl : i < ρ.length := by
      have z := (List.getElem?_eq_some_iff.mp q).1
      rw [List.length_set] at z
      exact z
    rw [List.getElem?_set_self hl] at q
    cases q
  · rw [List.getElem?_set_ne hj] at q
    obtain ⟨u, a, b⟩ := h.2 j e q
    exact ⟨u, by rw [List.getElem?_set_ne hj]; exact a, b⟩
end
def startD (n : Nat) (ds : List PyData) : PEnv := ds.map some ++ List.replicate (n - ds.length) none
theorem envR_start {K : PySem.W.Frag} {H : Hp} {N : List Str} {vs : List V} {ds : List PyData} (h : DpAll K H vs ds) : EnvR K H (L2.start N vs) (startD N.length ds) := by
  have hl := dps_len h
  refine ⟨by simp [startD, L2.start, hl], fun i d q => ?_⟩
  unfold startD at q
  by_cases hi : i < ds.length
  · rw [List.getElem?_append_left (by simpa using hi), List.getElem?_map] at q
    cases e : ds[i]? with
    | none => rw [e] at q; cases q
    | some d' =>
      rw [e] at q
      cases q
      obtain ⟨v, a, b⟩ := dps_get h e
      refine ⟨v, ?_, b⟩
      unfold L2.start
      rw [List.getElem?_append_left (by simpa [hl] using hi), List.getElem?_map, a]
      rfl
  · rw [List.getElem?_append_right (by simpa using hi)] at q
    have z := List.mem_of_getElem? q
    have z2 := (List.mem_replicate.mp z).2
    cases z2

/-! ### readings -/
/-- at every later heap -/
abbrev fut (H : Hp) (p : Hp → Prop) : Prop := ∀ H', Same H H' → p H'
theorem fut.on {H H1 : Hp} {p : Hp → Prop} (h : fut H p) (s : Same H H1) : fut H1 p := fun H' s' => h H' (s.trans s')
def tD (K : PySem.W.Frag) (W : Wis) (f : SE) : TE := fun σ H Q => ∃ ρ, EnvR K H σ ρ ∧ (f ρ).post (fun d => fut H fun H' => ∀ v, Dp K H' v d → Q v H') fun n => fut H (W n)
def ttD (K : PySem.W.Frag) (W : Wis) (f : ST) : TT := fun σ H Q => ∃ ρ, EnvR K H σ ρ ∧ (f ρ).post (fun b => fut H fun H' => Q b H') fun n => fut H (W n)
def taD (K : PySem.W.Frag) (W : Wis) (f : SA) : TA := fun σ H Q => ∃ ρ, EnvR K H σ ρ ∧ (f ρ).post (fun ds => fut H fun H' => ∀ vs, DpAll K H' vs ds → Q vs H') fun n => fut H (W n)
def outP (K : PySem.W.Frag) (D : Ends) : Out → Hp → Prop
  | .nx ρ', H' => ∀ σ', EnvR K H' σ' ρ' → D.nx σ' H'
  | .rt d, H' => ∀ v, Dp K H' v d → D.rt v H'
  | .bk ρ', H' => ∀ σ', EnvR K H' σ' ρ' → D.bk σ' H'
  | .ct ρ', H' => ∀ σ', EnvR K H' σ' ρ' → D.ct σ' H'
def tsD (K : PySem.W.Frag) (W : Wis) (F : SS) : TS := fun D σ H => ∃ ρ, EnvR K H σ ρ ∧ (F ρ).post (fun o => fut H (outP K D o)) fun n => fut H (W n)

theorem pe_weak {X : Cx} {e : Expr} {t t' : TE} (h : PE X e t) (w : ∀ σ H Q, t' σ H Q → t σ H Q) : PE X e t' := ⟨fun pins s σ H Q I q => h.run pins s σ H Q I (w σ H Q q)⟩
theorem pt_weak {X : Cx} {e : Expr} {t t' : TT} (h : PT X e t) (w : ∀ σ H Q, t' σ H Q → t σ H Q) : PT X e t' := ⟨fun pins s σ H Q I q => h.run pins s σ H Q I (w σ H Q q)⟩
theorem pw_weak {X : Cx} {e : Expr} {t t' : TT} (h : PW X e t) (w : ∀ σ H Q, t' σ H Q → t σ H Q) : PW X e t' := ⟨fun wh pins s σ H Q I q => h.run wh pins s σ H Q I (w σ H Q q)⟩
theorem pa_weak {X : Cx} {es : List Expr} {t t' : TA} (h : PA X es t) (w : ∀ σ H Q, t' σ H Q → t σ H Q) : PA X es t' := ⟨fun pos pins s σ H Q I q => h.run pos pins s σ H Q I (w σ H Q q)⟩
theorem ps_weak {X : Cx} {st : Stmt} {t t' : TS} (h : PS X st t) (w : ∀ D σ H, t' D σ H → t D σ H) : PS X st t' := ⟨fun pins s σ H D I q => h.run pins s σ H D I (w D σ H q)⟩
theorem pss_weak {X : Cx} {st : List Stmt} {t t' : TS} (h : PSs X st t) (w : ∀ D σ H, t' D σ H → t D σ H) : PSs X st t' := ⟨fun pins s σ H D I q => h.run pins s σ H D I (w D σ H q)⟩

section
variable {K : PySem.W.Frag} {W : Wis} {σ : L2.St} {H : Hp} {ρ : PEnv} {β : Type} {p : β → Hp → Prop}
/-- what a part's reading asks, where more follows -/
theorem tD_then {f : SE} {g : PyData → Res β} (hE : EnvR K H σ ρ) (h : ((f ρ).bind g).post (fun b => fut H (p b)) fun n => fut H (W n)) :
    tD K W f σ H fun v H1 => ∃ d, Dp K H1 v d ∧ Same H H1 ∧ EnvR K H1 σ ρ ∧ (g d).post (fun b => fut H1 (p b)) fun n => fut H1 (W n) :=
  ⟨ρ, hE, (Res.post_bind.mp h).mono (fun d q H1 s v dv => ⟨d, dv, s, hE.mono s, q.mono (fun b r => r.on s) fun n r => r.on s⟩) fun n r => r⟩
theorem ttD_then {f : ST} {g : Bool → Res β} (hE : EnvR K H σ ρ) (h : ((f ρ).bind g).post (fun b => fut H (p b)) fun n => fut H (W n)) :
    ttD K W f σ H fun c H1 => Same H H1 ∧ EnvR K H1 σ ρ ∧ (g c).post (fun b => fut H1 (p b)) fun n => fut H1 (W n) :=
  ⟨ρ, hE, (Res.post_bind.mp h).mono (fun d q H1 s => ⟨s, hE.mono s, q.mono (fun b r => r.on s) fun n r => r.on s⟩) fun n r => r⟩
theorem taD_then {f : SA} {g : List PyData → Res β} (hE : EnvR K H σ ρ) (h : ((f ρ).bind g).post (fun b => fut H (p b)) fun n => fut H (W n)) :
    taD K W f σ H fun vs H1 => ∃ ds, DpAll K H1 vs ds ∧ Same H H1 ∧ EnvR K H1 σ ρ ∧ (g ds).post (fun b => fut H1 (p b)) fun n => fut H1 (W n) :=
  ⟨ρ, hE, (Res.post_bind.mp h).mono (fun d q H1 s v dv => ⟨d, dv, s, hE.mono s, q.mono (fun b r => r.on s) fun n r => r.on s⟩) fun n r => r⟩
theorem ttD_mono {f : ST} {Q Q' : Bool → Hp → Prop} (h : ttD K W f σ H Q) (w : ∀ v H', Q v H' → Q' v H') : ttD K W f σ H Q' := by
  obtain ⟨ρ, hE, q⟩ := h
  exact ⟨ρ, hE, q.mono (fun d r H' s => w _ _ (r H' s)) fun n r => r⟩
theorem taD_mono {f : SA} {Q Q' : List V → Hp → Prop} (h : taD K W f σ H Q) (w : ∀ v H', Q v H' → Q' v H') : taD K W f σ H Q' := by
  obtain ⟨ρ, hE, q⟩ := h
  exact ⟨ρ, hE, q.mono (fun d r H' s v dv => w _ _ (r H' s v dv)) fun n r => r⟩
/-- a reading's wish may be weakened -/
theorem tD_mono {f : SE} {Q Q' : VK} (h : tD K W f σ H Q) (w : ∀ v H', Q v H' → Q' v H') : tD K W f σ H Q' := by
  obtain ⟨ρ, hE, q⟩ := h
  exact ⟨ρ, hE, q.mono (fun d r H' s v dv => w _ _ (r H' s v dv)) fun n r => r⟩
end
end DL

set_option Elab.async false
set_option linter.all false
set_option maxRecDepth 100000
set_option maxHeartbeats 2000000
namespace DL
open PySem L2 PyProof.Rows

/-! ### operations on data -/
/-- the greatest length that is asked anywhere -/
def big : Nat := 1000000
theorem big_line : big ≤ sizeLine := by rw [sizeLine_eq]; decide
def addD : PyData → PyData → Option PyData
  | .int i, .int j => some (.int (i + j))
  | .str a, .str b => if a.length + b.length ≤ big then some (.str (a ++ b)) else none
  | .list a, .list b => if a.length + b.length ≤ big then some (.list (a ++ b)) else none
  | .tuple a, .tuple b => if a.length + b.length ≤ big then some (.tuple (a ++ b)) else none
  | _, _ => none
def subD : PyData → PyData → Option PyData
  | .int i, .int j => some (.int (i - j))
  | _, _ => none
def small64 (i : Int) : Bool := decide (i.natAbs < 18446744073709551616)
def mulD : PyData → PyData → Option PyData
  | .int i, .int j => if small64 i || small64 j then some (.int (i * j)) else none
  | _, _ => none
def divD : PyData → PyData → Option PyData
  | .int i, .int j => if 0 < j ∧ j < 1073741824 then some (.int (i / j)) else none
  | _, _ => none
def modD : PyData → PyData → Option PyData
  | .int i, .int j => if 0 < j then some (.int (i % j)) else none
  | _, _ => none
def powD : PyData → PyData → Option PyData
  | .int i, .int j => if 0 ≤ j ∧ j ≤ 1000000 ∧ i.natAbs < 2 ^ 64 then some (.int (i ^ j.toNat)) else none
  | _, _ => none
def eqD : PyData → PyData → Option PyData
  | .int i, .int j => some (.bool (i == j))
  | .str i, .str j => some (.bool (i == j))
  | d, e => if SeqAt.shaped d && SeqAt.shaped e then some (.bool (PyData.eqv d e)) else none
def neD (d e : PyData) : Option PyData := match eqD d e with
  | some (.bool b) => some (.bool (!b))
  | _ => none
def ltD : PyData → PyData → Option PyData
  | .int i, .int j => some (.bool (decide (i < j)))
  | .str i, .str j => some (.bool (decide (i.cps.toList < j.cps.toList)))
  | _, _ => none
def leD : PyData → PyData → Option PyData
  | .int i, .int j => some (.bool (decide (i ≤ j)))
  | _, _ => none
def gtD : PyData → PyData → Option PyData
  | .int i, .int j => some (.bool (decide (j < i)))
  | _, _ => none
def geD : PyData → PyData → Option PyData
  | .int i, .int j => some (.bool (decide (j ≤ i)))
  | _, _ => none
def inD : PyData → PyData → Option PyData
  | d, .list ds => if SeqAt.shaped d && SeqAt.shaped (.list ds) then some (.bool (ds.any fun z => PyData.eqv z d)) else none
  | d, .tuple ds => if SeqAt.shaped d && SeqAt.shaped (.tuple ds) then some (.bool (ds.any fun z => PyData.eqv z d)) else none
  | .str c, .str z => if c.length = 1 then some (.bool (decide (c.cps.toList.headD 0 ∈ z.cps.toList))) else none
  | _, _ => none
def notInD (d e : PyData) : Option PyData := match inD d e with
  | some (.bool b) => some (.bool (!b))
  | _ => none
def isNon : PyData → Bool
  | .none => true
  | _ => false
/-- is None, is True, is False -/
def isD : PyData → PyData → Option PyData
  | d, .none => some (.bool (isNon d))
  | .bool a, .bool b => some (.bool (a == b))
  | _, _ => none
def isNotD (d e : PyData) : Option PyData := match isD d e with
  | some (.bool b) => some (.bool (!b))
  | _ => none

/-- a two-place operation, by data -/
def rD (K : PySem.W.Frag) (g : PyData → PyData → Option PyData) : R2 := fun x y H Q => ∃ d e r, Dp K H x d ∧ Dp K H y e ∧ g d e = some r ∧ fut H fun H' => ∀ v, Dp K H' v r → Q v H'
section
variable {X : Cx}
theorem opR_flat {f : Value → Value → Sem Value} {g : PyData → PyData → Option PyData} (h : ∀ (pins : List (Addr × Obj)) (s : Shared) (σ : L2.St) (H : Hp) (x y : V) (v u : Value) (Q : VK) (d e r : PyData), Inv X pins σ H s → RelV x v → RelV y u →
    Dp X.K H x d → Dp X.K H y e → g d e = some r → (fut H fun H' => ∀ v, Dp X.K H' v r → Q v H') → wpAny (model X.prog X.w) X.A (f v u) (EP X pins σ Q) X.xe s) : OpR X f (rD X.K g) := by
  intro pins s σ H x y v u Q I rx ry ⟨d, e, r, hd, he, hg, q⟩
  exact h pins s σ H x y v u Q d e r I rx ry hd he hg q
theorem fut.now {H : Hp} {p : Hp → Prop} (h : fut H p) : p H := h H (Same.refl H)

theorem od_add : OpR X (binaryOp .Add) (rD X.K addD) := opR_flat fun pins s σ H x y v u Q d e r I rx ry hd he hg q => by
  cases d <;> cases e <;> simp only [addD, reduceCtorEq] at hg
  case int.int i j =>
    cases hg; cases hd; cases he
    exact op_add pins s σ H _ _ v u Q I rx ry ⟨i, j, rfl, rfl, q.now _ (.int _)⟩
  case str.str a b =>
    split at hg <;> cases hg
    cases hd; cases he
    exact op_add_str pins s σ H _ _ v u Q I rx ry ⟨a, b, rfl, rfl, Nat.le_trans (by assumption) big_line, q.now _ (.str _)⟩
  case tuple.tuple a b =>
    split at hg <;> cases hg
    rename_i hz
    cases hd with
    | tup h1 h2 =>
      cases he with
      | tup h3 h4 =>
        refine op_catA pins s σ H _ _ v u Q I rx ry ⟨_, _, _, _, rfl, rfl, h1, h3, by rw [dps_len h2, dps_len h4]; exact Nat.le_trans hz big_line, fun e => ?_, fun _ e => ?_, fun _ _ p hp => ?_⟩
        · subst e
          cases h2
          exact q.now _ (.tup h3 h4)
        · subst e
          cases h4
          rw [List.append_nil] at q
          exact q.now _ (.tup h1 h2)
        · exact q _ (same_new hp _) _ (.tup (SqT.of upd_same) (dps_mono (same_new hp _) _ _ (dps_append h2 h4)))
  case list.list a b =>
    split at hg <;> cases hg
    rename_i hz
    cases hd with
    | lst h1 h2 =>
      cases he with
      | lst h3 h4 =>
        cases rx
        cases ry
        obtain ⟨its, r1, ⟨⟨cls, dd, data, sl⟩, n, e1, hc, hdn, hdt⟩, z1⟩ := I.list h1
        obtain ⟨its2, r2, ⟨⟨cls2, dd2, data2, sl2⟩, n2, e2, hc2, hdn2, hdt2⟩, z2⟩ := I.list h3
        simp only at hc hdt hc2 hdt2 hdn hdn2
        subst hc hdt hc2 hdt2 hdn hdn2
        have hl1 := r1.length
        have hl2 := r2.length
        have hb := big_line
        have hd1 := dps_len h2
        have hd2 := dps_len h4
        have ea : its.toArray ++ its2.toArray = (its ++ its2).toArray := by simp
        refine concat_meets ⟨_, e1, rfl⟩ ⟨_, e2, rfl⟩ noFill_list_add seq_list_add PySem.F.slot_list_add PySem.F.entry_list_add (PySem.F.args_list_add_2 _ _)
          (list_addW _ _ its.toArray its2.toArray n n2 none none sl sl2 (by rw [List.size_toArray, List.size_toArray]; omega)) ⟨e1, e2, ?_⟩
        rw [ea]
        refine ⟨.ref _, _, I.lnew (t' := s.toks) (r1.append r2) (by rw [List.length_append]; omega), rfl, ?_⟩
        exact q _ (same_new I.fresh _) _ (.lst (SqL.of upd_same) (dps_mono (same_new I.fresh _) _ _ (dps_append h2 h4)))
theorem od_sub : OpR X (binaryOp .Sub) (rD X.K subD) := opR_flat fun pins s σ H x y v u Q d e r I rx ry hd he hg q => by
  cases d <;> cases e <;> simp only [subD, reduceCtorEq] at hg
  case int.int i j =>
    cases hg; cases hd; cases he
    exact op_sub pins s σ H _ _ v u Q I rx ry ⟨i, j, rfl, rfl, q.now _ (.int _)⟩
theorem od_mul : OpR X (binaryOp .Mult) (rD X.K mulD) := opR_flat fun pins s σ H x y v u Q d e r I rx ry hd he hg q => by
  cases d <;> cases e <;> simp only [mulD, reduceCtorEq] at hg
  case int.int i j =>
    split at hg <;> cases hg
    rename_i hz
    cases hd; cases he
    refine op_mul pins s σ H _ _ v u Q I rx ry ⟨i, j, rfl, rfl, ?_, q.now _ (.int _)⟩
    simp only [small64, Bool.or_eq_true, decide_eq_true_eq] at hz
    rcases hz with hz | hz
    · exact .inl (by omega)
    · exact .inr (by omega)
theorem od_div : OpR X (binaryOp .FloorDiv) (rD X.K divD) := opR_flat fun pins s σ H x y v u Q d e r I rx ry hd he hg q => by
  cases d <;> cases e <;> simp only [divD, reduceCtorEq] at hg
  case int.int i j =>
    split at hg <;> cases hg
    rename_i hz
    cases hd; cases he
    exact op_fdiv pins s σ H _ _ v u Q I rx ry ⟨i, j, rfl, rfl, hz, q.now _ (.int _)⟩
theorem od_mod : OpR X (binaryOp .Mod) (rD X.K modD) := opR_flat fun pins s σ H x y v u Q d e r I rx ry hd he hg q => by
  cases d <;> cases e <;> simp only [modD, reduceCtorEq] at hg
  case int.int i j =>
    split at hg <;> cases hg
    rename_i hz
    cases hd; cases he
    exact op_mod pins s σ H _ _ v u Q I rx ry ⟨i, j, rfl, rfl, hz, q.now _ (.int _)⟩
theorem od_pow : OpR X (binaryOp .Pow) (rD X.K powD) := opR_flat fun pins s σ H x y v u Q d e r I rx ry hd he hg q => by
  cases d <;> cases e <;> simp only [powD, reduceCtorEq] at hg
  case int.int i j =>
    split at hg <;> cases hg
    rename_i hz
    cases hd; cases he
    exact op_pow pins s σ H _ _ v u Q I rx ry ⟨i, j, rfl, rfl, hz, q.now _ (.int _)⟩
theorem od_eq (hu : X.A.units + 64 < cLine) : OpR X (compareOp .Eq) (rD X.K eqD) := opR_flat fun pins s σ H x y v u Q d e r I rx ry hd he hg q => by
  have gen : (if SeqAt.shaped d && SeqAt.shaped e then some (PyData.bool (PyData.eqv d e)) else none) = some r → wpAny (model X.prog X.w) X.A (compareOp .Eq v u) (EP X pins σ Q) X.xe s := fun hg => by
    split at hg <;> cases hg
    rename_i hz
    rw [Bool.and_eq_true] at hz
    exact op_eqD hu pins s σ H _ _ v u Q I rx ry ⟨d, e, dp_sh hz.1 hd, dp_sh hz.2 he, hz.1, hz.2, q.now _ (.bl _)⟩
  cases d <;> cases e <;> first | exact gen hg | skip
  case str.str i j =>
    simp only [eqD] at hg
    cases hg; cases hd; cases he
    exact op_eq pins s σ H _ _ v u Q I rx ry ⟨rfl, by rw [dec_str]; exact q.now _ (.bl _)⟩
theorem od_ne (hu : X.A.units + 64 < cLine) : OpR X (compareOp .NotEq) (rD X.K neD) := opR_flat fun pins s σ H x y v u Q d e r I rx ry hd he hg q => by
  have gen : neD d e = (match (if SeqAt.shaped d && SeqAt.shaped e then some (PyData.bool (PyData.eqv d e)) else none) with | some (.bool b) => some (.bool (!b)) | _ => none) → wpAny (model X.prog X.w) X.A (compareOp .NotEq v u) (EP X pins σ Q) X.xe s := fun hh => by
    rw [hh] at hg
    split at hg
    · rename_i b hb
      cases hg
      split at hb <;> cases hb
      rename_i hz
      rw [Bool.and_eq_true] at hz
      exact op_neD hu pins s σ H _ _ v u Q I rx ry ⟨d, e, dp_sh hz.1 hd, dp_sh hz.2 he, hz.1, hz.2, q.now _ (.bl _)⟩
    · cases hg
  cases d <;> cases e <;> first | exact gen rfl | skip
  case str.str i j =>
    simp only [neD, eqD] at hg
    cases hg; cases hd; cases he
    exact op_ne pins s σ H _ _ v u Q I rx ry ⟨rfl, by rw [dec_str]; exact q.now _ (.bl _)⟩
theorem od_lt : OpR X (compareOp .Lt) (rD X.K ltD) := opR_flat fun pins s σ H x y v u Q d e r I rx ry hd he hg q => by
  cases d <;> cases e <;> simp only [ltD, reduceCtorEq] at hg
  case int.int i j =>
    cases hg; cases hd; cases he
    exact op_lt pins s σ H _ _ v u Q I rx ry ⟨i, j, rfl, rfl, q.now _ (.bl _)⟩
  case str.str i j =>
    cases hg; cases hd; cases he
    exact op_lt_str pins s σ H _ _ v u Q I rx ry ⟨i, j, rfl, rfl, q.now _ (.bl _)⟩
theorem od_le : OpR X (compareOp .LtE) (rD X.K leD) := opR_flat fun pins s σ H x y v u Q d e r I rx ry hd he hg q => by
  cases d <;> cases e <;> simp only [leD, reduceCtorEq] at hg
  case int.int i j =>
    cases hg; cases hd; cases he
    exact op_le pins s σ H _ _ v u Q I rx ry ⟨i, j, rfl, rfl, q.now _ (.bl _)⟩
theorem od_gt : OpR X (compareOp .Gt) (rD X.K gtD) := opR_flat fun pins s σ H x y v u Q d e r I rx ry hd he hg q => by
  cases d <;> cases e <;> simp only [gtD, reduceCtorEq] at hg
  case int.int i j =>
    cases hg; cases hd; cases he
    exact op_gt pins s σ H _ _ v u Q I rx ry ⟨i, j, rfl, rfl, q.now _ (.bl _)⟩
theorem od_ge : OpR X (compareOp .GtE) (rD X.K geD) := opR_flat fun pins s σ H x y v u Q d e r I rx ry hd he hg q => by
  cases d <;> cases e <;> simp only [geD, reduceCtorEq] at hg
  case int.int i j =>
    cases hg; cases hd; cases he
    exact op_ge pins s σ H _ _ v u Q I rx ry ⟨i, j, rfl, rfl, q.now _ (.bl _)⟩
theorem in_core (hu : X.A.units + 65 < cLine) (neg : Bool) {pins : List (Addr × Obj)} {s : Shared} {σ : L2.St} {H : Hp} {x y : V} {v u : Value} {Q : VK} {d e : PyData} {b : Bool} (I : Inv X pins σ H s) (rx : RelV x v) (ry : RelV y u)
    (hd : Dp X.K H x d) (he : Dp X.K H y e) (hg : inD d e = some (.bool b)) (q : Q (.bl (if neg then !b else b)) H) : wpAny (model X.prog X.w) X.A (compareOp (if neg then .NotIn else .In) v u) (EP X pins σ Q) X.xe s := by
  unfold inD at hg
  split at hg
  · split at hg <;> cases hg
    rename_i hz
    rw [Bool.and_eq_true] at hz
    cases neg
    · exact op_inD hu pins s σ H _ _ v u Q I rx ry ⟨_, _, dp_sh hz.1 hd, dp_sh hz.2 he, hz.1, hz.2, q⟩
    · exact op_notInD hu pins s σ H _ _ v u Q I rx ry ⟨_, _, dp_sh hz.1 hd, dp_sh hz.2 he, hz.1, hz.2, q⟩
  · split at hg <;> cases hg
    rename_i hz
    rw [Bool.and_eq_true] at hz
    obtain ⟨as, r1⟩ := L2.Dp.reads I _ x v (dp_sh hz.1 hd) rx
    obtain ⟨bs, r2⟩ := L2.Dp.reads I _ y u (dp_sh hz.2 he) ry
    cases neg
    · exact SeqAt.in_tuple_reads r2 r1 (SeqAt.canLay_of_shaped hz.2) (SeqAt.canLay_of_shaped hz.1) (room_in_shaped hz.1 hu) ⟨.bl _, H, I, rfl, q⟩
    · exact SeqAt.notIn_tuple_reads r2 r1 (SeqAt.canLay_of_shaped hz.2) (SeqAt.canLay_of_shaped hz.1) (room_in_shaped hz.1 hu) ⟨.bl _, H, I, rfl, q⟩
  · split at hg <;> cases hg
    rename_i c z hz
    cases hd; cases he
    obtain ⟨⟨l⟩⟩ := c
    match l, hz with
    | [k], _ =>
      cases neg
      · exact op_in_sign pins s σ H _ _ v u Q I rx ry ⟨k, z, rfl, rfl, q⟩
      · exact op_notIn_sign pins s σ H _ _ v u Q I rx ry ⟨k, z, rfl, rfl, q⟩
  · cases hg
theorem inD_bool {d e r : PyData} (h : inD d e = some r) : ∃ b, r = .bool b := by
  unfold inD at h
  split at h
  · split at h <;> cases h; exact ⟨_, rfl⟩
  · split at h <;> cases h; exact ⟨_, rfl⟩
  · split at h <;> cases h; exact ⟨_, rfl⟩
  · cases h
theorem od_in (hu : X.A.units + 65 < cLine) : OpR X (compareOp .In) (rD X.K inD) := opR_flat fun pins s σ H x y v u Q d e r I rx ry hd he hg q => by
  obtain ⟨b, rfl⟩ := inD_bool hg
  exact in_core hu false I rx ry hd he hg (q.now _ (.bl _))
theorem od_notIn (hu : X.A.units + 65 < cLine) : OpR X (compareOp .NotIn) (rD X.K notInD) := opR_flat fun pins s σ H x y v u Q d e r I rx ry hd he hg q => by
  unfold notInD at hg
  split at hg
  · rename_i b hb
    cases hg
    exact in_core hu true I rx ry hd he hb (q.now _ (.bl _))
  · cases hg
theorem dp_non_iff {K : PySem.W.Frag} {H : Hp} {v : V} {d : PyData} (h : Dp K H v d) : decide (v = .non) = isNon d := by
  cases h <;> rfl
theorem od_is : OpR X (compareOp .Is) (rD X.K isD) := opR_flat fun pins s σ H x y v u Q d e r I rx ry hd he hg q => by
  unfold isD at hg
  split at hg
  · cases hg; cases he
    exact op_isN pins s σ H _ _ v u Q I rx ry ⟨rfl, by rw [dp_non_iff hd]; exact q.now _ (.bl _)⟩
  · cases hg; cases hd; cases he
    exact op_is_bl pins s σ H _ _ v u Q I rx ry ⟨_, _, rfl, rfl, by rw [← Bool.beq_eq_decide_eq]; exact q.now _ (.bl _)⟩
  · cases hg
theorem od_isNot : OpR X (compareOp .IsNot) (rD X.K isNotD) := opR_flat fun pins s σ H x y v u Q d e r I rx ry hd he hg q => by
  unfold isNotD isD at hg
  split at hg
  · rename_i b hb
    cases hg
    split at hb
    · cases hb; cases he
      exact op_notN pins s σ H _ _ v u Q I rx ry ⟨rfl, by rw [dp_non_iff hd]; exact q.now _ (.bl _)⟩
    · cases hb; cases hd; cases he
      exact op_isnot_bl pins s σ H _ _ v u Q I rx ry ⟨_, _, rfl, rfl, by rw [← Bool.beq_eq_decide_eq]; exact q.now _ (.bl _)⟩
    · cases hb
  · cases hg
end
end DL

set_option Elab.async false
set_option linter.all false
set_option maxRecDepth 100000
set_option maxHeartbeats 2000000
namespace DL
open PySem L2 PyProof.Rows

/-! ### the functions that expressions are read as -/
def eVar (i : Nat) : SE := fun ρ => match ρ[i]? with
  | some (some d) => .ok d
  | _ => .bad
def eC (d : PyData) : SE := fun _ => .ok d
def eOp (g : PyData → PyData → Option PyData) (f h : SE) : SE := fun ρ => (f ρ).bind fun x => (h ρ).bind fun y => Res.of (g x y)
/-- of one value -/
def eUn (g : PyData → Option PyData) (f : SE) : SE := fun ρ => (f ρ).bind fun x => Res.of (g x)
/-- of an argument list -/
def eArgs (g : List PyData → Option PyData) (f : SA) : SE := fun ρ => (f ρ).bind fun xs => Res.of (g xs)
def eCall (g : List PyData → Res PyData) (f : SA) : SE := fun ρ => (f ρ).bind g
def truth : PyData → Option Bool
  | .bool b => some b
  | _ => none
def asT (f : SE) : ST := fun ρ => (f ρ).bind fun x => Res.of (truth x)
/-- the truth of any value -/
def truthy : PyData → Option Bool
  | .none => some false
  | .bool b => some b
  | .int i => some (i != 0)
  | .str s => if s.length ≤ big then some ((s.length : Int) != 0) else none
  | .list xs => some (!xs.isEmpty)
  | .tuple xs => some (!xs.isEmpty)
  | .dict _ => none
def asTru (f : SE) : ST := fun ρ => (f ρ).bind fun x => Res.of (truthy x)
def tAnd (t u : ST) : ST := fun ρ => (t ρ).bind fun b => if b then u ρ else .ok false
def tOr (t u : ST) : ST := fun ρ => (t ρ).bind fun b => if b then .ok true else u ρ
def tNot (t : ST) : ST := fun ρ => (t ρ).bind fun b => .ok (!b)
def eAnd (f g : SE) : SE := fun ρ => (f ρ).bind fun x => (Res.of (truth x)).bind fun b => if b then g ρ else .ok (.bool false)
def eOr (f g : SE) : SE := fun ρ => (f ρ).bind fun x => (Res.of (truth x)).bind fun b => if b then .ok (.bool true) else g ρ
def eNot (f : SE) : SE := fun ρ => (f ρ).bind fun x => (Res.of (truth x)).bind fun b => .ok (.bool (!b))
def eChain (g h : PyData → PyData → Option PyData) (a b c : SE) : SE := fun ρ => (a ρ).bind fun x => (b ρ).bind fun y => (Res.of (g x y)).bind fun z => (Res.of (truth z)).bind fun k =>
  if k then (c ρ).bind fun w => Res.of (h y w) else .ok (.bool false)
def aNil : SA := fun _ => .ok []
def aCons (f : SE) (g : SA) : SA := fun ρ => (f ρ).bind fun x => (g ρ).bind fun xs => .ok (x :: xs)
def eTup (f : SA) : SE := fun ρ => (f ρ).bind fun xs => if xs.length ≤ big then .ok (.tuple xs) else .bad
def eLst (f : SA) : SE := fun ρ => (f ρ).bind fun xs => if xs.length ≤ big then .ok (.list xs) else .bad
def oNone : PEnv → Res (Option Int) := fun _ => .ok none
def oSome (f : SE) : PEnv → Res (Option Int) := fun ρ => (f ρ).bind fun x => match x with
  | .int i => .ok (some i)
  | _ => .bad
def cutP {α : Type} (xs : List α) (lo hi : Option Int) : List α := (xs.drop (HT.sIx xs.length 0 lo)).take (HT.sIx xs.length xs.length hi - HT.sIx xs.length 0 lo)
def cutD (lo hi : Option Int) : PyData → Option PyData
  | .list xs => some (.list (cutP xs lo hi))
  | .tuple xs => some (.tuple (cutP xs lo hi))
  | .str z => if z.length ≤ big then some (.str (cutS z lo hi)) else none
  | _ => none
def eCut (f : SE) (l u : PEnv → Res (Option Int)) : SE := fun ρ => (f ρ).bind fun x => (l ρ).bind fun lo => (u ρ).bind fun hi => Res.of (cutD lo hi x)
def ixD : PyData → PyData → Option PyData
  | .list xs, .int i => atI xs i
  | .tuple xs, .int i => atI xs i
  | .str z, .int i => if z.length ≤ big then (atI z.cps.toList i).map fun c => .str ⟨#[c]⟩ else none
  | _, _ => none
def lenD : List PyData → Option PyData
  | [.list xs] => some (.int xs.length)
  | [.tuple xs] => some (.int xs.length)
  | [.str z] => if z.length ≤ big then some (.int z.length) else none
  | _ => none
def listD : List PyData → Option PyData
  | [.list xs] => some (.list xs)
  | [.tuple xs] => some (.list xs)
  | _ => none
def tupleD : List PyData → Option PyData
  | [.list xs] => some (.tuple xs)
  | [.tuple xs] => some (.tuple xs)
  | _ => none
def intD : List PyData → Option PyData
  | [.int i] => some (.int i)
  | [.bool b] => some (.int (if b then 1 else 0))
  | _ => none
def max2D : List PyData → Option PyData
  | [.int i, .int j] => some (.int (if j > i then j else i))
  | _ => none
def min2D : List PyData → Option PyData
  | [.int i, .int j] => some (.int (if j < i then j else i))
  | _ => none
def bools : List PyData → Option (List Bool)
  | [] => some []
  | .bool b :: r => (bools r).map (b :: ·)
  | _ :: _ => none
def strsOf : List PyData → Option (List Str)
  | [] => some []
  | .str b :: r => (strsOf r).map (b :: ·)
  | _ :: _ => none
def allD : List PyData → Option PyData
  | [.list xs] => (bools xs).map fun bs => .bool (bs.all id)
  | _ => none
def tyN : PyData → String
  | .none => "NoneType"
  | .bool _ => "bool"
  | .int _ => "int"
  | .str _ => "str"
  | .list _ => "list"
  | .tuple _ => "tuple"
  | .dict _ => "dict"
/-- isinstance(x, T) -/
def isiD (T : String) : PyData → Option PyData
  | .none => some (.bool false)
  | .bool _ => some (.bool (T == "bool" || T == "int"))
  | .int _ => some (.bool (T == "int"))
  | .str _ => some (.bool (T == "str"))
  | .list _ => some (.bool (T == "list"))
  | .tuple _ => some (.bool (T == "tuple"))
  | .dict _ => none

section
variable {X : Cx} {W : Wis} {a b c : Expr} {pos : Pos}
theorem ed_var {i : Nat} {x : Str} (hN : X.N[i]? = some x := by rfl) (hv : Vis X.env.scope x := by first | exact Or.inl rfl | exact Or.inr (Or.inl rfl) | exact Or.inr (Or.inr rfl)) (hd : (x == ("__debug__" : Str)) = false := by decide)
    (hcd : (x == ("__classdict__" : Str)) = false := by decide) : PE X (.Name x pos) (tD X.K W (eVar i)) := pe_weak (pe_var (i := i) hN hv hd hcd) fun σ H Q h => by
  obtain ⟨ρ, hE, q⟩ := h
  unfold eVar at q
  split at q
  · rename_i d e
    obtain ⟨v, h1, h2⟩ := hE.2 i d e
    exact ⟨v, h1, q _ (Same.refl H) v h2⟩
  · exact q.elim
theorem ed_int {i j} : PE X (.Constant (.int i) j pos) (tD X.K W (eC (.int i))) := pe_weak pe_int fun σ H Q ⟨ρ, hE, q⟩ => q _ (Same.refl H) _ (.int i)
theorem ed_bl {i j} : PE X (.Constant (.bool i) j pos) (tD X.K W (eC (.bool i))) := pe_weak pe_bl fun σ H Q ⟨ρ, hE, q⟩ => q _ (Same.refl H) _ (.bl i)
theorem ed_non {j} : PE X (.Constant .none j pos) (tD X.K W (eC .none)) := pe_weak pe_non fun σ H Q ⟨ρ, hE, q⟩ => q _ (Same.refl H) _ .non
theorem ed_str {i j} : PE X (.Constant (.str i) j pos) (tD X.K W (eC (.str i))) := pe_weak pe_str fun σ H Q ⟨ρ, hE, q⟩ => q _ (Same.refl H) _ (.str i)
/-- a constant of the module -/
structure GlD (K : PySem.W.Frag) (mg : Str → Option Value) (x : Str) (d : PyData) : Prop where
  at_ : ∃ v u, mg x = some u ∧ RelV v u ∧ ∀ H, Dp K H v d
theorem ed_glob {x : Str} {d : PyData} (g : GlD X.K X.mg x d) (hg : Gl X x := by rfl) (hd : (x == ("__debug__" : Str)) = false := by decide) : PE X (.Name x pos) (tD X.K W (eC d)) := by
  obtain ⟨v, u, hm, r, hD⟩ := g.at_
  exact pe_weak (pe_glob hg hm r hd) fun σ H Q ⟨ρ, hE, q⟩ => q _ (Same.refl H) _ (hD H)
/-- a two-place operation -/
theorem op_then {K : PySem.W.Frag} {g : PyData → PyData → Option PyData} {fa fb : SE} {σ : L2.St} {H : Hp} {Q : VK} (h : tD K W (eOp g fa fb) σ H Q) : tOp (rD K g) (tD K W fa) (tD K W fb) σ H Q := by
  obtain ⟨ρ, hE, q⟩ := h
  refine tD_mono (tD_then hE q) fun x H1 ⟨d, hx, s1, hE1, q1⟩ => ?_
  refine tD_mono (tD_then hE1 q1) fun y H2 ⟨e, hy, s2, hE2, q2⟩ => ?_
  obtain ⟨r, hr, q3⟩ := Res.post_of q2
  exact ⟨d, e, r, dp_mono s2 _ _ hx, hy, hr, q3⟩
theorem ed_op {op : Operator} {g : PyData → PyData → Option PyData} {fa fb : SE} (ho : OpR X (binaryOp op) (rD X.K g)) (ha : PE X a (tD X.K W fa)) (hb : PE X b (tD X.K W fb)) : PE X (.BinOp a op b pos) (tD X.K W (eOp g fa fb)) :=
  pe_weak (pe_op ho ha hb) fun σ H Q h => op_then h
theorem ed_cmp {op : CmpOp} {g : PyData → PyData → Option PyData} {fa fb : SE} (ho : OpR X (compareOp op) (rD X.K g)) (ha : PE X a (tD X.K W fa)) (hb : PE X b (tD X.K W fb)) (hm : behindInMarks op b = false := by first | exact nomark _ | rfl) :
    PE X (.Compare a [op] [b] pos) (tD X.K W (eOp g fa fb)) := pe_weak (pe_cmpR ho ha hb hm) fun σ H Q h => op_then h
/-- a value that is a truth -/
theorem asT_then {K : PySem.W.Frag} {f : SE} {σ : L2.St} {H : Hp} {Q : Bool → Hp → Prop} (h : ttD K W (asT f) σ H Q) : tD K W f σ H fun x H' => ∃ k, x = .bl k ∧ Q k H' := by
  obtain ⟨ρ, hE, q⟩ := h
  refine tD_mono (tD_then hE q) fun x H1 ⟨d, hx, s1, hE1, q1⟩ => ?_
  obtain ⟨k, hk, q2⟩ := Res.post_of q1
  cases d <;> simp only [truth, reduceCtorEq] at hk
  cases hk
  cases hx
  exact ⟨_, rfl, q2.now⟩
theorem td_cmp {op : CmpOp} {g : PyData → PyData → Option PyData} {fa fb : SE} (ho : OpR X (compareOp op) (rD X.K g)) (ha : PE X a (tD X.K W fa)) (hb : PE X b (tD X.K W fb)) (hm : behindInMarks op b = false := by first | exact nomark _ | rfl) :
    PT X (.Compare a [op] [b] pos) (ttD X.K W (asT (eOp g fa fb))) := by
  refine pt_weak (pt_cmpR ho ha hb hm) fun σ H Q h => ?_
  have h1 := asT_then h
  exact op_then h1
/-- a truth that an expression gives, not a comparison -/
theorem td_val {f : SE} (ha : PE X a (tD X.K W f)) (he : ∀ whole, isTrue a X.env whole = (do let v ← whole; standAt a.pos; holding [v] (PySem.truthy v)) := by intro _; rfl) : PT X a (ttD X.K W (asT f)) :=
  pt_weak (pt_val ha he) fun σ H Q h => asT_then h
theorem td_tru {f : SE} (ha : PE X a (tD X.K W f)) (he : ∀ whole, isTrue a X.env whole = (do let v ← whole; standAt a.pos; holding [v] (PySem.truthy v)) := by intro _; rfl) : PT X a (ttD X.K W (asTru f)) := by
  refine pt_weak (pt_truth ha he) fun σ H Q h => ?_
  obtain ⟨ρ, hE, q⟩ := h
  refine tD_mono (tD_then hE q) fun x H1 ⟨d, hx, s1, hE1, q1⟩ => ?_
  obtain ⟨k, hk, q2⟩ := Res.post_of q1
  refine ⟨k, ?_, q2.now⟩
  cases hx with
  | non => simp only [DL.truthy, Option.some.injEq] at hk; exact hk.symm
  | bl _ => simp only [DL.truthy, Option.some.injEq] at hk; exact hk.symm
  | int _ => simp only [DL.truthy, Option.some.injEq] at hk; exact hk.symm
  | str _ =>
    simp only [DL.truthy] at hk
    split at hk <;> cases hk
    rename_i hz
    exact ⟨Nat.le_trans hz big_line, rfl⟩
  | lst h1 h2 =>
    simp only [DL.truthy, Option.some.injEq] at hk
    subst hk
    refine .inl ⟨_, h1, ?_⟩
    cases h2 <;> rfl
  | tup h1 h2 =>
    simp only [DL.truthy, Option.some.injEq] at hk
    subst hk
    refine .inr (.inl ⟨_, h1, ?_⟩)
    cases h2 <;> rfl
  | dct h1 h2 => simp only [DL.truthy, reduceCtorEq] at hk
theorem td_and1 {t : ST} (ha : PT X a (ttD X.K W t)) : PW X (.BoolOp .And [a] pos) (ttD X.K W t) := pw_and1 ha
theorem td_or1 {t : ST} (ha : PT X a (ttD X.K W t)) : PW X (.BoolOp .Or [a] pos) (ttD X.K W t) := pw_or1 ha
theorem td_and {rest : List Expr} {t u : ST} (ha : PT X a (ttD X.K W t)) (hb : PW X (.BoolOp .And (b :: rest) pos) (ttD X.K W u)) : PW X (.BoolOp .And (a :: b :: rest) pos) (ttD X.K W (tAnd t u)) := by
  refine pw_weak (pw_and ha hb) fun σ H Q h => ?_
  obtain ⟨ρ, hE, q⟩ := h
  refine ttD_mono (ttD_then hE q) fun k H1 ⟨s1, hE1, q1⟩ => ?_
  cases k with
  | true => exact ⟨ρ, hE1, q1⟩
  | false => exact q1.now
theorem td_or {rest : List Expr} {t u : ST} (ha : PT X a (ttD X.K W t)) (hb : PW X (.BoolOp .Or (b :: rest) pos) (ttD X.K W u)) : PW X (.BoolOp .Or (a :: b :: rest) pos) (ttD X.K W (tOr t u)) := by
  refine pw_weak (pw_or ha hb) fun σ H Q h => ?_
  obtain ⟨ρ, hE, q⟩ := h
  refine ttD_mono (ttD_then hE q) fun k H1 ⟨s1, hE1, q1⟩ => ?_
  cases k with
  | true => exact q1.now
  | false => exact ⟨ρ, hE1, q1⟩
theorem td_not {t : ST} (ha : PT X a (ttD X.K W t)) : PT X (.UnaryOp .Not a pos) (ttD X.K W (DL.tNot t)) := by
  refine pt_weak (pt_not ha) fun σ H Q h => ?_
  obtain ⟨ρ, hE, q⟩ := h
  exact ttD_mono (ttD_then hE q) fun k H1 ⟨s1, hE1, q1⟩ => q1.now
theorem ed_one {op} {t : SE} (h : PE X a (tD X.K W t)) : PE X (.BoolOp op [a] pos) (tD X.K W t) := pe_one h
theorem ed_and {rest : List Expr} {f g : SE} (ha : PE X a (tD X.K W f)) (hb : PE X (.BoolOp .And (b :: rest) pos) (tD X.K W g)) : PE X (.BoolOp .And (a :: b :: rest) pos) (tD X.K W (eAnd f g)) := by
  refine pe_weak (pe_and ha hb) fun σ H Q h => ?_
  obtain ⟨ρ, hE, q⟩ := h
  refine tD_mono (tD_then hE q) fun x H1 ⟨d, hx, s1, hE1, q1⟩ => ?_
  obtain ⟨k, hk, q2⟩ := Res.post_of (Res.post_bind.mp q1)
  cases d <;> simp only [truth, reduceCtorEq] at hk
  cases hk
  cases hx
  refine ⟨_, rfl, ?_⟩
  cases k with
  | true => exact ⟨ρ, hE1, q2⟩
  | false => exact q2.now _ (.bl _)
theorem ed_or {rest : List Expr} {f g : SE} (ha : PE X a (tD X.K W f)) (hb : PE X (.BoolOp .Or (b :: rest) pos) (tD X.K W g)) : PE X (.BoolOp .Or (a :: b :: rest) pos) (tD X.K W (eOr f g)) := by
  refine pe_weak (pe_or ha hb) fun σ H Q h => ?_
  obtain ⟨ρ, hE, q⟩ := h
  refine tD_mono (tD_then hE q) fun x H1 ⟨d, hx, s1, hE1, q1⟩ => ?_
  obtain ⟨k, hk, q2⟩ := Res.post_of (Res.post_bind.mp q1)
  cases d <;> simp only [truth, reduceCtorEq] at hk
  cases hk
  cases hx
  refine ⟨_, rfl, ?_⟩
  cases k with
  | true => exact q2.now _ (.bl _)
  | false => exact ⟨ρ, hE1, q2⟩
theorem ed_not {f : SE} (ha : PE X a (tD X.K W f)) : PE X (.UnaryOp .Not a pos) (tD X.K W (eNot f)) := by
  refine pe_weak (pe_not ha) fun σ H Q h => ?_
  obtain ⟨ρ, hE, q⟩ := h
  refine tD_mono (tD_then hE q) fun x H1 ⟨d, hx, s1, hE1, q1⟩ => ?_
  obtain ⟨k, hk, q2⟩ := Res.post_of (Res.post_bind.mp q1)
  cases d <;> simp only [truth, reduceCtorEq] at hk
  cases hk
  cases hx
  exact ⟨_, rfl, q2.now _ (.bl _)⟩
/-! a op b op c -/
theorem chain_then {K : PySem.W.Frag} {g h : PyData → PyData → Option PyData} {fa fb fc : SE} {σ : L2.St} {H : Hp} {Q : VK} (q : tD K W (eChain g h fa fb fc) σ H Q) : tChain (rD K g) (rD K h) (tD K W fa) (tD K W fb) (tD K W fc) σ H Q := by
  obtain ⟨ρ, hE, q⟩ := q
  refine tD_mono (tD_then hE q) fun x H1 ⟨d, hx, s1, hE1, q1⟩ => ?_
  refine tD_mono (tD_then hE1 q1) fun y H2 ⟨e, hy, s2, hE2, q2⟩ => ?_
  obtain ⟨z, hz, q3⟩ := Res.post_of (Res.post_bind.mp q2)
  obtain ⟨k, hk, q4⟩ := Res.post_of (Res.post_bind.mp q3)
  cases z <;> simp only [truth, reduceCtorEq] at hk
  cases hk
  refine ⟨d, e, _, dp_mono s2 _ _ hx, hy, hz, fun H3 s3 v hv => ?_⟩
  cases hv
  refine ⟨k, rfl, ?_⟩
  cases k with
  | true =>
    have q5 := q4.mono (fun b r => r.on s3) (fun n r => r.on s3)
    refine iteT (tD_mono (tD_then (hE2.mono s3) q5) fun w H4 ⟨d4, hw, s4, hE4, q6⟩ => ?_)
    obtain ⟨r, hr, q7⟩ := Res.post_of q6
    exact ⟨e, d4, r, dp_mono (s3.trans s4) _ _ hy, hw, hr, q7⟩
  | false => exact iteF (q4 _ s3 _ (.bl _))
theorem ed_chain {op op' : CmpOp} {g h : PyData → PyData → Option PyData} {fa fb fc : SE} (ho : OpR X (compareOp op) (rD X.K g)) (ho' : OpR X (compareOp op') (rD X.K h)) (ha : PE X a (tD X.K W fa)) (hb : PE X b (tD X.K W fb)) (hc : PE X c (tD X.K W fc))
    (hm : lastMarks [op, op'] [b, c] = false := by with_unfolding_all rfl) : PE X (.Compare a [op, op'] [b, c] pos) (tD X.K W (eChain g h fa fb fc)) := pe_weak (pe_chain ho ho' ha hb hc hm) fun σ H Q q => chain_then q
theorem td_chain {op op' : CmpOp} {g h : PyData → PyData → Option PyData} {fa fb fc : SE} (ho : OpR X (compareOp op) (rD X.K g)) (ho' : OpR X (compareOp op') (rD X.K h)) (ha : PE X a (tD X.K W fa)) (hb : PE X b (tD X.K W fb)) (hc : PE X c (tD X.K W fc))
    (hm : lastMarks [op, op'] [b, c] = false := by with_unfolding_all rfl) : PT X (.Compare a [op, op'] [b, c] pos) (ttD X.K W (asT (eChain g h fa fb fc))) := pt_weak (pt_chain ho ho' ha hb hc hm) fun σ H Q q => chain_then (asT_then q)

/-! ### arguments, displays -/
theorem ad_nil : PA X [] (taD X.K W aNil) := pa_weak pa_nil fun σ H Q ⟨ρ, hE, q⟩ => q.now _ .nil
theorem ad_cons {es : List Expr} {f : SE} {g : SA} (ha : PE X a (tD X.K W f)) (hr : PA X es (taD X.K W g)) (hs : starEach (a :: es) X.env = (false, eval a X.env) :: starEach es X.env := by rfl) : PA X (a :: es) (taD X.K W (aCons f g)) := by
  refine pa_weak (pa_cons ha hr hs) fun σ H Q h => ?_
  obtain ⟨ρ, hE, q⟩ := h
  refine tD_mono (tD_then hE q) fun x H1 ⟨d, hx, s1, hE1, q1⟩ => ?_
  refine taD_mono (taD_then hE1 q1) fun xs H2 ⟨ds, hxs, s2, hE2, q2⟩ => ?_
  exact q2.now _ (.cons (dp_mono s2 _ _ hx) hxs)
theorem ed_tup {es : List Expr} {f : SA} {x1} (h : PA X es (taD X.K W f)) : PE X (.Tuple es x1 pos) (tD X.K W (eTup f)) := by
  refine pe_weak (pe_tup h) fun σ H Q h => ?_
  obtain ⟨ρ, hE, q⟩ := h
  refine taD_mono (taD_then hE q) fun xs H1 ⟨ds, hxs, s1, hE1, q1⟩ => ?_
  split at q1
  · rename_i hz
    exact ⟨by rw [dps_len hxs]; exact Nat.le_trans hz big_line, fun p hp => q1 _ (same_new hp _) _ (.tup (SqT.of upd_same) (dps_mono (same_new hp _) _ _ hxs))⟩
  · exact q1.elim
theorem ed_lst {es : List Expr} {f : SA} (h : PA X es (taD X.K W f)) : PE X (.List es pos) (tD X.K W (eLst f)) := by
  refine pe_weak (pe_lst h) fun σ H Q h => ?_
  obtain ⟨ρ, hE, q⟩ := h
  refine taD_mono (taD_then hE q) fun xs H1 ⟨ds, hxs, s1, hE1, q1⟩ => ?_
  split at q1
  · rename_i hz
    exact ⟨by rw [dps_len hxs]; exact Nat.le_trans hz big_line, fun p hp => q1 _ (same_new hp _) _ (.lst (SqL.of upd_same) (dps_mono (same_new hp _) _ _ hxs))⟩
  · exact q1.elim
theorem ed_ifExp {t : ST} {f g : SE} (hc : PT X c (ttD X.K W t)) (ha : PE X a (tD X.K W f)) (hb : PE X b (tD X.K W g)) : PE X (.IfExp c a b pos) (tD X.K W (fun ρ => (t ρ).bind fun k => if k then f ρ else g ρ)) := by
  refine pe_weak (pe_ifExp hc ha hb) fun σ H Q h => ?_
  obtain ⟨ρ, hE, q⟩ := h
  refine ttD_mono (ttD_then hE q) fun k H1 ⟨s1, hE1, q1⟩ => ?_
  cases k with
  | true => exact iteT ⟨ρ, hE1, q1⟩
  | false => exact iteF ⟨ρ, hE1, q1⟩

/-! ### subscripts, slices -/
theorem atI_dps {K : PySem.W.Frag} {H : Hp} {vs : List V} {ds : List PyData} {i : Int} {d : PyData} (h : DpAll K H vs ds) (e : atI ds i = some d) : ∃ v, atI vs i = some v ∧ Dp K H v d := by
  unfold atI at e ⊢
  rw [dps_len h]
  cases q : ixN ds.length i with
  | none => rw [q] at e; cases e
  | some j =>
    rw [q] at e
    exact dps_get h e
theorem ed_ix {fa fb : SE} (ha : PE X a (tD X.K W fa)) (hb : PE X b (tD X.K W fb)) (hs : PlainIx b := by exact fun _ _ => rfl) : PE X (.Subscript a b pos) (tD X.K W (eOp ixD fa fb)) := by
  refine pe_weak (pe_ix ix_seq ha hb hs) fun σ H Q h => ?_
  obtain ⟨ρ, hE, q⟩ := h
  refine tD_mono (tD_then hE q) fun x H1 ⟨d, hx, s1, hE1, q1⟩ => ?_
  refine tD_mono (tD_then hE1 q1) fun y H2 ⟨e, hy, s2, hE2, q2⟩ => ?_
  obtain ⟨r, hr, q3⟩ := Res.post_of q2
  have hx := dp_mono s2 _ _ hx
  rcases d with _ | dB | dI | z | dL | dT | dD <;> rcases e with _ | eB | i | eS | eL | eT | eD <;> simp only [ixD, reduceCtorEq] at hr
  case str.int =>
    split at hr
    · rename_i hz
      cases q : atI z.cps.toList i with
      | none => rw [q] at hr; cases hr
      | some k =>
        rw [q] at hr
        cases hr
        cases hx; cases hy
        exact .inr (.inr ⟨z, i, k, rfl, rfl, Nat.le_trans hz big_line, q, q3.now _ (.str _)⟩)
    · cases hr
  case list.int =>
    cases hy
    cases hx with
    | lst h1 h2 =>
      obtain ⟨v, hv, hd⟩ := atI_dps h2 hr
      exact .inl ⟨_, _, i, v, rfl, rfl, h1, hv, q3.now _ hd⟩
  case tuple.int =>
    cases hy
    cases hx with
    | tup h1 h2 =>
      obtain ⟨v, hv, hd⟩ := atI_dps h2 hr
      exact .inr (.inl ⟨_, _, i, v, rfl, rfl, h1, hv, q3.now _ hd⟩)
def toD (K : PySem.W.Frag) (W : Wis) (f : PEnv → Res (Option Int)) : TO := fun σ H Q => ∃ ρ, EnvR K H σ ρ ∧ (f ρ).post (fun o => fut H fun H' => Q o H') fun n => fut H (W n)
theorem toD_then {β : Type} {p : β → Hp → Prop} {K : PySem.W.Frag} {σ : L2.St} {H : Hp} {ρ : PEnv} {f : PEnv → Res (Option Int)} {g : Option Int → Res β} (hE : EnvR K H σ ρ) (h : ((f ρ).bind g).post (fun b => fut H (p b)) fun n => fut H (W n)) :
    toD K W f σ H fun c H1 => Same H H1 ∧ EnvR K H1 σ ρ ∧ (g c).post (fun b => fut H1 (p b)) fun n => fut H1 (W n) :=
  ⟨ρ, hE, (Res.post_bind.mp h).mono (fun d q H1 s => ⟨s, hE.mono s, q.mono (fun b r => r.on s) fun n r => r.on s⟩) fun n r => r⟩
theorem toD_mono {K : PySem.W.Frag} {σ : L2.St} {H : Hp} {f : PEnv → Res (Option Int)} {Q Q' : Option Int → Hp → Prop} (h : toD K W f σ H Q) (w : ∀ v H', Q v H' → Q' v H') : toD K W f σ H Q' := by
  obtain ⟨ρ, hE, q⟩ := h
  exact ⟨ρ, hE, q.mono (fun d r H' s => w _ _ (r H' s)) fun n r => r⟩
theorem po_weak {e : Option Expr} {t t' : TO} (h : PO X e t) (w : ∀ σ H Q, t' σ H Q → t σ H Q) : PO X e t' := ⟨fun pins s σ H Q I q => h.run pins s σ H Q I (w σ H Q q)⟩
theorem od_none : PO X none (toD X.K W oNone) := po_weak po_none fun σ H Q ⟨ρ, hE, q⟩ => q.now
theorem od_some {f : SE} (h : PE X a (tD X.K W f)) : PO X (some a) (toD X.K W (oSome f)) := by
  refine po_weak (po_some h) fun σ H Q h => ?_
  obtain ⟨ρ, hE, q⟩ := h
  refine tD_mono (tD_then hE q) fun x H1 ⟨d, hx, s1, hE1, q1⟩ => ?_
  cases hx <;> first | exact q1.elim | skip
  exact ⟨_, rfl, q1.now⟩
theorem sIx_bd (n d : Nat) (h : HT.sIx n 0 none = 0) : True := trivial
theorem dps_cut {K : PySem.W.Frag} {H : Hp} {vs : List V} {ds : List PyData} (lo hi : Option Int) (h : DpAll K H vs ds) : DpAll K H (cutV vs lo hi) (cutP ds lo hi) := by
  unfold cutV cutP
  rw [dps_len h]
  exact dps_take _ (dps_drop _ h)
theorem ed_cut {f : SE} {l u : PEnv → Res (Option Int)} {lo hi : Option Expr} {p2 : Pos} (ha : PE X a (tD X.K W f)) (hl : PO X lo (toD X.K W l)) (hu : PO X hi (toD X.K W u)) : PE X (.Subscript a (.Slice lo hi none p2) pos) (tD X.K W (eCut f l u)) := by
  refine pe_weak (pe_slice ((sl_list.or (sl_tupA.or sl_str))) ha hl hu) fun σ H Q h => ?_
  obtain ⟨ρ, hE, q⟩ := h
  refine tD_mono (tD_then hE q) fun x H1 ⟨d, hx, s1, hE1, q1⟩ => ?_
  refine toD_mono (toD_then hE1 q1) fun lo' H2 ⟨s2, hE2, q2⟩ => ?_
  refine toD_mono (toD_then hE2 q2) fun hi' H3 ⟨s3, hE3, q3⟩ => ?_
  obtain ⟨r, hr, q4⟩ := Res.post_of q3
  have hx := dp_mono (s2.trans s3) _ _ hx
  rcases d with _ | dB | dI | zS | zL | z | dD <;> simp only [cutD, reduceCtorEq] at hr
  case list =>
    cases hr
    cases hx with
    | lst h1 h2 => exact .inl ⟨_, _, rfl, h1, fun p hp => q4 _ (same_new hp _) _ (.lst (SqL.of upd_same) (dps_mono (same_new hp _) _ _ (dps_cut _ _ h2)))⟩
  case tuple =>
    cases hr
    cases hx with
    | @tup aa vs _ h1 h2 =>
      refine .inr (.inl ⟨_, _, rfl, h1, fun e => ?_, fun _ p hp => q4 _ (same_new hp _) _ (.tup (SqT.of upd_same) (dps_mono (same_new hp _) _ _ (dps_cut _ _ h2)))⟩)
      have e2 : cutP z lo' hi' = z := by
        unfold cutP
        rw [← dps_len h2, e.1, e.2, List.drop_zero, Nat.sub_zero, dps_len h2, List.take_length]
      rw [e2] at q4
      exact q4.now _ (.tup h1 h2)
  case str =>
    split at hr <;> cases hr
    rename_i hz
    cases hx
    exact .inr (.inr ⟨zS, rfl, Nat.le_trans hz big_line, q4.now _ (.str _)⟩)
end
end DL

set_option Elab.async false
set_option linter.all false
set_option maxRecDepth 100000
set_option maxHeartbeats 2000000
namespace DL
open PySem L2 PyProof.Rows

/-! ### calls of built-ins by name -/
def rCD (K : PySem.W.Frag) (g : List PyData → Option PyData) : List V → Hp → VK → Prop := fun vs H Q => ∃ ds r, DpAll K H vs ds ∧ g ds = some r ∧ fut H fun H' => ∀ v, Dp K H' v r → Q v H'
section
variable {X : Cx} {W : Wis} {a b c : Expr} {pos : Pos}
theorem callR_weak {f : Value} {r r' : List V → Hp → VK → Prop} (h : CallR X f r) (w : ∀ vs H Q, r' vs H Q → r vs H Q) : CallR X f r' := fun pins s σ H xs us Q I rv q => h pins s σ H xs us Q I rv (w _ _ _ q)
theorem cb_then {g : List PyData → Option PyData} {f : SA} {K : PySem.W.Frag} {σ : L2.St} {H : Hp} {Q : VK} (h : tD K W (eArgs g f) σ H Q) : tCB (rCD K g) (taD K W f) σ H Q := by
  obtain ⟨ρ, hE, q⟩ := h
  refine taD_mono (taD_then hE q) fun xs H1 ⟨ds, hx, s1, hE1, q1⟩ => ?_
  obtain ⟨r, hr, q2⟩ := Res.post_of q1
  exact ⟨ds, r, hx, hr, q2⟩
theorem ed_callB {x : Str} {id : String} {p : Pos} {es : List Expr} {g : List PyData → Option PyData} {f : SA} (hc : CallR X (.builtin id) (rCD X.K g)) (hm : X.mg x = none) (ha : PA X (a :: es) (taD X.K W f)) (hv : bootBuiltins x = some (.builtin id) := by decide +kernel) (hg : Gl X x := by rfl)
    (hn : x ≠ "__name__" := by decide) (hdb : (x == ("__debug__" : Str)) = false := by decide) (he : starEach (a :: es) X.env = (false, eval a X.env) :: starEach es X.env := by rfl) (hpl : (backTo pos (starEach es X.env)).any (·.1) = false := by rfl) :
    PE X (.Call (.Name x p) (a :: es) [] pos) (tD X.K W (eArgs g f)) := pe_weak (pe_callB hc hg hm hv ha hn hdb he hpl) fun σ H Q h => cb_then h
theorem ed_callT {x : Str} {T : String} {p : Pos} {es : List Expr} {g : List PyData → Option PyData} {f : SA} (hc : CallR X (.type T) (rCD X.K g)) (hm : X.mg x = none) (ha : PA X (a :: es) (taD X.K W f)) (hv : bootBuiltins x = some (.type T) := by decide +kernel) (hg : Gl X x := by rfl)
    (hn : x ≠ "__name__" := by decide) (hdb : (x == ("__debug__" : Str)) = false := by decide) (he : starEach (a :: es) X.env = (false, eval a X.env) :: starEach es X.env := by rfl) (hpl : (backTo pos (starEach es X.env)).any (·.1) = false := by rfl) :
    PE X (.Call (.Name x p) (a :: es) [] pos) (tD X.K W (eArgs g f)) := pe_weak (pe_callTy hc hg hm hv ha hn hdb he hpl) fun σ H Q h => cb_then h
/-! what each asks -/
theorem cd_len : CallR X (.builtin "len") (rCD X.K lenD) := callR_weak call_len fun vs H Q ⟨ds, r, hd, hg, q⟩ => by
  match ds, vs, hd, hg with
  | [.list xs], _, .cons (.lst h1 h2) .nil, hg =>
    simp only [lenD, Option.some.injEq] at hg
    subst hg
    exact ⟨_, _, rfl, .inl ⟨_, h1, rfl⟩, by rw [dps_len h2]; exact q.now _ (.int _)⟩
  | [.tuple xs], _, .cons (.tup h1 h2) .nil, hg =>
    simp only [lenD, Option.some.injEq] at hg
    subst hg
    exact ⟨_, _, rfl, .inr ⟨_, h1, rfl⟩, by rw [dps_len h2]; exact q.now _ (.int _)⟩
  | [.str z], _, .cons (.str _) .nil, hg =>
    simp only [lenD] at hg
    split at hg <;> cases hg
    rename_i hz
    exact ⟨_, _, rfl, ⟨Nat.le_trans hz big_line, rfl⟩, q.now _ (.int _)⟩
theorem cd_list : CallR X (.type "list") (rCD X.K listD) := callR_weak call_list_of fun vs H Q ⟨ds, r, hd, hg, q⟩ => by
  match ds, vs, hd, hg with
  | [.list xs], _, .cons (.lst h1 h2) .nil, hg =>
    simp only [listD, Option.some.injEq] at hg
    subst hg
    exact ⟨_, _, rfl, .inl h1, fun p hp => q _ (same_new hp _) _ (.lst (SqL.of upd_same) (dps_mono (same_new hp _) _ _ h2))⟩
  | [.tuple xs], _, .cons (.tup h1 h2) .nil, hg =>
    simp only [listD, Option.some.injEq] at hg
    subst hg
    exact ⟨_, _, rfl, .inr h1, fun p hp => q _ (same_new hp _) _ (.lst (SqL.of upd_same) (dps_mono (same_new hp _) _ _ h2))⟩
theorem cd_tuple : CallR X (.type "tuple") (rCD X.K tupleD) := callR_weak call_tuple_of fun vs H Q ⟨ds, r, hd, hg, q⟩ => by
  match ds, vs, hd, hg with
  | [.list xs], _, .cons (.lst h1 h2) .nil, hg =>
    simp only [tupleD, Option.some.injEq] at hg
    subst hg
    exact ⟨_, _, rfl, .inl ⟨h1, fun p hp => q _ (same_new hp _) _ (.tup (SqT.of upd_same) (dps_mono (same_new hp _) _ _ h2))⟩⟩
  | [.tuple xs], _, .cons (.tup h1 h2) .nil, hg =>
    simp only [tupleD, Option.some.injEq] at hg
    subst hg
    exact ⟨_, _, rfl, .inr ⟨h1, q.now _ (.tup h1 h2)⟩⟩
theorem cd_int : CallR X (.type "int") (rCD X.K intD) := callR_weak call_int1 fun vs H Q ⟨ds, r, hd, hg, q⟩ => by
  match ds, vs, hd, hg with
  | [.int i], _, .cons (.int _) .nil, hg =>
    simp only [intD, Option.some.injEq] at hg
    subst hg
    exact .inl ⟨_, rfl, q.now _ (.int _)⟩
  | [.bool k], _, .cons (.bl _) .nil, hg =>
    simp only [intD, Option.some.injEq] at hg
    subst hg
    exact .inr ⟨_, rfl, q.now _ (.int _)⟩
theorem cd_max2 (hc : X.calm = true) : CallR X (.builtin "max") (rCD X.K max2D) := callR_weak (call_max2 hc) fun vs H Q ⟨ds, r, hd, hg, q⟩ => by
  match ds, vs, hd, hg with
  | [.int i, .int j], _, .cons (.int _) (.cons (.int _) .nil), hg =>
    simp only [max2D, Option.some.injEq] at hg
    subst hg
    exact ⟨_, _, rfl, q.now _ (.int _)⟩
theorem cd_min2 (hc : X.calm = true) : CallR X (.builtin "min") (rCD X.K min2D) := callR_weak (call_min2 hc) fun vs H Q ⟨ds, r, hd, hg, q⟩ => by
  match ds, vs, hd, hg with
  | [.int i, .int j], _, .cons (.int _) (.cons (.int _) .nil), hg =>
    simp only [min2D, Option.some.injEq] at hg
    subst hg
    exact ⟨_, _, rfl, q.now _ (.int _)⟩
theorem bools_map : ∀ {xs : List PyData} {bs : List Bool}, bools xs = some bs → xs = bs.map PyData.bool
  | [], bs, h => by cases h; rfl
  | .bool b :: r, bs, h => by
    simp only [bools, Option.map_eq_some_iff] at h
    obtain ⟨cs, h1, rfl⟩ := h
    rw [bools_map h1]
    rfl
  | .none :: r, bs, h => by simp [bools] at h
  | .int _ :: r, bs, h => by simp [bools] at h
  | .str _ :: r, bs, h => by simp [bools] at h
  | .list _ :: r, bs, h => by simp [bools] at h
  | .tuple _ :: r, bs, h => by simp [bools] at h
  | .dict _ :: r, bs, h => by simp [bools] at h
theorem strsOf_map : ∀ {xs : List PyData} {bs : List Str}, strsOf xs = some bs → xs = bs.map PyData.str
  | [], bs, h => by cases h; rfl
  | .str b :: r, bs, h => by
    simp only [strsOf, Option.map_eq_some_iff] at h
    obtain ⟨cs, h1, rfl⟩ := h
    rw [strsOf_map h1]
    rfl
  | .none :: r, bs, h => by simp [strsOf] at h
  | .int _ :: r, bs, h => by simp [strsOf] at h
  | .bool _ :: r, bs, h => by simp [strsOf] at h
  | .list _ :: r, bs, h => by simp [strsOf] at h
  | .tuple _ :: r, bs, h => by simp [strsOf] at h
  | .dict _ :: r, bs, h => by simp [strsOf] at h
theorem cd_all (hc : X.calm = true) : CallR X (.builtin "all") (rCD X.K allD) := callR_weak (cr_all hc) fun vs H Q ⟨ds, r, hd, hg, q⟩ => by
  match ds, vs, hd, hg with
  | [.list xs], _, .cons (.lst h1 h2) .nil, hg =>
    simp only [allD, Option.map_eq_some_iff] at hg
    obtain ⟨bs, hb, rfl⟩ := hg
    rw [bools_map hb] at h2
    rw [dps_bls_of h2] at h1
    exact ⟨_, bs, rfl, h1, q.now _ (.bl _)⟩
/-! isinstance -/
theorem kit_all (t T : String) (ht : t ∈ ["NoneType", "bool", "int", "str", "list", "tuple"]) (hT : T ∈ ["bool", "int", "str", "list", "tuple"]) : kitB t T = some (t == T || (t == "bool" && T == "int")) := by
  simp only [List.mem_cons, List.not_mem_nil, or_false] at ht hT
  rcases ht with rfl | rfl | rfl | rfl | rfl | rfl <;> rcases hT with rfl | rfl | rfl | rfl | rfl <;> decide +kernel
theorem ty_of {K : PySem.W.Frag} {H : Hp} {v : V} {d : PyData} (h : Dp K H v d) : TyX K H v (.type (tyN d)) := by
  cases h with
  | non => exact .base .non
  | bl b => exact .base (.bl b)
  | int i => exact .base (.int i)
  | str x => exact .base (.str x)
  | lst h1 h2 =>
    rcases h1 with (h1 | ⟨o, h1⟩) | ⟨o, its, n, h1, h3, _⟩
    · exact .base (.lst h1)
    · exact .base (.frz h1)
    · exact .kList h1 h3
  | tup h1 h2 =>
    rcases h1 with (h1 | ⟨o, h1⟩) | ⟨o, its, n, h1, h3, _⟩
    · exact .base (.tup h1)
    · exact .fTuple h1
    · exact .kTuple h1 h3
  | dct h1 h2 => exact .base (.dK h1)
theorem ed_isi {T : String} {tn : Str} {p p2 : Pos} {f : SE} (hm : X.mg "isinstance" = none) (hmT : X.mg tn = none) (hT : T ∈ ["bool", "int", "str", "list", "tuple"]) (ha : PE X a (tD X.K W f)) (hvT : bootBuiltins tn = some (.type T) := by decide +kernel) (hgT : Gl X tn := by rfl) (hg : Gl X "isinstance" := by rfl)
    (hnT : tn ≠ "__name__" := by decide) (hdT : (tn == ("__debug__" : Str)) = false := by decide) (hs : starEach (a :: [.Name tn p2]) X.env = (false, eval a X.env) :: starEach [.Name tn p2] X.env := by rfl)
    (hs2 : starEach ((.Name tn p2) :: []) X.env = (false, eval (.Name tn p2) X.env) :: starEach [] X.env := by rfl) (hpl : (backTo pos (starEach [.Name tn p2] X.env)).any (·.1) = false := by rfl) :
    PE X (.Call (.Name "isinstance" p) [a, .Name tn p2] [] pos) (tD X.K W (eUn (isiD T) f)) := by
  refine pe_weak (pe_callB call_isi hg hm (by decide +kernel) (pa_cons ha (pa_cons (pe_bltn (v := .ty T) hgT hmT hvT rfl hnT hdT) pa_nil hs2) hs) (by decide) (by decide) hs hpl) fun σ H Q h => ?_
  obtain ⟨ρ, hE, q⟩ := h
  refine tD_mono (tD_then hE q) fun x H1 ⟨d, hx, s1, hE1, q1⟩ => ?_
  obtain ⟨r, hr, q2⟩ := Res.post_of q1
  have hk : ∃ b, r = .bool b ∧ kitB (tyN d) T = some b := by
    cases d <;> simp only [isiD, Option.some.injEq, reduceCtorEq] at hr
    all_goals
      subst hr
      refine ⟨_, rfl, ?_⟩
      rw [kit_all _ T (by simp [tyN]) hT]
      simp only [List.mem_cons, List.not_mem_nil, or_false] at hT
      simp only [tyN]
      rcases hT with rfl | rfl | rfl | rfl | rfl <;> decide
  obtain ⟨b, rfl, hb⟩ := hk
  exact ⟨_, _, _, _, b, rfl, .ty T, ty_of hx, kit_ty hb, q2.now _ (.bl _)⟩

/-! ### methods of texts -/
theorem mtR_weak {id : String} {r r' : V → List V → Hp → VK → Prop} (h : MtR X id r) (w : ∀ x vs H Q, r' x vs H Q → r x vs H Q) : MtR X id r' := fun pins s σ H x xs v us Q I rx rs q => h pins s σ H x xs v us Q I rx rs (w _ _ _ _ q)
def rMD (K : PySem.W.Frag) (g : Str → PyData → Option PyData) : V → List V → Hp → VK → Prop := fun x vs H Q => ∃ z y e r, x = .str z ∧ vs = [y] ∧ Dp K H y e ∧ g z e = some r ∧ fut H fun H' => ∀ v, Dp K H' v r → Q v H'
/-- a text's method of one argument, of none -/
def eM1 (g : Str → PyData → Option PyData) (f h : SE) : SE := fun ρ => (f ρ).bind fun x => match x with
  | .str z => (h ρ).bind fun y => Res.of (g z y)
  | _ => .bad
def eM0 (g : Str → Option PyData) (f : SE) : SE := fun ρ => (f ρ).bind fun x => match x with
  | .str z => Res.of (g z)
  | _ => .bad
theorem ed_m1 {id : String} {name : Str} {apos : Pos} {g : Str → PyData → Option PyData} {f h : SE} (slot : Slot "str" name id) (ty : typeOf (.builtin id) = pure (.type "method_descriptor")) (rule : MtR X id (rMD X.K g))
    (ho : PE X a (tD X.K W f)) (he : PE X b (tD X.K W h)) (hs : starEach [b] X.env = [(false, eval b X.env)] := by rfl) (hbase : attributeBase a name X.env (eval a X.env) = eval a X.env := by rfl) (hline : (apos.endLine == pos.line) = true := by rfl) :
    PE X (.Call (.Attribute a name apos) [b] [] pos) (tD X.K W (eM1 g f h)) := by
  refine pe_weak (pe_m1 slot ty rule ho he hs hbase hline) fun σ H Q q => ?_
  obtain ⟨ρ, hE, q⟩ := q
  refine tD_mono (tD_then hE q) fun x H1 ⟨d, hx, s1, hE1, q1⟩ => ?_
  obtain ⟨z, rfl, rfl⟩ : ∃ z, d = .str z ∧ x = .str z := by
    cases hx with
    | str z => exact ⟨z, rfl, rfl⟩
    | _ => exact q1.elim
  refine ⟨⟨z, rfl⟩, tD_mono (tD_then hE1 q1) fun y H2 ⟨e, hy, s2, hE2, q2⟩ => ?_⟩
  obtain ⟨r, hr, q3⟩ := Res.post_of q2
  exact ⟨z, y, e, r, rfl, rfl, hy, hr, q3⟩
theorem ed_m0 {id : String} {name : Str} {apos : Pos} {g : Str → Option PyData} {f : SE} (slot : Slot "str" name id) (ty : typeOf (.builtin id) = pure (.type "method_descriptor"))
    (rule : MtR X id (fun x vs H Q => ∃ z r, x = .str z ∧ vs = [] ∧ g z = some r ∧ fut H fun H' => ∀ v, Dp X.K H' v r → Q v H'))
    (ho : PE X a (tD X.K W f)) (hbase : attributeBase a name X.env (eval a X.env) = eval a X.env := by rfl) (hline : (apos.endLine == pos.line) = true := by rfl) :
    PE X (.Call (.Attribute a name apos) [] [] pos) (tD X.K W (eM0 g f)) := by
  refine pe_weak (pe_m0 slot ty rule ho hbase hline) fun σ H Q q => ?_
  obtain ⟨ρ, hE, q⟩ := q
  refine tD_mono (tD_then hE q) fun x H1 ⟨d, hx, s1, hE1, q1⟩ => ?_
  obtain ⟨z, rfl, rfl⟩ : ∃ z, d = .str z ∧ x = .str z := by
    cases hx with
    | str z => exact ⟨z, rfl, rfl⟩
    | _ => exact q1.elim
  obtain ⟨r, hr, q3⟩ := Res.post_of q1
  exact ⟨⟨z, rfl⟩, z, r, rfl, rfl, hr, q3⟩
def joinD (z : Str) : PyData → Option PyData
  | .list ds => (strsOf ds).bind fun ys => if (ys.map (·.length)).sum + ys.length * z.length ≤ big then some (.str (Str.join z ys)) else none
  | _ => none
def indexD (z : Str) : PyData → Option PyData
  | .str b => (Builtin.Str.occurrences z b 0 z.length 1).head?.map fun i => .int (i : Nat)
  | _ => none
def findD (z : Str) : PyData → Option PyData
  | .str b => some (.int (Txt.find z b))
  | _ => none
def upperD (z : Str) : Option PyData := if z.length ≤ big then some (.str (Txt.upper z)) else none
theorem md_join : MtR X "str.join" (rMD X.K joinD) := mtR_weak mt_join fun x vs H Q ⟨z, y, e, r, hx, hv, hy, hg, q⟩ => by
  subst hx hv
  obtain ⟨a, xs, ds, rfl, rfl, h1, h2⟩ : ∃ a xs ds, e = .list ds ∧ y = .ref a ∧ SqL X.K H a xs ∧ DpAll X.K H xs ds := by
    cases hy with
    | lst h1 h2 => exact ⟨_, _, _, rfl, rfl, h1, h2⟩
    | _ => simp [joinD] at hg
  simp only [joinD] at hg
  simp only [Option.bind_eq_some_iff] at hg
  obtain ⟨ys, hs, hg⟩ := hg
  split at hg <;> cases hg
  rename_i hz
  rw [strsOf_map hs] at h2
  rw [dps_strs_of h2] at h1
  refine ⟨z, _, ys, rfl, rfl, .inl h1, Nat.le_trans hz (by decide), ?_⟩
  rw [TL.join_eq]
  exact q.now _ (.str _)
theorem md_index : MtR X "str.index" (rMD X.K indexD) := mtR_weak mt_sindex fun x vs H Q ⟨z, y, e, r, hx, hv, hy, hg, q⟩ => by
  subst hx hv
  obtain ⟨b, rfl, rfl⟩ : ∃ b, e = .str b ∧ y = .str b := by
    cases hy with
    | str z => exact ⟨z, rfl, rfl⟩
    | _ => simp [indexD] at hg
  simp only [indexD] at hg
  cases ho : Builtin.Str.occurrences z b 0 z.length 1 with
  | nil => rw [ho] at hg; cases hg
  | cons i rest =>
    rw [ho] at hg
    cases hg
    exact ⟨z, b, i, rest, rfl, rfl, ho, q.now _ (.int _)⟩
theorem md_find : MtR X "str.find" (rMD X.K findD) := mtR_weak mt_find fun x vs H Q ⟨z, y, e, r, hx, hv, hy, hg, q⟩ => by
  subst hx hv
  cases hy <;> simp only [findD, reduceCtorEq] at hg
  cases hg
  exact ⟨z, _, rfl, rfl, q.now _ (.int _)⟩
theorem md_upper : MtR X "str.upper" (fun x vs H Q => ∃ z r, x = .str z ∧ vs = [] ∧ upperD z = some r ∧ fut H fun H' => ∀ v, Dp X.K H' v r → Q v H') := mtR_weak mt_upper fun x vs H Q ⟨z, r, hx, hv, hg, q⟩ => by
  subst hx hv
  unfold upperD at hg
  split at hg <;> cases hg
  rename_i hz
  exact ⟨z, rfl, rfl, Nat.le_trans hz (by decide), q.now _ (.str _)⟩
theorem ed_join {apos : Pos} {f h : SE} (ho : PE X a (tD X.K W f)) (he : PE X b (tD X.K W h)) (hs : starEach [b] X.env = [(false, eval b X.env)] := by rfl) (hbase : attributeBase a "join" X.env (eval a X.env) = eval a X.env := by rfl) (hline : (apos.endLine == pos.line) = true := by rfl) :
    PE X (.Call (.Attribute a "join" apos) [b] [] pos) (tD X.K W (eM1 joinD f h)) := ed_m1 F.slot_str_join F.type_str_join md_join ho he hs hbase hline
theorem ed_sindex {apos : Pos} {f h : SE} (ho : PE X a (tD X.K W f)) (he : PE X b (tD X.K W h)) (hs : starEach [b] X.env = [(false, eval b X.env)] := by rfl) (hbase : attributeBase a "index" X.env (eval a X.env) = eval a X.env := by rfl) (hline : (apos.endLine == pos.line) = true := by rfl) :
    PE X (.Call (.Attribute a "index" apos) [b] [] pos) (tD X.K W (eM1 indexD f h)) := ed_m1 F.slot_str_index F.type_str_index md_index ho he hs hbase hline
theorem ed_find {apos : Pos} {f h : SE} (ho : PE X a (tD X.K W f)) (he : PE X b (tD X.K W h)) (hs : starEach [b] X.env = [(false, eval b X.env)] := by rfl) (hbase : attributeBase a "find" X.env (eval a X.env) = eval a X.env := by rfl) (hline : (apos.endLine == pos.line) = true := by rfl) :
    PE X (.Call (.Attribute a "find" apos) [b] [] pos) (tD X.K W (eM1 findD f h)) := ed_m1 F.slot_str_find F.type_str_find md_find ho he hs hbase hline
theorem ed_upper {apos : Pos} {f : SE} (ho : PE X a (tD X.K W f)) (hbase : attributeBase a "upper" X.env (eval a X.env) = eval a X.env := by rfl) (hline : (apos.endLine == pos.line) = true := by rfl) :
    PE X (.Call (.Attribute a "upper" apos) [] [] pos) (tD X.K W (eM0 upperD f)) := ed_m0 F.slot_str_upper F.type_str_upper md_upper ho hbase hline

/-! ### calls of the text's defs -/
def spD (K : PySem.W.Frag) (cls : Nat → Value) (n : Nat) (g : List PyData → Res PyData) : Sp := fun vs H Q E => vs.length = n ∧ ∃ ds, DpAll K H vs ds ∧ (g ds).post (fun d => fut H fun H' => ∀ v, Dp K H' v d → Q v H') fun m => fut H fun H' => E (cls m) none H'
structure Callee (P : Program) (w : World) (K : PySem.W.Frag) (mg : Str → Option Value) (base : Heap) (CX : CXT) (cls : Nat → Value) (x : Str) (k : Nat) (ps : List Str) (g : List PyData → Res PyData) : Prop where
  ex : ∃ f fd, FnOk P w K mg base CX k f fd ps (spD K cls ps.length g) ∧ mg x = some (.ref f) ∧ PySem.W.keepIn K (.ref f) = true ∧ Binds K fd ps [] ∧ ∃ oc od osl, K.lookup f = some ⟨oc, od, .func fd, osl⟩
def wishE (cls : Nat → Value) (W : Wis) : XK := fun c d H => ∃ m, c = cls m ∧ d = none ∧ W m H
theorem sp_then {K : PySem.W.Frag} {cls : Nat → Value} {n : Nat} {g : List PyData → Res PyData} {f : SA} {σ : L2.St} {H : Hp} {Q : VK} (hn : ∀ ρ ds, f ρ = .ok ds → ds.length = n) (h : tD K W (eCall g f) σ H Q) :
    tCall (spD K cls n g) [] (wishE cls W) (taD K W f) σ H Q := by
  obtain ⟨ρ, hE, q⟩ := h
  unfold eCall at q
  cases hfr : f ρ with
  | bad => rw [hfr] at q; exact q.elim
  | ex m => rw [hfr] at q; exact ⟨ρ, hE, by rw [hfr]; exact q⟩
  | ok ds =>
    rw [hfr] at q
    refine ⟨ρ, hE, ?_⟩
    rw [hfr]
    intro H1 s1 vs hvs
    rw [List.append_nil]
    refine ⟨(dps_len hvs).trans (hn ρ ds hfr), ds, hvs, q.mono (fun d r => r.on s1) fun m r H' s' => ⟨m, rfl, rfl, r _ (s1.trans s')⟩⟩
theorem ed_call {CX : CXT} {cls : Nat → Value} {x : Str} {k : Nat} {ps : List Str} {g : List PyData → Res PyData} {p : Pos} {es : List Expr} {f : SA} (C : Callee X.prog X.w X.K X.mg X.base CX cls x k ps g) (hr : Room k X.A) (hx : Passes CX X (wishE cls W)) (ha : PA X (a :: es) (taD X.K W f))
    (hn : ∀ ρ ds, f ρ = .ok ds → ds.length = ps.length) (hg : Gl X x := by rfl) (hdb : (x == ("__debug__" : Str)) = false := by decide) (he : starEach (a :: es) X.env = (false, eval a X.env) :: starEach es X.env := by rfl) (hpl : (backTo pos (starEach es X.env)).any (·.1) = false := by rfl) :
    PE X (.Call (.Name x p) (a :: es) [] pos) (tD X.K W (eCall g f)) := by
  obtain ⟨fa, fd, F, hm, hk, hb, _⟩ := C.ex
  exact pe_weak (pe_call F hr hg hm hk hb .nil hx ha hdb he hpl) fun σ H Q h => sp_then hn h
theorem passD {cls : Nat → Value} : Passes CX0 X (wishE cls W) := fun _ _ _ _ _ _ _ h => h.elim
theorem an_nil (ρ : PEnv) (ds : List PyData) (h : aNil ρ = .ok ds) : ds.length = 0 := by cases h; rfl
theorem an_cons {n : Nat} {f : SE} {g : SA} (hg : ∀ ρ ds, g ρ = .ok ds → ds.length = n) (ρ : PEnv) (ds : List PyData) (h : aCons f g ρ = .ok ds) : ds.length = n + 1 := by
  unfold aCons at h
  cases h1 : f ρ with
  | ok d =>
    rw [h1] at h
    cases h2 : g ρ with
    | ok es =>
      rw [h2] at h
      cases h
      exact congrArg (· + 1) (hg ρ es h2)
    | ex m => rw [h2] at h; cases h
    | bad => rw [h2] at h; cases h
  | ex m => rw [h1] at h; cases h
  | bad => rw [h1] at h; cases h
end
end DL

set_option Elab.async false
set_option linter.all false
set_option maxRecDepth 100000
set_option maxHeartbeats 2000000
namespace DL
open PySem L2 PyProof.Rows

/-! ### what is walked -/
/-- the iterator J gives the data ds -/
def Walks (K : PySem.W.Frag) (J : It) (H : Hp) (ds : List PyData) : Prop := ∀ (i : Nat) (H' : Hp), Same H H' →
  (∀ d, ds[i]? = some d → J.go i H' ∧ ∀ x H2, J.yld i H' x H2 → H2 = H' ∧ Dp K H' x d) ∧ (ds.length ≤ i → J.stop i H')
theorem Walks.mono {K : PySem.W.Frag} {J : It} {H H' : Hp} {ds : List PyData} (h : Walks K J H ds) (s : Same H H') : Walks K J H' ds := fun i H2 s2 => h i H2 (s.trans s2)
def tiD (K : PySem.W.Frag) (W : Wis) (f : SA) : TI := fun σ H R => ∃ ρ, EnvR K H σ ρ ∧ (f ρ).post (fun ds => fut H fun H' => ∀ J, Walks K J H' ds → R J H') fun n => fut H (W n)
theorem pi_weak {X : Cx} {tg iter : Expr} {t t' : TI} (h : PI X tg iter t) (w : ∀ σ H R, t' σ H R → t σ H R) : PI X tg iter t' := ⟨fun pins s σ H R I q => h.run pins s σ H R I (w σ H R q)⟩
def sList (f : SE) : SA := fun ρ => (f ρ).bind fun x => match x with
  | .list xs => .ok xs
  | _ => .bad
def sTup (f : SE) : SA := fun ρ => (f ρ).bind fun x => match x with
  | .tuple xs => .ok xs
  | _ => .bad
def sStr (f : SE) : SA := fun ρ => (f ρ).bind fun x => match x with
  | .str z => .ok (z.cps.toList.map fun c => .str ⟨#[c]⟩)
  | _ => .bad
def upTo (lo : Int) (n : Nat) : List PyData := (List.range n).map fun i => .int (lo + (i : Nat))
def sRng1 (f : SA) : SA := fun ρ => (f ρ).bind fun xs => match xs with
  | [.int j] => if -big ≤ j ∧ j ≤ big then .ok (upTo 0 j.toNat) else .bad
  | _ => .bad
def sRng2 (f : SA) : SA := fun ρ => (f ρ).bind fun xs => match xs with
  | [.int i, .int j] => if -big ≤ i ∧ i ≤ big ∧ -big ≤ j ∧ j ≤ big then .ok (upTo i (j - i).toNat) else .bad
  | _ => .bad
theorem walks_lst {K : PySem.W.Frag} {H : Hp} {a : Addr} {xs : List V} {ds : List PyData} (h : SqL K H a xs) (hd : DpAll K H xs ds) : Walks K (Itl K a) H ds := fun i H' s => by
  have h' := s.seq h
  refine ⟨fun d e => ?_, fun e => ⟨xs, h', by rw [dps_len hd]; exact e⟩⟩
  obtain ⟨v, hv, hdv⟩ := dps_get (dps_mono s _ _ hd) e
  refine ⟨⟨xs, v, h', hv⟩, fun x H2 ⟨e2, y⟩ => ⟨e2, ?_⟩⟩
  have z := y xs h'
  rw [hv] at z
  cases z
  exact hdv
theorem walks_tup {K : PySem.W.Frag} {H : Hp} {a : Addr} {xs : List V} {ds : List PyData} (h : SqT K H a xs) (hd : DpAll K H xs ds) : Walks K (Itt K a) H ds := fun i H' s => by
  have h' := sqT_same s h
  refine ⟨fun d e => ?_, fun e => ⟨xs, h', by rw [dps_len hd]; exact e⟩⟩
  obtain ⟨v, hv, hdv⟩ := dps_get (dps_mono s _ _ hd) e
  refine ⟨⟨xs, v, h', hv⟩, fun x H2 ⟨e2, y⟩ => ⟨e2, ?_⟩⟩
  have z := y xs h'
  rw [hv] at z
  cases z
  exact hdv
theorem walks_rng {K : PySem.W.Frag} {H : Hp} {lo : Int} {n : Nat} : Walks K (Itr lo n) H (upTo lo n) := fun i H' s => by
  refine ⟨fun d e => ?_, fun e => ?_⟩
  · unfold upTo at e
    rw [List.getElem?_map] at e
    cases q : (List.range n)[i]? with
    | none => rw [q] at e; cases e
    | some j =>
      rw [q] at e
      cases e
      obtain ⟨h1, h2⟩ := List.getElem?_eq_some_iff.mp q
      rw [List.getElem_range] at h2
      subst h2
      rw [List.length_range] at h1
      exact ⟨h1, fun x H2 ⟨e2, y⟩ => ⟨e2, by rw [y]; exact .int _⟩⟩
  · unfold upTo at e
    rw [List.length_map, List.length_range] at e
    exact e
theorem walks_str {K : PySem.W.Frag} {H : Hp} {z : Str} : Walks K (Its z) H (z.cps.toList.map fun c => .str ⟨#[c]⟩) := fun i H' s => by
  refine ⟨fun d e => ?_, fun e => ?_⟩
  · rw [List.getElem?_map, Array.getElem?_toList] at e
    cases q : z.cps[i]? with
    | none => rw [q] at e; cases e
    | some c =>
      rw [q] at e
      cases e
      refine ⟨(Array.getElem?_eq_some_iff.mp q).1, fun x H2 ⟨e2, c2, y, e3⟩ => ⟨e2, ?_⟩⟩
      rw [q] at y
      cases y
      rw [e3]
      exact .str _
  · rw [List.length_map, Array.length_toList] at e
    exact e
section
variable {X : Cx} {W : Wis} {a b tg : Expr} {pos : Pos}
theorem id_list {f : SE} (h : PE X a (tD X.K W f)) : PI X tg a (tiD X.K W (sList f)) := pi_weak (pi_list h) fun σ H R q => by
  obtain ⟨ρ, hE, q⟩ := q
  refine tD_mono (tD_then hE q) fun x H1 ⟨d, hx, s1, hE1, q1⟩ => ?_
  cases hx with
  | lst h1 h2 => exact ⟨_, rfl, ⟨_, h1⟩, q1.now _ (walks_lst h1 h2)⟩
  | _ => exact q1.elim
theorem id_tup {f : SE} (h : PE X a (tD X.K W f)) : PI X tg a (tiD X.K W (sTup f)) := pi_weak (pi_tup h) fun σ H R q => by
  obtain ⟨ρ, hE, q⟩ := q
  refine tD_mono (tD_then hE q) fun x H1 ⟨d, hx, s1, hE1, q1⟩ => ?_
  cases hx with
  | tup h1 h2 => exact ⟨_, rfl, ⟨_, h1⟩, q1.now _ (walks_tup h1 h2)⟩
  | _ => exact q1.elim
theorem id_str {f : SE} (h : PE X a (tD X.K W f)) : PI X tg a (tiD X.K W (sStr f)) := pi_weak (pi_str h) fun σ H R q => by
  obtain ⟨ρ, hE, q⟩ := q
  refine tD_mono (tD_then hE q) fun x H1 ⟨d, hx, s1, hE1, q1⟩ => ?_
  cases hx with
  | str z => exact ⟨_, rfl, q1.now _ walks_str⟩
  | _ => exact q1.elim
theorem id_rng1 {f : SA} {p : Pos} (hm : X.mg "range" = none) (ha : PA X [a] (taD X.K W f)) (hg : Gl X "range" := by rfl) (hs : starEach [a] X.env = [(false, eval a X.env)] := by rfl) : PI X tg (.Call (.Name "range" p) [a] [] pos) (tiD X.K W (sRng1 f)) :=
  pi_weak (pi_range1 hg hm ha hs) fun σ H R q => by
  obtain ⟨ρ, hE, q⟩ := q
  refine taD_mono (taD_then hE q) fun x H1 ⟨d, hx, s1, hE1, q1⟩ => ?_
  split at q1
  · split at q1
    · rename_i j hj
      cases hx with
      | cons h1 h2 =>
        cases h1; cases h2
        simp only [big] at hj
        exact ⟨j, rfl, by omega, by omega, q1.now _ walks_rng⟩
    · exact q1.elim
  · exact q1.elim
theorem id_rng2 {f : SA} {p : Pos} (hm : X.mg "range" = none) (ha : PA X [a, b] (taD X.K W f)) (hg : Gl X "range" := by rfl) (hs : starEach [a, b] X.env = [(false, eval a X.env), (false, eval b X.env)] := by rfl) (hs2 : starEach [b] X.env = [(false, eval b X.env)] := by rfl) :
    PI X tg (.Call (.Name "range" p) [a, b] [] pos) (tiD X.K W (sRng2 f)) := pi_weak (pi_range2 hg hm ha hs hs2) fun σ H R q => by
  obtain ⟨ρ, hE, q⟩ := q
  refine taD_mono (taD_then hE q) fun x H1 ⟨d, hx, s1, hE1, q1⟩ => ?_
  split at q1
  · split at q1
    · rename_i i j hj
      cases hx with
      | cons h1 h2 =>
        cases h1
        cases h2 with
        | cons h1 h2 =>
        cases h1; cases h2
        simp only [big] at hj
        exact ⟨i, j, rfl, by omega, q1.now _ walks_rng⟩
    · exact q1.elim
  · exact q1.elim

/-! ### comprehensions -/
def Res.calm {α : Type} : Res α → Res α
  | .ok a => .ok a
  | _ => .bad
theorem Res.post_calm {α : Type} {r : Res α} {p : α → Prop} {e g : Nat → Prop} (h : (Res.calm r).post p e) : r.post p g := by
  cases r with
  | ok a => exact h
  | ex n => exact h.elim
  | bad => exact h.elim
def lcGo (env : PyData → PEnv) (t : ST) (f : SE) : List PyData → Res (List PyData)
  | [] => .ok []
  | d :: ds => (Res.calm (t (env d))).bind fun b => if b then (Res.calm (f (env d))).bind fun y => if frz y then (lcGo env t f ds).bind fun ys => .ok (y :: ys) else .bad else lcGo env t f ds
def eLc (i : Nat) (src : SA) (t : ST) (f : SE) : SE := fun ρ => (src ρ).bind fun xs => if xs.length ≤ big then (Res.calm (lcGo (fun d => (ρ.set i none).set i (some d)) t f xs)).bind fun ys => .ok (.list ys) else .bad
def tTrue : ST := fun _ => .ok true
theorem wipe_one {σ : L2.St} {i : Nat} {x : Option V} : wipe ((wipe σ [i]).set i x) [i] = wipe σ [i] := by
  simp [wipe]
theorem lcGo_le {env : PyData → PEnv} {t : ST} {f : SE} : ∀ {xs ys : List PyData}, lcGo env t f xs = .ok ys → ys.length ≤ xs.length
  | [], ys, h => by cases h; exact Nat.le_refl _
  | d :: ds, ys, h => by
    unfold lcGo at h
    cases h1 : Res.calm (t (env d)) with
    | ex n => rw [h1] at h; cases h
    | bad => rw [h1] at h; cases h
    | ok b =>
      rw [h1] at h
      cases b with
      | false => exact Nat.le_succ_of_le (lcGo_le h)
      | true =>
        simp only [Res.ok_bind, if_true] at h
        cases h2 : Res.calm (f (env d)) with
        | ex n => rw [h2] at h; cases h
        | bad => rw [h2] at h; cases h
        | ok y =>
          rw [h2] at h
          simp only [Res.ok_bind] at h
          split at h
          · cases h3 : lcGo env t f ds with
            | ex n => rw [h3] at h; cases h
            | bad => rw [h3] at h; cases h
            | ok zs =>
              rw [h3] at h
              cases h
              exact Nat.succ_le_succ (lcGo_le h3)
          · cases h
theorem lc_then {K : PySem.W.Frag} {i : Nat} {src : SA} {t : ST} {f : SE} {σ : L2.St} {H : Hp} {Q : VK} (q : tD K W (eLc i src t f) σ H Q) :
    tLc (tiD K W src) (gName i) (ttD K (fun _ _ => False) t) (tD K (fun _ _ => False) f) [i] σ H Q := by
  obtain ⟨ρ, hE, q⟩ := q
  unfold eLc at q
  refine ⟨ρ, hE, (Res.post_bind.mp q).mono (fun xs r H1 s1 J hJ D hD => ?_) fun n r => r⟩
  split at r
  · rename_i hz
    generalize hg : Res.calm (lcGo (fun d => (ρ.set i none).set i (some d)) t f xs) = g at r
    cases g with
    | bad => exact r.elim
    | ex n => cases hq : lcGo (fun d => (ρ.set i none).set i (some d)) t f xs <;> rw [hq] at hg <;> cases hg
    | ok tot =>
      have hg2 : lcGo (fun d => (ρ.set i none).set i (some d)) t f xs = .ok tot := by
        cases hq : lcGo (fun d => (ρ.set i none).set i (some d)) t f xs <;> rw [hq] at hg <;> cases hg
        rfl
      have htot := lcGo_le hg2
      refine ⟨fun k m H' => m = xs.length - k ∧ k ≤ xs.length ∧ Same H1 H' ∧ ∃ acc ys zs, H' D = some (.lst acc) ∧ DpAll K H' acc ys ∧ frzs ys = true ∧ lcGo (fun d => (ρ.set i none).set i (some d)) t f (xs.drop k) = .ok zs ∧ tot = ys ++ zs,
        ⟨xs.length, by simp, Nat.zero_le _, same_new hD _, [], [], tot, upd_same, .nil, rfl, by rw [List.drop_zero]; exact hg2, rfl⟩, ?_⟩
      rintro k m H' ⟨rfl, hk, s, acc, ys, zs, hacc, hys, hfr, hgo, htz⟩
      obtain ⟨w1, w2⟩ := hJ k H' s
      by_cases hlt : k < xs.length
      · have hx : xs[k]? = some xs[k] := List.getElem?_eq_getElem hlt
        obtain ⟨go, yl⟩ := w1 _ hx
        refine .inr ⟨go, fun H2 => Same H1 H2 ∧ ∃ acc ys zs, H2 D = some (.lst acc) ∧ DpAll K H2 acc ys ∧ frzs ys = true ∧ lcGo (fun d => (ρ.set i none).set i (some d)) t f (xs.drop (k + 1)) = .ok zs ∧ tot = ys ++ zs, fun H2 h2 => ⟨xs.length - (k + 1), by omega, rfl, hlt, h2⟩, fun x H2 y => ?_⟩
        obtain ⟨e2, hdx⟩ := yl x H2 y
        subst e2
        rw [List.drop_eq_getElem_cons hlt] at hgo
        unfold lcGo at hgo
        refine ⟨wipe_one, ?_⟩
        have hE2 : EnvR K H2 ((wipe σ [i]).set i (some x)) ((ρ.set i none).set i (some xs[k])) := by
          refine EnvR.set ?_ hdx
          exact (hE.mono (s1.trans s)).forget
        cases ht : t ((ρ.set i none).set i (some xs[k])) with
        | bad => rw [ht] at hgo; cases hgo
        | ex n => rw [ht] at hgo; cases hgo
        | ok b =>
          rw [ht] at hgo
          refine ⟨_, hE2, ?_⟩
          rw [ht]
          intro H3 s3
          cases b with
          | false =>
            exact iteF ⟨s.trans s3, acc, ys, zs, s3 _ _ hacc, dps_mono s3 _ _ hys, hfr, hgo, htz⟩
          | true =>
            refine iteT ?_
            simp only [Res.calm, Res.ok_bind, if_true] at hgo
            cases hf : f ((ρ.set i none).set i (some xs[k])) with
            | bad => rw [hf] at hgo; cases hgo
            | ex n => rw [hf] at hgo; cases hgo
            | ok y =>
              rw [hf] at hgo
              simp only [Res.calm, Res.ok_bind] at hgo
              split at hgo
              · rename_i hy
                refine ⟨_, hE2.mono s3, ?_⟩
                rw [hf]
                intro H4 s4 v hv
                cases hr : lcGo (fun d => (ρ.set i none).set i (some d)) t f (xs.drop (k + 1)) with
                | bad => rw [hr] at hgo; cases hgo
                | ex n => rw [hr] at hgo; cases hgo
                | ok zs' =>
                  rw [hr] at hgo
                  cases hgo
                  have hacc4 := s4 _ _ (s3 _ _ hacc)
                  have hla := dps_len hys
                  have hz2 := big_line
                  have h5 : acc.length < sizeLine := by
                    have h6 : tot.length = ys.length + (zs'.length + 1) := by rw [htz, List.length_append, List.length_cons]
                    omega
                  refine ⟨acc, hacc4, h5, fun b o q => ?_, acc ++ [v], ys ++ [y], zs', upd_same, dps_append (frzs_mono (sqT_lst hacc4) _ _ hfr (dps_mono (s3.trans s4) _ _ hys)) (.cons (frz_mono (sqT_lst hacc4) _ _ hy hv) .nil), ?_, rfl, by rw [htz, List.append_assoc]; rfl⟩
                  · rw [upd_ne (ne_of_none q hD)]
                    exact s4 _ _ (s3 _ _ (s _ _ q))
                  · have hfa : ∀ (as bs : List PyData), frzs (as ++ bs) = (frzs as && frzs bs) := by
                      intro as bs
                      induction as with
                      | nil => simp [frzs]
                      | cons a as ih => simp [frzs, ih, Bool.and_assoc]
                    rw [hfa, hfr]
                    simp [frzs, hy]
              · cases hgo
      · have e : k = xs.length := by omega
        subst e
        rw [List.drop_length] at hgo
        cases hgo
        refine .inl ⟨w2 (Nat.le_refl _), ?_⟩
        rw [List.append_nil] at htz
        subst htz
        exact r _ (s1.trans s) _ (.lst (SqL.of hacc) hys)
  · exact r.elim
theorem ed_lc {elt iter : Expr} {ifs : List Expr} {scope : Scope} {x : Str} {i : Nat} {src : SA} {t : ST} {f : SE} (hc : X.calm = true) (hN : X.N.Nodup) (hi : PI X tg iter (tiD X.K W src)) (ok : BlkOk X.N X.env.scope scope [(x, i)])
    (hg : ∀ (s : Shared) (H : Hp) (C : Addr) (cl : List (Str × Addr)) (fp : List Addr), PG (X.blk s H scope (compEnvC scope cl C X.env) fp) tg (gName i)) (ht : ∀ (s : Shared) (H : Hp) (C : Addr) (cl : List (Str × Addr)) (fp : List Addr), PTs (X.blk s H scope (compEnvC scope cl C X.env) fp) ifs (ttD X.K (fun _ _ => False) t))
    (he : ∀ (s : Shared) (H : Hp) (C : Addr) (cl : List (Str × Addr)) (fp : List Addr), PE (X.blk s H scope (compEnvC scope cl C X.env) fp) elt (tD X.K (fun _ _ => False) f)) (hs : ∀ x, foldedSetIterable iter X.env x = pure x := by intro _; rfl) :
    PE X (.ListComp elt [⟨tg, iter, ifs, 0⟩] scope pos) (tD X.K W (eLc i src t f)) :=
  pe_weak (pe_lc hc hN hi ok hg ht he hs) fun σ H Q q => lc_then q
theorem tds_nil : PTs X [] (ttD X.K W tTrue) := ⟨fun pins s σ H Q I h => pts_nil.run pins s σ H Q I (by
  obtain ⟨ρ, hE, q⟩ := h
  exact q.now)⟩
theorem tds_one {t : ST} (h : PT X a (ttD X.K W t)) : PTs X [a] (ttD X.K W t) := pts_one h
end
end DL

set_option Elab.async false
set_option linter.all false
set_option maxRecDepth 100000
set_option maxHeartbeats 2000000
namespace DL
open PySem L2 PyProof.Rows

/-! ### statements -/
def sNext : SS := fun ρ => .ok (.nx ρ)
def sSeq (F G : SS) : SS := fun ρ => (F ρ).bind fun o => match o with
  | .nx ρ' => G ρ'
  | .rt d => .ok (.rt d)
  | .bk ρ' => .ok (.bk ρ')
  | .ct ρ' => .ok (.ct ρ')
def sSet (i : Nat) (f : SE) : SS := fun ρ => (f ρ).bind fun d => .ok (.nx (ρ.set i (some d)))
def sDrop (f : SE) : SS := fun ρ => (f ρ).bind fun _ => .ok (.nx ρ)
def sRet (f : SE) : SS := fun ρ => (f ρ).bind fun d => .ok (.rt d)
def sRetN : SS := fun _ => .ok (.rt .none)
def sIf (t : ST) (F G : SS) : SS := fun ρ => (t ρ).bind fun b => if b then F ρ else G ρ
def sBreak : SS := fun ρ => .ok (.bk ρ)
def sCont : SS := fun ρ => .ok (.ct ρ)
/-- what a target does with a value -/
abbrev SG := PyData → PEnv → Option PEnv
abbrev SGs := List PyData → PEnv → Option PEnv
def gN (i : Nat) : SG := fun d ρ => some (ρ.set i (some d))
def gsNil : SGs := fun ds ρ => match ds with
  | [] => some ρ
  | _ => none
def gsCons (g : SG) (gs : SGs) : SGs := fun ds ρ => match ds with
  | d :: r => (g d ρ).bind fun ρ' => gs r ρ'
  | [] => none
def gT (n : Nat) (gs : SGs) : SG := fun d ρ => match d with
  | .tuple ds => if ds.length = n then gs ds ρ else none
  | _ => none
def sAsg (f : SE) (g : SG) : SS := fun ρ => (f ρ).bind fun d => (Res.of (g d ρ)).bind fun ρ' => .ok (.nx ρ')
def forGo (g : SG) (F : SS) : List PyData → PEnv → Res Out
  | [], ρ => .ok (.nx ρ)
  | d :: ds, ρ => (Res.of (g d ρ)).bind fun ρ1 => (F ρ1).bind fun o => match o with
    | .nx ρ' => forGo g F ds ρ'
    | .ct ρ' => forGo g F ds ρ'
    | .bk ρ' => .ok (.nx ρ')
    | .rt d => .ok (.rt d)
def sFor (src : SA) (g : SG) (F : SS) : SS := fun ρ => (src ρ).bind fun ds => forGo g F ds ρ
def whGo (t : ST) (F : SS) : Nat → PEnv → Res Out
  | 0, _ => .bad
  | n + 1, ρ => (t ρ).bind fun b => if b then (F ρ).bind fun o => match o with
      | .nx ρ' => whGo t F n ρ'
      | .ct ρ' => whGo t F n ρ'
      | .bk ρ' => .ok (.nx ρ')
      | .rt d => .ok (.rt d)
    else .ok (.nx ρ)
def sWh (n : Nat) (t : ST) (F : SS) : SS := whGo t F n
/-- reading of a target -/
def tgD (K : PySem.W.Frag) (g : SG) : TG := fun v σ H Q => ∃ d ρ, Dp K H v d ∧ EnvR K H σ ρ ∧ ∃ ρ', g d ρ = some ρ' ∧ ∀ σ', EnvR K H σ' ρ' → Q σ' H
def tgsD (K : PySem.W.Frag) (g : SGs) : TGs := fun vs σ H Q => ∃ ds ρ, DpAll K H vs ds ∧ EnvR K H σ ρ ∧ ∃ ρ', g ds ρ = some ρ' ∧ ∀ σ', EnvR K H σ' ρ' → Q σ' H
section
variable {X : Cx} {W : Wis} {a b tg : Expr} {pos : Pos} {st : Stmt} {rest : List Stmt} {F G : SS}
theorem pg_weak {t t' : TG} (h : PG X tg t) (w : ∀ v σ H Q, t' v σ H Q → t v σ H Q) : PG X tg t' := ⟨fun pins s σ H v u Q I r q => h.run pins s σ H v u Q I r (w v σ H Q q)⟩
theorem pgs_weak {ts : List Expr} {t t' : TGs} (h : PGs X ts t) (w : ∀ v σ H Q, t' v σ H Q → t v σ H Q) : PGs X ts t' := ⟨fun pins s σ H v u Q I r q => h.run pins s σ H v u Q I r (w v σ H Q q)⟩
theorem gd_name {i : Nat} {x : Str} (hN : X.N.Nodup) (hi : X.N[i]? = some x := by rfl) (hx : Loc X.env.scope x := by first | exact Or.inl rfl | exact Or.inr rfl) (hf : X.fn x = true ∨ X.env.scope.names.lookup x = some .local := by first | exact .inl rfl | exact .inr rfl | assumption) : PG X (.Name x pos) (tgD X.K (gN i)) :=
  pg_weak (pg_name hN hi hx hf) fun v σ H Q ⟨d, ρ, hv, hE, ρ', e, q⟩ => by
    cases e
    exact q _ (hE.set hv)
theorem gds_nil : PGs X [] (tgsD X.K gsNil) := pgs_weak pgs_nil fun v σ H Q ⟨ds, ρ, hv, hE, ρ', e, q⟩ => by
  cases hv with
  | nil => cases e; exact ⟨rfl, q _ hE⟩
  | cons _ _ => cases e
theorem gds_cons {e : Expr} {es : List Expr} {g : SG} {gs : SGs} (h1 : PG X e (tgD X.K g)) (h2 : PGs X es (tgsD X.K gs))
    (hs : (assignEach (e :: es) X.env).map (·.2) = assign e X.env :: (assignEach es X.env).map (·.2) := by rfl) : PGs X (e :: es) (tgsD X.K (gsCons g gs)) := pgs_weak (pgs_cons h1 h2 hs) fun v σ H Q ⟨ds, ρ, hv, hE, ρ', e, q⟩ => by
  cases hv with
  | nil => cases e
  | @cons v1 vs1 d1 ds1 h3 h4 =>
    simp only [gsCons, Option.bind_eq_some_iff] at e
    obtain ⟨ρ1, h5, e⟩ := e
    exact ⟨_, _, rfl, d1, ρ, h3, hE, ρ1, h5, fun σ1 hE1 => ⟨ds1, ρ1, h4, hE1, ρ', e, q⟩⟩
theorem gd_tup {es : List Expr} {k n : Nat} {gs : SGs} (hc : X.calm = true) (h : PGs X es (tgsD X.K gs)) (hn : (assignEach es X.env).length = n := by rfl) (hst : (assignEach es X.env).findIdx? (·.1) = none := by rfl) : PG X (.Tuple es k pos) (tgD X.K (gT n gs)) :=
  pg_weak (pg_tup hc h hn hst) fun v σ H Q ⟨d, ρ, hv, hE, ρ', e, q⟩ => by
    cases hv with
    | tup h1 h2 =>
      simp only [gT] at e
      split at e
      · rename_i hz
        exact ⟨_, _, rfl, h1, by rw [dps_len h2]; exact hz, _, ρ, h2, hE, ρ', e, q⟩
      · cases e
    | _ => cases e
theorem pssd_nil : PSs X [] (tsD X.K W sNext) := pss_weak pss_nil fun D σ H ⟨ρ, hE, q⟩ => q.now σ hE
theorem outP_seq {K : PySem.W.Frag} {D : Ends} {σ : L2.St} {H : Hp} {r : Res Out} (h : (r.bind fun o => match o with
    | .nx ρ' => G ρ'
    | .rt d => .ok (.rt d)
    | .bk ρ' => .ok (.bk ρ')
    | .ct ρ' => .ok (.ct ρ')).post (fun o => fut H (outP K D o)) fun n => fut H (W n)) :
    r.post (fun o => fut H (outP K { D with nx := tsD K W G D } o)) fun n => fut H (W n) :=
  (Res.post_bind.mp h).mono (fun o r => by
    cases o with
    | nx ρ' => exact fun H' s σ' hE => ⟨ρ', hE, r.mono (fun b q => q.on s) fun n q => q.on s⟩
    | rt d => exact r
    | bk ρ' => exact r
    | ct ρ' => exact r) fun n r => r
theorem pssd_cons (h1 : PS X st (tsD X.K W F)) (h2 : PSs X rest (tsD X.K W G)) : PSs X (st :: rest) (tsD X.K W (sSeq F G)) := pss_weak (pss_cons h1 h2) fun D σ H ⟨ρ, hE, q⟩ => ⟨ρ, hE, outP_seq (σ := σ) q⟩
theorem pssd_one (h1 : PS X st (tsD X.K W F)) : PSs X [st] (tsD X.K W F) := pss_one h1
theorem psd_ret {f : SE} (he : PE X a (tD X.K W f)) : PS X (.Return (some a) pos) (tsD X.K W (sRet f)) := ps_weak (ps_ret he) fun D σ H ⟨ρ, hE, q⟩ => tD_mono (tD_then hE q) fun x H1 ⟨d, hx, s1, hE1, q1⟩ => q1.now _ hx
theorem psd_retN : PS X (.Return none pos) (tsD X.K W sRetN) := ps_weak ps_retN fun D σ H ⟨ρ, hE, q⟩ => q.now _ .non
theorem psd_break : PS X (.Break pos) (tsD X.K W sBreak) := ps_weak ps_break fun D σ H ⟨ρ, hE, q⟩ => q.now σ hE
theorem psd_cont : PS X (.Continue pos) (tsD X.K W sCont) := ps_weak ps_continue fun D σ H ⟨ρ, hE, q⟩ => q.now σ hE
theorem psd_pass : PS X (.Pass pos) (tsD X.K W sNext) := ps_weak ps_pass fun D σ H ⟨ρ, hE, q⟩ => q.now σ hE
theorem psd_expr {f : SE} (he : PE X a (tD X.K W f)) (hs : swapsWith a none pos.line X.env = pure false := by rfl) : PS X (.Expr a pos) (tsD X.K W (sDrop f)) := ps_weak (ps_expr he hs) fun D σ H ⟨ρ, hE, q⟩ => tD_mono (tD_then hE q) fun x H1 ⟨d, hx, s1, hE1, q1⟩ => q1.now _ hE1
theorem psd_set {i : Nat} {x : Str} {f : SE} {pos' : Pos} (hN : X.N.Nodup) (he : PE X a (tD X.K W f)) (hi : X.N[i]? = some x := by rfl) (hx : Loc X.env.scope x := by first | exact Or.inl rfl | exact Or.inr rfl) (hs : swapsWith a (some (.Name x pos')) pos.line X.env = pure false := by rfl)
    (hf : X.fn x = true ∨ X.env.scope.names.lookup x = some .local := by first | exact .inl rfl | exact .inr rfl | assumption) : PS X (.Assign [.Name x pos'] a pos) (tsD X.K W (sSet i f)) :=
  ps_weak (ps_set hN hi hx he hs hf) fun D σ H ⟨ρ, hE, q⟩ => tD_mono (tD_then hE q) fun x H1 ⟨d, hx, s1, hE1, q1⟩ => q1.now _ (hE1.set hx)
theorem psd_setLc {i j : Nat} {y x : Str} {py : Pos} {elt iter : Expr} {ifs : List Expr} {scope : Scope} {pos spos : Pos} {src : SA} {t : ST} {f : SE} (hc : X.calm = true) (hN : X.N.Nodup) (hi : PI X tg iter (tiD X.K W src)) (ok : BlkOk X.N X.env.scope scope [(x, j)])
    (hg : ∀ (s : Shared) (H : Hp) (C : Addr) (cl : List (Str × Addr)) (fp : List Addr), PG (X.blk s H scope (compEnvC scope cl C X.env) fp) tg (gName j)) (ht : ∀ (s : Shared) (H : Hp) (C : Addr) (cl : List (Str × Addr)) (fp : List Addr), PTs (X.blk s H scope (compEnvC scope cl C X.env) fp) ifs (ttD X.K (fun _ _ => False) t))
    (he : ∀ (s : Shared) (H : Hp) (C : Addr) (cl : List (Str × Addr)) (fp : List Addr), PE (X.blk s H scope (compEnvC scope cl C X.env) fp) elt (tD X.K (fun _ _ => False) f))
    (hsw : swapsWith (.ListComp elt [⟨tg, iter, ifs, 0⟩] scope pos) (some (.Name y py)) spos.line X.env = pure true := by exact sw_true rfl rfl rfl (by decide +kernel))
    (hy : X.N[i]? = some y := by rfl) (hyl : X.env.scope.names.lookup y = some .local := by rfl) (hs : ∀ x, foldedSetIterable iter X.env x = pure x := by intro _; rfl) :
    PS X (.Assign [.Name y py] (.ListComp elt [⟨tg, iter, ifs, 0⟩] scope pos) spos) (tsD X.K W (sSet i (eLc j src t f))) :=
  ps_weak (ps_setLc hc hN hy hyl hsw hi ok hg ht he hs) fun D σ H ⟨ρ, hE, q⟩ => lc_then (tD_mono (tD_then hE q) fun x H1 ⟨d, hx, s1, hE1, q1⟩ => q1.now _ (hE1.set hx))
theorem psd_asg {f : SE} {g : SG} (he : PE X a (tD X.K W f)) (hg : PG X tg (tgD X.K g)) (hs : swapsWithSole [tg] a pos.line X.env = pure false := by rfl) (hw : swappedStores [tg] a X.env = pure none := by rfl)
    (h1 : (assignEach [tg] X.env).map (·.2) = [assign tg X.env] := by rfl) : PS X (.Assign [tg] a pos) (tsD X.K W (sAsg f g)) :=
  ps_weak (ps_asg he hg hs hw h1) fun D σ H ⟨ρ, hE, q⟩ => tD_mono (tD_then hE q) fun x H1 ⟨d, hx, s1, hE1, q1⟩ => by
    obtain ⟨ρ', h2, q2⟩ := Res.post_of (Res.post_bind.mp q1)
    exact ⟨d, ρ, hx, hE1, ρ', h2, fun σ' hE' => q2.now _ hE'⟩
theorem psd_if {t : ST} {c : Expr} {a b : List Stmt} (hc : PT X c (ttD X.K W t)) (ha : PSs X a (tsD X.K W F)) (hb : PSs X b (tsD X.K W G)) : PS X (.If c a b pos) (tsD X.K W (sIf t F G)) :=
  ps_weak (ps_if hc ha hb) fun D σ H ⟨ρ, hE, q⟩ => ttD_mono (ttD_then hE q) fun k H1 ⟨s1, hE1, q1⟩ => by
    cases k with
    | true => exact iteT ⟨ρ, hE1, q1⟩
    | false => exact iteF ⟨ρ, hE1, q1⟩
theorem psd_for {iter : Expr} {body : List Stmt} {src : SA} {g : SG} (hp : PassesOwn (model X.prog X.w) X.A X.env X.xe) (hc : X.calm = true) (hi : PI X tg iter (tiD X.K W src)) (hg : PG X tg (tgD X.K g)) (hb : PSs X body (tsD X.K W F))
    (hs : ∀ x, foldedSetIterable iter X.env x = pure x := by intro _; rfl) : PS X (.For tg iter body [] pos) (tsD X.K W (sFor src g F)) := by
  refine ps_weak (ps_for hp hc hi hg hb hs) fun D σ H ⟨ρ, hE, q⟩ => ?_
  refine ⟨ρ, hE, (Res.post_bind.mp q).mono (fun ds r H1 s1 J hJ => ?_) fun n r => r⟩
  refine ⟨fun k m σ' H' => m = ds.length - k ∧ k ≤ ds.length ∧ Same H H' ∧ Same H1 H' ∧ ∃ ρ', EnvR X.K H' σ' ρ' ∧ (forGo g F (ds.drop k) ρ').post (fun o => fut H' (outP X.K D o)) fun n => fut H' (W n),
    ⟨ds.length, by simp, Nat.zero_le _, s1, Same.refl _, ρ, hE.mono s1, by rw [List.drop_zero]; exact r.mono (fun o r => r.on s1) fun n r => r.on s1⟩, ?_⟩
  rintro k m σ' H' ⟨rfl, hk, s, s', ρ', hE', r'⟩
  obtain ⟨w1, w2⟩ := hJ k H' s'
  by_cases hlt : k < ds.length
  · have hx : ds[k]? = some ds[k] := List.getElem?_eq_getElem hlt
    obtain ⟨go, yl⟩ := w1 _ hx
    refine .inr ⟨go, fun σ2 H2 => Same H H2 ∧ Same H1 H2 ∧ ∃ ρ', EnvR X.K H2 σ2 ρ' ∧ (forGo g F (ds.drop (k + 1)) ρ').post (fun o => fut H2 (outP X.K D o)) fun n => fut H2 (W n), fun σ2 H2 ⟨a1, a2, a3⟩ => ⟨ds.length - (k + 1), by omega, rfl, hlt, a1, a2, a3⟩, fun x H2 y => ?_⟩
    obtain ⟨e2, hdx⟩ := yl x H2 y
    subst e2
    rw [List.drop_eq_getElem_cons hlt] at r'
    obtain ⟨ρ1, h1, r1⟩ := Res.post_of (Res.post_bind.mp r')
    refine ⟨ds[k], ρ', hdx, hE', ρ1, h1, fun σ2 hE2 => ⟨ρ1, hE2, (Res.post_bind.mp r1).mono (fun o ro H3 s3 => ?_) fun n r => r⟩⟩
    cases o with
    | nx ρ2 => exact fun σ3 hE3 => ⟨s.trans s3, s'.trans s3, ρ2, hE3, ro.mono (fun o q => q.on s3) fun n q => q.on s3⟩
    | ct ρ2 => exact fun σ3 hE3 => ⟨s.trans s3, s'.trans s3, ρ2, hE3, ro.mono (fun o q => q.on s3) fun n q => q.on s3⟩
    | bk ρ2 => exact ro _ s3
    | rt d => exact ro _ s3
  · have e : k = ds.length := by omega
    subst e
    rw [List.drop_length] at r'
    exact .inl ⟨w2 (Nat.le_refl _), r'.now σ' hE'⟩
theorem psd_while {c : Expr} {body : List Stmt} {t : ST} (n : Nat) (hp : PassesOwn (model X.prog X.w) X.A X.env X.xe) (hc : PT X c (ttD X.K W t)) (hb : PSs X body (tsD X.K W F)) : PS X (.While c body [] pos) (tsD X.K W (sWh n t F)) := by
  refine ps_weak (ps_while hp hc hb) fun D σ H ⟨ρ, hE, q⟩ => ?_
  refine ⟨fun m σ' H' => ∃ ρ', EnvR X.K H' σ' ρ' ∧ (whGo t F m ρ').post (fun o => fut H' (outP X.K D o)) fun n => fut H' (W n), ⟨n, ρ, hE, q⟩, ?_⟩
  rintro m σ' H' ⟨ρ', hE', r⟩
  cases m with
  | zero => exact r.elim
  | succ m =>
    refine ttD_mono (ttD_then hE' r) fun k H1 ⟨s1, hE1, r1⟩ => ?_
    cases k with
    | false => exact iteF (r1.now σ' hE1)
    | true =>
      refine iteT ⟨fun σ2 H2 => ∃ ρ', EnvR X.K H2 σ2 ρ' ∧ (whGo t F m ρ').post (fun o => fut H2 (outP X.K D o)) fun n => fut H2 (W n), fun σ2 H2 h2 => ⟨m, Nat.lt_succ_self _, h2⟩, ρ', hE1, (Res.post_bind.mp r1).mono (fun o ro H3 s3 => ?_) fun n r => r⟩
      cases o with
      | nx ρ2 => exact fun σ3 hE3 => ⟨ρ2, hE3, ro.mono (fun o q => q.on s3) fun n q => q.on s3⟩
      | ct ρ2 => exact fun σ3 hE3 => ⟨ρ2, hE3, ro.mono (fun o q => q.on s3) fun n q => q.on s3⟩
      | bk ρ2 => exact ro _ s3
      | rt d => exact ro _ s3
end

/-! ### defs -/
def bodyD (n : Nat) (F : SS) (ds : List PyData) : Res PyData := (F (startD n ds)).bind fun o => match o with
  | .nx _ => .ok .none
  | .rt d => .ok d
  | _ => .bad
section
variable {P : Program} {w : World} {K : PySem.W.Frag} {mg : Str → Option Value} {base : Heap}
theorem body_then {cls : Nat → Value} {N : List Str} {n : Nat} {F : SS} {vs : List V} {H : Hp} {Q : VK} {E : XK} (h : spD K cls n (bodyD N.length F) vs H Q E) :
    tsD K (fun m H' => E (cls m) none H') F { nx := fun _ H' => Q .non H', rt := Q } (start N vs) H := by
  obtain ⟨_, ds, hd, q⟩ := h
  refine ⟨startD N.length ds, envR_start hd, (Res.post_bind.mp q).mono (fun o r H1 s1 => ?_) fun n r => r⟩
  cases o with
  | nx ρ' => exact fun σ' hE => r _ s1 _ .non
  | rt d => exact fun v hv => r _ s1 _ hv
  | bk ρ' => exact r.elim
  | ct ρ' => exact r.elim
/-- a def that nothing leaves by a raise -/
theorem callee_of {cls : Nat → Value} {x qual : Str} {st : Stmt} {f : Addr} {fd : FuncData} {N ps : List Str} {k : Nat} {F : SS} (D : L2.Fun K x qual st f fd) (S : FnScope N ps (defScope st)) (hm : mg x = some (.ref f)) (hb : Binds K fd ps [])
    (body : ∀ (cdv : Value) (A : Around) (outer : List Env) (s : Shared) (H : Hp) (E : XK) (W : Wis), Room k (A.deeper (envOfC qual (defScope st) s.heap.objs.size f cdv)) →
      PSs (cxOf CX0 P w K mg base N qual (defScope st) f cdv A outer s H E).nox (defBody st) (tsD K W F)) : Callee P w K mg base CX0 cls x (k + 1) ps (bodyD N.length F) := by
  refine ⟨f, fd, D.ok S (fun vs H Q E h => h.1) (fun cdv A outer s H vs Q E hr h => ⟨_, body cdv A outer s H E _ hr, body_then h⟩), hm, D.kp, hb, ?_⟩
  obtain ⟨oc, od, kV, doc, pm, an, cdv, ct, osl, rfl, lk, hcd⟩ := D.ex
  exact ⟨oc, od, osl, lk⟩
theorem Callee.mono {CX : CXT} {cls : Nat → Value} {x : Str} {j k : Nat} {ps : List Str} {g : List PyData → Res PyData} (C : Callee P w K mg base CX cls x j ps g) (h : j ≤ k) : Callee P w K mg base CX cls x k ps g := by
  obtain ⟨f, fd, F, r⟩ := C.ex
  exact ⟨f, fd, F.mono h, r⟩
/-- told by another function that agrees where it answers -/
theorem Callee.imp {CX : CXT} {cls : Nat → Value} {x : Str} {k : Nat} {ps : List Str} {g g' : List PyData → Res PyData} (C : Callee P w K mg base CX cls x k ps g) (h : ∀ ds, ds.length = ps.length → g' ds ≠ .bad → g ds = g' ds) : Callee P w K mg base CX cls x k ps g' := by
  obtain ⟨f, fd, F, r⟩ := C.ex
  refine ⟨f, fd, F.imp fun vs H Q E ⟨hl, ds, hd, q⟩ => ⟨hl, ds, hd, ?_⟩, r⟩
  rw [h ds ((dps_len hd).symm.trans hl) fun e => by rw [e] at q; exact q]
  exact q
end
end DL

set_option Elab.async false
set_option linter.all false
set_option maxRecDepth 100000
set_option maxHeartbeats 2000000
namespace DL
open PySem L2 PyProof.Rows

theorem units65 {k : Nat} {A : Around} (hr : Room k A) : A.units + 65 < cLine := by
  have := hr.un
  omega
def negD : PyData → Option PyData
  | .int i => some (.int (-i))
  | _ => none
/-- {'a': 'b', ..}[x], the texts written -/
def menuD (kvs : List (Key × V)) : PyData → Option PyData
  | .str x => (valV (mergeK [] kvs) (.inr x)).bind scaD
  | _ => none
def eMenu (kvs : List (Key × V)) (f : SE) : SE := fun ρ => (f ρ).bind fun x => Res.of (menuD kvs x)
section
variable {X : Cx} {W : Wis} {a b : Expr} {pos : Pos}
theorem ed_neg {f : SE} (h : PE X a (tD X.K W f)) : PE X (.UnaryOp .USub a pos) (tD X.K W (eUn negD f)) := pe_weak (pe_un un_neg h) fun σ H Q q => by
  obtain ⟨ρ, hE, q⟩ := q
  refine tD_mono (tD_then hE q) fun x H1 ⟨d, hx, s1, hE1, q1⟩ => ?_
  obtain ⟨r, hr, q2⟩ := Res.post_of q1
  cases hx <;> simp only [negD, reduceCtorEq, Option.some.injEq] at hr
  subst hr
  exact ⟨_, rfl, q2.now _ (.int _)⟩
/-- the pairs of a display of written texts -/
theorem pairs_then {kvs : List (Key × V)} : ∀ {σ : L2.St} {H : Hp} {Q : List (V × V) → Hp → Prop}, Q (kvs.map fun p => (kV p.1, p.2)) H → tPairs (kvs.map fun p => (tC (kV p.1), tC p.2)) σ H Q := by
  induction kvs with
  | nil => intro σ H Q h; exact h
  | cons p r ih => intro σ H Q h; exact ih h
theorem ed_menu {keys : List (Option Expr)} {vals : List Expr} {p2 : Pos} {f : SE} (kvs : List (Key × V)) (hu : X.A.units + 1 < cLine) (hp : PPs X p2 keys vals (kvs.map fun p => (tC (kV p.1), tC p.2))) (hs : NoSl b) (hb : PE X b (tD X.K W f))
    (hall : keys.all (·.isSome) = true := by rfl) (hl : keys.length = vals.length := by rfl) (h0 : keys ≠ [] := by exact List.cons_ne_nil _ _) (h15 : keys.length ≤ 15 := by decide) (hk : kvs.length ≤ 15 := by decide) : PE X (.Subscript (.Dict keys vals p2) b pos) (tD X.K W (eMenu kvs f)) := by
  refine pe_weak (pe_dget hu (pe_disp hp hall hl h0 h15) hb hs) fun σ H Q h => ?_
  obtain ⟨ρ, hE, q⟩ := h
  intro p hp
  refine pairs_then ⟨upd_same, kvs, rfl, hk, ?_⟩
  rw [upd_upd]
  have s0 : Same H (upd H p (.dK (mergeK [] kvs))) := same_new hp _
  have q0 : (eMenu kvs f ρ).post (fun d => fut (upd H p (.dK (mergeK [] kvs))) fun H' => ∀ v, Dp X.K H' v d → Q v H') fun n => fut (upd H p (.dK (mergeK [] kvs))) (W n) := Res.post.mono q (fun d r => r.on s0) fun n r => r.on s0
  refine tD_mono (tD_then (hE.mono s0) q0) fun y H2 ⟨e, hy, s2, hE2, q2⟩ => ?_
  obtain ⟨r, hr, q3⟩ := Res.post_of q2
  cases hy <;> simp only [menuD, reduceCtorEq] at hr
  rename_i x _
  cases hv : valV (mergeK [] kvs) (.inr x) with
  | none => rw [hv] at hr; cases hr
  | some v =>
    rw [hv] at hr
    refine ⟨p, v, rfl, ?_, q3.now _ (dp_sca hr)⟩
    have z := DGet.k (k := .inr x) (s2 _ _ (upd_same (H := H) (a := p) (o := .dK (mergeK [] kvs))))
    rw [hv] at z
    exact z
end

/-! ### the text's defs and constants as they stand behind the top -/
structure DefAt (K : PySem.W.Frag) (mg : Str → Option Value) (x : Str) (st : Stmt) (ps : List Str) : Prop where
  ex : ∃ f fd, L2.Fun K x x st f fd ∧ mg x = some (.ref f) ∧ Binds K fd ps []
section
variable {K : PySem.W.Frag} {mg : Str → Option Value} {h : Heap}
theorem defAt_mk {x : Str} {st : Stmt} {ps : List Str} {f : Addr} {oc : Value} {od an : Option Addr} {osl : Array (Option Value)} {kV doc pm cdv ct : Value} (X : K.In h) (G : h.Ns mainGlobals mg) (a : PySem.W.nsIn K mainGlobals x = some (some (.ref f)))
    (l : K.lookup f = some ⟨oc, od, .func (PySem.W.fnOf x x (defArgs st) (defBody st) (defScope st) .none kV doc pm an cdv ct), osl⟩) (c : PySem.W.codeIn K cdv x = true) (k : PySem.W.keepIn K (.ref f) = true)
    (hb : ∀ (kV doc pm : Value) (an : Option Addr) (cdv ct : Value) (us : List Value), us.length = ps.length → bindArgs (PySem.W.fnOf x x (defArgs st) (defBody st) (defScope st) .none kV doc pm an cdv ct) ⟨us, []⟩ = pure (ps.zip us)) : DefAt K mg x st ps :=
  ⟨f, _, fun_mk l c k, PySem.W.mg_of X G a, (fun_mk (st := st) l c k).binds hb⟩
theorem gl_int {x : Str} {i : Int} {t : Tok} (X : K.In h) (G : h.Ns mainGlobals mg) (a : PySem.W.nsIn K mainGlobals x = some (some (.int i t))) : GlD K mg x (.int i) := ⟨.int i, _, PySem.W.mg_of X G a, ⟨t, rfl⟩, fun H => .int i⟩
theorem gl_str {x : Str} {i : Str} {t : Tok} (X : K.In h) (G : h.Ns mainGlobals mg) (a : PySem.W.nsIn K mainGlobals x = some (some (.str i t))) : GlD K mg x (.str i) := ⟨.str i, _, PySem.W.mg_of X G a, ⟨t, rfl⟩, fun H => .str i⟩
/-- a value of the written part, as data -/
def KD (K : PySem.W.Frag) (u : Value) (d : PyData) : Prop := ∃ v, RelV v u ∧ ∀ H, Dp K H v d
def KDs (K : PySem.W.Frag) (us : List Value) (ds : List PyData) : Prop := us.length ≤ 16777216 ∧ ∃ vs, Vals vs us ∧ ∀ H, DpAll K H vs ds
theorem kd_str {x : Str} {t : Tok} : KD K (.str x t) (.str x) := ⟨.str x, ⟨t, rfl⟩, fun H => .str x⟩
theorem kd_int {x : Int} {t : Tok} : KD K (.int x t) (.int x) := ⟨.int x, ⟨t, rfl⟩, fun H => .int x⟩
theorem kds_nil : KDs K [] [] := ⟨by decide, [], .nil, fun H => .nil⟩
theorem kds_cons {u : Value} {us : List Value} {d : PyData} {ds : List PyData} (h1 : KD K u d) (h2 : KDs K us ds) (hl : (u :: us).length ≤ 16777216 := by exact Nat.le_of_ble_eq_true rfl) : KDs K (u :: us) (d :: ds) := by
  obtain ⟨v, r, hv⟩ := h1
  obtain ⟨_, vs, rs, hvs⟩ := h2
  exact ⟨hl, v :: vs, .cons r rs, fun H => .cons (hv H) (hvs H)⟩
theorem kd_tup {a : Addr} {o : Option Addr} {n : Nat} {its : Array Value} {sl : Array (Option Value)} {ds : List PyData} (l : K.lookup a = some ⟨.type "tuple", o, .seq its n, sl⟩) (h : KDs K its.toList ds) : KD K (.ref a) (.tuple ds) := by
  obtain ⟨hz, vs, rs, hvs⟩ := h
  refine ⟨.ref a, rfl, fun H => .tup (.inr ⟨_, its, n, l, rfl, rfl, ?_, rs⟩) (hvs H)⟩
  rw [sizeLine_eq]
  simpa using hz
theorem gl_ref {x : Str} {a : Addr} {d : PyData} (X : K.In h) (G : h.Ns mainGlobals mg) (e : PySem.W.nsIn K mainGlobals x = some (some (.ref a))) (k : KD K (.ref a) d) : GlD K mg x d := by
  obtain ⟨v, r, hv⟩ := k
  exact ⟨v, _, PySem.W.mg_of X G e, r, hv⟩
theorem callee_bad {P : Program} {w : World} {base : Heap} {CX : CXT} {cls : Nat → Value} {x : Str} {st : Stmt} {ps : List Str} {k : Nat} (D : DefAt K mg x st ps) : Callee P w K mg base CX cls x k ps (fun _ => .bad) := by
  obtain ⟨f, fd, F, hm, hb⟩ := D.ex
  have no : ∀ vs H Q E, ¬ spD K cls ps.length (fun _ => .bad) vs H Q E := fun vs H Q E h => by
    obtain ⟨_, _, _, q⟩ := h
    exact q
  refine ⟨f, fd, ⟨fun vs H Q E h => absurd h (no vs H Q E), fun A outer s H args us vs Q E _ _ _ _ h => absurd h (no vs H Q E)⟩, hm, F.kp, hb, ?_⟩
  obtain ⟨oc, od, kV, doc, pm, an, cdv, ct, osl, rfl, lk, hcd⟩ := F.ex
  exact ⟨oc, od, osl, lk⟩
end
/-- the end of a law -/
theorem walk_data {l : PySem.W.OpenLaw} {k : Nat} {q : Program} {loose : List Str} {XP : (Str → Option Value) → Heap → Prop} {YP : World → Heap → Prop} {d : DefRec} {K : Params → PySem.W.Frag} {g : List PyData → Res PyData} {st : Stmt}
    (hr1 : 3 * k + 5 < recursionLimit - callerA.depth) (hr2 : 16 * k + 200 < cLine - callerA.units) (hn : l.most = some 63) (hd : d.params.defaults = []) (hd2 : d.name = "law")
    (hY : ∀ (w : World) (h : Heap), YP w h → (K w.params).In h)
    (D : ∀ (w : World) (mg : Str → Option Value) (h : Heap), (K w.params).In h → h.Ns mainGlobals mg → DefAt (K w.params) mg "law" st ["_law_script"])
    (F : ∀ (w : World) (mg : Str → Option Value) (h : Heap), (K w.params).In h → h.Ns mainGlobals mg → ∀ base : Heap, Callee l.prog w (K w.params) mg base CX0 (fun _ => .none) "law" k ["_law_script"] g)
    (hbind : ∀ fd : FuncData, (∃ kV doc pm an cdv ct, fd = PySem.W.fnOf "law" "law" (defArgs st) (defBody st) (defScope st) .none kV doc pm an cdv ct) → ∀ (s : Shared) (u : Value), BindsTo s fd ⟨[u], []⟩ [("_law_script", u)])
    (plain : ∀ ns : List Int, ns.length ≤ 63 → g [.list (ns.map PyData.int)] = .ok (.bool true)) : PySem.W.WalkO q loose XP YP l.row.toRowW d [] (fun f vs => PySem.call f vs) := by
  refine L2.walk_of (n := 63) (k := k) (x := "_law_script") (CX := fun _ => CX0) (K := K) (sp := fun w => spD (K w.params) (fun _ => .none) 1 g) hn (by decide) hd ⟨rfl, by omega, by omega⟩ hY (fun w mg fa h X G hmg => ?_) (fun w H a ns hl _ hS => ⟨rfl, _, .cons (.lst hS (dps_ints ns)) .nil, ?_⟩) fun _ _ _ _ _ z => z
  · rw [hd2] at hmg
    obtain ⟨f, fd, D1, hm1, hb1⟩ := (D w mg h X G).ex
    cases hmg.symm.trans hm1
    obtain ⟨oc, od, kV, doc, pm, an, cdv, ct, osl, e, lk, _⟩ := D1.ex
    refine ⟨fd, fun s u => ?_, fun base _ _ => ?_⟩
    · exact hbind fd ⟨kV, doc, pm, an, cdv, ct, e⟩ s u
    · obtain ⟨f2, fd2, C, hm2, _, _, oc2, od2, osl2, lk2⟩ := (F w mg h X G base).ex
      cases hm1.symm.trans hm2
      rw [lk] at lk2
      cases lk2
      exact C
  · rw [plain ns hl]
    intro H' s v hv
    cases hv
    rfl
end DL

set_option Elab.async false
set_option linter.all false
set_option maxRecDepth 100000
set_option maxHeartbeats 2000000
namespace DL
open PySem L2 PyProof.Rows
def sBad : SS := fun _ => .bad
section
variable {X : Cx} {W : Wis} {a b : Expr} {pos : Pos}
/-- what is not reached -/
theorem psd_bad {st : Stmt} : PS X st (tsD X.K W sBad) := ⟨fun pins s σ H D I q => by
  obtain ⟨ρ, hE, q⟩ := q
  exact q.elim⟩
/-! a place in a module's tuple of texts -/
structure GlT (K : PySem.W.Frag) (mg : Str → Option Value) (x : Str) (ys : List Str) : Prop where
  at_ : ∃ a o, mg x = some (.ref a) ∧ (∀ H, SqT K H a (ys.map V.str)) ∧ K.lookup a = some o ∧ o.dict = none ∧ o.cls = .type "tuple"
def gindexD (ys : List Str) : PyData → Option PyData
  | .str z => if z ∈ ys then some (.int (ys.idxOf z : Nat)) else none
  | _ => none
theorem ed_gindex {x : Str} {ys : List Str} {p apos : Pos} {h : SE} (g : GlT X.K X.mg x ys) (he : PE X b (tD X.K W h)) (hg : Gl X x := by rfl) (hs : starEach [b] X.env = [(false, eval b X.env)] := by rfl)
    (hbase : attributeBase (.Name x p) "index" X.env (eval (.Name x p) X.env) = eval (.Name x p) X.env := by rfl) (hline : (apos.endLine == pos.line) = true := by rfl) (hd : (x == ("__debug__" : Str)) = false := by decide) :
    PE X (.Call (.Attribute (.Name x p) "index" apos) [b] [] pos) (tD X.K W (eUn (gindexD ys) h)) := by
  obtain ⟨a, o, hm, hsq, hk, hdn, hcl⟩ := g.at_
  refine ⟨fun pins s σ H Q I hh => ?_⟩
  obtain ⟨ρ, hE, q⟩ := hh
  have q0 := tD_then (K := X.K) (W := W) (f := h) hE q
  refine PySem.Call_method1 hbase hs hline (ld_glob I hg hm ?_ hd)
  refine ⟨"tuple", _, F.plainAttrs_tuple, F.slot_tuple_index, F.type_tuple_index, ⟨o, I.kIn a o hk, hcl⟩, (fun c e => by cases e; exact ⟨o, I.kIn a o hk, hdn⟩), Calls.callWith_builtin rfl (Calls.evalArgs_plain (Calls.spliced_cons ?_))⟩
  refine thn (he.run pins s σ H _ I q0) fun u s2 ⟨y, H2, I2, r2, q2⟩ => Calls.spliced_nil ?_
  obtain ⟨d, hy, s1, hE1, q1⟩ := q2
  obtain ⟨r, hr, q3⟩ := Res.post_of q1
  obtain ⟨z, rfl, rfl⟩ : ∃ z, d = .str z ∧ y = .str z := by
    cases hy with
    | str z => exact ⟨z, rfl, rfl⟩
    | _ => simp [gindexD] at hr
  simp only [gindexD] at hr
  split at hr <;> cases hr
  rename_i hz
  have hl := List.idxOf_lt_length_of_mem hz
  refine mt_tup_index pins s2 σ H2 (.ref a) [.str z] _ [u] Q I2 rfl (.cons r2 .nil) ⟨a, ys, z, ys.idxOf z, rfl, rfl, hsq H2, ?_, ?_, q3.now _ (.int _)⟩
  · rw [List.getElem?_eq_getElem hl]
    simp
  · intro m hmj e
    have := List.not_of_lt_findIdx (p := (· == z)) (xs := ys) (i := m) hmj
    obtain ⟨h1, h2⟩ := List.getElem?_eq_some_iff.mp e
    rw [h2] at this
    simp at this
end
section
variable {K : PySem.W.Frag} {mg : Str → Option Value} {h : Heap}
theorem strs_vals : ∀ {us : List Value} {ys : List Str}, KDs K us (ys.map PyData.str) → ∃ vs, Vals vs us ∧ vs = ys.map V.str
  | [], [], _ => ⟨[], .nil, rfl⟩
  | _, _, h => by
    obtain ⟨hl, vs, rs, hvs⟩ := h
    have e := hvs (fun _ => none)
    exact ⟨vs, rs, dps_strs_of e⟩
theorem gt_ref {x : Str} {a : Addr} {n : Nat} {its : Array Value} {sl : Array (Option Value)} {ys : List Str} (X : K.In h) (G : h.Ns mainGlobals mg) (e : PySem.W.nsIn K mainGlobals x = some (some (.ref a)))
    (l : K.lookup a = some ⟨.type "tuple", none, .seq its n, sl⟩) (k : KDs K its.toList (ys.map PyData.str)) : GlT K mg x ys := by
  refine ⟨a, _, PySem.W.mg_of X G e, fun H => ?_, l, rfl, rfl⟩
  obtain ⟨vs, rs, rfl⟩ := strs_vals k
  refine .inr ⟨_, its, n, l, rfl, rfl, ?_, rs⟩
  rw [sizeLine_eq]
  simpa using k.1
end
@[simp] theorem sBad_ap {ρ : PEnv} : sBad ρ = .bad := rfl
end DL

set_option Elab.async false
set_option linter.all false
set_option maxRecDepth 100000
set_option maxHeartbeats 2000000
/-! tuple(reversed(a tuple)) -/
namespace RT
open PySem PySem.Spec PyProof.Rows
theorem nolen_rt : typeLookup (.type "reversed") "__len__" = pure none := by rw [typeLookup_type, builtinLookup_eq_fast]; kernel_rfl
theorem hint_rt : typeLookup (.type "reversed") "__length_hint__" = pure (some (.builtin "reversed.__length_hint__")) := by rw [typeLookup_type, builtinLookup_eq_fast]; kernel_rfl
theorem slot_rt_hint : Slot "reversed" "__length_hint__" "reversed.__length_hint__" :=
  .of (owner := "reversed") (n := "__length_hint__") (by rw [typeLookup_type, builtinLookup_eq_fast]; kernel_rfl) (by decide +kernel) (by decide +kernel) (by decide +kernel)
    (by first | exact .inl (by decide +kernel) | exact .inr (by decide +kernel)) (by rw [isSubtype_type]; kernel_rfl)
theorem entry_rt_hint : entryFor table "reversed.__length_hint__" = some Builtin.«reversed.__length_hint__» := entryFor_of_tree (by kernel_rfl)
theorem args_rt_hint (a : Value) : argsOk "reversed.__length_hint__" ⟨[a], []⟩ := by
  unfold argsOk; rw [signature?_of (id := "reversed.__length_hint__") (n := ['_', '_', 't', 'n', 'i', 'h', '_', 'h', 't', 'g', 'n', 'e', 'l', '_', '_']) (o := ['d', 'e', 's', 'r', 'e', 'v', 'e', 'r']) (by kernel_rfl) owner_rt]; kernel_rfl
section
variable {prog : Program} {w : World} {A : Around} {E : Value → Shared → Prop} {s : Shared}
theorem call_hint_rt {it t : Addr} {items : Array Value} {Q : Value → Shared → Prop} (hit : IsRt s.heap it t ((items.size : Int) - 1)) (ht : IsTup s.heap t items) (hn : items.size ≤ sizeLine)
    (h : ∀ tk tk', Q (.int items.size tk) { s with toks := tk' }) : wpAny (model prog w) A (call (.builtin "reversed.__length_hint__") [.ref it]) Q E s := by
  obtain ⟨o, ho, hc, hd⟩ := id hit
  rw [sizeLine_eq] at hn
  refine wpAny_call_entry slot_rt_hint hit.typeIs entry_rt_hint ?_ (args_rt_hint _)
  unfold Builtin.«reversed.__length_hint__»
  refine wpAny_bind (wpAny_of_eq (a := Value.ref it) rfl ?_)
  refine wpAny_bind (wpAny_field ho hd (x := .ref t) rfl ?_)
  try dsimp only
  rw [if_neg (by intro e; cases e)]
  refine wpAny_bind ?_
  refine len_tuple ht (by omega) ?_
  refine wpAny_bind (wpAny_of_eq (a := some ((items.size : Nat) : Int)) rfl ?_)
  try dsimp only
  refine wpAny_bind (wpAny_field ho hd (x := rawInt ((items.size : Int) - 1)) rfl ?_)
  show wpAny _ _ (if ((items.size : Nat) : Int) < (items.size : Int) - 1 + 1 then _ else _) _ _ _
  rw [if_neg (by omega)]
  refine wpAny_bind (wpAny_mkInt ?_)
  refine wpAny_pure ⟨_, rfl, ?_⟩
  rw [show (items.size : Int) - 1 + 1 = items.size by omega]
  exact h _ _
theorem tup_at {h h' : Heap} {t : Addr} {items : Array Value} (x : IsTup h t items) (e : ∀ o, h.get? t = some o → h'.get? t = some o) : IsTup h' t items := let ⟨o, ho, r⟩ := x; ⟨o, e _ ho, r⟩
theorem Walks.tupRev (hh : A.handled = none) (I t : Addr) (hne : t ≠ I) (items : Array Value) (hn : items.size ≤ sizeLine) :
    Walks prog w A I [I, t] [I] items.size (fun i v => items[items.size - 1 - i]? = some v) (fun i h => i ≤ items.size ∧ IsRt h I t ((items.size : Int) - 1 - (i : Int)) ∧ IsTup h t items) where
  sub := fun b hb => by simp at hb; simp [hb]
  frame := fun _ _ _ x hk => ⟨x.1, x.2.1.at fun o e => hk I (by simp) o e, tup_at x.2.2 fun o e => hk t (by simp) o e⟩
  item := fun i s Q E hi x hQ => by
    have e : (items.size : Int) - 1 - (i : Int) = ((items.size - 1 - i : Nat) : Int) := by omega
    have hit := x.2.1
    rw [e] at hit
    have hx : items[items.size - 1 - i]? = some (items[items.size - 1 - i]'(by omega)) := Array.getElem?_eq_getElem (by omega)
    refine next_rt_item hit x.2.2 hx hn fun h' hit' hs' => ?_
    have e2 : ((items.size - 1 - i : Nat) : Int) - 1 = (items.size : Int) - 1 - ((i + 1 : Nat) : Int) := by omega
    rw [e2] at hit'
    exact hQ _ h' (s.toks + 1) hx ⟨hi, hit', tup_at x.2.2 fun o eo => (hs'.2 t hne).trans eo⟩ fun b o hb eo => (hs'.2 b (fun h => hb (by simp [h]))).trans eo
  done := fun s Q E x hQ => by
    have e : (items.size : Int) - 1 - (items.size : Int) = -1 := by omega
    have hit := x.2.1
    rw [e] at hit
    exact next_rt_end hh hit fun h' he' => hQ h' s.toks fun b o hb eo => he' b o (fun h => hb (by simp [h])) eo
  self := fun _ _ _ _ x hQ => iter_rt x.2.1 hQ
theorem len_hint_rt {it t : Addr} {items : Array Value} {Q : Bool → Shared → Prop} (hit : IsRt s.heap it t ((items.size : Int) - 1)) (ht : IsTup s.heap t items) (hn : items.size ≤ sizeLine)
    (h : ∀ tk', Q (((items.size : Nat) : Int) != 0) { s with toks := tk' }) : wpAny (model prog w) A (Builtin.List.listLengthHint (.ref it)) Q E s := by
  have hT := hit.typeIs
  have hz := hn
  rw [sizeLine_eq] at hz
  have f1 : Builtin.List.listFitsIndex ((items.size : Nat) : Int) = true := by
    unfold Builtin.List.listFitsIndex
    rw [Bool.and_eq_true]
    exact ⟨decide_eq_true (by omega), decide_eq_true (by omega)⟩
  have f2 : Builtin.List.listTooLong (((items.size : Nat) : Int).toNat) = false := by
    unfold Builtin.List.listTooLong
    exact decide_eq_false (by rw [Int.toNat_natCast]; omega)
  unfold Builtin.List.listLengthHint
  refine wpAny_bind (wpAny_specialOf hT nolen_rt ?_)
  show wpAny _ A (specialOf (Value.ref it) (Str.ofString "__length_hint__") >>= _) _ _ _
  refine wpAny_bind (wpAny_specialOf hT hint_rt ?_)
  generalize hid : ("reversed.__length_hint__" : String) = id0
  wp_delta
  rw [show splitId id0 = some ("reversed", "__length_hint__") from by subst hid; decide +kernel]
  subst hid
  refine wpAny_bind (wpAny_isInstance (b := true) hT (by rw [isSubtype_type]; kernel_rfl) ?_)
  rw [if_neg (by decide)]
  dsimp only
  rw [if_neg (by decide +kernel)]
  refine wpAny_bind (wpAny_rule ?_)
  refine wpAny_bind (wpAny_of_eq (slot_rt_hint.bind _) ?_)
  dsimp only
  refine wpAny_bind (wpAny_attempt (call_hint_rt hit ht hn fun tk tk' => ?_))
  dsimp only
  generalize hk : ((items.size : Nat) : Int) = k at *
  have ea : asInt? (Value.int k tk) = pure (some k) := rfl
  rw [ea]
  refine wpAny_bind ?_
  refine wpAny_pure ?_
  dsimp only
  rw [f1, f2]
  rw [if_neg (by decide)]
  rw [if_neg (by omega)]
  rw [if_neg (by decide)]
  exact wpAny_pure (h tk')
theorem collect_rt {it t : Addr} {items : Array Value} {Q : List Value → Shared → Prop} (hh : A.handled = none) (hit : IsRt s.heap it t ((items.size : Int) - 1)) (hl : IsTup s.heap t items) (hne : t ≠ it) (hn : items.size ≤ sizeLine)
    (hQ : ∀ (h' : Heap) (tk : Nat) (acc : Array Value), (∀ b o, b ≠ it → s.heap.get? b = some o → h'.get? b = some o) → ItemsOf (fun i v => items[items.size - 1 - i]? = some v) acc items.size → Q acc.toList { s with heap := h', toks := tk }) :
    wpAny (model prog w) A (collect (.ref it)) Q E s := by
  have W := (Walks.tupRev (prog := prog) (w := w) (A := A.in1) hh it t hne items hn).toS
  obtain ⟨oi, hoi, _⟩ := id hit
  obtain ⟨ol, hol, _⟩ := id hl
  have hSi : s.heap.objs.size ≠ it := Nat.ne_of_gt (Heap.lt_size hoi)
  have hSl : s.heap.objs.size ≠ t := Nat.ne_of_gt (Heap.lt_size hol)
  have hSf : s.heap.objs.size ∉ [it, t] := by simp only [List.mem_cons, List.not_mem_nil, or_false, not_or]; exact ⟨hSi, hSl⟩
  unfold collect
  refine wpAny_bind (wpAny_runValue (codeAny_builtin F.entry_proto_collect ?_))
  rw [Around.under_plainId F.plain_proto_collect _]
  show wpAny _ A.in1 (newList [] >>= fun l' => again (.builtin "list.__iadd__" ⟨[l', .ref it], []⟩)) _ _ s
  refine wpAny_bind (wpAny_newObj_type ?_)
  refine wpAny_pure ⟨plainId_quiet F.plain_list_iadd _, codeAny_builtin F.entry_list_iadd ?_⟩
  rw [Around.under_plainId F.plain_list_iadd _]
  have hS₁ : (s.heap.push { cls := .type "list", data := .seq ([] : List Value).toArray }).get? s.heap.objs.size = some { cls := .type "list", data := .seq ([] : List Value).toArray } := Heap.get?_push_size _ rfl
  have hit1 : IsRt (s.heap.push { cls := .type "list", data := .seq ([] : List Value).toArray }) it t ((items.size : Int) - 1) := hit.at fun o e => Heap.get?_push_of_some _ e
  have hl1 : IsTup (s.heap.push { cls := .type "list", data := .seq ([] : List Value).toArray }) t items := tup_at hl fun o e => Heap.get?_push_of_some _ e
  have hT : ({ s with heap := s.heap.push { cls := .type "list", data := .seq ([] : List Value).toArray } } : Shared).TypeIs (.ref it) "reversed" := IsRt.typeIs (s := { s with heap := s.heap.push { cls := .type "list", data := .seq ([] : List Value).toArray } }) hit1
  have h1 : Builtin.List.listSameRef (.ref s.heap.objs.size) (.ref it) = false := by simp [Builtin.List.listSameRef, hSi]
  have e0 : ((items.size : Nat) : Int) - 1 - ((0 : Nat) : Int) = (items.size : Int) - 1 := by omega
  show wpAny _ A.in1 (Builtin.List.listExtendWith (.ref s.heap.objs.size) (.ref it) (.ref s.heap.objs.size)) _ _ _
  unfold Builtin.List.listExtendWith
  refine wpAny_bind (wpAny_typeOf hT ?_)
  rw [if_neg (by rw [h1]; decide)]
  refine wpAny_bind (iter_rt (s := { s with heap := s.heap.push { cls := .type "list", data := .seq ([] : List Value).toArray } }) hit1 ?_)
  refine wpAny_bind (wpAny_holding ?_)
  refine len_hint_rt (s := { s with heap := s.heap.push { cls := .type "list", data := .seq ([] : List Value).toArray } }) hit1 hl1 hn fun tk' => ?_
  have fin : ∀ (h2 : Heap) (tk c : Nat), h2.get? s.heap.objs.size = some { cls := .type "list", data := .seq (#[] : Array Value) c } → (∀ b o, b ≠ s.heap.objs.size → s.heap.get? b = some o → h2.get? b = some o) →
      codeAny (model prog w) A (.builtin "list.extend.loop" ⟨[.ref s.heap.objs.size, .ref it, .ref s.heap.objs.size], []⟩) (fun r s' => match r with
        | .ok (.ret v) => wpAny (model prog w) A (match v with
          | .ref a => do
            let o ← load a
            match o.data with
            | .seq xs _ => pure xs.toList
            | _ => unsupported "internal:collect"
          | _ => unsupported "internal:collect") Q E s'
        | .ok _ => False
        | .error e => E e s') { s with heap := h2, toks := tk } := fun h2 tk c hS hk => by
    have hst : IsRt h2 it t ((items.size : Int) - 1 - ((0 : Nat) : Int)) ∧ IsTup h2 t items := ⟨by rw [e0]; exact hit.at fun o e => hk it o (Ne.symm hSi) e, tup_at hl fun o e => hk t o (Ne.symm hSl) e⟩
    refine codeAny_extend_loopS W hn _ hSf _ items.size 0 { s with heap := h2, toks := tk } _ _ rfl (Nat.zero_le _) ⟨Nat.zero_le _, hst.1, hst.2⟩ hS (ItemsOf.nil _) fun s' acc' c' hm hS' hacc => ?_
    show wpAny _ A (load s.heap.objs.size >>= _) _ _ s'
    refine wpAny_bind (wpAny_load hS' ?_)
    refine wpAny_pure ?_
    rw [Moved.eq_with hm]
    refine hQ s'.heap s'.toks acc' (fun b o hb e => hm.heap b o (fun hmem => ?_) (hk b o (Nat.ne_of_lt (Heap.lt_size e)) e)) hacc
    rcases List.mem_cons.mp hmem with e' | hmem
    · exact absurd (Heap.lt_size e) (by rw [e']; exact Nat.lt_irrefl _)
    · exact hb (List.mem_singleton.mp hmem)
  have old : ∀ b o, b ≠ s.heap.objs.size → s.heap.get? b = some o → (s.heap.push { cls := .type "list", data := .seq ([] : List Value).toArray }).get? b = some o := fun b o _ e => Heap.get?_push_of_some _ e
  by_cases hk : items.size = 0
  · have e : (((items.size : Nat) : Int) != 0) = false := by rw [hk]; rfl
    rw [e]
    dsimp only
    rw [if_neg (by decide +kernel)]
    exact wpAny_pure ⟨plainId_quiet F.plain_extend_loop _, fin _ tk' _ hS₁ old⟩
  · have e : (((items.size : Nat) : Int) != 0) = true := by simp [hk]
    rw [e]
    dsimp only
    rw [if_pos (by rw [Bool.true_or])]
    refine wpAny_bind (wpAny_rule ?_)
    refine wpAny_bind ?_
    unfold Builtin.List.listTouch
    show wpAny _ A.in1 (updateSeq s.heap.objs.size (·.push .none) >>= fun _ => updateSeq s.heap.objs.size (·.pop)) _ _ _
    refine wpAny_bind (wpAny_updateSeq hS₁ rfl ?_ (by decide) (by decide))
    have h2 := Heap.get?_update_self (Obj.mapSeq fun x => x.push Value.none) hS₁ rfl
    refine wpAny_updateSeq h2 rfl ?_ (by decide) (by decide)
    have h3 := Heap.get?_update_self (Obj.mapSeq fun x => x.pop) h2 rfl
    refine wpAny_pure ⟨plainId_quiet F.plain_extend_loop _, fin _ tk' _ h3 fun b o hb e => ?_⟩
    rw [Heap.get?_update_other _ _ (Ne.symm hb), Heap.get?_update_other _ _ (Ne.symm hb)]
    exact old b o hb e
theorem code_tuple_new_rt {it t : Addr} {items : Array Value} {Q₁ : Value → Shared → Prop} (hh : A.handled = none) (hit : IsRt s.heap it t ((items.size : Int) - 1)) (hl : IsTup s.heap t items) (hne : t ≠ it) (hn : items.size ≤ sizeLine)
    (h : ∀ (h' : Heap) (tk : Nat) (acc : Array Value), (∀ b o, b ≠ it → s.heap.get? b = some o → h'.get? b = some o) → ItemsOf (fun i v => items[items.size - 1 - i]? = some v) acc items.size →
      Q₁ (.ref h'.objs.size) { s with heap := h'.push { cls := .type "tuple", data := .seq acc }, toks := tk }) :
    codeAny (model prog w) A (.call (.builtin "tuple.__new__") ⟨[.type "tuple", .ref it], []⟩) (wants Q₁ E) s := by
  refine codeAny_of_tree ?_
  show wpAny _ A.in1 (do checkBuiltinCall "tuple.__new__" ⟨[.type "tuple", .ref it], []⟩; again (.builtin "tuple.__new__" ⟨[.type "tuple", .ref it], []⟩)) _ _ s
  refine wpAny_bind (wpAny_of_eq (F.newCall_tuple_1 _) (wpAny_pure ⟨plainId_quiet F.plain_tuple_new _, codeAny_builtin F.entry_tuple_new ?_⟩))
  rw [Around.under_plainId F.plain_tuple_new _]
  have hsub := sub_tuple_self
  have hinit := init_tuple_lookup
  have hmh := madeHere_tuple
  have hTI : s.TypeIs (.ref it) "reversed" := hit.typeIs
  have hh1 : A.in1.handled = none := hh
  wp_walk using wpAny_typeOf hTI, collect_rt (A := A.in1) hh1 hit hl hne hn
  intro h' tk acc hk hacc
  show wpAny _ _ (Builtin.Tuple.tupleExact acc.toList.toArray >>= fun v => ret v) _ _ _
  unfold Builtin.Tuple.tupleExact
  refine wpAny_bind (wpAny_newObj_type ?_ (by show acc.toList.toArray.size ≤ sizeLine; simp only [Array.toArray_toList]; rw [hacc.1]; exact hn))
  refine wpAny_pure ?_
  have e : acc.toList.toArray = acc := by simp
  rw [e]
  exact h h' tk acc hk hacc
theorem call_tuple_rt {it t : Addr} {items : Array Value} {Q : Value → Shared → Prop} (hh : A.handled = none) (hit : IsRt s.heap it t ((items.size : Int) - 1)) (hl : IsTup s.heap t items) (hne : t ≠ it) (hn : items.size ≤ sizeLine)
    (hQ : ∀ (h' : Heap) (tk : Nat) (acc : Array Value), (∀ b o, b ≠ it → s.heap.get? b = some o → h'.get? b = some o) → ItemsOf (fun i v => items[items.size - 1 - i]? = some v) acc items.size →
      Q (.ref h'.objs.size) { s with heap := h'.push { cls := .type "tuple", data := .seq acc }, toks := tk }) :
    wpAny (model prog w) A (call (.type "tuple") [.ref it]) Q E s := by
  refine callType_codes (Q₁ := fun obj s₁ => s₁.TypeIs obj "tuple" ∧ Q obj s₁) F.called_tuple (F.typeCall_tuple_1 _) F.entry_object_init
    (code_tuple_new_rt (A := A.in1) hh hit hl hne hn fun h' tk acc hk hacc => ⟨⟨_, Heap.get?_push_size _ rfl, rfl⟩, hQ h' tk acc hk hacc⟩) fun obj s₁ h₁ => ?_
  exact ⟨h₁.1, F.args_object_init_2 obj _, object_init_meets F.called_tuple.init.lookup F.called_tuple.made (by decide) prog w A.in1 _ s₁ ⟨h₁.1, rfl, h₁.2⟩⟩
end
end RT

namespace RT
open PySem PySem.Spec PyProof.Rows L2
section
variable {X : Cx}
/-- tuple(reversed(x)), x a tuple: a new tuple -/
def tTupRevT (K : PySem.W.Frag) (te : TE) : TE := fun σ H Q => te σ H fun v H1 => ∃ (a : Addr) (xs : List V), v = .ref a ∧ SqT K H1 a xs ∧ ∀ q, H1 q = none → Q (.ref q) (upd H1 q (.tup xs.reverse))
theorem pe_tupRevT {e : Expr} {te : TE} {p p2 pos pos2 : Pos} (hc : X.calm = true) (hg : Gl X "tuple") (hm : X.mg "tuple" = none) (hg2 : Gl X "reversed") (hm2 : X.mg "reversed" = none) (he : PE X e te)
    (hs : starEach [e] X.env = (false, eval e X.env) :: starEach [] X.env := by rfl)
    (hs2 : starEach [.Call (.Name "reversed" p2) [e] [] pos2] X.env = (false, eval (.Call (.Name "reversed" p2) [e] [] pos2) X.env) :: starEach [] X.env := by rfl) :
    PE X (.Call (.Name "tuple" p) [.Call (.Name "reversed" p2) [e] [] pos2] [] pos) (tTupRevT X.K te) := by
  refine ⟨fun pins s σ H Q I h => ?_⟩
  refine Call_ (ld_blt I hg hm boot_tuple (PyProof.Rows.callWith_type1 (args_cons (Call_ (ld_blt I hg2 hm2 PyProof.Rows.boot_reversed (PyProof.Rows.callWith_type1 (args_cons (thn (he.run pins s σ H _ I h) fun u s1 ⟨v, H1, I1, r1, q1⟩ => args_nil ?_) hs) hs rfl))) hs2) hs2 rfl))
  obtain ⟨a, xs, ev, hq, q⟩ := q1
  subst ev
  obtain rfl : u = Value.ref a := r1
  obtain ⟨its, rv, p', hz⟩ := I1.tuple hq
  have hn := line63
  have hn0 : its.toArray.size ≤ sizeLine := by rw [List.size_toArray, ← rv.length]; exact hz
  refine call_reversed_tup p' (fun A E Q k => len_tuple p' (by omega) k) (args_nil ?_)
  have k0 : ∀ b o, s1.heap.get? b = some o → (s1.heap.push (rtObj a ((its.toArray.size : Int) - 1))).get? b = some o := fun b o e => Heap.get?_push_of_some _ e
  have I2 : Inv X pins σ H1 { s1 with heap := s1.heap.push (rtObj a ((its.toArray.size : Int) - 1)), toks := s1.toks + 1 + 1 } := I1.kept (t' := s1.toks + 1 + 1) k0
  obtain ⟨f0, f1, f2, f3, f4, f5⟩ := I1.fpOk (H' := H1) (b := s1.heap.objs.size) (Nat.le_refl _) (I1.hok.fresh (Nat.le_refl _))
  obtain ⟨ol, hol, _⟩ := id p'
  have hne : a ≠ s1.heap.objs.size := Nat.ne_of_lt (Heap.lt_size hol)
  refine call_tuple_rt (s := { s1 with heap := s1.heap.push (rtObj a ((its.toArray.size : Int) - 1)), toks := s1.toks + 1 + 1 }) (I1.ok.hd hc) ⟨_, Heap.get?_push_size _ rfl, rfl, rfl⟩ (tup_at p' fun o e => k0 a o e) hne hn0 fun h' tk acc hk hi => ?_
  have I3 : Inv X pins σ H1 { s1 with heap := h', toks := tk } := I2.turned (t' := tk) (fun b o hb e => hk b o hb e) f0 f1 f3 f4 f5
  refine ⟨.ref h'.objs.size, upd H1 h'.objs.size (.tup xs.reverse), I3.laid (t' := tk) (fun c o e => Heap.get?_push_of_some _ e) (Nat.le_refl _) (show ObjOk X.prog X.w _ _ _ (.tup xs.reverse) from ⟨by rw [List.length_reverse]; exact hz, acc.toList, vals_rev rv hi, ?_⟩), rfl, q _ (I3.hok.fresh (Nat.le_refl _))⟩
  rw [Array.toArray_toList]
  exact IsTup.new _ _
end
end RT

set_option Elab.async false
set_option linter.all false
set_option maxRecDepth 100000
set_option maxHeartbeats 2000000
namespace L2
open PySem PySem.Spec PyProof.Rows
section
variable {X : Cx}
/-- d.update(e), both dicts of ints and texts -/
def tDUpd (td te : TE) : TE := fun σ H Q => td σ H fun x H1 => (∃ a kvs, x = .ref a ∧ H1 a = some (.dK kvs)) ∧ te σ H1 fun y H2 => ∃ a b kvs more, x = .ref a ∧ y = .ref b ∧ a ≠ b ∧ H2 a = some (.dK kvs) ∧ H2 b = some (.dK more) ∧ kvs.length + more.length ≤ sizeLine ∧ Q .non (upd H2 a (.dK (mergeK kvs more)))
theorem pe_dupd {o e : Expr} {td te : TE} {apos cpos : Pos} (ho : PE X o td) (he : PE X e te)
    (hs : starEach [e] X.env = [(false, eval e X.env)] := by rfl) (hbase : attributeBase o "update" X.env (eval o X.env) = eval o X.env := by rfl) (hline : (apos.endLine == cpos.line) = true := by rfl) :
    PE X (.Call (.Attribute o "update" apos) [e] [] cpos) (tDUpd td te) := by
  refine ⟨fun pins s σ H Q I h => ?_⟩
  refine PySem.Call_method1 hbase hs hline (thn (ho.run pins s σ H _ I h) fun u s1 ⟨x, H1, I1, rx, ⟨a, kvs, ex, e1⟩, q1⟩ => ?_)
  subst ex
  obtain rfl : u = Value.ref a := rx
  obtain ⟨t1, t2, _⟩ := isD_at I1 (.inl ⟨kvs, .inl e1⟩)
  refine ⟨"dict", _, PySem.F.plainAttrs_dict, PySem.F.slot_dict_update, PySem.F.type_dict_update, t1, t2, Calls.callWith_builtin rfl (Calls.evalArgs_plain (Calls.spliced_cons (thn (he.run pins s1 σ H1 _ I1 q1) fun iv s2 ⟨y, H2, I2, ry, q2⟩ => Calls.spliced_nil ?_)))⟩
  obtain ⟨a', b, kvs', more, ea, rfl, hab, e2, e3, hl, q2⟩ := q2
  cases ea
  obtain rfl : iv = Value.ref b := ry
  obtain ⟨z, hd, vs, rel, dd⟩ := dk_of I2.hok e2
  obtain ⟨z2, hd2, ws, rel2, dd2⟩ := dk_of I2.hok e3
  refine call_meetsIn PySem.F.slot_dict_update dd.typeIs PySem.F.entry_dict_update (PySem.F.args_dict_update_2 _ _) (meets_dict_update (mixKind X.prog X.w) a b hab hd2)
    ⟨vs, ws, dd, dd2, by rw [← rel.length, ← rel2.length]; exact hl, fun h' dd' _ hs => ?_⟩
  have he : ∃ q, h'.get? a = some q := let ⟨q, _, _, hq, _⟩ := dd'; ⟨q, hq⟩
  exact ⟨.non, _, d_write (t' := s2.toks) I2 (by rw [e2]; exact True.intro) hs he (dk_new (Nat.le_trans (length_mergeK more kvs') hl) hd (KV.merge rel2 rel) dd'), rfl, q2⟩
end
end L2
namespace DL
open PySem L2 PyProof.Rows
section
variable {K : PySem.W.Frag} {H : Hp}
theorem dps_app : ∀ {vs ws : List V} {ds es : List PyData}, DpAll K H vs ds → DpAll K H ws es → DpAll K H (vs ++ ws) (ds ++ es)
  | [], _, _, _, .nil, h => h
  | _ :: _, _, _, _, .cons a b, h => .cons a (dps_app b h)
theorem dps_rev : ∀ {vs : List V} {ds : List PyData}, DpAll K H vs ds → DpAll K H vs.reverse ds.reverse
  | [], _, .nil => .nil
  | _ :: _, _, .cons a b => by
    rw [List.reverse_cons, List.reverse_cons]
    exact dps_app (dps_rev b) (.cons a .nil)
end
def revD : PyData → Option PyData
  | .tuple xs => some (.tuple xs.reverse)
  | _ => none
def lookS (kvs : List (PyData × PyData)) (x : Str) : Option PyData := (kvs.find? fun p => match p.1 with
  | .str y => decide (y = x)
  | _ => false).map (·.2)
def getD2 (kvs : List (PyData × PyData)) : PyData → PyData → Option PyData
  | .str x, d => some ((lookS kvs x).getD d)
  | _, _ => none
def eGet2 (f g h : SE) : SE := fun ρ => (f ρ).bind fun x => match x with
  | .dict kvs => (g ρ).bind fun y => (h ρ).bind fun z => Res.of (getD2 kvs y z)
  | _ => .bad
@[simp] theorem eGet2_ap {f g h : SE} {ρ : PEnv} : eGet2 f g h ρ = (f ρ).bind fun x => match x with
  | .dict kvs => (g ρ).bind fun y => (h ρ).bind fun z => Res.of (getD2 kvs y z)
  | _ => .bad := nrfl rfl
theorem lookS_kv (x : Str) : ∀ kvs : List (Key × V), lookS (kvD kvs) x = (valV kvs (.inr x)).map fun v => (scaD v).getD .none
  | [] => rfl
  | (k, v) :: r => by
    have ih := lookS_kv x r
    simp only [lookS, kvD, valV, List.map_cons, List.find?_cons] at ih ⊢
    cases k with
    | inl i => simpa [keyD] using ih
    | inr y =>
      by_cases h : y = x
      · subst h; simp [keyD]
      · simpa [keyD, h] using ih
section
variable {X : Cx} {W : Wis} {a b c : Expr} {pos : Pos}
theorem ed_tupRev {p p2 pos pos2 : Pos} {f : SE} (hc : X.calm = true) (hm : X.mg "tuple" = none) (hm2 : X.mg "reversed" = none) (he : PE X a (tD X.K W f)) (hg : Gl X "tuple" := by rfl) (hg2 : Gl X "reversed" := by rfl)
    (hs : starEach [a] X.env = (false, eval a X.env) :: starEach [] X.env := by rfl)
    (hs2 : starEach [.Call (.Name "reversed" p2) [a] [] pos2] X.env = (false, eval (.Call (.Name "reversed" p2) [a] [] pos2) X.env) :: starEach [] X.env := by rfl) :
    PE X (.Call (.Name "tuple" p) [.Call (.Name "reversed" p2) [a] [] pos2] [] pos) (tD X.K W (eUn revD f)) :=
  pe_weak (RT.pe_tupRevT hc hg hm hg2 hm2 he hs hs2) fun σ H Q q => by
    obtain ⟨ρ, hE, q⟩ := q
    refine tD_mono (tD_then hE q) fun x H1 ⟨d, hx, s1, hE1, q1⟩ => ?_
    obtain ⟨r, hr, q2⟩ := Res.post_of q1
    obtain ⟨p, xs, ds, rfl, rfl, h1, h2⟩ : ∃ p xs ds, x = .ref p ∧ d = .tuple ds ∧ SqT X.K H1 p xs ∧ DpAll X.K H1 xs ds := by
      cases hx with
      | tup h1 h2 => exact ⟨_, _, _, rfl, rfl, h1, h2⟩
      | _ => simp [revD] at hr
    simp only [revD, Option.some.injEq] at hr
    subst hr
    exact ⟨_, _, rfl, h1, fun p hp => q2 _ (same_new hp _) _ (.tup (SqT.of upd_same) (dps_mono (same_new hp _) _ _ (dps_rev h2)))⟩
theorem ed_get2 {apos : Pos} {f g h : SE} (hu : X.A.units + 1 < cLine) (ho : PE X a (tD X.K W f)) (he : PE X b (tD X.K W g)) (hf : PE X c (tD X.K W h)) (m : M2 X a "get" apos b c pos := by exact ⟨rfl, rfl, rfl, rfl⟩) :
    PE X (.Call (.Attribute a "get" apos) [b, c] [] pos) (tD X.K W (eGet2 f g h)) := by
  refine pe_weak (pe_dget2 hu ho he hf m) fun σ H Q q => ?_
  obtain ⟨ρ, hE, q⟩ := q
  refine tD_mono (tD_then hE q) fun x H1 ⟨d, hx, s1, hE1, q1⟩ => ?_
  obtain ⟨p, kvs, rfl, rfl, h1, h2⟩ : ∃ p kvs, x = .ref p ∧ d = .dict (kvD kvs) ∧ H1 p = some (.dK kvs) ∧ ∀ q ∈ kvs, (scaD q.2).isSome = true := by
    cases hx with
    | dct h1 h2 => exact ⟨_, _, rfl, rfl, h1, h2⟩
    | _ => exact q1.elim
  refine ⟨p, rfl, .inl ⟨kvs, .inl h1⟩, tD_mono (tD_then hE1 q1) fun y H2 ⟨e, hy, s2, hE2, q2⟩ => ?_⟩
  refine tD_mono (tD_then hE2 q2) fun z H3 ⟨e2, hz, s3, hE3, q3⟩ => ?_
  obtain ⟨r, hr, q4⟩ := Res.post_of q3
  obtain ⟨k, rfl, rfl⟩ : ∃ k, e = .str k ∧ y = .str k := by
    cases hy with
    | str z => exact ⟨z, rfl, rfl⟩
    | _ => simp [getD2] at hr
  simp only [getD2, lookS_kv, Option.some.injEq] at hr
  refine ⟨valV kvs (.inr k), DGet.k (k := .inr k) (s3 _ _ (s2 _ _ h1)), ?_⟩
  cases hv : valV kvs (.inr k) with
  | none =>
    rw [hv] at hr
    subst hr
    exact q4.now _ hz
  | some v =>
    rw [hv] at hr
    subst hr
    have hm : (scaD v).isSome = true := by
      simp only [valV, Option.map_eq_some_iff] at hv
      obtain ⟨kv, h3, rfl⟩ := hv
      exact h2 _ (List.mem_of_find?_eq_some h3)
    obtain ⟨dv, hd⟩ := Option.isSome_iff_exists.mp hm
    refine q4.now _ ?_
    show Dp X.K H3 v ((scaD v).getD .none)
    rw [hd]
    exact dp_sca hd
/-- a place that is there gets a written thing -/
def sPut (i : Nat) (d : PyData) : SS := fun ρ => if i < ρ.length then .ok (.nx (ρ.set i (some d))) else .bad
@[simp] theorem sPut_ap {i : Nat} {d : PyData} {ρ : PEnv} : sPut i d ρ = if i < ρ.length then .ok (.nx (ρ.set i (some d))) else .bad := nrfl rfl
/-- x = {..}; x.update({..}): written texts and numbers -/
theorem pssd_dict2 {i : Nat} {x : Str} {keys keys2 : List (Option Expr)} {vals vals2 : List Expr} {px px2 p2 p3 pos apos cpos epos : Pos} {rest : List Stmt} {G : SS} (A B : List (Key × V)) (hN : X.N.Nodup)
    (hp : PPs X p2 keys vals (A.map fun p => (tC (kV p.1), tC p.2))) (hp2 : PPs X p3 keys2 vals2 (B.map fun p => (tC (kV p.1), tC p.2))) (hr : PSs X rest (tsD X.K W G))
    (hi : X.N[i]? = some x := by rfl) (hx : Loc X.env.scope x := by first | exact Or.inl rfl | exact Or.inr rfl) (hv : Vis X.env.scope x := by first | exact Or.inl rfl | exact Or.inr rfl | rfl)
    (hall : keys.all (·.isSome) = true := by rfl) (hl : keys.length = vals.length := by rfl) (h0 : keys ≠ [] := by exact List.cons_ne_nil _ _) (h15 : keys.length ≤ 15 := by decide) (hk : A.length ≤ 15 := by decide)
    (hall2 : keys2.all (·.isSome) = true := by rfl) (hl2 : keys2.length = vals2.length := by rfl) (h02 : keys2 ≠ [] := by exact List.cons_ne_nil _ _) (h152 : keys2.length ≤ 15 := by decide) (hk2 : B.length ≤ 15 := by decide)
    (hsc : ∀ p ∈ mergeK (mergeK [] A) (mergeK [] B), (scaD p.2).isSome = true := by decide)
    (hs : swapsWith (.Dict keys vals p2) (some (.Name x px)) pos.line X.env = pure false := by rfl)
    (hs2 : swapsWith (.Call (.Attribute (.Name x px2) "update" apos) [.Dict keys2 vals2 p3] [] cpos) none epos.line X.env = pure false := by rfl)
    (hf : X.fn x = true ∨ X.env.scope.names.lookup x = some .local := by first | exact .inl rfl | exact .inr rfl | assumption)
    (hst : starEach [Expr.Dict keys2 vals2 p3] X.env = [(false, eval (Expr.Dict keys2 vals2 p3) X.env)] := by rfl) (hbase : attributeBase (.Name x px2) "update" X.env (eval (.Name x px2) X.env) = eval (.Name x px2) X.env := by rfl) (hline : (apos.endLine == cpos.line) = true := by rfl)
    (hd : (x == ("__debug__" : Str)) = false := by decide) (hcd : (x == ("__classdict__" : Str)) = false := by decide) :
    PSs X (.Assign [.Name x px] (.Dict keys vals p2) pos :: .Expr (.Call (.Attribute (.Name x px2) "update" apos) [.Dict keys2 vals2 p3] [] cpos) epos :: rest) (tsD X.K W (sSeq (sPut i (.dict (kvD (mergeK (mergeK [] A) (mergeK [] B))))) G)) := by
  have t1 := ps_set hN hi hx (pe_disp hp hall hl h0 h15) hs hf
  have t2 := ps_expr (pe_dupd (pe_var (X := X) (i := i) hi hv hd hcd) (pe_disp hp2 hall2 hl2 h02 h152) hst hbase hline) hs2
  refine pss_weak (pss_cons t1 (pss_cons t2 hr)) fun D σ H ⟨ρ, hE, q⟩ => ?_
  unfold sSeq sPut at q
  split at q
  case isFalse => exact q.elim
  rename_i hlt
  intro p hpn
  refine pairs_then ⟨upd_same, A, rfl, hk, ?_⟩
  rw [upd_upd]
  refine ⟨.ref p, ?_, ⟨p, _, rfl, upd_same⟩, ?_⟩
  · rw [List.getElem?_set_self (by rw [← hE.1]; exact hlt)]
  intro q2 hq2
  have hpq : p ≠ q2 := fun e => by
    subst e
    rw [upd_same] at hq2
    cases hq2
  refine pairs_then ⟨upd_same, B, rfl, hk2, ?_⟩
  rw [upd_upd]
  have hA := length_mergeK A []
  have hB := length_mergeK B []
  rw [List.length_nil] at hA hB
  refine ⟨p, q2, mergeK [] A, mergeK [] B, rfl, rfl, hpq, by rw [upd_ne hpq, upd_same], upd_same, by rw [sizeLine_eq]; omega, ?_⟩
  have s0 : Same H (upd (upd (upd H p (.dK (mergeK [] A))) q2 (.dK (mergeK [] B))) p (.dK (mergeK (mergeK [] A) (mergeK [] B)))) := fun b u e => by
    have hb : b ≠ p := ne_of_none e hpn
    have hb2 : b ≠ q2 := fun e2 => by
      subst e2
      rw [upd_ne hb, e] at hq2
      cases hq2
    rw [upd_ne hb, upd_ne hb2, upd_ne hb]
    exact e
  exact ⟨_, (hE.mono s0).set (.dct upd_same hsc), Res.post.mono q (fun d r => r.on s0) fun n r => r.on s0⟩
end
end DL

set_option Elab.async false
set_option linter.all false
set_option maxRecDepth 100000
set_option maxHeartbeats 2000000
namespace DL
open PySem L2 PyProof.Rows
def sEx (n : Nat) : SS := fun _ => .ex n
@[simp] theorem sEx_ap {n : Nat} {ρ : PEnv} : sEx n ρ = .ex n := rfl
section
variable {P : Program} {w : World} {K : PySem.W.Frag} {mg : Str → Option Value} {base : Heap}
/-- a def that may be left by a raise -/
theorem callee_ofX {cls : Nat → Value} {x qual : Str} {st : Stmt} {f : Addr} {fd : FuncData} {N ps : List Str} {k : Nat} {F : SS} (D : L2.Fun K x qual st f fd) (S : FnScope N ps (defScope st)) (hm : mg x = some (.ref f)) (hb : Binds K fd ps [])
    (body : ∀ (cdv : Value) (A : Around) (outer : List Env) (s : Shared) (H : Hp) (E : XK), Room k (A.deeper (envOfC qual (defScope st) s.heap.objs.size f cdv)) →
      Takes (cxOf (L2.CX P w) P w K mg base N qual (defScope st) f cdv A outer s H E) (fun c d _ H => E c d H) → PassesOwn (model P w) (A.deeper (envOfC qual (defScope st) s.heap.objs.size f cdv)) (envOfC qual (defScope st) s.heap.objs.size f cdv) (cxOf (L2.CX P w) P w K mg base N qual (defScope st) f cdv A outer s H E).xe →
      PSs (cxOf (L2.CX P w) P w K mg base N qual (defScope st) f cdv A outer s H E) (defBody st) (tsD K (fun m H' => E (cls m) none H') F)) : Callee P w K mg base (L2.CX P w) cls x (k + 1) ps (bodyD N.length F) := by
  refine ⟨f, fd, D.okX S (fun vs H Q E h => h.1) (fun cdv A outer s H vs Q E hr h => ⟨_, body cdv A outer s H E hr (takes_of rfl rfl rfl rfl) (passes_of rfl), body_then h⟩), hm, D.kp, hb, ?_⟩
  obtain ⟨oc, od, kV, doc, pm, an, cdv, ct, osl, rfl, lk, hcd⟩ := D.ex
  exact ⟨oc, od, osl, lk⟩
end
section
variable {X : Cx} {pos : Pos}
theorem passX {cls : Nat → Value} {E : XK} (tk : Takes X (fun c d _ H => E c d H)) : Passes (L2.CX X.prog X.w) X (wishE cls fun m H => E (cls m) none H) :=
  passes_call tk fun c d σ H ⟨m, h1, h2, h3⟩ => by subst h1 h2; exact h3
/-- a class of errors without an own __init__, over ValueError -/
structure ErrAt (K : PySem.W.Frag) (mg : Str → Option Value) (x : Str) (C : Addr) : Prop where
  gC : mg x = some (.ref C)
  kC : PySem.W.keepIn K (.ref C) = true
  q : PySem.W.excIn K C [.type "ValueError", .type "Exception", .type "BaseException", .type "object"] "ValueError.__new__" = true
  ex : PySem.W.subIn K (.ref C) (.type "BaseException") = some true
  ty : PySem.W.typeIn K (.ref C) = some (.type "type")
theorem psd_raise {cls : Nat → Value} {E : XK} {n : Nat} {C : Addr} {x m : Str} {j : Nat} {p p2 pos' : Pos} (T : ErrAt X.K X.mg x C) (hcl : cls n = .ref C) (hc : X.calm = true) (tk : Takes X (fun c d _ H => E c d H)) (hg : Gl X x := by rfl) (hdb : (x == ("__debug__" : Str)) = false := by decide) :
    PS X (.Raise (some (.Call (.Name x p) [.Constant (.str m) j p2] [] pos)) none pos') (tsD X.K (fun m H => E (cls m) none H) (sEx n)) :=
  ps_weak (ps_raise hc tk (pmk_own PySem.F.excBase_ValueError T.q T.gC T.kC (raises_own T.ex T.ty) hg hdb)) fun D σ H ⟨ρ, hE, q⟩ => by
    have q1 : E (cls n) none H := q H (Same.refl H)
    rw [hcl] at q1
    exact q1
/-- a place in a list of texts -/
def lindexD : PyData → PyData → Option PyData
  | .list ds, .str z => (strsOf ds).bind fun ys => if z ∈ ys then some (.int (ys.idxOf z : Nat)) else none
  | _, _ => none
/-- a method of a list, of one argument -/
def eML (g : PyData → PyData → Option PyData) (f h : SE) : SE := fun ρ => (f ρ).bind fun x => match x with
  | .list ds => (h ρ).bind fun y => Res.of (g (.list ds) y)
  | _ => .bad
@[simp] theorem eML_ap {g : PyData → PyData → Option PyData} {f h : SE} {ρ : PEnv} : eML g f h ρ = (f ρ).bind fun x => match x with
  | .list ds => (h ρ).bind fun y => Res.of (g (.list ds) y)
  | _ => .bad := nrfl rfl
theorem ed_lindex {W : Wis} {a b : Expr} {apos : Pos} {f h : SE} (ho : PE X a (tD X.K W f)) (he : PE X b (tD X.K W h)) (hs : starEach [b] X.env = [(false, eval b X.env)] := by rfl)
    (hbase : attributeBase a "index" X.env (eval a X.env) = eval a X.env := by rfl) (hline : (apos.endLine == pos.line) = true := by rfl) :
    PE X (.Call (.Attribute a "index" apos) [b] [] pos) (tD X.K W (eML lindexD f h)) := by
  refine ⟨fun pins s σ H Q I hh => ?_⟩
  obtain ⟨ρ, hE, q⟩ := hh
  refine PySem.Call_method1 hbase hs hline (thn (ho.run pins s σ H _ I (tD_then hE q)) fun v s1 ⟨x, H1, I1, r1, q1⟩ => ?_)
  obtain ⟨d, hx, sm1, hE1, q1⟩ := q1
  obtain ⟨p, xs, ds, rfl, rfl, h1, h2⟩ : ∃ p xs ds, x = .ref p ∧ d = .list ds ∧ SqL X.K H1 p xs ∧ DpAll X.K H1 xs ds := by
    cases hx with
    | lst h1 h2 => exact ⟨_, _, _, rfl, rfl, h1, h2⟩
    | _ => exact q1.elim
  obtain rfl : v = Value.ref p := r1
  obtain ⟨its, rv, ⟨o, n, ho', hc, hdn, hd⟩, hz⟩ := I1.list h1
  refine ⟨"list", _, PySem.F.plainAttrs_list, PySem.F.slot_list_index, PySem.F.type_list_index, ⟨o, ho', hc⟩, (fun c e => by cases e; exact ⟨o, ho', hdn⟩), Calls.callWith_builtin rfl (Calls.evalArgs_plain (Calls.spliced_cons ?_))⟩
  refine thn (he.run pins s1 σ H1 _ I1 (tD_then hE1 q1)) fun u s2 ⟨y, H2, I2, r2, q2⟩ => Calls.spliced_nil ?_
  obtain ⟨e, hy, sm2, hE2, q2⟩ := q2
  obtain ⟨r, hr, q3⟩ := Res.post_of q2
  obtain ⟨z, rfl, rfl⟩ : ∃ z, e = .str z ∧ y = .str z := by
    cases hy with
    | str z => exact ⟨z, rfl, rfl⟩
    | _ => simp [lindexD] at hr
  simp only [lindexD, Option.bind_eq_some_iff] at hr
  obtain ⟨ys, hys, hr⟩ := hr
  split at hr <;> cases hr
  rename_i hzm
  rw [strsOf_map hys] at h2
  rw [dps_strs_of h2] at h1
  have hl := List.idxOf_lt_length_of_mem hzm
  refine mt_index pins s2 σ H2 (.ref p) [.str z] _ [u] Q I2 rfl (.cons r2 .nil) ⟨p, ys.map V.str, .str z, ys.idxOf z, .str z, rfl, rfl, sm2.seq h1, rfl, flat_strs ys, ?_, ?_, ?_, q3.now _ (.int _)⟩
  · rw [List.getElem?_map, List.getElem?_eq_getElem hl]
    simp
  · show (z == z) = true
    exact beq_self_eq_true z
  · intro m z' hmj e
    rw [List.getElem?_map] at e
    obtain ⟨w, hw, rfl⟩ := Option.map_eq_some_iff.mp e
    have := List.not_of_lt_findIdx (p := (· == z)) (xs := ys) (i := m) hmj
    obtain ⟨h1, h2⟩ := List.getElem?_eq_some_iff.mp hw
    rw [h2] at this
    show (w == z) = false
    simpa using this
theorem kit_ref {K : PySem.W.Frag} {U C : Addr} {b : Bool} (h : PySem.W.subIn K (.ref U) (.ref C) = some b) (hs : PySem.W.subIn K (.ref U) (.ref U) = some true) (hd : PySem.W.hasDictIn K C = true) (ty : PySem.W.typeIn K (.ref C) = some (.type "type")) : PySem.W.kitOne K (.ref U) (.ref C) = some b := by
  unfold PySem.W.kitOne
  split
  · rename_i e
    have e2 : Value.ref U = Value.ref C := eq_of_beq e
    cases e2
    rw [h] at hs
    exact hs.symm
  · obtain ⟨cd, hc, _⟩ := PySem.W.any_some hd
    have e2 : ((PySem.W.clsIn K C).isSome && PySem.W.typeIn K (.ref C) == some (.type "type")) = true := by rw [hc, ty] <;> rfl
    show (if ((PySem.W.clsIn K C).isSome && PySem.W.typeIn K (.ref C) == some (.type "type")) = true then PySem.W.subIn K (.ref U) (.ref C) else none) = some b
    rw [if_pos e2]
    exact h
theorem kit_val {K : PySem.W.Frag} {U : Addr} {b : Bool} (h : PySem.W.subIn K (.ref U) (.type "ValueError") = some b) : PySem.W.kitOne K (.ref U) (.type "ValueError") = some b := by
  unfold PySem.W.kitOne
  rw [if_neg (by intro e; cases eq_of_beq e)]
  show (if PySem.W.kitMeta "ValueError" = true then PySem.W.subIn K (.ref U) (.type "ValueError") else none) = some b
  rw [if_pos (by decide +kernel)]
  exact h
end
end DL

set_option Elab.async false
set_option linter.all false
set_option maxRecDepth 100000
set_option maxHeartbeats 2000000
/-! a list of one's own, changed in place; values that are told new -/
namespace DL
open PySem L2 PyProof.Rows
/-- a heap without a place -/
def wo (H : Hp) (p : Addr) : Hp := fun b => if b = p then none else H b
theorem wo_same {H H' : Hp} (e : Same H H') (p : Addr) : Same (wo H p) (wo H' p) := fun b o h => by
  unfold wo at h ⊢
  split at h
  · cases h
  · rename_i hb
    rw [if_neg hb]
    exact e b o h
theorem wo_le (H : Hp) (p : Addr) : Same (wo H p) H := fun b o h => by
  unfold wo at h
  split at h
  · cases h
  · exact h
theorem wo_ne {H : Hp} {p a : Addr} (h : a ≠ p) : wo H p a = H a := if_neg h
theorem wo_upd (H : Hp) (p : Addr) (o : HO) : wo (upd H p o) p = wo H p := by
  funext b
  unfold wo
  split
  · rfl
  · rename_i hb
    exact upd_ne hb
theorem none_on {B B' : Hp} {a : Addr} (e : Same B B') (h : B' a = none) : B a = none := by
  cases q : B a with
  | none => rfl
  | some o => rw [e _ _ q] at h; cases h
/-- below, without a place that was not there -/
theorem same_wo {B H : Hp} {p : Addr} (e : Same B H) (h : B p = none) : Same B (wo H p) := fun b o q => by
  rw [wo_ne (fun z => by subst z; rw [h] at q; cases q)]
  exact e b o q
theorem EnvR.blank {K : PySem.W.Frag} {H : Hp} {σ : L2.St} {ρ : PEnv} {i : Nat} {x : Option V} (h : EnvR K H σ ρ) : EnvR K H (σ.set i x) (ρ.set i none) := by
  refine ⟨by rw [List.length_set, List.length_set]; exact h.1, fun j e q => ?_⟩
  by_cases hj : i = j
  · subst hj
    have hl : i < ρ.length := by
      have z := (List.getElem?_eq_some_iff.mp q).1
      rw [List.length_set] at z
      exact z
    rw [List.getElem?_set_self hl] at q
    cases q
  · rw [List.getElem?_set_ne hj] at q
    obtain ⟨u, a, b⟩ := h.2 j e q
    exact ⟨u, by rw [List.getElem?_set_ne hj]; exact a, b⟩
/-- the own place -/
def OwnAt (K : PySem.W.Frag) (B H : Hp) (σ : L2.St) (ρ : PEnv) (i : Nat) : Prop := ∃ p xs ts, σ[i]? = some (some (.ref p)) ∧ B p = none ∧ H p = some (.lst xs) ∧ ρ[i]? = some (some (.list ts)) ∧ DpAll K H xs ts ∧ frzs ts = true ∧ EnvR K (wo H p) σ (ρ.set i none)
structure St (K : PySem.W.Frag) (B H : Hp) (σ : L2.St) (ρ : PEnv) (o : Option Nat) : Prop where
  base : Same B H
  env : EnvR K H σ ρ
  own : ∀ i, o = some i → OwnAt K B H σ ρ i
/-- what is told of a value: new: a list at a place that was not there -/
def told (K : PySem.W.Frag) (n : Bool) (B H' : Hp) (d : PyData) (v : V) : Prop := Dp K H' v d ∧ (n = true → ∃ a xs ts, v = .ref a ∧ d = .list ts ∧ B a = none ∧ H' a = some (.lst xs) ∧ DpAll K H' xs ts)
theorem told.on {K : PySem.W.Frag} {n : Bool} {B B' H' : Hp} {d : PyData} {v : V} (e : Same B B') (h : told K n B' H' d v) : told K n B H' d v := ⟨h.1, fun z => by
  obtain ⟨a, xs, ts, h1, h2, h3, h4, h5⟩ := h.2 z
  exact ⟨a, xs, ts, h1, h2, none_on e h3, h4, h5⟩⟩
theorem told_no {K : PySem.W.Frag} {B H' : Hp} {d : PyData} {v : V} (h : Dp K H' v d) : told K false B H' d v := ⟨h, fun z => by cases z⟩
theorem told_lst {K : PySem.W.Frag} {n : Bool} {B H' : Hp} {a : Addr} {xs : List V} {ts : List PyData} (h1 : B a = none) (h2 : H' a = some (.lst xs)) (h3 : DpAll K H' xs ts) : told K n B H' (.list ts) (.ref a) := ⟨.lst (SqL.of h2) h3, fun _ => ⟨a, xs, ts, rfl, rfl, h1, h2, h3⟩⟩
/-- frozen data reads without the list's place, too -/
theorem frz_wo {K : PySem.W.Frag} {H : Hp} {p : Addr} {xs : List V} (hp : H p = some (.lst xs)) : ∀ a ys, SqT K H a ys → SqT K (wo H p) a ys := fun a ys h => by
  rcases h with (h | ⟨o, h⟩) | h
  · refine .inl (.inl ?_)
    rw [wo_ne (fun e => by subst e; rw [hp] at h; cases h)]
    exact h
  · refine .inl (.inr ⟨o, ?_⟩)
    rw [wo_ne (fun e => by subst e; rw [hp] at h; cases h)]
    exact h
  · exact .inr h
section
variable {K : PySem.W.Frag} {B H H' : Hp} {σ : L2.St} {ρ : PEnv} {i j : Nat} {o : Option Nat}
theorem OwnAt.on (h : OwnAt K B H σ ρ i) (e : Same H H') : OwnAt K B H' σ ρ i := by
  obtain ⟨p, xs, ts, h1, h2, h3, h4, h5, h6, h7⟩ := h
  exact ⟨p, xs, ts, h1, h2, e _ _ h3, h4, dps_mono e _ _ h5, h6, h7.mono (wo_same e p)⟩
theorem St.on (h : St K B H σ ρ o) (e : Same H H') : St K B H' σ ρ o := ⟨h.base.trans e, h.env.mono e, fun i q => (h.own i q).on e⟩
theorem St.drop (h : St K B H σ ρ o) : St K B H σ ρ none := ⟨h.base, h.env, fun i q => by cases q⟩
theorem St.rebase {B' : Hp} (h : St K B' H σ ρ o) (e : Same B B') : St K B H σ ρ o := ⟨e.trans h.base, h.env, fun i q => by
  obtain ⟨p, xs, ts, h1, h2, h⟩ := h.own i q
  exact ⟨p, xs, ts, h1, none_on e h2, h⟩⟩
theorem st_none (e : Same B H) (h : EnvR K H σ ρ) : St K B H σ ρ none := ⟨e, h, fun i q => by cases q⟩
/-- another place gets a value that lies elsewhere -/
theorem St.put (h : St K B H σ ρ o) (hij : o ≠ some j) {v : V} {d : PyData} (hv : Dp K H v d) (hw : ∀ p xs, H p = some (.lst xs) → B p = none → (∃ i, o = some i ∧ σ[i]? = some (some (.ref p))) → Dp K (wo H p) v d) : St K B H (σ.set j (some v)) (ρ.set j (some d)) o := by
  refine ⟨h.base, h.env.set hv, fun i q => ?_⟩
  obtain ⟨p, xs, ts, h1, h2, h3, h4, h5, h6, h7⟩ := h.own i q
  have hj : i ≠ j := fun z => hij (by rw [q, z])
  refine ⟨p, xs, ts, by rw [List.getElem?_set_ne (Ne.symm hj)]; exact h1, h2, h3, by rw [List.getElem?_set_ne (Ne.symm hj)]; exact h4, h5, h6, ?_⟩
  rw [List.set_comm _ _ (Ne.symm hj)]
  exact h7.set (hw p xs h3 h2 ⟨i, q, h1⟩)
theorem St.putF (h : St K B H σ ρ o) (hij : o ≠ some j) {v : V} {d : PyData} (hz : frz d = true) (hv : Dp K H v d) : St K B H (σ.set j (some v)) (ρ.set j (some d)) o :=
  h.put hij hv fun p xs hp _ _ => frz_mono (frz_wo hp) d v hz hv
/-- another place gets a new list -/
theorem St.putN (h : St K B H σ ρ o) (hij : o ≠ some j) (e : Same H H') {v : V} {d : PyData} (hv : told K true H H' d v) (hz : ∀ ts, d = .list ts → frzs ts = true) : St K B H' (σ.set j (some v)) (ρ.set j (some d)) o := by
  obtain ⟨hd, hn⟩ := hv
  obtain ⟨a, xs, ts, rfl, rfl, h1, h2, h3⟩ := hn rfl
  refine (h.on e).put hij hd fun p ys hp hB ⟨i, hi, hs⟩ => ?_
  obtain ⟨p', xs', ts', g1, g2, g3, _⟩ := h.own i hi
  rw [g1] at hs
  cases hs
  have hap : a ≠ p := fun z => by subst z; rw [h1] at g3; cases g3
  exact .lst (SqL.of (by rw [wo_ne hap]; exact h2)) (frzs_mono (frz_wo hp) _ _ (hz ts rfl) h3)
/-- a place gets a new list as its own -/
theorem St.take (h : St K B H σ ρ o) (e : Same H H') {v : V} {ts : List PyData} (hv : told K true H H' (.list ts) v) (hz : frzs ts = true) (hi : i < ρ.length) : St K B H' (σ.set i (some v)) (ρ.set i (some (.list ts))) (some i) := by
  obtain ⟨hd, hn⟩ := hv
  obtain ⟨a, xs, ts', rfl, h0, h1, h2, h3⟩ := hn rfl
  cases h0
  refine ⟨h.base.trans e, (h.env.mono e).set hd, fun j q => ?_⟩
  cases q
  refine ⟨a, xs, ts, List.getElem?_set_self (by rw [← h.env.1]; exact hi), none_on h.base h1, h2, List.getElem?_set_self hi, h3, hz, ?_⟩
  rw [List.set_set]
  exact (h.env.mono (same_wo e h1)).blank
/-- the own list grows -/
theorem St.grow (h : St K B H σ ρ (some i)) {p : Addr} {xs ys : List V} {ts us : List PyData} (hs : σ[i]? = some (some (.ref p))) (hp : H p = some (.lst xs)) (hr : ρ[i]? = some (some (.list ts)))
    (hy : DpAll K (upd H p (.lst ys)) ys us) (hz : frzs us = true) : St K B (upd H p (.lst ys)) σ (ρ.set i (some (.list us))) (some i) := by
  obtain ⟨p', xs', ts', h1, h2, h3, h4, h5, h6, h7⟩ := h.own i rfl
  rw [h1] at hs
  cases hs
  have hB : Same B (upd H p (.lst ys)) := fun b o q => by
    rw [upd_ne (fun z => by subst z; rw [h2] at q; cases q)]
    exact h.base b o q
  have hil : i < ρ.length := (List.getElem?_eq_some_iff.mp hr).1
  have hw : EnvR K (wo (upd H p (.lst ys)) p) σ (ρ.set i none) := by rw [wo_upd]; exact h7
  have hd : Dp K (upd H p (.lst ys)) (.ref p) (.list us) := .lst (SqL.of upd_same) hy
  refine ⟨hB, ?_, fun j q => ?_⟩
  · refine ⟨by rw [List.length_set]; exact h.env.1, fun j e q => ?_⟩
    by_cases hj : i = j
    · subst hj
      rw [List.getElem?_set_self hil] at q
      cases q
      exact ⟨_, h1, hd⟩
    · rw [List.getElem?_set_ne hj] at q
      obtain ⟨v, a, b⟩ := (hw.mono (wo_le _ p)).2 j e (by rw [List.getElem?_set_ne hj]; exact q)
      exact ⟨v, a, b⟩
  · cases q
    exact ⟨p, ys, us, h1, h2, upd_same, List.getElem?_set_self hil, hy, hz, by rw [List.set_set]; exact hw⟩
end
theorem frzs_append : ∀ (as bs : List PyData), frzs (as ++ bs) = (frzs as && frzs bs)
  | [], bs => by simp [frzs]
  | a :: as, bs => by simp [frzs, frzs_append as bs, Bool.and_assoc]
theorem frzs_set : ∀ (as : List PyData) (k : Nat) (d : PyData), frzs as = true → frz d = true → frzs (as.set k d) = true
  | [], k, d, _, _ => rfl
  | a :: as, 0, d, h, hd => by
    simp only [frzs, Bool.and_eq_true] at h
    simp [frzs, hd, h.2]
  | a :: as, k + 1, d, h, hd => by
    simp only [frzs, Bool.and_eq_true] at h
    simp [frzs, h.1, frzs_set as k d h.2 hd]

/-! ### expressions that give what is new -/
def tE (K : PySem.W.Frag) (W : Wis) (n : Bool) (f : SE) : TE := fun σ H Q => ∃ ρ, EnvR K H σ ρ ∧ (f ρ).post (fun d => fut H fun H' => ∀ v, told K n H H' d v → Q v H') fun m => fut H (W m)
section
variable {X : Cx} {W : Wis} {a b c : Expr} {pos : Pos} {n : Bool}
theorem eN_D {f : SE} (h : PE X a (tE X.K W n f)) : PE X a (tD X.K W f) := pe_weak h fun σ H Q ⟨ρ, hE, q⟩ => ⟨ρ, hE, q.mono (fun d r H' s v hv => r H' s v hv.1) fun m r => r⟩
theorem eD_N {f : SE} (h : PE X a (tD X.K W f)) : PE X a (tE X.K W false f) := pe_weak h fun σ H Q ⟨ρ, hE, q⟩ => ⟨ρ, hE, q.mono (fun d r H' s v hv => r H' s v (told_no hv)) fun m r => r⟩
theorem en_lst {es : List Expr} {f : SA} (h : PA X es (taD X.K W f)) : PE X (.List es pos) (tE X.K W true (eLst f)) := by
  refine pe_weak (pe_lst h) fun σ H Q h => ?_
  obtain ⟨ρ, hE, q⟩ := h
  refine ⟨ρ, hE, (Res.post_bind.mp q).mono (fun ds q1 H1 s1 xs hxs => ?_) fun m r => r⟩
  split at q1
  · rename_i hz
    exact ⟨by rw [dps_len hxs]; exact Nat.le_trans hz big_line, fun p hp => q1 _ (s1.trans (same_new hp _)) _ (told_lst (none_on s1 hp) upd_same (dps_mono (same_new hp _) _ _ hxs))⟩
  · exact q1.elim
theorem en_list {p : Pos} {f : SA} (hm : X.mg "list" = none) (ha : PA X [a] (taD X.K W f)) (hg : Gl X "list" := by rfl) (he : starEach [a] X.env = (false, eval a X.env) :: starEach [] X.env := by rfl) (hpl : (backTo pos (starEach [] X.env)).any (·.1) = false := by rfl) :
    PE X (.Call (.Name "list" p) [a] [] pos) (tE X.K W true (eArgs listD f)) := by
  refine pe_weak (pe_callTy call_list_of hg hm (by decide +kernel) ha (by decide) (by decide) he hpl) fun σ H Q h => ?_
  obtain ⟨ρ, hE, q⟩ := h
  refine ⟨ρ, hE, (Res.post_bind.mp q).mono (fun ds q1 H1 s1 xs hxs => ?_) fun m r => r⟩
  obtain ⟨r, hr, q2⟩ := Res.post_of q1
  match ds, xs, hxs, hr with
  | [.list xs], _, .cons (.lst h1 h2) .nil, hg =>
    simp only [listD, Option.some.injEq] at hg
    subst hg
    exact ⟨_, _, rfl, .inl h1, fun p hp => q2 _ (s1.trans (same_new hp _)) _ (told_lst (none_on s1 hp) upd_same (dps_mono (same_new hp _) _ _ h2))⟩
  | [.tuple xs], _, .cons (.tup h1 h2) .nil, hg =>
    simp only [listD, Option.some.injEq] at hg
    subst hg
    exact ⟨_, _, rfl, .inr h1, fun p hp => q2 _ (s1.trans (same_new hp _)) _ (told_lst (none_on s1 hp) upd_same (dps_mono (same_new hp _) _ _ h2))⟩
end

/-! ### statements -/
def outG (K : PySem.W.Frag) (n : Bool) (B : Hp) (o : Option Nat) (D : Ends) : Out → Prop
  | .nx ρ' => ∀ σ' H', St K B H' σ' ρ' o → D.nx σ' H'
  | .rt d => ∀ H', Same B H' → ∀ v, told K n B H' d v → D.rt v H'
  | .bk _ => False
  | .ct _ => False
def tsG (K : PySem.W.Frag) (W : Wis) (n : Bool) (o o' : Option Nat) (F : SS) : TS := fun D σ H => ∃ B ρ, St K B H σ ρ o ∧ (F ρ).post (outG K n B o' D) fun m => fut B (W m)
/-- no value is returned -/
def noRt (F : SS) : Prop := ∀ ρ d, F ρ ≠ .ok (.rt d)
section
variable {X : Cx} {W : Wis} {a b tg : Expr} {pos : Pos} {st : Stmt} {rest : List Stmt} {F G : SS} {n : Bool} {o o' m : Option Nat} {i j : Nat}
theorem g_of {K : PySem.W.Frag} {D : Ends} {σ : L2.St} {H : Hp} (hn : n = false ∨ noRt F) (q : tsG K W n o none F D σ H) : tsD K W F D σ H := by
  obtain ⟨B, ρ, hS, q⟩ := q
  refine ⟨ρ, hS.env, ?_⟩
  cases hF : F ρ with
  | bad => rw [hF] at q; exact q.elim
  | ex k => rw [hF] at q; exact fun H' s => q H' (hS.base.trans s)
  | ok r =>
    rw [hF] at q
    cases r with
    | nx ρ' => exact fun H' s σ' hE => q σ' H' (st_none (hS.base.trans s) hE)
    | rt d =>
      rcases hn with rfl | hn
      · exact fun H' s v hv => q H' (hS.base.trans s) v (told_no hv)
      · exact absurd hF (hn ρ d)
    | bk ρ' => exact q.elim
    | ct ρ' => exact q.elim
/-- what stands as data, among these; what was owned is let go -/
theorem psG_d (h : PS X st (tsD X.K W F)) (hn : n = false ∨ noRt F) : PS X st (tsG X.K W n o none F) := ps_weak h fun D σ H q => g_of hn q
theorem pssG_d {ss : List Stmt} (h : PSs X ss (tsD X.K W F)) (hn : n = false ∨ noRt F) : PSs X ss (tsG X.K W n o none F) := pss_weak h fun D σ H q => g_of hn q
theorem d_of {K : PySem.W.Frag} {D : Ends} {σ : L2.St} {H : Hp} (q : tsD K W F D σ H) (hb : ∀ ρ ρ', F ρ ≠ .ok (.bk ρ') ∧ F ρ ≠ .ok (.ct ρ')) : tsG K W n none o F D σ H := by
  obtain ⟨ρ, hE, q⟩ := q
  refine ⟨H, ρ, st_none (Same.refl H) hE, ?_⟩
  cases hF : F ρ with
  | bad => rw [hF] at q; exact q.elim
  | ex k => rw [hF] at q; exact q
  | ok r =>
    rw [hF] at q
    cases r with
    | nx ρ' => exact fun σ' H' hS => q H' hS.base σ' hS.env
    | rt d => exact fun H' s v hv => q H' s v hv.1
    | bk ρ' => exact absurd hF (hb ρ ρ').1
    | ct ρ' => exact absurd hF (hb ρ ρ').2
/-- a block with owned lists, as data: it breaks off nothing -/
def noBk (F : SS) : SS := fun ρ => (F ρ).bind fun r => match r with
  | .bk _ => .bad
  | .ct _ => .bad
  | r => .ok r
@[simp] theorem noBk_ap {ρ : PEnv} : noBk F ρ = (F ρ).bind fun r => match r with
  | .bk _ => .bad
  | .ct _ => .bad
  | r => .ok r := nrfl rfl
theorem d_noBk {K : PySem.W.Frag} {D : Ends} {σ : L2.St} {H : Hp} (q : tsD K W (noBk F) D σ H) : tsG K W n none o F D σ H := by
  obtain ⟨ρ, hE, q⟩ := q
  refine ⟨H, ρ, st_none (Same.refl H) hE, ?_⟩
  unfold noBk at q
  cases hF : F ρ with
  | bad => rw [hF] at q; exact q.elim
  | ex k => rw [hF] at q; exact q
  | ok r =>
    rw [hF] at q
    cases r with
    | nx ρ' => exact fun σ' H' hS => q H' hS.base σ' hS.env
    | rt d => exact fun H' s v hv => q H' s v hv.1
    | bk ρ' => exact q.elim
    | ct ρ' => exact q.elim
theorem pssD_g {ss : List Stmt} (h : PSs X ss (tsG X.K W n none o F)) : PSs X ss (tsD X.K W (noBk F)) := pss_weak h fun D σ H q => d_noBk q
theorem psD_g (h : PS X st (tsG X.K W n none o F)) : PS X st (tsD X.K W (noBk F)) := ps_weak h fun D σ H q => d_noBk q
/-- the own list is let go behind -/
theorem outG_drop {K : PySem.W.Frag} {B : Hp} {D : Ends} {r : Out} (h : outG K n B none D r) : outG K n B o D r := by
  cases r with
  | nx ρ' => exact fun σ' H' hS => h σ' H' hS.drop
  | rt d => exact h
  | bk ρ' => exact h
  | ct ρ' => exact h
theorem psG_drop (h : PS X st (tsG X.K W n m o F)) : PS X st (tsG X.K W n m none F) := ps_weak h fun D σ H ⟨B, ρ, hS, q⟩ => ⟨B, ρ, hS, q.mono (fun r z => outG_drop z) fun k z => z⟩
theorem pssG_drop {ss : List Stmt} (h : PSs X ss (tsG X.K W n m o F)) : PSs X ss (tsG X.K W n m none F) := pss_weak h fun D σ H ⟨B, ρ, hS, q⟩ => ⟨B, ρ, hS, q.mono (fun r z => outG_drop z) fun k z => z⟩
theorem pssG_nil : PSs X [] (tsG X.K W n o o sNext) := pss_weak pss_nil fun D σ H ⟨B, ρ, hS, q⟩ => q σ H hS
theorem pssG_cons (h1 : PS X st (tsG X.K W n o m F)) (h2 : PSs X rest (tsG X.K W n m o' G)) : PSs X (st :: rest) (tsG X.K W n o o' (sSeq F G)) := pss_weak (pss_cons h1 h2) fun D σ H ⟨B, ρ, hS, q⟩ => by
  refine ⟨B, ρ, hS, (Res.post_bind.mp q).mono (fun r z => ?_) fun k z => z⟩
  cases r with
  | nx ρ' => exact fun σ' H' hS' => ⟨B, ρ', hS', z⟩
  | rt d => exact z
  | bk ρ' => exact z.elim
  | ct ρ' => exact z.elim
theorem pssG_one (h1 : PS X st (tsG X.K W n o o' F)) : PSs X [st] (tsG X.K W n o o' F) := pss_one h1
/-- an expression's reading among these -/
theorem tE_then {K : PySem.W.Frag} {B H : Hp} {σ : L2.St} {ρ : PEnv} {f : SE} {g : PyData → Res Out} {D : Ends} {k : Bool} {r : Out → Prop} (hS : St K B H σ ρ o) (h : ((f ρ).bind g).post r fun m => fut B (W m)) {Q : VK}
    (w : ∀ d v H1, Same H H1 → told K k H H1 d v → St K B H1 σ ρ o → (g d).post r (fun m => fut B (W m)) → Q v H1) : tE K W k f σ H Q :=
  ⟨ρ, hS.env, (Res.post_bind.mp h).mono (fun d q H1 s v hv => w d v H1 s hv (hS.on s) q) fun m q => q.on hS.base⟩
theorem psG_bad : PS X st (tsG X.K W n o o sBad) := ⟨fun pins s σ H D I q => by
  obtain ⟨B, ρ, hS, q⟩ := q
  exact q.elim⟩
theorem psG_if {t : ST} {c : Expr} {a b : List Stmt} (hc : PT X c (ttD X.K W t)) (ha : PSs X a (tsG X.K W n o o' F)) (hb : PSs X b (tsG X.K W n o o' G)) : PS X (.If c a b pos) (tsG X.K W n o o' (sIf t F G)) :=
  ps_weak (ps_if hc ha hb) fun D σ H ⟨B, ρ, hS, q⟩ => by
    refine ⟨ρ, hS.env, (Res.post_bind.mp q).mono (fun k q1 H1 s => ?_) fun m q => q.on hS.base⟩
    cases k with
    | true => exact iteT ⟨B, ρ, hS.on s, q1⟩
    | false => exact iteF ⟨B, ρ, hS.on s, q1⟩
/-- a return: what is told of it -/
theorem psG_ret {f : SE} (he : PE X a (tE X.K W n f)) : PS X (.Return (some a) pos) (tsG X.K W n o o (sRet f)) := ps_weak (ps_ret he) fun D σ H ⟨B, ρ, hS, q⟩ =>
  tE_then (D := D) hS q fun d v H1 s hv hS1 q1 => q1 H1 hS1.base v (hv.on hS.base)
/-- the own list is returned -/
theorem psG_own {x : Str} {p : Pos} (hN : X.N[i]? = some x := by rfl) (hv : Vis X.env.scope x := by first | exact Or.inl rfl | exact Or.inr (Or.inl rfl) | exact Or.inr (Or.inr rfl)) (hd : (x == ("__debug__" : Str)) = false := by decide)
    (hcd : (x == ("__classdict__" : Str)) = false := by decide) : PS X (.Return (some (.Name x p)) pos) (tsG X.K W n (some i) (some i) (sRet (eVar i))) :=
  ps_weak (ps_ret (pe_var (i := i) hN hv hd hcd)) fun D σ H ⟨B, ρ, hS, q⟩ => by
    obtain ⟨p, xs, ts, h1, h2, h3, h4, h5, h6, h7⟩ := hS.own i rfl
    unfold sRet eVar at q
    rw [h4] at q
    exact ⟨_, h1, q H hS.base _ (told_lst h2 h3 h5)⟩
/-- another place gets frozen data -/
def sSetF (j : Nat) (f : SE) : SS := fun ρ => (f ρ).bind fun d => if frz d then .ok (.nx (ρ.set j (some d))) else .bad
@[simp] theorem sSetF_ap {j : Nat} {f : SE} {ρ : PEnv} : sSetF j f ρ = (f ρ).bind fun d => if frz d then .ok (.nx (ρ.set j (some d))) else .bad := nrfl rfl
theorem psG_set {j : Nat} {x : Str} {f : SE} {pos' : Pos} (hij : o ≠ some j) (hN : X.N.Nodup) (he : PE X a (tD X.K W f)) (hi : X.N[j]? = some x := by rfl) (hx : Loc X.env.scope x := by first | exact Or.inl rfl | exact Or.inr rfl) (hs : swapsWith a (some (.Name x pos')) pos.line X.env = pure false := by rfl)
    (hf : X.fn x = true ∨ X.env.scope.names.lookup x = some .local := by first | exact .inl rfl | exact .inr rfl | assumption) : PS X (.Assign [.Name x pos'] a pos) (tsG X.K W n o o (sSetF j f)) :=
  ps_weak (ps_set hN hi hx (eD_N he) hs hf) fun D σ H ⟨B, ρ, hS, q⟩ => tE_then (D := D) hS q fun d v H1 s hv hS1 q1 => by
    split at q1
    · rename_i hz
      exact q1 _ _ (hS1.putF hij hz hv.1)
    · exact q1.elim
/-- another place gets a new list of frozen data -/
def sSetN (j : Nat) (f : SE) : SS := fun ρ => (f ρ).bind fun d => match d with
  | .list ts => if frzs ts then .ok (.nx (ρ.set j (some (.list ts)))) else .bad
  | _ => .bad
@[simp] theorem sSetN_ap {j : Nat} {f : SE} {ρ : PEnv} : sSetN j f ρ = (f ρ).bind fun d => match d with
  | .list ts => if frzs ts then .ok (.nx (ρ.set j (some (.list ts)))) else .bad
  | _ => .bad := nrfl rfl
theorem putN_at {K : PySem.W.Frag} {B H H1 : Hp} {D : Ends} {σ : L2.St} {ρ : PEnv} {d : PyData} {v : V} (hij : o ≠ some j) (hS : St K B H σ ρ o) (s : Same H H1) (hv : told K true H H1 d v) (q1 : (match d with
  | .list ts => if frzs ts then Res.ok (Out.nx (ρ.set j (some (.list ts)))) else .bad
  | _ => .bad).post (outG K n B o D) fun m => fut B (W m)) : D.nx (σ.set j (some v)) H1 := by
  split at q1
  · split at q1
    · rename_i hz
      exact q1 _ _ (hS.putN hij s hv fun us e => by cases e; exact hz)
    · exact q1.elim
  · exact q1.elim
theorem psG_setN {j : Nat} {x : Str} {f : SE} {pos' : Pos} (hij : o ≠ some j) (hN : X.N.Nodup) (he : PE X a (tE X.K W true f)) (hi : X.N[j]? = some x := by rfl) (hx : Loc X.env.scope x := by first | exact Or.inl rfl | exact Or.inr rfl) (hs : swapsWith a (some (.Name x pos')) pos.line X.env = pure false := by rfl)
    (hf : X.fn x = true ∨ X.env.scope.names.lookup x = some .local := by first | exact .inl rfl | exact .inr rfl | assumption) : PS X (.Assign [.Name x pos'] a pos) (tsG X.K W n o o (sSetN j f)) :=
  ps_weak (ps_set hN hi hx he hs hf) fun D σ H ⟨B, ρ, hS, q⟩ => tE_then (D := D) hS q fun d v H1 s hv hS1 q1 => putN_at hij hS s hv q1
/-- a place gets a new list as its own -/
def sTake (i : Nat) (f : SE) : SS := fun ρ => (f ρ).bind fun d => match d with
  | .list ts => if frzs ts then if i < ρ.length then .ok (.nx (ρ.set i (some (.list ts)))) else .bad else .bad
  | _ => .bad
@[simp] theorem sTake_ap {j : Nat} {f : SE} {ρ : PEnv} : sTake j f ρ = (f ρ).bind fun d => match d with
  | .list ts => if frzs ts then if j < ρ.length then .ok (.nx (ρ.set j (some (.list ts)))) else .bad else .bad
  | _ => .bad := nrfl rfl
theorem psG_take {x : Str} {f : SE} {pos' : Pos} (hN : X.N.Nodup) (he : PE X a (tE X.K W true f)) (hi : X.N[i]? = some x := by rfl) (hx : Loc X.env.scope x := by first | exact Or.inl rfl | exact Or.inr rfl) (hs : swapsWith a (some (.Name x pos')) pos.line X.env = pure false := by rfl)
    (hf : X.fn x = true ∨ X.env.scope.names.lookup x = some .local := by first | exact .inl rfl | exact .inr rfl | assumption) : PS X (.Assign [.Name x pos'] a pos) (tsG X.K W n o (some i) (sTake i f)) :=
  ps_weak (ps_set hN hi hx he hs hf) fun D σ H ⟨B, ρ, hS, q⟩ => tE_then (D := D) hS q fun d v H1 s hv hS1 q1 => by
    split at q1
    · split at q1
      · rename_i hz
        split at q1
        · rename_i hl
          exact q1 _ _ (hS.take s hv hz hl)
        · exact q1.elim
      · exact q1.elim
    · exact q1.elim
/-- the own list, appended to -/
def sApp (i : Nat) (f : SE) : SS := fun ρ => (f ρ).bind fun d => match ρ[i]? with
  | some (some (.list ts)) => if frz d then if ts.length < big then .ok (.nx (ρ.set i (some (.list (ts ++ [d]))))) else .bad else .bad
  | _ => .bad
@[simp] theorem sApp_ap {j : Nat} {f : SE} {ρ : PEnv} : sApp j f ρ = (f ρ).bind fun d => match ρ[j]? with
  | some (some (.list ts)) => if frz d then if ts.length < big then .ok (.nx (ρ.set j (some (.list (ts ++ [d]))))) else .bad else .bad
  | _ => .bad := nrfl rfl
theorem psG_app {x : Str} {p apos cpos : Pos} {e : Expr} {f : SE} (he : PE X e (tD X.K W f)) (hN : X.N[i]? = some x := by rfl) (hv : Vis X.env.scope x := by first | exact Or.inl rfl | exact Or.inr (Or.inl rfl) | exact Or.inr (Or.inr rfl)) (hd : (x == ("__debug__" : Str)) = false := by decide)
    (hcd : (x == ("__classdict__" : Str)) = false := by decide) (hbase : attributeBase (.Name x p) "append" X.env (eval (.Name x p) X.env) = eval (.Name x p) X.env := by rfl)
    (hfew : ((backTo cpos (starEach [e] X.env)).all (fun x => !x.1) && (backToKw cpos (keywordEach [] X.env)).all (fun x => x.1.isSome) && decide (([e] : List Expr).length + ([] : List Keyword).length + (if ([] : List Keyword).isEmpty then 0 else 1) < 30)) = true := by rfl)
    (hline : (apos.endLine == cpos.line) = true := by rfl) (hs : starEach [e] X.env = (false, eval e X.env) :: starEach [] X.env := by rfl) (hplain : (backTo cpos (starEach [] X.env)).any (·.1) = false := by rfl)
    (hsw : swapsWith (.Call (.Attribute (.Name x p) "append" apos) [e] [] cpos) none pos.line X.env = pure false := by rfl) :
    PS X (.Expr (.Call (.Attribute (.Name x p) "append" apos) [e] [] cpos) pos) (tsG X.K W n (some i) (some i) (sApp i f)) :=
  ps_weak (ps_expr (pe_bm PySem.F.plainAttrs_list PySem.F.slot_list_append PySem.F.type_list_append mt_append (pe_var (i := i) hN hv hd hcd) (pa_cons (eD_N he) pa_nil hs) hbase hfew hline hs hplain) hsw) fun D σ H ⟨B, ρ, hS, q⟩ => by
    obtain ⟨p, xs, ts, h1, h2, h3, h4, h5, h6, h7⟩ := hS.own i rfl
    refine ⟨_, h1, .inl ⟨rfl, xs, SqL.of h3⟩, ?_⟩
    refine tE_then (D := D) hS q fun d v H1 s hv hS1 q1 => ?_
    rw [h4] at q1
    dsimp only at q1
    split at q1
    · rename_i hz
      split at q1
      · rename_i hl
        have hp1 := s _ _ h3
        have hlen := dps_len h5
        have hb := big_line
        refine ⟨p, xs, v, rfl, rfl, hp1, by omega, ?_⟩
        refine q1 _ _ (hS1.grow h1 hp1 h4 (dps_append (frzs_mono (sqT_lst hp1) _ _ h6 (dps_mono s _ _ h5)) (.cons (frz_mono (sqT_lst hp1) _ _ hz hv.1) .nil)) ?_)
        rw [frzs_append, h6]
        simp [frzs, hz]
      · exact q1.elim
    · exact q1.elim
/-- a loop over frozen data -/
def gF (j : Nat) : SG := fun d ρ => if frz d then some (ρ.set j (some d)) else none
@[simp] theorem gF_ap {j : Nat} {d : PyData} {ρ : PEnv} : gF j d ρ = if frz d then some (ρ.set j (some d)) else none := nrfl rfl
/-- what is walked lies not in a list of the start -/
def tiN (K : PySem.W.Frag) (W : Wis) (f : SA) : TI := fun σ H R => ∃ ρ, EnvR K H σ ρ ∧ (f ρ).post (fun ds => fut H fun H' => ∀ J, Walks K J H' ds → (∀ p ys, H p = some (.lst ys) → Walks K J (wo H' p) ds) → R J H') fun m => fut H (W m)
theorem St.loop {K : PySem.W.Frag} {B H H1 : Hp} {σ : L2.St} {ρ : PEnv} (h : St K B H σ ρ o) (s : Same H H1) {J : It} {ds : List PyData} (h1 : Walks K J H1 ds) (h2 : ∀ p ys, H p = some (.lst ys) → Walks K J (wo H1 p) ds) :
    ∃ B1, Same B B1 ∧ St K B1 H1 σ ρ o ∧ Walks K J B1 ds := by
  have hS := h.on s
  cases o with
  | none => exact ⟨H1, hS.base, ⟨Same.refl _, hS.env, fun i q => by cases q⟩, h1⟩
  | some i =>
    obtain ⟨p, xs, ts, g1, g2, g3, g4, g5, g6, g7⟩ := h.own i rfl
    refine ⟨wo H1 p, same_wo hS.base g2, ⟨wo_le _ _, hS.env, fun j q => ?_⟩, h2 p xs g3⟩
    cases q
    exact ⟨p, xs, ts, g1, if_pos rfl, s _ _ g3, g4, dps_mono s _ _ g5, g6, g7.mono (wo_same s p)⟩
theorem outG_on {K : PySem.W.Frag} {B B' : Hp} {D : Ends} {r : Out} (e : Same B B') (h : outG K n B o D r) : outG K n B' o D r := by
  cases r with
  | nx ρ' => exact fun σ' H' hS => h σ' H' (hS.rebase e)
  | rt d => exact fun H' s v hv => h H' (e.trans s) v (hv.on e)
  | bk ρ' => exact h
  | ct ρ' => exact h
theorem psG_for {x : Str} {tpos : Pos} {iter : Expr} {body : List Stmt} {src : SA} (hij : o ≠ some j) (hN : X.N.Nodup) (hp : PassesOwn (model X.prog X.w) X.A X.env X.xe) (hc : X.calm = true) (hi : PI X (.Name x tpos) iter (tiN X.K W src)) (hb : PSs X body (tsG X.K W n o o F))
    (hj : X.N[j]? = some x := by rfl) (hx : Loc X.env.scope x := by first | exact Or.inl rfl | exact Or.inr rfl) (hf : X.fn x = true ∨ X.env.scope.names.lookup x = some .local := by first | exact .inl rfl | exact .inr rfl | assumption)
    (hs : ∀ x, foldedSetIterable iter X.env x = pure x := by intro _; rfl) : PS X (.For (.Name x tpos) iter body [] pos) (tsG X.K W n o o (sFor src (gF j) (noBk F))) := by
  refine ps_weak (ps_for hp hc hi (pg_name hN hj hx hf) hb hs) fun D σ H ⟨B, ρ, hS, q⟩ => ?_
  refine ⟨ρ, hS.env, (Res.post_bind.mp q).mono (fun ds r H1 s1 J hJ hJ2 => ?_) fun m q => q.on hS.base⟩
  obtain ⟨B1, e1, hS1, hW⟩ := hS.loop s1 hJ hJ2
  have r1 : (forGo (gF j) (noBk F) ds ρ).post (outG X.K n B1 o D) fun m => fut B1 (W m) := r.mono (fun z q => outG_on e1 q) fun m q => q.on e1
  clear r
  refine ⟨fun k m σ' H' => m = ds.length - k ∧ k ≤ ds.length ∧ ∃ ρ', St X.K B1 H' σ' ρ' o ∧ (forGo (gF j) (noBk F) (ds.drop k) ρ').post (outG X.K n B1 o D) fun m => fut B1 (W m),
    ⟨ds.length, by simp, Nat.zero_le _, ρ, hS1, by rw [List.drop_zero]; exact r1⟩, ?_⟩
  rintro k m σ' H' ⟨rfl, hk, ρ', hS', r'⟩
  obtain ⟨w1, w2⟩ := hW k H' hS'.base
  by_cases hlt : k < ds.length
  · have hx : ds[k]? = some ds[k] := List.getElem?_eq_getElem hlt
    obtain ⟨go, yl⟩ := w1 _ hx
    refine .inr ⟨go, fun σ2 H2 => ∃ ρ', St X.K B1 H2 σ2 ρ' o ∧ (forGo (gF j) (noBk F) (ds.drop (k + 1)) ρ').post (outG X.K n B1 o D) fun m => fut B1 (W m), fun σ2 H2 h2 => ⟨ds.length - (k + 1), by omega, rfl, hlt, h2⟩, fun x H2 y => ?_⟩
    obtain ⟨e2, hdx⟩ := yl x H2 y
    subst e2
    rw [List.drop_eq_getElem_cons hlt] at r'
    obtain ⟨ρ1, h1, r1⟩ := Res.post_of (Res.post_bind.mp r')
    simp only [gF] at h1
    split at h1
    · rename_i hz
      cases h1
      refine ⟨B1, _, hS'.putF hij hz hdx, ?_⟩
      rw [noBk_ap] at r1
      cases hF : F (ρ'.set j (some ds[k])) with
      | bad => rw [hF] at r1; exact r1.elim
      | ex m => rw [hF] at r1; exact r1
      | ok z =>
        rw [hF] at r1
        cases z with
        | nx ρ2 => exact fun σ3 H3 hS3 => ⟨ρ2, hS3, r1⟩
        | rt d => exact r1
        | bk ρ2 => exact r1.elim
        | ct ρ2 => exact r1.elim
    · cases h1
  · have e : k = ds.length := by omega
    subst e
    rw [List.drop_length] at r'
    exact .inl ⟨w2 (Nat.le_refl _), r' σ' H' hS'⟩
/-! what is walked -/
theorem walks_wo {K : PySem.W.Frag} {J : It} {H : Hp} {p : Addr} {ds : List PyData} (h : ∀ H, Walks K J H ds) : Walks K J (wo H p) ds := h _
theorem in_rng1 {f : SA} {p : Pos} (hm : X.mg "range" = none) (ha : PA X [a] (taD X.K W f)) (hg : Gl X "range" := by rfl) (hs : starEach [a] X.env = [(false, eval a X.env)] := by rfl) : PI X tg (.Call (.Name "range" p) [a] [] pos) (tiN X.K W (sRng1 f)) :=
  pi_weak (pi_range1 hg hm ha hs) fun σ H R q => by
  obtain ⟨ρ, hE, q⟩ := q
  refine ⟨ρ, hE, (Res.post_bind.mp q).mono (fun d q1 H1 s1 x hx => ?_) fun m q => q⟩
  split at q1
  · split at q1
    · rename_i j hj
      cases hx with
      | cons h1 h2 =>
        cases h1; cases h2
        simp only [big] at hj
        exact ⟨j, rfl, by omega, by omega, q1 _ s1 _ walks_rng fun _ _ _ => walks_rng⟩
    · exact q1.elim
  · exact q1.elim
theorem in_rng2 {f : SA} {p : Pos} (hm : X.mg "range" = none) (ha : PA X [a, b] (taD X.K W f)) (hg : Gl X "range" := by rfl) (hs : starEach [a, b] X.env = [(false, eval a X.env), (false, eval b X.env)] := by rfl) (hs2 : starEach [b] X.env = [(false, eval b X.env)] := by rfl) :
    PI X tg (.Call (.Name "range" p) [a, b] [] pos) (tiN X.K W (sRng2 f)) := pi_weak (pi_range2 hg hm ha hs hs2) fun σ H R q => by
  obtain ⟨ρ, hE, q⟩ := q
  refine ⟨ρ, hE, (Res.post_bind.mp q).mono (fun d q1 H1 s1 x hx => ?_) fun m q => q⟩
  split at q1
  · split at q1
    · rename_i i j hj
      cases hx with
      | cons h1 h2 =>
        cases h1
        cases h2 with
        | cons h1 h2 =>
        cases h1; cases h2
        simp only [big] at hj
        exact ⟨i, j, rfl, by omega, q1 _ s1 _ walks_rng fun _ _ _ => walks_rng⟩
    · exact q1.elim
  · exact q1.elim
def sListF (f : SE) : SA := fun ρ => (f ρ).bind fun x => match x with
  | .list xs => if frzs xs then .ok xs else .bad
  | _ => .bad
@[simp] theorem sListF_ap {f : SE} {ρ : PEnv} : sListF f ρ = (f ρ).bind fun x => match x with
  | .list xs => if frzs xs then .ok xs else .bad
  | _ => .bad := nrfl rfl
theorem in_list {f : SE} (h : PE X a (tE X.K W true f)) : PI X tg a (tiN X.K W (sListF f)) := pi_weak (pi_list h) fun σ H R q => by
  obtain ⟨ρ, hE, q⟩ := q
  refine ⟨ρ, hE, (Res.post_bind.mp q).mono (fun d q1 H1 s1 x hx => ?_) fun m q => q⟩
  obtain ⟨hd, hn⟩ := hx
  obtain ⟨l, xs, ts, rfl, rfl, h1, h2, h3⟩ := hn rfl
  dsimp only at q1
  split at q1
  · rename_i hz
    refine ⟨_, rfl, ⟨_, SqL.of h2⟩, q1 _ s1 _ (walks_lst (SqL.of h2) h3) fun p ys hp => ?_⟩
    have hlp : l ≠ p := fun z => by subst z; rw [h1] at hp; cases hp
    exact walks_lst (SqL.of (by rw [wo_ne hlp]; exact h2)) (frzs_mono (frz_wo (s1 _ _ hp)) _ _ hz h3)
  · exact q1.elim
def eCutL (f : SE) (l u : PEnv → Res (Option Int)) : SE := fun ρ => (f ρ).bind fun x => (l ρ).bind fun lo => (u ρ).bind fun hi => match x with
  | .list xs => .ok (.list (cutP xs lo hi))
  | _ => .bad
@[simp] theorem eCutL_ap {f : SE} {l u : PEnv → Res (Option Int)} {ρ : PEnv} : eCutL f l u ρ = (f ρ).bind fun x => (l ρ).bind fun lo => (u ρ).bind fun hi => match x with
  | .list xs => .ok (.list (cutP xs lo hi))
  | _ => .bad := nrfl rfl
theorem en_cut {f : SE} {l u : PEnv → Res (Option Int)} {lo hi : Option Expr} {p2 : Pos} (ha : PE X a (tD X.K W f)) (hl : PO X lo (toD X.K W l)) (hu : PO X hi (toD X.K W u)) : PE X (.Subscript a (.Slice lo hi none p2) pos) (tE X.K W true (eCutL f l u)) := by
  refine pe_weak (pe_slice sl_list ha hl hu) fun σ H Q h => ?_
  obtain ⟨ρ, hE, q⟩ := h
  refine ⟨ρ, hE, (Res.post_bind.mp q).mono (fun d q1 H1 s1 x hx => ?_) fun m q => q⟩
  refine ⟨ρ, hE.mono s1, (Res.post_bind.mp q1).mono (fun lo' q2 H2 s2 => ?_) fun m q => q.on s1⟩
  refine ⟨ρ, (hE.mono s1).mono s2, (Res.post_bind.mp q2).mono (fun hi' q3 H3 s3 => ?_) fun m q => q.on (s1.trans s2)⟩
  have hx := dp_mono (s2.trans s3) _ _ hx
  have s := (s1.trans s2).trans s3
  cases hx with
  | lst h1 h2 => exact ⟨_, _, rfl, h1, fun p hp => q3 _ (s.trans (same_new hp _)) _ (told_lst (none_on s hp) upd_same (dps_mono (same_new hp _) _ _ (dps_cut _ _ h2)))⟩
  | _ => exact q3.elim
end
end DL

set_option Elab.async false
set_option linter.all false
set_option maxRecDepth 100000
set_option maxHeartbeats 2000000
/-! owned lists: comprehensions, loops, defs that tell what is new -/
namespace DL
open PySem L2 PyProof.Rows
theorem lcN_then {K : PySem.W.Frag} {i : Nat} {src : SA} {t : ST} {f : SE} {σ : L2.St} {H : Hp} {Q : VK} (q : tE K W true (eLc i src t f) σ H Q) :
    tLc (tiD K W src) (gName i) (ttD K (fun _ _ => False) t) (tD K (fun _ _ => False) f) [i] σ H Q := by
  obtain ⟨ρ, hE, q⟩ := q
  unfold eLc at q
  refine ⟨ρ, hE, (Res.post_bind.mp q).mono (fun xs r H1 s1 J hJ D hD => ?_) fun n r => r⟩
  split at r
  · rename_i hz
    generalize hg : Res.calm (lcGo (fun d => (ρ.set i none).set i (some d)) t f xs) = g at r
    cases g with
    | bad => exact r.elim
    | ex n => cases hq : lcGo (fun d => (ρ.set i none).set i (some d)) t f xs <;> rw [hq] at hg <;> cases hg
    | ok tot =>
      have hg2 : lcGo (fun d => (ρ.set i none).set i (some d)) t f xs = .ok tot := by
        cases hq : lcGo (fun d => (ρ.set i none).set i (some d)) t f xs <;> rw [hq] at hg <;> cases hg
        rfl
      have htot := lcGo_le hg2
      refine ⟨fun k m H' => m = xs.length - k ∧ k ≤ xs.length ∧ Same H1 H' ∧ ∃ acc ys zs, H' D = some (.lst acc) ∧ DpAll K H' acc ys ∧ frzs ys = true ∧ lcGo (fun d => (ρ.set i none).set i (some d)) t f (xs.drop k) = .ok zs ∧ tot = ys ++ zs,
        ⟨xs.length, by simp, Nat.zero_le _, same_new hD _, [], [], tot, upd_same, .nil, rfl, by rw [List.drop_zero]; exact hg2, rfl⟩, ?_⟩
      rintro k m H' ⟨rfl, hk, s, acc, ys, zs, hacc, hys, hfr, hgo, htz⟩
      obtain ⟨w1, w2⟩ := hJ k H' s
      by_cases hlt : k < xs.length
      · have hx : xs[k]? = some xs[k] := List.getElem?_eq_getElem hlt
        obtain ⟨go, yl⟩ := w1 _ hx
        refine .inr ⟨go, fun H2 => Same H1 H2 ∧ ∃ acc ys zs, H2 D = some (.lst acc) ∧ DpAll K H2 acc ys ∧ frzs ys = true ∧ lcGo (fun d => (ρ.set i none).set i (some d)) t f (xs.drop (k + 1)) = .ok zs ∧ tot = ys ++ zs, fun H2 h2 => ⟨xs.length - (k + 1), by omega, rfl, hlt, h2⟩, fun x H2 y => ?_⟩
        obtain ⟨e2, hdx⟩ := yl x H2 y
        subst e2
        rw [List.drop_eq_getElem_cons hlt] at hgo
        unfold lcGo at hgo
        refine ⟨wipe_one, ?_⟩
        have hE2 : EnvR K H2 ((wipe σ [i]).set i (some x)) ((ρ.set i none).set i (some xs[k])) := by
          refine EnvR.set ?_ hdx
          exact (hE.mono (s1.trans s)).forget
        cases ht : t ((ρ.set i none).set i (some xs[k])) with
        | bad => rw [ht] at hgo; cases hgo
        | ex n => rw [ht] at hgo; cases hgo
        | ok b =>
          rw [ht] at hgo
          refine ⟨_, hE2, ?_⟩
          rw [ht]
          intro H3 s3
          cases b with
          | false =>
            exact iteF ⟨s.trans s3, acc, ys, zs, s3 _ _ hacc, dps_mono s3 _ _ hys, hfr, hgo, htz⟩
          | true =>
            refine iteT ?_
            simp only [Res.calm, Res.ok_bind, if_true] at hgo
            cases hf : f ((ρ.set i none).set i (some xs[k])) with
            | bad => rw [hf] at hgo; cases hgo
            | ex n => rw [hf] at hgo; cases hgo
            | ok y =>
              rw [hf] at hgo
              simp only [Res.calm, Res.ok_bind] at hgo
              split at hgo
              · rename_i hy
                refine ⟨_, hE2.mono s3, ?_⟩
                rw [hf]
                intro H4 s4 v hv
                cases hr : lcGo (fun d => (ρ.set i none).set i (some d)) t f (xs.drop (k + 1)) with
                | bad => rw [hr] at hgo; cases hgo
                | ex n => rw [hr] at hgo; cases hgo
                | ok zs' =>
                  rw [hr] at hgo
                  cases hgo
                  have hacc4 := s4 _ _ (s3 _ _ hacc)
                  have hla := dps_len hys
                  have hz2 := big_line
                  have h5 : acc.length < sizeLine := by
                    have h6 : tot.length = ys.length + (zs'.length + 1) := by rw [htz, List.length_append, List.length_cons]
                    omega
                  refine ⟨acc, hacc4, h5, fun b o q => ?_, acc ++ [v], ys ++ [y], zs', upd_same, dps_append (frzs_mono (sqT_lst hacc4) _ _ hfr (dps_mono (s3.trans s4) _ _ hys)) (.cons (frz_mono (sqT_lst hacc4) _ _ hy hv) .nil), ?_, rfl, by rw [htz, List.append_assoc]; rfl⟩
                  · rw [upd_ne (ne_of_none q hD)]
                    exact s4 _ _ (s3 _ _ (s _ _ q))
                  · have hfa : ∀ (as bs : List PyData), frzs (as ++ bs) = (frzs as && frzs bs) := by
                      intro as bs
                      induction as with
                      | nil => simp [frzs]
                      | cons a as ih => simp [frzs, ih, Bool.and_assoc]
                    rw [hfa, hfr]
                    simp [frzs, hy]
              · cases hgo
      · have e : k = xs.length := by omega
        subst e
        rw [List.drop_length] at hgo
        cases hgo
        refine .inl ⟨w2 (Nat.le_refl _), ?_⟩
        rw [List.append_nil] at htz
        subst htz
        exact r _ (s1.trans s) _ (told_lst (none_on s1 hD) hacc hys)
  · exact r.elim
section
variable {X : Cx} {W : Wis} {a b tg : Expr} {pos : Pos}
theorem en_lc {elt iter : Expr} {ifs : List Expr} {scope : Scope} {x : Str} {i : Nat} {src : SA} {t : ST} {f : SE} (hc : X.calm = true) (hN : X.N.Nodup) (hi : PI X tg iter (tiD X.K W src)) (ok : BlkOk X.N X.env.scope scope [(x, i)])
    (hg : ∀ (s : Shared) (H : Hp) (C : Addr) (cl : List (Str × Addr)) (fp : List Addr), PG (X.blk s H scope (compEnvC scope cl C X.env) fp) tg (gName i)) (ht : ∀ (s : Shared) (H : Hp) (C : Addr) (cl : List (Str × Addr)) (fp : List Addr), PTs (X.blk s H scope (compEnvC scope cl C X.env) fp) ifs (ttD X.K (fun _ _ => False) t))
    (he : ∀ (s : Shared) (H : Hp) (C : Addr) (cl : List (Str × Addr)) (fp : List Addr), PE (X.blk s H scope (compEnvC scope cl C X.env) fp) elt (tD X.K (fun _ _ => False) f)) (hs : ∀ x, foldedSetIterable iter X.env x = pure x := by intro _; rfl) :
    PE X (.ListComp elt [⟨tg, iter, ifs, 0⟩] scope pos) (tE X.K W true (eLc i src t f)) :=
  pe_weak (pe_lc hc hN hi ok hg ht he hs) fun σ H Q q => lcN_then q
theorem psG_setLc {n : Bool} {o : Option Nat} {i j : Nat} {y x : Str} {py : Pos} {elt iter : Expr} {ifs : List Expr} {scope : Scope} {pos spos : Pos} {src : SA} {t : ST} {f : SE} (hij : o ≠ some i) (hc : X.calm = true) (hN : X.N.Nodup) (hi : PI X tg iter (tiD X.K W src)) (ok : BlkOk X.N X.env.scope scope [(x, j)])
    (hg : ∀ (s : Shared) (H : Hp) (C : Addr) (cl : List (Str × Addr)) (fp : List Addr), PG (X.blk s H scope (compEnvC scope cl C X.env) fp) tg (gName j)) (ht : ∀ (s : Shared) (H : Hp) (C : Addr) (cl : List (Str × Addr)) (fp : List Addr), PTs (X.blk s H scope (compEnvC scope cl C X.env) fp) ifs (ttD X.K (fun _ _ => False) t))
    (he : ∀ (s : Shared) (H : Hp) (C : Addr) (cl : List (Str × Addr)) (fp : List Addr), PE (X.blk s H scope (compEnvC scope cl C X.env) fp) elt (tD X.K (fun _ _ => False) f))
    (hsw : swapsWith (.ListComp elt [⟨tg, iter, ifs, 0⟩] scope pos) (some (.Name y py)) spos.line X.env = pure true := by exact sw_true rfl rfl rfl (by decide +kernel))
    (hy : X.N[i]? = some y := by rfl) (hyl : X.env.scope.names.lookup y = some .local := by rfl) (hs : ∀ x, foldedSetIterable iter X.env x = pure x := by intro _; rfl) :
    PS X (.Assign [.Name y py] (.ListComp elt [⟨tg, iter, ifs, 0⟩] scope pos) spos) (tsG X.K W n o o (sSetN i (eLc j src t f))) :=
  ps_weak (ps_setLc hc hN hy hyl hsw hi ok hg ht he hs) fun D σ H ⟨B, ρ, hS, q⟩ => lcN_then (tE_then (D := D) hS q fun d v H1 s hv hS1 q1 => putN_at hij hS s hv q1)
theorem psG_while {n : Bool} {o : Option Nat} {F : SS} {c : Expr} {body : List Stmt} {t : ST} (m : Nat) (hp : PassesOwn (model X.prog X.w) X.A X.env X.xe) (hc : PT X c (ttD X.K W t)) (hb : PSs X body (tsG X.K W n o o F)) : PS X (.While c body [] pos) (tsG X.K W n o o (sWh m t (noBk F))) := by
  refine ps_weak (ps_while hp hc hb) fun D σ H ⟨B, ρ, hS, q⟩ => ?_
  refine ⟨fun m σ' H' => ∃ ρ', St X.K B H' σ' ρ' o ∧ (whGo t (noBk F) m ρ').post (outG X.K n B o D) fun m => fut B (W m), ⟨m, ρ, hS, q⟩, ?_⟩
  rintro m σ' H' ⟨ρ', hS', r⟩
  cases m with
  | zero => exact r.elim
  | succ m =>
    refine ⟨ρ', hS'.env, (Res.post_bind.mp r).mono (fun k r1 H1 s => ?_) fun m q => q.on hS'.base⟩
    cases k with
    | false => exact iteF (r1 σ' H1 (hS'.on s))
    | true =>
      simp only [if_true] at r1
      refine iteT ⟨fun σ2 H2 => ∃ ρ', St X.K B H2 σ2 ρ' o ∧ (whGo t (noBk F) m ρ').post (outG X.K n B o D) fun m => fut B (W m), fun σ2 H2 h2 => ⟨m, Nat.lt_succ_self _, h2⟩, B, ρ', hS'.on s, ?_⟩
      rw [noBk_ap] at r1
      cases hF : F ρ' with
      | bad => rw [hF] at r1; exact r1.elim
      | ex m => rw [hF] at r1; exact r1
      | ok z =>
        rw [hF] at r1
        cases z with
        | nx ρ2 => exact fun σ3 H3 hS3 => ⟨ρ2, hS3, r1⟩
        | rt d => exact r1
        | bk ρ2 => exact r1.elim
        | ct ρ2 => exact r1.elim
theorem noRt_ex {k : Nat} : noRt (sEx k) := fun ρ d h => by cases h
theorem noRt_next : noRt sNext := fun ρ d h => by cases h
theorem noRt_bad : noRt sBad := fun ρ d h => by cases h
theorem noRt_set {i : Nat} {f : SE} : noRt (sSet i f) := fun ρ d h => by
  unfold sSet at h
  cases hf : f ρ <;> rw [hf] at h <;> cases h
theorem noRt_if {t : ST} {F G : SS} (h1 : noRt F) (h2 : noRt G) : noRt (sIf t F G) := fun ρ d h => by
  unfold sIf at h
  cases ht : t ρ with
  | bad => rw [ht] at h; cases h
  | ex k => rw [ht] at h; cases h
  | ok b =>
    rw [ht] at h
    cases b with
    | true => exact h1 ρ d h
    | false => exact h2 ρ d h
/-! defs that tell what is new -/
def spN (K : PySem.W.Frag) (cls : Nat → Value) (n : Nat) (g : List PyData → Res PyData) : Sp := fun vs H Q E => vs.length = n ∧ ∃ ds, DpAll K H vs ds ∧ (g ds).post (fun d => fut H fun H' => ∀ v, told K true H H' d v → Q v H') fun m => fut H fun H' => E (cls m) none H'
structure CalleeN (P : Program) (w : World) (K : PySem.W.Frag) (mg : Str → Option Value) (base : Heap) (CX : CXT) (cls : Nat → Value) (x : Str) (k : Nat) (ps : List Str) (g : List PyData → Res PyData) : Prop where
  ex : ∃ f fd, FnOk P w K mg base CX k f fd ps (spN K cls ps.length g) ∧ mg x = some (.ref f) ∧ PySem.W.keepIn K (.ref f) = true ∧ Binds K fd ps [] ∧ ∃ oc od osl, K.lookup f = some ⟨oc, od, .func fd, osl⟩
theorem CalleeN.mono {P : Program} {w : World} {K : PySem.W.Frag} {mg : Str → Option Value} {base : Heap} {CX : CXT} {cls : Nat → Value} {x : Str} {j k : Nat} {ps : List Str} {g : List PyData → Res PyData} (C : CalleeN P w K mg base CX cls x j ps g) (h : j ≤ k) : CalleeN P w K mg base CX cls x k ps g := by
  obtain ⟨f, fd, F, r⟩ := C.ex
  exact ⟨f, fd, F.mono h, r⟩
theorem CalleeN.toD {P : Program} {w : World} {K : PySem.W.Frag} {mg : Str → Option Value} {base : Heap} {CX : CXT} {cls : Nat → Value} {x : Str} {k : Nat} {ps : List Str} {g : List PyData → Res PyData} (C : CalleeN P w K mg base CX cls x k ps g) : Callee P w K mg base CX cls x k ps g := by
  obtain ⟨f, fd, F, r⟩ := C.ex
  exact ⟨f, fd, F.imp fun vs H Q E ⟨hl, ds, hd, q⟩ => ⟨hl, ds, hd, q.mono (fun d z H' s v hv => z H' s v hv.1) fun m z => z⟩, r⟩
theorem spN_then {K : PySem.W.Frag} {cls : Nat → Value} {n : Nat} {g : List PyData → Res PyData} {f : SA} {σ : L2.St} {H : Hp} {Q : VK} (hn : ∀ ρ ds, f ρ = .ok ds → ds.length = n) (h : tE K W true (eCall g f) σ H Q) :
    tCall (spN K cls n g) [] (wishE cls W) (taD K W f) σ H Q := by
  obtain ⟨ρ, hE, q⟩ := h
  unfold eCall at q
  cases hfr : f ρ with
  | bad => rw [hfr] at q; exact q.elim
  | ex m => rw [hfr] at q; exact ⟨ρ, hE, by rw [hfr]; exact q⟩
  | ok ds =>
    rw [hfr] at q
    refine ⟨ρ, hE, ?_⟩
    rw [hfr]
    intro H1 s1 vs hvs
    rw [List.append_nil]
    exact ⟨(dps_len hvs).trans (hn ρ ds hfr), ds, hvs, q.mono (fun d r H' s v hv => r H' (s1.trans s) v (hv.on s1)) fun m r H' s' => ⟨m, rfl, rfl, r _ (s1.trans s')⟩⟩
theorem en_call {CX : CXT} {cls : Nat → Value} {x : Str} {k : Nat} {ps : List Str} {g : List PyData → Res PyData} {p : Pos} {es : List Expr} {f : SA} (C : CalleeN X.prog X.w X.K X.mg X.base CX cls x k ps g) (hr : Room k X.A) (hx : Passes CX X (wishE cls W)) (ha : PA X (a :: es) (taD X.K W f))
    (hn : ∀ ρ ds, f ρ = .ok ds → ds.length = ps.length) (hg : Gl X x := by rfl) (hdb : (x == ("__debug__" : Str)) = false := by decide) (he : starEach (a :: es) X.env = (false, eval a X.env) :: starEach es X.env := by rfl) (hpl : (backTo pos (starEach es X.env)).any (·.1) = false := by rfl) :
    PE X (.Call (.Name x p) (a :: es) [] pos) (tE X.K W true (eCall g f)) := by
  obtain ⟨fa, fd, F, hm, hk, hb, _⟩ := C.ex
  exact pe_weak (pe_call F hr hg hm hk hb .nil hx ha hdb he hpl) fun σ H Q h => spN_then hn h
end
/-! a def that may raise, called where it does not -/
def calmF (g : List PyData → Res PyData) : List PyData → Res PyData := fun ds => Res.calm (g ds)
@[simp] theorem calmF_ap {g : List PyData → Res PyData} {ds : List PyData} : calmF g ds = Res.calm (g ds) := nrfl rfl
@[simp] theorem calm_ok {d : PyData} : Res.calm (Res.ok d) = .ok d := nrfl rfl
theorem fnOk_calm {P : Program} {w : World} {K : PySem.W.Frag} {mg : Str → Option Value} {base : Heap} {k : Nat} {f : Addr} {fd : FuncData} {ps : List Str} {sp sp' : Sp} (F : FnOk P w K mg base (L2.CX P w) k f fd ps sp)
    (h : ∀ vs H Q E, sp' vs H Q E → sp vs H Q (fun _ _ _ => False)) : FnOk P w K mg base CX0 k f fd ps sp' :=
  ⟨fun vs H Q E q => F.len _ _ _ _ (h _ _ _ _ q), fun A outer s H args us vs Q E hr he hb hv hs => codeAny_mono (F.run A outer s H args us vs Q (fun _ _ _ => False) hr he hb hv (h _ _ _ _ hs)) fun r s' hq => by
    cases r with
    | error e =>
      obtain ⟨_, _, _, _, _, _, _, _, _, _, _, _, z⟩ := hq
      exact z.elim
    | ok fl => cases fl <;> exact hq⟩
theorem CalleeN.calm {P : Program} {w : World} {K : PySem.W.Frag} {mg : Str → Option Value} {base : Heap} {cls cls' : Nat → Value} {x : Str} {k : Nat} {ps : List Str} {g : List PyData → Res PyData} (C : CalleeN P w K mg base (L2.CX P w) cls x k ps g) : CalleeN P w K mg base CX0 cls' x k ps (calmF g) := by
  obtain ⟨f, fd, F, r⟩ := C.ex
  exact ⟨f, fd, fnOk_calm F fun vs H Q E ⟨hl, ds, hd, q⟩ => ⟨hl, ds, hd, Res.post_calm q⟩, r⟩
theorem Callee.calm {P : Program} {w : World} {K : PySem.W.Frag} {mg : Str → Option Value} {base : Heap} {cls cls' : Nat → Value} {x : Str} {k : Nat} {ps : List Str} {g : List PyData → Res PyData} (C : Callee P w K mg base (L2.CX P w) cls x k ps g) : Callee P w K mg base CX0 cls' x k ps (calmF g) := by
  obtain ⟨f, fd, F, r⟩ := C.ex
  exact ⟨f, fd, fnOk_calm F fun vs H Q E ⟨hl, ds, hd, q⟩ => ⟨hl, ds, hd, Res.post_calm q⟩, r⟩
def bodyN (n : Nat) (F : SS) (ds : List PyData) : Res PyData := (F (startD n ds)).bind fun o => match o with
  | .rt d => .ok d
  | _ => .bad
section
variable {P : Program} {w : World} {K : PySem.W.Frag} {mg : Str → Option Value} {base : Heap}
theorem bodyN_then {cls : Nat → Value} {N : List Str} {n : Nat} {o : Option Nat} {F : SS} {vs : List V} {H : Hp} {Q : VK} {E : XK} (h : spN K cls n (bodyN N.length F) vs H Q E) :
    tsG K (fun m H' => E (cls m) none H') true none o F { nx := fun _ H' => Q .non H', rt := Q } (start N vs) H := by
  obtain ⟨_, ds, hd, q⟩ := h
  refine ⟨H, startD N.length ds, st_none (Same.refl H) (envR_start hd), (Res.post_bind.mp q).mono (fun r z => ?_) fun n r => r⟩
  cases r with
  | rt d => exact fun H' s v hv => z H' s v hv
  | nx ρ' => exact z.elim
  | bk ρ' => exact z.elim
  | ct ρ' => exact z.elim
theorem callee_ofN {cls : Nat → Value} {x qual : Str} {st : Stmt} {f : Addr} {fd : FuncData} {N ps : List Str} {k : Nat} {o : Option Nat} {F : SS} (D : L2.Fun K x qual st f fd) (S : FnScope N ps (defScope st)) (hm : mg x = some (.ref f)) (hb : Binds K fd ps [])
    (body : ∀ (cdv : Value) (A : Around) (outer : List Env) (s : Shared) (H : Hp) (E : XK) (W : Wis), Room k (A.deeper (envOfC qual (defScope st) s.heap.objs.size f cdv)) →
      PSs (cxOf CX0 P w K mg base N qual (defScope st) f cdv A outer s H E).nox (defBody st) (tsG K W true none o F)) : CalleeN P w K mg base CX0 cls x (k + 1) ps (bodyN N.length F) := by
  refine ⟨f, fd, D.ok S (fun vs H Q E h => h.1) (fun cdv A outer s H vs Q E hr h => ⟨_, body cdv A outer s H E _ hr, bodyN_then h⟩), hm, D.kp, hb, ?_⟩
  obtain ⟨oc, od, kV, doc, pm, an, cdv, ct, osl, rfl, lk, hcd⟩ := D.ex
  exact ⟨oc, od, osl, lk⟩
theorem callee_ofNX {cls : Nat → Value} {x qual : Str} {st : Stmt} {f : Addr} {fd : FuncData} {N ps : List Str} {k : Nat} {o : Option Nat} {F : SS} (D : L2.Fun K x qual st f fd) (S : FnScope N ps (defScope st)) (hm : mg x = some (.ref f)) (hb : Binds K fd ps [])
    (body : ∀ (cdv : Value) (A : Around) (outer : List Env) (s : Shared) (H : Hp) (E : XK), Room k (A.deeper (envOfC qual (defScope st) s.heap.objs.size f cdv)) →
      Takes (cxOf (L2.CX P w) P w K mg base N qual (defScope st) f cdv A outer s H E) (fun c d _ H => E c d H) → PassesOwn (model P w) (A.deeper (envOfC qual (defScope st) s.heap.objs.size f cdv)) (envOfC qual (defScope st) s.heap.objs.size f cdv) (cxOf (L2.CX P w) P w K mg base N qual (defScope st) f cdv A outer s H E).xe →
      PSs (cxOf (L2.CX P w) P w K mg base N qual (defScope st) f cdv A outer s H E) (defBody st) (tsG K (fun m H' => E (cls m) none H') true none o F)) : CalleeN P w K mg base (L2.CX P w) cls x (k + 1) ps (bodyN N.length F) := by
  refine ⟨f, fd, D.okX S (fun vs H Q E h => h.1) (fun cdv A outer s H vs Q E hr h => ⟨_, body cdv A outer s H E hr (takes_of rfl rfl rfl rfl) (passes_of rfl), bodyN_then h⟩), hm, D.kp, hb, ?_⟩
  obtain ⟨oc, od, kV, doc, pm, an, cdv, ct, osl, rfl, lk, hcd⟩ := D.ex
  exact ⟨oc, od, osl, lk⟩
end
end DL

set_option Elab.async false
set_option linter.all false
set_option maxRecDepth 100000
set_option maxHeartbeats 2000000
/-! sorted and min of texts -/
namespace DL
open PySem L2 PyProof.Rows
open PySem.W (minD AlikeAll str_of_cps)
def leS (a b : Str) : Bool := decide (¬ b.cps.toList < a.cps.toList)
theorem leS_iff {a b : Str} : leS a b = true ↔ a.cps.toList ≤ b.cps.toList := by
  unfold leS
  rw [decide_eq_true_eq, List.not_lt]
theorem leS_trans (a b c : Str) (h1 : leS a b = true) (h2 : leS b c = true) : leS a c = true := by
  rw [leS_iff] at h1 h2 ⊢
  exact List.le_trans h1 h2
theorem leS_total (a b : Str) : (leS a b || leS b a) = true := by
  rw [Bool.or_eq_true, leS_iff, leS_iff]
  exact List.le_total _ _
theorem leS_antisymm {a b : Str} (h1 : leS a b = true) (h2 : leS b a = true) : a = b := by
  rw [leS_iff] at h1 h2
  exact str_of_cps (List.le_antisymm h1 h2)
def sortS (ys : List Str) : List Str := ys.mergeSort leS
theorem sortS_perm (ys : List Str) : (sortS ys).Perm ys := List.mergeSort_perm ys leS
theorem sortS_pw (ys : List Str) : (sortS ys).Pairwise fun a b => leS a b = true := List.pairwise_mergeSort leS_trans leS_total ys
theorem risingS_pw : ∀ (l : List Str) (p : Str), risingS p l = true → (p :: l).Pairwise fun a b => leS a b = true
  | [], p, _ => List.pairwise_singleton ..
  | x :: r, p, h => by
    unfold risingS at h
    rw [Bool.and_eq_true] at h
    have h1 : leS p x = true := by
      have := h.1
      rw [ltCps_eq] at this
      unfold leS
      simpa using this
    have h2 := risingS_pw r x h.2
    refine List.pairwise_cons.mpr ⟨fun y hy => ?_, h2⟩
    rcases List.mem_cons.mp hy with rfl | hy
    · exact h1
    · exact leS_trans _ _ _ h1 ((List.pairwise_cons.mp h2).1 y hy)
theorem sortedS_pw : ∀ (l : List Str), sortedS l = true → l.Pairwise fun a b => leS a b = true
  | [], _ => .nil
  | x :: r, h => risingS_pw r x h
theorem sortS_uniq {xs ys : List Str} (hp : ys.Perm xs) (hs : sortedS ys = true) : ys = sortS xs :=
  (hp.trans (sortS_perm xs).symm).eq_of_pairwise (fun a b _ _ h1 h2 => leS_antisymm h1 h2) (sortedS_pw ys hs) (sortS_pw xs)
def sortedD : List PyData → Option PyData
  | [.list ds] => (strsOf ds).bind fun ys => if ys.length < 64 then some (.list ((sortS ys).map .str)) else none
  | _ => none
def minSD : PyData → Option PyData
  | .list (x :: xs) => (strsOf (x :: xs)).bind fun _ => some (minD x xs)
  | _ => none
def minSD1 : List PyData → Option PyData
  | [d] => minSD d
  | _ => none
theorem minD_mem : ∀ (xs : List PyData) (x : PyData), minD x xs ∈ x :: xs := by
  intro xs
  unfold minD
  induction xs with
  | nil => intro x; simp
  | cons y r ih =>
    intro x
    rw [List.foldl_cons]
    split
    · have := ih y
      exact List.mem_cons_of_mem _ this
    · have := ih x
      rcases List.mem_cons.mp this with h | h
      · exact List.mem_cons.mpr (.inl h)
      · exact List.mem_cons_of_mem _ (List.mem_cons_of_mem _ h)
theorem reads_strs {h : Heap} : ∀ {us : List Value} {zs : List Str}, Vals (zs.map V.str) us → ReadsAll h us (zs.map PyData.str) []
  | _, [], r => by cases r; exact .nil
  | _, z :: zs, r => by
    cases r with
    | cons r1 rs =>
      obtain ⟨t, rfl⟩ := r1
      exact .cons (.str z t) (reads_strs rs)
theorem depth_strs : ∀ (zs : List Str), PyData.depthAll (zs.map PyData.str) ≤ 1
  | [] => Nat.zero_le _
  | z :: zs => Nat.max_le.mpr ⟨by show PyData.depth (.str z) ≤ 1; simp [PyData.depth], depth_strs zs⟩
section
variable {X : Cx} {W : Wis} {a : Expr} {pos : Pos}
theorem cd_sorted : CallR X (.builtin "sorted") (rCD X.K sortedD) := callR_weak cr_sortedS fun vs H Q ⟨ds, r, hd, hg, q⟩ => by
  match ds, vs, hd, hg with
  | [.list xs], _, .cons (.lst h1 h2) .nil, hg =>
    simp only [sortedD, Option.bind_eq_some_iff] at hg
    obtain ⟨zs, hz, hg⟩ := hg
    split at hg <;> cases hg
    rename_i hl
    rw [strsOf_map hz] at h2
    rw [dps_strs_of h2] at h1
    refine ⟨_, zs, rfl, h1, hl, fun ys p hp hs hpn => ?_⟩
    rw [sortS_uniq hp hs]
    exact q _ (same_new hpn _) _ (.lst (SqL.of upd_same) (dps_strs _))
theorem cd_minS (hc : X.calm = true) (hu : X.A.units + 64 < cLine) : CallR X (.builtin "min") (rCD X.K minSD1) := by
  intro pins s σ H vs us Q I r h
  obtain ⟨ds, d, hd, hg, q⟩ := h
  obtain ⟨x, xs, rfl, hg⟩ : ∃ x xs, ds = [.list (x :: xs)] ∧ minSD (.list (x :: xs)) = some d := by
    unfold minSD1 at hg
    split at hg
    · unfold minSD at hg
      split at hg
      · exact ⟨_, _, rfl, hg⟩
      · cases hg
    · cases hg
  match vs, hd, hg with
  | _, .cons (.lst (a := p) h1 h2) .nil, hg =>
    replace hg : minSD (.list (x :: xs)) = some d := hg
    unfold minSD at hg
    simp only [Option.bind_eq_some_iff, Option.some.injEq] at hg
    obtain ⟨zs, hz, rfl⟩ := hg
    have e := strsOf_map hz
    rw [e] at h2
    rw [dps_strs_of h2] at h1
    obtain ⟨its, rv, hl, _⟩ := I.list h1
    rw [Vals.ref1 r]
    have hr : ReadsAll s.heap its.toArray.toList (x :: xs) [] := by rw [e]; exact reads_strs rv
    have hm : ∀ y ∈ x :: xs, ∃ z, y = .str z := fun y hy => by
      rw [e] at hy
      obtain ⟨z, _, rfl⟩ := List.mem_map.mp hy
      exact ⟨z, rfl⟩
    have ha : AlikeAll (x :: xs) := ⟨fun y hy y' hy' => by
      obtain ⟨z, rfl⟩ := hm y hy
      obtain ⟨z', rfl⟩ := hm y' hy'
      rfl, fun y hy => by
      obtain ⟨z, rfl⟩ := hm y hy
      simp⟩
    have hdp : PyData.depthAll (x :: xs) ≤ 1 := by rw [e]; exact depth_strs zs
    refine PySem.W.min_list_data (I.ok.hd hc) hl.isList hr ha (by omega) fun i v h' tk bs hv hrd hk => ?_
    obtain ⟨z, hz2⟩ := hm _ (minD_mem xs x)
    rw [hz2] at hrd q
    cases hrd with
    | str _ t => exact ⟨.str z, H, I.kept hk, ⟨_, rfl⟩, q.now _ (.str z)⟩
theorem ed_minS {p : Pos} {f : SE} (hc : X.calm = true) (hu : X.A.units + 64 < cLine) (hm : X.mg "min" = none) (ha : PE X a (tD X.K W f)) (hg : Gl X "min" := by rfl) (he : starEach [a] X.env = (false, eval a X.env) :: starEach [] X.env := by rfl) (hpl : (backTo pos (starEach [] X.env)).any (·.1) = false := by rfl) :
    PE X (.Call (.Name "min" p) [a] [] pos) (tD X.K W (eUn minSD f)) := by
  refine pe_weak (pe_callB (cd_minS hc hu) hg hm (by decide +kernel) (pa_cons ha pa_nil he) (by decide) (by decide) he hpl) fun σ H Q h => ?_
  obtain ⟨ρ, hE, q⟩ := h
  refine tD_mono (tD_then hE q) fun x H1 ⟨d, hx, s1, hE1, q1⟩ => ?_
  obtain ⟨r, hr, q2⟩ := Res.post_of q1
  exact ⟨[d], r, .cons hx .nil, hr, q2⟩
end
end DL

set_option Elab.async false
set_option linter.all false
set_option maxRecDepth 100000
set_option maxHeartbeats 2000000
/-! the functions that bodies are read as, applied: for simp -/
namespace DL
open PySem L2 PyProof.Rows
section
variable {f g h : SE} {t u : ST} {F G : SS} {ρ : PEnv} {i n : Nat} {d : PyData} {a b : SA}
@[simp] theorem eVar_ap : eVar i ρ = match ρ[i]? with
  | some (some d) => .ok d
  | _ => .bad := nrfl rfl
@[simp] theorem eC_ap : eC d ρ = .ok d := nrfl rfl
@[simp] theorem eOp_ap {o : PyData → PyData → Option PyData} : eOp o f g ρ = (f ρ).bind fun x => (g ρ).bind fun y => Res.of (o x y) := nrfl rfl
@[simp] theorem eUn_ap {o : PyData → Option PyData} : eUn o f ρ = (f ρ).bind fun x => Res.of (o x) := nrfl rfl
@[simp] theorem eArgs_ap {o : List PyData → Option PyData} : eArgs o a ρ = (a ρ).bind fun xs => Res.of (o xs) := nrfl rfl
@[simp] theorem eCall_ap {o : List PyData → Res PyData} : eCall o a ρ = (a ρ).bind o := nrfl rfl
@[simp] theorem asT_ap : asT f ρ = (f ρ).bind fun x => Res.of (truth x) := nrfl rfl
@[simp] theorem asTru_ap : asTru f ρ = (f ρ).bind fun x => Res.of (DL.truthy x) := nrfl rfl
@[simp] theorem tAnd_ap : DL.tAnd t u ρ = (t ρ).bind fun b => if b then u ρ else .ok false := nrfl rfl
@[simp] theorem tOr_ap : DL.tOr t u ρ = (t ρ).bind fun b => if b then .ok true else u ρ := nrfl rfl
@[simp] theorem tNot_ap : DL.tNot t ρ = (t ρ).bind fun b => .ok (!b) := nrfl rfl
@[simp] theorem eAnd_ap : eAnd f g ρ = (f ρ).bind fun x => (Res.of (truth x)).bind fun b => if b then g ρ else .ok (.bool false) := nrfl rfl
@[simp] theorem eOr_ap : eOr f g ρ = (f ρ).bind fun x => (Res.of (truth x)).bind fun b => if b then .ok (.bool true) else g ρ := nrfl rfl
@[simp] theorem eNot_ap : eNot f ρ = (f ρ).bind fun x => (Res.of (truth x)).bind fun b => .ok (.bool (!b)) := nrfl rfl
@[simp] theorem eChain_ap {o p : PyData → PyData → Option PyData} : eChain o p f g h ρ = (f ρ).bind fun x => (g ρ).bind fun y => (Res.of (o x y)).bind fun z => (Res.of (truth z)).bind fun k =>
  if k then (h ρ).bind fun w => Res.of (p y w) else .ok (.bool false) := nrfl rfl
@[simp] theorem aNil_ap : aNil ρ = .ok [] := nrfl rfl
@[simp] theorem aCons_ap : aCons f a ρ = (f ρ).bind fun x => (a ρ).bind fun xs => .ok (x :: xs) := nrfl rfl
@[simp] theorem eTup_ap : eTup a ρ = (a ρ).bind fun xs => if xs.length ≤ big then .ok (.tuple xs) else .bad := nrfl rfl
@[simp] theorem eLst_ap : eLst a ρ = (a ρ).bind fun xs => if xs.length ≤ big then .ok (.list xs) else .bad := nrfl rfl
@[simp] theorem oNone_ap : oNone ρ = .ok none := nrfl rfl
@[simp] theorem oSome_ap : oSome f ρ = (f ρ).bind fun x => match x with
  | .int i => .ok (some i)
  | _ => .bad := nrfl rfl
@[simp] theorem eCut_ap {l r : PEnv → Res (Option Int)} : eCut f l r ρ = (f ρ).bind fun x => (l ρ).bind fun lo => (r ρ).bind fun hi => Res.of (cutD lo hi x) := nrfl rfl
@[simp] theorem eM1_ap {o : Str → PyData → Option PyData} : eM1 o f g ρ = (f ρ).bind fun x => match x with
  | .str z => (g ρ).bind fun y => Res.of (o z y)
  | _ => .bad := nrfl rfl
@[simp] theorem eM0_ap {o : Str → Option PyData} : eM0 o f ρ = (f ρ).bind fun x => match x with
  | .str z => Res.of (o z)
  | _ => .bad := nrfl rfl
@[simp] theorem eMenu_ap {kvs : List (Key × V)} : eMenu kvs f ρ = (f ρ).bind fun x => Res.of (menuD kvs x) := nrfl rfl
@[simp] theorem sList_ap : sList f ρ = (f ρ).bind fun x => match x with
  | .list xs => .ok xs
  | _ => .bad := nrfl rfl
@[simp] theorem sTup_ap : sTup f ρ = (f ρ).bind fun x => match x with
  | .tuple xs => .ok xs
  | _ => .bad := nrfl rfl
@[simp] theorem sStr_ap : sStr f ρ = (f ρ).bind fun x => match x with
  | .str z => .ok (z.cps.toList.map fun c => .str ⟨#[c]⟩)
  | _ => .bad := nrfl rfl
@[simp] theorem sRng1_ap : sRng1 a ρ = (a ρ).bind fun xs => match xs with
  | [.int j] => if -big ≤ j ∧ j ≤ big then .ok (upTo 0 j.toNat) else .bad
  | _ => .bad := nrfl rfl
@[simp] theorem sRng2_ap : sRng2 a ρ = (a ρ).bind fun xs => match xs with
  | [.int i, .int j] => if -big ≤ i ∧ i ≤ big ∧ -big ≤ j ∧ j ≤ big then .ok (upTo i (j - i).toNat) else .bad
  | _ => .bad := nrfl rfl
@[simp] theorem tTrue_ap : tTrue ρ = .ok true := nrfl rfl
theorem eLc_ap : eLc i a t f ρ = (a ρ).bind fun xs => if xs.length ≤ big then (Res.calm (lcGo (fun d => (ρ.set i none).set i (some d)) t f xs)).bind fun ys => .ok (.list ys) else .bad := nrfl rfl
@[simp] theorem sNext_ap : sNext ρ = .ok (.nx ρ) := nrfl rfl
@[simp] theorem sSeq_ap : sSeq F G ρ = (F ρ).bind fun o => match o with
  | .nx ρ' => G ρ'
  | .rt d => .ok (.rt d)
  | .bk ρ' => .ok (.bk ρ')
  | .ct ρ' => .ok (.ct ρ') := nrfl rfl
@[simp] theorem sSet_ap : sSet i f ρ = (f ρ).bind fun d => .ok (.nx (ρ.set i (some d))) := nrfl rfl
@[simp] theorem sDrop_ap : sDrop f ρ = (f ρ).bind fun _ => .ok (.nx ρ) := nrfl rfl
@[simp] theorem sRet_ap : sRet f ρ = (f ρ).bind fun d => .ok (.rt d) := nrfl rfl
@[simp] theorem sRetN_ap : sRetN ρ = .ok (.rt .none) := nrfl rfl
@[simp] theorem sIf_ap : sIf t F G ρ = (t ρ).bind fun b => if b then F ρ else G ρ := nrfl rfl
@[simp] theorem sBreak_ap : sBreak ρ = .ok (.bk ρ) := nrfl rfl
@[simp] theorem sCont_ap : sCont ρ = .ok (.ct ρ) := nrfl rfl
theorem sFor_ap {k : SG} : sFor a k F ρ = (a ρ).bind fun ds => forGo k F ds ρ := nrfl rfl
theorem sWh_ap : sWh n t F ρ = whGo t F n ρ := nrfl rfl
@[simp] theorem gN_ap : gN i d ρ = some (ρ.set i (some d)) := nrfl rfl
@[simp] theorem gsNil_ap : gsNil [] ρ = some ρ := nrfl rfl
@[simp] theorem gsCons_ap {k : SG} {ks : SGs} {ds : List PyData} : gsCons k ks (d :: ds) ρ = (k d ρ).bind fun ρ' => ks ds ρ' := nrfl rfl
@[simp] theorem gT_ap {ks : SGs} {ds : List PyData} : gT n ks (.tuple ds) ρ = if ds.length = n then ks ds ρ else none := nrfl rfl
@[simp] theorem sAsg_ap {k : SG} : sAsg f k ρ = (f ρ).bind fun d => (Res.of (k d ρ)).bind fun ρ' => .ok (.nx ρ') := nrfl rfl
@[simp] theorem truth_bool {b : Bool} : truth (.bool b) = some b := nrfl rfl
@[simp] theorem addD_int {i j : Int} : addD (.int i) (.int j) = some (.int (i + j)) := nrfl rfl
@[simp] theorem subD_int {i j : Int} : subD (.int i) (.int j) = some (.int (i - j)) := nrfl rfl
@[simp] theorem negD_int {i : Int} : negD (.int i) = some (.int (-i)) := nrfl rfl
@[simp] theorem eqD_int {i j : Int} : eqD (.int i) (.int j) = some (.bool (i == j)) := nrfl rfl
@[simp] theorem eqD_str {i j : Str} : eqD (.str i) (.str j) = some (.bool (i == j)) := nrfl rfl
@[simp] theorem neD_int {i j : Int} : neD (.int i) (.int j) = some (.bool (!(i == j))) := nrfl rfl
@[simp] theorem ltD_int {i j : Int} : ltD (.int i) (.int j) = some (.bool (decide (i < j))) := nrfl rfl
@[simp] theorem leD_int {i j : Int} : leD (.int i) (.int j) = some (.bool (decide (i ≤ j))) := nrfl rfl
@[simp] theorem gtD_int {i j : Int} : gtD (.int i) (.int j) = some (.bool (decide (j < i))) := nrfl rfl
@[simp] theorem geD_int {i j : Int} : geD (.int i) (.int j) = some (.bool (decide (j ≤ i))) := nrfl rfl
@[simp] theorem lenD_list {xs : List PyData} : lenD [.list xs] = some (.int xs.length) := nrfl rfl
@[simp] theorem lenD_tuple {xs : List PyData} : lenD [.tuple xs] = some (.int xs.length) := nrfl rfl
@[simp] theorem ixD_list {xs : List PyData} {i : Int} : ixD (.list xs) (.int i) = atI xs i := nrfl rfl
@[simp] theorem ixD_tuple {xs : List PyData} {i : Int} : ixD (.tuple xs) (.int i) = atI xs i := nrfl rfl
@[simp] theorem divD_pos {i j : Int} (h1 : 0 < j) (h2 : j < 1073741824) : divD (.int i) (.int j) = some (.int (i / j)) := if_pos ⟨h1, h2⟩
@[simp] theorem modD_pos {i j : Int} (h : 0 < j) : modD (.int i) (.int j) = some (.int (i % j)) := if_pos h
theorem mulD_l {i j : Int} (h : small64 i = true) : mulD (.int i) (.int j) = some (.int (i * j)) := by simp [mulD, h]
theorem mulD_r {i j : Int} (h : small64 j = true) : mulD (.int i) (.int j) = some (.int (i * j)) := by simp [mulD, h]
theorem small64_of {i : Int} (h1 : -1000000 ≤ i) (h2 : i ≤ 1000000) : small64 i = true := by
  simp only [small64, decide_eq_true_eq]
  omega
@[simp] theorem ite_bind {α β : Type} {c : Prop} [Decidable c] {x y : Res α} {k : α → Res β} : (if c then x else y).bind k = if c then x.bind k else y.bind k := by split <;> rfl
theorem bind_assoc {α β γ : Type} {x : Res α} {k : α → Res β} {l : β → Res γ} : (x.bind k).bind l = x.bind fun a => (k a).bind l := by cases x <;> rfl
/-! comprehensions, loops -/
theorem lcGo_map {env : PyData → PEnv} {t : ST} {f : SE} {v : PyData → PyData} : ∀ {xs : List PyData}, (∀ d ∈ xs, t (env d) = .ok true ∧ f (env d) = .ok (v d) ∧ frz (v d) = true) → lcGo env t f xs = .ok (xs.map v)
  | [], _ => rfl
  | d :: ds, h => by
    obtain ⟨h1, h2, h3⟩ := h d List.mem_cons_self
    unfold lcGo
    rw [h1, h2, lcGo_map fun e he => h e (List.mem_cons_of_mem _ he)]
    simp [Res.calm, h3]
theorem lcGo_filter {env : PyData → PEnv} {t : ST} {f : SE} {p : PyData → Bool} {v : PyData → PyData} : ∀ {xs : List PyData}, (∀ d ∈ xs, t (env d) = .ok (p d) ∧ (p d = true → f (env d) = .ok (v d) ∧ frz (v d) = true)) → lcGo env t f xs = .ok ((xs.filter p).map v)
  | [], _ => rfl
  | d :: ds, h => by
    obtain ⟨h1, h2⟩ := h d List.mem_cons_self
    unfold lcGo
    rw [h1, lcGo_filter fun e he => h e (List.mem_cons_of_mem _ he)]
    cases hp : p d with
    | false => simp [Res.calm, hp]
    | true =>
      obtain ⟨h3, h4⟩ := h2 hp
      simp [Res.calm, hp, h3, h4]
theorem upTo_len {lo : Int} {n : Nat} : (upTo lo n).length = n := by simp [upTo]
theorem mem_upTo {lo : Int} {n : Nat} {d : PyData} : d ∈ upTo lo n ↔ ∃ i : Nat, i < n ∧ d = .int (lo + i) := by
  simp only [upTo, List.mem_map, List.mem_range]
  exact ⟨fun ⟨i, h1, h2⟩ => ⟨i, h1, h2.symm⟩, fun ⟨i, h1, h2⟩ => ⟨i, h1, h2.symm⟩⟩
/-- a loop that runs through, by what holds between the turns -/
theorem forGo_inv {k : SG} {F : SS} (I : Nat → PEnv → Prop) : ∀ {xs : List PyData} {i : Nat} {ρ : PEnv}, I i ρ → (∀ (j : Nat) (d : PyData) (ρ : PEnv), xs[j]? = some d → I (i + j) ρ → ∃ ρ1 ρ2, k d ρ = some ρ1 ∧ (F ρ1 = .ok (.nx ρ2) ∨ F ρ1 = .ok (.ct ρ2)) ∧ I (i + j + 1) ρ2) →
    ∃ ρ', forGo k F xs ρ = .ok (.nx ρ') ∧ I (i + xs.length) ρ'
  | [], i, ρ, h, _ => ⟨ρ, rfl, h⟩
  | d :: ds, i, ρ, h, hs => by
    obtain ⟨ρ1, ρ2, h1, h2, h3⟩ := hs 0 d ρ rfl h
    obtain ⟨ρ', h4, h5⟩ := forGo_inv I (xs := ds) (i := i + 1) (ρ := ρ2) (by simpa using h3) fun j e ρ he hi => by
      obtain ⟨ρ1, ρ2, a, b, c⟩ := hs (j + 1) e ρ (by simpa using he) (by rw [show i + (j + 1) = i + 1 + j by omega]; exact hi)
      exact ⟨ρ1, ρ2, a, b, by rw [show i + 1 + j + 1 = i + (j + 1) + 1 by omega]; exact c⟩
    refine ⟨ρ', ?_, by rw [List.length_cons, show i + (ds.length + 1) = i + 1 + ds.length by omega]; exact h5⟩
    unfold forGo
    rw [h1]
    rcases h2 with h2 | h2 <;> simp [h2, h4]
/-- a while that runs through, by what holds between the turns and a measure -/
theorem whGo_inv {t : ST} {F : SS} (I : Nat → PEnv → Prop) (Z : PEnv → Prop) (hz : ∀ m ρ, I m ρ → (∃ b, t ρ = .ok b ∧ (b = false → Z ρ) ∧ (b = true → ∃ m' ρ2, m' < m ∧ (F ρ = .ok (.nx ρ2) ∨ F ρ = .ok (.ct ρ2)) ∧ I m' ρ2))) :
    ∀ (n m : Nat) (ρ : PEnv), m < n → I m ρ → ∃ ρ', whGo t F n ρ = .ok (.nx ρ') ∧ Z ρ'
  | 0, m, ρ, h, _ => absurd h (Nat.not_lt_zero _)
  | n + 1, m, ρ, h, hi => by
    obtain ⟨b, h1, h2, h3⟩ := hz m ρ hi
    unfold whGo
    rw [h1]
    cases b with
    | false => exact ⟨ρ, rfl, h2 rfl⟩
    | true =>
      obtain ⟨m', ρ2, h4, h5, h6⟩ := h3 rfl
      obtain ⟨ρ', h7, h8⟩ := whGo_inv I Z hz n m' ρ2 (by omega) h6
      refine ⟨ρ', ?_, h8⟩
      rcases h5 with h5 | h5 <;> simp [h5, h7]
end
end DL

set_option Elab.async false
set_option linter.all false
set_option maxRecDepth 100000
set_option maxHeartbeats 4000000
namespace My
open PySem L2 DL PyProof.Rows
def top (i : Nat) : Stmt := PySem.Challenge.pw_showtree_k06_above.main.body.getD i (.Pass ⟨0, 0, 0, 0⟩)
abbrev s_is_number : Stmt := top 6
abbrev N_is_number : List Str := ["thing", "below"]
abbrev s_above : Stmt := top 7
abbrev N_above : List Str := ["tree", "number", "found", "other"]
abbrev s_holds : Stmt := top 10
abbrev N_holds : List Str := ["tree", "number", "statement"]
abbrev s_law_cell_at : Stmt := top 12
abbrev N_law_cell_at : List Str := ["_law_script", "_law_k"]
abbrev s_law_name_by : Stmt := top 13
abbrev N_law_name_by : List Str := ["_law_seed", "_law_k", "_law_letters", "_law_size", "_law_word", "_law_spot", "_law_sign", "_law_j"]
abbrev s_law_tree_by : Stmt := top 14
abbrev N_law_tree_by : List Str := ["_law_cells", "_law_seed", "_law_many", "_law_names", "_law_base", "_law_tree", "_law_cell", "_law_parent", "_law_had", "_law_new", "_law_k", "_law_name"]
abbrev s_law_due : Stmt := top 15
abbrev N_law_due : List Str := ["_law_tree", "_law_number", "_law_due_here", "_law_other", "_law_at"]
abbrev s_law_refused : Stmt := top 16
abbrev N_law_refused : List Str := ["_law_tree", "_law_number", "_law_way", "e", "_law_kinds"]
abbrev s_law : Stmt := top 17
abbrev N_law : List Str := ["_law_script", "_law_seed", "_law_cell", "_law_tree", "_law_numbers", "_law_number", "_law_none", "_law_way", "_law_k", "_law_found", "_law_due_here"]
/-- what the top has left -/
structure Txt (K : PySem.W.Frag) (mg : Str → Option Value) (CU : Addr) : Prop where
  err_NoWorld : ErrAt K mg "NoWorld" CU
  told : ∃ CS CT CN : Addr, mg "ShowError" = some (.ref CS) ∧ mg "Unread" = some (.ref CT) ∧ mg "TooLarge" = some (.ref CN) ∧ PySem.W.exmOne K (.ref CU) (.ref CS) = some true ∧ ExcC K CU ∧ PySem.W.kitOne K (.ref CU) (.ref CU) = some true ∧ PySem.W.kitOne K (.ref CU) (.ref CT) = some false ∧ PySem.W.kitOne K (.ref CU) (.ref CN) = some false ∧ PySem.W.kitOne K (.ref CU) (.type "ValueError") = some true
  d_is_number : DefAt K mg "is_number" s_is_number ["thing", "below"]
  d_above : DefAt K mg "above" s_above ["tree", "number"]
  d_holds : DefAt K mg "holds" s_holds ["tree", "number", "statement"]
  d_law_cell_at : DefAt K mg "_law_cell_at" s_law_cell_at ["_law_script", "_law_k"]
  d_law_name_by : DefAt K mg "_law_name_by" s_law_name_by ["_law_seed", "_law_k"]
  d_law_tree_by : DefAt K mg "_law_tree_by" s_law_tree_by ["_law_cells", "_law_seed", "_law_many"]
  d_law_due : DefAt K mg "_law_due" s_law_due ["_law_tree", "_law_number"]
  d_law_refused : DefAt K mg "_law_refused" s_law_refused ["_law_tree", "_law_number", "_law_way"]
  d_law : DefAt K mg "law" s_law ["_law_script"]
  z_ValueError : mg "ValueError" = none
  z_bool : mg "bool" = none
  z_int : mg "int" = none
  z_isinstance : mg "isinstance" = none
  z_len : mg "len" = none
  z_list : mg "list" = none
  z_min : mg "min" = none
  z_range : mg "range" = none
  z_sorted : mg "sorted" = none
  z_tuple : mg "tuple" = none
/-! what the bodies are read as -/
def F_is_number : SS :=
  (sRet (eAnd (eUn (isiD "int") (eVar 0)) (eAnd (eNot (eUn (isiD "bool") (eVar 0))) (eChain leD ltD (eC (.int 0)) (eVar 0) (eVar 1)))))
def sem_is_number : List PyData → Res PyData := bodyD 2 F_is_number
def F_above : SS :=
  (sSeq (sIf (DL.tNot (asT (eCall sem_is_number (aCons (eVar 1) (aCons (eArgs lenD (aCons (eVar 0) aNil)) aNil))))) (sEx 0) sNext)
    (sSeq (sTake 2 (eLst (aCons (eVar 1) aNil)))
    (sSeq (sFor (sRng2 (aCons (eOp addD (eVar 1) (eC (.int 1))) (aCons (eArgs lenD (aCons (eVar 0) aNil)) aNil))) (gF 3) (noBk (sIf (asT (eOp inD (eOp ixD (eOp ixD (eVar 0) (eVar 3)) (eC (.int 0))) (eVar 2))) (sApp 2 (eVar 3)) sNext)))
    (sRet (eVar 2)))))
def sem_above : List PyData → Res PyData := bodyN 4 F_above
def F_holds : SS :=
  (sSeq (sIf (DL.tNot (asT (eCall sem_is_number (aCons (eVar 1) (aCons (eArgs lenD (aCons (eVar 0) aNil)) aNil))))) (sEx 0) sNext)
    sBad)
def sem_holds : List PyData → Res PyData := bodyD 3 F_holds
def F_law_cell_at : SS :=
  (sSeq (sIf (asT (eOp ltD (eVar 1) (eArgs lenD (aCons (eVar 0) aNil)))) (sRet (eOp ixD (eVar 0) (eVar 1))) sNext)
    (sRet (eC (.int 0))))
def sem_law_cell_at : List PyData → Res PyData := bodyD 2 F_law_cell_at
def F_law_name_by : SS :=
  (sSeq (sSet 2 (eC (.str "abcdefghijklmnopqrstuvwxyz")))
    (sSeq (sSet 3 (eOp addD (eC (.int 1)) (eOp modD (eVar 0) (eC (.int 8)))))
    (sSeq (sSet 4 (eM1 joinD (eC (.str "")) (eLc 7 (sRng1 (aCons (eVar 3) aNil)) tTrue (eOp ixD (eVar 2) (eOp modD (eOp addD (eOp addD (eOp divD (eVar 0) (eC (.int 8))) (eOp mulD (eC (.int 5)) (eVar 7))) (eOp mulD (eVar 7) (eVar 7))) (eC (.int 26)))))))
    (sSeq (sSet 5 (eOp modD (eOp divD (eVar 0) (eC (.int 208))) (eVar 3)))
    (sSeq (sSet 6 (eOp ixD (eVar 2) (eOp modD (eOp addD (eM1 indexD (eVar 2) (eOp ixD (eVar 4) (eVar 5))) (eOp mulD (eVar 1) (eOp addD (eC (.int 1)) (eOp modD (eOp divD (eVar 0) (eC (.int 1664))) (eC (.int 8)))))) (eC (.int 26)))))
    (sSeq (sIf (DL.tAnd (asT (eOp eqD (eVar 1) (eC (.int 2)))) (DL.tAnd (asT (eOp eqD (eOp modD (eOp divD (eVar 0) (eC (.int 13312))) (eC (.int 2))) (eC (.int 1)))) (asT (eOp ltD (eVar 3) (eC (.int 8)))))) (sRet (eOp addD (eVar 4) (eVar 6))) sNext)
    (sRet (eOp addD (eOp addD (eCut (eVar 4) oNone (oSome (eVar 5))) (eVar 6)) (eCut (eVar 4) (oSome (eOp addD (eVar 5) (eC (.int 1)))) oNone)))))))))
def sem_law_name_by : List PyData → Res PyData := bodyD 8 F_law_name_by
def F_law_tree_by : SS :=
  (sSeq (sSet 3 (eLc 10 (sRng1 (aCons (eC (.int 4)) aNil)) tTrue (eCall sem_law_name_by (aCons (eVar 1) (aCons (eVar 10) aNil)))))
    (sSeq (sSet 4 (eTup aNil))
    (sSeq (sIf (DL.tAnd (asTru (eVar 0)) (asT (eOp eqD (eOp modD (eOp ixD (eVar 0) (eC (.int 0))) (eC (.int 5))) (eC (.int 1))))) (sSet 4 (eTup (aCons (eUn minSD (eVar 3)) aNil))) sNext)
    (noBk (sSeq (sTake 5 (eLst (aCons (eTup (aCons (eC .none) (aCons (eVar 4) aNil))) aNil)))
    (sSeq (sFor (sListF (eCutL (eVar 0) oNone (oSome (eVar 2)))) (gF 6) (noBk (sSeq (sSetF 7 (eOp modD (eVar 6) (eArgs lenD (aCons (eVar 5) aNil))))
    (sSeq (sIf (asT (eOp eqD (eOp modD (eOp divD (eVar 6) (eC (.int 64))) (eC (.int 3))) (eC (.int 0)))) (sSetF 7 (eOp subD (eArgs lenD (aCons (eVar 5) aNil)) (eC (.int 1)))) sNext)
    (sSeq (sSetN 8 (eArgs listD (aCons (eOp ixD (eOp ixD (eVar 5) (eVar 7)) (eC (.int 1))) aNil)))
    (sSeq (sSetN 9 (eLc 10 (sRng1 (aCons (eC (.int 4)) aNil)) (asT (eOp eqD (eOp modD (eOp divD (eVar 6) (eOp ixD (eLst (aCons (eC (.int 192)) (aCons (eC (.int 384)) (aCons (eC (.int 768)) (aCons (eC (.int 1536)) aNil))))) (eVar 10))) (eC (.int 2))) (eC (.int 1)))) (eOp ixD (eVar 3) (eVar 10))))
    (sApp 5 (eTup (aCons (eVar 7) (aCons (eArgs tupleD (aCons (eArgs sortedD (aCons (eOp addD (eVar 8) (eLc 11 (sList (eVar 9)) (asT (eOp notInD (eVar 11) (eVar 8))) (eVar 11))) aNil)) aNil)) aNil))))))))))
    (sRet (eArgs tupleD (aCons (eVar 5) aNil)))))))))
def sem_law_tree_by : List PyData → Res PyData := bodyD 12 F_law_tree_by
def F_law_due : SS :=
  (sSeq (sTake 2 (eLst aNil))
    (sSeq (sFor (sRng1 (aCons (eArgs lenD (aCons (eVar 0) aNil)) aNil)) (gF 3) (noBk (sSeq (sSetF 4 (eVar 3))
    (sSeq (sWh 1000 (DL.tAnd (asT (eOp isNotD (eVar 4) (eC .none))) (asT (eOp gtD (eVar 4) (eVar 1)))) (noBk (sSetF 4 (eOp ixD (eOp ixD (eVar 0) (eVar 4)) (eC (.int 0))))))
    (sIf (asT (eOp eqD (eVar 4) (eVar 1))) (sApp 2 (eVar 3)) sNext)))))
    (sRet (eVar 2))))
def sem_law_due : List PyData → Res PyData := bodyN 5 F_law_due
def sem_law_refused (ds : List PyData) : Res PyData := match ds with
  | [t, n, .int w] => if w = 0 then (match sem_above [t, n] with
      | .ex _ => .ok (.bool true)
      | _ => .bad) else (match sem_holds [t, n, .tuple [.str "false"]] with
      | .ex _ => .ok (.bool true)
      | _ => .bad)
  | _ => .bad
def F_law : SS :=
  (sSeq (sSet 1 (eCall sem_law_cell_at (aCons (eVar 0) (aCons (eC (.int 0)) aNil))))
    (sSeq (sSet 2 (eCall sem_law_cell_at (aCons (eVar 0) (aCons (eC (.int 1)) aNil))))
    (sSeq (sSet 3 (eCall sem_law_tree_by (aCons (eCut (eVar 0) (oSome (eC (.int 2))) (oSome (eC (.int 42)))) (aCons (eVar 1) (aCons (eC (.int 40)) aNil)))))
    (sSeq (sSet 4 (eLc 8 (sRng1 (aCons (eArgs lenD (aCons (eVar 3) aNil)) aNil)) tTrue (eVar 8)))
    (sSeq (sIf (asT (eOp eqD (eOp modD (eVar 2) (eC (.int 8))) (eC (.int 3)))) (sSeq (sSet 3 (eTup (aCons (eTup (aCons (eC .none) (aCons (eTup aNil) aNil))) aNil)))
    (sSeq (sFor (sRng1 (aCons (eOp addD (eC (.int 1)) (eOp modD (eOp divD (eVar 2) (eC (.int 8))) (eC (.int 100)))) aNil)) (gN 8) (sSet 3 (eOp addD (eVar 3) (eTup (aCons (eTup (aCons (eOp ixD (eLst (aCons (eVar 8) (aCons (eC (.int 0)) aNil))) (eOp modD (eOp divD (eVar 2) (eC (.int 800))) (eC (.int 2)))) (aCons (eTup (aCons (eC (.str "a")) aNil)) aNil))) aNil)))))
    (sSet 4 (eLst (aCons (eC (.int 0)) (aCons (eOp modD (eOp divD (eVar 2) (eC (.int 1600))) (eArgs lenD (aCons (eVar 3) aNil))) (aCons (eOp subD (eArgs lenD (aCons (eVar 3) aNil)) (eC (.int 1))) aNil))))))) sNext)
    (sSeq (sFor (sList (eVar 4)) (gN 5) (noBk (sSeq (sTake 9 (eCall (calmF sem_above) (aCons (eVar 3) (aCons (eVar 5) aNil))))
    (sSeq (sSetN 10 (eCall sem_law_due (aCons (eVar 3) (aCons (eVar 5) aNil))))
    (sSeq (sIf (DL.tOr (DL.tNot (asT (eUn (isiD "list") (eVar 9)))) (asT (eOp neD (eVar 9) (eVar 10)))) (sRet (eC (.bool false))) sNext)
    (sSeq (sApp 9 (eC (.int 7)))
    (sIf (asT (eOp neD (eCall (calmF sem_above) (aCons (eVar 3) (aCons (eVar 5) aNil))) (eVar 10))) (sRet (eC (.bool false))) sNext)))))))
    (sSeq (sSet 6 (eOp ixD (eLst (aCons (eArgs lenD (aCons (eVar 3) aNil)) (aCons (eOp addD (eOp addD (eArgs lenD (aCons (eVar 3) aNil)) (eC (.int 1))) (eOp modD (eOp divD (eVar 2) (eC (.int 64))) (eC (.int 99)))) (aCons (eUn negD (eC (.int 1))) (aCons (eOp subD (eUn negD (eC (.int 1))) (eOp modD (eOp divD (eVar 2) (eC (.int 64))) (eC (.int 50)))) (aCons (eOp powD (eC (.int 10)) (eC (.int 20))) aNil)))))) (eOp modD (eOp divD (eVar 2) (eC (.int 8))) (eC (.int 5)))))
    (sSeq (sFor (sRng1 (aCons (eC (.int 2)) aNil)) (gN 7) (sIf (DL.tNot (asT (eCall sem_law_refused (aCons (eVar 3) (aCons (eVar 6) (aCons (eVar 7) aNil)))))) (sRet (eC (.bool false))) sNext))
    (sRet (eOp eqD (eCall (calmF sem_above) (aCons (eVar 3) (aCons (eOp ixD (eVar 4) (eUn negD (eC (.int 1)))) aNil))) (eCall sem_law_due (aCons (eVar 3) (aCons (eOp ixD (eVar 4) (eUn negD (eC (.int 1)))) aNil)))))))))))))
def sem_law : List PyData → Res PyData := bodyD 11 F_law
end My

set_option maxRecDepth 100000
set_option maxHeartbeats 4000000
namespace My
open PySem L2 DL PyProof.Rows
/-! ### names -/
def NameOk (w : Str) : Prop := 1 ≤ w.length ∧ w.length ≤ 8 ∧ ∀ c ∈ w.cps.toList, 97 ≤ c ∧ c ≤ 122
theorem len_list (z : Str) : z.length = z.cps.toList.length := by simp [Str.length]
theorem letters_list : ("abcdefghijklmnopqrstuvwxyz" : Str).cps.toList = (List.range 26).map (97 + ·) := by decide +kernel
theorem letters_len : ("abcdefghijklmnopqrstuvwxyz" : Str).length = 26 := by decide +kernel
theorem ix_letters {i : Int} (h0 : 0 ≤ i) (h1 : i < 26) : ixD (.str "abcdefghijklmnopqrstuvwxyz") (.int i) = some (.str ⟨#[97 + i.toNat]⟩) := by
  have h : ∀ n : Nat, n < 26 → atI ("abcdefghijklmnopqrstuvwxyz" : Str).cps.toList (n : Int) = some (97 + n) := by decide +kernel
  have q := h i.toNat (by omega)
  rw [Int.toNat_of_nonneg h0] at q
  simp only [ixD, letters_len, q]
  rfl
theorem index_letters {c : Nat} (h0 : 97 ≤ c) (h1 : c ≤ 122) : indexD "abcdefghijklmnopqrstuvwxyz" (.str ⟨#[c]⟩) = some (.int ((c : Int) - 97)) := by
  have h : ∀ n : Nat, n < 26 → (Builtin.Str.occurrences "abcdefghijklmnopqrstuvwxyz" ⟨#[97 + n]⟩ 0 26 1).head? = some n := by decide +kernel
  have q := h (c - 97) (by omega)
  rw [show 97 + (c - 97) = c by omega] at q
  simp only [indexD, letters_len, q, Option.map_some]
  congr 2
  omega
theorem joinL_nil : ∀ xs : List (List Nat), TL.joinL [] xs = xs.flatten
  | [] => rfl
  | [a] => by simp [TL.joinL]
  | a :: b :: r => by
    have ih := joinL_nil (b :: r)
    simp only [TL.joinL, List.flatten_cons] at ih ⊢
    rw [ih]
    simp
theorem join_signs (cs : List Nat) : Str.join "" (cs.map fun c => (⟨#[c]⟩ : Str)) = ⟨cs.toArray⟩ := by
  refine TL.ext_tl ?_
  rw [TL.tl_join, List.map_map]
  have e : TL.tl "" = [] := by decide +kernel
  rw [e, joinL_nil, TL.tl_mk]
  induction cs with
  | nil => rfl
  | cons c cs ih => simp only [List.map_cons, List.flatten_cons, ih]; rfl
theorem strsOf_strs : ∀ (xs : List Str), strsOf (xs.map PyData.str) = some xs
  | [] => rfl
  | x :: xs => by simp [strsOf, strsOf_strs xs]
theorem joinD_signs (cs : List Nat) (h : cs.length ≤ big) : joinD "" (.list (cs.map fun c => .str ⟨#[c]⟩)) = some (.str ⟨cs.toArray⟩) := by
  have e : (cs.map fun c => PyData.str ⟨#[c]⟩) = (cs.map fun c => (⟨#[c]⟩ : Str)).map PyData.str := by rw [List.map_map]; rfl
  have l : ((cs.map fun c => (⟨#[c]⟩ : Str)).map (·.length)).sum + (cs.map fun c => (⟨#[c]⟩ : Str)).length * ("" : Str).length ≤ big := by
    have e2 : ("" : Str).length = 0 := by decide +kernel
    have e3 : ((cs.map fun c => (⟨#[c]⟩ : Str)).map (·.length)).sum = cs.length := by
      rw [List.map_map]
      induction cs with
      | nil => rfl
      | cons c cs ih =>
        have := ih (by simp at h; omega) (by rw [List.map_map]; rfl)
        simp only [List.map_cons, List.sum_cons, List.length_cons, this]
        show 1 + _ = _
        omega
    rw [e2, e3]
    omega
  simp only [joinD, e, strsOf_strs, Option.bind_some]
  rw [if_pos l, join_signs]
theorem ix_str {z : Str} {i : Int} (h0 : 0 ≤ i) (h1 : i < z.length) (hz : z.length ≤ big) : ∃ c, ixD (.str z) (.int i) = some (.str ⟨#[c]⟩) ∧ c ∈ z.cps.toList := by
  have hl := len_list z
  have hi : i.toNat < z.cps.toList.length := by omega
  have q : atI z.cps.toList ((i.toNat : Nat) : Int) = some z.cps.toList[i.toNat] := atI_nat (List.getElem?_eq_getElem hi)
  rw [Int.toNat_of_nonneg h0] at q
  refine ⟨_, ?_, List.getElem_mem hi⟩
  simp only [ixD, if_pos hz, q]
  rfl
theorem cutS_toList (z : Str) (lo hi : Option Int) : (cutS z lo hi).cps.toList = cutP z.cps.toList lo hi := by
  simp [cutS, cutP, len_list]
theorem sIx_pos {n d : Nat} {i : Int} (h : 0 ≤ i) : HT.sIx n d (some i) = min i.toNat n := by
  have q := HT.sIx_nat n d i.toNat
  rw [Int.toNat_of_nonneg h] at q
  exact q
def nameSign (s : Int) (d : PyData) : Nat := match d with
  | .int j => 97 + ((s / 8 + 5 * j + j * j) % 26).toNat
  | _ => 0
theorem upTo_signs (s : Int) (n : Nat) : (upTo 0 n).map (fun d => PyData.str ⟨#[nameSign s d]⟩) = ((upTo 0 n).map (nameSign s)).map fun c => PyData.str ⟨#[c]⟩ := by
  rw [List.map_map]; rfl
theorem addD_str {a b : Str} (h : a.length + b.length ≤ big) : addD (.str a) (.str b) = some (.str (a ++ b)) := if_pos h
theorem cutD_str {z : Str} {lo hi : Option Int} (h : z.length ≤ big) : cutD lo hi (.str z) = some (.str (cutS z lo hi)) := if_pos h
theorem app_list (a b : Str) : (a ++ b).cps.toList = a.cps.toList ++ b.cps.toList := TL.tl_append a b
theorem app_len (a b : Str) : (a ++ b).length = a.length + b.length := by
  rw [len_list, len_list, len_list, app_list, List.length_append]
@[simp] theorem sign_len (c : Nat) : (⟨#[c]⟩ : Str).length = 1 := rfl
def csOf (s : Int) : List Nat := (upTo 0 (1 + s % 8).toNat).map (nameSign s)
def NameIs (s k : Int) (w : Str) : Prop := NameOk w ∧ ∃ c : Nat, ixD (.str ⟨(csOf s).toArray⟩) (.int (s / 208 % (1 + s % 8))) = some (.str ⟨#[c]⟩) ∧
  ((k = 2 ∧ w.length = (csOf s).length + 1) ∨ (w.length = (csOf s).length ∧ w.cps.toList[(s / 208 % (1 + s % 8)).toNat]? = some (97 + (((c : Int) - 97 + k * (1 + s / 1664 % 8)) % 26).toNat)))
theorem name_by (s k : Int) : ∃ w, sem_law_name_by [.int s, .int k] = .ok (.str w) ∧ NameIs s k w := by
  have h1 : 1 ≤ 1 + s % 8 ∧ 1 + s % 8 ≤ 8 := by omega
  have hbig : big = 1000000 := rfl
  have hb1 : -(big : Int) ≤ 1 + s % 8 ∧ 1 + s % 8 ≤ (big : Int) := by simp only [big]; omega
  have hb2 : (1 + s % 8).toNat ≤ big := by simp only [big]; omega
  simp only [sem_law_name_by, bodyD, F_law_name_by, startD]
  unfold NameIs csOf
  generalize hcs : (upTo 0 (1 + s % 8).toNat).map (nameSign s) = cs
  have hcl : cs.length = (1 + s % 8).toNat := by rw [← hcs, List.length_map, upTo_len]
  have hcr : ∀ c ∈ cs, 97 ≤ c ∧ c ≤ 122 := by
    intro c hc
    rw [← hcs] at hc
    obtain ⟨d, hd, rfl⟩ := List.mem_map.mp hc
    obtain ⟨j, _, rfl⟩ := mem_upTo.mp hd
    simp only [nameSign]
    omega
  have hjoin := joinD_signs cs (by omega)
  simp [eLc_ap, hb1, hb2, upTo_len]
  rw [lcGo_map (v := fun d => .str ⟨#[nameSign s d]⟩) (by
    intro d hd
    obtain ⟨j, hj, rfl⟩ := mem_upTo.mp hd
    have hj1 : -1000000 ≤ (0 : Int) + j ∧ (0 : Int) + j ≤ 1000000 := by omega
    have m1 : mulD (.int 5) (.int (0 + (j : Int))) = some (.int (5 * (0 + (j : Int)))) := mulD_l (small64_of (by decide) (by decide))
    have m2 : mulD (.int (0 + (j : Int))) (.int (0 + (j : Int))) = some (.int ((0 + (j : Int)) * (0 + (j : Int)))) := mulD_l (small64_of hj1.1 hj1.2)
    refine ⟨rfl, ?_, rfl⟩
    simp only [Int.zero_add] at m1 m2
    simp [m1, m2]
    rw [ix_letters (by omega) (by omega)]
    simp [nameSign]), upTo_signs, hcs]
  simp only [Res.calm, Res.ok_bind, hjoin, Res.of_some]
  generalize hz : (⟨cs.toArray⟩ : Str) = z
  have hzl : z.cps.toList = cs := by rw [← hz]
  have hlen : z.length = (1 + s % 8).toNat := by rw [len_list, hzl, hcl]
  generalize hsize : 1 + s % 8 = size at *
  generalize hspot : s / 208 % size = spot
  have hsp : 0 ≤ spot ∧ spot < size := by
    rw [← hspot]
    exact ⟨Int.emod_nonneg _ (by omega), Int.emod_lt_of_pos _ (by omega)⟩
  obtain ⟨c, hc1, hc2⟩ := ix_str (z := z) (i := spot) hsp.1 (by omega) (by omega)
  have hc3 := hcr c (by rw [← hzl]; exact hc2)
  have hidx := index_letters hc3.1 hc3.2
  have m3 : mulD (.int k) (.int (1 + s / 1664 % 8)) = some (.int (k * (1 + s / 1664 % 8))) := mulD_r (small64_of (by omega) (by omega))
  generalize hj : ((c : Int) - 97 + k * (1 + s / 1664 % 8)) % 26 = j
  have hjr : 0 ≤ j ∧ j < 26 := by rw [← hj]; omega
  have hsg := ix_letters hjr.1 hjr.2
  generalize hg : (⟨#[97 + j.toNat]⟩ : Str) = g at hsg
  have hgl : g.length = 1 := by rw [← hg]; rfl
  have hgs : g.cps.toList = [97 + j.toNat] := by rw [← hg]
  have hp : (0 : Int) < size := by omega
  have hk1 : addD (.str z) (.str g) = some (.str (z ++ g)) := addD_str (by omega)
  have hk2 : cutD none (some spot) (.str z) = some (.str (cutS z none (some spot))) := cutD_str (by omega)
  have hk3 : cutD (some (spot + 1)) none (.str z) = some (.str (cutS z (some (spot + 1)) none)) := cutD_str (by omega)
  have hl1 : (cutS z none (some spot)).cps.toList = cs.take spot.toNat := by
    rw [cutS_toList, hzl]
    simp only [cutP, HT.sIx_none, List.drop_zero, Nat.sub_zero]
    rw [sIx_pos hsp.1]
    rw [Nat.min_eq_left (by omega)]
  have hl2 : (cutS z (some (spot + 1)) none).cps.toList = cs.drop (spot.toNat + 1) := by
    rw [cutS_toList, hzl]
    simp only [cutP, HT.sIx_none]
    rw [sIx_pos (by omega), Nat.min_eq_left (by omega), show (spot + 1).toNat = spot.toNat + 1 by omega]
    exact List.take_of_length_le (by rw [List.length_drop]; omega)
  have hL1 : (cutS z none (some spot)).length = spot.toNat := by rw [len_list, hl1, List.length_take]; omega
  have hL2 : (cutS z (some (spot + 1)) none).length = cs.length - (spot.toNat + 1) := by rw [len_list, hl2, List.length_drop]
  have hk4 : addD (.str (cutS z none (some spot))) (.str g) = some (.str (cutS z none (some spot) ++ g)) := addD_str (by omega)
  have hk5 : addD (.str (cutS z none (some spot) ++ g)) (.str (cutS z (some (spot + 1)) none)) = some (.str (cutS z none (some spot) ++ g ++ cutS z (some (spot + 1)) none)) := addD_str (by rw [app_len]; omega)
  simp [hp, hspot, hc1, hidx, m3, hj, hsg, hk1, hk2, hk3, hk4, hk5]
  have ok1 : size < 8 → NameOk (z ++ g) := fun h => by
    refine ⟨by rw [app_len]; omega, by rw [app_len]; omega, fun x hx => ?_⟩
    rw [app_list, hzl, hgs] at hx
    rcases List.mem_append.mp hx with hx | hx
    · exact hcr x hx
    · rw [List.mem_singleton] at hx
      omega
  have ok2 : NameOk (cutS z none (some spot) ++ g ++ cutS z (some (spot + 1)) none) := by
    refine ⟨by rw [app_len, app_len]; omega, by rw [app_len, app_len]; omega, fun x hx => ?_⟩
    rw [app_list, app_list, hl1, hl2, hgs] at hx
    rcases List.mem_append.mp hx with hx | hx
    · rcases List.mem_append.mp hx with hx | hx
      · exact hcr x (List.mem_of_mem_take hx)
      · rw [List.mem_singleton] at hx
        omega
    · exact hcr x (List.mem_of_mem_drop hx)
  have ok3 : (cutS z none (some spot) ++ g ++ cutS z (some (spot + 1)) none).length = cs.length ∧ (cutS z none (some spot) ++ g ++ cutS z (some (spot + 1)) none).cps.toList[spot.toNat]? = some (97 + j.toNat) := by
    refine ⟨by rw [app_len, app_len]; omega, ?_⟩
    rw [app_list, app_list, hl1, hl2, hgs, List.append_assoc, List.getElem?_append_right (by rw [List.length_take]; omega), List.length_take, Nat.min_eq_left (by omega)]
    simp
  split
  · rename_i hk
    split
    · split
      · rename_i h
        exact ⟨_, rfl, ok1 h, .inl ⟨hk, by rw [app_len]; omega⟩⟩
      · exact ⟨_, rfl, ok2, .inr (by simpa using ok3)⟩
    · exact ⟨_, rfl, ok2, .inr (by simpa using ok3)⟩
  · exact ⟨_, rfl, ok2, .inr (by simpa using ok3)⟩
theorem name_ne {s : Int} {i j : Nat} {w v : Str} (h1 : NameIs s i w) (h2 : NameIs s j v) (hi : i < 4) (hj : j < 4) (hij : i < j) : w ≠ v := by
  rintro rfl
  obtain ⟨_, c, e1, h1⟩ := h1
  obtain ⟨_, d, e2, h2⟩ := h2
  rw [e1] at e2
  simp only [Option.some.injEq, PyData.str.injEq, Str.mk.injEq] at e2
  have e3 : c = d := by simpa using congrArg Array.toList e2
  subst e3
  rcases h1 with ⟨a1, a2⟩ | ⟨a1, a2⟩
  · rcases h2 with ⟨b1, b2⟩ | ⟨b1, b2⟩
    · omega
    · omega
  · rcases h2 with ⟨b1, b2⟩ | ⟨b1, b2⟩
    · omega
    · rw [a2] at b2
      simp only [Option.some.injEq] at b2
      generalize hm : 1 + s / 1664 % 8 = m at b2
      have hm1 : 1 ≤ m ∧ m ≤ 8 := by omega
      have hi' : i = 0 ∨ i = 1 ∨ i = 2 := by omega
      have hj' : j = 1 ∨ j = 2 ∨ j = 3 := by omega
      rcases hi' with rfl | rfl | rfl <;> rcases hj' with rfl | rfl | rfl <;> first | omega | (simp only [Nat.cast_ofNat_Int, Int.cast_ofNat_Int, Int.zero_mul, Int.one_mul] at b2; omega)

end My

set_option maxRecDepth 100000
set_option maxHeartbeats 4000000
set_option linter.all false
namespace My
open PySem L2 DL PyProof.Rows
/-! ### data of small depth -/
mutual
def strB : PyData → Bool
  | .none => true
  | .bool _ => true
  | .int _ => true
  | .str z => decide (z.length ≤ 1000)
  | .list ds => strBs ds && decide (ds.length ≤ 1000)
  | .tuple ds => strBs ds && decide (ds.length ≤ 1000)
  | .dict _ => false
def strBs : List PyData → Bool
  | [] => true
  | d :: ds => strB d && strBs ds
end
def Nice (d : PyData) (k : Nat) : Prop := d.canLay0 = true ∧ d.depth ≤ k ∧ strB d = true
def Nices (ds : List PyData) (k : Nat) : Prop := PyData.canLayAll0 ds = true ∧ PyData.depthAll ds ≤ k ∧ strBs ds = true
theorem nices_nil (k : Nat) : Nices [] k := ⟨rfl, Nat.zero_le _, rfl⟩
theorem nices_cons {d : PyData} {ds : List PyData} {k : Nat} : Nices (d :: ds) k ↔ Nice d k ∧ Nices ds k := by
  simp only [Nices, Nice, PyData.canLayAll0, PyData.depthAll, strBs, Bool.and_eq_true]
  constructor
  · rintro ⟨⟨a, b⟩, c, d, e⟩
    exact ⟨⟨a, by omega, d⟩, b, by omega, e⟩
  · rintro ⟨⟨a, b, c⟩, d, e, f⟩
    exact ⟨⟨a, d⟩, by omega, c, f⟩
theorem nices_mem {ds : List PyData} {k : Nat} : Nices ds k ↔ ∀ d ∈ ds, Nice d k := by
  induction ds with
  | nil => exact ⟨fun _ d h => (by cases h), fun _ => nices_nil k⟩
  | cons d ds ih =>
    rw [nices_cons, ih]
    exact ⟨fun h e he => by
      rcases List.mem_cons.mp he with rfl | he
      · exact h.1
      · exact h.2 e he, fun h => ⟨h d List.mem_cons_self, fun e he => h e (List.mem_cons_of_mem _ he)⟩⟩
theorem nice_tup {ds : List PyData} {k : Nat} : Nice (.tuple ds) (k + 1) ↔ Nices ds k ∧ ds.length ≤ 1000 := by
  simp only [Nice, Nices, PyData.canLay0, PyData.depth, strB, Bool.and_eq_true, decide_eq_true_eq]
  exact ⟨fun h => ⟨⟨h.1, by omega, h.2.2.1⟩, h.2.2.2⟩, fun h => ⟨h.1.1, by omega, h.1.2.2, h.2⟩⟩
theorem nice_lst {ds : List PyData} {k : Nat} : Nice (.list ds) (k + 1) ↔ Nices ds k ∧ ds.length ≤ 1000 := by
  simp only [Nice, Nices, PyData.canLay0, PyData.depth, strB, Bool.and_eq_true, decide_eq_true_eq]
  exact ⟨fun h => ⟨⟨h.1, by omega, h.2.2.1⟩, h.2.2.2⟩, fun h => ⟨h.1.1, by omega, h.1.2.2, h.2⟩⟩
theorem Nice.mono {d : PyData} {k j : Nat} (h : Nice d k) (hj : k ≤ j) : Nice d j := ⟨h.1, Nat.le_trans h.2.1 hj, h.2.2⟩
theorem nice_shaped {d : PyData} {k : Nat} (h : Nice d k) (hk : k ≤ 64) : SeqAt.shaped d = true := by
  unfold SeqAt.shaped
  rw [h.1]
  simpa using Nat.le_trans h.2.1 hk
theorem nice_str {z : Str} {k : Nat} (h1 : z.length ≤ 1000) (h2 : ∀ c ∈ z.cps.toList, c < 1114112) : Nice (.str z) k := by
  refine ⟨?_, by simp [PyData.depth], by simpa [strB] using h1⟩
  simp only [PyData.canLay0, PyData.strOk, Array.all_eq_true, decide_eq_true_eq]
  intro i hi
  exact h2 _ (Array.mem_toList_iff.mpr (Array.getElem_mem hi))
theorem str_nice {z : Str} {k : Nat} (h : Nice (.str z) k) : z.length ≤ 1000 ∧ ∀ c ∈ z.cps.toList, c < 1114112 := by
  obtain ⟨a, _, b⟩ := h
  refine ⟨by simpa [strB] using b, fun c hc => ?_⟩
  simp only [PyData.canLay0, PyData.strOk, Array.all_eq_true, decide_eq_true_eq] at a
  obtain ⟨i, hi, e⟩ := Array.mem_iff_getElem.mp (Array.mem_toList_iff.mp hc)
  rw [← e]
  exact a i hi
theorem name_nice {w : Str} (h : NameOk w) (k : Nat) : Nice (.str w) k := nice_str (Nat.le_trans h.2.1 (by decide)) fun c hc => Nat.lt_of_le_of_lt (h.2.2 c hc).2 (by decide)
theorem big_ge {n : Nat} (h : n ≤ 1000) : n ≤ big := Nat.le_trans h (by decide)
theorem shaped_list0 (xs : List PyData) (h : SeqAt.shaped (.list xs) = true) : eqD (.list xs) (.list []) = some (.bool xs.isEmpty) := by
  have e : SeqAt.shaped (.list []) = true := by decide
  have e2 : eqD (.list xs) (.list []) = if SeqAt.shaped (.list xs) && SeqAt.shaped (.list []) then some (.bool (PyData.eqv (.list xs) (.list []))) else none := rfl
  rw [e2, h, e]
  cases xs <;> rfl
/-! ### is it a name -/
def nameB : PyData → Bool
  | .str z => decide (1 ≤ z.length) && decide (z.length ≤ 8) && z.cps.toList.all fun c => decide (97 ≤ c ∧ c ≤ 122)
  | _ => false
theorem mem_letters (c : Nat) : c ∈ ("abcdefghijklmnopqrstuvwxyz" : Str).cps.toList ↔ 97 ≤ c ∧ c ≤ 122 := by
  rw [letters_list]
  simp only [List.mem_map, List.mem_range]
  exact ⟨fun ⟨i, h, e⟩ => by omega, fun h => ⟨c - 97, by omega, by omega⟩⟩
theorem in_letters (c : Nat) : inD (.str ⟨#[c]⟩) (.str "abcdefghijklmnopqrstuvwxyz") = some (.bool (decide (97 ≤ c ∧ c ≤ 122))) := by
  have e : inD (.str ⟨#[c]⟩) (.str "abcdefghijklmnopqrstuvwxyz") = some (.bool (decide (c ∈ ("abcdefghijklmnopqrstuvwxyz" : Str).cps.toList))) := rfl
  rw [e]
  congr 2
  exact decide_eq_decide.mpr (mem_letters c)
theorem notin_letters (c : Nat) : notInD (.str ⟨#[c]⟩) (.str "abcdefghijklmnopqrstuvwxyz") = some (.bool (!decide (97 ≤ c ∧ c ≤ 122))) := by
  simp only [notInD, in_letters]
def signOf : PyData → Nat
  | .str z => z.cps.toList.headD 0
  | _ => 0
theorem bools_bl : ∀ (bs : List Bool), bools (bs.map PyData.bool) = some bs
  | [] => rfl
  | b :: bs => by simp [bools, bools_bl bs]
theorem lenD_str {z : Str} (h : z.length ≤ big) : lenD [.str z] = some (.int z.length) := if_pos h
theorem signs_nice {z : Str} {k : Nat} (h : ∀ c ∈ z.cps.toList, c < 1114112) : ∀ cs : List Nat, (∀ c ∈ cs, c ∈ z.cps.toList) → Nices (cs.map fun c => .str ⟨#[c]⟩) k
  | [], _ => nices_nil k
  | c :: cs, hc => nices_cons.mpr ⟨nice_str (by rw [sign_len]; decide) (by
      intro x hx
      rw [show (⟨#[c]⟩ : Str).cps.toList = [c] from rfl, List.mem_singleton] at hx
      subst hx
      exact h x (hc x List.mem_cons_self)), signs_nice h cs fun x hx => hc x (List.mem_cons_of_mem _ hx)⟩
@[simp] def isTupB : PyData → Bool
  | .tuple _ => true
  | _ => false
@[simp] def isStrB : PyData → Bool
  | .str _ => true
  | _ => false
theorem isi_tuple_of {d : PyData} {k : Nat} (h : Nice d k) : isiD "tuple" d = some (.bool (isTupB d)) := by
  cases d <;> first | rfl | (simp [Nice, strB] at h)
theorem isi_str_of {d : PyData} {k : Nat} (h : Nice d k) : isiD "str" d = some (.bool (isStrB d)) := by
  cases d <;> first | rfl | (simp [Nice, strB] at h)
@[simp] theorem at0 {x : PyData} {xs : List PyData} : atI (x :: xs) 0 = some x := by
  have h := atI_nat (xs := x :: xs) (j := 0) (v := x) rfl
  exact h
@[simp] theorem at1 {x y : PyData} {xs : List PyData} : atI (x :: y :: xs) 1 = some y := by
  have h := atI_nat (xs := x :: y :: xs) (j := 1) (v := y) rfl
  exact h
@[simp] theorem at2 {x y z : PyData} {xs : List PyData} : atI (x :: y :: z :: xs) 2 = some z := by
  have h := atI_nat (xs := x :: y :: z :: xs) (j := 2) (v := z) rfl
  exact h
theorem isi_tup {z : List PyData} : isiD "tuple" (.tuple z) = some (.bool true) := nrfl rfl
theorem allD_map {f : PyData → Bool} (xs : List PyData) : allD [.list (xs.map fun d => .bool (f d))] = some (.bool (xs.all f)) := by
  have e : xs.map (fun d => PyData.bool (f d)) = (xs.map f).map PyData.bool := by rw [List.map_map]; rfl
  simp only [allD, e, bools_bl, Option.map_some, List.all_map]
  rfl
def nth (ds : List PyData) (k : Nat) : PyData := ds.getD k .none
def ltB : PyData → PyData → Bool
  | .str a, .str b => decide (a.cps.toList < b.cps.toList)
  | _, _ => false
def natOf : PyData → Nat
  | .int i => i.toNat
  | _ => 0
def nmsB : PyData → Bool
  | .tuple ds => ds.all nameB && (List.range (ds.length - 1)).all fun k => ltB (nth ds k) (nth ds (k + 1))
  | _ => false
theorem nameB_str {d : PyData} (h : nameB d = true) : ∃ z, d = .str z := by
  cases d <;> simp [nameB] at h
  exact ⟨_, rfl⟩
theorem ltD_B {d e : PyData} (h1 : nameB d = true) (h2 : nameB e = true) : ltD d e = some (.bool (ltB d e)) := by
  obtain ⟨z, rfl⟩ := nameB_str h1
  obtain ⟨w, rfl⟩ := nameB_str h2
  rfl
theorem getD_at {ds : List PyData} {k : Nat} (h : k < ds.length) : atI ds (k : Int) = some (nth ds k) := by
  rw [atI_nat (List.getElem?_eq_getElem h)]
  simp [nth, List.getD, h]
theorem getD_mem {ds : List PyData} {k : Nat} (h : k < ds.length) : nth ds k ∈ ds := by
  simp [nth, List.getD, h]
theorem all_upTo {f : PyData → Bool} {n : Nat} : (DL.upTo 0 n).all f = (List.range n).all fun k => f (.int k) := by
  unfold DL.upTo
  rw [List.all_map]
  congr 1
  funext k
  simp
end My

set_option maxRecDepth 100000
set_option maxHeartbeats 4000000
set_option linter.all false
namespace My
open PySem L2 DL PyProof.Rows
/-! ### the trees that are built -/
abbrev Wd := Option Nat × List Str
def encW (x : Wd) : PyData := .tuple [match x.1 with | none => .none | some i => .int (i : Nat), .tuple (x.2.map PyData.str)]
def Names (s : Int) (w : Nat → Str) : Prop := ∀ k, k < 4 → sem_law_name_by [.int s, .int (k : Nat)] = .ok (.str (w k)) ∧ NameIs s (k : Nat) (w k)
theorem names_ex (s : Int) : ∃ w, Names s w := by
  have h : ∀ k : Nat, ∃ x, sem_law_name_by [.int s, .int (k : Nat)] = .ok (.str x) ∧ NameIs s (k : Nat) x := fun k => name_by s k
  exact ⟨fun k => (h k).choose, fun k _ => (h k).choose_spec⟩
theorem Names.ne {s : Int} {w : Nat → Str} (h : Names s w) {i j : Nat} (hi : i < 4) (hj : j < 4) (hij : i < j) : w i ≠ w j := name_ne (h i hi).2 (h j hj).2 hi hj hij
theorem Names.ok {s : Int} {w : Nat → Str} (h : Names s w) {i : Nat} (hi : i < 4) : NameOk (w i) := (h i hi).2.1
def Of (w : Nat → Str) (x : Str) : Prop := ∃ k, k < 4 ∧ x = w k
def ltS (a b : Str) : Prop := a.cps.toList < b.cps.toList
structure TreeOk (w : Nat → Str) (ws : List Wd) : Prop where
  pos : 0 < ws.length
  root : ∀ x, ws[0]? = some x → x.1 = none
  up : ∀ k x, 0 < k → ws[k]? = some x → ∃ i y, x.1 = some i ∧ i < k ∧ ws[i]? = some y ∧ ∀ z ∈ y.2, z ∈ x.2
  of : ∀ x ∈ ws, ∀ z ∈ x.2, Of w z
  rise : ∀ x ∈ ws, x.2.Pairwise ltS
theorem len_sub : ∀ (ys xs : List Str), xs.Nodup → (∀ x ∈ xs, x ∈ ys) → xs.length ≤ ys.length
  | [], xs, _, h => by
    cases xs with
    | nil => exact Nat.le_refl _
    | cons x xs => exact absurd (h x List.mem_cons_self) (by simp)
  | y :: ys, xs, hn, h => by
    by_cases hy : y ∈ xs
    · have h1 := len_sub ys (xs.erase y) (hn.erase y) fun x hx => by
        have h2 := (hn.mem_erase_iff).mp hx
        rcases List.mem_cons.mp (h x h2.2) with h3 | h3
        · exact absurd h3 h2.1
        · exact h3
      rw [List.length_erase_of_mem hy] at h1
      rw [List.length_cons]
      omega
    · have h1 := len_sub ys xs hn fun x hx => by
        rcases List.mem_cons.mp (h x hx) with h3 | h3
        · subst h3; exact absurd hx hy
        · exact h3
      rw [List.length_cons]
      omega
theorem rise_nodup {xs : List Str} (h : xs.Pairwise ltS) : xs.Nodup := h.imp fun h e => by
  subst e
  exact absurd h (List.lt_irrefl _)
theorem of_len {w : Nat → Str} {xs : List Str} (hn : xs.Nodup) (h : ∀ z ∈ xs, Of w z) : xs.length ≤ 4 := len_sub [w 0, w 1, w 2, w 3] xs hn fun x hx => by
  obtain ⟨k, hk, rfl⟩ := h x hx
  have : k = 0 ∨ k = 1 ∨ k = 2 ∨ k = 3 := by omega
  rcases this with rfl | rfl | rfl | rfl <;> simp
theorem frzs_strs : ∀ xs : List Str, frzs (xs.map PyData.str) = true
  | [] => rfl
  | x :: xs => by simp [frzs, frz, frzs_strs xs]
theorem frz_encW (x : Wd) : frz (encW x) = true := by
  unfold encW
  cases x.1 <;> simp [frz, frzs, frzs_strs]
theorem frzs_encs : ∀ ws : List Wd, frzs (ws.map encW) = true
  | [] => rfl
  | x :: xs => by simp [frzs, frz_encW, frzs_encs xs]
theorem nice_strs {xs : List Str} (h : ∀ z ∈ xs, NameOk z) (k : Nat) : Nices (xs.map PyData.str) k := nices_mem.mpr fun d hd => by
  obtain ⟨z, hz, rfl⟩ := List.mem_map.mp hd
  exact name_nice (h z hz) k
theorem notIn_strs {z : Str} {xs : List Str} (hz : NameOk z) (h : ∀ z ∈ xs, NameOk z) (hl : xs.length ≤ 1000) : notInD (.str z) (.list (xs.map PyData.str)) = some (.bool (!decide (z ∈ xs))) := by
  unfold notInD
  have e : inD (.str z) (.list (xs.map PyData.str)) = if SeqAt.shaped (.str z) && SeqAt.shaped (.list (xs.map PyData.str)) then some (.bool ((xs.map PyData.str).any fun y => PyData.eqv y (.str z))) else none := rfl
  rw [e, nice_shaped (name_nice hz 0) (by decide), nice_shaped (nice_lst.mpr ⟨nice_strs h 0, by simpa using hl⟩) (by decide)]
  simp only [Bool.and_self, if_true]
  congr 3
  rw [Bool.eq_iff_iff, List.any_map, List.any_eq_true, decide_eq_true_eq]
  constructor
  · rintro ⟨y, hy, h⟩
    have : y = z := by simpa [PyData.eqv] using h
    exact this ▸ hy
  · intro h
    exact ⟨z, h, by simp [PyData.eqv]⟩
/-- the names that a cell asks for -/
def askD (c : Int) (d : PyData) : Bool := match natOf d with
  | 0 => c / 192 % 2 == 1
  | 1 => c / 384 % 2 == 1
  | 2 => c / 768 % 2 == 1
  | _ => c / 1536 % 2 == 1
def newOf (w : Nat → Str) (c : Int) : List Str := ((DL.upTo 0 4).filter (askD c)).map fun d => w (natOf d)
theorem upTo4 : DL.upTo 0 4 = [.int 0, .int 1, .int 2, .int 3] := rfl
theorem newOf_of {w : Nat → Str} {c : Int} : ∀ z ∈ newOf w c, Of w z := by
  intro z hz
  unfold newOf at hz
  obtain ⟨d, hd, rfl⟩ := List.mem_map.mp hz
  have := (List.mem_filter.mp hd).1
  rw [upTo4] at this
  simp only [List.mem_cons, List.not_mem_nil, or_false] at this
  rcases this with rfl | rfl | rfl | rfl
  · exact ⟨0, by decide, rfl⟩
  · exact ⟨1, by decide, rfl⟩
  · exact ⟨2, by decide, rfl⟩
  · exact ⟨3, by decide, rfl⟩
theorem newOf_nodup {s : Int} {w : Nat → Str} (h : Names s w) (c : Int) : (newOf w c).Nodup := by
  unfold newOf List.Nodup
  rw [List.pairwise_map]
  refine List.Pairwise.filter _ ?_
  rw [upTo4]
  have n01 := h.ne (i := 0) (j := 1) (by decide) (by decide) (by decide)
  have n02 := h.ne (i := 0) (j := 2) (by decide) (by decide) (by decide)
  have n03 := h.ne (i := 0) (j := 3) (by decide) (by decide) (by decide)
  have n12 := h.ne (i := 1) (j := 2) (by decide) (by decide) (by decide)
  have n13 := h.ne (i := 1) (j := 3) (by decide) (by decide) (by decide)
  have n23 := h.ne (i := 2) (j := 3) (by decide) (by decide) (by decide)
  simp only [List.pairwise_cons, List.mem_cons, List.not_mem_nil, or_false, forall_eq_or_imp, forall_eq]
  exact ⟨⟨n01, n02, n03⟩, ⟨n12, n13⟩, n23, by simp, .nil⟩
def nextNames (w : Nat → Str) (had : List Str) (c : Int) : List Str := sortS (had ++ (newOf w c).filter fun z => !decide (z ∈ had))
def parOf (c : Int) (n : Nat) : Nat := if c / 64 % 3 = 0 then n - 1 else (c % n).toNat
def namesOf (ws : List Wd) (k : Nat) : List Str := (ws.getD k (none, [])).2
theorem par_lt (c : Int) {n : Nat} (h : 0 < n) : parOf c n < n := by
  unfold parOf
  split
  · omega
  · have := Int.emod_lt_of_pos c (show (0 : Int) < n by omega)
    have := Int.emod_nonneg c (show (n : Int) ≠ 0 by omega)
    omega
theorem next_props {s : Int} {w : Nat → Str} (hw : Names s w) {had : List Str} (h1 : had.Pairwise ltS) (h2 : ∀ z ∈ had, Of w z) (c : Int) :
    (nextNames w had c).Pairwise ltS ∧ (∀ z ∈ nextNames w had c, Of w z) ∧ ∀ z ∈ had, z ∈ nextNames w had c := by
  have hp := sortS_perm (had ++ (newOf w c).filter fun z => !decide (z ∈ had))
  have hn : (had ++ (newOf w c).filter fun z => !decide (z ∈ had)).Nodup := by
    refine List.nodup_append.mpr ⟨rise_nodup h1, (newOf_nodup hw c).filter _, fun a ha b hb e => ?_⟩
    subst e
    have := (List.mem_filter.mp hb).2
    simp [ha] at this
  refine ⟨?_, fun z hz => ?_, fun z hz => ?_⟩
  · have hn2 : (nextNames w had c).Nodup := hp.nodup_iff.mpr hn
    have hs := sortS_pw (had ++ (newOf w c).filter fun z => !decide (z ∈ had))
    have := hs.and hn2
    refine this.imp fun {a b} h => ?_
    have h3 := leS_iff.mp h.1
    unfold ltS
    rcases List.le_iff_lt_or_eq.mp h3 with h4 | h4
    · exact h4
    · exact absurd (PySem.W.str_of_cps h4) h.2
  · have := hp.mem_iff.mp hz
    rcases List.mem_append.mp this with h | h
    · exact h2 z h
    · exact newOf_of z (List.mem_filter.mp h).1
  · exact hp.mem_iff.mpr (List.mem_append_left _ hz)
theorem tree_step {s : Int} {w : Nat → Str} (hw : Names s w) {ws : List Wd} (h : TreeOk w ws) (c : Int) : TreeOk w (ws ++ [(some (parOf c ws.length), nextNames w (namesOf ws (parOf c ws.length)) c)]) := by
  have hpl := par_lt c h.pos
  generalize parOf c ws.length = p at hpl ⊢
  have hy : ws[p]? = some (ws.getD p (none, [])) := by simp [List.getD, hpl]
  have hm := List.mem_of_getElem? hy
  obtain ⟨n1, n2, n3⟩ := next_props hw (h.rise _ hm) (h.of _ hm) c
  refine ⟨by simp, fun x hx => ?_, fun k x hk hx => ?_, fun x hx => ?_, fun x hx => ?_⟩
  · rw [List.getElem?_append_left h.pos] at hx
    exact h.root x hx
  · by_cases hkl : k < ws.length
    · rw [List.getElem?_append_left hkl] at hx
      obtain ⟨i, y, a, b, d, e⟩ := h.up k x hk hx
      exact ⟨i, y, a, b, by rw [List.getElem?_append_left (by omega)]; exact d, e⟩
    · have hk2 := (List.getElem?_eq_some_iff.mp hx).1
      simp only [List.length_append, List.length_cons, List.length_nil] at hk2
      have e : k = ws.length := by omega
      subst e
      rw [List.getElem?_append_right (Nat.le_refl _), Nat.sub_self] at hx
      cases hx
      exact ⟨p, _, rfl, hpl, by rw [List.getElem?_append_left hpl]; exact hy, n3⟩
  · rcases List.mem_append.mp hx with hx | hx
    · exact h.of x hx
    · rw [List.mem_singleton] at hx
      subst hx
      exact n2
  · rcases List.mem_append.mp hx with hx | hx
    · exact h.rise x hx
    · rw [List.mem_singleton] at hx
      subst hx
      exact n1
end My

set_option maxRecDepth 100000
set_option maxHeartbeats 4000000
set_option linter.all false
namespace My
open PySem L2 DL PyProof.Rows
def treeRest : SS :=
  (sSeq (sSetN 8 (eArgs listD (aCons (eOp ixD (eOp ixD (eVar 5) (eVar 7)) (eC (.int 1))) aNil)))
    (sSeq (sSetN 9 (eLc 10 (sRng1 (aCons (eC (.int 4)) aNil)) (asT (eOp eqD (eOp modD (eOp divD (eVar 6) (eOp ixD (eLst (aCons (eC (.int 192)) (aCons (eC (.int 384)) (aCons (eC (.int 768)) (aCons (eC (.int 1536)) aNil))))) (eVar 10))) (eC (.int 2))) (eC (.int 1)))) (eOp ixD (eVar 3) (eVar 10))))
    (sApp 5 (eTup (aCons (eVar 7) (aCons (eArgs tupleD (aCons (eArgs sortedD (aCons (eOp addD (eVar 8) (eLc 11 (sList (eVar 9)) (asT (eOp notInD (eVar 11) (eVar 8))) (eVar 11))) aNil)) aNil)) aNil))))))
def treeBody : SS :=
  (noBk (sSeq (sSetF 7 (eOp modD (eVar 6) (eArgs lenD (aCons (eVar 5) aNil))))
    (sSeq (sIf (asT (eOp eqD (eOp modD (eOp divD (eVar 6) (eC (.int 64))) (eC (.int 3))) (eC (.int 0)))) (sSetF 7 (eOp subD (eArgs lenD (aCons (eVar 5) aNil)) (eC (.int 1)))) sNext)
    treeRest)))
@[simp] theorem at3 {x y z u : PyData} {xs : List PyData} : atI (x :: y :: z :: u :: xs) 3 = some u := by
  have h := atI_nat (xs := x :: y :: z :: u :: xs) (j := 3) (v := u) rfl
  exact h
theorem encW_1 (x : Wd) : ixD (encW x) (.int 1) = some (.tuple (x.2.map PyData.str)) := by
  unfold encW
  simp
theorem encs_at {ws : List Wd} {p : Nat} (h : p < ws.length) : atI (ws.map encW) (p : Int) = some (encW (ws.getD p (none, []))) := by
  rw [atI_nat (List.getElem?_eq_getElem (by rw [List.length_map]; exact h))]
  simp [List.getD, h]
def strOut (had : List Str) : PyData → Bool
  | .str z => !decide (z ∈ had)
  | _ => false
theorem tree_rest {s : Int} {w : Nat → Str} (hw : Names s w) {ws : List Wd} (h : TreeOk w ws) (hl : ws.length ≤ 1000) (c : Int) {p : Nat} (hp : p < ws.length) (a0 a1 a2 b4 x8 x9 x10 x11 : Option PyData) :
    treeRest [a0, a1, a2, some (.list [.str (w 0), .str (w 1), .str (w 2), .str (w 3)]), b4, some (.list (ws.map encW)), some (.int c), some (.int p), x8, x9, x10, x11] =
      .ok (.nx [a0, a1, a2, some (.list [.str (w 0), .str (w 1), .str (w 2), .str (w 3)]), b4, some (.list ((ws ++ [(some p, nextNames w (namesOf ws p) c)]).map encW)), some (.int c), some (.int p), some (.list ((namesOf ws p).map PyData.str)), some (.list ((newOf w c).map PyData.str)), x10, x11]) := by
  have hb1 : -(big : Int) ≤ 4 ∧ (4 : Int) ≤ big := by simp only [big]; omega
  have hb2 : (DL.upTo 0 (4 : Int).toNat).length ≤ big := by rw [upTo_len]; simp only [big]; decide
  have e1 := encs_at hp
  have hy : ws[p]? = some (ws.getD p (none, [])) := by simp [List.getD, hp]
  have hm := List.mem_of_getElem? hy
  have hof : ∀ z ∈ namesOf ws p, Of w z := h.of _ hm
  have hri : (namesOf ws p).Pairwise ltS := h.rise _ hm
  have e2 : ixD (encW (ws.getD p (none, []))) (.int 1) = some (.tuple ((namesOf ws p).map PyData.str)) := encW_1 _
  generalize namesOf ws p = had at *
  have hok : ∀ z ∈ had, NameOk z := fun z hz => by
    obtain ⟨k, hk, rfl⟩ := hof z hz
    exact hw.ok hk
  have hnok : ∀ z ∈ newOf w c, NameOk z := fun z hz => by
    obtain ⟨k, hk, rfl⟩ := newOf_of z hz
    exact hw.ok hk
  have hhl : had.length ≤ 4 := of_len (rise_nodup hri) hof
  have hnl : (newOf w c).length ≤ 4 := of_len (newOf_nodup hw c) newOf_of
  unfold treeRest
  simp only [sSeq_ap, sSetN_ap, eArgs_ap, aCons_ap, aNil_ap, eOp_ap, eVar_ap, eC_ap, List.getElem?_cons_succ, List.getElem?_cons_zero, Res.ok_bind, ixD_list, e1, Res.of_some, e2, listD, frzs_strs, if_true, List.set_cons_succ, List.set_cons_zero]
  rw [eLc_ap]
  simp only [sRng1_ap, aCons_ap, aNil_ap, eC_ap, Res.ok_bind, if_pos hb1, if_pos hb2, List.set_cons_succ, List.set_cons_zero]
  rw [lcGo_filter (p := askD c) (v := fun d => .str (w (natOf d))) (by
    intro d hd
    rw [show (4 : Int).toNat = 4 from rfl, upTo4] at hd
    simp only [List.mem_cons, List.not_mem_nil, or_false] at hd
    have hbg : (4 : Nat) ≤ big := by simp only [big]; decide
    rcases hd with rfl | rfl | rfl | rfl <;> simp [askD, natOf, frz, hbg])]
  have e3 : ((DL.upTo 0 (4 : Int).toNat).filter (askD c)).map (fun d => PyData.str (w (natOf d))) = (newOf w c).map PyData.str := by
    unfold newOf
    rw [List.map_map]
    rfl
  rw [e3]
  simp only [Res.calm, Res.ok_bind, frzs_strs, if_true, List.set_cons_succ, List.set_cons_zero]
  have hb3 : ((newOf w c).map PyData.str).length ≤ big := by rw [List.length_map]; simp only [big]; omega
  simp only [sApp_ap, eTup_ap, aCons_ap, aNil_ap, eArgs_ap, eOp_ap, eVar_ap, List.getElem?_cons_succ, List.getElem?_cons_zero, Res.ok_bind]
  rw [eLc_ap]
  simp only [sList_ap, eVar_ap, List.getElem?_cons_succ, List.getElem?_cons_zero, Res.ok_bind, if_pos hb3, List.set_cons_succ, List.set_cons_zero]
  rw [lcGo_filter (p := strOut had) (v := fun d => d) (by
    intro d hd
    obtain ⟨z, hz, rfl⟩ := List.mem_map.mp hd
    have := notIn_strs (hnok z hz) hok (by omega)
    exact ⟨by simp [this, strOut], fun _ => ⟨by simp, rfl⟩⟩)]
  have e4 : (((newOf w c).map PyData.str).filter (strOut had)).map (fun d => d) = ((newOf w c).filter fun z => !decide (z ∈ had)).map PyData.str := by
    rw [List.map_id', List.filter_map]
    rfl
  rw [e4]
  have e8 : (ws ++ [((some p, nextNames w had c) : Wd)]).map encW = ws.map encW ++ [encW (some p, nextNames w had c)] := by simp
  rw [e8]
  have hfl := List.length_filter_le (fun z => !decide (z ∈ had)) (newOf w c)
  have e5 : addD (.list (had.map PyData.str)) (.list (((newOf w c).filter fun z => !decide (z ∈ had)).map PyData.str)) = some (.list ((had ++ (newOf w c).filter fun z => !decide (z ∈ had)).map PyData.str)) := by
    rw [List.map_append]
    exact if_pos (by rw [List.length_map, List.length_map]; simp only [big]; omega)
  have e6 : sortedD [.list ((had ++ (newOf w c).filter fun z => !decide (z ∈ had)).map PyData.str)] = some (.list ((nextNames w had c).map PyData.str)) := by
    simp only [sortedD, strsOf_strs, Option.bind_some]
    rw [if_pos (by rw [List.length_append]; omega)]
    rfl
  have hb4 : (ws.map encW).length < big := by rw [List.length_map]; simp only [big]; omega
  have e7 : frz (.tuple [.int p, .tuple ((nextNames w had c).map PyData.str)]) = true := frz_encW (some p, nextNames w had c)
  have hb5 : (2 : Nat) ≤ big := by simp only [big]; decide
  simp only [Res.calm, Res.ok_bind, e5, Res.of_some, e6, tupleD, List.length_cons, List.length_nil, Nat.zero_add, Nat.reduceAdd, if_pos hb5, e7, if_true, if_pos hb4, List.set_cons_succ, List.set_cons_zero]
  rfl
theorem tree_body {s : Int} {w : Nat → Str} (hw : Names s w) {ws : List Wd} (h : TreeOk w ws) (hl : ws.length ≤ 1000) (c : Int) (a0 a1 a2 b4 x7 x8 x9 x10 x11 : Option PyData) :
    treeBody [a0, a1, a2, some (.list [.str (w 0), .str (w 1), .str (w 2), .str (w 3)]), b4, some (.list (ws.map encW)), some (.int c), x7, x8, x9, x10, x11] =
      .ok (.nx [a0, a1, a2, some (.list [.str (w 0), .str (w 1), .str (w 2), .str (w 3)]), b4, some (.list ((ws ++ [(some (parOf c ws.length), nextNames w (namesOf ws (parOf c ws.length)) c)]).map encW)), some (.int c), some (.int (parOf c ws.length : Nat)), some (.list ((namesOf ws (parOf c ws.length)).map PyData.str)), some (.list ((newOf w c).map PyData.str)), x10, x11]) := by
  have hpos : (0 : Int) < (ws.length : Int) := by have := h.pos; omega
  have hr := fun x8 x9 x10 x11 => tree_rest hw h hl c (par_lt c h.pos) a0 a1 a2 b4 x8 x9 x10 x11
  have hm : modD (.int c) (.int (ws.length : Int)) = some (.int (c % (ws.length : Int))) := modD_pos hpos
  unfold treeBody
  by_cases h3 : c / 64 % 3 = 0
  · have e : ((ws.length : Int) - 1) = ((parOf c ws.length : Nat) : Int) := by
      unfold parOf
      rw [if_pos h3]
      omega
    simp [hm, h3, frz]
    rw [e, hr]
    simp
  · have e : (c % (ws.length : Int)) = ((parOf c ws.length : Nat) : Int) := by
      unfold parOf
      rw [if_neg h3]
      have := Int.emod_nonneg c (show (ws.length : Int) ≠ 0 by omega)
      omega
    simp [hm, h3, frz]
    rw [e, hr]
    simp
end My

set_option maxRecDepth 100000
set_option maxHeartbeats 4000000
set_option linter.all false
namespace My
open PySem L2 DL PyProof.Rows
def treeOwn : SS :=
  (noBk (sSeq (sTake 5 (eLst (aCons (eTup (aCons (eC .none) (aCons (eVar 4) aNil))) aNil)))
    (sSeq (sFor (sListF (eCutL (eVar 0) oNone (oSome (eVar 2)))) (gF 6) treeBody)
    (sRet (eArgs tupleD (aCons (eVar 5) aNil))))))
def treeF : SS :=
  (sSeq (sSet 3 (eLc 10 (sRng1 (aCons (eC (.int 4)) aNil)) tTrue (eCall sem_law_name_by (aCons (eVar 1) (aCons (eVar 10) aNil)))))
    (sSeq (sSet 4 (eTup aNil))
    (sSeq (sIf (DL.tAnd (asTru (eVar 0)) (asT (eOp eqD (eOp modD (eOp ixD (eVar 0) (eC (.int 0))) (eC (.int 5))) (eC (.int 1))))) (sSet 4 (eTup (aCons (eUn minSD (eVar 3)) aNil))) sNext)
    treeOwn)))
theorem treeF_eq : F_law_tree_by = treeF := rfl
theorem frzs_of {xs : List PyData} (h : ∀ d ∈ xs, frz d = true) : frzs xs = true := by
  induction xs with
  | nil => rfl
  | cons d ds ih => simp [frzs, h d List.mem_cons_self, ih fun e he => h e (List.mem_cons_of_mem _ he)]
theorem tree_own {s : Int} {w : Nat → Str} (hw : Names s w) {cells : List Int} (hc : cells.length ≤ 63) (many : Int) (a1 : Option PyData) {base : List Str} (hb1 : ∀ z ∈ base, Of w z) (hb2 : base.length ≤ 1) :
    ∃ ws, TreeOk w ws ∧ ws.length ≤ 64 ∧ treeOwn [some (.list (cells.map PyData.int)), a1, some (.int many), some (.list [.str (w 0), .str (w 1), .str (w 2), .str (w 3)]), some (.tuple (base.map PyData.str)), none, none, none, none, none, none, none] = .ok (.rt (.tuple (ws.map encW))) := by
  have t0 : TreeOk w [(none, base)] := by
    refine ⟨by simp, fun x hx => ?_, fun k x hk hx => ?_, fun x hx => ?_, fun x hx => ?_⟩
    · cases hx; rfl
    · cases k with
      | zero => exact absurd hk (Nat.lt_irrefl _)
      | succ k => simp at hx
    · rw [List.mem_singleton] at hx; subst hx; exact hb1
    · rw [List.mem_singleton] at hx
      subst hx
      match base, hb2 with
      | [], _ => exact .nil
      | [x], _ => exact List.pairwise_singleton ..
  have hbg1 : (1 : Nat) ≤ big := by simp only [big]; decide
  have hbg2 : (2 : Nat) ≤ big := by simp only [big]; decide
  have hmem : ∀ d ∈ cutP (cells.map PyData.int) none (some many), ∃ c, d = .int c := fun d hd => by
    have := List.mem_of_mem_drop (List.mem_of_mem_take hd)
    obtain ⟨c, _, rfl⟩ := List.mem_map.mp this
    exact ⟨c, rfl⟩
  have hlen : (cutP (cells.map PyData.int) none (some many)).length ≤ 63 := by
    unfold cutP
    rw [List.length_take, List.length_drop, List.length_map]
    omega
  have hfrz : frzs (cutP (cells.map PyData.int) none (some many)) = true := frzs_of fun d hd => by
    obtain ⟨c, rfl⟩ := hmem d hd
    rfl
  have hfb : frz (.tuple (base.map PyData.str)) = true := by simp [frz, frzs_strs]
  generalize hxs : cutP (cells.map PyData.int) none (some many) = xs at *
  unfold treeOwn
  obtain ⟨ρ', h1, ws, x6, x7, x8, x9, rfl, ht, hl⟩ := forGo_inv (k := gF 6) (F := treeBody) (I := fun i ρ => ∃ ws x6 x7 x8 x9, ρ = [some (.list (cells.map PyData.int)), a1, some (.int many), some (.list [.str (w 0), .str (w 1), .str (w 2), .str (w 3)]), some (.tuple (base.map PyData.str)), some (.list (ws.map encW)), x6, x7, x8, x9, none, none] ∧ TreeOk w ws ∧ ws.length = i + 1)
    (xs := xs) (i := 0) (ρ := [some (.list (cells.map PyData.int)), a1, some (.int many), some (.list [.str (w 0), .str (w 1), .str (w 2), .str (w 3)]), some (.tuple (base.map PyData.str)), some (.list ([((none, base) : Wd)].map encW)), none, none, none, none, none, none])
    ⟨_, _, _, _, _, rfl, t0, rfl⟩ (by
    rintro j d ρ hd ⟨ws, x6, x7, x8, x9, rfl, ht, hl⟩
    obtain ⟨c, rfl⟩ := hmem d (List.mem_of_getElem? hd)
    have hj := (List.getElem?_eq_some_iff.mp hd).1
    have hb := tree_body hw ht (by omega) c (some (.list (cells.map PyData.int))) a1 (some (.int many)) (some (.tuple (base.map PyData.str))) x7 x8 x9 none none
    exact ⟨_, _, by simp [frz], .inl hb, _, _, _, _, _, rfl, tree_step hw ht c, by simp [hl]⟩)
  have e0 : [((none, base) : Wd)].map encW = [.tuple [.none, .tuple (base.map PyData.str)]] := rfl
  rw [e0] at h1
  refine ⟨ws, ht, by omega, ?_⟩
  simp [hbg1, hbg2, frz, frzs, frzs_strs, sFor_ap, hxs, hfrz, h1, tupleD]
end My

set_option maxRecDepth 100000
set_option maxHeartbeats 4000000
set_option linter.all false
namespace My
open PySem L2 DL PyProof.Rows
theorem tree_by (s : Int) (cells : List Int) (hc : cells.length ≤ 63) (many : Int) : ∃ w ws, Names s w ∧ TreeOk w ws ∧ ws.length ≤ 64 ∧ sem_law_tree_by [.list (cells.map PyData.int), .int s, .int many] = .ok (.tuple (ws.map encW)) := by
  obtain ⟨w, hw⟩ := names_ex s
  have hb1 : -(big : Int) ≤ 4 ∧ (4 : Int) ≤ big := by simp only [big]; omega
  have hb2 : (DL.upTo 0 (4 : Int).toNat).length ≤ big := by rw [upTo_len]; simp only [big]; decide
  have hbg0 : (0 : Nat) ≤ big := Nat.zero_le _
  have hbg1 : (1 : Nat) ≤ big := by simp only [big]; decide
  unfold sem_law_tree_by
  rw [treeF_eq]
  unfold treeF bodyD
  simp only [startD, List.map_cons, List.map_nil, List.length_cons, List.length_nil, List.cons_append, List.nil_append, Nat.zero_add, Nat.reduceAdd, Nat.reduceSub, List.replicate_succ, List.replicate_zero]
  simp only [sSeq_ap, sSet_ap]
  rw [eLc_ap]
  simp only [sRng1_ap, aCons_ap, aNil_ap, eC_ap, Res.ok_bind, if_pos hb1, if_pos hb2, List.set_cons_succ, List.set_cons_zero]
  rw [lcGo_map (v := fun d => .str (w (natOf d))) (by
    intro d hd
    rw [show (4 : Int).toNat = 4 from rfl, upTo4] at hd
    simp only [List.mem_cons, List.not_mem_nil, or_false] at hd
    have g0 := (hw 0 (by decide)).1
    have g1 := (hw 1 (by decide)).1
    have g2 := (hw 2 (by decide)).1
    have g3 := (hw 3 (by decide)).1
    rcases hd with rfl | rfl | rfl | rfl <;> refine ⟨rfl, ?_, rfl⟩
    · simpa [natOf] using g0
    · simpa [natOf] using g1
    · simpa [natOf] using g2
    · simpa [natOf] using g3)]
  have e3 : (DL.upTo 0 (4 : Int).toNat).map (fun d => PyData.str (w (natOf d))) = [.str (w 0), .str (w 1), .str (w 2), .str (w 3)] := rfl
  rw [e3]
  simp only [Res.calm, Res.ok_bind, List.set_cons_succ, List.set_cons_zero, eTup_ap, aNil_ap, List.length_nil, if_pos hbg0]
  have go : ∀ base : List Str, (∀ z ∈ base, Of w z) → base.length ≤ 1 → ∃ ws, TreeOk w ws ∧ ws.length ≤ 64 ∧
      treeOwn [some (.list (cells.map PyData.int)), some (.int s), some (.int many), some (.list [.str (w 0), .str (w 1), .str (w 2), .str (w 3)]), some (.tuple (base.map PyData.str)), none, none, none, none, none, none, none] = .ok (.rt (.tuple (ws.map encW))) :=
    fun base h1 h2 => tree_own hw hc many _ h1 h2
  obtain ⟨ws0, t0, l0, r0⟩ := go [] (fun z hz => by cases hz) (Nat.zero_le _)
  simp only [List.map_nil] at r0
  obtain ⟨k, hk, ek⟩ : ∃ k, k < 4 ∧ minSD (.list [.str (w 0), .str (w 1), .str (w 2), .str (w 3)]) = some (.str (w k)) := by
    have hm := minD_mem [.str (w 1), .str (w 2), .str (w 3)] (.str (w 0))
    have e : minSD (.list [.str (w 0), .str (w 1), .str (w 2), .str (w 3)]) = some (PySem.W.minD (.str (w 0)) [.str (w 1), .str (w 2), .str (w 3)]) := rfl
    rw [e]
    simp only [List.mem_cons, List.not_mem_nil, or_false] at hm
    rcases hm with h | h | h | h <;> rw [h]
    · exact ⟨0, by decide, rfl⟩
    · exact ⟨1, by decide, rfl⟩
    · exact ⟨2, by decide, rfl⟩
    · exact ⟨3, by decide, rfl⟩
  obtain ⟨ws1, t1, l1, r1⟩ := go [w k] (fun z hz => by rw [List.mem_singleton] at hz; exact ⟨k, hk, hz⟩) (Nat.le_refl _)
  simp only [List.map_cons, List.map_nil] at r1
  cases cells with
  | nil =>
    refine ⟨w, ws0, hw, t0, l0, ?_⟩
    simp [DL.truthy, r0] at r0 ⊢
    simp [r0]
  | cons c r =>
    by_cases h5 : c % 5 = 1
    · refine ⟨w, ws1, hw, t1, l1, ?_⟩
      simp at r1
      simp [DL.truthy, h5, ek, hbg1, r1]
    · refine ⟨w, ws0, hw, t0, l0, ?_⟩
      simp at r0
      simp [DL.truthy, h5, r0]
end My

set_option maxRecDepth 100000
set_option maxHeartbeats 4000000
set_option linter.all false
namespace My
open PySem L2 DL PyProof.Rows
abbrev Pr := Option Nat × PyData
def headD (p : Option Nat) : PyData := match p with
  | none => .none
  | some i => .int (i : Nat)
def encP (x : Pr) : PyData := .tuple [headD x.1, x.2]
theorem encW_P (x : Wd) : encW x = encP (x.1, .tuple (x.2.map PyData.str)) := rfl
structure UpOk (ps : List Pr) : Prop where
  pos : 0 < ps.length
  up : ∀ k x, 0 < k → ps[k]? = some x → ∃ i, x.1 = some i ∧ i < k
def par (ps : List Pr) (o : Nat) : Nat := ((ps.getD o (none, .none)).1).getD 0
def endO (ps : List Pr) (n : Nat) : Nat → Nat → Nat
  | 0, o => o
  | f + 1, o => if n < o then endO ps n f (par ps o) else o
def reach (ps : List Pr) (n o : Nat) : Bool := endO ps n (o + 1) o == n
def nts (xs : List Nat) : List PyData := xs.map fun i => .int (i : Nat)
theorem par_at {ps : List Pr} (h : UpOk ps) {o : Nat} (h0 : 0 < o) (hl : o < ps.length) : par ps o < o ∧ ∃ d, ps.getD o (none, .none) = (some (par ps o), d) := by
  have hx : ps[o]? = some ps[o] := List.getElem?_eq_getElem hl
  obtain ⟨i, e1, e2⟩ := h.up o _ h0 hx
  have e3 : ps.getD o (none, .none) = ps[o] := by simp [List.getD, hl]
  unfold par
  rw [e3, e1]
  refine ⟨e2, (ps[o]).2, ?_⟩
  rw [Option.getD_some, ← e1]
theorem endO_fuel {ps : List Pr} (h : UpOk ps) (n : Nat) : ∀ (o f g : Nat), o < ps.length → o < f → o < g → endO ps n f o = endO ps n g o := by
  intro o
  induction o using Nat.strongRecOn with
  | ind o ih =>
    intro f g hl hf hg
    cases f with
    | zero => omega
    | succ f =>
      cases g with
      | zero => omega
      | succ g =>
        unfold endO
        split
        · rename_i hn
          have hp := (par_at h (by omega) hl).1
          exact ih _ hp f g (by omega) (by omega) (by omega)
        · rfl
theorem reach_le {ps : List Pr} {n o : Nat} (h : o ≤ n) : reach ps n o = decide (o = n) := by
  unfold reach endO
  rw [if_neg (by omega)]
  rfl
theorem reach_gt {ps : List Pr} (h : UpOk ps) {n o : Nat} (hn : n < o) (hl : o < ps.length) : reach ps n o = reach ps n (par ps o) := by
  unfold reach
  have hp := (par_at h (by omega) hl).1
  have e : endO ps n (o + 1) o = endO ps n o (par ps o) := by
    show (if n < o then _ else _) = _
    rw [if_pos hn]
  rw [e, endO_fuel h n (par ps o) o (par ps o + 1) (by omega) hp (by omega)]
theorem nts_len (xs : List Nat) : (nts xs).length = xs.length := List.length_map _
theorem frzs_nts (xs : List Nat) : frzs (nts xs) = true := frzs_of fun d hd => by
  obtain ⟨i, _, rfl⟩ := List.mem_map.mp hd
  rfl
theorem nice_intI (i : Int) (k : Nat) : Nice (.int i) k := ⟨rfl, Nat.zero_le _, rfl⟩
theorem nts_nice (xs : List Nat) (hl : xs.length ≤ 1000) : Nice (.list (nts xs)) 1 := nice_lst.mpr ⟨nices_mem.mpr fun d hd => by
  obtain ⟨i, _, rfl⟩ := List.mem_map.mp hd
  exact nice_intI _ _, by rw [nts_len]; exact hl⟩
theorem in_nts {p : Nat} {xs : List Nat} (hl : xs.length ≤ 1000) : inD (.int (p : Nat)) (.list (nts xs)) = some (.bool (decide (p ∈ xs))) := by
  have e : inD (.int (p : Nat)) (.list (nts xs)) = if SeqAt.shaped (.int (p : Nat)) && SeqAt.shaped (.list (nts xs)) then some (.bool ((nts xs).any fun y => PyData.eqv y (.int (p : Nat)))) else none := rfl
  rw [e, nice_shaped (nice_intI _ 0) (by decide), nice_shaped (nts_nice xs hl) (by decide)]
  simp only [Bool.and_self, if_true]
  congr 2
  rw [Bool.eq_iff_iff, nts, List.any_map, List.any_eq_true, decide_eq_true_eq]
  constructor
  · rintro ⟨y, hy, h⟩
    have : y = p := by
      have : (y : Int) = (p : Int) := by simpa [PyData.eqv] using h
      omega
    exact this ▸ hy
  · intro h
    exact ⟨p, h, by simp [PyData.eqv]⟩
theorem encP_at {ps : List Pr} {p : Nat} (h : p < ps.length) : atI (ps.map encP) (p : Int) = some (encP (ps.getD p (none, .none))) := by
  rw [atI_nat (List.getElem?_eq_getElem (by rw [List.length_map]; exact h))]
  simp [List.getD, h]
theorem encP_0 (x : Pr) : ixD (encP x) (.int 0) = some (headD x.1) := by
  unfold encP
  simp
theorem par_ix {ps : List Pr} (h : UpOk ps) {o : Nat} (h0 : 0 < o) (hl : o < ps.length) : ∃ x, atI (ps.map encP) (o : Int) = some x ∧ ixD x (.int 0) = some (.int (par ps o : Nat)) := by
  obtain ⟨_, d, e⟩ := par_at h h0 hl
  refine ⟨_, encP_at hl, ?_⟩
  rw [encP_0, e]
  rfl
theorem range_filter (r : Nat → Bool) (o : Nat) : (List.range (o + 1)).filter r = (List.range o).filter r ++ if r o then [o] else [] := by
  rw [List.range_succ, List.filter_append]
  congr 1
  cases h : r o <;> simp [h]
theorem start_filter (ps : List Pr) (n : Nat) : (List.range (n + 1)).filter (reach ps n) = [n] := by
  rw [range_filter, reach_le (Nat.le_refl _)]
  have : (List.range n).filter (reach ps n) = [] := List.filter_eq_nil_iff.mpr fun o ho => by
    rw [List.mem_range] at ho
    rw [reach_le (by omega)]
    simp
    omega
  rw [this]
  simp
def aboveOf (ps : List Pr) (n : Nat) : List Nat := (List.range ps.length).filter (reach ps n)
theorem filter_len (r : Nat → Bool) (o : Nat) : ((List.range o).filter r).length ≤ o := by
  have := List.length_filter_le r (List.range o)
  rwa [List.length_range] at this
theorem is_number (i : Int) (n : Nat) : sem_is_number [.int i, .int (n : Nat)] = .ok (.bool (decide (0 ≤ i) && decide (i < n))) := by
  simp only [sem_is_number, bodyD, F_is_number, startD]
  by_cases h0 : 0 ≤ i <;> simp [isiD, h0]
def abvBody : SS := (sIf (asT (eOp inD (eOp ixD (eOp ixD (eVar 0) (eVar 3)) (eC (.int 0))) (eVar 2))) (sApp 2 (eVar 3)) sNext)
theorem abv_step {ps : List Pr} (h : UpOk ps) (hl : ps.length ≤ 900) {n o : Nat} (hn : n < o) (ho : o < ps.length) :
    noBk abvBody [some (.tuple (ps.map encP)), some (.int (n : Nat)), some (.list (nts ((List.range o).filter (reach ps n)))), some (.int (o : Nat))] =
      .ok (.nx [some (.tuple (ps.map encP)), some (.int (n : Nat)), some (.list (nts ((List.range (o + 1)).filter (reach ps n)))), some (.int (o : Nat))]) := by
  obtain ⟨x, e1, e2⟩ := par_ix h (show 0 < o by omega) ho
  have hp := (par_at h (show 0 < o by omega) ho).1
  have hfl := filter_len (reach ps n) o
  have e3 := in_nts (p := par ps o) (xs := (List.range o).filter (reach ps n)) (by omega)
  have e4 : decide (par ps o ∈ (List.range o).filter (reach ps n)) = reach ps n o := by
    rw [reach_gt h hn ho, Bool.eq_iff_iff, decide_eq_true_eq, List.mem_filter, List.mem_range]
    exact ⟨fun h => h.2, fun h => ⟨hp, h⟩⟩
  rw [e4] at e3
  have hb : (nts ((List.range o).filter (reach ps n))).length < big := by rw [nts_len]; simp only [big]; omega
  unfold abvBody
  rw [range_filter]
  cases hr : reach ps n o with
  | false =>
    rw [hr] at e3
    simp [e1, e2, e3]
  | true =>
    rw [hr] at e3
    simp [e1, e2, e3, frz, hb]
    simp [nts]
theorem above_ok {ps : List Pr} (h : UpOk ps) (hl : ps.length ≤ 900) {n : Nat} (hn : n < ps.length) : sem_above [.tuple (ps.map encP), .int (n : Nat)] = .ok (.list (nts (aboveOf ps n))) := by
  unfold sem_above bodyN F_above
  have hb1 : (1 : Nat) ≤ big := by simp only [big]; decide
  have hb2 : -(big : Int) ≤ (n : Int) + 1 ∧ (n : Int) + 1 ≤ big ∧ -(big : Int) ≤ (ps.length : Int) ∧ (ps.length : Int) ≤ big := by simp only [big]; omega
  have e0 := is_number (n : Int) ps.length
  rw [show (decide (0 ≤ (n : Int)) && decide ((n : Int) < ps.length)) = true by simp; omega] at e0
  obtain ⟨ρ', h1, x, rfl⟩ := forGo_inv (k := gF 3) (F := noBk abvBody) (I := fun j ρ => ∃ x, ρ = [some (.tuple (ps.map encP)), some (.int (n : Nat)), some (.list (nts ((List.range (n + 1 + j)).filter (reach ps n)))), x])
    (xs := DL.upTo ((n : Int) + 1) (ps.length - (n + 1))) (i := 0) (ρ := [some (.tuple (ps.map encP)), some (.int (n : Nat)), some (.list (nts ((List.range (n + 1)).filter (reach ps n)))), none]) ⟨_, rfl⟩ (by
    rintro j d ρ hd ⟨x, rfl⟩
    have hj := (List.getElem?_eq_some_iff.mp hd).1
    rw [upTo_len] at hj
    have e : d = .int ((n + 1 + j : Nat) : Int) := by
      have := (List.getElem?_eq_some_iff.mp hd).2
      simp [DL.upTo] at this
      rw [← this]
      congr 1
    subst e
    have hs := abv_step h hl (n := n) (o := n + 1 + j) (by omega) (by omega)
    rw [Nat.zero_add]
    exact ⟨_, _, rfl, .inl hs, _, rfl⟩)
  rw [Nat.zero_add, upTo_len, show n + 1 + (ps.length - (n + 1)) = ps.length by omega] at h1
  rw [start_filter] at h1
  have e1 : nts [n] = [.int (n : Nat)] := rfl
  rw [e1] at h1
  have e2 : ((ps.length : Int) - ((n : Int) + 1)).toNat = ps.length - (n + 1) := by omega
  unfold abvBody at h1
  simp [startD, e0, hb1, hb2, sFor_ap, frzs, frz, e2, h1]
  rfl
end My

set_option maxRecDepth 100000
set_option maxHeartbeats 4000000
set_option linter.all false
namespace My
open PySem L2 DL PyProof.Rows
def whT : ST := (DL.tAnd (asT (eOp isNotD (eVar 4) (eC .none))) (asT (eOp gtD (eVar 4) (eVar 1))))
def whB : SS := (noBk (sSetF 4 (eOp ixD (eOp ixD (eVar 0) (eVar 4)) (eC (.int 0)))))
theorem climb {ps : List Pr} (h : UpOk ps) (n : Nat) (x2 x3 : Option PyData) : ∀ (f o : Nat), o < f → o < ps.length →
    whGo whT whB f [some (.tuple (ps.map encP)), some (.int (n : Nat)), x2, x3, some (.int (o : Nat))] = .ok (.nx [some (.tuple (ps.map encP)), some (.int (n : Nat)), x2, x3, some (.int (endO ps n f o : Nat))])
  | 0, o, hf, _ => absurd hf (Nat.not_lt_zero _)
  | f + 1, o, hf, hl => by
    unfold whGo endO
    by_cases hn : n < o
    · obtain ⟨x, e1, e2⟩ := par_ix h (show 0 < o by omega) hl
      have hp := (par_at h (show 0 < o by omega) hl).1
      have ih := climb h n x2 x3 f (par ps o) (by omega) (by omega)
      have ht : whT [some (.tuple (ps.map encP)), some (.int (n : Nat)), x2, x3, some (.int (o : Nat))] = .ok true := by
        simp [whT, isNotD, isD, isNon, hn]
      have hb : whB [some (.tuple (ps.map encP)), some (.int (n : Nat)), x2, x3, some (.int (o : Nat))] = .ok (.nx [some (.tuple (ps.map encP)), some (.int (n : Nat)), x2, x3, some (.int (par ps o : Nat))]) := by
        simp [whB, e1, e2, frz]
      rw [ht]
      simp only [Res.ok_bind, if_true]
      rw [hb]
      simp only [Res.ok_bind]
      rw [ih, if_pos hn]
    · have ht : whT [some (.tuple (ps.map encP)), some (.int (n : Nat)), x2, x3, some (.int (o : Nat))] = .ok false := by
        simp [whT, isNotD, isD, isNon]
        omega
      rw [ht, if_neg hn]
      simp
def dueBody : SS := (sSeq (sSetF 4 (eVar 3))
    (sSeq (sWh 1000 whT whB)
    (sIf (asT (eOp eqD (eVar 4) (eVar 1))) (sApp 2 (eVar 3)) sNext)))
theorem due_step {ps : List Pr} (h : UpOk ps) (hl : ps.length ≤ 900) {n o : Nat} (ho : o < ps.length) (x4 : Option PyData) :
    noBk dueBody [some (.tuple (ps.map encP)), some (.int (n : Nat)), some (.list (nts ((List.range o).filter (reach ps n)))), some (.int (o : Nat)), x4] =
      .ok (.nx [some (.tuple (ps.map encP)), some (.int (n : Nat)), some (.list (nts ((List.range (o + 1)).filter (reach ps n)))), some (.int (o : Nat)), some (.int (endO ps n 1000 o : Nat))]) := by
  have hfl := filter_len (reach ps n) o
  have hb : (nts ((List.range o).filter (reach ps n))).length < big := by rw [nts_len]; simp only [big]; omega
  have hc := climb h n (some (.list (nts ((List.range o).filter (reach ps n))))) (some (.int (o : Nat))) 1000 o (by omega) ho
  have er : reach ps n o = decide (endO ps n 1000 o = n) := by
    unfold reach
    rw [endO_fuel h n o (o + 1) 1000 ho (by omega) (by omega)]
    rfl
  unfold dueBody
  rw [range_filter, er]
  generalize endO ps n 1000 o = z at *
  by_cases hz : z = n
  · simp [frz, sWh_ap, hc, hz, hb]
    simp [nts]
  · have hz2 : ((z : Int) == (n : Int)) = false := by
      rw [beq_eq_false_iff_ne]
      omega
    simp [frz, sWh_ap, hc, hz2, hz]
theorem due_ok {ps : List Pr} (h : UpOk ps) (hl : ps.length ≤ 900) (n : Nat) : sem_law_due [.tuple (ps.map encP), .int (n : Nat)] = .ok (.list (nts (aboveOf ps n))) := by
  unfold sem_law_due bodyN F_law_due
  have hb0 : (0 : Nat) ≤ big := Nat.zero_le _
  have hb2 : -(big : Int) ≤ (ps.length : Int) ∧ (ps.length : Int) ≤ big := by simp only [big]; omega
  obtain ⟨ρ', h1, x, y, rfl⟩ := forGo_inv (k := gF 3) (F := noBk dueBody) (I := fun j ρ => ∃ x y, ρ = [some (.tuple (ps.map encP)), some (.int (n : Nat)), some (.list (nts ((List.range j).filter (reach ps n)))), x, y])
    (xs := DL.upTo 0 ps.length) (i := 0) (ρ := [some (.tuple (ps.map encP)), some (.int (n : Nat)), some (.list (nts ((List.range 0).filter (reach ps n)))), none, none]) ⟨_, _, rfl⟩ (by
    rintro j d ρ hd ⟨x, y, rfl⟩
    have hj := (List.getElem?_eq_some_iff.mp hd).1
    rw [upTo_len] at hj
    have e : d = .int ((j : Nat) : Int) := by
      have := (List.getElem?_eq_some_iff.mp hd).2
      simp [DL.upTo] at this
      rw [← this]
    subst e
    have hs := due_step h hl (n := n) (o := j) hj y
    rw [Nat.zero_add]
    exact ⟨_, _, rfl, .inl hs, _, _, rfl⟩)
  rw [Nat.zero_add, upTo_len] at h1
  have e1 : nts ((List.range 0).filter (reach ps n)) = [] := rfl
  rw [e1] at h1
  unfold dueBody whT whB at h1
  simp [startD, hb0, hb2, sFor_ap, frzs, frz, h1]
  rfl
end My

set_option maxRecDepth 100000
set_option maxHeartbeats 4000000
set_option linter.all false
namespace My
open PySem L2 DL PyProof.Rows
theorem above_bad (T : List PyData) (v : Int) (h : ¬ (0 ≤ v ∧ v < T.length)) : sem_above [.tuple T, .int v] = .ex 0 := by
  have e0 := is_number v T.length
  rw [show (decide (0 ≤ v) && decide (v < T.length)) = false by simp; omega] at e0
  unfold sem_above bodyN F_above
  simp [startD, e0]
theorem holds_bad (T : List PyData) (v : Int) (x : PyData) (h : ¬ (0 ≤ v ∧ v < T.length)) : sem_holds [.tuple T, .int v, x] = .ex 0 := by
  have e0 := is_number v T.length
  rw [show (decide (0 ≤ v) && decide (v < T.length)) = false by simp; omega] at e0
  unfold sem_holds bodyD F_holds
  simp [startD, e0]
theorem refused_ok (T : List PyData) (v : Int) (h : ¬ (0 ≤ v ∧ v < T.length)) (w : Int) : sem_law_refused [.tuple T, .int v, .int w] = .ok (.bool true) := by
  unfold sem_law_refused
  by_cases hw : w = 0
  · simp [hw, above_bad T v h]
  · simp [hw, holds_bad T v _ h]
theorem eq_nts (xs : List Nat) (hl : xs.length ≤ 1000) : eqD (.list (nts xs)) (.list (nts xs)) = some (.bool true) := by
  have e : eqD (.list (nts xs)) (.list (nts xs)) = if SeqAt.shaped (.list (nts xs)) && SeqAt.shaped (.list (nts xs)) then some (.bool (PyData.eqv (.list (nts xs)) (.list (nts xs)))) else none := rfl
  rw [e, nice_shaped (nts_nice xs hl) (by decide), PySem.SeqAt.eqv_refl _ (nts_nice xs hl).1]
  rfl
theorem ne_nts (xs : List Nat) (hl : xs.length ≤ 1000) : neD (.list (nts xs)) (.list (nts xs)) = some (.bool false) := by
  unfold neD
  rw [eq_nts xs hl]
  rfl
theorem isi_list {z : List PyData} : isiD "list" (.list z) = some (.bool true) := nrfl rfl
def numBody : SS := (noBk (sSeq (sTake 9 (eCall (calmF sem_above) (aCons (eVar 3) (aCons (eVar 5) aNil))))
    (sSeq (sSetN 10 (eCall sem_law_due (aCons (eVar 3) (aCons (eVar 5) aNil))))
    (sSeq (sIf (DL.tOr (DL.tNot (asT (eUn (isiD "list") (eVar 9)))) (asT (eOp neD (eVar 9) (eVar 10)))) (sRet (eC (.bool false))) sNext)
    (sSeq (sApp 9 (eC (.int 7)))
    (sIf (asT (eOp neD (eCall (calmF sem_above) (aCons (eVar 3) (aCons (eVar 5) aNil))) (eVar 10))) (sRet (eC (.bool false))) sNext))))))
theorem above_len (ps : List Pr) (n : Nat) : (aboveOf ps n).length ≤ ps.length := filter_len _ _
theorem num_body {ps : List Pr} (h : UpOk ps) (hl : ps.length ≤ 900) {n : Nat} (hn : n < ps.length) (a0 a1 a2 a4 a6 a7 a8 x9 x10 : Option PyData) :
    numBody [a0, a1, a2, some (.tuple (ps.map encP)), a4, some (.int (n : Nat)), a6, a7, a8, x9, x10] =
      .ok (.nx [a0, a1, a2, some (.tuple (ps.map encP)), a4, some (.int (n : Nat)), a6, a7, a8, some (.list (nts (aboveOf ps n) ++ [.int 7])), some (.list (nts (aboveOf ps n)))]) := by
  have e1 := above_ok h hl hn
  have e2 := due_ok h hl n
  have hal := above_len ps n
  have e3 := ne_nts (aboveOf ps n) (by omega)
  have hb : (nts (aboveOf ps n)).length < big := by rw [nts_len]; simp only [big]; omega
  unfold numBody
  simp [e1, e2, e3, frzs_nts, isi_list, frz, hb]
theorem num_loop {ps : List Pr} (h : UpOk ps) (hl : ps.length ≤ 900) (a0 a1 a2 a4 a6 a7 a8 : Option PyData) : ∀ (ks : List Nat), (∀ k ∈ ks, k < ps.length) → ∀ (x5 x9 x10 : Option PyData),
    ∃ y5 y9 y10, forGo (gN 5) numBody (nts ks) [a0, a1, a2, some (.tuple (ps.map encP)), a4, x5, a6, a7, a8, x9, x10] = .ok (.nx [a0, a1, a2, some (.tuple (ps.map encP)), a4, y5, a6, a7, a8, y9, y10])
  | [], _, x5, x9, x10 => ⟨_, _, _, rfl⟩
  | k :: ks, hk, x5, x9, x10 => by
    have hb := num_body h hl (hk k List.mem_cons_self) a0 a1 a2 a4 a6 a7 a8 x9 x10
    obtain ⟨y5, y9, y10, hr⟩ := num_loop h hl a0 a1 a2 a4 a6 a7 a8 ks (fun j hj => hk j (List.mem_cons_of_mem _ hj)) (some (.int (k : Nat))) (some (.list (nts (aboveOf ps k) ++ [.int 7]))) (some (.list (nts (aboveOf ps k))))
    refine ⟨y5, y9, y10, ?_⟩
    have e : nts (k :: ks) = .int (k : Nat) :: nts ks := rfl
    rw [e]
    simp [forGo, hb, hr]
/-! the trees -/
theorem up_tree {w : Nat → Str} {ws : List Wd} (h : TreeOk w ws) : UpOk (ws.map fun x => (x.1, PyData.tuple (x.2.map PyData.str))) := by
  refine ⟨by rw [List.length_map]; exact h.pos, fun k x hk hx => ?_⟩
  rw [List.getElem?_map] at hx
  cases hy : ws[k]? with
  | none => rw [hy] at hx; cases hx
  | some y =>
    rw [hy] at hx
    cases hx
    obtain ⟨i, _, e1, e2, _⟩ := h.up k y hk hy
    exact ⟨i, e1, e2⟩
theorem enc_tree (ws : List Wd) : ws.map encW = (ws.map fun x => ((x.1, PyData.tuple (x.2.map PyData.str)) : Pr)).map encP := by
  rw [List.map_map]
  rfl
def oneMore (c : Int) (k : Nat) : Pr := (some (if c / 800 % 2 = 0 then k else 0), .tuple [.str "a"])
def chain (c : Int) (n : Nat) : List Pr := (none, .tuple []) :: (List.range n).map (oneMore c)
theorem chain_len (c : Int) (n : Nat) : (chain c n).length = n + 1 := by simp [chain]
theorem chain_up (c : Int) (n : Nat) : UpOk (chain c n) := by
  refine ⟨by simp [chain], fun k x hk hx => ?_⟩
  cases k with
  | zero => exact absurd hk (Nat.lt_irrefl _)
  | succ k =>
    unfold chain at hx
    rw [List.getElem?_cons_succ, List.getElem?_map] at hx
    cases hr : (List.range n)[k]? with
    | none => rw [hr] at hx; cases hx
    | some j =>
      rw [hr] at hx
      cases hx
      obtain ⟨h1, h2⟩ := List.getElem?_eq_some_iff.mp hr
      rw [List.getElem_range] at h2
      subst h2
      refine ⟨_, rfl, ?_⟩
      split <;> omega
def moreBody : SS := (sSet 3 (eOp addD (eVar 3) (eTup (aCons (eTup (aCons (eOp ixD (eLst (aCons (eVar 8) (aCons (eC (.int 0)) aNil))) (eOp modD (eOp divD (eVar 2) (eC (.int 800))) (eC (.int 2)))) (aCons (eTup (aCons (eC (.str "a")) aNil)) aNil))) aNil))))
theorem more_body (c : Int) (n : Nat) (hn : n ≤ 500) (a0 a1 a4 a5 a6 a7 a9 a10 : Option PyData) :
    moreBody [a0, a1, some (.int c), some (.tuple ((chain c n).map encP)), a4, a5, a6, a7, some (.int (n : Nat)), a9, a10] =
      .ok (.nx [a0, a1, some (.int c), some (.tuple ((chain c (n + 1)).map encP)), a4, a5, a6, a7, some (.int (n : Nat)), a9, a10]) := by
  have hb1 : (1 : Nat) ≤ big := by simp only [big]; decide
  have hb2 : (2 : Nat) ≤ big := by simp only [big]; decide
  have e : (chain c (n + 1)).map encP = (chain c n).map encP ++ [encP (oneMore c n)] := by
    unfold chain
    rw [List.range_succ]
    simp
  have hcl := chain_len c n
  have ha : addD (.tuple ((chain c n).map encP)) (.tuple [encP (oneMore c n)]) = some (.tuple ((chain c n).map encP ++ [encP (oneMore c n)])) := if_pos (by rw [List.length_map, hcl]; simp only [big, List.length_cons, List.length_nil]; omega)
  rw [e]
  unfold moreBody
  by_cases h0 : c / 800 % 2 = 0
  · have e2 : encP (oneMore c n) = .tuple [.int (n : Nat), .tuple [.str "a"]] := by
      simp [encP, oneMore, h0, headD]
    rw [e2] at ha ⊢
    simp [hb1, hb2, h0, ha]
  · have h1 : c / 800 % 2 = 1 := by omega
    have e2 : encP (oneMore c n) = .tuple [.int 0, .tuple [.str "a"]] := by
      simp [encP, oneMore, h0, headD]
    rw [e2] at ha ⊢
    simp [hb1, hb2, h1, ha]
theorem more_loop (c : Int) (m : Nat) (hm : m ≤ 500) (a0 a1 a4 a5 a6 a7 x8 a9 a10 : Option PyData) : ∃ y8, forGo (gN 8) moreBody (DL.upTo 0 m) [a0, a1, some (.int c), some (.tuple ((chain c 0).map encP)), a4, a5, a6, a7, x8, a9, a10] =
      .ok (.nx [a0, a1, some (.int c), some (.tuple ((chain c m).map encP)), a4, a5, a6, a7, y8, a9, a10]) := by
  obtain ⟨ρ', h1, x, rfl⟩ := forGo_inv (k := gN 8) (F := moreBody) (I := fun j ρ => ∃ x, ρ = [a0, a1, some (.int c), some (.tuple ((chain c j).map encP)), a4, a5, a6, a7, x, a9, a10])
    (xs := DL.upTo 0 m) (i := 0) (ρ := [a0, a1, some (.int c), some (.tuple ((chain c 0).map encP)), a4, a5, a6, a7, x8, a9, a10]) ⟨_, rfl⟩ (by
    rintro j d ρ hd ⟨x, rfl⟩
    have hj := (List.getElem?_eq_some_iff.mp hd).1
    rw [upTo_len] at hj
    have e : d = .int ((j : Nat) : Int) := by
      have := (List.getElem?_eq_some_iff.mp hd).2
      simp [DL.upTo] at this
      rw [← this]
    subst e
    rw [Nat.zero_add]
    exact ⟨_, _, rfl, .inl (more_body c j (by omega) a0 a1 a4 a5 a6 a7 a9 a10), _, rfl⟩)
  rw [Nat.zero_add, upTo_len] at h1
  exact ⟨x, h1⟩
end My

set_option maxRecDepth 100000
set_option maxHeartbeats 4000000
set_option linter.all false
namespace My
open PySem L2 DL PyProof.Rows
def lawRest : SS :=
  (sSeq (sFor (sList (eVar 4)) (gN 5) numBody)
    (sSeq (sSet 6 (eOp ixD (eLst (aCons (eArgs lenD (aCons (eVar 3) aNil)) (aCons (eOp addD (eOp addD (eArgs lenD (aCons (eVar 3) aNil)) (eC (.int 1))) (eOp modD (eOp divD (eVar 2) (eC (.int 64))) (eC (.int 99)))) (aCons (eUn negD (eC (.int 1))) (aCons (eOp subD (eUn negD (eC (.int 1))) (eOp modD (eOp divD (eVar 2) (eC (.int 64))) (eC (.int 50)))) (aCons (eOp powD (eC (.int 10)) (eC (.int 20))) aNil)))))) (eOp modD (eOp divD (eVar 2) (eC (.int 8))) (eC (.int 5)))))
    (sSeq (sFor (sRng1 (aCons (eC (.int 2)) aNil)) (gN 7) (sIf (DL.tNot (asT (eCall sem_law_refused (aCons (eVar 3) (aCons (eVar 6) (aCons (eVar 7) aNil)))))) (sRet (eC (.bool false))) sNext))
    (sRet (eOp eqD (eCall (calmF sem_above) (aCons (eVar 3) (aCons (eOp ixD (eVar 4) (eUn negD (eC (.int 1)))) aNil))) (eCall sem_law_due (aCons (eVar 3) (aCons (eOp ixD (eVar 4) (eUn negD (eC (.int 1)))) aNil))))))))
def lawF : SS :=
  (sSeq (sSet 1 (eCall sem_law_cell_at (aCons (eVar 0) (aCons (eC (.int 0)) aNil))))
    (sSeq (sSet 2 (eCall sem_law_cell_at (aCons (eVar 0) (aCons (eC (.int 1)) aNil))))
    (sSeq (sSet 3 (eCall sem_law_tree_by (aCons (eCut (eVar 0) (oSome (eC (.int 2))) (oSome (eC (.int 42)))) (aCons (eVar 1) (aCons (eC (.int 40)) aNil)))))
    (sSeq (sSet 4 (eLc 8 (sRng1 (aCons (eArgs lenD (aCons (eVar 3) aNil)) aNil)) tTrue (eVar 8)))
    (sSeq (sIf (asT (eOp eqD (eOp modD (eVar 2) (eC (.int 8))) (eC (.int 3)))) (sSeq (sSet 3 (eTup (aCons (eTup (aCons (eC .none) (aCons (eTup aNil) aNil))) aNil)))
    (sSeq (sFor (sRng1 (aCons (eOp addD (eC (.int 1)) (eOp modD (eOp divD (eVar 2) (eC (.int 8))) (eC (.int 100)))) aNil)) (gN 8) moreBody)
    (sSet 4 (eLst (aCons (eC (.int 0)) (aCons (eOp modD (eOp divD (eVar 2) (eC (.int 1600))) (eArgs lenD (aCons (eVar 3) aNil))) (aCons (eOp subD (eArgs lenD (aCons (eVar 3) aNil)) (eC (.int 1))) aNil))))))) sNext)
    lawRest)))))
theorem lawF_eq : F_law = lawF := rfl
theorem menu {P : PyData → Prop} {xs : List PyData} {i : Int} (h0 : 0 ≤ i) (h1 : i < xs.length) (hp : ∀ d ∈ xs, P d) : ∃ d, atI xs i = some d ∧ P d := by
  have hi : i.toNat < xs.length := by omega
  have q : atI xs ((i.toNat : Nat) : Int) = some xs[i.toNat] := atI_nat (List.getElem?_eq_getElem hi)
  rw [Int.toNat_of_nonneg h0] at q
  exact ⟨_, q, hp _ (List.getElem_mem hi)⟩
theorem last_at (ks : List Nat) (h : ks ≠ []) : ∃ k ∈ ks, atI (nts ks) (-1) = some (.int (k : Nat)) := by
  have hl : 0 < ks.length := List.length_pos_iff.mpr h
  refine ⟨ks[ks.length - 1], List.getElem_mem _, ?_⟩
  unfold atI ixN
  rw [nts_len, if_neg (by decide), if_pos (by omega)]
  have e : (-1 + (ks.length : Int)).toNat = ks.length - 1 := by omega
  show (nts ks)[(-1 + (ks.length : Int)).toNat]? = _
  rw [e]
  unfold nts
  rw [List.getElem?_map, List.getElem?_eq_getElem (by omega)]
  rfl
theorem pow1020 : powD (.int 10) (.int 20) = some (.int (10 ^ 20)) := show (if 0 ≤ (20 : Int) ∧ (20 : Int) ≤ 1000000 ∧ (10 : Int).natAbs < 2 ^ 64 then some (PyData.int ((10 : Int) ^ (20 : Int).toNat)) else none) = some (PyData.int ((10 : Int) ^ (20 : Int).toNat)) from if_pos (by decide)
def BadN (n : Nat) (d : PyData) : Prop := ∃ v, d = .int v ∧ ¬ (0 ≤ v ∧ v < n)
theorem law_rest {ps : List Pr} (h : UpOk ps) (hl : ps.length ≤ 900) (ks : List Nat) (hk : ∀ k ∈ ks, k < ps.length) (hne : ks ≠ []) (c : Int) (a0 a1 a8 : Option PyData) :
    lawRest [a0, a1, some (.int c), some (.tuple (ps.map encP)), some (.list (nts ks)), none, none, none, a8, none, none] = .ok (.rt (.bool true)) := by
  obtain ⟨y5, y9, y10, hlp⟩ := num_loop h hl a0 a1 (some (.int c)) (some (.list (nts ks))) none none a8 ks hk none none none
  obtain ⟨k, hkm, hka⟩ := last_at ks hne
  have e1 := above_ok h hl (hk k hkm)
  have e2 := due_ok h hl k
  have hal := above_len ps k
  have e3 := eq_nts (aboveOf ps k) (by omega)
  have hpl : (ps.map encP).length = ps.length := List.length_map _
  generalize hT : ps.map encP = T at *
  have hbg0 : (0 : Nat) ≤ big := Nat.zero_le _
  have hb5 : (5 : Nat) ≤ big := by simp only [big]; decide
  have hb1 : -(big : Int) ≤ 2 ∧ (2 : Int) ≤ big := by simp only [big]; omega
  have hp20 := pow1020
  have ht : (10 : Int) ^ 20 = 100000000000000000000 := by decide
  rw [ht] at hp20
  obtain ⟨d, hd, v, rfl, hv⟩ := menu (P := BadN T.length) (xs := [PyData.int T.length, .int ((T.length : Int) + 1 + c / 64 % 99), .int (-1), .int (-1 - c / 64 % 50), .int 100000000000000000000]) (i := c / 8 % 5) (by omega) (by simp; omega) (by
    intro d hd
    simp only [List.mem_cons, List.not_mem_nil, or_false] at hd
    rcases hd with rfl | rfl | rfl | rfl | rfl
    · exact ⟨_, rfl, by omega⟩
    · exact ⟨_, rfl, by omega⟩
    · exact ⟨_, rfl, by omega⟩
    · exact ⟨_, rfl, by omega⟩
    · exact ⟨_, rfl, by omega⟩)
  have r0 := refused_ok T v hv 0
  have r1 := refused_ok T v hv 1
  unfold lawRest
  unfold numBody at hlp ⊢
  have hu : DL.upTo 0 2 = [.int 0, .int 1] := rfl
  simp [sFor_ap, hlp, hb5, hp20, hd, hb1, hu, forGo, r0, r1, hka, e1, e2, e3]
theorem cell_at (ns : List Int) (k : Nat) (hk : ns.length ≤ 63) : sem_law_cell_at [.list (ns.map PyData.int), .int k] = .ok (.int (ns.getD k 0)) := by
  simp [sem_law_cell_at, bodyD, F_law_cell_at, startD]
  by_cases h : k < ns.length
  · have q : atI (ns.map PyData.int) (k : Int) = some (.int ns[k]) := atI_nat (by rw [List.getElem?_map, List.getElem?_eq_getElem h]; rfl)
    simp [h, q, List.getElem?_eq_getElem h]
  · simp [h, List.getElem?_eq_none (Nat.le_of_not_lt h)]
theorem cutP_len {α : Type} {xs : List α} {lo hi : Option Int} : (cutP xs lo hi).length ≤ xs.length := by
  unfold cutP
  rw [List.length_take, List.length_drop]
  omega
theorem upTo_nts (n : Nat) : DL.upTo 0 n = nts (List.range n) := by
  unfold DL.upTo nts
  congr 1
  funext i
  simp
theorem plain : ∀ ns : List Int, ns.length ≤ 63 → sem_law [.list (ns.map PyData.int)] = .ok (.bool true) := by
  intro ns hns
  have c0 : sem_law_cell_at [.list (ns.map PyData.int), .int 0] = .ok (.int (ns.getD 0 0)) := cell_at ns 0 hns
  have c1 : sem_law_cell_at [.list (ns.map PyData.int), .int 1] = .ok (.int (ns.getD 1 0)) := cell_at ns 1 hns
  generalize ns.getD 0 0 = s at c0
  generalize ns.getD 1 0 = c at c1
  have hcut : DL.cutD (some 2) (some 42) (.list (ns.map PyData.int)) = some (.list ((cutP ns (some 2) (some 42)).map PyData.int)) := by
    show some (PyData.list (cutP (ns.map PyData.int) (some 2) (some 42))) = _
    simp [cutP, List.map_take, List.map_drop]
  obtain ⟨w, ws, hw, ht, hl, hby⟩ := tree_by s (cutP ns (some 2) (some 42)) (Nat.le_trans cutP_len hns) 40
  have hup := up_tree ht
  rw [enc_tree] at hby
  have hpl0 : (ws.map fun x => ((x.1, PyData.tuple (x.2.map PyData.str)) : Pr)).length ≤ 64 := by rw [List.length_map]; exact hl
  generalize (ws.map fun x => ((x.1, PyData.tuple (x.2.map PyData.str)) : Pr)) = ps at *
  have hbl : -(big : Int) ≤ (ps.length : Int) ∧ (ps.length : Int) ≤ big := by simp only [big]; omega
  have hbl2 : ps.length ≤ big := by simp only [big]; omega
  have hbg0 : (0 : Nat) ≤ big := Nat.zero_le _
  have hbg1 : (1 : Nat) ≤ big := by simp only [big]; decide
  have hbg2 : (2 : Nat) ≤ big := by simp only [big]; decide
  have hbg3 : (3 : Nat) ≤ big := by simp only [big]; decide
  have hlc : ∀ env, (∀ d, env d = ([some (.list (ns.map PyData.int)), some (.int s), some (.int c), some (.tuple (ps.map encP)), none, none, none, none, some d, none, none] : PEnv)) → lcGo env tTrue (eVar 8) (nts (List.range ps.length)) = .ok (nts (List.range ps.length)) := fun env henv => by
    rw [lcGo_map (v := fun d => d) (by
      intro d hd
      obtain ⟨i, _, rfl⟩ := List.mem_map.mp hd
      exact ⟨rfl, by rw [henv]; simp, rfl⟩)]
    simp
  unfold sem_law
  rw [lawF_eq]
  unfold lawF
  by_cases h3 : c % 8 = 3
  · obtain ⟨m, hm⟩ : ∃ m : Nat, 1 + c / 8 % 100 = (m : Int) := ⟨(1 + c / 8 % 100).toNat, by omega⟩
    have hm1 : m ≤ 100 := by omega
    obtain ⟨y8, hlp⟩ := more_loop c m (by omega) (some (.list (ns.map PyData.int))) (some (.int s)) (some (.list (nts (List.range ps.length)))) none none none none none none
    have e0 : (chain c 0).map encP = [.tuple [.none, .tuple []]] := rfl
    rw [e0] at hlp
    have hcl := chain_len c m
    have hbm : -(big : Int) ≤ (m : Int) ∧ (m : Int) ≤ big := by simp only [big]; omega
    have hmod : modD (.int (c / 1600)) (.int (((chain c m).length : Nat) : Int)) = some (.int (c / 1600 % (((chain c m).length : Nat) : Int))) := modD_pos (by omega)
    obtain ⟨z, hz⟩ : ∃ z : Nat, c / 1600 % (((chain c m).length : Nat) : Int) = (z : Int) := ⟨(c / 1600 % (((chain c m).length : Nat) : Int)).toNat, by
      have := Int.emod_nonneg (c / 1600) (show (((chain c m).length : Nat) : Int) ≠ 0 by omega)
      omega⟩
    have hzl := Int.emod_lt_of_pos (c / 1600) (show (0 : Int) < (((chain c m).length : Nat) : Int) by omega)
    rw [hz] at hmod hzl
    have hr := law_rest (chain_up c m) (by omega) [0, z, m] (by
      intro k hk
      simp only [List.mem_cons, List.not_mem_nil, or_false] at hk
      rcases hk with rfl | rfl | rfl <;> omega) (by simp) c (some (.list (ns.map PyData.int))) (some (.int s)) y8
    have e3 : nts [0, z, m] = [.int 0, .int (z : Nat), .int (m : Nat)] := rfl
    rw [e3] at hr
    have e4 : ((((chain c m).length : Nat) : Int) - 1) = (m : Int) := by omega
    simp [bodyD, startD, c0, c1, hcut, hby, eLc_ap, hbl, hbl2, upTo_nts, nts_len, hlc, h3, hbg0, hbg1, hbg2, hbg3, hm, hbm, sFor_ap]
    rw [upTo_nts] at hlp
    simp [hlc, h3, hm, hbm, hlp, hmod, e4, hbg3, hr, Res.calm]
  · have hr := law_rest hup (by omega) (List.range ps.length) (fun k hk => List.mem_range.mp hk) (fun e => by
      have h1 := congrArg List.length e
      rw [List.length_range, List.length_nil] at h1
      have h2 := hup.pos
      omega) c (some (.list (ns.map PyData.int))) (some (.int s)) none
    simp [bodyD, startD, c0, c1, hcut, hby, eLc_ap, hbl, hbl2, upTo_nts, nts_len, hlc, h3, Res.calm, hr]
end My

set_option Elab.async false
set_option linter.all false
set_option maxRecDepth 100000
set_option maxHeartbeats 4000000
namespace My
open PySem L2 DL PyProof.Rows
/-! the walks -/
section
variable {P : Program} {w : World} {K : PySem.W.Frag} {mg : Str → Option Value} {base : Heap}
abbrev Cal (P : Program) (w : World) (K : PySem.W.Frag) (mg : Str → Option Value) (base : Heap) (x : Str) (k : Nat) (ps : List Str) (g : List PyData → Res PyData) : Prop := Callee P w K mg base CX0 (fun _ => .none) x k ps g
abbrev CalN (P : Program) (w : World) (K : PySem.W.Frag) (mg : Str → Option Value) (base : Heap) (x : Str) (k : Nat) (ps : List Str) (g : List PyData → Res PyData) : Prop := CalleeN P w K mg base CX0 (fun _ => .none) x k ps g
abbrev CalNX (P : Program) (w : World) (K : PySem.W.Frag) (mg : Str → Option Value) (base : Heap) (CU : Addr) (x : Str) (k : Nat) (ps : List Str) (g : List PyData → Res PyData) : Prop := CalleeN P w K mg base (L2.CX P w) (fun _ => .ref CU) x k ps g
variable {CU : Addr}
abbrev CalX (P : Program) (w : World) (K : PySem.W.Frag) (mg : Str → Option Value) (base : Heap) (CU : Addr) (x : Str) (k : Nat) (ps : List Str) (g : List PyData → Res PyData) : Prop := Callee P w K mg base (L2.CX P w) (fun _ => .ref CU) x k ps g
theorem sc_is_number : FnScope N_is_number ["thing", "below"] (defScope s_is_number) := ⟨rfl, rfl, rfl, by decide +kernel, rfl, by decide +kernel, by decide +kernel⟩
theorem w_is_number {k : Nat} (T : Txt K mg CU) : Cal P w K mg base "is_number" (k + 1) ["thing", "below"] (bodyD 2 F_is_number) := by
  obtain ⟨f, fd, D, hm, hb⟩ := T.d_is_number.ex
  have sc := sc_is_number
  refine callee_of (N := N_is_number) D sc hm hb fun cdv A outer s H E W hr => ?_
  exact (pssd_one (psd_ret (ed_and (ed_isi T.z_isinstance T.z_int (by decide) (ed_var (i := 0))) (ed_and (ed_not (ed_isi T.z_isinstance T.z_bool (by decide) (ed_var (i := 0)))) (ed_one (ed_chain od_le od_lt ed_int (ed_var (i := 0)) (ed_var (i := 1))))))))
theorem sc_above : FnScope N_above ["tree", "number"] (defScope s_above) := ⟨rfl, rfl, rfl, by decide +kernel, rfl, by decide +kernel, by decide +kernel⟩
theorem w_above {k : Nat} (T : Txt K mg CU) (c_is_number : Cal P w K mg base "is_number" k ["thing", "below"] sem_is_number) : CalNX P w K mg base CU "above" (k + 1) ["tree", "number"] (bodyN 4 F_above) := by
  obtain ⟨f, fd, D, hm, hb⟩ := T.d_above.ex
  have sc := sc_above
  refine callee_ofNX (N := N_above) (o := some 2) D sc hm hb fun cdv A outer s H E hr tk po => ?_
  exact (pssG_cons (psG_if (td_not (td_val (ed_call c_is_number hr passD (ad_cons (ed_var (i := 1)) (ad_cons (ed_callB cd_len T.z_len (ad_cons (ed_var (i := 0)) ad_nil)) ad_nil)) (an_cons (an_cons an_nil))))) (pssG_one (psG_d (psd_raise T.err_NoWorld rfl rfl tk) (.inr noRt_ex))) pssG_nil)
    (pssG_cons (psG_take (i := 2) sc.nd (en_lst (ad_cons (ed_var (i := 1)) ad_nil)))
    (pssG_cons (psG_for (j := 3) (by decide) sc.nd po rfl (in_rng2 T.z_range (ad_cons (ed_op od_add (ed_var (i := 1)) ed_int) (ad_cons (ed_callB cd_len T.z_len (ad_cons (ed_var (i := 0)) ad_nil)) ad_nil))) (pssG_one (psG_if (td_cmp (od_in (units65 hr)) (ed_ix (ed_ix (ed_var (i := 0)) (ed_var (i := 3))) ed_int) (ed_var (i := 2))) (pssG_one (psG_app (i := 2) (ed_var (i := 3)))) pssG_nil)))
    (pssG_one (psG_own (i := 2))))))
theorem sc_holds : FnScope N_holds ["tree", "number", "statement"] (defScope s_holds) := ⟨rfl, rfl, rfl, by decide +kernel, rfl, by decide +kernel, by decide +kernel⟩
theorem w_holds {k : Nat} (T : Txt K mg CU) (c_is_number : Cal P w K mg base "is_number" k ["thing", "below"] sem_is_number) : CalX P w K mg base CU "holds" (k + 1) ["tree", "number", "statement"] (bodyD 3 F_holds) := by
  obtain ⟨f, fd, D, hm, hb⟩ := T.d_holds.ex
  have sc := sc_holds
  refine callee_ofX (N := N_holds) D sc hm hb fun cdv A outer s H E hr tk po => ?_
  exact (pssd_cons (psd_if (td_not (td_val (ed_call c_is_number hr passD (ad_cons (ed_var (i := 1)) (ad_cons (ed_callB cd_len T.z_len (ad_cons (ed_var (i := 0)) ad_nil)) ad_nil)) (an_cons (an_cons an_nil))))) (pssd_one (psd_raise T.err_NoWorld rfl rfl tk)) pssd_nil)
    (pssd_one psd_bad))
theorem sc_law_cell_at : FnScope N_law_cell_at ["_law_script", "_law_k"] (defScope s_law_cell_at) := ⟨rfl, rfl, rfl, by decide +kernel, rfl, by decide +kernel, by decide +kernel⟩
theorem w_law_cell_at {k : Nat} (T : Txt K mg CU) : Cal P w K mg base "_law_cell_at" (k + 1) ["_law_script", "_law_k"] (bodyD 2 F_law_cell_at) := by
  obtain ⟨f, fd, D, hm, hb⟩ := T.d_law_cell_at.ex
  have sc := sc_law_cell_at
  refine callee_of (N := N_law_cell_at) D sc hm hb fun cdv A outer s H E W hr => ?_
  exact (pssd_cons (psd_if (td_cmp od_lt (ed_var (i := 1)) (ed_callB cd_len T.z_len (ad_cons (ed_var (i := 0)) ad_nil))) (pssd_one (psd_ret (ed_ix (ed_var (i := 0)) (ed_var (i := 1))))) pssd_nil)
    (pssd_one (psd_ret ed_int)))
theorem sc_law_name_by : FnScope N_law_name_by ["_law_seed", "_law_k"] (defScope s_law_name_by) := ⟨rfl, rfl, rfl, by decide +kernel, rfl, by decide +kernel, by decide +kernel⟩
theorem w_law_name_by {k : Nat} (T : Txt K mg CU) : Cal P w K mg base "_law_name_by" (k + 1) ["_law_seed", "_law_k"] (bodyD 8 F_law_name_by) := by
  obtain ⟨f, fd, D, hm, hb⟩ := T.d_law_name_by.ex
  have sc := sc_law_name_by
  refine callee_of (N := N_law_name_by) D sc hm hb fun cdv A outer s H E W hr => ?_
  exact (pssd_cons (psd_set (i := 2) sc.nd ed_str)
    (pssd_cons (psd_set (i := 3) sc.nd (ed_op od_add ed_int (ed_op od_mod (ed_var (i := 0)) ed_int)))
    (pssd_cons (psd_set (i := 4) sc.nd (ed_join ed_str (ed_lc (x := "_law_j") (i := 7) rfl sc.nd (id_rng1 T.z_range (ad_cons (ed_var (i := 3)) ad_nil)) (blkOk_by (own := [("_law_j", 7)]) (N := N_law_name_by) (sc := defScope s_law_name_by) (by decide +kernel)) (fun _ _ _ _ _ => pg_name (i := 7) sc.nd rfl (Or.inl rfl)) (fun _ _ _ _ _ => tds_nil) (fun _ _ _ _ _ => (ed_ix (ed_var (i := 2)) (ed_op od_mod (ed_op od_add (ed_op od_add (ed_op od_div (ed_var (i := 0)) ed_int) (ed_op od_mul ed_int (ed_var (i := 7)))) (ed_op od_mul (ed_var (i := 7)) (ed_var (i := 7)))) ed_int))))))
    (pssd_cons (psd_set (i := 5) sc.nd (ed_op od_mod (ed_op od_div (ed_var (i := 0)) ed_int) (ed_var (i := 3))))
    (pssd_cons (psd_set (i := 6) sc.nd (ed_ix (ed_var (i := 2)) (ed_op od_mod (ed_op od_add (ed_sindex (ed_var (i := 2)) (ed_ix (ed_var (i := 4)) (ed_var (i := 5)))) (ed_op od_mul (ed_var (i := 1)) (ed_op od_add ed_int (ed_op od_mod (ed_op od_div (ed_var (i := 0)) ed_int) ed_int)))) ed_int)))
    (pssd_cons (psd_if (PW.pt (td_and (td_cmp (od_eq hr.units) (ed_var (i := 1)) ed_int) (td_and (td_cmp (od_eq hr.units) (ed_op od_mod (ed_op od_div (ed_var (i := 0)) ed_int) ed_int) ed_int) (td_and1 (td_cmp od_lt (ed_var (i := 3)) ed_int))))) (pssd_one (psd_ret (ed_op od_add (ed_var (i := 4)) (ed_var (i := 6))))) pssd_nil)
    (pssd_one (psd_ret (ed_op od_add (ed_op od_add (ed_cut (ed_var (i := 4)) od_none (od_some (ed_var (i := 5)))) (ed_var (i := 6))) (ed_cut (ed_var (i := 4)) (od_some (ed_op od_add (ed_var (i := 5)) ed_int)) od_none))))))))))
theorem sc_law_tree_by : FnScope N_law_tree_by ["_law_cells", "_law_seed", "_law_many"] (defScope s_law_tree_by) := ⟨rfl, rfl, rfl, by decide +kernel, rfl, by decide +kernel, by decide +kernel⟩
theorem w_law_tree_by {k : Nat} (T : Txt K mg CU) (c_law_name_by : Cal P w K mg base "_law_name_by" k ["_law_seed", "_law_k"] sem_law_name_by) : Cal P w K mg base "_law_tree_by" (k + 1) ["_law_cells", "_law_seed", "_law_many"] (bodyD 12 F_law_tree_by) := by
  obtain ⟨f, fd, D, hm, hb⟩ := T.d_law_tree_by.ex
  have sc := sc_law_tree_by
  refine callee_of (N := N_law_tree_by) D sc hm hb fun cdv A outer s H E W hr => ?_
  exact (pssd_cons (psd_set (i := 3) sc.nd (ed_lc (x := "_law_k") (i := 10) rfl sc.nd (id_rng1 T.z_range (ad_cons ed_int ad_nil)) (blkOk_by (own := [("_law_k", 10)]) (N := N_law_tree_by) (sc := defScope s_law_tree_by) (by decide +kernel)) (fun _ _ _ _ _ => pg_name (i := 10) sc.nd rfl (Or.inl rfl)) (fun _ _ _ _ _ => tds_nil) (fun _ _ _ _ _ => (ed_call c_law_name_by hr passD (ad_cons (ed_var (i := 1)) (ad_cons (ed_var (i := 10)) ad_nil)) (an_cons (an_cons an_nil))))))
    (pssd_cons (psd_set (i := 4) sc.nd (ed_tup ad_nil))
    (pssd_cons (psd_if (PW.pt (td_and (td_tru (ed_var (i := 0))) (td_and1 (td_cmp (od_eq hr.units) (ed_op od_mod (ed_ix (ed_var (i := 0)) ed_int) ed_int) ed_int)))) (pssd_one (psd_set (i := 4) sc.nd (ed_tup (ad_cons (ed_minS rfl hr.units T.z_min (ed_var (i := 3))) ad_nil)))) pssd_nil)
    (pssD_g (pssG_cons (psG_take (i := 5) sc.nd (en_lst (ad_cons (ed_tup (ad_cons ed_non (ad_cons (ed_var (i := 4)) ad_nil))) ad_nil)))
    (pssG_cons (psG_for (j := 6) (by decide) sc.nd PassesOwn.never rfl (in_list (en_cut (ed_var (i := 0)) od_none (od_some (ed_var (i := 2))))) (pssG_cons (psG_set (j := 7) (by decide) sc.nd (ed_op od_mod (ed_var (i := 6)) (ed_callB cd_len T.z_len (ad_cons (ed_var (i := 5)) ad_nil))))
    (pssG_cons (psG_if (td_cmp (od_eq hr.units) (ed_op od_mod (ed_op od_div (ed_var (i := 6)) ed_int) ed_int) ed_int) (pssG_one (psG_set (j := 7) (by decide) sc.nd (ed_op od_sub (ed_callB cd_len T.z_len (ad_cons (ed_var (i := 5)) ad_nil)) ed_int))) pssG_nil)
    (pssG_cons (psG_setN (j := 8) (by decide) sc.nd (en_list T.z_list (ad_cons (ed_ix (ed_ix (ed_var (i := 5)) (ed_var (i := 7))) ed_int) ad_nil)))
    (pssG_cons (psG_setLc (i := 9) (x := "_law_k") (j := 10) (by decide) rfl sc.nd (id_rng1 T.z_range (ad_cons ed_int ad_nil)) (blkOk_by (own := [("_law_k", 10)]) (N := N_law_tree_by) (sc := defScope s_law_tree_by) (by decide +kernel)) (fun _ _ _ _ _ => pg_name (i := 10) sc.nd rfl (Or.inl rfl)) (fun _ _ _ _ _ => (tds_one (td_cmp (od_eq hr.units) (ed_op od_mod (ed_op od_div (ed_var (i := 6)) (ed_ix (ed_lst (ad_cons ed_int (ad_cons ed_int (ad_cons ed_int (ad_cons ed_int ad_nil))))) (ed_var (i := 10)))) ed_int) ed_int))) (fun _ _ _ _ _ => (ed_ix (ed_var (i := 3)) (ed_var (i := 10)))))
    (pssG_one (psG_app (i := 5) (ed_tup (ad_cons (ed_var (i := 7)) (ad_cons (ed_callT cd_tuple T.z_tuple (ad_cons (ed_callB cd_sorted T.z_sorted (ad_cons (ed_op od_add (ed_var (i := 8)) (ed_lc (x := "_law_name") (i := 11) rfl sc.nd (id_list (ed_var (i := 9))) (blkOk_by (own := [("_law_name", 11)]) (N := N_law_tree_by) (sc := defScope s_law_tree_by) (by decide +kernel)) (fun _ _ _ _ _ => pg_name (i := 11) sc.nd rfl (Or.inl rfl)) (fun _ _ _ _ _ => (tds_one (td_cmp (od_notIn (units65 hr)) (ed_var (i := 11)) (ed_var (i := 8))))) (fun _ _ _ _ _ => (ed_var (i := 11))))) ad_nil)) ad_nil)) ad_nil))))))))))
    (pssG_one (psG_ret (eD_N (ed_callT cd_tuple T.z_tuple (ad_cons (ed_var (i := 5)) ad_nil)))))))))))
theorem sc_law_due : FnScope N_law_due ["_law_tree", "_law_number"] (defScope s_law_due) := ⟨rfl, rfl, rfl, by decide +kernel, rfl, by decide +kernel, by decide +kernel⟩
theorem w_law_due {k : Nat} (T : Txt K mg CU) : CalN P w K mg base "_law_due" (k + 1) ["_law_tree", "_law_number"] (bodyN 5 F_law_due) := by
  obtain ⟨f, fd, D, hm, hb⟩ := T.d_law_due.ex
  have sc := sc_law_due
  refine callee_ofN (N := N_law_due) (o := some 2) D sc hm hb fun cdv A outer s H E W hr => ?_
  exact (pssG_cons (psG_take (i := 2) sc.nd (en_lst ad_nil))
    (pssG_cons (psG_for (j := 3) (by decide) sc.nd PassesOwn.never rfl (in_rng1 T.z_range (ad_cons (ed_callB cd_len T.z_len (ad_cons (ed_var (i := 0)) ad_nil)) ad_nil)) (pssG_cons (psG_set (j := 4) (by decide) sc.nd (ed_var (i := 3)))
    (pssG_cons (psG_while 1000 PassesOwn.never (PW.pt (td_and (td_cmp od_isNot (ed_var (i := 4)) ed_non) (td_and1 (td_cmp od_gt (ed_var (i := 4)) (ed_var (i := 1)))))) (pssG_one (psG_set (j := 4) (by decide) sc.nd (ed_ix (ed_ix (ed_var (i := 0)) (ed_var (i := 4))) ed_int))))
    (pssG_one (psG_if (td_cmp (od_eq hr.units) (ed_var (i := 4)) (ed_var (i := 1))) (pssG_one (psG_app (i := 2) (ed_var (i := 3)))) pssG_nil)))))
    (pssG_one (psG_own (i := 2)))))
theorem sc_law_refused : FnScope N_law_refused ["_law_tree", "_law_number", "_law_way"] (defScope s_law_refused) := ⟨rfl, rfl, rfl, by decide +kernel, rfl, by decide +kernel, by decide +kernel⟩
theorem w_law_refused {k : Nat} (T : Txt K mg CU) (c_above : CalNX P w K mg base CU "above" k ["tree", "number"] sem_above) (c_holds : CalX P w K mg base CU "holds" k ["tree", "number", "statement"] sem_holds) : Cal P w K mg base "_law_refused" (k + 1) ["_law_tree", "_law_number", "_law_way"] sem_law_refused := by
  obtain ⟨f, fd, D, hm, hb⟩ := T.d_law_refused.ex
  have sc := sc_law_refused
  obtain ⟨CS, CT, CN, tS, tT, tN, te, ec, kU, kT, kN, kV⟩ := T.told
  obtain ⟨fa, fad, FA, hma, hka, hba, _⟩ := c_above.toD.ex
  obtain ⟨fh, fhd, FH, hmh, hkh, hbh, _⟩ := c_holds.ex
  have gU := T.err_NoWorld.gC
  have D2 := D
  obtain ⟨oc, od, kV', doc, pm, an, cdv', ct, osl, efd, lk, hcd⟩ := D2.ex
  refine ⟨f, fd, D.ok sc (fun vs H Q E h => h.1) (fun cdv A outer s H vs Q E hr h => ⟨_, pss_cons (ps_try_as (i := 3) (c := .ref CS)
    (tb := fun W => tIfS (tTest (tOp (rD K eqD) (tVar 2) (tC (.int 0)))) (tDrop (tCallS (spD K (fun _ => .ref CU) 2 sem_above) (WE W) (tCons (tVar 0) (tCons (tVar 1) tNil)))) (tDrop (tCallS (spD K (fun _ => .ref CU) 3 sem_holds) (WE W) (tCons (tVar 0) (tCons (tVar 1) (tCons (tTup (tCons (tC (.str "false")) tNil)) tNil))))))
    (ts := fun a cls d D σ H => (cls = .ref CU ∧ d = none) ∧ tSeq (tAsg (tLst (tCons (tCB (rIsE K CU a) (tCons (tVar 3) (tCons (tC (.ref CU)) tNil))) (tCons (tCB (rIsE K CU a) (tCons (tVar 3) (tCons (tC (.ref CT)) tNil))) (tCons (tCB (rIsE K CU a) (tCons (tVar 3) (tCons (tC (.ref CN)) tNil))) (tCons (tCB (rIsE K CU a) (tCons (tVar 3) (tCons (tC (.ty "ValueError")) tNil))) tNil))))) (gName 4))
      (tRet (tOp (rD K eqD) (tVar 4) (tLst (tCons (tC (.bl true)) (tCons (tC (.bl false)) (tCons (tC (.bl false)) (tCons (tC (.bl true)) tNil)))))) ) D σ H)
    (Wout := fun _ _ _ _ => False) rfl rfl sc.nd rfl rfl ⟨rfl, by decide, Or.inl tS⟩ takes0
    (fun W pn xe tk _ => pss_one (ps_if (pt_cmpR (od_eq hr.units) (pv 2) pe_int (nomark _)) (pss_one (ps_expr (pe_callS FA hr rfl hma hka hba (fun σ => passAt tk σ) (pa_cons (pv 0) (pa_cons (pv 1) pa_nil)))))
      (pss_one (ps_expr (pe_callS FH hr rfl hmh hkh hbh (fun σ => passAt tk σ) (pa_cons (pv 0) (pa_cons (pv 1) (pa_cons (pe_tup (pa_cons pe_str pa_nil)) pa_nil))))))))
    (fun a oe cls d pn hz hf => ⟨fun pins s σ H D I q => ?_⟩)) (pss_one (ps_ret pe_bl)), ?_⟩), hm, D.kp, hb, ⟨oc, od, osl, lk⟩⟩
  · obtain ⟨⟨rfl, rfl⟩, q⟩ := q
    refine PSs.run (t := tSeq _ _) ?_ pins s σ H D I q
    exact pss_cons (ps_set sc.nd rfl (Or.inl rfl) (pe_lst (pa_cons (pe_callB (call_isE ec hz hf) rfl T.z_isinstance (by decide +kernel) (pa_cons (pv 3) (pa_cons (pe_glob rfl gU rfl) pa_nil)))
      (pa_cons (pe_callB (call_isE ec hz hf) rfl T.z_isinstance (by decide +kernel) (pa_cons (pv 3) (pa_cons (pe_glob rfl tT rfl) pa_nil)))
      (pa_cons (pe_callB (call_isE ec hz hf) rfl T.z_isinstance (by decide +kernel) (pa_cons (pv 3) (pa_cons (pe_glob rfl tN rfl) pa_nil)))
      (pa_cons (pe_callB (call_isE ec hz hf) rfl T.z_isinstance (by decide +kernel) (pa_cons (pv 3) (pa_cons (pe_bltn (v := .ty "ValueError") rfl T.z_ValueError (by decide +kernel) rfl) pa_nil))) pa_nil))))))
      (pss_one (ps_ret (pe_cmpR (od_eq hr.units) (pv 4) (pe_lst (pa_cons pe_bl (pa_cons pe_bl (pa_cons pe_bl (pa_cons pe_bl pa_nil))))) (nomark _))))
  · obtain ⟨hl, ds, hd, q⟩ := h
    unfold sem_law_refused at q
    split at q
    · rename_i t n w
      match vs, hd with
      | [v1, v2, _], .cons h1 (.cons h2 (.cons (.int _) .nil)) =>
        have eqL : ∀ H a b, H a = some (HO.lst [.bl true, .bl false, .bl false, .bl true]) → H b = some (HO.lst [.bl true, .bl false, .bl false, .bl true]) → ∃ d e, DL.Dp K H (.ref a) d ∧ DL.Dp K H (.ref b) e ∧ eqD d e = some (.bool true) := fun H a b ha hb =>
          ⟨.list [.bool true, .bool false, .bool false, .bool true], .list [.bool true, .bool false, .bool false, .bool true], .lst (SqL.of ha) (.cons (.bl _) (.cons (.bl _) (.cons (.bl _) (.cons (.bl _) .nil)))), .lst (SqL.of hb) (.cons (.bl _) (.cons (.bl _) (.cons (.bl _) (.cons (.bl _) .nil)))), rfl⟩
        refine ⟨.int w, rfl, .int w, .int 0, .bool (w == 0), .int w, .int 0, rfl, fun H1 s1 v hv => ?_⟩
        cases hv
        refine ⟨_, rfl, ?_⟩
        by_cases hw : w = 0
        · rw [if_pos hw] at q
          rw [if_pos (by rw [hw]; rfl)]
          refine ⟨v1, rfl, v2, rfl, rfl, [t, n], .cons (dp_mono s1 _ _ h1) (.cons (dp_mono s1 _ _ h2) .nil), ?_⟩
          cases hr : sem_above [t, n] with
          | bad => rw [hr] at q; exact q.elim
          | ok d => rw [hr] at q; exact q.elim
          | ex m =>
            rw [hr] at q
            refine fun H' s' => ⟨true, te, fun _ a ha => ⟨⟨rfl, rfl⟩, ?_⟩, fun e => nomatch e⟩
            refine ⟨.ref a, rfl, .ref CU, .ref CU, true, rfl, (fun u r => r), kU, ?_⟩
            refine ⟨.ref a, rfl, .ref CT, .ref CT, false, rfl, (fun u r => r), kT, ?_⟩
            refine ⟨.ref a, rfl, .ref CN, .ref CN, false, rfl, (fun u r => r), kN, ?_⟩
            refine ⟨.ref a, rfl, .ty "ValueError", .type "ValueError", true, rfl, (fun u r => r), kV, ?_⟩
            refine ⟨by show 4 ≤ sizeLine; rw [sizeLine_eq]; decide, fun p hp => ?_⟩
            refine ⟨.ref p, rfl, by show 4 ≤ sizeLine; rw [sizeLine_eq]; decide, fun p2 hp2 => ?_⟩
            obtain ⟨d, e, g1, g2, g3⟩ := eqL (upd (upd H' p _) p2 _) p p2 (same_new hp2 _ _ _ upd_same) upd_same
            refine ⟨d, e, _, g1, g2, g3, fun H2 s2 v hv => ?_⟩
            exact q _ (((s1.trans s').trans (same_new hp _)).trans ((same_new hp2 _).trans s2)) _ hv
        · rw [if_neg hw] at q
          rw [if_neg (by simpa using hw)]
          refine ⟨v1, rfl, v2, rfl, by show 1 ≤ sizeLine; rw [sizeLine_eq]; decide, fun p0 hp0 => ?_⟩
          have s1 : Same H (upd H1 p0 (.tup [.str "false"])) := s1.trans (same_new hp0 _)
          refine ⟨rfl, [t, n, .tuple [.str "false"]], .cons (dp_mono s1 _ _ h1) (.cons (dp_mono s1 _ _ h2) (.cons (.tup (SqT.of upd_same) (.cons (.str _) .nil)) .nil)), ?_⟩
          cases hr : sem_holds [t, n, .tuple [.str "false"]] with
          | bad => rw [hr] at q; exact q.elim
          | ok d => rw [hr] at q; exact q.elim
          | ex m =>
            rw [hr] at q
            refine fun H' s' => ⟨true, te, fun _ a ha => ⟨⟨rfl, rfl⟩, ?_⟩, fun e => nomatch e⟩
            refine ⟨.ref a, rfl, .ref CU, .ref CU, true, rfl, (fun u r => r), kU, ?_⟩
            refine ⟨.ref a, rfl, .ref CT, .ref CT, false, rfl, (fun u r => r), kT, ?_⟩
            refine ⟨.ref a, rfl, .ref CN, .ref CN, false, rfl, (fun u r => r), kN, ?_⟩
            refine ⟨.ref a, rfl, .ty "ValueError", .type "ValueError", true, rfl, (fun u r => r), kV, ?_⟩
            refine ⟨by show 4 ≤ sizeLine; rw [sizeLine_eq]; decide, fun p hp => ?_⟩
            refine ⟨.ref p, rfl, by show 4 ≤ sizeLine; rw [sizeLine_eq]; decide, fun p2 hp2 => ?_⟩
            obtain ⟨d, e, g1, g2, g3⟩ := eqL (upd (upd H' p _) p2 _) p p2 (same_new hp2 _ _ _ upd_same) upd_same
            refine ⟨d, e, _, g1, g2, g3, fun H2 s2 v hv => ?_⟩
            exact q _ (((s1.trans s').trans (same_new hp _)).trans ((same_new hp2 _).trans s2)) _ hv
    · exact q.elim

theorem sc_law : FnScope N_law ["_law_script"] (defScope s_law) := ⟨rfl, rfl, rfl, by decide +kernel, rfl, by decide +kernel, by decide +kernel⟩
theorem w_law {k : Nat} (T : Txt K mg CU) (c_law_cell_at : Cal P w K mg base "_law_cell_at" k ["_law_script", "_law_k"] sem_law_cell_at) (c_law_due : CalN P w K mg base "_law_due" k ["_law_tree", "_law_number"] sem_law_due) (c_law_refused : Cal P w K mg base "_law_refused" k ["_law_tree", "_law_number", "_law_way"] sem_law_refused) (c_law_tree_by : Cal P w K mg base "_law_tree_by" k ["_law_cells", "_law_seed", "_law_many"] sem_law_tree_by) (c_above : CalNX P w K mg base CU "above" k ["tree", "number"] sem_above) : Cal P w K mg base "law" (k + 1) ["_law_script"] (bodyD 11 F_law) := by
  obtain ⟨f, fd, D, hm, hb⟩ := T.d_law.ex
  have sc := sc_law
  refine callee_of (N := N_law) D sc hm hb fun cdv A outer s H E W hr => ?_
  exact (pssd_cons (psd_set (i := 1) sc.nd (ed_call c_law_cell_at hr passD (ad_cons (ed_var (i := 0)) (ad_cons ed_int ad_nil)) (an_cons (an_cons an_nil))))
    (pssd_cons (psd_set (i := 2) sc.nd (ed_call c_law_cell_at hr passD (ad_cons (ed_var (i := 0)) (ad_cons ed_int ad_nil)) (an_cons (an_cons an_nil))))
    (pssd_cons (psd_set (i := 3) sc.nd (ed_call c_law_tree_by hr passD (ad_cons (ed_cut (ed_var (i := 0)) (od_some ed_int) (od_some ed_int)) (ad_cons (ed_var (i := 1)) (ad_cons ed_int ad_nil))) (an_cons (an_cons (an_cons an_nil)))))
    (pssd_cons (psd_setLc (i := 4) (x := "_law_k") (j := 8) rfl sc.nd (id_rng1 T.z_range (ad_cons (ed_callB cd_len T.z_len (ad_cons (ed_var (i := 3)) ad_nil)) ad_nil)) (blkOk_by (own := [("_law_k", 8)]) (N := N_law) (sc := defScope s_law) (by decide +kernel)) (fun _ _ _ _ _ => pg_name (i := 8) sc.nd rfl (Or.inl rfl)) (fun _ _ _ _ _ => tds_nil) (fun _ _ _ _ _ => (ed_var (i := 8))))
    (pssd_cons (psd_if (td_cmp (od_eq hr.units) (ed_op od_mod (ed_var (i := 2)) ed_int) ed_int) (pssd_cons (psd_set (i := 3) sc.nd (ed_tup (ad_cons (ed_tup (ad_cons ed_non (ad_cons (ed_tup ad_nil) ad_nil))) ad_nil)))
    (pssd_cons (psd_for PassesOwn.never rfl (id_rng1 T.z_range (ad_cons (ed_op od_add ed_int (ed_op od_mod (ed_op od_div (ed_var (i := 2)) ed_int) ed_int)) ad_nil)) (gd_name (i := 8) sc.nd) (pssd_one (psd_set (i := 3) sc.nd (ed_op od_add (ed_var (i := 3)) (ed_tup (ad_cons (ed_tup (ad_cons (ed_ix (ed_lst (ad_cons (ed_var (i := 8)) (ad_cons ed_int ad_nil))) (ed_op od_mod (ed_op od_div (ed_var (i := 2)) ed_int) ed_int)) (ad_cons (ed_tup (ad_cons ed_str ad_nil)) ad_nil))) ad_nil))))))
    (pssd_one (psd_set (i := 4) sc.nd (ed_lst (ad_cons ed_int (ad_cons (ed_op od_mod (ed_op od_div (ed_var (i := 2)) ed_int) (ed_callB cd_len T.z_len (ad_cons (ed_var (i := 3)) ad_nil))) (ad_cons (ed_op od_sub (ed_callB cd_len T.z_len (ad_cons (ed_var (i := 3)) ad_nil)) ed_int) ad_nil)))))))) pssd_nil)
    (pssd_cons (psd_for PassesOwn.never rfl (id_list (ed_var (i := 4))) (gd_name (i := 5) sc.nd) (pssD_g (pssG_cons (psG_take (i := 9) sc.nd (en_call (CalleeN.calm (cls' := fun _ => .none) c_above) hr passD (ad_cons (ed_var (i := 3)) (ad_cons (ed_var (i := 5)) ad_nil)) (an_cons (an_cons an_nil))))
    (pssG_cons (psG_setN (j := 10) (by decide) sc.nd (en_call c_law_due hr passD (ad_cons (ed_var (i := 3)) (ad_cons (ed_var (i := 5)) ad_nil)) (an_cons (an_cons an_nil))))
    (pssG_cons (psG_if (PW.pt (td_or (td_not (td_val (ed_isi T.z_isinstance T.z_list (by decide) (ed_var (i := 9))))) (td_or1 (td_cmp (od_ne hr.units) (ed_var (i := 9)) (ed_var (i := 10)))))) (pssG_one (psG_ret (eD_N ed_bl))) pssG_nil)
    (pssG_cons (psG_app (i := 9) ed_int)
    (pssG_one (psG_if (td_cmp (od_ne hr.units) (ed_call (CalleeN.calm (cls' := fun _ => .none) c_above).toD hr passD (ad_cons (ed_var (i := 3)) (ad_cons (ed_var (i := 5)) ad_nil)) (an_cons (an_cons an_nil))) (ed_var (i := 10))) (pssG_one (psG_ret (eD_N ed_bl))) pssG_nil))))))))
    (pssd_cons (psd_set (i := 6) sc.nd (ed_ix (ed_lst (ad_cons (ed_callB cd_len T.z_len (ad_cons (ed_var (i := 3)) ad_nil)) (ad_cons (ed_op od_add (ed_op od_add (ed_callB cd_len T.z_len (ad_cons (ed_var (i := 3)) ad_nil)) ed_int) (ed_op od_mod (ed_op od_div (ed_var (i := 2)) ed_int) ed_int)) (ad_cons (ed_neg ed_int) (ad_cons (ed_op od_sub (ed_neg ed_int) (ed_op od_mod (ed_op od_div (ed_var (i := 2)) ed_int) ed_int)) (ad_cons (ed_op od_pow ed_int ed_int) ad_nil)))))) (ed_op od_mod (ed_op od_div (ed_var (i := 2)) ed_int) ed_int)))
    (pssd_cons (psd_for PassesOwn.never rfl (id_rng1 T.z_range (ad_cons ed_int ad_nil)) (gd_name (i := 7) sc.nd) (pssd_one (psd_if (td_not (td_val (ed_call c_law_refused hr passD (ad_cons (ed_var (i := 3)) (ad_cons (ed_var (i := 6)) (ad_cons (ed_var (i := 7)) ad_nil))) (an_cons (an_cons (an_cons an_nil)))))) (pssd_one (psd_ret ed_bl)) pssd_nil)))
    (pssd_one (psd_ret (ed_cmp (od_eq hr.units) (ed_call (CalleeN.calm (cls' := fun _ => .none) c_above).toD hr passD (ad_cons (ed_var (i := 3)) (ad_cons (ed_ix (ed_var (i := 4)) (ed_neg ed_int)) ad_nil)) (an_cons (an_cons an_nil))) (ed_call c_law_due.toD hr passD (ad_cons (ed_var (i := 3)) (ad_cons (ed_ix (ed_var (i := 4)) (ed_neg ed_int)) ad_nil)) (an_cons (an_cons an_nil))))))))))))))
theorem all_ok (T : Txt K mg CU) : Cal P w K mg base "law" 4 ["_law_script"] sem_law := by
  have c_is_number : Cal P w K mg base "is_number" 1 ["thing", "below"] sem_is_number := w_is_number (k := 0) T 
  have c_above : CalNX P w K mg base CU "above" 2 ["tree", "number"] sem_above := w_above (k := 1) T (c_is_number.mono (by decide))
  have c_holds : CalX P w K mg base CU "holds" 2 ["tree", "number", "statement"] sem_holds := w_holds (k := 1) T (c_is_number.mono (by decide))
  have c_law_cell_at : Cal P w K mg base "_law_cell_at" 1 ["_law_script", "_law_k"] sem_law_cell_at := w_law_cell_at (k := 0) T 
  have c_law_name_by : Cal P w K mg base "_law_name_by" 1 ["_law_seed", "_law_k"] sem_law_name_by := w_law_name_by (k := 0) T 
  have c_law_tree_by : Cal P w K mg base "_law_tree_by" 2 ["_law_cells", "_law_seed", "_law_many"] sem_law_tree_by := w_law_tree_by (k := 1) T (c_law_name_by.mono (by decide))
  have c_law_due : CalN P w K mg base "_law_due" 1 ["_law_tree", "_law_number"] sem_law_due := w_law_due (k := 0) T 
  have c_law_refused : Cal P w K mg base "_law_refused" 3 ["_law_tree", "_law_number", "_law_way"] sem_law_refused := w_law_refused (k := 2) T (c_above.mono (by decide)) (c_holds.mono (by decide))
  have c_law : Cal P w K mg base "law" 4 ["_law_script"] sem_law := w_law (k := 3) T (c_law_cell_at.mono (by decide)) (c_law_due.mono (by decide)) (c_law_refused.mono (by decide)) (c_law_tree_by.mono (by decide)) (c_above.mono (by decide))
  exact c_law
end
end My

set_option Elab.async false
set_option linter.all false
set_option maxRecDepth 100000
set_option maxHeartbeats 4000000
namespace My
open PySem L2 DL PyProof.Rows
theorem txt_mk {K : PySem.W.Frag} {h : Heap} {mg : Str → Option Value} (X : K.In h) (G : h.Ns mainGlobals mg)
    {f1 : Addr} {od1 an1 : Option Addr} {sl1 : Array (Option Value)} {oc1 kV1 dc1 pm1 cd1 ct1 : Value}
    {f2 : Addr} {od2 an2 : Option Addr} {sl2 : Array (Option Value)} {oc2 kV2 dc2 pm2 cd2 ct2 : Value}
    {f3 : Addr} {od3 an3 : Option Addr} {sl3 : Array (Option Value)} {oc3 kV3 dc3 pm3 cd3 ct3 : Value}
    {f4 : Addr} {od4 an4 : Option Addr} {sl4 : Array (Option Value)} {oc4 kV4 dc4 pm4 cd4 ct4 : Value}
    {f5 : Addr} {od5 an5 : Option Addr} {sl5 : Array (Option Value)} {oc5 kV5 dc5 pm5 cd5 ct5 : Value}
    {f6 : Addr} {od6 an6 : Option Addr} {sl6 : Array (Option Value)} {oc6 kV6 dc6 pm6 cd6 ct6 : Value}
    {f7 : Addr} {od7 an7 : Option Addr} {sl7 : Array (Option Value)} {oc7 kV7 dc7 pm7 cd7 ct7 : Value}
    {f8 : Addr} {od8 an8 : Option Addr} {sl8 : Array (Option Value)} {oc8 kV8 dc8 pm8 cd8 ct8 : Value}
    {f9 : Addr} {od9 an9 : Option Addr} {sl9 : Array (Option Value)} {oc9 kV9 dc9 pm9 cd9 ct9 : Value}
    {aU aS aT aN : Addr}
    (a1 : PySem.W.nsIn K mainGlobals "is_number" = some (some (.ref f1)))
    (l1 : K.lookup f1 = some ⟨oc1, od1, .func (PySem.W.fnOf "is_number" "is_number" (defArgs s_is_number) (defBody s_is_number) (defScope s_is_number) .none kV1 dc1 pm1 an1 cd1 ct1), sl1⟩)
    (c1 : PySem.W.codeIn K cd1 "is_number" = true) (k1 : PySem.W.keepIn K (.ref f1) = true)
    (a2 : PySem.W.nsIn K mainGlobals "above" = some (some (.ref f2)))
    (l2 : K.lookup f2 = some ⟨oc2, od2, .func (PySem.W.fnOf "above" "above" (defArgs s_above) (defBody s_above) (defScope s_above) .none kV2 dc2 pm2 an2 cd2 ct2), sl2⟩)
    (c2 : PySem.W.codeIn K cd2 "above" = true) (k2 : PySem.W.keepIn K (.ref f2) = true)
    (a3 : PySem.W.nsIn K mainGlobals "holds" = some (some (.ref f3)))
    (l3 : K.lookup f3 = some ⟨oc3, od3, .func (PySem.W.fnOf "holds" "holds" (defArgs s_holds) (defBody s_holds) (defScope s_holds) .none kV3 dc3 pm3 an3 cd3 ct3), sl3⟩)
    (c3 : PySem.W.codeIn K cd3 "holds" = true) (k3 : PySem.W.keepIn K (.ref f3) = true)
    (a4 : PySem.W.nsIn K mainGlobals "_law_cell_at" = some (some (.ref f4)))
    (l4 : K.lookup f4 = some ⟨oc4, od4, .func (PySem.W.fnOf "_law_cell_at" "_law_cell_at" (defArgs s_law_cell_at) (defBody s_law_cell_at) (defScope s_law_cell_at) .none kV4 dc4 pm4 an4 cd4 ct4), sl4⟩)
    (c4 : PySem.W.codeIn K cd4 "_law_cell_at" = true) (k4 : PySem.W.keepIn K (.ref f4) = true)
    (a5 : PySem.W.nsIn K mainGlobals "_law_name_by" = some (some (.ref f5)))
    (l5 : K.lookup f5 = some ⟨oc5, od5, .func (PySem.W.fnOf "_law_name_by" "_law_name_by" (defArgs s_law_name_by) (defBody s_law_name_by) (defScope s_law_name_by) .none kV5 dc5 pm5 an5 cd5 ct5), sl5⟩)
    (c5 : PySem.W.codeIn K cd5 "_law_name_by" = true) (k5 : PySem.W.keepIn K (.ref f5) = true)
    (a6 : PySem.W.nsIn K mainGlobals "_law_tree_by" = some (some (.ref f6)))
    (l6 : K.lookup f6 = some ⟨oc6, od6, .func (PySem.W.fnOf "_law_tree_by" "_law_tree_by" (defArgs s_law_tree_by) (defBody s_law_tree_by) (defScope s_law_tree_by) .none kV6 dc6 pm6 an6 cd6 ct6), sl6⟩)
    (c6 : PySem.W.codeIn K cd6 "_law_tree_by" = true) (k6 : PySem.W.keepIn K (.ref f6) = true)
    (a7 : PySem.W.nsIn K mainGlobals "_law_due" = some (some (.ref f7)))
    (l7 : K.lookup f7 = some ⟨oc7, od7, .func (PySem.W.fnOf "_law_due" "_law_due" (defArgs s_law_due) (defBody s_law_due) (defScope s_law_due) .none kV7 dc7 pm7 an7 cd7 ct7), sl7⟩)
    (c7 : PySem.W.codeIn K cd7 "_law_due" = true) (k7 : PySem.W.keepIn K (.ref f7) = true)
    (a8 : PySem.W.nsIn K mainGlobals "_law_refused" = some (some (.ref f8)))
    (l8 : K.lookup f8 = some ⟨oc8, od8, .func (PySem.W.fnOf "_law_refused" "_law_refused" (defArgs s_law_refused) (defBody s_law_refused) (defScope s_law_refused) .none kV8 dc8 pm8 an8 cd8 ct8), sl8⟩)
    (c8 : PySem.W.codeIn K cd8 "_law_refused" = true) (k8 : PySem.W.keepIn K (.ref f8) = true)
    (a9 : PySem.W.nsIn K mainGlobals "law" = some (some (.ref f9)))
    (l9 : K.lookup f9 = some ⟨oc9, od9, .func (PySem.W.fnOf "law" "law" (defArgs s_law) (defBody s_law) (defScope s_law) .none kV9 dc9 pm9 an9 cd9 ct9), sl9⟩)
    (c9 : PySem.W.codeIn K cd9 "law" = true) (k9 : PySem.W.keepIn K (.ref f9) = true)
    (gU : PySem.W.nsIn K mainGlobals "NoWorld" = some (some (.ref aU)))
    (gS : PySem.W.nsIn K mainGlobals "ShowError" = some (some (.ref aS)))
    (gT : PySem.W.nsIn K mainGlobals "Unread" = some (some (.ref aT)))
    (gN : PySem.W.nsIn K mainGlobals "TooLarge" = some (some (.ref aN)))
    (kU : PySem.W.keepIn K (.ref aU) = true)
    (qU : PySem.W.excIn K aU [.type "ValueError", .type "Exception", .type "BaseException", .type "object"] "ValueError.__new__" = true)
    (exU : PySem.W.subIn K (.ref aU) (.type "BaseException") = some true)
    (tyU : PySem.W.typeIn K (.ref aU) = some (.type "type"))
    (exS : PySem.W.subIn K (.ref aS) (.type "BaseException") = some true)
    (hdS : PySem.W.hasDictIn K aS = true)
    (tyS : PySem.W.typeIn K (.ref aS) = some (.type "type"))
    (sbS : PySem.W.subIn K (.ref aU) (.ref aS) = some true)
    (xg : PySem.W.findIn K (.ref aU) "__getattribute__" = some (some (.builtin "BaseException.__getattribute__")))
    (xk : PySem.W.findIn K (.ref aU) "__getattr__" = some none)
    (xd : PySem.W.hasDictIn K aU = true)
    (xa : PySem.W.findIn K (.ref aU) "__class__" = some (some (.builtin "object.__class__")))
    (xn : PySem.W.specialIn K (.builtin "object.__class__") "__get__" = some (some (.builtin "getset_descriptor.__get__")))
    (xt : PySem.W.takesIn K (.builtin "object.__class__") = some true)
    (xm : PySem.W.mroIn K aU (.type "object") = some true)
    (sT : PySem.W.subIn K (.ref aU) (.ref aT) = some false)
    (dT : PySem.W.hasDictIn K aT = true)
    (yT : PySem.W.typeIn K (.ref aT) = some (.type "type"))
    (sN : PySem.W.subIn K (.ref aU) (.ref aN) = some false)
    (dN : PySem.W.hasDictIn K aN = true)
    (yN : PySem.W.typeIn K (.ref aN) = some (.type "type"))
    (sV : PySem.W.subIn K (.ref aU) (.type "ValueError") = some true)
    (sU : PySem.W.subIn K (.ref aU) (.ref aU) = some true)
    (z_ValueError : PySem.W.nsIn K mainGlobals "ValueError" = some none)
    (z_bool : PySem.W.nsIn K mainGlobals "bool" = some none)
    (z_int : PySem.W.nsIn K mainGlobals "int" = some none)
    (z_isinstance : PySem.W.nsIn K mainGlobals "isinstance" = some none)
    (z_len : PySem.W.nsIn K mainGlobals "len" = some none)
    (z_list : PySem.W.nsIn K mainGlobals "list" = some none)
    (z_min : PySem.W.nsIn K mainGlobals "min" = some none)
    (z_range : PySem.W.nsIn K mainGlobals "range" = some none)
    (z_sorted : PySem.W.nsIn K mainGlobals "sorted" = some none)
    (z_tuple : PySem.W.nsIn K mainGlobals "tuple" = some none) : Txt K mg aU where
    d_is_number := defAt_mk X G a1 l1 c1 k1 fun _ _ _ _ _ _ us hl => match us, hl with | [_, _], _ => rfl
    d_above := defAt_mk X G a2 l2 c2 k2 fun _ _ _ _ _ _ us hl => match us, hl with | [_, _], _ => rfl
    d_holds := defAt_mk X G a3 l3 c3 k3 fun _ _ _ _ _ _ us hl => match us, hl with | [_, _, _], _ => rfl
    d_law_cell_at := defAt_mk X G a4 l4 c4 k4 fun _ _ _ _ _ _ us hl => match us, hl with | [_, _], _ => rfl
    d_law_name_by := defAt_mk X G a5 l5 c5 k5 fun _ _ _ _ _ _ us hl => match us, hl with | [_, _], _ => rfl
    d_law_tree_by := defAt_mk X G a6 l6 c6 k6 fun _ _ _ _ _ _ us hl => match us, hl with | [_, _, _], _ => rfl
    d_law_due := defAt_mk X G a7 l7 c7 k7 fun _ _ _ _ _ _ us hl => match us, hl with | [_, _], _ => rfl
    d_law_refused := defAt_mk X G a8 l8 c8 k8 fun _ _ _ _ _ _ us hl => match us, hl with | [_, _, _], _ => rfl
    d_law := defAt_mk X G a9 l9 c9 k9 fun _ _ _ _ _ _ us hl => match us, hl with | [_], _ => rfl
    err_NoWorld := ⟨PySem.W.mg_of X G gU, kU, qU, exU, tyU⟩
    told := ⟨aS, aT, aN, PySem.W.mg_of X G gS, PySem.W.mg_of X G gT, PySem.W.mg_of X G gN, PySem.W.exm_ref exS hdS tyS sbS, ⟨xg, xk, exU, xd, xa, xn, xt, xm⟩, by unfold PySem.W.kitOne; rw [if_pos (beq_self_eq_true _)], kit_ref sT sU dT yT, kit_ref sN sU dN yN, kit_val sV⟩
    z_ValueError := PySem.W.mg_none_of X G z_ValueError
    z_bool := PySem.W.mg_none_of X G z_bool
    z_int := PySem.W.mg_none_of X G z_int
    z_isinstance := PySem.W.mg_none_of X G z_isinstance
    z_len := PySem.W.mg_none_of X G z_len
    z_list := PySem.W.mg_none_of X G z_list
    z_min := PySem.W.mg_none_of X G z_min
    z_range := PySem.W.mg_none_of X G z_range
    z_sorted := PySem.W.mg_none_of X G z_sorted
    z_tuple := PySem.W.mg_none_of X G z_tuple
/-- the end: from the plain law -/
theorem walk {l : PySem.W.OpenLaw} {q : Program} {loose : List Str} {XP : (Str → Option Value) → Heap → Prop} {YP : World → Heap → Prop} {d : DefRec} {K : Params → PySem.W.Frag} (hn : l.most = some 63) (hd : d.params.defaults = []) (hd2 : d.name = "law")
    (plain : ∀ ns : List Int, ns.length ≤ 63 → sem_law [.list (ns.map PyData.int)] = .ok (.bool true)) (hY : ∀ (w : World) (h : Heap), YP w h → (K w.params).In h)
    (F : ∀ (w : World) (mg : Str → Option Value) (h : Heap), (K w.params).In h → h.Ns mainGlobals mg → ∃ CU, Txt (K w.params) mg CU) : PySem.W.WalkO q loose XP YP l.row.toRowW d [] (fun f vs => PySem.call f vs) :=
  walk_data (k := 4) (by decide +kernel) (by decide +kernel) (g := sem_law) (st := s_law) hn hd hd2 hY (fun w mg h X G => (F w mg h X G).elim fun _ T => T.d_law) (fun w mg h X G base => (F w mg h X G).elim fun _ T => all_ok T) (fun fd ⟨_, _, _, _, _, _, e⟩ s u => by subst e; exact .of_eq rfl) plain
end My
open PySem PySem.W PyProof.Rows
set_option maxRecDepth 100000 in
set_option maxHeartbeats 0 in
theorem PySem.Challenge.cw_showtree_k06_above_holds : PySem.Challenge.rw_showtree_k06_above.Holds := by
  w_on; o_law; k_head; (case hw => w_witness2)
  k_fill
  refine My.walk (l := PySem.Challenge.rw_showtree_k06_above) rfl rfl rfl My.plain (fun w h Y => PySem.W.kIn_of Y) ?F
  case F =>
    intro w mg h KX G
    refine' ⟨_, My.txt_mk KX G ?a1 ?l1 ?c1 ?k1 ?a2 ?l2 ?c2 ?k2 ?a3 ?l3 ?c3 ?k3 ?a4 ?l4 ?c4 ?k4 ?a5 ?l5 ?c5 ?k5 ?a6 ?l6 ?c6 ?k6 ?a7 ?l7 ?c7 ?k7 ?a8 ?l8 ?c8 ?k8 ?a9 ?l9 ?c9 ?k9 ?gU ?gS ?gT ?gN ?kU ?qU ?exU ?tyU ?exS ?hdS ?tyS ?sbS ?xg ?xk ?xd ?xa ?xn ?xt ?xm ?sT ?dT ?yT ?sN ?dN ?yN ?sV ?sU ?z_ValueError ?z_bool ?z_int ?z_isinstance ?z_len ?z_list ?z_min ?z_range ?z_sorted ?z_tuple⟩
    (case a1 => k_is)
    (case l1 => k_is)
    (case c1 => k_is)
    (case k1 => k_is)
    (case a2 => k_is)
    (case l2 => k_is)
    (case c2 => k_is)
    (case k2 => k_is)
    (case a3 => k_is)
    (case l3 => k_is)
    (case c3 => k_is)
    (case k3 => k_is)
    (case a4 => k_is)
    (case l4 => k_is)
    (case c4 => k_is)
    (case k4 => k_is)
    (case a5 => k_is)
    (case l5 => k_is)
    (case c5 => k_is)
    (case k5 => k_is)
    (case a6 => k_is)
    (case l6 => k_is)
    (case c6 => k_is)
    (case k6 => k_is)
    (case a7 => k_is)
    (case l7 => k_is)
    (case c7 => k_is)
    (case k7 => k_is)
    (case a8 => k_is)
    (case l8 => k_is)
    (case c8 => k_is)
    (case k8 => k_is)
    (case a9 => k_is)
    (case l9 => k_is)
    (case c9 => k_is)
    (case k9 => k_is)
    (case gU => k_is)
    (case gS => k_is)
    (case gT => k_is)
    (case gN => k_is)
    (case kU => k_is)
    (case qU => k_exc)
    (case exU => k_is)
    (case tyU => k_is)
    (case exS => k_is)
    (case hdS => k_is)
    (case tyS => k_is)
    (case sbS => k_is)
    (case xg => k_is)
    (case xk => k_is)
    (case xd => k_is)
    (case xa => k_is)
    (case xn => k_is)
    (case xt => k_is)
    (case xm => k_is)
    (case sT => k_is)
    (case dT => k_is)
    (case yT => k_is)
    (case sN => k_is)
    (case dN => k_is)
    (case yN => k_is)
    (case sV => k_is)
    (case sU => first | rfl | k_is)
    (case z_ValueError => k_is)
    (case z_bool => k_is)
    (case z_int => k_is)
    (case z_isinstance => k_is)
    (case z_len => k_is)
    (case z_list => k_is)
    (case z_min => k_is)
    (case z_range => k_is)
    (case z_sorted => k_is)
    (case z_tuple => k_is)
