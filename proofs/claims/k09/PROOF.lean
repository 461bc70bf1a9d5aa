import PyProof.Rows.All
import Wide.All
import OpenK.AllK
import Wide.FinOn
import HandS.ForMost
import HandS.ForExc
import HandS.Deep
import HandS.IsInst
import HandS.TupAny
import HandS.TupMul
import HandS.TupLe
import HandS.Rev
import HandS.StrMore
import HandS.Replace
import HandS.Strs
import HandS.Iter
import HandS.RevTup
import PySem.Challenge.RW_showtree_k09_showings
set_option Elab.async false
set_option linter.all false
set_option maxRecDepth 100000
set_option maxHeartbeats 2000000
/-! THE DATA LAYER: a reading as a plain function over PyData. A def's body is read as a function from the values of its slots (as data) to what it answers. -/
namespace DL
open PySem L2 PyProof.Rows

/-- an equation that simp is not to take for one by unfolding -/
theorem nrfl {α : Sort u} {a b : α} (h : a = b) : a = b := h
/-! ### results -/
inductive Res (α : Type) where
  | ok (a : α) | ex (n : Nat) | bad
namespace Res
variable {α β : Type}
def bind (r : Res α) (f : α → Res β) : Res β := match r with
  | .ok a => f a
  | .ex n => .ex n
  | .bad => .bad
def of (o : Option α) : Res α := match o with
  | some a => .ok a
  | none => .bad
def post (r : Res α) (p : α → Prop) (e : Nat → Prop) : Prop := match r with
  | .ok a => p a
  | .ex n => e n
  | .bad => False
@[simp] theorem ok_bind (a : α) (f : α → Res β) : (Res.ok a).bind f = f a := nrfl rfl
@[simp] theorem ex_bind (n : Nat) (f : α → Res β) : (Res.ex n : Res α).bind f = .ex n := nrfl rfl
@[simp] theorem bad_bind (f : α → Res β) : (Res.bad : Res α).bind f = .bad := nrfl rfl
@[simp] theorem of_some (a : α) : Res.of (some a) = .ok a := nrfl rfl
@[simp] theorem of_none : Res.of (none : Option α) = .bad := nrfl rfl
theorem post_bind {r : Res α} {f : α → Res β} {p : β → Prop} {e : Nat → Prop} : (r.bind f).post p e ↔ r.post (fun a => (f a).post p e) e := by cases r <;> exact Iff.rfl
theorem post.mono {r : Res α} {p q : α → Prop} {e g : Nat → Prop} (h : r.post p e) (h1 : ∀ a, p a → q a) (h2 : ∀ n, e n → g n) : r.post q g := by
  cases r with
  | ok a => exact h1 a h
  | ex n => exact h2 n h
  | bad => exact h.elim
theorem post_of {o : Option α} {p : α → Prop} {e : Nat → Prop} (h : (Res.of o).post p e) : ∃ a, o = some a ∧ p a := by
  cases o with
  | none => exact h.elim
  | some a => exact ⟨a, rfl, h⟩
end Res

abbrev PEnv := List (Option PyData)
abbrev SE := PEnv → Res PyData
abbrev SA := PEnv → Res (List PyData)
abbrev ST := PEnv → Res Bool
inductive Out where
  | nx (ρ : PEnv) | rt (d : PyData) | bk (ρ : PEnv) | ct (ρ : PEnv)
abbrev SS := PEnv → Res Out
abbrev Wis := Nat → Hp → Prop

/-! ### data over a heap -/
/-- a key, a scalar, as data -/
def keyD : Key → PyData
  | .inl i => .int i
  | .inr x => .str x
def scaD : V → Option PyData
  | .non => some .none
  | .bl b => some (.bool b)
  | .int i => some (.int i)
  | .str x => some (.str x)
  | _ => none
def kvD (kvs : List (Key × V)) : List (PyData × PyData) := kvs.map fun p => (keyD p.1, (scaD p.2).getD .none)
mutual
inductive Dp (K : PySem.W.Frag) (H : Hp) : V → PyData → Prop
  | non : Dp K H .non .none
  | bl (b : Bool) : Dp K H (.bl b) (.bool b)
  | int (i : Int) : Dp K H (.int i) (.int i)
  | str (x : Str) : Dp K H (.str x) (.str x)
  | lst {a : Addr} {xs : List V} {ds : List PyData} : SqL K H a xs → DpAll K H xs ds → Dp K H (.ref a) (.list ds)
  | tup {a : Addr} {xs : List V} {ds : List PyData} : SqT K H a xs → DpAll K H xs ds → Dp K H (.ref a) (.tuple ds)
  | dct {a : Addr} {kvs : List (Key × V)} : H a = some (.dK kvs) → (∀ p ∈ kvs, (scaD p.2).isSome = true) → Dp K H (.ref a) (.dict (kvD kvs))
inductive DpAll (K : PySem.W.Frag) (H : Hp) : List V → List PyData → Prop
  | nil : DpAll K H [] []
  | cons {v : V} {vs : List V} {d : PyData} {ds : List PyData} : Dp K H v d → DpAll K H vs ds → DpAll K H (v :: vs) (d :: ds)
end
theorem dp_sca {K : PySem.W.Frag} {H : Hp} {v : V} {d : PyData} (h : scaD v = some d) : Dp K H v d := by
  cases v <;> simp only [scaD, reduceCtorEq, Option.some.injEq] at h <;> subst h
  · exact .non
  · exact .bl _
  · exact .int _
  · exact .str _
section
variable {K : PySem.W.Frag} {H H' : Hp}
theorem sqT_same {a : Addr} {xs : List V} (e : Same H H') (h : SqT K H a xs) : SqT K H' a xs := by
  rcases h with (h | ⟨o, h⟩) | h
  · exact .inl (.inl (e _ _ h))
  · exact .inl (.inr ⟨o, e _ _ h⟩)
  · exact .inr h
mutual
theorem dp_mono (e : Same H H') : ∀ (d : PyData) (v : V), Dp K H v d → Dp K H' v d
  | .none, _, h => by cases h; exact .non
  | .bool b, _, h => by cases h; exact .bl b
  | .int i, _, h => by cases h; exact .int i
  | .str x, _, h => by cases h; exact .str x
  | .list ds, _, h => by
    cases h with
    | lst h1 h2 => exact .lst (e.seq h1) (dps_mono e ds _ h2)
  | .tuple ds, _, h => by
    cases h with
    | tup h1 h2 => exact .tup (sqT_same e h1) (dps_mono e ds _ h2)
  | .dict kvs, _, h => by
    cases h with
    | dct h1 h2 => exact .dct (e _ _ h1) h2
theorem dps_mono (e : Same H H') : ∀ (ds : List PyData) (vs : List V), DpAll K H vs ds → DpAll K H' vs ds
  | [], _, h => by cases h; exact .nil
  | d :: ds, _, h => by
    cases h with
    | cons h1 h2 => exact .cons (dp_mono e d _ h1) (dps_mono e ds _ h2)
end
/-! data without a list -/
mutual
def frz : PyData → Bool
  | .none => true
  | .bool _ => true
  | .int _ => true
  | .str _ => true
  | .list _ => false
  | .tuple ds => frzs ds
  | .dict _ => false
def frzs : List PyData → Bool
  | [] => true
  | d :: ds => frz d && frzs ds
end
mutual
theorem frz_mono (e : ∀ a xs, SqT K H a xs → SqT K H' a xs) : ∀ (d : PyData) (v : V), frz d = true → Dp K H v d → Dp K H' v d
  | .none, _, _, h => by cases h; exact .non
  | .bool b, _, _, h => by cases h; exact .bl b
  | .int i, _, _, h => by cases h; exact .int i
  | .str x, _, _, h => by cases h; exact .str x
  | .list ds, _, z, h => by simp [frz] at z
  | .tuple ds, _, z, h => by
    cases h with
    | tup h1 h2 => exact .tup (e _ _ h1) (frzs_mono e ds _ (by simpa [frz] using z) h2)
  | .dict kvs, _, z, h => by simp [frz] at z
theorem frzs_mono (e : ∀ a xs, SqT K H a xs → SqT K H' a xs) : ∀ (ds : List PyData) (vs : List V), frzs ds = true → DpAll K H vs ds → DpAll K H' vs ds
  | [], _, _, h => by cases h; exact .nil
  | d :: ds, _, z, h => by
    simp only [frzs, Bool.and_eq_true] at z
    cases h with
    | cons h1 h2 => exact .cons (frz_mono e d _ z.1 h1) (frzs_mono e ds _ z.2 h2)
end
mutual
theorem dp_l2 : ∀ (d : PyData) (v : V), d.canLay0 = true → Dp K H v d → L2.Dp K H v d
  | .none, _, _, h => by cases h; exact .non
  | .bool b, _, _, h => by cases h; exact .bl b
  | .int i, _, _, h => by cases h; exact .int i
  | .str x, _, _, h => by cases h; exact .str x
  | .list ds, _, z, h => by
    cases h with
    | lst h1 h2 => exact .lst h1 (dps_l2 ds _ (by simpa [PyData.canLay0] using z) h2)
  | .tuple ds, _, z, h => by
    cases h with
    | tup h1 h2 => exact .tup h1 (dps_l2 ds _ (by simpa [PyData.canLay0] using z) h2)
  | .dict kvs, _, z, h => by simp [PyData.canLay0] at z
theorem dps_l2 : ∀ (ds : List PyData) (vs : List V), PyData.canLayAll0 ds = true → DpAll K H vs ds → L2.DpAll K H vs ds
  | [], _, _, h => by cases h; exact .nil
  | d :: ds, _, z, h => by
    simp only [PyData.canLayAll0, Bool.and_eq_true] at z
    cases h with
    | cons h1 h2 => exact .cons (dp_l2 d _ z.1 h1) (dps_l2 ds _ z.2 h2)
end
theorem dp_sh {d : PyData} {v : V} (z : SeqAt.shaped d = true) (h : Dp K H v d) : L2.Dp K H v d := dp_l2 d v (SeqAt.canLay_of_shaped z) h
/-- a list that H tracks is changed: the tuples stand -/
theorem sqT_lst {l : Addr} {ys zs : List V} (h : H l = some (.lst ys)) : ∀ a xs, SqT K H a xs → SqT K (upd H l (.lst zs)) a xs := fun a xs q => by
  rcases q with (q | ⟨o, q⟩) | q
  · exact .inl (.inl (by rw [upd_ne (ne_of q h (by intro z; cases z))]; exact q))
  · exact .inl (.inr ⟨o, by rw [upd_ne (ne_of q h (by intro z; cases z))]; exact q⟩)
  · exact .inr q
theorem dps_len : ∀ {vs : List V} {ds : List PyData}, DpAll K H vs ds → vs.length = ds.length
  | _, _, .nil => rfl
  | _, _, .cons _ h => congrArg (· + 1) (dps_len h)
theorem dps_get : ∀ {vs : List V} {ds : List PyData} {i : Nat} {d : PyData}, DpAll K H vs ds → ds[i]? = some d → ∃ v, vs[i]? = some v ∧ Dp K H v d
  | _, _, _, _, .nil, e => by simp at e
  | _, _, 0, _, .cons h _, e => by simp at e; subst e; exact ⟨_, rfl, h⟩
  | _, _, i + 1, d, .cons _ h, e => by
    obtain ⟨v, h1, h2⟩ := dps_get (i := i) (d := d) h (by simpa using e)
    exact ⟨v, by simpa using h1, h2⟩
theorem dps_getv : ∀ {vs : List V} {ds : List PyData} {i : Nat} {v : V}, DpAll K H vs ds → vs[i]? = some v → ∃ d, ds[i]? = some d ∧ Dp K H v d
  | _, _, _, _, .nil, e => by simp at e
  | _, _, 0, _, .cons h _, e => by simp at e; subst e; exact ⟨_, rfl, h⟩
  | _, _, i + 1, d, .cons _ h, e => by
    obtain ⟨v, h1, h2⟩ := dps_getv (i := i) (v := d) h (by simpa using e)
    exact ⟨v, by simpa using h1, h2⟩
theorem dps_append : ∀ {vs us : List V} {ds es : List PyData}, DpAll K H vs ds → DpAll K H us es → DpAll K H (vs ++ us) (ds ++ es)
  | _, _, _, _, .nil, h => h
  | _, _, _, _, .cons h t, s => .cons h (dps_append t s)
theorem dps_take : ∀ {vs : List V} {ds : List PyData} (n : Nat), DpAll K H vs ds → DpAll K H (vs.take n) (ds.take n)
  | _, _, 0, _ => .nil
  | _, _, _ + 1, .nil => .nil
  | _, _, n + 1, .cons h t => .cons h (dps_take n t)
theorem dps_drop : ∀ {vs : List V} {ds : List PyData} (n : Nat), DpAll K H vs ds → DpAll K H (vs.drop n) (ds.drop n)
  | _, _, 0, h => h
  | _, _, _ + 1, .nil => .nil
  | _, _, n + 1, .cons _ t => dps_drop n t
theorem dps_set : ∀ {vs : List V} {ds : List PyData} {v : V} {d : PyData} (i : Nat), Dp K H v d → DpAll K H vs ds → DpAll K H (vs.set i v) (ds.set i d)
  | _, _, _, _, _, _, .nil => .nil
  | _, _, _, _, 0, h, .cons _ t => .cons h t
  | _, _, _, _, i + 1, h, .cons q t => .cons q (dps_set i h t)
theorem dps_ints : ∀ (ns : List Int), DpAll K H (ns.map V.int) (ns.map PyData.int)
  | [] => .nil
  | n :: ns => .cons (.int n) (dps_ints ns)
theorem dps_strs_of : ∀ {vs : List V} {xs : List Str}, DpAll K H vs (xs.map PyData.str) → vs = xs.map V.str
  | [], [], _ => rfl
  | _ :: _, [], h => by cases h
  | [], _ :: _, h => by cases h
  | v :: vs, x :: xs, h => by
    cases h with
    | cons h1 h2 =>
      cases h1
      rw [dps_strs_of h2]
      rfl
theorem dps_strs : ∀ (xs : List Str), DpAll K H (xs.map V.str) (xs.map PyData.str)
  | [] => .nil
  | n :: ns => .cons (.str n) (dps_strs ns)
theorem dps_bls_of : ∀ {vs : List V} {xs : List Bool}, DpAll K H vs (xs.map PyData.bool) → vs = xs.map V.bl
  | [], [], _ => rfl
  | _ :: _, [], h => by cases h
  | [], _ :: _, h => by cases h
  | v :: vs, x :: xs, h => by
    cases h with
    | cons h1 h2 =>
      cases h1
      rw [dps_bls_of h2]
      rfl
end
theorem same_new {H : Hp} {p : Addr} (h : H p = none) (o : HO) : Same H (upd H p o) := fun b u q => by rw [upd_ne (ne_of_none q h)]; exact q

/-! ### the values of the slots -/
def EnvR (K : PySem.W.Frag) (H : Hp) (σ : L2.St) (ρ : PEnv) : Prop := ρ.length = σ.length ∧ ∀ (i : Nat) (d : PyData), ρ[i]? = some (some d) → ∃ v, σ[i]? = some (some v) ∧ Dp K H v d
section
variable {K : PySem.W.Frag} {H H' : Hp} {σ : L2.St} {ρ : PEnv}
theorem EnvR.mono (e : Same H H') (h : EnvR K H σ ρ) : EnvR K H' σ ρ := ⟨h.1, fun i d q => by
  obtain ⟨v, a, b⟩ := h.2 i d q
  exact ⟨v, a, dp_mono e d v b⟩⟩
theorem EnvR.set {i : Nat} {v : V} {d : PyData} (h : EnvR K H σ ρ) (hv : Dp K H v d) : EnvR K H (σ.set i (some v)) (ρ.set i (some d)) := by
  refine ⟨by rw [List.length_set, List.length_set]; exact h.1, fun j e q => ?_⟩
  by_cases hj : i = j
  · subst hj
    have hl : i < ρ.length := by
      have z := (List.getElem?_eq_some_iff.mp q).1
      rw [List.length_set] at z
      exact z
    rw [List.getElem?_set_self hl] at q
    cases q
    exact ⟨v, List.getElem?_set_self (by rw [← h.1]; exact hl), hv⟩
  · rw [List.getElem?_set_ne hj] at q
    obtain ⟨u, a, b⟩ := h.2 j e q
    exact ⟨u, by rw [List.getElem?_set_ne hj]; exact a, b⟩
theorem EnvR.forget {i : Nat} (h : EnvR K H σ ρ) : EnvR K H (σ.set i none) (ρ.set i none) := by
  refine ⟨by rw [List.length_set, List.length_set]; exact h.1, fun j e q => ?_⟩
  by_cases hj : i = j
  · subst hj
    have hl : i < ρ.length := by
      have z := (List.getElem?_eq_some_iff.mp q).1
      rw [List.length_set] at z
      exact z
    rw [List.getElem?_set_self hl] at q
    cases q
  · rw [List.getElem?_set_ne hj] at q
    obtain ⟨u, a, b⟩ := h.2 j e q
    exact ⟨u, by rw [List.getElem?_set_ne hj]; exact a, b⟩
end
def startD (n : Nat) (ds : List PyData) : PEnv := ds.map some ++ List.replicate (n - ds.length) none
theorem envR_start {K : PySem.W.Frag} {H : Hp} {N : List Str} {vs : List V} {ds : List PyData} (h : DpAll K H vs ds) : EnvR K H (L2.start N vs) (startD N.length ds) := by
  have hl := dps_len h
  refine ⟨by simp [startD, L2.start, hl], fun i d q => ?_⟩
  unfold startD at q
  by_cases hi : i < ds.length
  · rw [List.getElem?_append_left (by simpa using hi), List.getElem?_map] at q
    cases e : ds[i]? with
    | none => rw [e] at q; cases q
    | some d' =>
      rw [e] at q
      cases q
      obtain ⟨v, a, b⟩ := dps_get h e
      refine ⟨v, ?_, b⟩
      unfold L2.start
      rw [List.getElem?_append_left (by simpa [hl] using hi), List.getElem?_map, a]
      rfl
  · rw [List.getElem?_append_right (by simpa using hi)] at q
    have z := List.mem_of_getElem? q
    have z2 := (List.mem_replicate.mp z).2
    cases z2

/-! ### readings -/
/-- at every later heap -/
abbrev fut (H : Hp) (p : Hp → Prop) : Prop := ∀ H', Same H H' → p H'
theorem fut.on {H H1 : Hp} {p : Hp → Prop} (h : fut H p) (s : Same H H1) : fut H1 p := fun H' s' => h H' (s.trans s')
def tD (K : PySem.W.Frag) (W : Wis) (f : SE) : TE := fun σ H Q => ∃ ρ, EnvR K H σ ρ ∧ (f ρ).post (fun d => fut H fun H' => ∀ v, Dp K H' v d → Q v H') fun n => fut H (W n)
def ttD (K : PySem.W.Frag) (W : Wis) (f : ST) : TT := fun σ H Q => ∃ ρ, EnvR K H σ ρ ∧ (f ρ).post (fun b => fut H fun H' => Q b H') fun n => fut H (W n)
def taD (K : PySem.W.Frag) (W : Wis) (f : SA) : TA := fun σ H Q => ∃ ρ, EnvR K H σ ρ ∧ (f ρ).post (fun ds => fut H fun H' => ∀ vs, DpAll K H' vs ds → Q vs H') fun n => fut H (W n)
def outP (K : PySem.W.Frag) (D : Ends) : Out → Hp → Prop
  | .nx ρ', H' => ∀ σ', EnvR K H' σ' ρ' → D.nx σ' H'
  | .rt d, H' => ∀ v, Dp K H' v d → D.rt v H'
  | .bk ρ', H' => ∀ σ', EnvR K H' σ' ρ' → D.bk σ' H'
  | .ct ρ', H' => ∀ σ', EnvR K H' σ' ρ' → D.ct σ' H'
def tsD (K : PySem.W.Frag) (W : Wis) (F : SS) : TS := fun D σ H => ∃ ρ, EnvR K H σ ρ ∧ (F ρ).post (fun o => fut H (outP K D o)) fun n => fut H (W n)

theorem pe_weak {X : Cx} {e : Expr} {t t' : TE} (h : PE X e t) (w : ∀ σ H Q, t' σ H Q → t σ H Q) : PE X e t' := ⟨fun pins s σ H Q I q => h.run pins s σ H Q I (w σ H Q q)⟩
theorem pt_weak {X : Cx} {e : Expr} {t t' : TT} (h : PT X e t) (w : ∀ σ H Q, t' σ H Q → t σ H Q) : PT X e t' := ⟨fun pins s σ H Q I q => h.run pins s σ H Q I (w σ H Q q)⟩
theorem pw_weak {X : Cx} {e : Expr} {t t' : TT} (h : PW X e t) (w : ∀ σ H Q, t' σ H Q → t σ H Q) : PW X e t' := ⟨fun wh pins s σ H Q I q => h.run wh pins s σ H Q I (w σ H Q q)⟩
theorem pa_weak {X : Cx} {es : List Expr} {t t' : TA} (h : PA X es t) (w : ∀ σ H Q, t' σ H Q → t σ H Q) : PA X es t' := ⟨fun pos pins s σ H Q I q => h.run pos pins s σ H Q I (w σ H Q q)⟩
theorem ps_weak {X : Cx} {st : Stmt} {t t' : TS} (h : PS X st t) (w : ∀ D σ H, t' D σ H → t D σ H) : PS X st t' := ⟨fun pins s σ H D I q => h.run pins s σ H D I (w D σ H q)⟩
theorem pss_weak {X : Cx} {st : List Stmt} {t t' : TS} (h : PSs X st t) (w : ∀ D σ H, t' D σ H → t D σ H) : PSs X st t' := ⟨fun pins s σ H D I q => h.run pins s σ H D I (w D σ H q)⟩

section
variable {K : PySem.W.Frag} {W : Wis} {σ : L2.St} {H : Hp} {ρ : PEnv} {β : Type} {p : β → Hp → Prop}
/-- what a part's reading asks, where more follows -/
theorem tD_then {f : SE} {g : PyData → Res β} (hE : EnvR K H σ ρ) (h : ((f ρ).bind g).post (fun b => fut H (p b)) fun n => fut H (W n)) :
    tD K W f σ H fun v H1 => ∃ d, Dp K H1 v d ∧ Same H H1 ∧ EnvR K H1 σ ρ ∧ (g d).post (fun b => fut H1 (p b)) fun n => fut H1 (W n) :=
  ⟨ρ, hE, (Res.post_bind.mp h).mono (fun d q H1 s v dv => ⟨d, dv, s, hE.mono s, q.mono (fun b r => r.on s) fun n r => r.on s⟩) fun n r => r⟩
theorem ttD_then {f : ST} {g : Bool → Res β} (hE : EnvR K H σ ρ) (h : ((f ρ).bind g).post (fun b => fut H (p b)) fun n => fut H (W n)) :
    ttD K W f σ H fun c H1 => Same H H1 ∧ EnvR K H1 σ ρ ∧ (g c).post (fun b => fut H1 (p b)) fun n => fut H1 (W n) :=
  ⟨ρ, hE, (Res.post_bind.mp h).mono (fun d q H1 s => ⟨s, hE.mono s, q.mono (fun b r => r.on s) fun n r => r.on s⟩) fun n r => r⟩
theorem taD_then {f : SA} {g : List PyData → Res β} (hE : EnvR K H σ ρ) (h : ((f ρ).bind g).post (fun b => fut H (p b)) fun n => fut H (W n)) :
    taD K W f σ H fun vs H1 => ∃ ds, DpAll K H1 vs ds ∧ Same H H1 ∧ EnvR K H1 σ ρ ∧ (g ds).post (fun b => fut H1 (p b)) fun n => fut H1 (W n) :=
  ⟨ρ, hE, (Res.post_bind.mp h).mono (fun d q H1 s v dv => ⟨d, dv, s, hE.mono s, q.mono (fun b r => r.on s) fun n r => r.on s⟩) fun n r => r⟩
theorem ttD_mono {f : ST} {Q Q' : Bool → Hp → Prop} (h : ttD K W f σ H Q) (w : ∀ v H', Q v H' → Q' v H') : ttD K W f σ H Q' := by
  obtain ⟨ρ, hE, q⟩ := h
  exact ⟨ρ, hE, q.mono (fun d r H' s => w _ _ (r H' s)) fun n r => r⟩
theorem taD_mono {f : SA} {Q Q' : List V → Hp → Prop} (h : taD K W f σ H Q) (w : ∀ v H', Q v H' → Q' v H') : taD K W f σ H Q' := by
  obtain ⟨ρ, hE, q⟩ := h
  exact ⟨ρ, hE, q.mono (fun d r H' s v dv => w _ _ (r H' s v dv)) fun n r => r⟩
/-- a reading's wish may be weakened -/
theorem tD_mono {f : SE} {Q Q' : VK} (h : tD K W f σ H Q) (w : ∀ v H', Q v H' → Q' v H') : tD K W f σ H Q' := by
  obtain ⟨ρ, hE, q⟩ := h
  exact ⟨ρ, hE, q.mono (fun d r H' s v dv => w _ _ (r H' s v dv)) fun n r => r⟩
end
end DL

set_option Elab.async false
set_option linter.all false
set_option maxRecDepth 100000
set_option maxHeartbeats 2000000
namespace DL
open PySem L2 PyProof.Rows

/-! ### operations on data -/
/-- the greatest length that is asked anywhere -/
def big : Nat := 1000000
theorem big_line : big ≤ sizeLine := by rw [sizeLine_eq]; decide
def addD : PyData → PyData → Option PyData
  | .int i, .int j => some (.int (i + j))
  | .str a, .str b => if a.length + b.length ≤ big then some (.str (a ++ b)) else none
  | .list a, .list b => if a.length + b.length ≤ big then some (.list (a ++ b)) else none
  | .tuple a, .tuple b => if a.length + b.length ≤ big then some (.tuple (a ++ b)) else none
  | _, _ => none
def subD : PyData → PyData → Option PyData
  | .int i, .int j => some (.int (i - j))
  | _, _ => none
def small64 (i : Int) : Bool := decide (i.natAbs < 18446744073709551616)
def mulD : PyData → PyData → Option PyData
  | .int i, .int j => if small64 i || small64 j then some (.int (i * j)) else none
  | _, _ => none
def divD : PyData → PyData → Option PyData
  | .int i, .int j => if 0 < j ∧ j < 1073741824 then some (.int (i / j)) else none
  | _, _ => none
def modD : PyData → PyData → Option PyData
  | .int i, .int j => if 0 < j then some (.int (i % j)) else none
  | _, _ => none
def powD : PyData → PyData → Option PyData
  | .int i, .int j => if 0 ≤ j ∧ j ≤ 1000000 ∧ i.natAbs < 2 ^ 64 then some (.int (i ^ j.toNat)) else none
  | _, _ => none
def eqD : PyData → PyData → Option PyData
  | .int i, .int j => some (.bool (i == j))
  | .str i, .str j => some (.bool (i == j))
  | d, e => if SeqAt.shaped d && SeqAt.shaped e then some (.bool (PyData.eqv d e)) else none
def neD (d e : PyData) : Option PyData := match eqD d e with
  | some (.bool b) => some (.bool (!b))
  | _ => none
def ltD : PyData → PyData → Option PyData
  | .int i, .int j => some (.bool (decide (i < j)))
  | .str i, .str j => some (.bool (decide (i.cps.toList < j.cps.toList)))
  | _, _ => none
def leD : PyData → PyData → Option PyData
  | .int i, .int j => some (.bool (decide (i ≤ j)))
  | _, _ => none
def gtD : PyData → PyData → Option PyData
  | .int i, .int j => some (.bool (decide (j < i)))
  | _, _ => none
def geD : PyData → PyData → Option PyData
  | .int i, .int j => some (.bool (decide (j ≤ i)))
  | _, _ => none
def inD : PyData → PyData → Option PyData
  | d, .list ds => if SeqAt.shaped d && SeqAt.shaped (.list ds) then some (.bool (ds.any fun z => PyData.eqv z d)) else none
  | d, .tuple ds => if SeqAt.shaped d && SeqAt.shaped (.tuple ds) then some (.bool (ds.any fun z => PyData.eqv z d)) else none
  | .str c, .str z => if c.length = 1 then some (.bool (decide (c.cps.toList.headD 0 ∈ z.cps.toList))) else none
  | _, _ => none
def notInD (d e : PyData) : Option PyData := match inD d e with
  | some (.bool b) => some (.bool (!b))
  | _ => none
def isNon : PyData → Bool
  | .none => true
  | _ => false
/-- is None, is True, is False -/
def isD : PyData → PyData → Option PyData
  | d, .none => some (.bool (isNon d))
  | .bool a, .bool b => some (.bool (a == b))
  | _, _ => none
def isNotD (d e : PyData) : Option PyData := match isD d e with
  | some (.bool b) => some (.bool (!b))
  | _ => none

/-- a two-place operation, by data -/
def rD (K : PySem.W.Frag) (g : PyData → PyData → Option PyData) : R2 := fun x y H Q => ∃ d e r, Dp K H x d ∧ Dp K H y e ∧ g d e = some r ∧ fut H fun H' => ∀ v, Dp K H' v r → Q v H'
section
variable {X : Cx}
theorem opR_flat {f : Value → Value → Sem Value} {g : PyData → PyData → Option PyData} (h : ∀ (pins : List (Addr × Obj)) (s : Shared) (σ : L2.St) (H : Hp) (x y : V) (v u : Value) (Q : VK) (d e r : PyData), Inv X pins σ H s → RelV x v → RelV y u →
    Dp X.K H x d → Dp X.K H y e → g d e = some r → (fut H fun H' => ∀ v, Dp X.K H' v r → Q v H') → wpAny (model X.prog X.w) X.A (f v u) (EP X pins σ Q) X.xe s) : OpR X f (rD X.K g) := by
  intro pins s σ H x y v u Q I rx ry ⟨d, e, r, hd, he, hg, q⟩
  exact h pins s σ H x y v u Q d e r I rx ry hd he hg q
theorem fut.now {H : Hp} {p : Hp → Prop} (h : fut H p) : p H := h H (Same.refl H)

theorem od_add : OpR X (binaryOp .Add) (rD X.K addD) := opR_flat fun pins s σ H x y v u Q d e r I rx ry hd he hg q => by
  cases d <;> cases e <;> simp only [addD, reduceCtorEq] at hg
  case int.int i j =>
    cases hg; cases hd; cases he
    exact op_add pins s σ H _ _ v u Q I rx ry ⟨i, j, rfl, rfl, q.now _ (.int _)⟩
  case str.str a b =>
    split at hg <;> cases hg
    cases hd; cases he
    exact op_add_str pins s σ H _ _ v u Q I rx ry ⟨a, b, rfl, rfl, Nat.le_trans (by assumption) big_line, q.now _ (.str _)⟩
  case tuple.tuple a b =>
    split at hg <;> cases hg
    rename_i hz
    cases hd with
    | tup h1 h2 =>
      cases he with
      | tup h3 h4 =>
        refine op_catA pins s σ H _ _ v u Q I rx ry ⟨_, _, _, _, rfl, rfl, h1, h3, by rw [dps_len h2, dps_len h4]; exact Nat.le_trans hz big_line, fun e => ?_, fun _ e => ?_, fun _ _ p hp => ?_⟩
        · subst e
          cases h2
          exact q.now _ (.tup h3 h4)
        · subst e
          cases h4
          rw [List.append_nil] at q
          exact q.now _ (.tup h1 h2)
        · exact q _ (same_new hp _) _ (.tup (SqT.of upd_same) (dps_mono (same_new hp _) _ _ (dps_append h2 h4)))
  case list.list a b =>
    split at hg <;> cases hg
    rename_i hz
    cases hd with
    | lst h1 h2 =>
      cases he with
      | lst h3 h4 =>
        cases rx
        cases ry
        obtain ⟨its, r1, ⟨⟨cls, dd, data, sl⟩, n, e1, hc, hdn, hdt⟩, z1⟩ := I.list h1
        obtain ⟨its2, r2, ⟨⟨cls2, dd2, data2, sl2⟩, n2, e2, hc2, hdn2, hdt2⟩, z2⟩ := I.list h3
        simp only at hc hdt hc2 hdt2 hdn hdn2
        subst hc hdt hc2 hdt2 hdn hdn2
        have hl1 := r1.length
        have hl2 := r2.length
        have hb := big_line
        have hd1 := dps_len h2
        have hd2 := dps_len h4
        have ea : its.toArray ++ its2.toArray = (its ++ its2).toArray := by simp
        refine concat_meets ⟨_, e1, rfl⟩ ⟨_, e2, rfl⟩ noFill_list_add seq_list_add PySem.F.slot_list_add PySem.F.entry_list_add (PySem.F.args_list_add_2 _ _)
          (list_addW _ _ its.toArray its2.toArray n n2 none none sl sl2 (by rw [List.size_toArray, List.size_toArray]; omega)) ⟨e1, e2, ?_⟩
        rw [ea]
        refine ⟨.ref _, _, I.lnew (t' := s.toks) (r1.append r2) (by rw [List.length_append]; omega), rfl, ?_⟩
        exact q _ (same_new I.fresh _) _ (.lst (SqL.of upd_same) (dps_mono (same_new I.fresh _) _ _ (dps_append h2 h4)))
theorem od_sub : OpR X (binaryOp .Sub) (rD X.K subD) := opR_flat fun pins s σ H x y v u Q d e r I rx ry hd he hg q => by
  cases d <;> cases e <;> simp only [subD, reduceCtorEq] at hg
  case int.int i j =>
    cases hg; cases hd; cases he
    exact op_sub pins s σ H _ _ v u Q I rx ry ⟨i, j, rfl, rfl, q.now _ (.int _)⟩
theorem od_mul : OpR X (binaryOp .Mult) (rD X.K mulD) := opR_flat fun pins s σ H x y v u Q d e r I rx ry hd he hg q => by
  cases d <;> cases e <;> simp only [mulD, reduceCtorEq] at hg
  case int.int i j =>
    split at hg <;> cases hg
    rename_i hz
    cases hd; cases he
    refine op_mul pins s σ H _ _ v u Q I rx ry ⟨i, j, rfl, rfl, ?_, q.now _ (.int _)⟩
    simp only [small64, Bool.or_eq_true, decide_eq_true_eq] at hz
    rcases hz with hz | hz
    · exact .inl (by omega)
    · exact .inr (by omega)
theorem od_div : OpR X (binaryOp .FloorDiv) (rD X.K divD) := opR_flat fun pins s σ H x y v u Q d e r I rx ry hd he hg q => by
  cases d <;> cases e <;> simp only [divD, reduceCtorEq] at hg
  case int.int i j =>
    split at hg <;> cases hg
    rename_i hz
    cases hd; cases he
    exact op_fdiv pins s σ H _ _ v u Q I rx ry ⟨i, j, rfl, rfl, hz, q.now _ (.int _)⟩
theorem od_mod : OpR X (binaryOp .Mod) (rD X.K modD) := opR_flat fun pins s σ H x y v u Q d e r I rx ry hd he hg q => by
  cases d <;> cases e <;> simp only [modD, reduceCtorEq] at hg
  case int.int i j =>
    split at hg <;> cases hg
    rename_i hz
    cases hd; cases he
    exact op_mod pins s σ H _ _ v u Q I rx ry ⟨i, j, rfl, rfl, hz, q.now _ (.int _)⟩
theorem od_pow : OpR X (binaryOp .Pow) (rD X.K powD) := opR_flat fun pins s σ H x y v u Q d e r I rx ry hd he hg q => by
  cases d <;> cases e <;> simp only [powD, reduceCtorEq] at hg
  case int.int i j =>
    split at hg <;> cases hg
    rename_i hz
    cases hd; cases he
    exact op_pow pins s σ H _ _ v u Q I rx ry ⟨i, j, rfl, rfl, hz, q.now _ (.int _)⟩
theorem od_eq (hu : X.A.units + 64 < cLine) : OpR X (compareOp .Eq) (rD X.K eqD) := opR_flat fun pins s σ H x y v u Q d e r I rx ry hd he hg q => by
  have gen : (if SeqAt.shaped d && SeqAt.shaped e then some (PyData.bool (PyData.eqv d e)) else none) = some r → wpAny (model X.prog X.w) X.A (compareOp .Eq v u) (EP X pins σ Q) X.xe s := fun hg => by
    split at hg <;> cases hg
    rename_i hz
    rw [Bool.and_eq_true] at hz
    exact op_eqD hu pins s σ H _ _ v u Q I rx ry ⟨d, e, dp_sh hz.1 hd, dp_sh hz.2 he, hz.1, hz.2, q.now _ (.bl _)⟩
  cases d <;> cases e <;> first | exact gen hg | skip
  case str.str i j =>
    simp only [eqD] at hg
    cases hg; cases hd; cases he
    exact op_eq pins s σ H _ _ v u Q I rx ry ⟨rfl, by rw [dec_str]; exact q.now _ (.bl _)⟩
theorem od_ne (hu : X.A.units + 64 < cLine) : OpR X (compareOp .NotEq) (rD X.K neD) := opR_flat fun pins s σ H x y v u Q d e r I rx ry hd he hg q => by
  have gen : neD d e = (match (if SeqAt.shaped d && SeqAt.shaped e then some (PyData.bool (PyData.eqv d e)) else none) with | some (.bool b) => some (.bool (!b)) | _ => none) → wpAny (model X.prog X.w) X.A (compareOp .NotEq v u) (EP X pins σ Q) X.xe s := fun hh => by
    rw [hh] at hg
    split at hg
    · rename_i b hb
      cases hg
      split at hb <;> cases hb
      rename_i hz
      rw [Bool.and_eq_true] at hz
      exact op_neD hu pins s σ H _ _ v u Q I rx ry ⟨d, e, dp_sh hz.1 hd, dp_sh hz.2 he, hz.1, hz.2, q.now _ (.bl _)⟩
    · cases hg
  cases d <;> cases e <;> first | exact gen rfl | skip
  case str.str i j =>
    simp only [neD, eqD] at hg
    cases hg; cases hd; cases he
    exact op_ne pins s σ H _ _ v u Q I rx ry ⟨rfl, by rw [dec_str]; exact q.now _ (.bl _)⟩
theorem od_lt : OpR X (compareOp .Lt) (rD X.K ltD) := opR_flat fun pins s σ H x y v u Q d e r I rx ry hd he hg q => by
  cases d <;> cases e <;> simp only [ltD, reduceCtorEq] at hg
  case int.int i j =>
    cases hg; cases hd; cases he
    exact op_lt pins s σ H _ _ v u Q I rx ry ⟨i, j, rfl, rfl, q.now _ (.bl _)⟩
  case str.str i j =>
    cases hg; cases hd; cases he
    exact op_lt_str pins s σ H _ _ v u Q I rx ry ⟨i, j, rfl, rfl, q.now _ (.bl _)⟩
theorem od_le : OpR X (compareOp .LtE) (rD X.K leD) := opR_flat fun pins s σ H x y v u Q d e r I rx ry hd he hg q => by
  cases d <;> cases e <;> simp only [leD, reduceCtorEq] at hg
  case int.int i j =>
    cases hg; cases hd; cases he
    exact op_le pins s σ H _ _ v u Q I rx ry ⟨i, j, rfl, rfl, q.now _ (.bl _)⟩
theorem od_gt : OpR X (compareOp .Gt) (rD X.K gtD) := opR_flat fun pins s σ H x y v u Q d e r I rx ry hd he hg q => by
  cases d <;> cases e <;> simp only [gtD, reduceCtorEq] at hg
  case int.int i j =>
    cases hg; cases hd; cases he
    exact op_gt pins s σ H _ _ v u Q I rx ry ⟨i, j, rfl, rfl, q.now _ (.bl _)⟩
theorem od_ge : OpR X (compareOp .GtE) (rD X.K geD) := opR_flat fun pins s σ H x y v u Q d e r I rx ry hd he hg q => by
  cases d <;> cases e <;> simp only [geD, reduceCtorEq] at hg
  case int.int i j =>
    cases hg; cases hd; cases he
    exact op_ge pins s σ H _ _ v u Q I rx ry ⟨i, j, rfl, rfl, q.now _ (.bl _)⟩
theorem in_core (hu : X.A.units + 65 < cLine) (neg : Bool) {pins : List (Addr × Obj)} {s : Shared} {σ : L2.St} {H : Hp} {x y : V} {v u : Value} {Q : VK} {d e : PyData} {b : Bool} (I : Inv X pins σ H s) (rx : RelV x v) (ry : RelV y u)
    (hd : Dp X.K H x d) (he : Dp X.K H y e) (hg : inD d e = some (.bool b)) (q : Q (.bl (if neg then !b else b)) H) : wpAny (model X.prog X.w) X.A (compareOp (if neg then .NotIn else .In) v u) (EP X pins σ Q) X.xe s := by
  unfold inD at hg
  split at hg
  · split at hg <;> cases hg
    rename_i hz
    rw [Bool.and_eq_true] at hz
    cases neg
    · exact op_inD hu pins s σ H _ _ v u Q I rx ry ⟨_, _, dp_sh hz.1 hd, dp_sh hz.2 he, hz.1, hz.2, q⟩
    · exact op_notInD hu pins s σ H _ _ v u Q I rx ry ⟨_, _, dp_sh hz.1 hd, dp_sh hz.2 he, hz.1, hz.2, q⟩
  · split at hg <;> cases hg
    rename_i hz
    rw [Bool.and_eq_true] at hz
    obtain ⟨as, r1⟩ := L2.Dp.reads I _ x v (dp_sh hz.1 hd) rx
    obtain ⟨bs, r2⟩ := L2.Dp.reads I _ y u (dp_sh hz.2 he) ry
    cases neg
    · exact SeqAt.in_tuple_reads r2 r1 (SeqAt.canLay_of_shaped hz.2) (SeqAt.canLay_of_shaped hz.1) (room_in_shaped hz.1 hu) ⟨.bl _, H, I, rfl, q⟩
    · exact SeqAt.notIn_tuple_reads r2 r1 (SeqAt.canLay_of_shaped hz.2) (SeqAt.canLay_of_shaped hz.1) (room_in_shaped hz.1 hu) ⟨.bl _, H, I, rfl, q⟩
  · split at hg <;> cases hg
    rename_i c z hz
    cases hd; cases he
    obtain ⟨⟨l⟩⟩ := c
    match l, hz with
    | [k], _ =>
      cases neg
      · exact op_in_sign pins s σ H _ _ v u Q I rx ry ⟨k, z, rfl, rfl, q⟩
      · exact op_notIn_sign pins s σ H _ _ v u Q I rx ry ⟨k, z, rfl, rfl, q⟩
  · cases hg
theorem inD_bool {d e r : PyData} (h : inD d e = some r) : ∃ b, r = .bool b := by
  unfold inD at h
  split at h
  · split at h <;> cases h; exact ⟨_, rfl⟩
  · split at h <;> cases h; exact ⟨_, rfl⟩
  · split at h <;> cases h; exact ⟨_, rfl⟩
  · cases h
theorem od_in (hu : X.A.units + 65 < cLine) : OpR X (compareOp .In) (rD X.K inD) := opR_flat fun pins s σ H x y v u Q d e r I rx ry hd he hg q => by
  obtain ⟨b, rfl⟩ := inD_bool hg
  exact in_core hu false I rx ry hd he hg (q.now _ (.bl _))
theorem od_notIn (hu : X.A.units + 65 < cLine) : OpR X (compareOp .NotIn) (rD X.K notInD) := opR_flat fun pins s σ H x y v u Q d e r I rx ry hd he hg q => by
  unfold notInD at hg
  split at hg
  · rename_i b hb
    cases hg
    exact in_core hu true I rx ry hd he hb (q.now _ (.bl _))
  · cases hg
theorem dp_non_iff {K : PySem.W.Frag} {H : Hp} {v : V} {d : PyData} (h : Dp K H v d) : decide (v = .non) = isNon d := by
  cases h <;> rfl
theorem od_is : OpR X (compareOp .Is) (rD X.K isD) := opR_flat fun pins s σ H x y v u Q d e r I rx ry hd he hg q => by
  unfold isD at hg
  split at hg
  · cases hg; cases he
    exact op_isN pins s σ H _ _ v u Q I rx ry ⟨rfl, by rw [dp_non_iff hd]; exact q.now _ (.bl _)⟩
  · cases hg; cases hd; cases he
    exact op_is_bl pins s σ H _ _ v u Q I rx ry ⟨_, _, rfl, rfl, by rw [← Bool.beq_eq_decide_eq]; exact q.now _ (.bl _)⟩
  · cases hg
theorem od_isNot : OpR X (compareOp .IsNot) (rD X.K isNotD) := opR_flat fun pins s σ H x y v u Q d e r I rx ry hd he hg q => by
  unfold isNotD isD at hg
  split at hg
  · rename_i b hb
    cases hg
    split at hb
    · cases hb; cases he
      exact op_notN pins s σ H _ _ v u Q I rx ry ⟨rfl, by rw [dp_non_iff hd]; exact q.now _ (.bl _)⟩
    · cases hb; cases hd; cases he
      exact op_isnot_bl pins s σ H _ _ v u Q I rx ry ⟨_, _, rfl, rfl, by rw [← Bool.beq_eq_decide_eq]; exact q.now _ (.bl _)⟩
    · cases hb
  · cases hg
end
end DL

set_option Elab.async false
set_option linter.all false
set_option maxRecDepth 100000
set_option maxHeartbeats 2000000
namespace DL
open PySem L2 PyProof.Rows

/-! ### the functions that expressions are read as -/
def eVar (i : Nat) : SE := fun ρ => match ρ[i]? with
  | some (some d) => .ok d
  | _ => .bad
def eC (d : PyData) : SE := fun _ => .ok d
def eOp (g : PyData → PyData → Option PyData) (f h : SE) : SE := fun ρ => (f ρ).bind fun x => (h ρ).bind fun y => Res.of (g x y)
/-- of one value -/
def eUn (g : PyData → Option PyData) (f : SE) : SE := fun ρ => (f ρ).bind fun x => Res.of (g x)
/-- of an argument list -/
def eArgs (g : List PyData → Option PyData) (f : SA) : SE := fun ρ => (f ρ).bind fun xs => Res.of (g xs)
def eCall (g : List PyData → Res PyData) (f : SA) : SE := fun ρ => (f ρ).bind g
def truth : PyData → Option Bool
  | .bool b => some b
  | _ => none
def asT (f : SE) : ST := fun ρ => (f ρ).bind fun x => Res.of (truth x)
/-- the truth of any value -/
def truthy : PyData → Option Bool
  | .none => some false
  | .bool b => some b
  | .int i => some (i != 0)
  | .str s => if s.length ≤ big then some ((s.length : Int) != 0) else none
  | .list xs => some (!xs.isEmpty)
  | .tuple xs => some (!xs.isEmpty)
  | .dict _ => none
def asTru (f : SE) : ST := fun ρ => (f ρ).bind fun x => Res.of (truthy x)
def tAnd (t u : ST) : ST := fun ρ => (t ρ).bind fun b => if b then u ρ else .ok false
def tOr (t u : ST) : ST := fun ρ => (t ρ).bind fun b => if b then .ok true else u ρ
def tNot (t : ST) : ST := fun ρ => (t ρ).bind fun b => .ok (!b)
def eAnd (f g : SE) : SE := fun ρ => (f ρ).bind fun x => (Res.of (truth x)).bind fun b => if b then g ρ else .ok (.bool false)
def eOr (f g : SE) : SE := fun ρ => (f ρ).bind fun x => (Res.of (truth x)).bind fun b => if b then .ok (.bool true) else g ρ
def eNot (f : SE) : SE := fun ρ => (f ρ).bind fun x => (Res.of (truth x)).bind fun b => .ok (.bool (!b))
def eChain (g h : PyData → PyData → Option PyData) (a b c : SE) : SE := fun ρ => (a ρ).bind fun x => (b ρ).bind fun y => (Res.of (g x y)).bind fun z => (Res.of (truth z)).bind fun k =>
  if k then (c ρ).bind fun w => Res.of (h y w) else .ok (.bool false)
def aNil : SA := fun _ => .ok []
def aCons (f : SE) (g : SA) : SA := fun ρ => (f ρ).bind fun x => (g ρ).bind fun xs => .ok (x :: xs)
def eTup (f : SA) : SE := fun ρ => (f ρ).bind fun xs => if xs.length ≤ big then .ok (.tuple xs) else .bad
def eLst (f : SA) : SE := fun ρ => (f ρ).bind fun xs => if xs.length ≤ big then .ok (.list xs) else .bad
def oNone : PEnv → Res (Option Int) := fun _ => .ok none
def oSome (f : SE) : PEnv → Res (Option Int) := fun ρ => (f ρ).bind fun x => match x with
  | .int i => .ok (some i)
  | _ => .bad
def cutP {α : Type} (xs : List α) (lo hi : Option Int) : List α := (xs.drop (HT.sIx xs.length 0 lo)).take (HT.sIx xs.length xs.length hi - HT.sIx xs.length 0 lo)
def cutD (lo hi : Option Int) : PyData → Option PyData
  | .list xs => some (.list (cutP xs lo hi))
  | .tuple xs => some (.tuple (cutP xs lo hi))
  | .str z => if z.length ≤ big then some (.str (cutS z lo hi)) else none
  | _ => none
def eCut (f : SE) (l u : PEnv → Res (Option Int)) : SE := fun ρ => (f ρ).bind fun x => (l ρ).bind fun lo => (u ρ).bind fun hi => Res.of (cutD lo hi x)
def ixD : PyData → PyData → Option PyData
  | .list xs, .int i => atI xs i
  | .tuple xs, .int i => atI xs i
  | .str z, .int i => if z.length ≤ big then (atI z.cps.toList i).map fun c => .str ⟨#[c]⟩ else none
  | _, _ => none
def lenD : List PyData → Option PyData
  | [.list xs] => some (.int xs.length)
  | [.tuple xs] => some (.int xs.length)
  | [.str z] => if z.length ≤ big then some (.int z.length) else none
  | _ => none
def listD : List PyData → Option PyData
  | [.list xs] => some (.list xs)
  | [.tuple xs] => some (.list xs)
  | _ => none
def tupleD : List PyData → Option PyData
  | [.list xs] => some (.tuple xs)
  | [.tuple xs] => some (.tuple xs)
  | _ => none
def intD : List PyData → Option PyData
  | [.int i] => some (.int i)
  | [.bool b] => some (.int (if b then 1 else 0))
  | _ => none
def max2D : List PyData → Option PyData
  | [.int i, .int j] => some (.int (if j > i then j else i))
  | _ => none
def min2D : List PyData → Option PyData
  | [.int i, .int j] => some (.int (if j < i then j else i))
  | _ => none
def bools : List PyData → Option (List Bool)
  | [] => some []
  | .bool b :: r => (bools r).map (b :: ·)
  | _ :: _ => none
def strsOf : List PyData → Option (List Str)
  | [] => some []
  | .str b :: r => (strsOf r).map (b :: ·)
  | _ :: _ => none
def allD : List PyData → Option PyData
  | [.list xs] => (bools xs).map fun bs => .bool (bs.all id)
  | _ => none
def tyN : PyData → String
  | .none => "NoneType"
  | .bool _ => "bool"
  | .int _ => "int"
  | .str _ => "str"
  | .list _ => "list"
  | .tuple _ => "tuple"
  | .dict _ => "dict"
/-- isinstance(x, T) -/
def isiD (T : String) : PyData → Option PyData
  | .none => some (.bool false)
  | .bool _ => some (.bool (T == "bool" || T == "int"))
  | .int _ => some (.bool (T == "int"))
  | .str _ => some (.bool (T == "str"))
  | .list _ => some (.bool (T == "list"))
  | .tuple _ => some (.bool (T == "tuple"))
  | .dict _ => none

section
variable {X : Cx} {W : Wis} {a b c : Expr} {pos : Pos}
theorem ed_var {i : Nat} {x : Str} (hN : X.N[i]? = some x := by rfl) (hv : Vis X.env.scope x := by first | exact Or.inl rfl | exact Or.inr (Or.inl rfl) | exact Or.inr (Or.inr rfl)) (hd : (x == ("__debug__" : Str)) = false := by decide)
    (hcd : (x == ("__classdict__" : Str)) = false := by decide) : PE X (.Name x pos) (tD X.K W (eVar i)) := pe_weak (pe_var (i := i) hN hv hd hcd) fun σ H Q h => by
  obtain ⟨ρ, hE, q⟩ := h
  unfold eVar at q
  split at q
  · rename_i d e
    obtain ⟨v, h1, h2⟩ := hE.2 i d e
    exact ⟨v, h1, q _ (Same.refl H) v h2⟩
  · exact q.elim
theorem ed_int {i j} : PE X (.Constant (.int i) j pos) (tD X.K W (eC (.int i))) := pe_weak pe_int fun σ H Q ⟨ρ, hE, q⟩ => q _ (Same.refl H) _ (.int i)
theorem ed_bl {i j} : PE X (.Constant (.bool i) j pos) (tD X.K W (eC (.bool i))) := pe_weak pe_bl fun σ H Q ⟨ρ, hE, q⟩ => q _ (Same.refl H) _ (.bl i)
theorem ed_non {j} : PE X (.Constant .none j pos) (tD X.K W (eC .none)) := pe_weak pe_non fun σ H Q ⟨ρ, hE, q⟩ => q _ (Same.refl H) _ .non
theorem ed_str {i j} : PE X (.Constant (.str i) j pos) (tD X.K W (eC (.str i))) := pe_weak pe_str fun σ H Q ⟨ρ, hE, q⟩ => q _ (Same.refl H) _ (.str i)
/-- a constant of the module -/
structure GlD (K : PySem.W.Frag) (mg : Str → Option Value) (x : Str) (d : PyData) : Prop where
  at_ : ∃ v u, mg x = some u ∧ RelV v u ∧ ∀ H, Dp K H v d
theorem ed_glob {x : Str} {d : PyData} (g : GlD X.K X.mg x d) (hg : Gl X x := by rfl) (hd : (x == ("__debug__" : Str)) = false := by decide) : PE X (.Name x pos) (tD X.K W (eC d)) := by
  obtain ⟨v, u, hm, r, hD⟩ := g.at_
  exact pe_weak (pe_glob hg hm r hd) fun σ H Q ⟨ρ, hE, q⟩ => q _ (Same.refl H) _ (hD H)
/-- a two-place operation -/
theorem op_then {K : PySem.W.Frag} {g : PyData → PyData → Option PyData} {fa fb : SE} {σ : L2.St} {H : Hp} {Q : VK} (h : tD K W (eOp g fa fb) σ H Q) : tOp (rD K g) (tD K W fa) (tD K W fb) σ H Q := by
  obtain ⟨ρ, hE, q⟩ := h
  refine tD_mono (tD_then hE q) fun x H1 ⟨d, hx, s1, hE1, q1⟩ => ?_
  refine tD_mono (tD_then hE1 q1) fun y H2 ⟨e, hy, s2, hE2, q2⟩ => ?_
  obtain ⟨r, hr, q3⟩ := Res.post_of q2
  exact ⟨d, e, r, dp_mono s2 _ _ hx, hy, hr, q3⟩
theorem ed_op {op : Operator} {g : PyData → PyData → Option PyData} {fa fb : SE} (ho : OpR X (binaryOp op) (rD X.K g)) (ha : PE X a (tD X.K W fa)) (hb : PE X b (tD X.K W fb)) : PE X (.BinOp a op b pos) (tD X.K W (eOp g fa fb)) :=
  pe_weak (pe_op ho ha hb) fun σ H Q h => op_then h
theorem ed_cmp {op : CmpOp} {g : PyData → PyData → Option PyData} {fa fb : SE} (ho : OpR X (compareOp op) (rD X.K g)) (ha : PE X a (tD X.K W fa)) (hb : PE X b (tD X.K W fb)) (hm : behindInMarks op b = false := by first | exact nomark _ | rfl) :
    PE X (.Compare a [op] [b] pos) (tD X.K W (eOp g fa fb)) := pe_weak (pe_cmpR ho ha hb hm) fun σ H Q h => op_then h
/-- a value that is a truth -/
theorem asT_then {K : PySem.W.Frag} {f : SE} {σ : L2.St} {H : Hp} {Q : Bool → Hp → Prop} (h : ttD K W (asT f) σ H Q) : tD K W f σ H fun x H' => ∃ k, x = .bl k ∧ Q k H' := by
  obtain ⟨ρ, hE, q⟩ := h
  refine tD_mono (tD_then hE q) fun x H1 ⟨d, hx, s1, hE1, q1⟩ => ?_
  obtain ⟨k, hk, q2⟩ := Res.post_of q1
  cases d <;> simp only [truth, reduceCtorEq] at hk
  cases hk
  cases hx
  exact ⟨_, rfl, q2.now⟩
theorem td_cmp {op : CmpOp} {g : PyData → PyData → Option PyData} {fa fb : SE} (ho : OpR X (compareOp op) (rD X.K g)) (ha : PE X a (tD X.K W fa)) (hb : PE X b (tD X.K W fb)) (hm : behindInMarks op b = false := by first | exact nomark _ | rfl) :
    PT X (.Compare a [op] [b] pos) (ttD X.K W (asT (eOp g fa fb))) := by
  refine pt_weak (pt_cmpR ho ha hb hm) fun σ H Q h => ?_
  have h1 := asT_then h
  exact op_then h1
/-- a truth that an expression gives, not a comparison -/
theorem td_val {f : SE} (ha : PE X a (tD X.K W f)) (he : ∀ whole, isTrue a X.env whole = (do let v ← whole; standAt a.pos; holding [v] (PySem.truthy v)) := by intro _; rfl) : PT X a (ttD X.K W (asT f)) :=
  pt_weak (pt_val ha he) fun σ H Q h => asT_then h
theorem td_tru {f : SE} (ha : PE X a (tD X.K W f)) (he : ∀ whole, isTrue a X.env whole = (do let v ← whole; standAt a.pos; holding [v] (PySem.truthy v)) := by intro _; rfl) : PT X a (ttD X.K W (asTru f)) := by
  refine pt_weak (pt_truth ha he) fun σ H Q h => ?_
  obtain ⟨ρ, hE, q⟩ := h
  refine tD_mono (tD_then hE q) fun x H1 ⟨d, hx, s1, hE1, q1⟩ => ?_
  obtain ⟨k, hk, q2⟩ := Res.post_of q1
  refine ⟨k, ?_, q2.now⟩
  cases hx with
  | non => simp only [DL.truthy, Option.some.injEq] at hk; exact hk.symm
  | bl _ => simp only [DL.truthy, Option.some.injEq] at hk; exact hk.symm
  | int _ => simp only [DL.truthy, Option.some.injEq] at hk; exact hk.symm
  | str _ =>
    simp only [DL.truthy] at hk
    split at hk <;> cases hk
    rename_i hz
    exact ⟨Nat.le_trans hz big_line, rfl⟩
  | lst h1 h2 =>
    simp only [DL.truthy, Option.some.injEq] at hk
    subst hk
    refine .inl ⟨_, h1, ?_⟩
    cases h2 <;> rfl
  | tup h1 h2 =>
    simp only [DL.truthy, Option.some.injEq] at hk
    subst hk
    refine .inr (.inl ⟨_, h1, ?_⟩)
    cases h2 <;> rfl
  | dct h1 h2 => simp only [DL.truthy, reduceCtorEq] at hk
theorem td_and1 {t : ST} (ha : PT X a (ttD X.K W t)) : PW X (.BoolOp .And [a] pos) (ttD X.K W t) := pw_and1 ha
theorem td_or1 {t : ST} (ha : PT X a (ttD X.K W t)) : PW X (.BoolOp .Or [a] pos) (ttD X.K W t) := pw_or1 ha
theorem td_and {rest : List Expr} {t u : ST} (ha : PT X a (ttD X.K W t)) (hb : PW X (.BoolOp .And (b :: rest) pos) (ttD X.K W u)) : PW X (.BoolOp .And (a :: b :: rest) pos) (ttD X.K W (tAnd t u)) := by
  refine pw_weak (pw_and ha hb) fun σ H Q h => ?_
  obtain ⟨ρ, hE, q⟩ := h
  refine ttD_mono (ttD_then hE q) fun k H1 ⟨s1, hE1, q1⟩ => ?_
  cases k with
  | true => exact ⟨ρ, hE1, q1⟩
  | false => exact q1.now
theorem td_or {rest : List Expr} {t u : ST} (ha : PT X a (ttD X.K W t)) (hb : PW X (.BoolOp .Or (b :: rest) pos) (ttD X.K W u)) : PW X (.BoolOp .Or (a :: b :: rest) pos) (ttD X.K W (tOr t u)) := by
  refine pw_weak (pw_or ha hb) fun σ H Q h => ?_
  obtain ⟨ρ, hE, q⟩ := h
  refine ttD_mono (ttD_then hE q) fun k H1 ⟨s1, hE1, q1⟩ => ?_
  cases k with
  | true => exact q1.now
  | false => exact ⟨ρ, hE1, q1⟩
theorem td_not {t : ST} (ha : PT X a (ttD X.K W t)) : PT X (.UnaryOp .Not a pos) (ttD X.K W (DL.tNot t)) := by
  refine pt_weak (pt_not ha) fun σ H Q h => ?_
  obtain ⟨ρ, hE, q⟩ := h
  exact ttD_mono (ttD_then hE q) fun k H1 ⟨s1, hE1, q1⟩ => q1.now
theorem ed_one {op} {t : SE} (h : PE X a (tD X.K W t)) : PE X (.BoolOp op [a] pos) (tD X.K W t) := pe_one h
theorem ed_and {rest : List Expr} {f g : SE} (ha : PE X a (tD X.K W f)) (hb : PE X (.BoolOp .And (b :: rest) pos) (tD X.K W g)) : PE X (.BoolOp .And (a :: b :: rest) pos) (tD X.K W (eAnd f g)) := by
  refine pe_weak (pe_and ha hb) fun σ H Q h => ?_
  obtain ⟨ρ, hE, q⟩ := h
  refine tD_mono (tD_then hE q) fun x H1 ⟨d, hx, s1, hE1, q1⟩ => ?_
  obtain ⟨k, hk, q2⟩ := Res.post_of (Res.post_bind.mp q1)
  cases d <;> simp only [truth, reduceCtorEq] at hk
  cases hk
  cases hx
  refine ⟨_, rfl, ?_⟩
  cases k with
  | true => exact ⟨ρ, hE1, q2⟩
  | false => exact q2.now _ (.bl _)
theorem ed_or {rest : List Expr} {f g : SE} (ha : PE X a (tD X.K W f)) (hb : PE X (.BoolOp .Or (b :: rest) pos) (tD X.K W g)) : PE X (.BoolOp .Or (a :: b :: rest) pos) (tD X.K W (eOr f g)) := by
  refine pe_weak (pe_or ha hb) fun σ H Q h => ?_
  obtain ⟨ρ, hE, q⟩ := h
  refine tD_mono (tD_then hE q) fun x H1 ⟨d, hx, s1, hE1, q1⟩ => ?_
  obtain ⟨k, hk, q2⟩ := Res.post_of (Res.post_bind.mp q1)
  cases d <;> simp only [truth, reduceCtorEq] at hk
  cases hk
  cases hx
  refine ⟨_, rfl, ?_⟩
  cases k with
  | true => exact q2.now _ (.bl _)
  | false => exact ⟨ρ, hE1, q2⟩
theorem ed_not {f : SE} (ha : PE X a (tD X.K W f)) : PE X (.UnaryOp .Not a pos) (tD X.K W (eNot f)) := by
  refine pe_weak (pe_not ha) fun σ H Q h => ?_
  obtain ⟨ρ, hE, q⟩ := h
  refine tD_mono (tD_then hE q) fun x H1 ⟨d, hx, s1, hE1, q1⟩ => ?_
  obtain ⟨k, hk, q2⟩ := Res.post_of (Res.post_bind.mp q1)
  cases d <;> simp only [truth, reduceCtorEq] at hk
  cases hk
  cases hx
  exact ⟨_, rfl, q2.now _ (.bl _)⟩
/-! a op b op c -/
theorem chain_then {K : PySem.W.Frag} {g h : PyData → PyData → Option PyData} {fa fb fc : SE} {σ : L2.St} {H : Hp} {Q : VK} (q : tD K W (eChain g h fa fb fc) σ H Q) : tChain (rD K g) (rD K h) (tD K W fa) (tD K W fb) (tD K W fc) σ H Q := by
  obtain ⟨ρ, hE, q⟩ := q
  refine tD_mono (tD_then hE q) fun x H1 ⟨d, hx, s1, hE1, q1⟩ => ?_
  refine tD_mono (tD_then hE1 q1) fun y H2 ⟨e, hy, s2, hE2, q2⟩ => ?_
  obtain ⟨z, hz, q3⟩ := Res.post_of (Res.post_bind.mp q2)
  obtain ⟨k, hk, q4⟩ := Res.post_of (Res.post_bind.mp q3)
  cases z <;> simp only [truth, reduceCtorEq] at hk
  cases hk
  refine ⟨d, e, _, dp_mono s2 _ _ hx, hy, hz, fun H3 s3 v hv => ?_⟩
  cases hv
  refine ⟨k, rfl, ?_⟩
  cases k with
  | true =>
    have q5 := q4.mono (fun b r => r.on s3) (fun n r => r.on s3)
    refine iteT (tD_mono (tD_then (hE2.mono s3) q5) fun w H4 ⟨d4, hw, s4, hE4, q6⟩ => ?_)
    obtain ⟨r, hr, q7⟩ := Res.post_of q6
    exact ⟨e, d4, r, dp_mono (s3.trans s4) _ _ hy, hw, hr, q7⟩
  | false => exact iteF (q4 _ s3 _ (.bl _))
theorem ed_chain {op op' : CmpOp} {g h : PyData → PyData → Option PyData} {fa fb fc : SE} (ho : OpR X (compareOp op) (rD X.K g)) (ho' : OpR X (compareOp op') (rD X.K h)) (ha : PE X a (tD X.K W fa)) (hb : PE X b (tD X.K W fb)) (hc : PE X c (tD X.K W fc))
    (hm : lastMarks [op, op'] [b, c] = false := by with_unfolding_all rfl) : PE X (.Compare a [op, op'] [b, c] pos) (tD X.K W (eChain g h fa fb fc)) := pe_weak (pe_chain ho ho' ha hb hc hm) fun σ H Q q => chain_then q
theorem td_chain {op op' : CmpOp} {g h : PyData → PyData → Option PyData} {fa fb fc : SE} (ho : OpR X (compareOp op) (rD X.K g)) (ho' : OpR X (compareOp op') (rD X.K h)) (ha : PE X a (tD X.K W fa)) (hb : PE X b (tD X.K W fb)) (hc : PE X c (tD X.K W fc))
    (hm : lastMarks [op, op'] [b, c] = false := by with_unfolding_all rfl) : PT X (.Compare a [op, op'] [b, c] pos) (ttD X.K W (asT (eChain g h fa fb fc))) := pt_weak (pt_chain ho ho' ha hb hc hm) fun σ H Q q => chain_then (asT_then q)

/-! ### arguments, displays -/
theorem ad_nil : PA X [] (taD X.K W aNil) := pa_weak pa_nil fun σ H Q ⟨ρ, hE, q⟩ => q.now _ .nil
theorem ad_cons {es : List Expr} {f : SE} {g : SA} (ha : PE X a (tD X.K W f)) (hr : PA X es (taD X.K W g)) (hs : starEach (a :: es) X.env = (false, eval a X.env) :: starEach es X.env := by rfl) : PA X (a :: es) (taD X.K W (aCons f g)) := by
  refine pa_weak (pa_cons ha hr hs) fun σ H Q h => ?_
  obtain ⟨ρ, hE, q⟩ := h
  refine tD_mono (tD_then hE q) fun x H1 ⟨d, hx, s1, hE1, q1⟩ => ?_
  refine taD_mono (taD_then hE1 q1) fun xs H2 ⟨ds, hxs, s2, hE2, q2⟩ => ?_
  exact q2.now _ (.cons (dp_mono s2 _ _ hx) hxs)
theorem ed_tup {es : List Expr} {f : SA} {x1} (h : PA X es (taD X.K W f)) : PE X (.Tuple es x1 pos) (tD X.K W (eTup f)) := by
  refine pe_weak (pe_tup h) fun σ H Q h => ?_
  obtain ⟨ρ, hE, q⟩ := h
  refine taD_mono (taD_then hE q) fun xs H1 ⟨ds, hxs, s1, hE1, q1⟩ => ?_
  split at q1
  · rename_i hz
    exact ⟨by rw [dps_len hxs]; exact Nat.le_trans hz big_line, fun p hp => q1 _ (same_new hp _) _ (.tup (SqT.of upd_same) (dps_mono (same_new hp _) _ _ hxs))⟩
  · exact q1.elim
theorem ed_lst {es : List Expr} {f : SA} (h : PA X es (taD X.K W f)) : PE X (.List es pos) (tD X.K W (eLst f)) := by
  refine pe_weak (pe_lst h) fun σ H Q h => ?_
  obtain ⟨ρ, hE, q⟩ := h
  refine taD_mono (taD_then hE q) fun xs H1 ⟨ds, hxs, s1, hE1, q1⟩ => ?_
  split at q1
  · rename_i hz
    exact ⟨by rw [dps_len hxs]; exact Nat.le_trans hz big_line, fun p hp => q1 _ (same_new hp _) _ (.lst (SqL.of upd_same) (dps_mono (same_new hp _) _ _ hxs))⟩
  · exact q1.elim
theorem ed_ifExp {t : ST} {f g : SE} (hc : PT X c (ttD X.K W t)) (ha : PE X a (tD X.K W f)) (hb : PE X b (tD X.K W g)) : PE X (.IfExp c a b pos) (tD X.K W (fun ρ => (t ρ).bind fun k => if k then f ρ else g ρ)) := by
  refine pe_weak (pe_ifExp hc ha hb) fun σ H Q h => ?_
  obtain ⟨ρ, hE, q⟩ := h
  refine ttD_mono (ttD_then hE q) fun k H1 ⟨s1, hE1, q1⟩ => ?_
  cases k with
  | true => exact iteT ⟨ρ, hE1, q1⟩
  | false => exact iteF ⟨ρ, hE1, q1⟩

/-! ### subscripts, slices -/
theorem atI_dps {K : PySem.W.Frag} {H : Hp} {vs : List V} {ds : List PyData} {i : Int} {d : PyData} (h : DpAll K H vs ds) (e : atI ds i = some d) : ∃ v, atI vs i = some v ∧ Dp K H v d := by
  unfold atI at e ⊢
  rw [dps_len h]
  cases q : ixN ds.length i with
  | none => rw [q] at e; cases e
  | some j =>
    rw [q] at e
    exact dps_get h e
theorem ed_ix {fa fb : SE} (ha : PE X a (tD X.K W fa)) (hb : PE X b (tD X.K W fb)) (hs : PlainIx b := by exact fun _ _ => rfl) : PE X (.Subscript a b pos) (tD X.K W (eOp ixD fa fb)) := by
  refine pe_weak (pe_ix ix_seq ha hb hs) fun σ H Q h => ?_
  obtain ⟨ρ, hE, q⟩ := h
  refine tD_mono (tD_then hE q) fun x H1 ⟨d, hx, s1, hE1, q1⟩ => ?_
  refine tD_mono (tD_then hE1 q1) fun y H2 ⟨e, hy, s2, hE2, q2⟩ => ?_
  obtain ⟨r, hr, q3⟩ := Res.post_of q2
  have hx := dp_mono s2 _ _ hx
  rcases d with _ | dB | dI | z | dL | dT | dD <;> rcases e with _ | eB | i | eS | eL | eT | eD <;> simp only [ixD, reduceCtorEq] at hr
  case str.int =>
    split at hr
    · rename_i hz
      cases q : atI z.cps.toList i with
      | none => rw [q] at hr; cases hr
      | some k =>
        rw [q] at hr
        cases hr
        cases hx; cases hy
        exact .inr (.inr ⟨z, i, k, rfl, rfl, Nat.le_trans hz big_line, q, q3.now _ (.str _)⟩)
    · cases hr
  case list.int =>
    cases hy
    cases hx with
    | lst h1 h2 =>
      obtain ⟨v, hv, hd⟩ := atI_dps h2 hr
      exact .inl ⟨_, _, i, v, rfl, rfl, h1, hv, q3.now _ hd⟩
  case tuple.int =>
    cases hy
    cases hx with
    | tup h1 h2 =>
      obtain ⟨v, hv, hd⟩ := atI_dps h2 hr
      exact .inr (.inl ⟨_, _, i, v, rfl, rfl, h1, hv, q3.now _ hd⟩)
def toD (K : PySem.W.Frag) (W : Wis) (f : PEnv → Res (Option Int)) : TO := fun σ H Q => ∃ ρ, EnvR K H σ ρ ∧ (f ρ).post (fun o => fut H fun H' => Q o H') fun n => fut H (W n)
theorem toD_then {β : Type} {p : β → Hp → Prop} {K : PySem.W.Frag} {σ : L2.St} {H : Hp} {ρ : PEnv} {f : PEnv → Res (Option Int)} {g : Option Int → Res β} (hE : EnvR K H σ ρ) (h : ((f ρ).bind g).post (fun b => fut H (p b)) fun n => fut H (W n)) :
    toD K W f σ H fun c H1 => Same H H1 ∧ EnvR K H1 σ ρ ∧ (g c).post (fun b => fut H1 (p b)) fun n => fut H1 (W n) :=
  ⟨ρ, hE, (Res.post_bind.mp h).mono (fun d q H1 s => ⟨s, hE.mono s, q.mono (fun b r => r.on s) fun n r => r.on s⟩) fun n r => r⟩
theorem toD_mono {K : PySem.W.Frag} {σ : L2.St} {H : Hp} {f : PEnv → Res (Option Int)} {Q Q' : Option Int → Hp → Prop} (h : toD K W f σ H Q) (w : ∀ v H', Q v H' → Q' v H') : toD K W f σ H Q' := by
  obtain ⟨ρ, hE, q⟩ := h
  exact ⟨ρ, hE, q.mono (fun d r H' s => w _ _ (r H' s)) fun n r => r⟩
theorem po_weak {e : Option Expr} {t t' : TO} (h : PO X e t) (w : ∀ σ H Q, t' σ H Q → t σ H Q) : PO X e t' := ⟨fun pins s σ H Q I q => h.run pins s σ H Q I (w σ H Q q)⟩
theorem od_none : PO X none (toD X.K W oNone) := po_weak po_none fun σ H Q ⟨ρ, hE, q⟩ => q.now
theorem od_some {f : SE} (h : PE X a (tD X.K W f)) : PO X (some a) (toD X.K W (oSome f)) := by
  refine po_weak (po_some h) fun σ H Q h => ?_
  obtain ⟨ρ, hE, q⟩ := h
  refine tD_mono (tD_then hE q) fun x H1 ⟨d, hx, s1, hE1, q1⟩ => ?_
  cases hx <;> first | exact q1.elim | skip
  exact ⟨_, rfl, q1.now⟩
theorem sIx_bd (n d : Nat) (h : HT.sIx n 0 none = 0) : True := trivial
theorem dps_cut {K : PySem.W.Frag} {H : Hp} {vs : List V} {ds : List PyData} (lo hi : Option Int) (h : DpAll K H vs ds) : DpAll K H (cutV vs lo hi) (cutP ds lo hi) := by
  unfold cutV cutP
  rw [dps_len h]
  exact dps_take _ (dps_drop _ h)
theorem ed_cut {f : SE} {l u : PEnv → Res (Option Int)} {lo hi : Option Expr} {p2 : Pos} (ha : PE X a (tD X.K W f)) (hl : PO X lo (toD X.K W l)) (hu : PO X hi (toD X.K W u)) : PE X (.Subscript a (.Slice lo hi none p2) pos) (tD X.K W (eCut f l u)) := by
  refine pe_weak (pe_slice ((sl_list.or (sl_tupA.or sl_str))) ha hl hu) fun σ H Q h => ?_
  obtain ⟨ρ, hE, q⟩ := h
  refine tD_mono (tD_then hE q) fun x H1 ⟨d, hx, s1, hE1, q1⟩ => ?_
  refine toD_mono (toD_then hE1 q1) fun lo' H2 ⟨s2, hE2, q2⟩ => ?_
  refine toD_mono (toD_then hE2 q2) fun hi' H3 ⟨s3, hE3, q3⟩ => ?_
  obtain ⟨r, hr, q4⟩ := Res.post_of q3
  have hx := dp_mono (s2.trans s3) _ _ hx
  rcases d with _ | dB | dI | zS | zL | z | dD <;> simp only [cutD, reduceCtorEq] at hr
  case list =>
    cases hr
    cases hx with
    | lst h1 h2 => exact .inl ⟨_, _, rfl, h1, fun p hp => q4 _ (same_new hp _) _ (.lst (SqL.of upd_same) (dps_mono (same_new hp _) _ _ (dps_cut _ _ h2)))⟩
  case tuple =>
    cases hr
    cases hx with
    | @tup aa vs _ h1 h2 =>
      refine .inr (.inl ⟨_, _, rfl, h1, fun e => ?_, fun _ p hp => q4 _ (same_new hp _) _ (.tup (SqT.of upd_same) (dps_mono (same_new hp _) _ _ (dps_cut _ _ h2)))⟩)
      have e2 : cutP z lo' hi' = z := by
        unfold cutP
        rw [← dps_len h2, e.1, e.2, List.drop_zero, Nat.sub_zero, dps_len h2, List.take_length]
      rw [e2] at q4
      exact q4.now _ (.tup h1 h2)
  case str =>
    split at hr <;> cases hr
    rename_i hz
    cases hx
    exact .inr (.inr ⟨zS, rfl, Nat.le_trans hz big_line, q4.now _ (.str _)⟩)
end
end DL

set_option Elab.async false
set_option linter.all false
set_option maxRecDepth 100000
set_option maxHeartbeats 2000000
namespace DL
open PySem L2 PyProof.Rows

/-! ### calls of built-ins by name -/
def rCD (K : PySem.W.Frag) (g : List PyData → Option PyData) : List V → Hp → VK → Prop := fun vs H Q => ∃ ds r, DpAll K H vs ds ∧ g ds = some r ∧ fut H fun H' => ∀ v, Dp K H' v r → Q v H'
section
variable {X : Cx} {W : Wis} {a b c : Expr} {pos : Pos}
theorem callR_weak {f : Value} {r r' : List V → Hp → VK → Prop} (h : CallR X f r) (w : ∀ vs H Q, r' vs H Q → r vs H Q) : CallR X f r' := fun pins s σ H xs us Q I rv q => h pins s σ H xs us Q I rv (w _ _ _ q)
theorem cb_then {g : List PyData → Option PyData} {f : SA} {K : PySem.W.Frag} {σ : L2.St} {H : Hp} {Q : VK} (h : tD K W (eArgs g f) σ H Q) : tCB (rCD K g) (taD K W f) σ H Q := by
  obtain ⟨ρ, hE, q⟩ := h
  refine taD_mono (taD_then hE q) fun xs H1 ⟨ds, hx, s1, hE1, q1⟩ => ?_
  obtain ⟨r, hr, q2⟩ := Res.post_of q1
  exact ⟨ds, r, hx, hr, q2⟩
theorem ed_callB {x : Str} {id : String} {p : Pos} {es : List Expr} {g : List PyData → Option PyData} {f : SA} (hc : CallR X (.builtin id) (rCD X.K g)) (hm : X.mg x = none) (ha : PA X (a :: es) (taD X.K W f)) (hv : bootBuiltins x = some (.builtin id) := by decide +kernel) (hg : Gl X x := by rfl)
    (hn : x ≠ "__name__" := by decide) (hdb : (x == ("__debug__" : Str)) = false := by decide) (he : starEach (a :: es) X.env = (false, eval a X.env) :: starEach es X.env := by rfl) (hpl : (backTo pos (starEach es X.env)).any (·.1) = false := by rfl) :
    PE X (.Call (.Name x p) (a :: es) [] pos) (tD X.K W (eArgs g f)) := pe_weak (pe_callB hc hg hm hv ha hn hdb he hpl) fun σ H Q h => cb_then h
theorem ed_callT {x : Str} {T : String} {p : Pos} {es : List Expr} {g : List PyData → Option PyData} {f : SA} (hc : CallR X (.type T) (rCD X.K g)) (hm : X.mg x = none) (ha : PA X (a :: es) (taD X.K W f)) (hv : bootBuiltins x = some (.type T) := by decide +kernel) (hg : Gl X x := by rfl)
    (hn : x ≠ "__name__" := by decide) (hdb : (x == ("__debug__" : Str)) = false := by decide) (he : starEach (a :: es) X.env = (false, eval a X.env) :: starEach es X.env := by rfl) (hpl : (backTo pos (starEach es X.env)).any (·.1) = false := by rfl) :
    PE X (.Call (.Name x p) (a :: es) [] pos) (tD X.K W (eArgs g f)) := pe_weak (pe_callTy hc hg hm hv ha hn hdb he hpl) fun σ H Q h => cb_then h
/-! what each asks -/
theorem cd_len : CallR X (.builtin "len") (rCD X.K lenD) := callR_weak call_len fun vs H Q ⟨ds, r, hd, hg, q⟩ => by
  match ds, vs, hd, hg with
  | [.list xs], _, .cons (.lst h1 h2) .nil, hg =>
    simp only [lenD, Option.some.injEq] at hg
    subst hg
    exact ⟨_, _, rfl, .inl ⟨_, h1, rfl⟩, by rw [dps_len h2]; exact q.now _ (.int _)⟩
  | [.tuple xs], _, .cons (.tup h1 h2) .nil, hg =>
    simp only [lenD, Option.some.injEq] at hg
    subst hg
    exact ⟨_, _, rfl, .inr ⟨_, h1, rfl⟩, by rw [dps_len h2]; exact q.now _ (.int _)⟩
  | [.str z], _, .cons (.str _) .nil, hg =>
    simp only [lenD] at hg
    split at hg <;> cases hg
    rename_i hz
    exact ⟨_, _, rfl, ⟨Nat.le_trans hz big_line, rfl⟩, q.now _ (.int _)⟩
theorem cd_list : CallR X (.type "list") (rCD X.K listD) := callR_weak call_list_of fun vs H Q ⟨ds, r, hd, hg, q⟩ => by
  match ds, vs, hd, hg with
  | [.list xs], _, .cons (.lst h1 h2) .nil, hg =>
    simp only [listD, Option.some.injEq] at hg
    subst hg
    exact ⟨_, _, rfl, .inl h1, fun p hp => q _ (same_new hp _) _ (.lst (SqL.of upd_same) (dps_mono (same_new hp _) _ _ h2))⟩
  | [.tuple xs], _, .cons (.tup h1 h2) .nil, hg =>
    simp only [listD, Option.some.injEq] at hg
    subst hg
    exact ⟨_, _, rfl, .inr h1, fun p hp => q _ (same_new hp _) _ (.lst (SqL.of upd_same) (dps_mono (same_new hp _) _ _ h2))⟩
theorem cd_tuple : CallR X (.type "tuple") (rCD X.K tupleD) := callR_weak call_tuple_of fun vs H Q ⟨ds, r, hd, hg, q⟩ => by
  match ds, vs, hd, hg with
  | [.list xs], _, .cons (.lst h1 h2) .nil, hg =>
    simp only [tupleD, Option.some.injEq] at hg
    subst hg
    exact ⟨_, _, rfl, .inl ⟨h1, fun p hp => q _ (same_new hp _) _ (.tup (SqT.of upd_same) (dps_mono (same_new hp _) _ _ h2))⟩⟩
  | [.tuple xs], _, .cons (.tup h1 h2) .nil, hg =>
    simp only [tupleD, Option.some.injEq] at hg
    subst hg
    exact ⟨_, _, rfl, .inr ⟨h1, q.now _ (.tup h1 h2)⟩⟩
theorem cd_int : CallR X (.type "int") (rCD X.K intD) := callR_weak call_int1 fun vs H Q ⟨ds, r, hd, hg, q⟩ => by
  match ds, vs, hd, hg with
  | [.int i], _, .cons (.int _) .nil, hg =>
    simp only [intD, Option.some.injEq] at hg
    subst hg
    exact .inl ⟨_, rfl, q.now _ (.int _)⟩
  | [.bool k], _, .cons (.bl _) .nil, hg =>
    simp only [intD, Option.some.injEq] at hg
    subst hg
    exact .inr ⟨_, rfl, q.now _ (.int _)⟩
theorem cd_max2 (hc : X.calm = true) : CallR X (.builtin "max") (rCD X.K max2D) := callR_weak (call_max2 hc) fun vs H Q ⟨ds, r, hd, hg, q⟩ => by
  match ds, vs, hd, hg with
  | [.int i, .int j], _, .cons (.int _) (.cons (.int _) .nil), hg =>
    simp only [max2D, Option.some.injEq] at hg
    subst hg
    exact ⟨_, _, rfl, q.now _ (.int _)⟩
theorem cd_min2 (hc : X.calm = true) : CallR X (.builtin "min") (rCD X.K min2D) := callR_weak (call_min2 hc) fun vs H Q ⟨ds, r, hd, hg, q⟩ => by
  match ds, vs, hd, hg with
  | [.int i, .int j], _, .cons (.int _) (.cons (.int _) .nil), hg =>
    simp only [min2D, Option.some.injEq] at hg
    subst hg
    exact ⟨_, _, rfl, q.now _ (.int _)⟩
theorem bools_map : ∀ {xs : List PyData} {bs : List Bool}, bools xs = some bs → xs = bs.map PyData.bool
  | [], bs, h => by cases h; rfl
  | .bool b :: r, bs, h => by
    simp only [bools, Option.map_eq_some_iff] at h
    obtain ⟨cs, h1, rfl⟩ := h
    rw [bools_map h1]
    rfl
  | .none :: r, bs, h => by simp [bools] at h
  | .int _ :: r, bs, h => by simp [bools] at h
  | .str _ :: r, bs, h => by simp [bools] at h
  | .list _ :: r, bs, h => by simp [bools] at h
  | .tuple _ :: r, bs, h => by simp [bools] at h
  | .dict _ :: r, bs, h => by simp [bools] at h
theorem strsOf_map : ∀ {xs : List PyData} {bs : List Str}, strsOf xs = some bs → xs = bs.map PyData.str
  | [], bs, h => by cases h; rfl
  | .str b :: r, bs, h => by
    simp only [strsOf, Option.map_eq_some_iff] at h
    obtain ⟨cs, h1, rfl⟩ := h
    rw [strsOf_map h1]
    rfl
  | .none :: r, bs, h => by simp [strsOf] at h
  | .int _ :: r, bs, h => by simp [strsOf] at h
  | .bool _ :: r, bs, h => by simp [strsOf] at h
  | .list _ :: r, bs, h => by simp [strsOf] at h
  | .tuple _ :: r, bs, h => by simp [strsOf] at h
  | .dict _ :: r, bs, h => by simp [strsOf] at h
theorem cd_all (hc : X.calm = true) : CallR X (.builtin "all") (rCD X.K allD) := callR_weak (cr_all hc) fun vs H Q ⟨ds, r, hd, hg, q⟩ => by
  match ds, vs, hd, hg with
  | [.list xs], _, .cons (.lst h1 h2) .nil, hg =>
    simp only [allD, Option.map_eq_some_iff] at hg
    obtain ⟨bs, hb, rfl⟩ := hg
    rw [bools_map hb] at h2
    rw [dps_bls_of h2] at h1
    exact ⟨_, bs, rfl, h1, q.now _ (.bl _)⟩
/-! isinstance -/
theorem kit_all (t T : String) (ht : t ∈ ["NoneType", "bool", "int", "str", "list", "tuple"]) (hT : T ∈ ["bool", "int", "str", "list", "tuple"]) : kitB t T = some (t == T || (t == "bool" && T == "int")) := by
  simp only [List.mem_cons, List.not_mem_nil, or_false] at ht hT
  rcases ht with rfl | rfl | rfl | rfl | rfl | rfl <;> rcases hT with rfl | rfl | rfl | rfl | rfl <;> decide +kernel
theorem ty_of {K : PySem.W.Frag} {H : Hp} {v : V} {d : PyData} (h : Dp K H v d) : TyX K H v (.type (tyN d)) := by
  cases h with
  | non => exact .base .non
  | bl b => exact .base (.bl b)
  | int i => exact .base (.int i)
  | str x => exact .base (.str x)
  | lst h1 h2 =>
    rcases h1 with (h1 | ⟨o, h1⟩) | ⟨o, its, n, h1, h3, _⟩
    · exact .base (.lst h1)
    · exact .base (.frz h1)
    · exact .kList h1 h3
  | tup h1 h2 =>
    rcases h1 with (h1 | ⟨o, h1⟩) | ⟨o, its, n, h1, h3, _⟩
    · exact .base (.tup h1)
    · exact .fTuple h1
    · exact .kTuple h1 h3
  | dct h1 h2 => exact .base (.dK h1)
theorem ed_isi {T : String} {tn : Str} {p p2 : Pos} {f : SE} (hm : X.mg "isinstance" = none) (hmT : X.mg tn = none) (hT : T ∈ ["bool", "int", "str", "list", "tuple"]) (ha : PE X a (tD X.K W f)) (hvT : bootBuiltins tn = some (.type T) := by decide +kernel) (hgT : Gl X tn := by rfl) (hg : Gl X "isinstance" := by rfl)
    (hnT : tn ≠ "__name__" := by decide) (hdT : (tn == ("__debug__" : Str)) = false := by decide) (hs : starEach (a :: [.Name tn p2]) X.env = (false, eval a X.env) :: starEach [.Name tn p2] X.env := by rfl)
    (hs2 : starEach ((.Name tn p2) :: []) X.env = (false, eval (.Name tn p2) X.env) :: starEach [] X.env := by rfl) (hpl : (backTo pos (starEach [.Name tn p2] X.env)).any (·.1) = false := by rfl) :
    PE X (.Call (.Name "isinstance" p) [a, .Name tn p2] [] pos) (tD X.K W (eUn (isiD T) f)) := by
  refine pe_weak (pe_callB call_isi hg hm (by decide +kernel) (pa_cons ha (pa_cons (pe_bltn (v := .ty T) hgT hmT hvT rfl hnT hdT) pa_nil hs2) hs) (by decide) (by decide) hs hpl) fun σ H Q h => ?_
  obtain ⟨ρ, hE, q⟩ := h
  refine tD_mono (tD_then hE q) fun x H1 ⟨d, hx, s1, hE1, q1⟩ => ?_
  obtain ⟨r, hr, q2⟩ := Res.post_of q1
  have hk : ∃ b, r = .bool b ∧ kitB (tyN d) T = some b := by
    cases d <;> simp only [isiD, Option.some.injEq, reduceCtorEq] at hr
    all_goals
      subst hr
      refine ⟨_, rfl, ?_⟩
      rw [kit_all _ T (by simp [tyN]) hT]
      simp only [List.mem_cons, List.not_mem_nil, or_false] at hT
      simp only [tyN]
      rcases hT with rfl | rfl | rfl | rfl | rfl <;> decide
  obtain ⟨b, rfl, hb⟩ := hk
  exact ⟨_, _, _, _, b, rfl, .ty T, ty_of hx, kit_ty hb, q2.now _ (.bl _)⟩

/-! ### methods of texts -/
theorem mtR_weak {id : String} {r r' : V → List V → Hp → VK → Prop} (h : MtR X id r) (w : ∀ x vs H Q, r' x vs H Q → r x vs H Q) : MtR X id r' := fun pins s σ H x xs v us Q I rx rs q => h pins s σ H x xs v us Q I rx rs (w _ _ _ _ q)
def rMD (K : PySem.W.Frag) (g : Str → PyData → Option PyData) : V → List V → Hp → VK → Prop := fun x vs H Q => ∃ z y e r, x = .str z ∧ vs = [y] ∧ Dp K H y e ∧ g z e = some r ∧ fut H fun H' => ∀ v, Dp K H' v r → Q v H'
/-- a text's method of one argument, of none -/
def eM1 (g : Str → PyData → Option PyData) (f h : SE) : SE := fun ρ => (f ρ).bind fun x => match x with
  | .str z => (h ρ).bind fun y => Res.of (g z y)
  | _ => .bad
def eM0 (g : Str → Option PyData) (f : SE) : SE := fun ρ => (f ρ).bind fun x => match x with
  | .str z => Res.of (g z)
  | _ => .bad
theorem ed_m1 {id : String} {name : Str} {apos : Pos} {g : Str → PyData → Option PyData} {f h : SE} (slot : Slot "str" name id) (ty : typeOf (.builtin id) = pure (.type "method_descriptor")) (rule : MtR X id (rMD X.K g))
    (ho : PE X a (tD X.K W f)) (he : PE X b (tD X.K W h)) (hs : starEach [b] X.env = [(false, eval b X.env)] := by rfl) (hbase : attributeBase a name X.env (eval a X.env) = eval a X.env := by rfl) (hline : (apos.endLine == pos.line) = true := by rfl) :
    PE X (.Call (.Attribute a name apos) [b] [] pos) (tD X.K W (eM1 g f h)) := by
  refine pe_weak (pe_m1 slot ty rule ho he hs hbase hline) fun σ H Q q => ?_
  obtain ⟨ρ, hE, q⟩ := q
  refine tD_mono (tD_then hE q) fun x H1 ⟨d, hx, s1, hE1, q1⟩ => ?_
  obtain ⟨z, rfl, rfl⟩ : ∃ z, d = .str z ∧ x = .str z := by
    cases hx with
    | str z => exact ⟨z, rfl, rfl⟩
    | _ => exact q1.elim
  refine ⟨⟨z, rfl⟩, tD_mono (tD_then hE1 q1) fun y H2 ⟨e, hy, s2, hE2, q2⟩ => ?_⟩
  obtain ⟨r, hr, q3⟩ := Res.post_of q2
  exact ⟨z, y, e, r, rfl, rfl, hy, hr, q3⟩
theorem ed_m0 {id : String} {name : Str} {apos : Pos} {g : Str → Option PyData} {f : SE} (slot : Slot "str" name id) (ty : typeOf (.builtin id) = pure (.type "method_descriptor"))
    (rule : MtR X id (fun x vs H Q => ∃ z r, x = .str z ∧ vs = [] ∧ g z = some r ∧ fut H fun H' => ∀ v, Dp X.K H' v r → Q v H'))
    (ho : PE X a (tD X.K W f)) (hbase : attributeBase a name X.env (eval a X.env) = eval a X.env := by rfl) (hline : (apos.endLine == pos.line) = true := by rfl) :
    PE X (.Call (.Attribute a name apos) [] [] pos) (tD X.K W (eM0 g f)) := by
  refine pe_weak (pe_m0 slot ty rule ho hbase hline) fun σ H Q q => ?_
  obtain ⟨ρ, hE, q⟩ := q
  refine tD_mono (tD_then hE q) fun x H1 ⟨d, hx, s1, hE1, q1⟩ => ?_
  obtain ⟨z, rfl, rfl⟩ : ∃ z, d = .str z ∧ x = .str z := by
    cases hx with
    | str z => exact ⟨z, rfl, rfl⟩
    | _ => exact q1.elim
  obtain ⟨r, hr, q3⟩ := Res.post_of q1
  exact ⟨⟨z, rfl⟩, z, r, rfl, rfl, hr, q3⟩
def joinD (z : Str) : PyData → Option PyData
  | .list ds => (strsOf ds).bind fun ys => if (ys.map (·.length)).sum + ys.length * z.length ≤ big then some (.str (Str.join z ys)) else none
  | _ => none
def indexD (z : Str) : PyData → Option PyData
  | .str b => (Builtin.Str.occurrences z b 0 z.length 1).head?.map fun i => .int (i : Nat)
  | _ => none
def findD (z : Str) : PyData → Option PyData
  | .str b => some (.int (Txt.find z b))
  | _ => none
def upperD (z : Str) : Option PyData := if z.length ≤ big then some (.str (Txt.upper z)) else none
theorem md_join : MtR X "str.join" (rMD X.K joinD) := mtR_weak mt_join fun x vs H Q ⟨z, y, e, r, hx, hv, hy, hg, q⟩ => by
  subst hx hv
  obtain ⟨a, xs, ds, rfl, rfl, h1, h2⟩ : ∃ a xs ds, e = .list ds ∧ y = .ref a ∧ SqL X.K H a xs ∧ DpAll X.K H xs ds := by
    cases hy with
    | lst h1 h2 => exact ⟨_, _, _, rfl, rfl, h1, h2⟩
    | _ => simp [joinD] at hg
  simp only [joinD] at hg
  simp only [Option.bind_eq_some_iff] at hg
  obtain ⟨ys, hs, hg⟩ := hg
  split at hg <;> cases hg
  rename_i hz
  rw [strsOf_map hs] at h2
  rw [dps_strs_of h2] at h1
  refine ⟨z, _, ys, rfl, rfl, .inl h1, Nat.le_trans hz (by decide), ?_⟩
  rw [TL.join_eq]
  exact q.now _ (.str _)
theorem md_index : MtR X "str.index" (rMD X.K indexD) := mtR_weak mt_sindex fun x vs H Q ⟨z, y, e, r, hx, hv, hy, hg, q⟩ => by
  subst hx hv
  obtain ⟨b, rfl, rfl⟩ : ∃ b, e = .str b ∧ y = .str b := by
    cases hy with
    | str z => exact ⟨z, rfl, rfl⟩
    | _ => simp [indexD] at hg
  simp only [indexD] at hg
  cases ho : Builtin.Str.occurrences z b 0 z.length 1 with
  | nil => rw [ho] at hg; cases hg
  | cons i rest =>
    rw [ho] at hg
    cases hg
    exact ⟨z, b, i, rest, rfl, rfl, ho, q.now _ (.int _)⟩
theorem md_find : MtR X "str.find" (rMD X.K findD) := mtR_weak mt_find fun x vs H Q ⟨z, y, e, r, hx, hv, hy, hg, q⟩ => by
  subst hx hv
  cases hy <;> simp only [findD, reduceCtorEq] at hg
  cases hg
  exact ⟨z, _, rfl, rfl, q.now _ (.int _)⟩
theorem md_upper : MtR X "str.upper" (fun x vs H Q => ∃ z r, x = .str z ∧ vs = [] ∧ upperD z = some r ∧ fut H fun H' => ∀ v, Dp X.K H' v r → Q v H') := mtR_weak mt_upper fun x vs H Q ⟨z, r, hx, hv, hg, q⟩ => by
  subst hx hv
  unfold upperD at hg
  split at hg <;> cases hg
  rename_i hz
  exact ⟨z, rfl, rfl, Nat.le_trans hz (by decide), q.now _ (.str _)⟩
theorem ed_join {apos : Pos} {f h : SE} (ho : PE X a (tD X.K W f)) (he : PE X b (tD X.K W h)) (hs : starEach [b] X.env = [(false, eval b X.env)] := by rfl) (hbase : attributeBase a "join" X.env (eval a X.env) = eval a X.env := by rfl) (hline : (apos.endLine == pos.line) = true := by rfl) :
    PE X (.Call (.Attribute a "join" apos) [b] [] pos) (tD X.K W (eM1 joinD f h)) := ed_m1 F.slot_str_join F.type_str_join md_join ho he hs hbase hline
theorem ed_sindex {apos : Pos} {f h : SE} (ho : PE X a (tD X.K W f)) (he : PE X b (tD X.K W h)) (hs : starEach [b] X.env = [(false, eval b X.env)] := by rfl) (hbase : attributeBase a "index" X.env (eval a X.env) = eval a X.env := by rfl) (hline : (apos.endLine == pos.line) = true := by rfl) :
    PE X (.Call (.Attribute a "index" apos) [b] [] pos) (tD X.K W (eM1 indexD f h)) := ed_m1 F.slot_str_index F.type_str_index md_index ho he hs hbase hline
theorem ed_find {apos : Pos} {f h : SE} (ho : PE X a (tD X.K W f)) (he : PE X b (tD X.K W h)) (hs : starEach [b] X.env = [(false, eval b X.env)] := by rfl) (hbase : attributeBase a "find" X.env (eval a X.env) = eval a X.env := by rfl) (hline : (apos.endLine == pos.line) = true := by rfl) :
    PE X (.Call (.Attribute a "find" apos) [b] [] pos) (tD X.K W (eM1 findD f h)) := ed_m1 F.slot_str_find F.type_str_find md_find ho he hs hbase hline
theorem ed_upper {apos : Pos} {f : SE} (ho : PE X a (tD X.K W f)) (hbase : attributeBase a "upper" X.env (eval a X.env) = eval a X.env := by rfl) (hline : (apos.endLine == pos.line) = true := by rfl) :
    PE X (.Call (.Attribute a "upper" apos) [] [] pos) (tD X.K W (eM0 upperD f)) := ed_m0 F.slot_str_upper F.type_str_upper md_upper ho hbase hline

/-! ### calls of the text's defs -/
def spD (K : PySem.W.Frag) (cls : Nat → Value) (n : Nat) (g : List PyData → Res PyData) : Sp := fun vs H Q E => vs.length = n ∧ ∃ ds, DpAll K H vs ds ∧ (g ds).post (fun d => fut H fun H' => ∀ v, Dp K H' v d → Q v H') fun m => fut H fun H' => E (cls m) none H'
structure Callee (P : Program) (w : World) (K : PySem.W.Frag) (mg : Str → Option Value) (base : Heap) (CX : CXT) (cls : Nat → Value) (x : Str) (k : Nat) (ps : List Str) (g : List PyData → Res PyData) : Prop where
  ex : ∃ f fd, FnOk P w K mg base CX k f fd ps (spD K cls ps.length g) ∧ mg x = some (.ref f) ∧ PySem.W.keepIn K (.ref f) = true ∧ Binds K fd ps [] ∧ ∃ oc od osl, K.lookup f = some ⟨oc, od, .func fd, osl⟩
def wishE (cls : Nat → Value) (W : Wis) : XK := fun c d H => ∃ m, c = cls m ∧ d = none ∧ W m H
theorem sp_then {K : PySem.W.Frag} {cls : Nat → Value} {n : Nat} {g : List PyData → Res PyData} {f : SA} {σ : L2.St} {H : Hp} {Q : VK} (hn : ∀ ρ ds, f ρ = .ok ds → ds.length = n) (h : tD K W (eCall g f) σ H Q) :
    tCall (spD K cls n g) [] (wishE cls W) (taD K W f) σ H Q := by
  obtain ⟨ρ, hE, q⟩ := h
  unfold eCall at q
  cases hfr : f ρ with
  | bad => rw [hfr] at q; exact q.elim
  | ex m => rw [hfr] at q; exact ⟨ρ, hE, by rw [hfr]; exact q⟩
  | ok ds =>
    rw [hfr] at q
    refine ⟨ρ, hE, ?_⟩
    rw [hfr]
    intro H1 s1 vs hvs
    rw [List.append_nil]
    refine ⟨(dps_len hvs).trans (hn ρ ds hfr), ds, hvs, q.mono (fun d r => r.on s1) fun m r H' s' => ⟨m, rfl, rfl, r _ (s1.trans s')⟩⟩
theorem ed_call {CX : CXT} {cls : Nat → Value} {x : Str} {k : Nat} {ps : List Str} {g : List PyData → Res PyData} {p : Pos} {es : List Expr} {f : SA} (C : Callee X.prog X.w X.K X.mg X.base CX cls x k ps g) (hr : Room k X.A) (hx : Passes CX X (wishE cls W)) (ha : PA X (a :: es) (taD X.K W f))
    (hn : ∀ ρ ds, f ρ = .ok ds → ds.length = ps.length) (hg : Gl X x := by rfl) (hdb : (x == ("__debug__" : Str)) = false := by decide) (he : starEach (a :: es) X.env = (false, eval a X.env) :: starEach es X.env := by rfl) (hpl : (backTo pos (starEach es X.env)).any (·.1) = false := by rfl) :
    PE X (.Call (.Name x p) (a :: es) [] pos) (tD X.K W (eCall g f)) := by
  obtain ⟨fa, fd, F, hm, hk, hb, _⟩ := C.ex
  exact pe_weak (pe_call F hr hg hm hk hb .nil hx ha hdb he hpl) fun σ H Q h => sp_then hn h
theorem passD {cls : Nat → Value} : Passes CX0 X (wishE cls W) := fun _ _ _ _ _ _ _ h => h.elim
theorem an_nil (ρ : PEnv) (ds : List PyData) (h : aNil ρ = .ok ds) : ds.length = 0 := by cases h; rfl
theorem an_cons {n : Nat} {f : SE} {g : SA} (hg : ∀ ρ ds, g ρ = .ok ds → ds.length = n) (ρ : PEnv) (ds : List PyData) (h : aCons f g ρ = .ok ds) : ds.length = n + 1 := by
  unfold aCons at h
  cases h1 : f ρ with
  | ok d =>
    rw [h1] at h
    cases h2 : g ρ with
    | ok es =>
      rw [h2] at h
      cases h
      exact congrArg (· + 1) (hg ρ es h2)
    | ex m => rw [h2] at h; cases h
    | bad => rw [h2] at h; cases h
  | ex m => rw [h1] at h; cases h
  | bad => rw [h1] at h; cases h
end
end DL

set_option Elab.async false
set_option linter.all false
set_option maxRecDepth 100000
set_option maxHeartbeats 2000000
namespace DL
open PySem L2 PyProof.Rows

/-! ### what is walked -/
/-- the iterator J gives the data ds -/
def Walks (K : PySem.W.Frag) (J : It) (H : Hp) (ds : List PyData) : Prop := ∀ (i : Nat) (H' : Hp), Same H H' →
  (∀ d, ds[i]? = some d → J.go i H' ∧ ∀ x H2, J.yld i H' x H2 → H2 = H' ∧ Dp K H' x d) ∧ (ds.length ≤ i → J.stop i H')
theorem Walks.mono {K : PySem.W.Frag} {J : It} {H H' : Hp} {ds : List PyData} (h : Walks K J H ds) (s : Same H H') : Walks K J H' ds := fun i H2 s2 => h i H2 (s.trans s2)
def tiD (K : PySem.W.Frag) (W : Wis) (f : SA) : TI := fun σ H R => ∃ ρ, EnvR K H σ ρ ∧ (f ρ).post (fun ds => fut H fun H' => ∀ J, Walks K J H' ds → R J H') fun n => fut H (W n)
theorem pi_weak {X : Cx} {tg iter : Expr} {t t' : TI} (h : PI X tg iter t) (w : ∀ σ H R, t' σ H R → t σ H R) : PI X tg iter t' := ⟨fun pins s σ H R I q => h.run pins s σ H R I (w σ H R q)⟩
def sList (f : SE) : SA := fun ρ => (f ρ).bind fun x => match x with
  | .list xs => .ok xs
  | _ => .bad
def sTup (f : SE) : SA := fun ρ => (f ρ).bind fun x => match x with
  | .tuple xs => .ok xs
  | _ => .bad
def sStr (f : SE) : SA := fun ρ => (f ρ).bind fun x => match x with
  | .str z => .ok (z.cps.toList.map fun c => .str ⟨#[c]⟩)
  | _ => .bad
def upTo (lo : Int) (n : Nat) : List PyData := (List.range n).map fun i => .int (lo + (i : Nat))
def sRng1 (f : SA) : SA := fun ρ => (f ρ).bind fun xs => match xs with
  | [.int j] => if -big ≤ j ∧ j ≤ big then .ok (upTo 0 j.toNat) else .bad
  | _ => .bad
def sRng2 (f : SA) : SA := fun ρ => (f ρ).bind fun xs => match xs with
  | [.int i, .int j] => if -big ≤ i ∧ i ≤ big ∧ -big ≤ j ∧ j ≤ big then .ok (upTo i (j - i).toNat) else .bad
  | _ => .bad
theorem walks_lst {K : PySem.W.Frag} {H : Hp} {a : Addr} {xs : List V} {ds : List PyData} (h : SqL K H a xs) (hd : DpAll K H xs ds) : Walks K (Itl K a) H ds := fun i H' s => by
  have h' := s.seq h
  refine ⟨fun d e => ?_, fun e => ⟨xs, h', by rw [dps_len hd]; exact e⟩⟩
  obtain ⟨v, hv, hdv⟩ := dps_get (dps_mono s _ _ hd) e
  refine ⟨⟨xs, v, h', hv⟩, fun x H2 ⟨e2, y⟩ => ⟨e2, ?_⟩⟩
  have z := y xs h'
  rw [hv] at z
  cases z
  exact hdv
theorem walks_tup {K : PySem.W.Frag} {H : Hp} {a : Addr} {xs : List V} {ds : List PyData} (h : SqT K H a xs) (hd : DpAll K H xs ds) : Walks K (Itt K a) H ds := fun i H' s => by
  have h' := sqT_same s h
  refine ⟨fun d e => ?_, fun e => ⟨xs, h', by rw [dps_len hd]; exact e⟩⟩
  obtain ⟨v, hv, hdv⟩ := dps_get (dps_mono s _ _ hd) e
  refine ⟨⟨xs, v, h', hv⟩, fun x H2 ⟨e2, y⟩ => ⟨e2, ?_⟩⟩
  have z := y xs h'
  rw [hv] at z
  cases z
  exact hdv
theorem walks_rng {K : PySem.W.Frag} {H : Hp} {lo : Int} {n : Nat} : Walks K (Itr lo n) H (upTo lo n) := fun i H' s => by
  refine ⟨fun d e => ?_, fun e => ?_⟩
  · unfold upTo at e
    rw [List.getElem?_map] at e
    cases q : (List.range n)[i]? with
    | none => rw [q] at e; cases e
    | some j =>
      rw [q] at e
      cases e
      obtain ⟨h1, h2⟩ := List.getElem?_eq_some_iff.mp q
      rw [List.getElem_range] at h2
      subst h2
      rw [List.length_range] at h1
      exact ⟨h1, fun x H2 ⟨e2, y⟩ => ⟨e2, by rw [y]; exact .int _⟩⟩
  · unfold upTo at e
    rw [List.length_map, List.length_range] at e
    exact e
theorem walks_str {K : PySem.W.Frag} {H : Hp} {z : Str} : Walks K (Its z) H (z.cps.toList.map fun c => .str ⟨#[c]⟩) := fun i H' s => by
  refine ⟨fun d e => ?_, fun e => ?_⟩
  · rw [List.getElem?_map, Array.getElem?_toList] at e
    cases q : z.cps[i]? with
    | none => rw [q] at e; cases e
    | some c =>
      rw [q] at e
      cases e
      refine ⟨(Array.getElem?_eq_some_iff.mp q).1, fun x H2 ⟨e2, c2, y, e3⟩ => ⟨e2, ?_⟩⟩
      rw [q] at y
      cases y
      rw [e3]
      exact .str _
  · rw [List.length_map, Array.length_toList] at e
    exact e
section
variable {X : Cx} {W : Wis} {a b tg : Expr} {pos : Pos}
theorem id_list {f : SE} (h : PE X a (tD X.K W f)) : PI X tg a (tiD X.K W (sList f)) := pi_weak (pi_list h) fun σ H R q => by
  obtain ⟨ρ, hE, q⟩ := q
  refine tD_mono (tD_then hE q) fun x H1 ⟨d, hx, s1, hE1, q1⟩ => ?_
  cases hx with
  | lst h1 h2 => exact ⟨_, rfl, ⟨_, h1⟩, q1.now _ (walks_lst h1 h2)⟩
  | _ => exact q1.elim
theorem id_tup {f : SE} (h : PE X a (tD X.K W f)) : PI X tg a (tiD X.K W (sTup f)) := pi_weak (pi_tup h) fun σ H R q => by
  obtain ⟨ρ, hE, q⟩ := q
  refine tD_mono (tD_then hE q) fun x H1 ⟨d, hx, s1, hE1, q1⟩ => ?_
  cases hx with
  | tup h1 h2 => exact ⟨_, rfl, ⟨_, h1⟩, q1.now _ (walks_tup h1 h2)⟩
  | _ => exact q1.elim
theorem id_str {f : SE} (h : PE X a (tD X.K W f)) : PI X tg a (tiD X.K W (sStr f)) := pi_weak (pi_str h) fun σ H R q => by
  obtain ⟨ρ, hE, q⟩ := q
  refine tD_mono (tD_then hE q) fun x H1 ⟨d, hx, s1, hE1, q1⟩ => ?_
  cases hx with
  | str z => exact ⟨_, rfl, q1.now _ walks_str⟩
  | _ => exact q1.elim
theorem id_rng1 {f : SA} {p : Pos} (hm : X.mg "range" = none) (ha : PA X [a] (taD X.K W f)) (hg : Gl X "range" := by rfl) (hs : starEach [a] X.env = [(false, eval a X.env)] := by rfl) : PI X tg (.Call (.Name "range" p) [a] [] pos) (tiD X.K W (sRng1 f)) :=
  pi_weak (pi_range1 hg hm ha hs) fun σ H R q => by
  obtain ⟨ρ, hE, q⟩ := q
  refine taD_mono (taD_then hE q) fun x H1 ⟨d, hx, s1, hE1, q1⟩ => ?_
  split at q1
  · split at q1
    · rename_i j hj
      cases hx with
      | cons h1 h2 =>
        cases h1; cases h2
        simp only [big] at hj
        exact ⟨j, rfl, by omega, by omega, q1.now _ walks_rng⟩
    · exact q1.elim
  · exact q1.elim
theorem id_rng2 {f : SA} {p : Pos} (hm : X.mg "range" = none) (ha : PA X [a, b] (taD X.K W f)) (hg : Gl X "range" := by rfl) (hs : starEach [a, b] X.env = [(false, eval a X.env), (false, eval b X.env)] := by rfl) (hs2 : starEach [b] X.env = [(false, eval b X.env)] := by rfl) :
    PI X tg (.Call (.Name "range" p) [a, b] [] pos) (tiD X.K W (sRng2 f)) := pi_weak (pi_range2 hg hm ha hs hs2) fun σ H R q => by
  obtain ⟨ρ, hE, q⟩ := q
  refine taD_mono (taD_then hE q) fun x H1 ⟨d, hx, s1, hE1, q1⟩ => ?_
  split at q1
  · split at q1
    · rename_i i j hj
      cases hx with
      | cons h1 h2 =>
        cases h1
        cases h2 with
        | cons h1 h2 =>
        cases h1; cases h2
        simp only [big] at hj
        exact ⟨i, j, rfl, by omega, q1.now _ walks_rng⟩
    · exact q1.elim
  · exact q1.elim

/-! ### comprehensions -/
def Res.calm {α : Type} : Res α → Res α
  | .ok a => .ok a
  | _ => .bad
theorem Res.post_calm {α : Type} {r : Res α} {p : α → Prop} {e g : Nat → Prop} (h : (Res.calm r).post p e) : r.post p g := by
  cases r with
  | ok a => exact h
  | ex n => exact h.elim
  | bad => exact h.elim
def lcGo (env : PyData → PEnv) (t : ST) (f : SE) : List PyData → Res (List PyData)
  | [] => .ok []
  | d :: ds => (Res.calm (t (env d))).bind fun b => if b then (Res.calm (f (env d))).bind fun y => if frz y then (lcGo env t f ds).bind fun ys => .ok (y :: ys) else .bad else lcGo env t f ds
def eLc (i : Nat) (src : SA) (t : ST) (f : SE) : SE := fun ρ => (src ρ).bind fun xs => if xs.length ≤ big then (Res.calm (lcGo (fun d => (ρ.set i none).set i (some d)) t f xs)).bind fun ys => .ok (.list ys) else .bad
def tTrue : ST := fun _ => .ok true
theorem wipe_one {σ : L2.St} {i : Nat} {x : Option V} : wipe ((wipe σ [i]).set i x) [i] = wipe σ [i] := by
  simp [wipe]
theorem lcGo_le {env : PyData → PEnv} {t : ST} {f : SE} : ∀ {xs ys : List PyData}, lcGo env t f xs = .ok ys → ys.length ≤ xs.length
  | [], ys, h => by cases h; exact Nat.le_refl _
  | d :: ds, ys, h => by
    unfold lcGo at h
    cases h1 : Res.calm (t (env d)) with
    | ex n => rw [h1] at h; cases h
    | bad => rw [h1] at h; cases h
    | ok b =>
      rw [h1] at h
      cases b with
      | false => exact Nat.le_succ_of_le (lcGo_le h)
      | true =>
        simp only [Res.ok_bind, if_true] at h
        cases h2 : Res.calm (f (env d)) with
        | ex n => rw [h2] at h; cases h
        | bad => rw [h2] at h; cases h
        | ok y =>
          rw [h2] at h
          simp only [Res.ok_bind] at h
          split at h
          · cases h3 : lcGo env t f ds with
            | ex n => rw [h3] at h; cases h
            | bad => rw [h3] at h; cases h
            | ok zs =>
              rw [h3] at h
              cases h
              exact Nat.succ_le_succ (lcGo_le h3)
          · cases h
theorem lc_then {K : PySem.W.Frag} {i : Nat} {src : SA} {t : ST} {f : SE} {σ : L2.St} {H : Hp} {Q : VK} (q : tD K W (eLc i src t f) σ H Q) :
    tLc (tiD K W src) (gName i) (ttD K (fun _ _ => False) t) (tD K (fun _ _ => False) f) [i] σ H Q := by
  obtain ⟨ρ, hE, q⟩ := q
  unfold eLc at q
  refine ⟨ρ, hE, (Res.post_bind.mp q).mono (fun xs r H1 s1 J hJ D hD => ?_) fun n r => r⟩
  split at r
  · rename_i hz
    generalize hg : Res.calm (lcGo (fun d => (ρ.set i none).set i (some d)) t f xs) = g at r
    cases g with
    | bad => exact r.elim
    | ex n => cases hq : lcGo (fun d => (ρ.set i none).set i (some d)) t f xs <;> rw [hq] at hg <;> cases hg
    | ok tot =>
      have hg2 : lcGo (fun d => (ρ.set i none).set i (some d)) t f xs = .ok tot := by
        cases hq : lcGo (fun d => (ρ.set i none).set i (some d)) t f xs <;> rw [hq] at hg <;> cases hg
        rfl
      have htot := lcGo_le hg2
      refine ⟨fun k m H' => m = xs.length - k ∧ k ≤ xs.length ∧ Same H1 H' ∧ ∃ acc ys zs, H' D = some (.lst acc) ∧ DpAll K H' acc ys ∧ frzs ys = true ∧ lcGo (fun d => (ρ.set i none).set i (some d)) t f (xs.drop k) = .ok zs ∧ tot = ys ++ zs,
        ⟨xs.length, by simp, Nat.zero_le _, same_new hD _, [], [], tot, upd_same, .nil, rfl, by rw [List.drop_zero]; exact hg2, rfl⟩, ?_⟩
      rintro k m H' ⟨rfl, hk, s, acc, ys, zs, hacc, hys, hfr, hgo, htz⟩
      obtain ⟨w1, w2⟩ := hJ k H' s
      by_cases hlt : k < xs.length
      · have hx : xs[k]? = some xs[k] := List.getElem?_eq_getElem hlt
        obtain ⟨go, yl⟩ := w1 _ hx
        refine .inr ⟨go, fun H2 => Same H1 H2 ∧ ∃ acc ys zs, H2 D = some (.lst acc) ∧ DpAll K H2 acc ys ∧ frzs ys = true ∧ lcGo (fun d => (ρ.set i none).set i (some d)) t f (xs.drop (k + 1)) = .ok zs ∧ tot = ys ++ zs, fun H2 h2 => ⟨xs.length - (k + 1), by omega, rfl, hlt, h2⟩, fun x H2 y => ?_⟩
        obtain ⟨e2, hdx⟩ := yl x H2 y
        subst e2
        rw [List.drop_eq_getElem_cons hlt] at hgo
        unfold lcGo at hgo
        refine ⟨wipe_one, ?_⟩
        have hE2 : EnvR K H2 ((wipe σ [i]).set i (some x)) ((ρ.set i none).set i (some xs[k])) := by
          refine EnvR.set ?_ hdx
          exact (hE.mono (s1.trans s)).forget
        cases ht : t ((ρ.set i none).set i (some xs[k])) with
        | bad => rw [ht] at hgo; cases hgo
        | ex n => rw [ht] at hgo; cases hgo
        | ok b =>
          rw [ht] at hgo
          refine ⟨_, hE2, ?_⟩
          rw [ht]
          intro H3 s3
          cases b with
          | false =>
            exact iteF ⟨s.trans s3, acc, ys, zs, s3 _ _ hacc, dps_mono s3 _ _ hys, hfr, hgo, htz⟩
          | true =>
            refine iteT ?_
            simp only [Res.calm, Res.ok_bind, if_true] at hgo
            cases hf : f ((ρ.set i none).set i (some xs[k])) with
            | bad => rw [hf] at hgo; cases hgo
            | ex n => rw [hf] at hgo; cases hgo
            | ok y =>
              rw [hf] at hgo
              simp only [Res.calm, Res.ok_bind] at hgo
              split at hgo
              · rename_i hy
                refine ⟨_, hE2.mono s3, ?_⟩
                rw [hf]
                intro H4 s4 v hv
                cases hr : lcGo (fun d => (ρ.set i none).set i (some d)) t f (xs.drop (k + 1)) with
                | bad => rw [hr] at hgo; cases hgo
                | ex n => rw [hr] at hgo; cases hgo
                | ok zs' =>
                  rw [hr] at hgo
                  cases hgo
                  have hacc4 := s4 _ _ (s3 _ _ hacc)
                  have hla := dps_len hys
                  have hz2 := big_line
                  have h5 : acc.length < sizeLine := by
                    have h6 : tot.length = ys.length + (zs'.length + 1) := by rw [htz, List.length_append, List.length_cons]
                    omega
                  refine ⟨acc, hacc4, h5, fun b o q => ?_, acc ++ [v], ys ++ [y], zs', upd_same, dps_append (frzs_mono (sqT_lst hacc4) _ _ hfr (dps_mono (s3.trans s4) _ _ hys)) (.cons (frz_mono (sqT_lst hacc4) _ _ hy hv) .nil), ?_, rfl, by rw [htz, List.append_assoc]; rfl⟩
                  · rw [upd_ne (ne_of_none q hD)]
                    exact s4 _ _ (s3 _ _ (s _ _ q))
                  · have hfa : ∀ (as bs : List PyData), frzs (as ++ bs) = (frzs as && frzs bs) := by
                      intro as bs
                      induction as with
                      | nil => simp [frzs]
                      | cons a as ih => simp [frzs, ih, Bool.and_assoc]
                    rw [hfa, hfr]
                    simp [frzs, hy]
              · cases hgo
      · have e : k = xs.length := by omega
        subst e
        rw [List.drop_length] at hgo
        cases hgo
        refine .inl ⟨w2 (Nat.le_refl _), ?_⟩
        rw [List.append_nil] at htz
        subst htz
        exact r _ (s1.trans s) _ (.lst (SqL.of hacc) hys)
  · exact r.elim
theorem ed_lc {elt iter : Expr} {ifs : List Expr} {scope : Scope} {x : Str} {i : Nat} {src : SA} {t : ST} {f : SE} (hc : X.calm = true) (hN : X.N.Nodup) (hi : PI X tg iter (tiD X.K W src)) (ok : BlkOk X.N X.env.scope scope [(x, i)])
    (hg : ∀ (s : Shared) (H : Hp) (C : Addr) (cl : List (Str × Addr)) (fp : List Addr), PG (X.blk s H scope (compEnvC scope cl C X.env) fp) tg (gName i)) (ht : ∀ (s : Shared) (H : Hp) (C : Addr) (cl : List (Str × Addr)) (fp : List Addr), PTs (X.blk s H scope (compEnvC scope cl C X.env) fp) ifs (ttD X.K (fun _ _ => False) t))
    (he : ∀ (s : Shared) (H : Hp) (C : Addr) (cl : List (Str × Addr)) (fp : List Addr), PE (X.blk s H scope (compEnvC scope cl C X.env) fp) elt (tD X.K (fun _ _ => False) f)) (hs : ∀ x, foldedSetIterable iter X.env x = pure x := by intro _; rfl) :
    PE X (.ListComp elt [⟨tg, iter, ifs, 0⟩] scope pos) (tD X.K W (eLc i src t f)) :=
  pe_weak (pe_lc hc hN hi ok hg ht he hs) fun σ H Q q => lc_then q
theorem tds_nil : PTs X [] (ttD X.K W tTrue) := ⟨fun pins s σ H Q I h => pts_nil.run pins s σ H Q I (by
  obtain ⟨ρ, hE, q⟩ := h
  exact q.now)⟩
theorem tds_one {t : ST} (h : PT X a (ttD X.K W t)) : PTs X [a] (ttD X.K W t) := pts_one h
end
end DL

set_option Elab.async false
set_option linter.all false
set_option maxRecDepth 100000
set_option maxHeartbeats 2000000
namespace DL
open PySem L2 PyProof.Rows

/-! ### statements -/
def sNext : SS := fun ρ => .ok (.nx ρ)
def sSeq (F G : SS) : SS := fun ρ => (F ρ).bind fun o => match o with
  | .nx ρ' => G ρ'
  | .rt d => .ok (.rt d)
  | .bk ρ' => .ok (.bk ρ')
  | .ct ρ' => .ok (.ct ρ')
def sSet (i : Nat) (f : SE) : SS := fun ρ => (f ρ).bind fun d => .ok (.nx (ρ.set i (some d)))
def sDrop (f : SE) : SS := fun ρ => (f ρ).bind fun _ => .ok (.nx ρ)
def sRet (f : SE) : SS := fun ρ => (f ρ).bind fun d => .ok (.rt d)
def sRetN : SS := fun _ => .ok (.rt .none)
def sIf (t : ST) (F G : SS) : SS := fun ρ => (t ρ).bind fun b => if b then F ρ else G ρ
def sBreak : SS := fun ρ => .ok (.bk ρ)
def sCont : SS := fun ρ => .ok (.ct ρ)
/-- what a target does with a value -/
abbrev SG := PyData → PEnv → Option PEnv
abbrev SGs := List PyData → PEnv → Option PEnv
def gN (i : Nat) : SG := fun d ρ => some (ρ.set i (some d))
def gsNil : SGs := fun ds ρ => match ds with
  | [] => some ρ
  | _ => none
def gsCons (g : SG) (gs : SGs) : SGs := fun ds ρ => match ds with
  | d :: r => (g d ρ).bind fun ρ' => gs r ρ'
  | [] => none
def gT (n : Nat) (gs : SGs) : SG := fun d ρ => match d with
  | .tuple ds => if ds.length = n then gs ds ρ else none
  | _ => none
def sAsg (f : SE) (g : SG) : SS := fun ρ => (f ρ).bind fun d => (Res.of (g d ρ)).bind fun ρ' => .ok (.nx ρ')
def forGo (g : SG) (F : SS) : List PyData → PEnv → Res Out
  | [], ρ => .ok (.nx ρ)
  | d :: ds, ρ => (Res.of (g d ρ)).bind fun ρ1 => (F ρ1).bind fun o => match o with
    | .nx ρ' => forGo g F ds ρ'
    | .ct ρ' => forGo g F ds ρ'
    | .bk ρ' => .ok (.nx ρ')
    | .rt d => .ok (.rt d)
def sFor (src : SA) (g : SG) (F : SS) : SS := fun ρ => (src ρ).bind fun ds => forGo g F ds ρ
def whGo (t : ST) (F : SS) : Nat → PEnv → Res Out
  | 0, _ => .bad
  | n + 1, ρ => (t ρ).bind fun b => if b then (F ρ).bind fun o => match o with
      | .nx ρ' => whGo t F n ρ'
      | .ct ρ' => whGo t F n ρ'
      | .bk ρ' => .ok (.nx ρ')
      | .rt d => .ok (.rt d)
    else .ok (.nx ρ)
def sWh (n : Nat) (t : ST) (F : SS) : SS := whGo t F n
/-- reading of a target -/
def tgD (K : PySem.W.Frag) (g : SG) : TG := fun v σ H Q => ∃ d ρ, Dp K H v d ∧ EnvR K H σ ρ ∧ ∃ ρ', g d ρ = some ρ' ∧ ∀ σ', EnvR K H σ' ρ' → Q σ' H
def tgsD (K : PySem.W.Frag) (g : SGs) : TGs := fun vs σ H Q => ∃ ds ρ, DpAll K H vs ds ∧ EnvR K H σ ρ ∧ ∃ ρ', g ds ρ = some ρ' ∧ ∀ σ', EnvR K H σ' ρ' → Q σ' H
section
variable {X : Cx} {W : Wis} {a b tg : Expr} {pos : Pos} {st : Stmt} {rest : List Stmt} {F G : SS}
theorem pg_weak {t t' : TG} (h : PG X tg t) (w : ∀ v σ H Q, t' v σ H Q → t v σ H Q) : PG X tg t' := ⟨fun pins s σ H v u Q I r q => h.run pins s σ H v u Q I r (w v σ H Q q)⟩
theorem pgs_weak {ts : List Expr} {t t' : TGs} (h : PGs X ts t) (w : ∀ v σ H Q, t' v σ H Q → t v σ H Q) : PGs X ts t' := ⟨fun pins s σ H v u Q I r q => h.run pins s σ H v u Q I r (w v σ H Q q)⟩
theorem gd_name {i : Nat} {x : Str} (hN : X.N.Nodup) (hi : X.N[i]? = some x := by rfl) (hx : Loc X.env.scope x := by first | exact Or.inl rfl | exact Or.inr rfl) (hf : X.fn x = true ∨ X.env.scope.names.lookup x = some .local := by first | exact .inl rfl | exact .inr rfl | assumption) : PG X (.Name x pos) (tgD X.K (gN i)) :=
  pg_weak (pg_name hN hi hx hf) fun v σ H Q ⟨d, ρ, hv, hE, ρ', e, q⟩ => by
    cases e
    exact q _ (hE.set hv)
theorem gds_nil : PGs X [] (tgsD X.K gsNil) := pgs_weak pgs_nil fun v σ H Q ⟨ds, ρ, hv, hE, ρ', e, q⟩ => by
  cases hv with
  | nil => cases e; exact ⟨rfl, q _ hE⟩
  | cons _ _ => cases e
theorem gds_cons {e : Expr} {es : List Expr} {g : SG} {gs : SGs} (h1 : PG X e (tgD X.K g)) (h2 : PGs X es (tgsD X.K gs))
    (hs : (assignEach (e :: es) X.env).map (·.2) = assign e X.env :: (assignEach es X.env).map (·.2) := by rfl) : PGs X (e :: es) (tgsD X.K (gsCons g gs)) := pgs_weak (pgs_cons h1 h2 hs) fun v σ H Q ⟨ds, ρ, hv, hE, ρ', e, q⟩ => by
  cases hv with
  | nil => cases e
  | @cons v1 vs1 d1 ds1 h3 h4 =>
    simp only [gsCons, Option.bind_eq_some_iff] at e
    obtain ⟨ρ1, h5, e⟩ := e
    exact ⟨_, _, rfl, d1, ρ, h3, hE, ρ1, h5, fun σ1 hE1 => ⟨ds1, ρ1, h4, hE1, ρ', e, q⟩⟩
theorem gd_tup {es : List Expr} {k n : Nat} {gs : SGs} (hc : X.calm = true) (h : PGs X es (tgsD X.K gs)) (hn : (assignEach es X.env).length = n := by rfl) (hst : (assignEach es X.env).findIdx? (·.1) = none := by rfl) : PG X (.Tuple es k pos) (tgD X.K (gT n gs)) :=
  pg_weak (pg_tup hc h hn hst) fun v σ H Q ⟨d, ρ, hv, hE, ρ', e, q⟩ => by
    cases hv with
    | tup h1 h2 =>
      simp only [gT] at e
      split at e
      · rename_i hz
        exact ⟨_, _, rfl, h1, by rw [dps_len h2]; exact hz, _, ρ, h2, hE, ρ', e, q⟩
      · cases e
    | _ => cases e
theorem pssd_nil : PSs X [] (tsD X.K W sNext) := pss_weak pss_nil fun D σ H ⟨ρ, hE, q⟩ => q.now σ hE
theorem outP_seq {K : PySem.W.Frag} {D : Ends} {σ : L2.St} {H : Hp} {r : Res Out} (h : (r.bind fun o => match o with
    | .nx ρ' => G ρ'
    | .rt d => .ok (.rt d)
    | .bk ρ' => .ok (.bk ρ')
    | .ct ρ' => .ok (.ct ρ')).post (fun o => fut H (outP K D o)) fun n => fut H (W n)) :
    r.post (fun o => fut H (outP K { D with nx := tsD K W G D } o)) fun n => fut H (W n) :=
  (Res.post_bind.mp h).mono (fun o r => by
    cases o with
    | nx ρ' => exact fun H' s σ' hE => ⟨ρ', hE, r.mono (fun b q => q.on s) fun n q => q.on s⟩
    | rt d => exact r
    | bk ρ' => exact r
    | ct ρ' => exact r) fun n r => r
theorem pssd_cons (h1 : PS X st (tsD X.K W F)) (h2 : PSs X rest (tsD X.K W G)) : PSs X (st :: rest) (tsD X.K W (sSeq F G)) := pss_weak (pss_cons h1 h2) fun D σ H ⟨ρ, hE, q⟩ => ⟨ρ, hE, outP_seq (σ := σ) q⟩
theorem pssd_one (h1 : PS X st (tsD X.K W F)) : PSs X [st] (tsD X.K W F) := pss_one h1
theorem psd_ret {f : SE} (he : PE X a (tD X.K W f)) : PS X (.Return (some a) pos) (tsD X.K W (sRet f)) := ps_weak (ps_ret he) fun D σ H ⟨ρ, hE, q⟩ => tD_mono (tD_then hE q) fun x H1 ⟨d, hx, s1, hE1, q1⟩ => q1.now _ hx
theorem psd_retN : PS X (.Return none pos) (tsD X.K W sRetN) := ps_weak ps_retN fun D σ H ⟨ρ, hE, q⟩ => q.now _ .non
theorem psd_break : PS X (.Break pos) (tsD X.K W sBreak) := ps_weak ps_break fun D σ H ⟨ρ, hE, q⟩ => q.now σ hE
theorem psd_cont : PS X (.Continue pos) (tsD X.K W sCont) := ps_weak ps_continue fun D σ H ⟨ρ, hE, q⟩ => q.now σ hE
theorem psd_pass : PS X (.Pass pos) (tsD X.K W sNext) := ps_weak ps_pass fun D σ H ⟨ρ, hE, q⟩ => q.now σ hE
theorem psd_expr {f : SE} (he : PE X a (tD X.K W f)) (hs : swapsWith a none pos.line X.env = pure false := by rfl) : PS X (.Expr a pos) (tsD X.K W (sDrop f)) := ps_weak (ps_expr he hs) fun D σ H ⟨ρ, hE, q⟩ => tD_mono (tD_then hE q) fun x H1 ⟨d, hx, s1, hE1, q1⟩ => q1.now _ hE1
theorem psd_set {i : Nat} {x : Str} {f : SE} {pos' : Pos} (hN : X.N.Nodup) (he : PE X a (tD X.K W f)) (hi : X.N[i]? = some x := by rfl) (hx : Loc X.env.scope x := by first | exact Or.inl rfl | exact Or.inr rfl) (hs : swapsWith a (some (.Name x pos')) pos.line X.env = pure false := by rfl)
    (hf : X.fn x = true ∨ X.env.scope.names.lookup x = some .local := by first | exact .inl rfl | exact .inr rfl | assumption) : PS X (.Assign [.Name x pos'] a pos) (tsD X.K W (sSet i f)) :=
  ps_weak (ps_set hN hi hx he hs hf) fun D σ H ⟨ρ, hE, q⟩ => tD_mono (tD_then hE q) fun x H1 ⟨d, hx, s1, hE1, q1⟩ => q1.now _ (hE1.set hx)
theorem psd_setLc {i j : Nat} {y x : Str} {py : Pos} {elt iter : Expr} {ifs : List Expr} {scope : Scope} {pos spos : Pos} {src : SA} {t : ST} {f : SE} (hc : X.calm = true) (hN : X.N.Nodup) (hi : PI X tg iter (tiD X.K W src)) (ok : BlkOk X.N X.env.scope scope [(x, j)])
    (hg : ∀ (s : Shared) (H : Hp) (C : Addr) (cl : List (Str × Addr)) (fp : List Addr), PG (X.blk s H scope (compEnvC scope cl C X.env) fp) tg (gName j)) (ht : ∀ (s : Shared) (H : Hp) (C : Addr) (cl : List (Str × Addr)) (fp : List Addr), PTs (X.blk s H scope (compEnvC scope cl C X.env) fp) ifs (ttD X.K (fun _ _ => False) t))
    (he : ∀ (s : Shared) (H : Hp) (C : Addr) (cl : List (Str × Addr)) (fp : List Addr), PE (X.blk s H scope (compEnvC scope cl C X.env) fp) elt (tD X.K (fun _ _ => False) f))
    (hsw : swapsWith (.ListComp elt [⟨tg, iter, ifs, 0⟩] scope pos) (some (.Name y py)) spos.line X.env = pure true := by exact sw_true rfl rfl rfl (by decide +kernel))
    (hy : X.N[i]? = some y := by rfl) (hyl : X.env.scope.names.lookup y = some .local := by rfl) (hs : ∀ x, foldedSetIterable iter X.env x = pure x := by intro _; rfl) :
    PS X (.Assign [.Name y py] (.ListComp elt [⟨tg, iter, ifs, 0⟩] scope pos) spos) (tsD X.K W (sSet i (eLc j src t f))) :=
  ps_weak (ps_setLc hc hN hy hyl hsw hi ok hg ht he hs) fun D σ H ⟨ρ, hE, q⟩ => lc_then (tD_mono (tD_then hE q) fun x H1 ⟨d, hx, s1, hE1, q1⟩ => q1.now _ (hE1.set hx))
theorem psd_asg {f : SE} {g : SG} (he : PE X a (tD X.K W f)) (hg : PG X tg (tgD X.K g)) (hs : swapsWithSole [tg] a pos.line X.env = pure false := by rfl) (hw : swappedStores [tg] a X.env = pure none := by rfl)
    (h1 : (assignEach [tg] X.env).map (·.2) = [assign tg X.env] := by rfl) : PS X (.Assign [tg] a pos) (tsD X.K W (sAsg f g)) :=
  ps_weak (ps_asg he hg hs hw h1) fun D σ H ⟨ρ, hE, q⟩ => tD_mono (tD_then hE q) fun x H1 ⟨d, hx, s1, hE1, q1⟩ => by
    obtain ⟨ρ', h2, q2⟩ := Res.post_of (Res.post_bind.mp q1)
    exact ⟨d, ρ, hx, hE1, ρ', h2, fun σ' hE' => q2.now _ hE'⟩
theorem psd_if {t : ST} {c : Expr} {a b : List Stmt} (hc : PT X c (ttD X.K W t)) (ha : PSs X a (tsD X.K W F)) (hb : PSs X b (tsD X.K W G)) : PS X (.If c a b pos) (tsD X.K W (sIf t F G)) :=
  ps_weak (ps_if hc ha hb) fun D σ H ⟨ρ, hE, q⟩ => ttD_mono (ttD_then hE q) fun k H1 ⟨s1, hE1, q1⟩ => by
    cases k with
    | true => exact iteT ⟨ρ, hE1, q1⟩
    | false => exact iteF ⟨ρ, hE1, q1⟩
theorem psd_for {iter : Expr} {body : List Stmt} {src : SA} {g : SG} (hp : PassesOwn (model X.prog X.w) X.A X.env X.xe) (hc : X.calm = true) (hi : PI X tg iter (tiD X.K W src)) (hg : PG X tg (tgD X.K g)) (hb : PSs X body (tsD X.K W F))
    (hs : ∀ x, foldedSetIterable iter X.env x = pure x := by intro _; rfl) : PS X (.For tg iter body [] pos) (tsD X.K W (sFor src g F)) := by
  refine ps_weak (ps_for hp hc hi hg hb hs) fun D σ H ⟨ρ, hE, q⟩ => ?_
  refine ⟨ρ, hE, (Res.post_bind.mp q).mono (fun ds r H1 s1 J hJ => ?_) fun n r => r⟩
  refine ⟨fun k m σ' H' => m = ds.length - k ∧ k ≤ ds.length ∧ Same H H' ∧ Same H1 H' ∧ ∃ ρ', EnvR X.K H' σ' ρ' ∧ (forGo g F (ds.drop k) ρ').post (fun o => fut H' (outP X.K D o)) fun n => fut H' (W n),
    ⟨ds.length, by simp, Nat.zero_le _, s1, Same.refl _, ρ, hE.mono s1, by rw [List.drop_zero]; exact r.mono (fun o r => r.on s1) fun n r => r.on s1⟩, ?_⟩
  rintro k m σ' H' ⟨rfl, hk, s, s', ρ', hE', r'⟩
  obtain ⟨w1, w2⟩ := hJ k H' s'
  by_cases hlt : k < ds.length
  · have hx : ds[k]? = some ds[k] := List.getElem?_eq_getElem hlt
    obtain ⟨go, yl⟩ := w1 _ hx
    refine .inr ⟨go, fun σ2 H2 => Same H H2 ∧ Same H1 H2 ∧ ∃ ρ', EnvR X.K H2 σ2 ρ' ∧ (forGo g F (ds.drop (k + 1)) ρ').post (fun o => fut H2 (outP X.K D o)) fun n => fut H2 (W n), fun σ2 H2 ⟨a1, a2, a3⟩ => ⟨ds.length - (k + 1), by omega, rfl, hlt, a1, a2, a3⟩, fun x H2 y => ?_⟩
    obtain ⟨e2, hdx⟩ := yl x H2 y
    subst e2
    rw [List.drop_eq_getElem_cons hlt] at r'
    obtain ⟨ρ1, h1, r1⟩ := Res.post_of (Res.post_bind.mp r')
    refine ⟨ds[k], ρ', hdx, hE', ρ1, h1, fun σ2 hE2 => ⟨ρ1, hE2, (Res.post_bind.mp r1).mono (fun o ro H3 s3 => ?_) fun n r => r⟩⟩
    cases o with
    | nx ρ2 => exact fun σ3 hE3 => ⟨s.trans s3, s'.trans s3, ρ2, hE3, ro.mono (fun o q => q.on s3) fun n q => q.on s3⟩
    | ct ρ2 => exact fun σ3 hE3 => ⟨s.trans s3, s'.trans s3, ρ2, hE3, ro.mono (fun o q => q.on s3) fun n q => q.on s3⟩
    | bk ρ2 => exact ro _ s3
    | rt d => exact ro _ s3
  · have e : k = ds.length := by omega
    subst e
    rw [List.drop_length] at r'
    exact .inl ⟨w2 (Nat.le_refl _), r'.now σ' hE'⟩
theorem psd_while {c : Expr} {body : List Stmt} {t : ST} (n : Nat) (hp : PassesOwn (model X.prog X.w) X.A X.env X.xe) (hc : PT X c (ttD X.K W t)) (hb : PSs X body (tsD X.K W F)) : PS X (.While c body [] pos) (tsD X.K W (sWh n t F)) := by
  refine ps_weak (ps_while hp hc hb) fun D σ H ⟨ρ, hE, q⟩ => ?_
  refine ⟨fun m σ' H' => ∃ ρ', EnvR X.K H' σ' ρ' ∧ (whGo t F m ρ').post (fun o => fut H' (outP X.K D o)) fun n => fut H' (W n), ⟨n, ρ, hE, q⟩, ?_⟩
  rintro m σ' H' ⟨ρ', hE', r⟩
  cases m with
  | zero => exact r.elim
  | succ m =>
    refine ttD_mono (ttD_then hE' r) fun k H1 ⟨s1, hE1, r1⟩ => ?_
    cases k with
    | false => exact iteF (r1.now σ' hE1)
    | true =>
      refine iteT ⟨fun σ2 H2 => ∃ ρ', EnvR X.K H2 σ2 ρ' ∧ (whGo t F m ρ').post (fun o => fut H2 (outP X.K D o)) fun n => fut H2 (W n), fun σ2 H2 h2 => ⟨m, Nat.lt_succ_self _, h2⟩, ρ', hE1, (Res.post_bind.mp r1).mono (fun o ro H3 s3 => ?_) fun n r => r⟩
      cases o with
      | nx ρ2 => exact fun σ3 hE3 => ⟨ρ2, hE3, ro.mono (fun o q => q.on s3) fun n q => q.on s3⟩
      | ct ρ2 => exact fun σ3 hE3 => ⟨ρ2, hE3, ro.mono (fun o q => q.on s3) fun n q => q.on s3⟩
      | bk ρ2 => exact ro _ s3
      | rt d => exact ro _ s3
end

/-! ### defs -/
def bodyD (n : Nat) (F : SS) (ds : List PyData) : Res PyData := (F (startD n ds)).bind fun o => match o with
  | .nx _ => .ok .none
  | .rt d => .ok d
  | _ => .bad
section
variable {P : Program} {w : World} {K : PySem.W.Frag} {mg : Str → Option Value} {base : Heap}
theorem body_then {cls : Nat → Value} {N : List Str} {n : Nat} {F : SS} {vs : List V} {H : Hp} {Q : VK} {E : XK} (h : spD K cls n (bodyD N.length F) vs H Q E) :
    tsD K (fun m H' => E (cls m) none H') F { nx := fun _ H' => Q .non H', rt := Q } (start N vs) H := by
  obtain ⟨_, ds, hd, q⟩ := h
  refine ⟨startD N.length ds, envR_start hd, (Res.post_bind.mp q).mono (fun o r H1 s1 => ?_) fun n r => r⟩
  cases o with
  | nx ρ' => exact fun σ' hE => r _ s1 _ .non
  | rt d => exact fun v hv => r _ s1 _ hv
  | bk ρ' => exact r.elim
  | ct ρ' => exact r.elim
/-- a def that nothing leaves by a raise -/
theorem callee_of {cls : Nat → Value} {x qual : Str} {st : Stmt} {f : Addr} {fd : FuncData} {N ps : List Str} {k : Nat} {F : SS} (D : L2.Fun K x qual st f fd) (S : FnScope N ps (defScope st)) (hm : mg x = some (.ref f)) (hb : Binds K fd ps [])
    (body : ∀ (cdv : Value) (A : Around) (outer : List Env) (s : Shared) (H : Hp) (E : XK) (W : Wis), Room k (A.deeper (envOfC qual (defScope st) s.heap.objs.size f cdv)) →
      PSs (cxOf CX0 P w K mg base N qual (defScope st) f cdv A outer s H E).nox (defBody st) (tsD K W F)) : Callee P w K mg base CX0 cls x (k + 1) ps (bodyD N.length F) := by
  refine ⟨f, fd, D.ok S (fun vs H Q E h => h.1) (fun cdv A outer s H vs Q E hr h => ⟨_, body cdv A outer s H E _ hr, body_then h⟩), hm, D.kp, hb, ?_⟩
  obtain ⟨oc, od, kV, doc, pm, an, cdv, ct, osl, rfl, lk, hcd⟩ := D.ex
  exact ⟨oc, od, osl, lk⟩
theorem Callee.mono {CX : CXT} {cls : Nat → Value} {x : Str} {j k : Nat} {ps : List Str} {g : List PyData → Res PyData} (C : Callee P w K mg base CX cls x j ps g) (h : j ≤ k) : Callee P w K mg base CX cls x k ps g := by
  obtain ⟨f, fd, F, r⟩ := C.ex
  exact ⟨f, fd, F.mono h, r⟩
/-- told by another function that agrees where it answers -/
theorem Callee.imp {CX : CXT} {cls : Nat → Value} {x : Str} {k : Nat} {ps : List Str} {g g' : List PyData → Res PyData} (C : Callee P w K mg base CX cls x k ps g) (h : ∀ ds, ds.length = ps.length → g' ds ≠ .bad → g ds = g' ds) : Callee P w K mg base CX cls x k ps g' := by
  obtain ⟨f, fd, F, r⟩ := C.ex
  refine ⟨f, fd, F.imp fun vs H Q E ⟨hl, ds, hd, q⟩ => ⟨hl, ds, hd, ?_⟩, r⟩
  rw [h ds ((dps_len hd).symm.trans hl) fun e => by rw [e] at q; exact q]
  exact q
end
end DL

set_option Elab.async false
set_option linter.all false
set_option maxRecDepth 100000
set_option maxHeartbeats 2000000
namespace DL
open PySem L2 PyProof.Rows

theorem units65 {k : Nat} {A : Around} (hr : Room k A) : A.units + 65 < cLine := by
  have := hr.un
  omega
def negD : PyData → Option PyData
  | .int i => some (.int (-i))
  | _ => none
/-- {'a': 'b', ..}[x], the texts written -/
def menuD (kvs : List (Key × V)) : PyData → Option PyData
  | .str x => (valV (mergeK [] kvs) (.inr x)).bind scaD
  | _ => none
def eMenu (kvs : List (Key × V)) (f : SE) : SE := fun ρ => (f ρ).bind fun x => Res.of (menuD kvs x)
section
variable {X : Cx} {W : Wis} {a b : Expr} {pos : Pos}
theorem ed_neg {f : SE} (h : PE X a (tD X.K W f)) : PE X (.UnaryOp .USub a pos) (tD X.K W (eUn negD f)) := pe_weak (pe_un un_neg h) fun σ H Q q => by
  obtain ⟨ρ, hE, q⟩ := q
  refine tD_mono (tD_then hE q) fun x H1 ⟨d, hx, s1, hE1, q1⟩ => ?_
  obtain ⟨r, hr, q2⟩ := Res.post_of q1
  cases hx <;> simp only [negD, reduceCtorEq, Option.some.injEq] at hr
  subst hr
  exact ⟨_, rfl, q2.now _ (.int _)⟩
/-- the pairs of a display of written texts -/
theorem pairs_then {kvs : List (Key × V)} : ∀ {σ : L2.St} {H : Hp} {Q : List (V × V) → Hp → Prop}, Q (kvs.map fun p => (kV p.1, p.2)) H → tPairs (kvs.map fun p => (tC (kV p.1), tC p.2)) σ H Q := by
  induction kvs with
  | nil => intro σ H Q h; exact h
  | cons p r ih => intro σ H Q h; exact ih h
theorem ed_menu {keys : List (Option Expr)} {vals : List Expr} {p2 : Pos} {f : SE} (kvs : List (Key × V)) (hu : X.A.units + 1 < cLine) (hp : PPs X p2 keys vals (kvs.map fun p => (tC (kV p.1), tC p.2))) (hs : NoSl b) (hb : PE X b (tD X.K W f))
    (hall : keys.all (·.isSome) = true := by rfl) (hl : keys.length = vals.length := by rfl) (h0 : keys ≠ [] := by exact List.cons_ne_nil _ _) (h15 : keys.length ≤ 15 := by decide) (hk : kvs.length ≤ 15 := by decide) : PE X (.Subscript (.Dict keys vals p2) b pos) (tD X.K W (eMenu kvs f)) := by
  refine pe_weak (pe_dget hu (pe_disp hp hall hl h0 h15) hb hs) fun σ H Q h => ?_
  obtain ⟨ρ, hE, q⟩ := h
  intro p hp
  refine pairs_then ⟨upd_same, kvs, rfl, hk, ?_⟩
  rw [upd_upd]
  have s0 : Same H (upd H p (.dK (mergeK [] kvs))) := same_new hp _
  have q0 : (eMenu kvs f ρ).post (fun d => fut (upd H p (.dK (mergeK [] kvs))) fun H' => ∀ v, Dp X.K H' v d → Q v H') fun n => fut (upd H p (.dK (mergeK [] kvs))) (W n) := Res.post.mono q (fun d r => r.on s0) fun n r => r.on s0
  refine tD_mono (tD_then (hE.mono s0) q0) fun y H2 ⟨e, hy, s2, hE2, q2⟩ => ?_
  obtain ⟨r, hr, q3⟩ := Res.post_of q2
  cases hy <;> simp only [menuD, reduceCtorEq] at hr
  rename_i x _
  cases hv : valV (mergeK [] kvs) (.inr x) with
  | none => rw [hv] at hr; cases hr
  | some v =>
    rw [hv] at hr
    refine ⟨p, v, rfl, ?_, q3.now _ (dp_sca hr)⟩
    have z := DGet.k (k := .inr x) (s2 _ _ (upd_same (H := H) (a := p) (o := .dK (mergeK [] kvs))))
    rw [hv] at z
    exact z
end

/-! ### the text's defs and constants as they stand behind the top -/
structure DefAt (K : PySem.W.Frag) (mg : Str → Option Value) (x : Str) (st : Stmt) (ps : List Str) : Prop where
  ex : ∃ f fd, L2.Fun K x x st f fd ∧ mg x = some (.ref f) ∧ Binds K fd ps []
section
variable {K : PySem.W.Frag} {mg : Str → Option Value} {h : Heap}
theorem defAt_mk {x : Str} {st : Stmt} {ps : List Str} {f : Addr} {oc : Value} {od an : Option Addr} {osl : Array (Option Value)} {kV doc pm cdv ct : Value} (X : K.In h) (G : h.Ns mainGlobals mg) (a : PySem.W.nsIn K mainGlobals x = some (some (.ref f)))
    (l : K.lookup f = some ⟨oc, od, .func (PySem.W.fnOf x x (defArgs st) (defBody st) (defScope st) .none kV doc pm an cdv ct), osl⟩) (c : PySem.W.codeIn K cdv x = true) (k : PySem.W.keepIn K (.ref f) = true)
    (hb : ∀ (kV doc pm : Value) (an : Option Addr) (cdv ct : Value) (us : List Value), us.length = ps.length → bindArgs (PySem.W.fnOf x x (defArgs st) (defBody st) (defScope st) .none kV doc pm an cdv ct) ⟨us, []⟩ = pure (ps.zip us)) : DefAt K mg x st ps :=
  ⟨f, _, fun_mk l c k, PySem.W.mg_of X G a, (fun_mk (st := st) l c k).binds hb⟩
theorem gl_int {x : Str} {i : Int} {t : Tok} (X : K.In h) (G : h.Ns mainGlobals mg) (a : PySem.W.nsIn K mainGlobals x = some (some (.int i t))) : GlD K mg x (.int i) := ⟨.int i, _, PySem.W.mg_of X G a, ⟨t, rfl⟩, fun H => .int i⟩
theorem gl_str {x : Str} {i : Str} {t : Tok} (X : K.In h) (G : h.Ns mainGlobals mg) (a : PySem.W.nsIn K mainGlobals x = some (some (.str i t))) : GlD K mg x (.str i) := ⟨.str i, _, PySem.W.mg_of X G a, ⟨t, rfl⟩, fun H => .str i⟩
/-- a value of the written part, as data -/
def KD (K : PySem.W.Frag) (u : Value) (d : PyData) : Prop := ∃ v, RelV v u ∧ ∀ H, Dp K H v d
def KDs (K : PySem.W.Frag) (us : List Value) (ds : List PyData) : Prop := us.length ≤ 16777216 ∧ ∃ vs, Vals vs us ∧ ∀ H, DpAll K H vs ds
theorem kd_str {x : Str} {t : Tok} : KD K (.str x t) (.str x) := ⟨.str x, ⟨t, rfl⟩, fun H => .str x⟩
theorem kd_int {x : Int} {t : Tok} : KD K (.int x t) (.int x) := ⟨.int x, ⟨t, rfl⟩, fun H => .int x⟩
theorem kds_nil : KDs K [] [] := ⟨by decide, [], .nil, fun H => .nil⟩
theorem kds_cons {u : Value} {us : List Value} {d : PyData} {ds : List PyData} (h1 : KD K u d) (h2 : KDs K us ds) (hl : (u :: us).length ≤ 16777216 := by exact Nat.le_of_ble_eq_true rfl) : KDs K (u :: us) (d :: ds) := by
  obtain ⟨v, r, hv⟩ := h1
  obtain ⟨_, vs, rs, hvs⟩ := h2
  exact ⟨hl, v :: vs, .cons r rs, fun H => .cons (hv H) (hvs H)⟩
theorem kd_tup {a : Addr} {o : Option Addr} {n : Nat} {its : Array Value} {sl : Array (Option Value)} {ds : List PyData} (l : K.lookup a = some ⟨.type "tuple", o, .seq its n, sl⟩) (h : KDs K its.toList ds) : KD K (.ref a) (.tuple ds) := by
  obtain ⟨hz, vs, rs, hvs⟩ := h
  refine ⟨.ref a, rfl, fun H => .tup (.inr ⟨_, its, n, l, rfl, rfl, ?_, rs⟩) (hvs H)⟩
  rw [sizeLine_eq]
  simpa using hz
theorem gl_ref {x : Str} {a : Addr} {d : PyData} (X : K.In h) (G : h.Ns mainGlobals mg) (e : PySem.W.nsIn K mainGlobals x = some (some (.ref a))) (k : KD K (.ref a) d) : GlD K mg x d := by
  obtain ⟨v, r, hv⟩ := k
  exact ⟨v, _, PySem.W.mg_of X G e, r, hv⟩
theorem callee_bad {P : Program} {w : World} {base : Heap} {CX : CXT} {cls : Nat → Value} {x : Str} {st : Stmt} {ps : List Str} {k : Nat} (D : DefAt K mg x st ps) : Callee P w K mg base CX cls x k ps (fun _ => .bad) := by
  obtain ⟨f, fd, F, hm, hb⟩ := D.ex
  have no : ∀ vs H Q E, ¬ spD K cls ps.length (fun _ => .bad) vs H Q E := fun vs H Q E h => by
    obtain ⟨_, _, _, q⟩ := h
    exact q
  refine ⟨f, fd, ⟨fun vs H Q E h => absurd h (no vs H Q E), fun A outer s H args us vs Q E _ _ _ _ h => absurd h (no vs H Q E)⟩, hm, F.kp, hb, ?_⟩
  obtain ⟨oc, od, kV, doc, pm, an, cdv, ct, osl, rfl, lk, hcd⟩ := F.ex
  exact ⟨oc, od, osl, lk⟩
end
/-- the end of a law -/
theorem walk_data {l : PySem.W.OpenLaw} {k : Nat} {q : Program} {loose : List Str} {XP : (Str → Option Value) → Heap → Prop} {YP : World → Heap → Prop} {d : DefRec} {K : Params → PySem.W.Frag} {g : List PyData → Res PyData} {st : Stmt}
    (hr1 : 3 * k + 5 < recursionLimit - callerA.depth) (hr2 : 16 * k + 200 < cLine - callerA.units) (hn : l.most = some 63) (hd : d.params.defaults = []) (hd2 : d.name = "law")
    (hY : ∀ (w : World) (h : Heap), YP w h → (K w.params).In h)
    (D : ∀ (w : World) (mg : Str → Option Value) (h : Heap), (K w.params).In h → h.Ns mainGlobals mg → DefAt (K w.params) mg "law" st ["_law_script"])
    (F : ∀ (w : World) (mg : Str → Option Value) (h : Heap), (K w.params).In h → h.Ns mainGlobals mg → ∀ base : Heap, Callee l.prog w (K w.params) mg base CX0 (fun _ => .none) "law" k ["_law_script"] g)
    (hbind : ∀ fd : FuncData, (∃ kV doc pm an cdv ct, fd = PySem.W.fnOf "law" "law" (defArgs st) (defBody st) (defScope st) .none kV doc pm an cdv ct) → ∀ (s : Shared) (u : Value), BindsTo s fd ⟨[u], []⟩ [("_law_script", u)])
    (plain : ∀ ns : List Int, ns.length ≤ 63 → g [.list (ns.map PyData.int)] = .ok (.bool true)) : PySem.W.WalkO q loose XP YP l.row.toRowW d [] (fun f vs => PySem.call f vs) := by
  refine L2.walk_of (n := 63) (k := k) (x := "_law_script") (CX := fun _ => CX0) (K := K) (sp := fun w => spD (K w.params) (fun _ => .none) 1 g) hn (by decide) hd ⟨rfl, by omega, by omega⟩ hY (fun w mg fa h X G hmg => ?_) (fun w H a ns hl _ hS => ⟨rfl, _, .cons (.lst hS (dps_ints ns)) .nil, ?_⟩) fun _ _ _ _ _ z => z
  · rw [hd2] at hmg
    obtain ⟨f, fd, D1, hm1, hb1⟩ := (D w mg h X G).ex
    cases hmg.symm.trans hm1
    obtain ⟨oc, od, kV, doc, pm, an, cdv, ct, osl, e, lk, _⟩ := D1.ex
    refine ⟨fd, fun s u => ?_, fun base _ _ => ?_⟩
    · exact hbind fd ⟨kV, doc, pm, an, cdv, ct, e⟩ s u
    · obtain ⟨f2, fd2, C, hm2, _, _, oc2, od2, osl2, lk2⟩ := (F w mg h X G base).ex
      cases hm1.symm.trans hm2
      rw [lk] at lk2
      cases lk2
      exact C
  · rw [plain ns hl]
    intro H' s v hv
    cases hv
    rfl
end DL

set_option Elab.async false
set_option linter.all false
set_option maxRecDepth 100000
set_option maxHeartbeats 2000000
namespace DL
open PySem L2 PyProof.Rows
def sBad : SS := fun _ => .bad
section
variable {X : Cx} {W : Wis} {a b : Expr} {pos : Pos}
/-- what is not reached -/
theorem psd_bad {st : Stmt} : PS X st (tsD X.K W sBad) := ⟨fun pins s σ H D I q => by
  obtain ⟨ρ, hE, q⟩ := q
  exact q.elim⟩
/-! a place in a module's tuple of texts -/
structure GlT (K : PySem.W.Frag) (mg : Str → Option Value) (x : Str) (ys : List Str) : Prop where
  at_ : ∃ a o, mg x = some (.ref a) ∧ (∀ H, SqT K H a (ys.map V.str)) ∧ K.lookup a = some o ∧ o.dict = none ∧ o.cls = .type "tuple"
def gindexD (ys : List Str) : PyData → Option PyData
  | .str z => if z ∈ ys then some (.int (ys.idxOf z : Nat)) else none
  | _ => none
theorem ed_gindex {x : Str} {ys : List Str} {p apos : Pos} {h : SE} (g : GlT X.K X.mg x ys) (he : PE X b (tD X.K W h)) (hg : Gl X x := by rfl) (hs : starEach [b] X.env = [(false, eval b X.env)] := by rfl)
    (hbase : attributeBase (.Name x p) "index" X.env (eval (.Name x p) X.env) = eval (.Name x p) X.env := by rfl) (hline : (apos.endLine == pos.line) = true := by rfl) (hd : (x == ("__debug__" : Str)) = false := by decide) :
    PE X (.Call (.Attribute (.Name x p) "index" apos) [b] [] pos) (tD X.K W (eUn (gindexD ys) h)) := by
  obtain ⟨a, o, hm, hsq, hk, hdn, hcl⟩ := g.at_
  refine ⟨fun pins s σ H Q I hh => ?_⟩
  obtain ⟨ρ, hE, q⟩ := hh
  have q0 := tD_then (K := X.K) (W := W) (f := h) hE q
  refine PySem.Call_method1 hbase hs hline (ld_glob I hg hm ?_ hd)
  refine ⟨"tuple", _, F.plainAttrs_tuple, F.slot_tuple_index, F.type_tuple_index, ⟨o, I.kIn a o hk, hcl⟩, (fun c e => by cases e; exact ⟨o, I.kIn a o hk, hdn⟩), Calls.callWith_builtin rfl (Calls.evalArgs_plain (Calls.spliced_cons ?_))⟩
  refine thn (he.run pins s σ H _ I q0) fun u s2 ⟨y, H2, I2, r2, q2⟩ => Calls.spliced_nil ?_
  obtain ⟨d, hy, s1, hE1, q1⟩ := q2
  obtain ⟨r, hr, q3⟩ := Res.post_of q1
  obtain ⟨z, rfl, rfl⟩ : ∃ z, d = .str z ∧ y = .str z := by
    cases hy with
    | str z => exact ⟨z, rfl, rfl⟩
    | _ => simp [gindexD] at hr
  simp only [gindexD] at hr
  split at hr <;> cases hr
  rename_i hz
  have hl := List.idxOf_lt_length_of_mem hz
  refine mt_tup_index pins s2 σ H2 (.ref a) [.str z] _ [u] Q I2 rfl (.cons r2 .nil) ⟨a, ys, z, ys.idxOf z, rfl, rfl, hsq H2, ?_, ?_, q3.now _ (.int _)⟩
  · rw [List.getElem?_eq_getElem hl]
    simp
  · intro m hmj e
    have := List.not_of_lt_findIdx (p := (· == z)) (xs := ys) (i := m) hmj
    obtain ⟨h1, h2⟩ := List.getElem?_eq_some_iff.mp e
    rw [h2] at this
    simp at this
end
section
variable {K : PySem.W.Frag} {mg : Str → Option Value} {h : Heap}
theorem strs_vals : ∀ {us : List Value} {ys : List Str}, KDs K us (ys.map PyData.str) → ∃ vs, Vals vs us ∧ vs = ys.map V.str
  | [], [], _ => ⟨[], .nil, rfl⟩
  | _, _, h => by
    obtain ⟨hl, vs, rs, hvs⟩ := h
    have e := hvs (fun _ => none)
    exact ⟨vs, rs, dps_strs_of e⟩
theorem gt_ref {x : Str} {a : Addr} {n : Nat} {its : Array Value} {sl : Array (Option Value)} {ys : List Str} (X : K.In h) (G : h.Ns mainGlobals mg) (e : PySem.W.nsIn K mainGlobals x = some (some (.ref a)))
    (l : K.lookup a = some ⟨.type "tuple", none, .seq its n, sl⟩) (k : KDs K its.toList (ys.map PyData.str)) : GlT K mg x ys := by
  refine ⟨a, _, PySem.W.mg_of X G e, fun H => ?_, l, rfl, rfl⟩
  obtain ⟨vs, rs, rfl⟩ := strs_vals k
  refine .inr ⟨_, its, n, l, rfl, rfl, ?_, rs⟩
  rw [sizeLine_eq]
  simpa using k.1
end
@[simp] theorem sBad_ap {ρ : PEnv} : sBad ρ = .bad := rfl
end DL

set_option Elab.async false
set_option linter.all false
set_option maxRecDepth 100000
set_option maxHeartbeats 2000000
/-! tuple(reversed(a tuple)) -/
namespace RT
open PySem PySem.Spec PyProof.Rows
theorem nolen_rt : typeLookup (.type "reversed") "__len__" = pure none := by rw [typeLookup_type, builtinLookup_eq_fast]; kernel_rfl
theorem hint_rt : typeLookup (.type "reversed") "__length_hint__" = pure (some (.builtin "reversed.__length_hint__")) := by rw [typeLookup_type, builtinLookup_eq_fast]; kernel_rfl
theorem slot_rt_hint : Slot "reversed" "__length_hint__" "reversed.__length_hint__" :=
  .of (owner := "reversed") (n := "__length_hint__") (by rw [typeLookup_type, builtinLookup_eq_fast]; kernel_rfl) (by decide +kernel) (by decide +kernel) (by decide +kernel)
    (by first | exact .inl (by decide +kernel) | exact .inr (by decide +kernel)) (by rw [isSubtype_type]; kernel_rfl)
theorem entry_rt_hint : entryFor table "reversed.__length_hint__" = some Builtin.«reversed.__length_hint__» := entryFor_of_tree (by kernel_rfl)
theorem args_rt_hint (a : Value) : argsOk "reversed.__length_hint__" ⟨[a], []⟩ := by
  unfold argsOk; rw [signature?_of (id := "reversed.__length_hint__") (n := ['_', '_', 't', 'n', 'i', 'h', '_', 'h', 't', 'g', 'n', 'e', 'l', '_', '_']) (o := ['d', 'e', 's', 'r', 'e', 'v', 'e', 'r']) (by kernel_rfl) owner_rt]; kernel_rfl
section
variable {prog : Program} {w : World} {A : Around} {E : Value → Shared → Prop} {s : Shared}
theorem call_hint_rt {it t : Addr} {items : Array Value} {Q : Value → Shared → Prop} (hit : IsRt s.heap it t ((items.size : Int) - 1)) (ht : IsTup s.heap t items) (hn : items.size ≤ sizeLine)
    (h : ∀ tk tk', Q (.int items.size tk) { s with toks := tk' }) : wpAny (model prog w) A (call (.builtin "reversed.__length_hint__") [.ref it]) Q E s := by
  obtain ⟨o, ho, hc, hd⟩ := id hit
  rw [sizeLine_eq] at hn
  refine wpAny_call_entry slot_rt_hint hit.typeIs entry_rt_hint ?_ (args_rt_hint _)
  unfold Builtin.«reversed.__length_hint__»
  refine wpAny_bind (wpAny_of_eq (a := Value.ref it) rfl ?_)
  refine wpAny_bind (wpAny_field ho hd (x := .ref t) rfl ?_)
  try dsimp only
  rw [if_neg (by intro e; cases e)]
  refine wpAny_bind ?_
  refine len_tuple ht (by omega) ?_
  refine wpAny_bind (wpAny_of_eq (a := some ((items.size : Nat) : Int)) rfl ?_)
  try dsimp only
  refine wpAny_bind (wpAny_field ho hd (x := rawInt ((items.size : Int) - 1)) rfl ?_)
  show wpAny _ _ (if ((items.size : Nat) : Int) < (items.size : Int) - 1 + 1 then _ else _) _ _ _
  rw [if_neg (by omega)]
  refine wpAny_bind (wpAny_mkInt ?_)
  refine wpAny_pure ⟨_, rfl, ?_⟩
  rw [show (items.size : Int) - 1 + 1 = items.size by omega]
  exact h _ _
theorem tup_at {h h' : Heap} {t : Addr} {items : Array Value} (x : IsTup h t items) (e : ∀ o, h.get? t = some o → h'.get? t = some o) : IsTup h' t items := let ⟨o, ho, r⟩ := x; ⟨o, e _ ho, r⟩
theorem Walks.tupRev (hh : A.handled = none) (I t : Addr) (hne : t ≠ I) (items : Array Value) (hn : items.size ≤ sizeLine) :
    Walks prog w A I [I, t] [I] items.size (fun i v => items[items.size - 1 - i]? = some v) (fun i h => i ≤ items.size ∧ IsRt h I t ((items.size : Int) - 1 - (i : Int)) ∧ IsTup h t items) where
  sub := fun b hb => by simp at hb; simp [hb]
  frame := fun _ _ _ x hk => ⟨x.1, x.2.1.at fun o e => hk I (by simp) o e, tup_at x.2.2 fun o e => hk t (by simp) o e⟩
  item := fun i s Q E hi x hQ => by
    have e : (items.size : Int) - 1 - (i : Int) = ((items.size - 1 - i : Nat) : Int) := by omega
    have hit := x.2.1
    rw [e] at hit
    have hx : items[items.size - 1 - i]? = some (items[items.size - 1 - i]'(by omega)) := Array.getElem?_eq_getElem (by omega)
    refine next_rt_item hit x.2.2 hx hn fun h' hit' hs' => ?_
    have e2 : ((items.size - 1 - i : Nat) : Int) - 1 = (items.size : Int) - 1 - ((i + 1 : Nat) : Int) := by omega
    rw [e2] at hit'
    exact hQ _ h' (s.toks + 1) hx ⟨hi, hit', tup_at x.2.2 fun o eo => (hs'.2 t hne).trans eo⟩ fun b o hb eo => (hs'.2 b (fun h => hb (by simp [h]))).trans eo
  done := fun s Q E x hQ => by
    have e : (items.size : Int) - 1 - (items.size : Int) = -1 := by omega
    have hit := x.2.1
    rw [e] at hit
    exact next_rt_end hh hit fun h' he' => hQ h' s.toks fun b o hb eo => he' b o (fun h => hb (by simp [h])) eo
  self := fun _ _ _ _ x hQ => iter_rt x.2.1 hQ
theorem len_hint_rt {it t : Addr} {items : Array Value} {Q : Bool → Shared → Prop} (hit : IsRt s.heap it t ((items.size : Int) - 1)) (ht : IsTup s.heap t items) (hn : items.size ≤ sizeLine)
    (h : ∀ tk', Q (((items.size : Nat) : Int) != 0) { s with toks := tk' }) : wpAny (model prog w) A (Builtin.List.listLengthHint (.ref it)) Q E s := by
  have hT := hit.typeIs
  have hz := hn
  rw [sizeLine_eq] at hz
  have f1 : Builtin.List.listFitsIndex ((items.size : Nat) : Int) = true := by
    unfold Builtin.List.listFitsIndex
    rw [Bool.and_eq_true]
    exact ⟨decide_eq_true (by omega), decide_eq_true (by omega)⟩
  have f2 : Builtin.List.listTooLong (((items.size : Nat) : Int).toNat) = false := by
    unfold Builtin.List.listTooLong
    exact decide_eq_false (by rw [Int.toNat_natCast]; omega)
  unfold Builtin.List.listLengthHint
  refine wpAny_bind (wpAny_specialOf hT nolen_rt ?_)
  show wpAny _ A (specialOf (Value.ref it) (Str.ofString "__length_hint__") >>= _) _ _ _
  refine wpAny_bind (wpAny_specialOf hT hint_rt ?_)
  generalize hid : ("reversed.__length_hint__" : String) = id0
  wp_delta
  rw [show splitId id0 = some ("reversed", "__length_hint__") from by subst hid; decide +kernel]
  subst hid
  refine wpAny_bind (wpAny_isInstance (b := true) hT (by rw [isSubtype_type]; kernel_rfl) ?_)
  rw [if_neg (by decide)]
  dsimp only
  rw [if_neg (by decide +kernel)]
  refine wpAny_bind (wpAny_rule ?_)
  refine wpAny_bind (wpAny_of_eq (slot_rt_hint.bind _) ?_)
  dsimp only
  refine wpAny_bind (wpAny_attempt (call_hint_rt hit ht hn fun tk tk' => ?_))
  dsimp only
  generalize hk : ((items.size : Nat) : Int) = k at *
  have ea : asInt? (Value.int k tk) = pure (some k) := rfl
  rw [ea]
  refine wpAny_bind ?_
  refine wpAny_pure ?_
  dsimp only
  rw [f1, f2]
  rw [if_neg (by decide)]
  rw [if_neg (by omega)]
  rw [if_neg (by decide)]
  exact wpAny_pure (h tk')
theorem collect_rt {it t : Addr} {items : Array Value} {Q : List Value → Shared → Prop} (hh : A.handled = none) (hit : IsRt s.heap it t ((items.size : Int) - 1)) (hl : IsTup s.heap t items) (hne : t ≠ it) (hn : items.size ≤ sizeLine)
    (hQ : ∀ (h' : Heap) (tk : Nat) (acc : Array Value), (∀ b o, b ≠ it → s.heap.get? b = some o → h'.get? b = some o) → ItemsOf (fun i v => items[items.size - 1 - i]? = some v) acc items.size → Q acc.toList { s with heap := h', toks := tk }) :
    wpAny (model prog w) A (collect (.ref it)) Q E s := by
  have W := (Walks.tupRev (prog := prog) (w := w) (A := A.in1) hh it t hne items hn).toS
  obtain ⟨oi, hoi, _⟩ := id hit
  obtain ⟨ol, hol, _⟩ := id hl
  have hSi : s.heap.objs.size ≠ it := Nat.ne_of_gt (Heap.lt_size hoi)
  have hSl : s.heap.objs.size ≠ t := Nat.ne_of_gt (Heap.lt_size hol)
  have hSf : s.heap.objs.size ∉ [it, t] := by simp only [List.mem_cons, List.not_mem_nil, or_false, not_or]; exact ⟨hSi, hSl⟩
  unfold collect
  refine wpAny_bind (wpAny_runValue (codeAny_builtin F.entry_proto_collect ?_))
  rw [Around.under_plainId F.plain_proto_collect _]
  show wpAny _ A.in1 (newList [] >>= fun l' => again (.builtin "list.__iadd__" ⟨[l', .ref it], []⟩)) _ _ s
  refine wpAny_bind (wpAny_newObj_type ?_)
  refine wpAny_pure ⟨plainId_quiet F.plain_list_iadd _, codeAny_builtin F.entry_list_iadd ?_⟩
  rw [Around.under_plainId F.plain_list_iadd _]
  have hS₁ : (s.heap.push { cls := .type "list", data := .seq ([] : List Value).toArray }).get? s.heap.objs.size = some { cls := .type "list", data := .seq ([] : List Value).toArray } := Heap.get?_push_size _ rfl
  have hit1 : IsRt (s.heap.push { cls := .type "list", data := .seq ([] : List Value).toArray }) it t ((items.size : Int) - 1) := hit.at fun o e => Heap.get?_push_of_some _ e
  have hl1 : IsTup (s.heap.push { cls := .type "list", data := .seq ([] : List Value).toArray }) t items := tup_at hl fun o e => Heap.get?_push_of_some _ e
  have hT : ({ s with heap := s.heap.push { cls := .type "list", data := .seq ([] : List Value).toArray } } : Shared).TypeIs (.ref it) "reversed" := IsRt.typeIs (s := { s with heap := s.heap.push { cls := .type "list", data := .seq ([] : List Value).toArray } }) hit1
  have h1 : Builtin.List.listSameRef (.ref s.heap.objs.size) (.ref it) = false := by simp [Builtin.List.listSameRef, hSi]
  have e0 : ((items.size : Nat) : Int) - 1 - ((0 : Nat) : Int) = (items.size : Int) - 1 := by omega
  show wpAny _ A.in1 (Builtin.List.listExtendWith (.ref s.heap.objs.size) (.ref it) (.ref s.heap.objs.size)) _ _ _
  unfold Builtin.List.listExtendWith
  refine wpAny_bind (wpAny_typeOf hT ?_)
  rw [if_neg (by rw [h1]; decide)]
  refine wpAny_bind (iter_rt (s := { s with heap := s.heap.push { cls := .type "list", data := .seq ([] : List Value).toArray } }) hit1 ?_)
  refine wpAny_bind (wpAny_holding ?_)
  refine len_hint_rt (s := { s with heap := s.heap.push { cls := .type "list", data := .seq ([] : List Value).toArray } }) hit1 hl1 hn fun tk' => ?_
  have fin : ∀ (h2 : Heap) (tk c : Nat), h2.get? s.heap.objs.size = some { cls := .type "list", data := .seq (#[] : Array Value) c } → (∀ b o, b ≠ s.heap.objs.size → s.heap.get? b = some o → h2.get? b = some o) →
      codeAny (model prog w) A (.builtin "list.extend.loop" ⟨[.ref s.heap.objs.size, .ref it, .ref s.heap.objs.size], []⟩) (fun r s' => match r with
        | .ok (.ret v) => wpAny (model prog w) A (match v with
          | .ref a => do
            let o ← load a
            match o.data with
            | .seq xs _ => pure xs.toList
            | _ => unsupported "internal:collect"
          | _ => unsupported "internal:collect") Q E s'
        | .ok _ => False
        | .error e => E e s') { s with heap := h2, toks := tk } := fun h2 tk c hS hk => by
    have hst : IsRt h2 it t ((items.size : Int) - 1 - ((0 : Nat) : Int)) ∧ IsTup h2 t items := ⟨by rw [e0]; exact hit.at fun o e => hk it o (Ne.symm hSi) e, tup_at hl fun o e => hk t o (Ne.symm hSl) e⟩
    refine codeAny_extend_loopS W hn _ hSf _ items.size 0 { s with heap := h2, toks := tk } _ _ rfl (Nat.zero_le _) ⟨Nat.zero_le _, hst.1, hst.2⟩ hS (ItemsOf.nil _) fun s' acc' c' hm hS' hacc => ?_
    show wpAny _ A (load s.heap.objs.size >>= _) _ _ s'
    refine wpAny_bind (wpAny_load hS' ?_)
    refine wpAny_pure ?_
    rw [Moved.eq_with hm]
    refine hQ s'.heap s'.toks acc' (fun b o hb e => hm.heap b o (fun hmem => ?_) (hk b o (Nat.ne_of_lt (Heap.lt_size e)) e)) hacc
    rcases List.mem_cons.mp hmem with e' | hmem
    · exact absurd (Heap.lt_size e) (by rw [e']; exact Nat.lt_irrefl _)
    · exact hb (List.mem_singleton.mp hmem)
  have old : ∀ b o, b ≠ s.heap.objs.size → s.heap.get? b = some o → (s.heap.push { cls := .type "list", data := .seq ([] : List Value).toArray }).get? b = some o := fun b o _ e => Heap.get?_push_of_some _ e
  by_cases hk : items.size = 0
  · have e : (((items.size : Nat) : Int) != 0) = false := by rw [hk]; rfl
    rw [e]
    dsimp only
    rw [if_neg (by decide +kernel)]
    exact wpAny_pure ⟨plainId_quiet F.plain_extend_loop _, fin _ tk' _ hS₁ old⟩
  · have e : (((items.size : Nat) : Int) != 0) = true := by simp [hk]
    rw [e]
    dsimp only
    rw [if_pos (by rw [Bool.true_or])]
    refine wpAny_bind (wpAny_rule ?_)
    refine wpAny_bind ?_
    unfold Builtin.List.listTouch
    show wpAny _ A.in1 (updateSeq s.heap.objs.size (·.push .none) >>= fun _ => updateSeq s.heap.objs.size (·.pop)) _ _ _
    refine wpAny_bind (wpAny_updateSeq hS₁ rfl ?_ (by decide) (by decide))
    have h2 := Heap.get?_update_self (Obj.mapSeq fun x => x.push Value.none) hS₁ rfl
    refine wpAny_updateSeq h2 rfl ?_ (by decide) (by decide)
    have h3 := Heap.get?_update_self (Obj.mapSeq fun x => x.pop) h2 rfl
    refine wpAny_pure ⟨plainId_quiet F.plain_extend_loop _, fin _ tk' _ h3 fun b o hb e => ?_⟩
    rw [Heap.get?_update_other _ _ (Ne.symm hb), Heap.get?_update_other _ _ (Ne.symm hb)]
    exact old b o hb e
theorem code_tuple_new_rt {it t : Addr} {items : Array Value} {Q₁ : Value → Shared → Prop} (hh : A.handled = none) (hit : IsRt s.heap it t ((items.size : Int) - 1)) (hl : IsTup s.heap t items) (hne : t ≠ it) (hn : items.size ≤ sizeLine)
    (h : ∀ (h' : Heap) (tk : Nat) (acc : Array Value), (∀ b o, b ≠ it → s.heap.get? b = some o → h'.get? b = some o) → ItemsOf (fun i v => items[items.size - 1 - i]? = some v) acc items.size →
      Q₁ (.ref h'.objs.size) { s with heap := h'.push { cls := .type "tuple", data := .seq acc }, toks := tk }) :
    codeAny (model prog w) A (.call (.builtin "tuple.__new__") ⟨[.type "tuple", .ref it], []⟩) (wants Q₁ E) s := by
  refine codeAny_of_tree ?_
  show wpAny _ A.in1 (do checkBuiltinCall "tuple.__new__" ⟨[.type "tuple", .ref it], []⟩; again (.builtin "tuple.__new__" ⟨[.type "tuple", .ref it], []⟩)) _ _ s
  refine wpAny_bind (wpAny_of_eq (F.newCall_tuple_1 _) (wpAny_pure ⟨plainId_quiet F.plain_tuple_new _, codeAny_builtin F.entry_tuple_new ?_⟩))
  rw [Around.under_plainId F.plain_tuple_new _]
  have hsub := sub_tuple_self
  have hinit := init_tuple_lookup
  have hmh := madeHere_tuple
  have hTI : s.TypeIs (.ref it) "reversed" := hit.typeIs
  have hh1 : A.in1.handled = none := hh
  wp_walk using wpAny_typeOf hTI, collect_rt (A := A.in1) hh1 hit hl hne hn
  intro h' tk acc hk hacc
  show wpAny _ _ (Builtin.Tuple.tupleExact acc.toList.toArray >>= fun v => ret v) _ _ _
  unfold Builtin.Tuple.tupleExact
  refine wpAny_bind (wpAny_newObj_type ?_ (by show acc.toList.toArray.size ≤ sizeLine; simp only [Array.toArray_toList]; rw [hacc.1]; exact hn))
  refine wpAny_pure ?_
  have e : acc.toList.toArray = acc := by simp
  rw [e]
  exact h h' tk acc hk hacc
theorem call_tuple_rt {it t : Addr} {items : Array Value} {Q : Value → Shared → Prop} (hh : A.handled = none) (hit : IsRt s.heap it t ((items.size : Int) - 1)) (hl : IsTup s.heap t items) (hne : t ≠ it) (hn : items.size ≤ sizeLine)
    (hQ : ∀ (h' : Heap) (tk : Nat) (acc : Array Value), (∀ b o, b ≠ it → s.heap.get? b = some o → h'.get? b = some o) → ItemsOf (fun i v => items[items.size - 1 - i]? = some v) acc items.size →
      Q (.ref h'.objs.size) { s with heap := h'.push { cls := .type "tuple", data := .seq acc }, toks := tk }) :
    wpAny (model prog w) A (call (.type "tuple") [.ref it]) Q E s := by
  refine callType_codes (Q₁ := fun obj s₁ => s₁.TypeIs obj "tuple" ∧ Q obj s₁) F.called_tuple (F.typeCall_tuple_1 _) F.entry_object_init
    (code_tuple_new_rt (A := A.in1) hh hit hl hne hn fun h' tk acc hk hacc => ⟨⟨_, Heap.get?_push_size _ rfl, rfl⟩, hQ h' tk acc hk hacc⟩) fun obj s₁ h₁ => ?_
  exact ⟨h₁.1, F.args_object_init_2 obj _, object_init_meets F.called_tuple.init.lookup F.called_tuple.made (by decide) prog w A.in1 _ s₁ ⟨h₁.1, rfl, h₁.2⟩⟩
end
end RT

namespace RT
open PySem PySem.Spec PyProof.Rows L2
section
variable {X : Cx}
/-- tuple(reversed(x)), x a tuple: a new tuple -/
def tTupRevT (K : PySem.W.Frag) (te : TE) : TE := fun σ H Q => te σ H fun v H1 => ∃ (a : Addr) (xs : List V), v = .ref a ∧ SqT K H1 a xs ∧ ∀ q, H1 q = none → Q (.ref q) (upd H1 q (.tup xs.reverse))
theorem pe_tupRevT {e : Expr} {te : TE} {p p2 pos pos2 : Pos} (hc : X.calm = true) (hg : Gl X "tuple") (hm : X.mg "tuple" = none) (hg2 : Gl X "reversed") (hm2 : X.mg "reversed" = none) (he : PE X e te)
    (hs : starEach [e] X.env = (false, eval e X.env) :: starEach [] X.env := by rfl)
    (hs2 : starEach [.Call (.Name "reversed" p2) [e] [] pos2] X.env = (false, eval (.Call (.Name "reversed" p2) [e] [] pos2) X.env) :: starEach [] X.env := by rfl) :
    PE X (.Call (.Name "tuple" p) [.Call (.Name "reversed" p2) [e] [] pos2] [] pos) (tTupRevT X.K te) := by
  refine ⟨fun pins s σ H Q I h => ?_⟩
  refine Call_ (ld_blt I hg hm boot_tuple (PyProof.Rows.callWith_type1 (args_cons (Call_ (ld_blt I hg2 hm2 PyProof.Rows.boot_reversed (PyProof.Rows.callWith_type1 (args_cons (thn (he.run pins s σ H _ I h) fun u s1 ⟨v, H1, I1, r1, q1⟩ => args_nil ?_) hs) hs rfl))) hs2) hs2 rfl))
  obtain ⟨a, xs, ev, hq, q⟩ := q1
  subst ev
  obtain rfl : u = Value.ref a := r1
  obtain ⟨its, rv, p', hz⟩ := I1.tuple hq
  have hn := line63
  have hn0 : its.toArray.size ≤ sizeLine := by rw [List.size_toArray, ← rv.length]; exact hz
  refine call_reversed_tup p' (fun A E Q k => len_tuple p' (by omega) k) (args_nil ?_)
  have k0 : ∀ b o, s1.heap.get? b = some o → (s1.heap.push (rtObj a ((its.toArray.size : Int) - 1))).get? b = some o := fun b o e => Heap.get?_push_of_some _ e
  have I2 : Inv X pins σ H1 { s1 with heap := s1.heap.push (rtObj a ((its.toArray.size : Int) - 1)), toks := s1.toks + 1 + 1 } := I1.kept (t' := s1.toks + 1 + 1) k0
  obtain ⟨f0, f1, f2, f3, f4, f5⟩ := I1.fpOk (H' := H1) (b := s1.heap.objs.size) (Nat.le_refl _) (I1.hok.fresh (Nat.le_refl _))
  obtain ⟨ol, hol, _⟩ := id p'
  have hne : a ≠ s1.heap.objs.size := Nat.ne_of_lt (Heap.lt_size hol)
  refine call_tuple_rt (s := { s1 with heap := s1.heap.push (rtObj a ((its.toArray.size : Int) - 1)), toks := s1.toks + 1 + 1 }) (I1.ok.hd hc) ⟨_, Heap.get?_push_size _ rfl, rfl, rfl⟩ (tup_at p' fun o e => k0 a o e) hne hn0 fun h' tk acc hk hi => ?_
  have I3 : Inv X pins σ H1 { s1 with heap := h', toks := tk } := I2.turned (t' := tk) (fun b o hb e => hk b o hb e) f0 f1 f3 f4 f5
  refine ⟨.ref h'.objs.size, upd H1 h'.objs.size (.tup xs.reverse), I3.laid (t' := tk) (fun c o e => Heap.get?_push_of_some _ e) (Nat.le_refl _) (show ObjOk X.prog X.w _ _ _ (.tup xs.reverse) from ⟨by rw [List.length_reverse]; exact hz, acc.toList, vals_rev rv hi, ?_⟩), rfl, q _ (I3.hok.fresh (Nat.le_refl _))⟩
  rw [Array.toArray_toList]
  exact IsTup.new _ _
end
end RT

set_option Elab.async false
set_option linter.all false
set_option maxRecDepth 100000
set_option maxHeartbeats 2000000
namespace L2
open PySem PySem.Spec PyProof.Rows
section
variable {X : Cx}
/-- d.update(e), both dicts of ints and texts -/
def tDUpd (td te : TE) : TE := fun σ H Q => td σ H fun x H1 => (∃ a kvs, x = .ref a ∧ H1 a = some (.dK kvs)) ∧ te σ H1 fun y H2 => ∃ a b kvs more, x = .ref a ∧ y = .ref b ∧ a ≠ b ∧ H2 a = some (.dK kvs) ∧ H2 b = some (.dK more) ∧ kvs.length + more.length ≤ sizeLine ∧ Q .non (upd H2 a (.dK (mergeK kvs more)))
theorem pe_dupd {o e : Expr} {td te : TE} {apos cpos : Pos} (ho : PE X o td) (he : PE X e te)
    (hs : starEach [e] X.env = [(false, eval e X.env)] := by rfl) (hbase : attributeBase o "update" X.env (eval o X.env) = eval o X.env := by rfl) (hline : (apos.endLine == cpos.line) = true := by rfl) :
    PE X (.Call (.Attribute o "update" apos) [e] [] cpos) (tDUpd td te) := by
  refine ⟨fun pins s σ H Q I h => ?_⟩
  refine PySem.Call_method1 hbase hs hline (thn (ho.run pins s σ H _ I h) fun u s1 ⟨x, H1, I1, rx, ⟨a, kvs, ex, e1⟩, q1⟩ => ?_)
  subst ex
  obtain rfl : u = Value.ref a := rx
  obtain ⟨t1, t2, _⟩ := isD_at I1 (.inl ⟨kvs, .inl e1⟩)
  refine ⟨"dict", _, PySem.F.plainAttrs_dict, PySem.F.slot_dict_update, PySem.F.type_dict_update, t1, t2, Calls.callWith_builtin rfl (Calls.evalArgs_plain (Calls.spliced_cons (thn (he.run pins s1 σ H1 _ I1 q1) fun iv s2 ⟨y, H2, I2, ry, q2⟩ => Calls.spliced_nil ?_)))⟩
  obtain ⟨a', b, kvs', more, ea, rfl, hab, e2, e3, hl, q2⟩ := q2
  cases ea
  obtain rfl : iv = Value.ref b := ry
  obtain ⟨z, hd, vs, rel, dd⟩ := dk_of I2.hok e2
  obtain ⟨z2, hd2, ws, rel2, dd2⟩ := dk_of I2.hok e3
  refine call_meetsIn PySem.F.slot_dict_update dd.typeIs PySem.F.entry_dict_update (PySem.F.args_dict_update_2 _ _) (meets_dict_update (mixKind X.prog X.w) a b hab hd2)
    ⟨vs, ws, dd, dd2, by rw [← rel.length, ← rel2.length]; exact hl, fun h' dd' _ hs => ?_⟩
  have he : ∃ q, h'.get? a = some q := let ⟨q, _, _, hq, _⟩ := dd'; ⟨q, hq⟩
  exact ⟨.non, _, d_write (t' := s2.toks) I2 (by rw [e2]; exact True.intro) hs he (dk_new (Nat.le_trans (length_mergeK more kvs') hl) hd (KV.merge rel2 rel) dd'), rfl, q2⟩
end
end L2
namespace DL
open PySem L2 PyProof.Rows
section
variable {K : PySem.W.Frag} {H : Hp}
theorem dps_app : ∀ {vs ws : List V} {ds es : List PyData}, DpAll K H vs ds → DpAll K H ws es → DpAll K H (vs ++ ws) (ds ++ es)
  | [], _, _, _, .nil, h => h
  | _ :: _, _, _, _, .cons a b, h => .cons a (dps_app b h)
theorem dps_rev : ∀ {vs : List V} {ds : List PyData}, DpAll K H vs ds → DpAll K H vs.reverse ds.reverse
  | [], _, .nil => .nil
  | _ :: _, _, .cons a b => by
    rw [List.reverse_cons, List.reverse_cons]
    exact dps_app (dps_rev b) (.cons a .nil)
end
def revD : PyData → Option PyData
  | .tuple xs => some (.tuple xs.reverse)
  | _ => none
def lookS (kvs : List (PyData × PyData)) (x : Str) : Option PyData := (kvs.find? fun p => match p.1 with
  | .str y => decide (y = x)
  | _ => false).map (·.2)
def getD2 (kvs : List (PyData × PyData)) : PyData → PyData → Option PyData
  | .str x, d => some ((lookS kvs x).getD d)
  | _, _ => none
def eGet2 (f g h : SE) : SE := fun ρ => (f ρ).bind fun x => match x with
  | .dict kvs => (g ρ).bind fun y => (h ρ).bind fun z => Res.of (getD2 kvs y z)
  | _ => .bad
@[simp] theorem eGet2_ap {f g h : SE} {ρ : PEnv} : eGet2 f g h ρ = (f ρ).bind fun x => match x with
  | .dict kvs => (g ρ).bind fun y => (h ρ).bind fun z => Res.of (getD2 kvs y z)
  | _ => .bad := nrfl rfl
theorem lookS_kv (x : Str) : ∀ kvs : List (Key × V), lookS (kvD kvs) x = (valV kvs (.inr x)).map fun v => (scaD v).getD .none
  | [] => rfl
  | (k, v) :: r => by
    have ih := lookS_kv x r
    simp only [lookS, kvD, valV, List.map_cons, List.find?_cons] at ih ⊢
    cases k with
    | inl i => simpa [keyD] using ih
    | inr y =>
      by_cases h : y = x
      · subst h; simp [keyD]
      · simpa [keyD, h] using ih
section
variable {X : Cx} {W : Wis} {a b c : Expr} {pos : Pos}
theorem ed_tupRev {p p2 pos pos2 : Pos} {f : SE} (hc : X.calm = true) (hm : X.mg "tuple" = none) (hm2 : X.mg "reversed" = none) (he : PE X a (tD X.K W f)) (hg : Gl X "tuple" := by rfl) (hg2 : Gl X "reversed" := by rfl)
    (hs : starEach [a] X.env = (false, eval a X.env) :: starEach [] X.env := by rfl)
    (hs2 : starEach [.Call (.Name "reversed" p2) [a] [] pos2] X.env = (false, eval (.Call (.Name "reversed" p2) [a] [] pos2) X.env) :: starEach [] X.env := by rfl) :
    PE X (.Call (.Name "tuple" p) [.Call (.Name "reversed" p2) [a] [] pos2] [] pos) (tD X.K W (eUn revD f)) :=
  pe_weak (RT.pe_tupRevT hc hg hm hg2 hm2 he hs hs2) fun σ H Q q => by
    obtain ⟨ρ, hE, q⟩ := q
    refine tD_mono (tD_then hE q) fun x H1 ⟨d, hx, s1, hE1, q1⟩ => ?_
    obtain ⟨r, hr, q2⟩ := Res.post_of q1
    obtain ⟨p, xs, ds, rfl, rfl, h1, h2⟩ : ∃ p xs ds, x = .ref p ∧ d = .tuple ds ∧ SqT X.K H1 p xs ∧ DpAll X.K H1 xs ds := by
      cases hx with
      | tup h1 h2 => exact ⟨_, _, _, rfl, rfl, h1, h2⟩
      | _ => simp [revD] at hr
    simp only [revD, Option.some.injEq] at hr
    subst hr
    exact ⟨_, _, rfl, h1, fun p hp => q2 _ (same_new hp _) _ (.tup (SqT.of upd_same) (dps_mono (same_new hp _) _ _ (dps_rev h2)))⟩
theorem ed_get2 {apos : Pos} {f g h : SE} (hu : X.A.units + 1 < cLine) (ho : PE X a (tD X.K W f)) (he : PE X b (tD X.K W g)) (hf : PE X c (tD X.K W h)) (m : M2 X a "get" apos b c pos := by exact ⟨rfl, rfl, rfl, rfl⟩) :
    PE X (.Call (.Attribute a "get" apos) [b, c] [] pos) (tD X.K W (eGet2 f g h)) := by
  refine pe_weak (pe_dget2 hu ho he hf m) fun σ H Q q => ?_
  obtain ⟨ρ, hE, q⟩ := q
  refine tD_mono (tD_then hE q) fun x H1 ⟨d, hx, s1, hE1, q1⟩ => ?_
  obtain ⟨p, kvs, rfl, rfl, h1, h2⟩ : ∃ p kvs, x = .ref p ∧ d = .dict (kvD kvs) ∧ H1 p = some (.dK kvs) ∧ ∀ q ∈ kvs, (scaD q.2).isSome = true := by
    cases hx with
    | dct h1 h2 => exact ⟨_, _, rfl, rfl, h1, h2⟩
    | _ => exact q1.elim
  refine ⟨p, rfl, .inl ⟨kvs, .inl h1⟩, tD_mono (tD_then hE1 q1) fun y H2 ⟨e, hy, s2, hE2, q2⟩ => ?_⟩
  refine tD_mono (tD_then hE2 q2) fun z H3 ⟨e2, hz, s3, hE3, q3⟩ => ?_
  obtain ⟨r, hr, q4⟩ := Res.post_of q3
  obtain ⟨k, rfl, rfl⟩ : ∃ k, e = .str k ∧ y = .str k := by
    cases hy with
    | str z => exact ⟨z, rfl, rfl⟩
    | _ => simp [getD2] at hr
  simp only [getD2, lookS_kv, Option.some.injEq] at hr
  refine ⟨valV kvs (.inr k), DGet.k (k := .inr k) (s3 _ _ (s2 _ _ h1)), ?_⟩
  cases hv : valV kvs (.inr k) with
  | none =>
    rw [hv] at hr
    subst hr
    exact q4.now _ hz
  | some v =>
    rw [hv] at hr
    subst hr
    have hm : (scaD v).isSome = true := by
      simp only [valV, Option.map_eq_some_iff] at hv
      obtain ⟨kv, h3, rfl⟩ := hv
      exact h2 _ (List.mem_of_find?_eq_some h3)
    obtain ⟨dv, hd⟩ := Option.isSome_iff_exists.mp hm
    refine q4.now _ ?_
    show Dp X.K H3 v ((scaD v).getD .none)
    rw [hd]
    exact dp_sca hd
/-- a place that is there gets a written thing -/
def sPut (i : Nat) (d : PyData) : SS := fun ρ => if i < ρ.length then .ok (.nx (ρ.set i (some d))) else .bad
@[simp] theorem sPut_ap {i : Nat} {d : PyData} {ρ : PEnv} : sPut i d ρ = if i < ρ.length then .ok (.nx (ρ.set i (some d))) else .bad := nrfl rfl
/-- x = {..}; x.update({..}): written texts and numbers -/
theorem pssd_dict2 {i : Nat} {x : Str} {keys keys2 : List (Option Expr)} {vals vals2 : List Expr} {px px2 p2 p3 pos apos cpos epos : Pos} {rest : List Stmt} {G : SS} (A B : List (Key × V)) (hN : X.N.Nodup)
    (hp : PPs X p2 keys vals (A.map fun p => (tC (kV p.1), tC p.2))) (hp2 : PPs X p3 keys2 vals2 (B.map fun p => (tC (kV p.1), tC p.2))) (hr : PSs X rest (tsD X.K W G))
    (hi : X.N[i]? = some x := by rfl) (hx : Loc X.env.scope x := by first | exact Or.inl rfl | exact Or.inr rfl) (hv : Vis X.env.scope x := by first | exact Or.inl rfl | exact Or.inr rfl | rfl)
    (hall : keys.all (·.isSome) = true := by rfl) (hl : keys.length = vals.length := by rfl) (h0 : keys ≠ [] := by exact List.cons_ne_nil _ _) (h15 : keys.length ≤ 15 := by decide) (hk : A.length ≤ 15 := by decide)
    (hall2 : keys2.all (·.isSome) = true := by rfl) (hl2 : keys2.length = vals2.length := by rfl) (h02 : keys2 ≠ [] := by exact List.cons_ne_nil _ _) (h152 : keys2.length ≤ 15 := by decide) (hk2 : B.length ≤ 15 := by decide)
    (hsc : ∀ p ∈ mergeK (mergeK [] A) (mergeK [] B), (scaD p.2).isSome = true := by decide)
    (hs : swapsWith (.Dict keys vals p2) (some (.Name x px)) pos.line X.env = pure false := by rfl)
    (hs2 : swapsWith (.Call (.Attribute (.Name x px2) "update" apos) [.Dict keys2 vals2 p3] [] cpos) none epos.line X.env = pure false := by rfl)
    (hf : X.fn x = true ∨ X.env.scope.names.lookup x = some .local := by first | exact .inl rfl | exact .inr rfl | assumption)
    (hst : starEach [Expr.Dict keys2 vals2 p3] X.env = [(false, eval (Expr.Dict keys2 vals2 p3) X.env)] := by rfl) (hbase : attributeBase (.Name x px2) "update" X.env (eval (.Name x px2) X.env) = eval (.Name x px2) X.env := by rfl) (hline : (apos.endLine == cpos.line) = true := by rfl)
    (hd : (x == ("__debug__" : Str)) = false := by decide) (hcd : (x == ("__classdict__" : Str)) = false := by decide) :
    PSs X (.Assign [.Name x px] (.Dict keys vals p2) pos :: .Expr (.Call (.Attribute (.Name x px2) "update" apos) [.Dict keys2 vals2 p3] [] cpos) epos :: rest) (tsD X.K W (sSeq (sPut i (.dict (kvD (mergeK (mergeK [] A) (mergeK [] B))))) G)) := by
  have t1 := ps_set hN hi hx (pe_disp hp hall hl h0 h15) hs hf
  have t2 := ps_expr (pe_dupd (pe_var (X := X) (i := i) hi hv hd hcd) (pe_disp hp2 hall2 hl2 h02 h152) hst hbase hline) hs2
  refine pss_weak (pss_cons t1 (pss_cons t2 hr)) fun D σ H ⟨ρ, hE, q⟩ => ?_
  unfold sSeq sPut at q
  split at q
  case isFalse => exact q.elim
  rename_i hlt
  intro p hpn
  refine pairs_then ⟨upd_same, A, rfl, hk, ?_⟩
  rw [upd_upd]
  refine ⟨.ref p, ?_, ⟨p, _, rfl, upd_same⟩, ?_⟩
  · rw [List.getElem?_set_self (by rw [← hE.1]; exact hlt)]
  intro q2 hq2
  have hpq : p ≠ q2 := fun e => by
    subst e
    rw [upd_same] at hq2
    cases hq2
  refine pairs_then ⟨upd_same, B, rfl, hk2, ?_⟩
  rw [upd_upd]
  have hA := length_mergeK A []
  have hB := length_mergeK B []
  rw [List.length_nil] at hA hB
  refine ⟨p, q2, mergeK [] A, mergeK [] B, rfl, rfl, hpq, by rw [upd_ne hpq, upd_same], upd_same, by rw [sizeLine_eq]; omega, ?_⟩
  have s0 : Same H (upd (upd (upd H p (.dK (mergeK [] A))) q2 (.dK (mergeK [] B))) p (.dK (mergeK (mergeK [] A) (mergeK [] B)))) := fun b u e => by
    have hb : b ≠ p := ne_of_none e hpn
    have hb2 : b ≠ q2 := fun e2 => by
      subst e2
      rw [upd_ne hb, e] at hq2
      cases hq2
    rw [upd_ne hb, upd_ne hb2, upd_ne hb]
    exact e
  exact ⟨_, (hE.mono s0).set (.dct upd_same hsc), Res.post.mono q (fun d r => r.on s0) fun n r => r.on s0⟩
end
end DL

set_option Elab.async false
set_option linter.all false
set_option maxRecDepth 100000
set_option maxHeartbeats 2000000
/-! the functions that bodies are read as, applied: for simp -/
namespace DL
open PySem L2 PyProof.Rows
section
variable {f g h : SE} {t u : ST} {F G : SS} {ρ : PEnv} {i n : Nat} {d : PyData} {a b : SA}
@[simp] theorem eVar_ap : eVar i ρ = match ρ[i]? with
  | some (some d) => .ok d
  | _ => .bad := nrfl rfl
@[simp] theorem eC_ap : eC d ρ = .ok d := nrfl rfl
@[simp] theorem eOp_ap {o : PyData → PyData → Option PyData} : eOp o f g ρ = (f ρ).bind fun x => (g ρ).bind fun y => Res.of (o x y) := nrfl rfl
@[simp] theorem eUn_ap {o : PyData → Option PyData} : eUn o f ρ = (f ρ).bind fun x => Res.of (o x) := nrfl rfl
@[simp] theorem eArgs_ap {o : List PyData → Option PyData} : eArgs o a ρ = (a ρ).bind fun xs => Res.of (o xs) := nrfl rfl
@[simp] theorem eCall_ap {o : List PyData → Res PyData} : eCall o a ρ = (a ρ).bind o := nrfl rfl
@[simp] theorem asT_ap : asT f ρ = (f ρ).bind fun x => Res.of (truth x) := nrfl rfl
@[simp] theorem asTru_ap : asTru f ρ = (f ρ).bind fun x => Res.of (DL.truthy x) := nrfl rfl
@[simp] theorem tAnd_ap : DL.tAnd t u ρ = (t ρ).bind fun b => if b then u ρ else .ok false := nrfl rfl
@[simp] theorem tOr_ap : DL.tOr t u ρ = (t ρ).bind fun b => if b then .ok true else u ρ := nrfl rfl
@[simp] theorem tNot_ap : DL.tNot t ρ = (t ρ).bind fun b => .ok (!b) := nrfl rfl
@[simp] theorem eAnd_ap : eAnd f g ρ = (f ρ).bind fun x => (Res.of (truth x)).bind fun b => if b then g ρ else .ok (.bool false) := nrfl rfl
@[simp] theorem eOr_ap : eOr f g ρ = (f ρ).bind fun x => (Res.of (truth x)).bind fun b => if b then .ok (.bool true) else g ρ := nrfl rfl
@[simp] theorem eNot_ap : eNot f ρ = (f ρ).bind fun x => (Res.of (truth x)).bind fun b => .ok (.bool (!b)) := nrfl rfl
@[simp] theorem eChain_ap {o p : PyData → PyData → Option PyData} : eChain o p f g h ρ = (f ρ).bind fun x => (g ρ).bind fun y => (Res.of (o x y)).bind fun z => (Res.of (truth z)).bind fun k =>
  if k then (h ρ).bind fun w => Res.of (p y w) else .ok (.bool false) := nrfl rfl
@[simp] theorem aNil_ap : aNil ρ = .ok [] := nrfl rfl
@[simp] theorem aCons_ap : aCons f a ρ = (f ρ).bind fun x => (a ρ).bind fun xs => .ok (x :: xs) := nrfl rfl
@[simp] theorem eTup_ap : eTup a ρ = (a ρ).bind fun xs => if xs.length ≤ big then .ok (.tuple xs) else .bad := nrfl rfl
@[simp] theorem eLst_ap : eLst a ρ = (a ρ).bind fun xs => if xs.length ≤ big then .ok (.list xs) else .bad := nrfl rfl
@[simp] theorem oNone_ap : oNone ρ = .ok none := nrfl rfl
@[simp] theorem oSome_ap : oSome f ρ = (f ρ).bind fun x => match x with
  | .int i => .ok (some i)
  | _ => .bad := nrfl rfl
@[simp] theorem eCut_ap {l r : PEnv → Res (Option Int)} : eCut f l r ρ = (f ρ).bind fun x => (l ρ).bind fun lo => (r ρ).bind fun hi => Res.of (cutD lo hi x) := nrfl rfl
@[simp] theorem eM1_ap {o : Str → PyData → Option PyData} : eM1 o f g ρ = (f ρ).bind fun x => match x with
  | .str z => (g ρ).bind fun y => Res.of (o z y)
  | _ => .bad := nrfl rfl
@[simp] theorem eM0_ap {o : Str → Option PyData} : eM0 o f ρ = (f ρ).bind fun x => match x with
  | .str z => Res.of (o z)
  | _ => .bad := nrfl rfl
@[simp] theorem eMenu_ap {kvs : List (Key × V)} : eMenu kvs f ρ = (f ρ).bind fun x => Res.of (menuD kvs x) := nrfl rfl
@[simp] theorem sList_ap : sList f ρ = (f ρ).bind fun x => match x with
  | .list xs => .ok xs
  | _ => .bad := nrfl rfl
@[simp] theorem sTup_ap : sTup f ρ = (f ρ).bind fun x => match x with
  | .tuple xs => .ok xs
  | _ => .bad := nrfl rfl
@[simp] theorem sStr_ap : sStr f ρ = (f ρ).bind fun x => match x with
  | .str z => .ok (z.cps.toList.map fun c => .str ⟨#[c]⟩)
  | _ => .bad := nrfl rfl
@[simp] theorem sRng1_ap : sRng1 a ρ = (a ρ).bind fun xs => match xs with
  | [.int j] => if -big ≤ j ∧ j ≤ big then .ok (upTo 0 j.toNat) else .bad
  | _ => .bad := nrfl rfl
@[simp] theorem sRng2_ap : sRng2 a ρ = (a ρ).bind fun xs => match xs with
  | [.int i, .int j] => if -big ≤ i ∧ i ≤ big ∧ -big ≤ j ∧ j ≤ big then .ok (upTo i (j - i).toNat) else .bad
  | _ => .bad := nrfl rfl
@[simp] theorem tTrue_ap : tTrue ρ = .ok true := nrfl rfl
theorem eLc_ap : eLc i a t f ρ = (a ρ).bind fun xs => if xs.length ≤ big then (Res.calm (lcGo (fun d => (ρ.set i none).set i (some d)) t f xs)).bind fun ys => .ok (.list ys) else .bad := nrfl rfl
@[simp] theorem sNext_ap : sNext ρ = .ok (.nx ρ) := nrfl rfl
@[simp] theorem sSeq_ap : sSeq F G ρ = (F ρ).bind fun o => match o with
  | .nx ρ' => G ρ'
  | .rt d => .ok (.rt d)
  | .bk ρ' => .ok (.bk ρ')
  | .ct ρ' => .ok (.ct ρ') := nrfl rfl
@[simp] theorem sSet_ap : sSet i f ρ = (f ρ).bind fun d => .ok (.nx (ρ.set i (some d))) := nrfl rfl
@[simp] theorem sDrop_ap : sDrop f ρ = (f ρ).bind fun _ => .ok (.nx ρ) := nrfl rfl
@[simp] theorem sRet_ap : sRet f ρ = (f ρ).bind fun d => .ok (.rt d) := nrfl rfl
@[simp] theorem sRetN_ap : sRetN ρ = .ok (.rt .none) := nrfl rfl
@[simp] theorem sIf_ap : sIf t F G ρ = (t ρ).bind fun b => if b then F ρ else G ρ := nrfl rfl
@[simp] theorem sBreak_ap : sBreak ρ = .ok (.bk ρ) := nrfl rfl
@[simp] theorem sCont_ap : sCont ρ = .ok (.ct ρ) := nrfl rfl
theorem sFor_ap {k : SG} : sFor a k F ρ = (a ρ).bind fun ds => forGo k F ds ρ := nrfl rfl
theorem sWh_ap : sWh n t F ρ = whGo t F n ρ := nrfl rfl
@[simp] theorem gN_ap : gN i d ρ = some (ρ.set i (some d)) := nrfl rfl
@[simp] theorem gsNil_ap : gsNil [] ρ = some ρ := nrfl rfl
@[simp] theorem gsCons_ap {k : SG} {ks : SGs} {ds : List PyData} : gsCons k ks (d :: ds) ρ = (k d ρ).bind fun ρ' => ks ds ρ' := nrfl rfl
@[simp] theorem gT_ap {ks : SGs} {ds : List PyData} : gT n ks (.tuple ds) ρ = if ds.length = n then ks ds ρ else none := nrfl rfl
@[simp] theorem sAsg_ap {k : SG} : sAsg f k ρ = (f ρ).bind fun d => (Res.of (k d ρ)).bind fun ρ' => .ok (.nx ρ') := nrfl rfl
@[simp] theorem truth_bool {b : Bool} : truth (.bool b) = some b := nrfl rfl
@[simp] theorem addD_int {i j : Int} : addD (.int i) (.int j) = some (.int (i + j)) := nrfl rfl
@[simp] theorem subD_int {i j : Int} : subD (.int i) (.int j) = some (.int (i - j)) := nrfl rfl
@[simp] theorem negD_int {i : Int} : negD (.int i) = some (.int (-i)) := nrfl rfl
@[simp] theorem eqD_int {i j : Int} : eqD (.int i) (.int j) = some (.bool (i == j)) := nrfl rfl
@[simp] theorem eqD_str {i j : Str} : eqD (.str i) (.str j) = some (.bool (i == j)) := nrfl rfl
@[simp] theorem neD_int {i j : Int} : neD (.int i) (.int j) = some (.bool (!(i == j))) := nrfl rfl
@[simp] theorem ltD_int {i j : Int} : ltD (.int i) (.int j) = some (.bool (decide (i < j))) := nrfl rfl
@[simp] theorem leD_int {i j : Int} : leD (.int i) (.int j) = some (.bool (decide (i ≤ j))) := nrfl rfl
@[simp] theorem gtD_int {i j : Int} : gtD (.int i) (.int j) = some (.bool (decide (j < i))) := nrfl rfl
@[simp] theorem geD_int {i j : Int} : geD (.int i) (.int j) = some (.bool (decide (j ≤ i))) := nrfl rfl
@[simp] theorem lenD_list {xs : List PyData} : lenD [.list xs] = some (.int xs.length) := nrfl rfl
@[simp] theorem lenD_tuple {xs : List PyData} : lenD [.tuple xs] = some (.int xs.length) := nrfl rfl
@[simp] theorem ixD_list {xs : List PyData} {i : Int} : ixD (.list xs) (.int i) = atI xs i := nrfl rfl
@[simp] theorem ixD_tuple {xs : List PyData} {i : Int} : ixD (.tuple xs) (.int i) = atI xs i := nrfl rfl
@[simp] theorem divD_pos {i j : Int} (h1 : 0 < j) (h2 : j < 1073741824) : divD (.int i) (.int j) = some (.int (i / j)) := if_pos ⟨h1, h2⟩
@[simp] theorem modD_pos {i j : Int} (h : 0 < j) : modD (.int i) (.int j) = some (.int (i % j)) := if_pos h
theorem mulD_l {i j : Int} (h : small64 i = true) : mulD (.int i) (.int j) = some (.int (i * j)) := by simp [mulD, h]
theorem mulD_r {i j : Int} (h : small64 j = true) : mulD (.int i) (.int j) = some (.int (i * j)) := by simp [mulD, h]
theorem small64_of {i : Int} (h1 : -1000000 ≤ i) (h2 : i ≤ 1000000) : small64 i = true := by
  simp only [small64, decide_eq_true_eq]
  omega
@[simp] theorem ite_bind {α β : Type} {c : Prop} [Decidable c] {x y : Res α} {k : α → Res β} : (if c then x else y).bind k = if c then x.bind k else y.bind k := by split <;> rfl
theorem bind_assoc {α β γ : Type} {x : Res α} {k : α → Res β} {l : β → Res γ} : (x.bind k).bind l = x.bind fun a => (k a).bind l := by cases x <;> rfl
/-! comprehensions, loops -/
theorem lcGo_map {env : PyData → PEnv} {t : ST} {f : SE} {v : PyData → PyData} : ∀ {xs : List PyData}, (∀ d ∈ xs, t (env d) = .ok true ∧ f (env d) = .ok (v d) ∧ frz (v d) = true) → lcGo env t f xs = .ok (xs.map v)
  | [], _ => rfl
  | d :: ds, h => by
    obtain ⟨h1, h2, h3⟩ := h d List.mem_cons_self
    unfold lcGo
    rw [h1, h2, lcGo_map fun e he => h e (List.mem_cons_of_mem _ he)]
    simp [Res.calm, h3]
theorem lcGo_filter {env : PyData → PEnv} {t : ST} {f : SE} {p : PyData → Bool} {v : PyData → PyData} : ∀ {xs : List PyData}, (∀ d ∈ xs, t (env d) = .ok (p d) ∧ (p d = true → f (env d) = .ok (v d) ∧ frz (v d) = true)) → lcGo env t f xs = .ok ((xs.filter p).map v)
  | [], _ => rfl
  | d :: ds, h => by
    obtain ⟨h1, h2⟩ := h d List.mem_cons_self
    unfold lcGo
    rw [h1, lcGo_filter fun e he => h e (List.mem_cons_of_mem _ he)]
    cases hp : p d with
    | false => simp [Res.calm, hp]
    | true =>
      obtain ⟨h3, h4⟩ := h2 hp
      simp [Res.calm, hp, h3, h4]
theorem upTo_len {lo : Int} {n : Nat} : (upTo lo n).length = n := by simp [upTo]
theorem mem_upTo {lo : Int} {n : Nat} {d : PyData} : d ∈ upTo lo n ↔ ∃ i : Nat, i < n ∧ d = .int (lo + i) := by
  simp only [upTo, List.mem_map, List.mem_range]
  exact ⟨fun ⟨i, h1, h2⟩ => ⟨i, h1, h2.symm⟩, fun ⟨i, h1, h2⟩ => ⟨i, h1, h2.symm⟩⟩
/-- a loop that runs through, by what holds between the turns -/
theorem forGo_inv {k : SG} {F : SS} (I : Nat → PEnv → Prop) : ∀ {xs : List PyData} {i : Nat} {ρ : PEnv}, I i ρ → (∀ (j : Nat) (d : PyData) (ρ : PEnv), xs[j]? = some d → I (i + j) ρ → ∃ ρ1 ρ2, k d ρ = some ρ1 ∧ (F ρ1 = .ok (.nx ρ2) ∨ F ρ1 = .ok (.ct ρ2)) ∧ I (i + j + 1) ρ2) →
    ∃ ρ', forGo k F xs ρ = .ok (.nx ρ') ∧ I (i + xs.length) ρ'
  | [], i, ρ, h, _ => ⟨ρ, rfl, h⟩
  | d :: ds, i, ρ, h, hs => by
    obtain ⟨ρ1, ρ2, h1, h2, h3⟩ := hs 0 d ρ rfl h
    obtain ⟨ρ', h4, h5⟩ := forGo_inv I (xs := ds) (i := i + 1) (ρ := ρ2) (by simpa using h3) fun j e ρ he hi => by
      obtain ⟨ρ1, ρ2, a, b, c⟩ := hs (j + 1) e ρ (by simpa using he) (by rw [show i + (j + 1) = i + 1 + j by omega]; exact hi)
      exact ⟨ρ1, ρ2, a, b, by rw [show i + 1 + j + 1 = i + (j + 1) + 1 by omega]; exact c⟩
    refine ⟨ρ', ?_, by rw [List.length_cons, show i + (ds.length + 1) = i + 1 + ds.length by omega]; exact h5⟩
    unfold forGo
    rw [h1]
    rcases h2 with h2 | h2 <;> simp [h2, h4]
/-- a while that runs through, by what holds between the turns and a measure -/
theorem whGo_inv {t : ST} {F : SS} (I : Nat → PEnv → Prop) (Z : PEnv → Prop) (hz : ∀ m ρ, I m ρ → (∃ b, t ρ = .ok b ∧ (b = false → Z ρ) ∧ (b = true → ∃ m' ρ2, m' < m ∧ (F ρ = .ok (.nx ρ2) ∨ F ρ = .ok (.ct ρ2)) ∧ I m' ρ2))) :
    ∀ (n m : Nat) (ρ : PEnv), m < n → I m ρ → ∃ ρ', whGo t F n ρ = .ok (.nx ρ') ∧ Z ρ'
  | 0, m, ρ, h, _ => absurd h (Nat.not_lt_zero _)
  | n + 1, m, ρ, h, hi => by
    obtain ⟨b, h1, h2, h3⟩ := hz m ρ hi
    unfold whGo
    rw [h1]
    cases b with
    | false => exact ⟨ρ, rfl, h2 rfl⟩
    | true =>
      obtain ⟨m', ρ2, h4, h5, h6⟩ := h3 rfl
      obtain ⟨ρ', h7, h8⟩ := whGo_inv I Z hz n m' ρ2 (by omega) h6
      refine ⟨ρ', ?_, h8⟩
      rcases h5 with h5 | h5 <;> simp [h5, h7]
end
end DL

set_option Elab.async false
set_option linter.all false
set_option maxRecDepth 100000
set_option maxHeartbeats 4000000
namespace My
open PySem L2 DL PyProof.Rows
def top (i : Nat) : Stmt := PySem.Challenge.pw_showtree_k09_showings.main.body.getD i (.Pass ⟨0, 0, 0, 0⟩)
def gl_COUNTS : PyData := (.tuple [(.tuple [(.str "given"), (.int 0)]), (.tuple [(.str "both"), (.int 2)]), (.tuple [(.str "left"), (.int 1)]), (.tuple [(.str "right"), (.int 1)]), (.tuple [(.str "one"), (.int 1)]), (.tuple [(.str "other"), (.int 1)])])
def gl_MORE_COUNTS : PyData := (.tuple [(.tuple [(.str "cases"), (.int 3)]), (.tuple [(.str "suppose"), (.int 1)]), (.tuple [(.str "onward"), (.int 2)]), (.tuple [(.str "any"), (.int 1)])])
abbrev s_count_of : Stmt := top 3
abbrev N_count_of : List Str := ["rule", "word", "count"]
abbrev s_is_from : Stmt := top 4
abbrev N_is_from : List Str := ["row", "given", "statement", "supposed", "one"]
abbrev s_is_pair : Stmt := top 5
abbrev N_is_pair : List Str := ["statement", "word"]
abbrev s_by_parts : Stmt := top 6
abbrev N_by_parts : List Str := ["row", "ups", "whole", "given", "statement", "rule"]
abbrev s_by_cases : Stmt := top 7
abbrev N_by_cases : List Str := ["row", "ups", "whole", "given", "statement"]
abbrev s_by_then : Stmt := top 8
abbrev N_by_then : List Str := ["row", "ups", "whole", "given", "statement", "rule"]
abbrev s_follows : Stmt := top 9
abbrev N_follows : List Str := ["rows", "number", "row", "ups", "up"]
abbrev s_faults : Stmt := top 10
abbrev N_faults : List Str := ["rows", "number"]
abbrev s_shows : Stmt := top 11
abbrev N_shows : List Str := ["rows", "statement"]
abbrev s_law_cell_at : Stmt := top 13
abbrev N_law_cell_at : List Str := ["_law_script", "_law_k"]
abbrev s_law_name_by : Stmt := top 14
abbrev N_law_name_by : List Str := ["_law_seed", "_law_k", "_law_letters", "_law_size", "_law_word", "_law_spot", "_law_sign", "_law_j"]
abbrev s_law_from : Stmt := top 15
abbrev N_law_from : List Str := ["_law_row", "_law_given", "_law_statement", "_law_supposed", "_law_one"]
abbrev s_law_ups_right : Stmt := top 16
abbrev N_law_ups_right : List Str := ["_law_row", "_law_ups", "_law_first", "_law_given", "_law_statement", "_law_rule", "_law_place", "_law_k"]
abbrev s_law_follows : Stmt := top 17
abbrev N_law_follows : List Str := ["_law_rows", "_law_number", "_law_counts", "_law_row", "_law_up"]
abbrev s_law_showing_by : Stmt := top 18
abbrev N_law_showing_by : List Str := ["_law_seed", "_law_cell", "_law_a", "_law_b", "_law_both", "_law_way", "_law_rows", "_law_some", "_law_goes", "_law_none"]
abbrev s_law_moved : Stmt := top 19
abbrev N_law_moved : List Str := ["_law_rows", "_law_many", "_law_seed", "_law_one", "_law_ahead", "_law_k", "_law_row", "_law_up"]
abbrev s_law_changed : Stmt := top 20
abbrev N_law_changed : List Str := ["_law_rows", "_law_cell", "_law_seed", "_law_one", "_law_last", "_law_way", "_law_at", "_law_row"]
abbrev s_law : Stmt := top 21
abbrev N_law : List Str := ["_law_script", "_law_seed", "_law_cell", "_law_right", "_law_statement", "_law_rows", "_law_due", "_law_kept", "_law_turn", "_law_found", "_law_number"]
/-- what the top has left -/
structure Txt (K : PySem.W.Frag) (mg : Str → Option Value) : Prop where
  d_count_of : DefAt K mg "count_of" s_count_of ["rule"]
  d_is_from : DefAt K mg "is_from" s_is_from ["row", "given", "statement", "supposed"]
  d_is_pair : DefAt K mg "is_pair" s_is_pair ["statement", "word"]
  d_by_parts : DefAt K mg "by_parts" s_by_parts ["row", "ups"]
  d_by_cases : DefAt K mg "by_cases" s_by_cases ["row", "ups"]
  d_by_then : DefAt K mg "by_then" s_by_then ["row", "ups"]
  d_follows : DefAt K mg "follows" s_follows ["rows", "number"]
  d_faults : DefAt K mg "faults" s_faults ["rows"]
  d_shows : DefAt K mg "shows" s_shows ["rows", "statement"]
  d_law_cell_at : DefAt K mg "_law_cell_at" s_law_cell_at ["_law_script", "_law_k"]
  d_law_name_by : DefAt K mg "_law_name_by" s_law_name_by ["_law_seed", "_law_k"]
  d_law_from : DefAt K mg "_law_from" s_law_from ["_law_row", "_law_given", "_law_statement", "_law_supposed"]
  d_law_ups_right : DefAt K mg "_law_ups_right" s_law_ups_right ["_law_row", "_law_ups"]
  d_law_follows : DefAt K mg "_law_follows" s_law_follows ["_law_rows", "_law_number"]
  d_law_showing_by : DefAt K mg "_law_showing_by" s_law_showing_by ["_law_seed", "_law_cell"]
  d_law_moved : DefAt K mg "_law_moved" s_law_moved ["_law_rows", "_law_many", "_law_seed"]
  d_law_changed : DefAt K mg "_law_changed" s_law_changed ["_law_rows", "_law_cell", "_law_seed"]
  d_law : DefAt K mg "law" s_law ["_law_script"]
  z_all : mg "all" = none
  z_bool : mg "bool" = none
  z_int : mg "int" = none
  z_isinstance : mg "isinstance" = none
  z_len : mg "len" = none
  z_list : mg "list" = none
  z_range : mg "range" = none
  z_reversed : mg "reversed" = none
  z_tuple : mg "tuple" = none
  gl_COUNTS : GlD K mg "COUNTS" gl_COUNTS
  gl_MORE_COUNTS : GlD K mg "MORE_COUNTS" gl_MORE_COUNTS
/-! what the bodies are read as -/
def F_count_of : SS :=
  (sSeq (sFor (sTup (eOp addD (eC gl_COUNTS) (eC gl_MORE_COUNTS))) (gT 2 (gsCons (gN 1) (gsCons (gN 2) gsNil))) (sIf (asT (eOp eqD (eVar 1) (eVar 0))) (sRet (eVar 2)) sNext))
    (sRet (eC .none)))
def sem_count_of : List PyData → Res PyData := bodyD 3 F_count_of
def F_is_from : SS :=
  (sRet (eAnd (eOp eqD (eOp ixD (eVar 0) (eC (.int 1))) (eVar 2)) (eArgs allD (aCons (eLc 4 (sTup (eOp ixD (eVar 0) (eC (.int 0)))) tTrue (eOr (eOp inD (eVar 4) (eVar 1)) (eOp inD (eVar 4) (eVar 3)))) aNil))))
def sem_is_from : List PyData → Res PyData := bodyD 5 F_is_from
def F_is_pair : SS :=
  (sRet (eOp eqD (eOp ixD (eVar 0) (eC (.int 0))) (eVar 1)))
def sem_is_pair : List PyData → Res PyData := bodyD 2 F_is_pair
def F_by_parts : SS :=
  (sSeq (sAsg (eCut (eVar 0) oNone (oSome (eC (.int 3)))) (gT 3 (gsCons (gN 3) (gsCons (gN 4) (gsCons (gN 5) gsNil)))))
    (sSeq (sIf (asT (eOp eqD (eVar 5) (eC (.str "both")))) (sSeq (sIf (DL.tNot (asT (eCall sem_is_pair (aCons (eVar 4) (aCons (eC (.str "and")) aNil))))) (sRet (eC (.bool false))) sNext)
    (sRet (eAnd (eCall sem_is_from (aCons (eOp ixD (eVar 1) (eC (.int 0))) (aCons (eVar 3) (aCons (eOp ixD (eVar 4) (eC (.int 1))) (aCons (eTup aNil) aNil))))) (eCall sem_is_from (aCons (eOp ixD (eVar 1) (eC (.int 1))) (aCons (eVar 3) (aCons (eOp ixD (eVar 4) (eC (.int 2))) (aCons (eTup aNil) aNil)))))))) sNext)
    (sSeq (sIf (asT (eOp inD (eVar 5) (eTup (aCons (eC (.str "one")) (aCons (eC (.str "other")) aNil))))) (sRet (eAnd (eCall sem_is_pair (aCons (eVar 4) (aCons (eC (.str "or")) aNil))) (eCall sem_is_from (aCons (eOp ixD (eVar 1) (eC (.int 0))) (aCons (eVar 3) (aCons (eOp ixD (eVar 4) (eOp addD (eC (.int 1)) (eArgs intD (aCons (eOp eqD (eVar 5) (eC (.str "other"))) aNil)))) (aCons (eTup aNil) aNil))))))) sNext)
    (sSeq (sSet 2 (eOp ixD (eOp ixD (eVar 1) (eC (.int 0))) (eC (.int 1))))
    (sSeq (sIf (DL.tOr (DL.tNot (asT (eCall sem_is_pair (aCons (eVar 2) (aCons (eC (.str "and")) aNil))))) (DL.tNot (asT (eCall sem_is_from (aCons (eOp ixD (eVar 1) (eC (.int 0))) (aCons (eVar 3) (aCons (eVar 2) (aCons (eTup aNil) aNil)))))))) (sRet (eC (.bool false))) sNext)
    (sRet (eOp eqD (eVar 4) (eOp ixD (eVar 2) (eOp addD (eC (.int 1)) (eArgs intD (aCons (eOp eqD (eVar 5) (eC (.str "right"))) aNil)))))))))))
def sem_by_parts : List PyData → Res PyData := bodyD 6 F_by_parts
def F_by_cases : SS :=
  (sSeq (sAsg (eCut (eVar 0) oNone (oSome (eC (.int 2)))) (gT 2 (gsCons (gN 3) (gsCons (gN 4) gsNil))))
    (sSeq (sSet 2 (eOp ixD (eOp ixD (eVar 1) (eC (.int 0))) (eC (.int 1))))
    (sSeq (sIf (DL.tOr (DL.tNot (asT (eCall sem_is_pair (aCons (eVar 2) (aCons (eC (.str "or")) aNil))))) (DL.tNot (asT (eCall sem_is_from (aCons (eOp ixD (eVar 1) (eC (.int 0))) (aCons (eVar 3) (aCons (eVar 2) (aCons (eTup aNil) aNil)))))))) (sRet (eC (.bool false))) sNext)
    (sRet (eAnd (eCall sem_is_from (aCons (eOp ixD (eVar 1) (eC (.int 1))) (aCons (eVar 3) (aCons (eVar 4) (aCons (eTup (aCons (eOp ixD (eVar 2) (eC (.int 1))) aNil)) aNil))))) (eCall sem_is_from (aCons (eOp ixD (eVar 1) (eC (.int 2))) (aCons (eVar 3) (aCons (eVar 4) (aCons (eTup (aCons (eOp ixD (eVar 2) (eC (.int 2))) aNil)) aNil))))))))))
def sem_by_cases : List PyData → Res PyData := bodyD 5 F_by_cases
def F_by_then : SS :=
  (sSeq (sAsg (eCut (eVar 0) oNone (oSome (eC (.int 3)))) (gT 3 (gsCons (gN 3) (gsCons (gN 4) (gsCons (gN 5) gsNil)))))
    (sSeq (sIf (asT (eOp eqD (eVar 5) (eC (.str "suppose")))) (sRet (eAnd (eCall sem_is_pair (aCons (eVar 4) (aCons (eC (.str "then")) aNil))) (eCall sem_is_from (aCons (eOp ixD (eVar 1) (eC (.int 0))) (aCons (eVar 3) (aCons (eOp ixD (eVar 4) (eC (.int 2))) (aCons (eTup (aCons (eOp ixD (eVar 4) (eC (.int 1))) aNil)) aNil))))))) sNext)
    (sSeq (sSet 2 (eOp ixD (eOp ixD (eVar 1) (eC (.int 0))) (eC (.int 1))))
    (sSeq (sIf (DL.tOr (DL.tNot (asT (eCall sem_is_pair (aCons (eVar 2) (aCons (eC (.str "then")) aNil))))) (DL.tNot (asT (eCall sem_is_from (aCons (eOp ixD (eVar 1) (eC (.int 0))) (aCons (eVar 3) (aCons (eVar 2) (aCons (eTup aNil) aNil)))))))) (sRet (eC (.bool false))) sNext)
    (sRet (eAnd (eOp eqD (eVar 4) (eOp ixD (eVar 2) (eC (.int 2)))) (eCall sem_is_from (aCons (eOp ixD (eVar 1) (eC (.int 1))) (aCons (eVar 3) (aCons (eOp ixD (eVar 2) (eC (.int 1))) (aCons (eTup aNil) aNil)))))))))))
def sem_by_then : List PyData → Res PyData := bodyD 6 F_by_then
def F_follows : SS :=
  (sSeq (sSet 2 (eOp ixD (eVar 0) (eVar 1)))
    (sSeq (sIf (DL.tOr (asT (eOp neD (eCall sem_count_of (aCons (eOp ixD (eVar 2) (eC (.int 2))) aNil)) (eArgs lenD (aCons (eOp ixD (eVar 2) (eC (.int 3))) aNil)))) (DL.tNot (asT (eArgs allD (aCons (eLc 4 (sTup (eOp ixD (eVar 2) (eC (.int 3)))) tTrue (eChain leD ltD (eC (.int 0)) (eVar 4) (eVar 1))) aNil))))) (sRet (eC (.bool false))) sNext)
    (sSeq (sSet 3 (eLc 4 (sTup (eOp ixD (eVar 2) (eC (.int 3)))) tTrue (eOp ixD (eVar 0) (eVar 4))))
    (sSeq (sIf (asT (eOp eqD (eOp ixD (eVar 2) (eC (.int 2))) (eC (.str "given")))) (sRet (eOp inD (eOp ixD (eVar 2) (eC (.int 1))) (eOp ixD (eVar 2) (eC (.int 0))))) sNext)
    (sSeq (sIf (asT (eOp eqD (eOp ixD (eVar 2) (eC (.int 2))) (eC (.str "any")))) (sRet (eCall sem_is_from (aCons (eOp ixD (eVar 3) (eC (.int 0))) (aCons (eOp ixD (eVar 2) (eC (.int 0))) (aCons (eTup (aCons (eC (.str "false")) aNil)) (aCons (eTup aNil) aNil)))))) sNext)
    (sSeq (sIf (asT (eOp eqD (eOp ixD (eVar 2) (eC (.int 2))) (eC (.str "cases")))) (sRet (eCall sem_by_cases (aCons (eVar 2) (aCons (eVar 3) aNil)))) sNext)
    (sSeq (sIf (asT (eOp inD (eOp ixD (eVar 2) (eC (.int 2))) (eTup (aCons (eC (.str "suppose")) (aCons (eC (.str "onward")) aNil))))) (sRet (eCall sem_by_then (aCons (eVar 2) (aCons (eVar 3) aNil)))) sNext)
    (sRet (eCall sem_by_parts (aCons (eVar 2) (aCons (eVar 3) aNil)))))))))))
def sem_follows : List PyData → Res PyData := bodyD 5 F_follows
def F_faults : SS :=
  (sRet (eLc 1 (sRng1 (aCons (eArgs lenD (aCons (eVar 0) aNil)) aNil)) (DL.tNot (asT (eCall sem_follows (aCons (eVar 0) (aCons (eVar 1) aNil))))) (eVar 1)))
def sem_faults : List PyData → Res PyData := bodyD 2 F_faults
def F_shows : SS :=
  (sSeq (sIf (DL.tOr (asT (eOp eqD (eArgs lenD (aCons (eVar 0) aNil)) (eC (.int 0)))) (asT (eOp neD (eCall sem_faults (aCons (eVar 0) aNil)) (eLst aNil)))) (sRet (eC (.bool false))) sNext)
    (sRet (eAnd (eOp eqD (eOp ixD (eOp ixD (eVar 0) (eUn negD (eC (.int 1)))) (eC (.int 1))) (eVar 1)) (eOp eqD (eArgs lenD (aCons (eOp ixD (eOp ixD (eVar 0) (eUn negD (eC (.int 1)))) (eC (.int 0))) aNil)) (eC (.int 0))))))
def sem_shows : List PyData → Res PyData := bodyD 2 F_shows
def F_law_cell_at : SS :=
  (sSeq (sIf (asT (eOp ltD (eVar 1) (eArgs lenD (aCons (eVar 0) aNil)))) (sRet (eOp ixD (eVar 0) (eVar 1))) sNext)
    (sRet (eC (.int 0))))
def sem_law_cell_at : List PyData → Res PyData := bodyD 2 F_law_cell_at
def F_law_name_by : SS :=
  (sSeq (sSet 2 (eC (.str "abcdefghijklmnopqrstuvwxyz")))
    (sSeq (sSet 3 (eOp addD (eC (.int 1)) (eOp modD (eVar 0) (eC (.int 8)))))
    (sSeq (sSet 4 (eM1 joinD (eC (.str "")) (eLc 7 (sRng1 (aCons (eVar 3) aNil)) tTrue (eOp ixD (eVar 2) (eOp modD (eOp addD (eOp addD (eOp divD (eVar 0) (eC (.int 8))) (eOp mulD (eC (.int 5)) (eVar 7))) (eOp mulD (eVar 7) (eVar 7))) (eC (.int 26)))))))
    (sSeq (sSet 5 (eOp modD (eOp divD (eVar 0) (eC (.int 208))) (eVar 3)))
    (sSeq (sSet 6 (eOp ixD (eVar 2) (eOp modD (eOp addD (eM1 indexD (eVar 2) (eOp ixD (eVar 4) (eVar 5))) (eOp mulD (eVar 1) (eOp addD (eC (.int 1)) (eOp modD (eOp divD (eVar 0) (eC (.int 1664))) (eC (.int 8)))))) (eC (.int 26)))))
    (sSeq (sIf (DL.tAnd (asT (eOp eqD (eVar 1) (eC (.int 2)))) (DL.tAnd (asT (eOp eqD (eOp modD (eOp divD (eVar 0) (eC (.int 13312))) (eC (.int 2))) (eC (.int 1)))) (asT (eOp ltD (eVar 3) (eC (.int 8)))))) (sRet (eOp addD (eVar 4) (eVar 6))) sNext)
    (sRet (eOp addD (eOp addD (eCut (eVar 4) oNone (oSome (eVar 5))) (eVar 6)) (eCut (eVar 4) (oSome (eOp addD (eVar 5) (eC (.int 1)))) oNone)))))))))
def sem_law_name_by : List PyData → Res PyData := bodyD 8 F_law_name_by
def F_law_from : SS :=
  (sRet (eAnd (eOp eqD (eOp ixD (eVar 0) (eC (.int 1))) (eVar 2)) (eArgs allD (aCons (eLc 4 (sTup (eOp ixD (eVar 0) (eC (.int 0)))) tTrue (eOr (eOp inD (eVar 4) (eVar 1)) (eOp inD (eVar 4) (eVar 3)))) aNil))))
def sem_law_from : List PyData → Res PyData := bodyD 5 F_law_from
def F_law_ups_right : SS :=
  (sSeq (sAsg (eCut (eVar 0) oNone (oSome (eC (.int 3)))) (gT 3 (gsCons (gN 3) (gsCons (gN 4) (gsCons (gN 5) gsNil)))))
    (sSeq (sIf (asT (eOp eqD (eVar 5) (eC (.str "given")))) (sRet (eOp inD (eVar 4) (eVar 3))) sNext)
    (sSeq (sSet 2 (eOp ixD (eOp ixD (eVar 1) (eC (.int 0))) (eC (.int 1))))
    (sSeq (sIf (asT (eOp eqD (eVar 5) (eC (.str "any")))) (sRet (eCall sem_law_from (aCons (eOp ixD (eVar 1) (eC (.int 0))) (aCons (eVar 3) (aCons (eTup (aCons (eC (.str "false")) aNil)) (aCons (eTup aNil) aNil)))))) sNext)
    (sSeq (sIf (asT (eOp eqD (eVar 5) (eC (.str "both")))) (sSeq (sIf (asT (eOp neD (eOp ixD (eVar 4) (eC (.int 0))) (eC (.str "and")))) (sRet (eC (.bool false))) sNext)
    (sRet (eArgs allD (aCons (eLc 7 (sRng1 (aCons (eC (.int 2)) aNil)) tTrue (eCall sem_law_from (aCons (eOp ixD (eVar 1) (eVar 7)) (aCons (eVar 3) (aCons (eOp ixD (eVar 4) (eOp addD (eC (.int 1)) (eVar 7))) (aCons (eTup aNil) aNil)))))) aNil)))) sNext)
    (sSeq (sIf (asT (eOp inD (eVar 5) (eLst (aCons (eC (.str "one")) (aCons (eC (.str "other")) aNil))))) (sSeq (sSet 6 (eOp addD (eC (.int 1)) (eArgs intD (aCons (eOp eqD (eVar 5) (eC (.str "other"))) aNil))))
    (sRet (eAnd (eOp eqD (eOp ixD (eVar 4) (eC (.int 0))) (eC (.str "or"))) (eCall sem_law_from (aCons (eOp ixD (eVar 1) (eC (.int 0))) (aCons (eVar 3) (aCons (eOp ixD (eVar 4) (eVar 6)) (aCons (eTup aNil) aNil)))))))) sNext)
    (sSeq (sIf (asT (eOp eqD (eVar 5) (eC (.str "suppose")))) (sRet (eAnd (eOp eqD (eOp ixD (eVar 4) (eC (.int 0))) (eC (.str "then"))) (eCall sem_law_from (aCons (eOp ixD (eVar 1) (eC (.int 0))) (aCons (eVar 3) (aCons (eOp ixD (eVar 4) (eC (.int 2))) (aCons (eLst (aCons (eOp ixD (eVar 4) (eC (.int 1))) aNil)) aNil))))))) sNext)
    (sSeq (sIf (DL.tNot (asT (eCall sem_law_from (aCons (eOp ixD (eVar 1) (eC (.int 0))) (aCons (eVar 3) (aCons (eVar 2) (aCons (eTup aNil) aNil))))))) (sRet (eC (.bool false))) sNext)
    (sSeq (sIf (asT (eOp inD (eVar 5) (eLst (aCons (eC (.str "left")) (aCons (eC (.str "right")) aNil))))) (sRet (eAnd (eOp eqD (eOp ixD (eVar 2) (eC (.int 0))) (eC (.str "and"))) (eOp eqD (eVar 4) (eOp ixD (eVar 2) (eOp addD (eC (.int 1)) (eArgs intD (aCons (eOp eqD (eVar 5) (eC (.str "right"))) aNil))))))) sNext)
    (sSeq (sIf (asT (eOp eqD (eVar 5) (eC (.str "onward")))) (sSeq (sIf (DL.tOr (asT (eOp neD (eOp ixD (eVar 2) (eC (.int 0))) (eC (.str "then")))) (asT (eOp neD (eVar 4) (eOp ixD (eVar 2) (eC (.int 2)))))) (sRet (eC (.bool false))) sNext)
    (sRet (eCall sem_law_from (aCons (eOp ixD (eVar 1) (eC (.int 1))) (aCons (eVar 3) (aCons (eOp ixD (eVar 2) (eC (.int 1))) (aCons (eTup aNil) aNil))))))) sNext)
    (sSeq (sIf (asT (eOp neD (eOp ixD (eVar 2) (eC (.int 0))) (eC (.str "or")))) (sRet (eC (.bool false))) sNext)
    (sRet (eArgs allD (aCons (eLc 7 (sRng2 (aCons (eC (.int 1)) (aCons (eC (.int 3)) aNil))) tTrue (eCall sem_law_from (aCons (eOp ixD (eVar 1) (eVar 7)) (aCons (eVar 3) (aCons (eVar 4) (aCons (eLst (aCons (eOp ixD (eVar 2) (eVar 7)) aNil)) aNil)))))) aNil))))))))))))))
def sem_law_ups_right : List PyData → Res PyData := bodyD 8 F_law_ups_right
def F_law_follows : SS :=
  (sSeq (sPut 2 (.dict (kvD (mergeK (mergeK [] [(Sum.inr "given", V.int 0), (Sum.inr "both", V.int 2), (Sum.inr "left", V.int 1), (Sum.inr "right", V.int 1), (Sum.inr "one", V.int 1), (Sum.inr "other", V.int 1)]) (mergeK [] [(Sum.inr "cases", V.int 3), (Sum.inr "suppose", V.int 1), (Sum.inr "onward", V.int 2), (Sum.inr "any", V.int 1)])))))
    (sSeq (sSet 3 (eOp ixD (eVar 0) (eVar 1)))
    (sSeq (sIf (asT (eOp neD (eGet2 (eVar 2) (eOp ixD (eVar 3) (eC (.int 2))) (eC (.int 99))) (eArgs lenD (aCons (eOp ixD (eVar 3) (eC (.int 3))) aNil)))) (sRet (eC (.bool false))) sNext)
    (sSeq (sIf (DL.tNot (asT (eArgs allD (aCons (eLc 4 (sTup (eOp ixD (eVar 3) (eC (.int 3)))) tTrue (eChain leD ltD (eC (.int 0)) (eVar 4) (eVar 1))) aNil)))) (sRet (eC (.bool false))) sNext)
    (sRet (eCall sem_law_ups_right (aCons (eVar 3) (aCons (eLc 4 (sTup (eOp ixD (eVar 3) (eC (.int 3)))) tTrue (eOp ixD (eVar 0) (eVar 4))) aNil))))))))
def sem_law_follows : List PyData → Res PyData := bodyD 5 F_law_follows
def F_law_showing_by : SS :=
  (sSeq (sSet 2 (eTup (aCons (eC (.str "name")) (aCons (eCall sem_law_name_by (aCons (eVar 0) (aCons (eC (.int 0)) aNil))) aNil))))
    (sSeq (sSet 3 (eTup (aCons (eC (.str "name")) (aCons (eCall sem_law_name_by (aCons (eVar 0) (aCons (eC (.int 1)) aNil))) aNil))))
    (sSeq (sSet 4 (eTup (aCons (eC (.str "and")) (aCons (eVar 2) (aCons (eVar 3) aNil)))))
    (sSeq (sSet 5 (eOp modD (eVar 1) (eC (.int 6))))
    (sSeq (sIf (asT (eOp eqD (eVar 5) (eC (.int 0)))) (sRet (eLst (aCons (eTup (aCons (eTup (aCons (eVar 2) aNil)) (aCons (eVar 2) (aCons (eC (.str "given")) (aCons (eTup aNil) aNil))))) (aCons (eTup (aCons (eTup aNil) (aCons (eTup (aCons (eC (.str "then")) (aCons (eVar 2) (aCons (eVar 2) aNil)))) (aCons (eC (.str "suppose")) (aCons (eTup (aCons (eC (.int 0)) aNil)) aNil))))) aNil)))) sNext)
    (sSeq (sIf (asT (eOp eqD (eVar 5) (eC (.int 1)))) (sSeq (sSet 6 (eLst (aCons (eTup (aCons (eTup (aCons (eVar 4) aNil)) (aCons (eVar 4) (aCons (eC (.str "given")) (aCons (eTup aNil) aNil))))) (aCons (eTup (aCons (eTup (aCons (eVar 4) aNil)) (aCons (eVar 2) (aCons (eC (.str "left")) (aCons (eTup (aCons (eC (.int 0)) aNil)) aNil))))) (aCons (eTup (aCons (eTup (aCons (eVar 4) aNil)) (aCons (eVar 3) (aCons (eC (.str "right")) (aCons (eTup (aCons (eC (.int 0)) aNil)) aNil))))) aNil)))))
    (sRet (eOp addD (eVar 6) (eLst (aCons (eTup (aCons (eTup (aCons (eVar 4) aNil)) (aCons (eTup (aCons (eC (.str "and")) (aCons (eVar 3) (aCons (eVar 2) aNil)))) (aCons (eC (.str "both")) (aCons (eTup (aCons (eC (.int 2)) (aCons (eC (.int 1)) aNil))) aNil))))) (aCons (eTup (aCons (eTup aNil) (aCons (eTup (aCons (eC (.str "then")) (aCons (eVar 4) (aCons (eTup (aCons (eC (.str "and")) (aCons (eVar 3) (aCons (eVar 2) aNil)))) aNil)))) (aCons (eC (.str "suppose")) (aCons (eTup (aCons (eC (.int 3)) aNil)) aNil))))) aNil)))))) sNext)
    (sSeq (sIf (asT (eOp eqD (eVar 5) (eC (.int 2)))) (sSeq (sSet 7 (eTup (aCons (eC (.str "or")) (aCons (eVar 2) (aCons (eVar 3) aNil)))))
    (sSeq (sSet 6 (eLst (aCons (eTup (aCons (eTup (aCons (eVar 7) aNil)) (aCons (eVar 7) (aCons (eC (.str "given")) (aCons (eTup aNil) aNil))))) (aCons (eTup (aCons (eTup (aCons (eVar 2) aNil)) (aCons (eVar 2) (aCons (eC (.str "given")) (aCons (eTup aNil) aNil))))) (aCons (eTup (aCons (eTup (aCons (eVar 2) aNil)) (aCons (eTup (aCons (eC (.str "or")) (aCons (eVar 3) (aCons (eVar 2) aNil)))) (aCons (eC (.str "other")) (aCons (eTup (aCons (eC (.int 1)) aNil)) aNil))))) aNil)))))
    (sSeq (sSet 6 (eOp addD (eVar 6) (eLst (aCons (eTup (aCons (eTup (aCons (eVar 3) aNil)) (aCons (eVar 3) (aCons (eC (.str "given")) (aCons (eTup aNil) aNil))))) (aCons (eTup (aCons (eTup (aCons (eVar 3) aNil)) (aCons (eTup (aCons (eC (.str "or")) (aCons (eVar 3) (aCons (eVar 2) aNil)))) (aCons (eC (.str "one")) (aCons (eTup (aCons (eC (.int 3)) aNil)) aNil))))) aNil)))))
    (sSeq (sSet 6 (eOp addD (eVar 6) (eLst (aCons (eTup (aCons (eTup (aCons (eVar 7) aNil)) (aCons (eTup (aCons (eC (.str "or")) (aCons (eVar 3) (aCons (eVar 2) aNil)))) (aCons (eC (.str "cases")) (aCons (eTup (aCons (eC (.int 0)) (aCons (eC (.int 2)) (aCons (eC (.int 4)) aNil)))) aNil))))) aNil))))
    (sRet (eOp addD (eVar 6) (eLst (aCons (eTup (aCons (eTup aNil) (aCons (eTup (aCons (eC (.str "then")) (aCons (eVar 7) (aCons (eTup (aCons (eC (.str "or")) (aCons (eVar 3) (aCons (eVar 2) aNil)))) aNil)))) (aCons (eC (.str "suppose")) (aCons (eTup (aCons (eC (.int 5)) aNil)) aNil))))) aNil)))))))) sNext)
    (sSeq (sIf (asT (eOp eqD (eVar 5) (eC (.int 3)))) (sSeq (sSet 8 (eTup (aCons (eC (.str "then")) (aCons (eVar 2) (aCons (eVar 3) aNil)))))
    (sSeq (sSet 6 (eLst (aCons (eTup (aCons (eTup (aCons (eVar 8) (aCons (eVar 2) aNil))) (aCons (eVar 8) (aCons (eC (.str "given")) (aCons (eTup aNil) aNil))))) (aCons (eTup (aCons (eTup (aCons (eVar 2) aNil)) (aCons (eVar 2) (aCons (eC (.str "given")) (aCons (eTup aNil) aNil))))) (aCons (eTup (aCons (eTup (aCons (eVar 8) (aCons (eVar 2) aNil))) (aCons (eVar 3) (aCons (eC (.str "onward")) (aCons (eTup (aCons (eC (.int 0)) (aCons (eC (.int 1)) aNil))) aNil))))) aNil)))))
    (sRet (eOp addD (eVar 6) (eLst (aCons (eTup (aCons (eTup (aCons (eVar 8) aNil)) (aCons (eVar 8) (aCons (eC (.str "suppose")) (aCons (eTup (aCons (eC (.int 2)) aNil)) aNil))))) (aCons (eTup (aCons (eTup aNil) (aCons (eTup (aCons (eC (.str "then")) (aCons (eVar 8) (aCons (eVar 8) aNil)))) (aCons (eC (.str "suppose")) (aCons (eTup (aCons (eC (.int 3)) aNil)) aNil))))) aNil))))))) sNext)
    (sSeq (sIf (asT (eOp eqD (eVar 5) (eC (.int 4)))) (sSeq (sSet 9 (eTup (aCons (eC (.str "false")) aNil)))
    (sRet (eLst (aCons (eTup (aCons (eTup (aCons (eVar 9) aNil)) (aCons (eVar 9) (aCons (eC (.str "given")) (aCons (eTup aNil) aNil))))) (aCons (eTup (aCons (eTup (aCons (eVar 9) aNil)) (aCons (eVar 2) (aCons (eC (.str "any")) (aCons (eTup (aCons (eC (.int 0)) aNil)) aNil))))) (aCons (eTup (aCons (eTup aNil) (aCons (eTup (aCons (eC (.str "then")) (aCons (eVar 9) (aCons (eVar 2) aNil)))) (aCons (eC (.str "suppose")) (aCons (eTup (aCons (eC (.int 1)) aNil)) aNil))))) aNil)))))) sNext)
    (sSeq (sSet 6 (eLst (aCons (eTup (aCons (eTup (aCons (eVar 3) (aCons (eVar 2) aNil))) (aCons (eVar 2) (aCons (eC (.str "given")) (aCons (eTup aNil) aNil))))) (aCons (eTup (aCons (eTup (aCons (eVar 2) aNil)) (aCons (eTup (aCons (eC (.str "then")) (aCons (eVar 3) (aCons (eVar 2) aNil)))) (aCons (eC (.str "suppose")) (aCons (eTup (aCons (eC (.int 0)) aNil)) aNil))))) aNil))))
    (sRet (eOp addD (eVar 6) (eLst (aCons (eTup (aCons (eTup aNil) (aCons (eTup (aCons (eC (.str "then")) (aCons (eVar 2) (aCons (eTup (aCons (eC (.str "then")) (aCons (eVar 3) (aCons (eVar 2) aNil)))) aNil)))) (aCons (eC (.str "suppose")) (aCons (eTup (aCons (eC (.int 1)) aNil)) aNil))))) aNil))))))))))))))
def sem_law_showing_by : List PyData → Res PyData := bodyD 10 F_law_showing_by
def F_law_moved : SS :=
  (sSeq (sSet 3 (eTup (aCons (eC (.str "name")) (aCons (eCall sem_law_name_by (aCons (eVar 2) (aCons (eC (.int 2)) aNil))) aNil))))
    (sSeq (sSet 4 (eLc 5 (sRng1 (aCons (eVar 1) aNil)) tTrue (eTup (aCons (eTup (aCons (eVar 3) aNil)) (aCons (eVar 3) (aCons (eC (.str "given")) (aCons (eTup aNil) aNil)))))))
    (sRet (eOp addD (eVar 4) (eLc 6 (sList (eVar 0)) tTrue (eTup (aCons (eOp ixD (eVar 6) (eC (.int 0))) (aCons (eOp ixD (eVar 6) (eC (.int 1))) (aCons (eOp ixD (eVar 6) (eC (.int 2))) (aCons (eArgs tupleD (aCons (eLc 7 (sTup (eOp ixD (eVar 6) (eC (.int 3)))) tTrue (eOp addD (eVar 7) (eVar 1))) aNil)) aNil))))))))))
def sem_law_moved : List PyData → Res PyData := bodyD 8 F_law_moved
def F_law_changed : SS :=
  (sSeq (sSet 3 (eTup (aCons (eC (.str "name")) (aCons (eCall sem_law_name_by (aCons (eVar 2) (aCons (eC (.int 2)) aNil))) aNil))))
    (sSeq (sSet 4 (eOp ixD (eVar 0) (eUn negD (eC (.int 1)))))
    (sSeq (sSet 5 (eOp modD (eVar 1) (eC (.int 9))))
    (sSeq (sIf (asT (eOp eqD (eVar 5) (eC (.int 0)))) (sRet (eOp addD (eCut (eVar 0) oNone (oSome (eUn negD (eC (.int 1))))) (eLst (aCons (eTup (aCons (eOp ixD (eVar 4) (eC (.int 0))) (aCons (eTup (aCons (eC (.str "then")) (aCons (eVar 3) (aCons (eVar 3) aNil)))) (aCons (eOp ixD (eVar 4) (eC (.int 2))) (aCons (eOp ixD (eVar 4) (eC (.int 3))) aNil))))) aNil)))) sNext)
    (sSeq (sIf (asT (eOp eqD (eVar 5) (eC (.int 1)))) (sRet (eOp addD (eCut (eVar 0) oNone (oSome (eUn negD (eC (.int 1))))) (eLst (aCons (eTup (aCons (eTup (aCons (eVar 3) aNil)) (aCons (eOp ixD (eVar 4) (eC (.int 1))) (aCons (eOp ixD (eVar 4) (eC (.int 2))) (aCons (eOp ixD (eVar 4) (eC (.int 3))) aNil))))) aNil)))) sNext)
    (sSeq (sIf (asT (eOp eqD (eVar 5) (eC (.int 2)))) (sRet (eOp addD (eVar 0) (eLst (aCons (eTup (aCons (eTup (aCons (eVar 3) aNil)) (aCons (eVar 3) (aCons (eC (.str "given")) (aCons (eTup aNil) aNil))))) aNil)))) sNext)
    (sSeq (sIf (asT (eOp eqD (eVar 5) (eC (.int 3)))) (sSeq (sSet 6 (eOp modD (eOp divD (eVar 1) (eC (.int 9))) (eArgs lenD (aCons (eVar 0) aNil))))
    (sRet (eOp addD (eOp addD (eCut (eVar 0) oNone (oSome (eVar 6))) (eLst (aCons (eTup (aCons (eOp ixD (eOp ixD (eVar 0) (eVar 6)) (eC (.int 0))) (aCons (eOp ixD (eOp ixD (eVar 0) (eVar 6)) (eC (.int 1))) (aCons (eC (.str "any")) (aCons (eTup aNil) aNil))))) aNil))) (eCut (eVar 0) (oSome (eOp addD (eVar 6) (eC (.int 1)))) oNone)))) sNext)
    (sSeq (sIf (asT (eOp eqD (eVar 5) (eC (.int 4)))) (sRet (eLst aNil)) sNext)
    (sSeq (sIf (asT (eOp eqD (eVar 5) (eC (.int 5)))) (sRet (eCut (eVar 0) oNone (oSome (eUn negD (eC (.int 1)))))) sNext)
    (sSeq (sIf (asT (eOp eqD (eVar 5) (eC (.int 6)))) (sSeq (sSet 6 (eOp modD (eOp divD (eVar 1) (eC (.int 9))) (eArgs lenD (aCons (eVar 0) aNil))))
    (sRet (eOp addD (eOp addD (eCut (eVar 0) oNone (oSome (eVar 6))) (eLst (aCons (eTup (aCons (eTup aNil) (aCons (eVar 3) (aCons (eC (.str "given")) (aCons (eTup aNil) aNil))))) aNil))) (eCut (eVar 0) (oSome (eVar 6)) oNone)))) sNext)
    (sSeq (sIf (asT (eOp eqD (eVar 5) (eC (.int 7)))) (sRet (eOp addD (eVar 0) (eLst (aCons (eTup (aCons (eOp ixD (eVar 4) (eC (.int 0))) (aCons (eOp ixD (eVar 4) (eC (.int 1))) (aCons (eOp ixD (eVar 4) (eC (.int 2))) (aCons (eOp ixD (eVar 4) (eC (.int 3))) aNil))))) aNil)))) sNext)
    (sRet (eLc 7 (sList (eVar 0)) tTrue (eTup (aCons (eOp ixD (eVar 7) (eC (.int 0))) (aCons (eOp ixD (eVar 7) (eC (.int 1))) (aCons (eOp ixD (eVar 7) (eC (.int 2))) (aCons (eUn revD (eOp ixD (eVar 7) (eC (.int 3)))) aNil))))))))))))))))))
def sem_law_changed : List PyData → Res PyData := bodyD 8 F_law_changed
def F_law : SS :=
  (sSeq (sSet 1 (eCall sem_law_cell_at (aCons (eVar 0) (aCons (eC (.int 0)) aNil))))
    (sSeq (sSet 2 (eCall sem_law_cell_at (aCons (eVar 0) (aCons (eC (.int 1)) aNil))))
    (sSeq (sSet 3 (eCall sem_law_moved (aCons (eCall sem_law_showing_by (aCons (eVar 1) (aCons (eCall sem_law_cell_at (aCons (eVar 0) (aCons (eC (.int 2)) aNil))) aNil))) (aCons (eOp modD (eOp divD (eVar 2) (eC (.int 3))) (eC (.int 6))) (aCons (eVar 1) aNil)))))
    (sSeq (sSet 4 (eOp ixD (eOp ixD (eVar 3) (eUn negD (eC (.int 1)))) (eC (.int 1))))
    (sSeq (sSet 5 (eVar 3))
    (sSeq (sIf (asT (eOp gtD (eOp modD (eVar 2) (eC (.int 3))) (eC (.int 0)))) (sSet 5 (eCall sem_law_changed (aCons (eVar 3) (aCons (eCall sem_law_cell_at (aCons (eVar 0) (aCons (eC (.int 3)) aNil))) (aCons (eVar 1) aNil))))) sNext)
    (sSeq (sIf (asT (eOp eqD (eOp modD (eOp divD (eVar 2) (eC (.int 18))) (eC (.int 5))) (eC (.int 1)))) (sSet 4 (eOp ixD (eLst (aCons (eOp ixD (eOp ixD (eVar 3) (eC (.int 0))) (eC (.int 1))) (aCons (eTup (aCons (eC (.str "and")) (aCons (eVar 4) (aCons (eVar 4) aNil)))) (aCons (eTup (aCons (eC (.str "false")) aNil)) aNil)))) (eOp modD (eOp divD (eVar 2) (eC (.int 90))) (eC (.int 3))))) sNext)
    (sSeq (sSet 6 (eAnd (eOp neD (eVar 5) (eLst aNil)) (eArgs allD (aCons (eLc 10 (sRng1 (aCons (eArgs lenD (aCons (eVar 5) aNil)) aNil)) tTrue (eCall sem_law_follows (aCons (eVar 5) (aCons (eVar 10) aNil)))) aNil))))
    (sSeq (sIf (asT (eVar 6)) (sSet 6 (eAnd (eOp eqD (eOp ixD (eOp ixD (eVar 5) (eUn negD (eC (.int 1)))) (eC (.int 1))) (eVar 4)) (eOp eqD (eOp ixD (eOp ixD (eVar 5) (eUn negD (eC (.int 1)))) (eC (.int 0))) (eTup aNil)))) sNext)
    (sSeq (sSet 7 (eArgs listD (aCons (eVar 5) aNil)))
    (sSeq (sFor (sRng1 (aCons (eC (.int 2)) aNil)) (gN 8) (sSeq (sSet 9 (eCall sem_shows (aCons (eVar 5) (aCons (eVar 4) aNil))))
    (sSeq (sIf (DL.tOr (DL.tNot (asT (eUn (isiD "bool") (eVar 9)))) (DL.tOr (asT (eOp neD (eVar 9) (eVar 6))) (asT (eOp neD (eVar 5) (eVar 7))))) (sRet (eC (.bool false))) sNext)
    (sIf (DL.tOr (asT (eOp isNotD (eCall sem_shows (aCons (eVar 3) (aCons (eOp ixD (eOp ixD (eVar 3) (eUn negD (eC (.int 1)))) (eC (.int 1))) aNil))) (eC (.bool true)))) (asT (eOp isNotD (eCall sem_shows (aCons (eLst aNil) (aCons (eVar 4) aNil))) (eC (.bool false))))) (sRet (eC (.bool false))) sNext))))
    (sRet (eC (.bool true))))))))))))))
def sem_law : List PyData → Res PyData := bodyD 11 F_law
end My

set_option maxRecDepth 100000
set_option maxHeartbeats 4000000
namespace My
open PySem L2 DL PyProof.Rows
/-! ### names -/
def NameOk (w : Str) : Prop := 1 ≤ w.length ∧ w.length ≤ 8 ∧ ∀ c ∈ w.cps.toList, 97 ≤ c ∧ c ≤ 122
theorem len_list (z : Str) : z.length = z.cps.toList.length := by simp [Str.length]
theorem letters_list : ("abcdefghijklmnopqrstuvwxyz" : Str).cps.toList = (List.range 26).map (97 + ·) := by decide +kernel
theorem letters_len : ("abcdefghijklmnopqrstuvwxyz" : Str).length = 26 := by decide +kernel
theorem ix_letters {i : Int} (h0 : 0 ≤ i) (h1 : i < 26) : ixD (.str "abcdefghijklmnopqrstuvwxyz") (.int i) = some (.str ⟨#[97 + i.toNat]⟩) := by
  have h : ∀ n : Nat, n < 26 → atI ("abcdefghijklmnopqrstuvwxyz" : Str).cps.toList (n : Int) = some (97 + n) := by decide +kernel
  have q := h i.toNat (by omega)
  rw [Int.toNat_of_nonneg h0] at q
  simp only [ixD, letters_len, q]
  rfl
theorem index_letters {c : Nat} (h0 : 97 ≤ c) (h1 : c ≤ 122) : indexD "abcdefghijklmnopqrstuvwxyz" (.str ⟨#[c]⟩) = some (.int ((c : Int) - 97)) := by
  have h : ∀ n : Nat, n < 26 → (Builtin.Str.occurrences "abcdefghijklmnopqrstuvwxyz" ⟨#[97 + n]⟩ 0 26 1).head? = some n := by decide +kernel
  have q := h (c - 97) (by omega)
  rw [show 97 + (c - 97) = c by omega] at q
  simp only [indexD, letters_len, q, Option.map_some]
  congr 2
  omega
theorem joinL_nil : ∀ xs : List (List Nat), TL.joinL [] xs = xs.flatten
  | [] => rfl
  | [a] => by simp [TL.joinL]
  | a :: b :: r => by
    have ih := joinL_nil (b :: r)
    simp only [TL.joinL, List.flatten_cons] at ih ⊢
    rw [ih]
    simp
theorem join_signs (cs : List Nat) : Str.join "" (cs.map fun c => (⟨#[c]⟩ : Str)) = ⟨cs.toArray⟩ := by
  refine TL.ext_tl ?_
  rw [TL.tl_join, List.map_map]
  have e : TL.tl "" = [] := by decide +kernel
  rw [e, joinL_nil, TL.tl_mk]
  induction cs with
  | nil => rfl
  | cons c cs ih => simp only [List.map_cons, List.flatten_cons, ih]; rfl
theorem strsOf_strs : ∀ (xs : List Str), strsOf (xs.map PyData.str) = some xs
  | [] => rfl
  | x :: xs => by simp [strsOf, strsOf_strs xs]
theorem joinD_signs (cs : List Nat) (h : cs.length ≤ big) : joinD "" (.list (cs.map fun c => .str ⟨#[c]⟩)) = some (.str ⟨cs.toArray⟩) := by
  have e : (cs.map fun c => PyData.str ⟨#[c]⟩) = (cs.map fun c => (⟨#[c]⟩ : Str)).map PyData.str := by rw [List.map_map]; rfl
  have l : ((cs.map fun c => (⟨#[c]⟩ : Str)).map (·.length)).sum + (cs.map fun c => (⟨#[c]⟩ : Str)).length * ("" : Str).length ≤ big := by
    have e2 : ("" : Str).length = 0 := by decide +kernel
    have e3 : ((cs.map fun c => (⟨#[c]⟩ : Str)).map (·.length)).sum = cs.length := by
      rw [List.map_map]
      induction cs with
      | nil => rfl
      | cons c cs ih =>
        have := ih (by simp at h; omega) (by rw [List.map_map]; rfl)
        simp only [List.map_cons, List.sum_cons, List.length_cons, this]
        show 1 + _ = _
        omega
    rw [e2, e3]
    omega
  simp only [joinD, e, strsOf_strs, Option.bind_some]
  rw [if_pos l, join_signs]
theorem ix_str {z : Str} {i : Int} (h0 : 0 ≤ i) (h1 : i < z.length) (hz : z.length ≤ big) : ∃ c, ixD (.str z) (.int i) = some (.str ⟨#[c]⟩) ∧ c ∈ z.cps.toList := by
  have hl := len_list z
  have hi : i.toNat < z.cps.toList.length := by omega
  have q : atI z.cps.toList ((i.toNat : Nat) : Int) = some z.cps.toList[i.toNat] := atI_nat (List.getElem?_eq_getElem hi)
  rw [Int.toNat_of_nonneg h0] at q
  refine ⟨_, ?_, List.getElem_mem hi⟩
  simp only [ixD, if_pos hz, q]
  rfl
theorem cutS_toList (z : Str) (lo hi : Option Int) : (cutS z lo hi).cps.toList = cutP z.cps.toList lo hi := by
  simp [cutS, cutP, len_list]
theorem sIx_pos {n d : Nat} {i : Int} (h : 0 ≤ i) : HT.sIx n d (some i) = min i.toNat n := by
  have q := HT.sIx_nat n d i.toNat
  rw [Int.toNat_of_nonneg h] at q
  exact q
def nameSign (s : Int) (d : PyData) : Nat := match d with
  | .int j => 97 + ((s / 8 + 5 * j + j * j) % 26).toNat
  | _ => 0
theorem upTo_signs (s : Int) (n : Nat) : (upTo 0 n).map (fun d => PyData.str ⟨#[nameSign s d]⟩) = ((upTo 0 n).map (nameSign s)).map fun c => PyData.str ⟨#[c]⟩ := by
  rw [List.map_map]; rfl
theorem addD_str {a b : Str} (h : a.length + b.length ≤ big) : addD (.str a) (.str b) = some (.str (a ++ b)) := if_pos h
theorem cutD_str {z : Str} {lo hi : Option Int} (h : z.length ≤ big) : cutD lo hi (.str z) = some (.str (cutS z lo hi)) := if_pos h
theorem app_list (a b : Str) : (a ++ b).cps.toList = a.cps.toList ++ b.cps.toList := TL.tl_append a b
theorem app_len (a b : Str) : (a ++ b).length = a.length + b.length := by
  rw [len_list, len_list, len_list, app_list, List.length_append]
@[simp] theorem sign_len (c : Nat) : (⟨#[c]⟩ : Str).length = 1 := rfl
theorem name_by (s k : Int) : ∃ w, sem_law_name_by [.int s, .int k] = .ok (.str w) ∧ NameOk w := by
  have h1 : 1 ≤ 1 + s % 8 ∧ 1 + s % 8 ≤ 8 := by omega
  have hbig : big = 1000000 := rfl
  have hb1 : -(big : Int) ≤ 1 + s % 8 ∧ 1 + s % 8 ≤ (big : Int) := by simp only [big]; omega
  have hb2 : (1 + s % 8).toNat ≤ big := by simp only [big]; omega
  simp only [sem_law_name_by, bodyD, F_law_name_by, startD]
  generalize hcs : (upTo 0 (1 + s % 8).toNat).map (nameSign s) = cs
  have hcl : cs.length = (1 + s % 8).toNat := by rw [← hcs, List.length_map, upTo_len]
  have hcr : ∀ c ∈ cs, 97 ≤ c ∧ c ≤ 122 := by
    intro c hc
    rw [← hcs] at hc
    obtain ⟨d, hd, rfl⟩ := List.mem_map.mp hc
    obtain ⟨j, _, rfl⟩ := mem_upTo.mp hd
    simp only [nameSign]
    omega
  have hjoin := joinD_signs cs (by omega)
  simp [eLc_ap, hb1, hb2, upTo_len]
  rw [lcGo_map (v := fun d => .str ⟨#[nameSign s d]⟩) (by
    intro d hd
    obtain ⟨j, hj, rfl⟩ := mem_upTo.mp hd
    have hj1 : -1000000 ≤ (0 : Int) + j ∧ (0 : Int) + j ≤ 1000000 := by omega
    have m1 : mulD (.int 5) (.int (0 + (j : Int))) = some (.int (5 * (0 + (j : Int)))) := mulD_l (small64_of (by decide) (by decide))
    have m2 : mulD (.int (0 + (j : Int))) (.int (0 + (j : Int))) = some (.int ((0 + (j : Int)) * (0 + (j : Int)))) := mulD_l (small64_of hj1.1 hj1.2)
    refine ⟨rfl, ?_, rfl⟩
    simp only [Int.zero_add] at m1 m2
    simp [m1, m2]
    rw [ix_letters (by omega) (by omega)]
    simp [nameSign]), upTo_signs, hcs]
  simp only [Res.calm, Res.ok_bind, hjoin, Res.of_some]
  generalize hz : (⟨cs.toArray⟩ : Str) = z
  have hzl : z.cps.toList = cs := by rw [← hz]
  have hlen : z.length = (1 + s % 8).toNat := by rw [len_list, hzl, hcl]
  generalize hsize : 1 + s % 8 = size at *
  generalize hspot : s / 208 % size = spot
  have hsp : 0 ≤ spot ∧ spot < size := by
    rw [← hspot]
    exact ⟨Int.emod_nonneg _ (by omega), Int.emod_lt_of_pos _ (by omega)⟩
  obtain ⟨c, hc1, hc2⟩ := ix_str (z := z) (i := spot) hsp.1 (by omega) (by omega)
  have hc3 := hcr c (by rw [← hzl]; exact hc2)
  have hidx := index_letters hc3.1 hc3.2
  have m3 : mulD (.int k) (.int (1 + s / 1664 % 8)) = some (.int (k * (1 + s / 1664 % 8))) := mulD_r (small64_of (by omega) (by omega))
  generalize hj : ((c : Int) - 97 + k * (1 + s / 1664 % 8)) % 26 = j
  have hjr : 0 ≤ j ∧ j < 26 := by rw [← hj]; omega
  have hsg := ix_letters hjr.1 hjr.2
  generalize hg : (⟨#[97 + j.toNat]⟩ : Str) = g at hsg
  have hgl : g.length = 1 := by rw [← hg]; rfl
  have hgs : g.cps.toList = [97 + j.toNat] := by rw [← hg]
  have hp : (0 : Int) < size := by omega
  have hk1 : addD (.str z) (.str g) = some (.str (z ++ g)) := addD_str (by omega)
  have hk2 : cutD none (some spot) (.str z) = some (.str (cutS z none (some spot))) := cutD_str (by omega)
  have hk3 : cutD (some (spot + 1)) none (.str z) = some (.str (cutS z (some (spot + 1)) none)) := cutD_str (by omega)
  have hl1 : (cutS z none (some spot)).cps.toList = cs.take spot.toNat := by
    rw [cutS_toList, hzl]
    simp only [cutP, HT.sIx_none, List.drop_zero, Nat.sub_zero]
    rw [sIx_pos hsp.1]
    rw [Nat.min_eq_left (by omega)]
  have hl2 : (cutS z (some (spot + 1)) none).cps.toList = cs.drop (spot.toNat + 1) := by
    rw [cutS_toList, hzl]
    simp only [cutP, HT.sIx_none]
    rw [sIx_pos (by omega), Nat.min_eq_left (by omega), show (spot + 1).toNat = spot.toNat + 1 by omega]
    exact List.take_of_length_le (by rw [List.length_drop]; omega)
  have hL1 : (cutS z none (some spot)).length = spot.toNat := by rw [len_list, hl1, List.length_take]; omega
  have hL2 : (cutS z (some (spot + 1)) none).length = cs.length - (spot.toNat + 1) := by rw [len_list, hl2, List.length_drop]
  have hk4 : addD (.str (cutS z none (some spot))) (.str g) = some (.str (cutS z none (some spot) ++ g)) := addD_str (by omega)
  have hk5 : addD (.str (cutS z none (some spot) ++ g)) (.str (cutS z (some (spot + 1)) none)) = some (.str (cutS z none (some spot) ++ g ++ cutS z (some (spot + 1)) none)) := addD_str (by rw [app_len]; omega)
  simp [hp, hspot, hc1, hidx, m3, hj, hsg, hk1, hk2, hk3, hk4, hk5]
  have ok1 : size < 8 → NameOk (z ++ g) := fun h => by
    refine ⟨by rw [app_len]; omega, by rw [app_len]; omega, fun x hx => ?_⟩
    rw [app_list, hzl, hgs] at hx
    rcases List.mem_append.mp hx with hx | hx
    · exact hcr x hx
    · rw [List.mem_singleton] at hx
      omega
  have ok2 : NameOk (cutS z none (some spot) ++ g ++ cutS z (some (spot + 1)) none) := by
    refine ⟨by rw [app_len, app_len]; omega, by rw [app_len, app_len]; omega, fun x hx => ?_⟩
    rw [app_list, app_list, hl1, hl2, hgs] at hx
    rcases List.mem_append.mp hx with hx | hx
    · rcases List.mem_append.mp hx with hx | hx
      · exact hcr x (List.mem_of_mem_take hx)
      · rw [List.mem_singleton] at hx
        omega
    · exact hcr x (List.mem_of_mem_drop hx)
  split
  · split
    · split
      · rename_i h
        exact ⟨_, rfl, ok1 h⟩
      · exact ⟨_, rfl, ok2⟩
    · exact ⟨_, rfl, ok2⟩
  · exact ⟨_, rfl, ok2⟩

/-! ### statements -/
inductive W3 where
  | an | orr | th
def W3.word : W3 → Str
  | .an => "and"
  | .orr => "or"
  | .th => "then"
inductive Stm where
  | nm (w : Str)
  | fl
  | bin (o : W3) (a b : Stm)
namespace Stm
def enc : Stm → PyData
  | nm w => .tuple [.str "name", .str w]
  | fl => .tuple [.str "false"]
  | bin o a b => .tuple [.str o.word, enc a, enc b]
def depth : Stm → Nat
  | nm _ => 1
  | fl => 1
  | bin _ a b => max a.depth b.depth + 1
def Ok : Stm → Prop
  | nm w => NameOk w
  | fl => True
  | bin _ a b => a.Ok ∧ b.Ok
theorem depth_pos : ∀ s : Stm, 1 ≤ s.depth
  | nm _ => Nat.le_refl _
  | fl => Nat.le_refl _
  | bin _ a b => by simp only [depth]; omega
end Stm
/-! the script's cells -/
theorem cell_at (ns : List Int) (k : Nat) (hk : ns.length ≤ 63) : sem_law_cell_at [.list (ns.map PyData.int), .int k] = .ok (.int (ns.getD k 0)) := by
  simp [sem_law_cell_at, bodyD, F_law_cell_at, startD]
  by_cases h : k < ns.length
  · have q : atI (ns.map PyData.int) (k : Int) = some (.int ns[k]) := atI_nat (by rw [List.getElem?_map, List.getElem?_eq_getElem h]; rfl)
    simp [h, q, List.getElem?_eq_getElem h]
  · simp [h, List.getElem?_eq_none (Nat.le_of_not_lt h)]
@[simp] theorem big_ge {n : Nat} (h : n ≤ 1000) : n ≤ big := Nat.le_trans h (by decide)
end My

set_option maxRecDepth 100000
set_option maxHeartbeats 4000000
set_option linter.all false
namespace My
open PySem L2 DL PyProof.Rows
/-! ### data of small depth -/
mutual
def strB : PyData → Bool
  | .none => true
  | .bool _ => true
  | .int _ => true
  | .str z => decide (z.length ≤ 1000)
  | .list ds => strBs ds
  | .tuple ds => strBs ds
  | .dict _ => false
def strBs : List PyData → Bool
  | [] => true
  | d :: ds => strB d && strBs ds
end
def Nice (d : PyData) (k : Nat) : Prop := d.canLay0 = true ∧ d.depth ≤ k ∧ strB d = true
def Nices (ds : List PyData) (k : Nat) : Prop := PyData.canLayAll0 ds = true ∧ PyData.depthAll ds ≤ k ∧ strBs ds = true
theorem nices_nil (k : Nat) : Nices [] k := ⟨rfl, Nat.zero_le _, rfl⟩
theorem nices_cons {d : PyData} {ds : List PyData} {k : Nat} : Nices (d :: ds) k ↔ Nice d k ∧ Nices ds k := by
  simp only [Nices, Nice, PyData.canLayAll0, PyData.depthAll, strBs, Bool.and_eq_true]
  constructor
  · rintro ⟨⟨a, b⟩, c, d, e⟩
    exact ⟨⟨a, by omega, d⟩, b, by omega, e⟩
  · rintro ⟨⟨a, b, c⟩, d, e, f⟩
    exact ⟨⟨a, d⟩, by omega, c, f⟩
theorem nices_mem {ds : List PyData} {k : Nat} : Nices ds k ↔ ∀ d ∈ ds, Nice d k := by
  induction ds with
  | nil => exact ⟨fun _ d h => (by cases h), fun _ => nices_nil k⟩
  | cons d ds ih =>
    rw [nices_cons, ih]
    exact ⟨fun h e he => by
      rcases List.mem_cons.mp he with rfl | he
      · exact h.1
      · exact h.2 e he, fun h => ⟨h d List.mem_cons_self, fun e he => h e (List.mem_cons_of_mem _ he)⟩⟩
theorem nice_tup {ds : List PyData} {k : Nat} : Nice (.tuple ds) (k + 1) ↔ Nices ds k := by
  simp only [Nice, Nices, PyData.canLay0, PyData.depth, strB]
  exact ⟨fun h => ⟨h.1, by omega, h.2.2⟩, fun h => ⟨h.1, by omega, h.2.2⟩⟩
theorem nice_lst {ds : List PyData} {k : Nat} : Nice (.list ds) (k + 1) ↔ Nices ds k := by
  simp only [Nice, Nices, PyData.canLay0, PyData.depth, strB]
  exact ⟨fun h => ⟨h.1, by omega, h.2.2⟩, fun h => ⟨h.1, by omega, h.2.2⟩⟩
theorem Nice.mono {d : PyData} {k j : Nat} (h : Nice d k) (hj : k ≤ j) : Nice d j := ⟨h.1, Nat.le_trans h.2.1 hj, h.2.2⟩
theorem nice_shaped {d : PyData} {k : Nat} (h : Nice d k) (hk : k ≤ 64) : SeqAt.shaped d = true := by
  unfold SeqAt.shaped
  rw [h.1]
  simpa using Nat.le_trans h.2.1 hk
theorem nice_str {z : Str} {k : Nat} (h1 : z.length ≤ 1000) (h2 : ∀ c ∈ z.cps.toList, c < 1114112) : Nice (.str z) k := by
  refine ⟨?_, by simp [PyData.depth], by simpa [strB] using h1⟩
  simp only [PyData.canLay0, PyData.strOk, Array.all_eq_true, decide_eq_true_eq]
  intro i hi
  exact h2 _ (Array.mem_toList_iff.mpr (Array.getElem_mem hi))
theorem str_nice {z : Str} {k : Nat} (h : Nice (.str z) k) : z.length ≤ 1000 ∧ ∀ c ∈ z.cps.toList, c < 1114112 := by
  obtain ⟨a, _, b⟩ := h
  refine ⟨by simpa [strB] using b, fun c hc => ?_⟩
  simp only [PyData.canLay0, PyData.strOk, Array.all_eq_true, decide_eq_true_eq] at a
  obtain ⟨i, hi, e⟩ := Array.mem_iff_getElem.mp (Array.mem_toList_iff.mp hc)
  rw [← e]
  exact a i hi
theorem name_nice {w : Str} (h : NameOk w) (k : Nat) : Nice (.str w) k := nice_str (Nat.le_trans h.2.1 (by decide)) fun c hc => Nat.lt_of_le_of_lt (h.2.2 c hc).2 (by decide)
theorem word_nice (o : W3) (k : Nat) : Nice (.str o.word) k := ⟨by cases o <;> decide +kernel, by simp [PyData.depth], by cases o <;> decide +kernel⟩
theorem stm_nice : ∀ s : Stm, s.Ok → Nice s.enc s.depth
  | .nm w, h => nice_tup.mpr (nices_cons.mpr ⟨⟨by decide +kernel, by simp [PyData.depth], by decide +kernel⟩, nices_cons.mpr ⟨name_nice h 0, nices_nil 0⟩⟩)
  | .fl, _ => nice_tup.mpr (nices_cons.mpr ⟨⟨by decide +kernel, by simp [PyData.depth], by decide +kernel⟩, nices_nil 0⟩)
  | .bin o a b, h => nice_tup.mpr (nices_cons.mpr ⟨word_nice o _, nices_cons.mpr ⟨(stm_nice a h.1).mono (Nat.le_max_left _ _), nices_cons.mpr ⟨(stm_nice b h.2).mono (Nat.le_max_right _ _), nices_nil _⟩⟩⟩)

end My

set_option Elab.async false
set_option maxRecDepth 100000
set_option maxHeartbeats 4000000
set_option linter.all false
namespace My
open PySem L2 DL PyProof.Rows
@[simp] theorem ne_given_both : (Str.ofString "given" = Str.ofString "both") = False := eq_false (by decide +kernel)
@[simp] theorem ne_given_left : (Str.ofString "given" = Str.ofString "left") = False := eq_false (by decide +kernel)
@[simp] theorem ne_given_right : (Str.ofString "given" = Str.ofString "right") = False := eq_false (by decide +kernel)
@[simp] theorem ne_given_one : (Str.ofString "given" = Str.ofString "one") = False := eq_false (by decide +kernel)
@[simp] theorem ne_given_other : (Str.ofString "given" = Str.ofString "other") = False := eq_false (by decide +kernel)
@[simp] theorem ne_given_cases : (Str.ofString "given" = Str.ofString "cases") = False := eq_false (by decide +kernel)
@[simp] theorem ne_given_suppose : (Str.ofString "given" = Str.ofString "suppose") = False := eq_false (by decide +kernel)
@[simp] theorem ne_given_onward : (Str.ofString "given" = Str.ofString "onward") = False := eq_false (by decide +kernel)
@[simp] theorem ne_given_any : (Str.ofString "given" = Str.ofString "any") = False := eq_false (by decide +kernel)
@[simp] theorem ne_both_given : (Str.ofString "both" = Str.ofString "given") = False := eq_false (by decide +kernel)
@[simp] theorem ne_both_left : (Str.ofString "both" = Str.ofString "left") = False := eq_false (by decide +kernel)
@[simp] theorem ne_both_right : (Str.ofString "both" = Str.ofString "right") = False := eq_false (by decide +kernel)
@[simp] theorem ne_both_one : (Str.ofString "both" = Str.ofString "one") = False := eq_false (by decide +kernel)
@[simp] theorem ne_both_other : (Str.ofString "both" = Str.ofString "other") = False := eq_false (by decide +kernel)
@[simp] theorem ne_both_cases : (Str.ofString "both" = Str.ofString "cases") = False := eq_false (by decide +kernel)
@[simp] theorem ne_both_suppose : (Str.ofString "both" = Str.ofString "suppose") = False := eq_false (by decide +kernel)
@[simp] theorem ne_both_onward : (Str.ofString "both" = Str.ofString "onward") = False := eq_false (by decide +kernel)
@[simp] theorem ne_both_any : (Str.ofString "both" = Str.ofString "any") = False := eq_false (by decide +kernel)
@[simp] theorem ne_left_given : (Str.ofString "left" = Str.ofString "given") = False := eq_false (by decide +kernel)
@[simp] theorem ne_left_both : (Str.ofString "left" = Str.ofString "both") = False := eq_false (by decide +kernel)
@[simp] theorem ne_left_right : (Str.ofString "left" = Str.ofString "right") = False := eq_false (by decide +kernel)
@[simp] theorem ne_left_one : (Str.ofString "left" = Str.ofString "one") = False := eq_false (by decide +kernel)
@[simp] theorem ne_left_other : (Str.ofString "left" = Str.ofString "other") = False := eq_false (by decide +kernel)
@[simp] theorem ne_left_cases : (Str.ofString "left" = Str.ofString "cases") = False := eq_false (by decide +kernel)
@[simp] theorem ne_left_suppose : (Str.ofString "left" = Str.ofString "suppose") = False := eq_false (by decide +kernel)
@[simp] theorem ne_left_onward : (Str.ofString "left" = Str.ofString "onward") = False := eq_false (by decide +kernel)
@[simp] theorem ne_left_any : (Str.ofString "left" = Str.ofString "any") = False := eq_false (by decide +kernel)
@[simp] theorem ne_right_given : (Str.ofString "right" = Str.ofString "given") = False := eq_false (by decide +kernel)
@[simp] theorem ne_right_both : (Str.ofString "right" = Str.ofString "both") = False := eq_false (by decide +kernel)
@[simp] theorem ne_right_left : (Str.ofString "right" = Str.ofString "left") = False := eq_false (by decide +kernel)
@[simp] theorem ne_right_one : (Str.ofString "right" = Str.ofString "one") = False := eq_false (by decide +kernel)
@[simp] theorem ne_right_other : (Str.ofString "right" = Str.ofString "other") = False := eq_false (by decide +kernel)
@[simp] theorem ne_right_cases : (Str.ofString "right" = Str.ofString "cases") = False := eq_false (by decide +kernel)
@[simp] theorem ne_right_suppose : (Str.ofString "right" = Str.ofString "suppose") = False := eq_false (by decide +kernel)
@[simp] theorem ne_right_onward : (Str.ofString "right" = Str.ofString "onward") = False := eq_false (by decide +kernel)
@[simp] theorem ne_right_any : (Str.ofString "right" = Str.ofString "any") = False := eq_false (by decide +kernel)
@[simp] theorem ne_one_given : (Str.ofString "one" = Str.ofString "given") = False := eq_false (by decide +kernel)
@[simp] theorem ne_one_both : (Str.ofString "one" = Str.ofString "both") = False := eq_false (by decide +kernel)
@[simp] theorem ne_one_left : (Str.ofString "one" = Str.ofString "left") = False := eq_false (by decide +kernel)
@[simp] theorem ne_one_right : (Str.ofString "one" = Str.ofString "right") = False := eq_false (by decide +kernel)
@[simp] theorem ne_one_other : (Str.ofString "one" = Str.ofString "other") = False := eq_false (by decide +kernel)
@[simp] theorem ne_one_cases : (Str.ofString "one" = Str.ofString "cases") = False := eq_false (by decide +kernel)
@[simp] theorem ne_one_suppose : (Str.ofString "one" = Str.ofString "suppose") = False := eq_false (by decide +kernel)
@[simp] theorem ne_one_onward : (Str.ofString "one" = Str.ofString "onward") = False := eq_false (by decide +kernel)
@[simp] theorem ne_one_any : (Str.ofString "one" = Str.ofString "any") = False := eq_false (by decide +kernel)
@[simp] theorem ne_other_given : (Str.ofString "other" = Str.ofString "given") = False := eq_false (by decide +kernel)
@[simp] theorem ne_other_both : (Str.ofString "other" = Str.ofString "both") = False := eq_false (by decide +kernel)
@[simp] theorem ne_other_left : (Str.ofString "other" = Str.ofString "left") = False := eq_false (by decide +kernel)
@[simp] theorem ne_other_right : (Str.ofString "other" = Str.ofString "right") = False := eq_false (by decide +kernel)
@[simp] theorem ne_other_one : (Str.ofString "other" = Str.ofString "one") = False := eq_false (by decide +kernel)
@[simp] theorem ne_other_cases : (Str.ofString "other" = Str.ofString "cases") = False := eq_false (by decide +kernel)
@[simp] theorem ne_other_suppose : (Str.ofString "other" = Str.ofString "suppose") = False := eq_false (by decide +kernel)
@[simp] theorem ne_other_onward : (Str.ofString "other" = Str.ofString "onward") = False := eq_false (by decide +kernel)
@[simp] theorem ne_other_any : (Str.ofString "other" = Str.ofString "any") = False := eq_false (by decide +kernel)
@[simp] theorem ne_cases_given : (Str.ofString "cases" = Str.ofString "given") = False := eq_false (by decide +kernel)
@[simp] theorem ne_cases_both : (Str.ofString "cases" = Str.ofString "both") = False := eq_false (by decide +kernel)
@[simp] theorem ne_cases_left : (Str.ofString "cases" = Str.ofString "left") = False := eq_false (by decide +kernel)
@[simp] theorem ne_cases_right : (Str.ofString "cases" = Str.ofString "right") = False := eq_false (by decide +kernel)
@[simp] theorem ne_cases_one : (Str.ofString "cases" = Str.ofString "one") = False := eq_false (by decide +kernel)
@[simp] theorem ne_cases_other : (Str.ofString "cases" = Str.ofString "other") = False := eq_false (by decide +kernel)
@[simp] theorem ne_cases_suppose : (Str.ofString "cases" = Str.ofString "suppose") = False := eq_false (by decide +kernel)
@[simp] theorem ne_cases_onward : (Str.ofString "cases" = Str.ofString "onward") = False := eq_false (by decide +kernel)
@[simp] theorem ne_cases_any : (Str.ofString "cases" = Str.ofString "any") = False := eq_false (by decide +kernel)
@[simp] theorem ne_suppose_given : (Str.ofString "suppose" = Str.ofString "given") = False := eq_false (by decide +kernel)
@[simp] theorem ne_suppose_both : (Str.ofString "suppose" = Str.ofString "both") = False := eq_false (by decide +kernel)
@[simp] theorem ne_suppose_left : (Str.ofString "suppose" = Str.ofString "left") = False := eq_false (by decide +kernel)
@[simp] theorem ne_suppose_right : (Str.ofString "suppose" = Str.ofString "right") = False := eq_false (by decide +kernel)
@[simp] theorem ne_suppose_one : (Str.ofString "suppose" = Str.ofString "one") = False := eq_false (by decide +kernel)
@[simp] theorem ne_suppose_other : (Str.ofString "suppose" = Str.ofString "other") = False := eq_false (by decide +kernel)
@[simp] theorem ne_suppose_cases : (Str.ofString "suppose" = Str.ofString "cases") = False := eq_false (by decide +kernel)
@[simp] theorem ne_suppose_onward : (Str.ofString "suppose" = Str.ofString "onward") = False := eq_false (by decide +kernel)
@[simp] theorem ne_suppose_any : (Str.ofString "suppose" = Str.ofString "any") = False := eq_false (by decide +kernel)
@[simp] theorem ne_onward_given : (Str.ofString "onward" = Str.ofString "given") = False := eq_false (by decide +kernel)
@[simp] theorem ne_onward_both : (Str.ofString "onward" = Str.ofString "both") = False := eq_false (by decide +kernel)
@[simp] theorem ne_onward_left : (Str.ofString "onward" = Str.ofString "left") = False := eq_false (by decide +kernel)
@[simp] theorem ne_onward_right : (Str.ofString "onward" = Str.ofString "right") = False := eq_false (by decide +kernel)
@[simp] theorem ne_onward_one : (Str.ofString "onward" = Str.ofString "one") = False := eq_false (by decide +kernel)
@[simp] theorem ne_onward_other : (Str.ofString "onward" = Str.ofString "other") = False := eq_false (by decide +kernel)
@[simp] theorem ne_onward_cases : (Str.ofString "onward" = Str.ofString "cases") = False := eq_false (by decide +kernel)
@[simp] theorem ne_onward_suppose : (Str.ofString "onward" = Str.ofString "suppose") = False := eq_false (by decide +kernel)
@[simp] theorem ne_onward_any : (Str.ofString "onward" = Str.ofString "any") = False := eq_false (by decide +kernel)
@[simp] theorem ne_any_given : (Str.ofString "any" = Str.ofString "given") = False := eq_false (by decide +kernel)
@[simp] theorem ne_any_both : (Str.ofString "any" = Str.ofString "both") = False := eq_false (by decide +kernel)
@[simp] theorem ne_any_left : (Str.ofString "any" = Str.ofString "left") = False := eq_false (by decide +kernel)
@[simp] theorem ne_any_right : (Str.ofString "any" = Str.ofString "right") = False := eq_false (by decide +kernel)
@[simp] theorem ne_any_one : (Str.ofString "any" = Str.ofString "one") = False := eq_false (by decide +kernel)
@[simp] theorem ne_any_other : (Str.ofString "any" = Str.ofString "other") = False := eq_false (by decide +kernel)
@[simp] theorem ne_any_cases : (Str.ofString "any" = Str.ofString "cases") = False := eq_false (by decide +kernel)
@[simp] theorem ne_any_suppose : (Str.ofString "any" = Str.ofString "suppose") = False := eq_false (by decide +kernel)
@[simp] theorem ne_any_onward : (Str.ofString "any" = Str.ofString "onward") = False := eq_false (by decide +kernel)
@[simp] theorem ne_and_or : (Str.ofString "and" = Str.ofString "or") = False := eq_false (by decide +kernel)
@[simp] theorem ne_and_then : (Str.ofString "and" = Str.ofString "then") = False := eq_false (by decide +kernel)
@[simp] theorem ne_and_name : (Str.ofString "and" = Str.ofString "name") = False := eq_false (by decide +kernel)
@[simp] theorem ne_and_false : (Str.ofString "and" = Str.ofString "false") = False := eq_false (by decide +kernel)
@[simp] theorem ne_or_and : (Str.ofString "or" = Str.ofString "and") = False := eq_false (by decide +kernel)
@[simp] theorem ne_or_then : (Str.ofString "or" = Str.ofString "then") = False := eq_false (by decide +kernel)
@[simp] theorem ne_or_name : (Str.ofString "or" = Str.ofString "name") = False := eq_false (by decide +kernel)
@[simp] theorem ne_or_false : (Str.ofString "or" = Str.ofString "false") = False := eq_false (by decide +kernel)
@[simp] theorem ne_then_and : (Str.ofString "then" = Str.ofString "and") = False := eq_false (by decide +kernel)
@[simp] theorem ne_then_or : (Str.ofString "then" = Str.ofString "or") = False := eq_false (by decide +kernel)
@[simp] theorem ne_then_name : (Str.ofString "then" = Str.ofString "name") = False := eq_false (by decide +kernel)
@[simp] theorem ne_then_false : (Str.ofString "then" = Str.ofString "false") = False := eq_false (by decide +kernel)
@[simp] theorem ne_name_and : (Str.ofString "name" = Str.ofString "and") = False := eq_false (by decide +kernel)
@[simp] theorem ne_name_or : (Str.ofString "name" = Str.ofString "or") = False := eq_false (by decide +kernel)
@[simp] theorem ne_name_then : (Str.ofString "name" = Str.ofString "then") = False := eq_false (by decide +kernel)
@[simp] theorem ne_name_false : (Str.ofString "name" = Str.ofString "false") = False := eq_false (by decide +kernel)
@[simp] theorem ne_false_and : (Str.ofString "false" = Str.ofString "and") = False := eq_false (by decide +kernel)
@[simp] theorem ne_false_or : (Str.ofString "false" = Str.ofString "or") = False := eq_false (by decide +kernel)
@[simp] theorem ne_false_then : (Str.ofString "false" = Str.ofString "then") = False := eq_false (by decide +kernel)
@[simp] theorem ne_false_name : (Str.ofString "false" = Str.ofString "name") = False := eq_false (by decide +kernel)
theorem in_t2 {z x y : Str} (b : Bool) (h : (SeqAt.shaped (.str z) && SeqAt.shaped (.tuple [.str x, .str y])) = true) (hb : (x == z || y == z) = b) : inD (.str z) (.tuple [.str x, .str y]) = some (.bool b) := by
  have e : inD (.str z) (.tuple [.str x, .str y]) = if SeqAt.shaped (.str z) && SeqAt.shaped (.tuple [.str x, .str y]) then some (.bool ([PyData.str x, .str y].any fun w => PyData.eqv w (.str z))) else none := rfl
  rw [e, h, ← hb]
  simp [PyData.eqv]
theorem in_l2 {z x y : Str} (b : Bool) (h : (SeqAt.shaped (.str z) && SeqAt.shaped (.list [.str x, .str y])) = true) (hb : (x == z || y == z) = b) : inD (.str z) (.list [.str x, .str y]) = some (.bool b) := by
  have e : inD (.str z) (.list [.str x, .str y]) = if SeqAt.shaped (.str z) && SeqAt.shaped (.list [.str x, .str y]) then some (.bool ([PyData.str x, .str y].any fun w => PyData.eqv w (.str z))) else none := rfl
  rw [e, h, ← hb]
  simp [PyData.eqv]
@[simp] theorem in_given_tuple_suppose : inD (.str (Str.ofString "given")) (.tuple [.str (Str.ofString "suppose"), .str (Str.ofString "onward")]) = some (.bool false) := in_t2 _ (by decide +kernel) (by decide +kernel)
@[simp] theorem in_given_tuple_one : inD (.str (Str.ofString "given")) (.tuple [.str (Str.ofString "one"), .str (Str.ofString "other")]) = some (.bool false) := in_t2 _ (by decide +kernel) (by decide +kernel)
@[simp] theorem in_given_list_one : inD (.str (Str.ofString "given")) (.list [.str (Str.ofString "one"), .str (Str.ofString "other")]) = some (.bool false) := in_l2 _ (by decide +kernel) (by decide +kernel)
@[simp] theorem in_given_list_left : inD (.str (Str.ofString "given")) (.list [.str (Str.ofString "left"), .str (Str.ofString "right")]) = some (.bool false) := in_l2 _ (by decide +kernel) (by decide +kernel)
@[simp] theorem in_both_tuple_suppose : inD (.str (Str.ofString "both")) (.tuple [.str (Str.ofString "suppose"), .str (Str.ofString "onward")]) = some (.bool false) := in_t2 _ (by decide +kernel) (by decide +kernel)
@[simp] theorem in_both_tuple_one : inD (.str (Str.ofString "both")) (.tuple [.str (Str.ofString "one"), .str (Str.ofString "other")]) = some (.bool false) := in_t2 _ (by decide +kernel) (by decide +kernel)
@[simp] theorem in_both_list_one : inD (.str (Str.ofString "both")) (.list [.str (Str.ofString "one"), .str (Str.ofString "other")]) = some (.bool false) := in_l2 _ (by decide +kernel) (by decide +kernel)
@[simp] theorem in_both_list_left : inD (.str (Str.ofString "both")) (.list [.str (Str.ofString "left"), .str (Str.ofString "right")]) = some (.bool false) := in_l2 _ (by decide +kernel) (by decide +kernel)
@[simp] theorem in_left_tuple_suppose : inD (.str (Str.ofString "left")) (.tuple [.str (Str.ofString "suppose"), .str (Str.ofString "onward")]) = some (.bool false) := in_t2 _ (by decide +kernel) (by decide +kernel)
@[simp] theorem in_left_tuple_one : inD (.str (Str.ofString "left")) (.tuple [.str (Str.ofString "one"), .str (Str.ofString "other")]) = some (.bool false) := in_t2 _ (by decide +kernel) (by decide +kernel)
@[simp] theorem in_left_list_one : inD (.str (Str.ofString "left")) (.list [.str (Str.ofString "one"), .str (Str.ofString "other")]) = some (.bool false) := in_l2 _ (by decide +kernel) (by decide +kernel)
@[simp] theorem in_left_list_left : inD (.str (Str.ofString "left")) (.list [.str (Str.ofString "left"), .str (Str.ofString "right")]) = some (.bool true) := in_l2 _ (by decide +kernel) (by decide +kernel)
@[simp] theorem in_right_tuple_suppose : inD (.str (Str.ofString "right")) (.tuple [.str (Str.ofString "suppose"), .str (Str.ofString "onward")]) = some (.bool false) := in_t2 _ (by decide +kernel) (by decide +kernel)
@[simp] theorem in_right_tuple_one : inD (.str (Str.ofString "right")) (.tuple [.str (Str.ofString "one"), .str (Str.ofString "other")]) = some (.bool false) := in_t2 _ (by decide +kernel) (by decide +kernel)
@[simp] theorem in_right_list_one : inD (.str (Str.ofString "right")) (.list [.str (Str.ofString "one"), .str (Str.ofString "other")]) = some (.bool false) := in_l2 _ (by decide +kernel) (by decide +kernel)
@[simp] theorem in_right_list_left : inD (.str (Str.ofString "right")) (.list [.str (Str.ofString "left"), .str (Str.ofString "right")]) = some (.bool true) := in_l2 _ (by decide +kernel) (by decide +kernel)
@[simp] theorem in_one_tuple_suppose : inD (.str (Str.ofString "one")) (.tuple [.str (Str.ofString "suppose"), .str (Str.ofString "onward")]) = some (.bool false) := in_t2 _ (by decide +kernel) (by decide +kernel)
@[simp] theorem in_one_tuple_one : inD (.str (Str.ofString "one")) (.tuple [.str (Str.ofString "one"), .str (Str.ofString "other")]) = some (.bool true) := in_t2 _ (by decide +kernel) (by decide +kernel)
@[simp] theorem in_one_list_one : inD (.str (Str.ofString "one")) (.list [.str (Str.ofString "one"), .str (Str.ofString "other")]) = some (.bool true) := in_l2 _ (by decide +kernel) (by decide +kernel)
@[simp] theorem in_one_list_left : inD (.str (Str.ofString "one")) (.list [.str (Str.ofString "left"), .str (Str.ofString "right")]) = some (.bool false) := in_l2 _ (by decide +kernel) (by decide +kernel)
@[simp] theorem in_other_tuple_suppose : inD (.str (Str.ofString "other")) (.tuple [.str (Str.ofString "suppose"), .str (Str.ofString "onward")]) = some (.bool false) := in_t2 _ (by decide +kernel) (by decide +kernel)
@[simp] theorem in_other_tuple_one : inD (.str (Str.ofString "other")) (.tuple [.str (Str.ofString "one"), .str (Str.ofString "other")]) = some (.bool true) := in_t2 _ (by decide +kernel) (by decide +kernel)
@[simp] theorem in_other_list_one : inD (.str (Str.ofString "other")) (.list [.str (Str.ofString "one"), .str (Str.ofString "other")]) = some (.bool true) := in_l2 _ (by decide +kernel) (by decide +kernel)
@[simp] theorem in_other_list_left : inD (.str (Str.ofString "other")) (.list [.str (Str.ofString "left"), .str (Str.ofString "right")]) = some (.bool false) := in_l2 _ (by decide +kernel) (by decide +kernel)
@[simp] theorem in_cases_tuple_suppose : inD (.str (Str.ofString "cases")) (.tuple [.str (Str.ofString "suppose"), .str (Str.ofString "onward")]) = some (.bool false) := in_t2 _ (by decide +kernel) (by decide +kernel)
@[simp] theorem in_cases_tuple_one : inD (.str (Str.ofString "cases")) (.tuple [.str (Str.ofString "one"), .str (Str.ofString "other")]) = some (.bool false) := in_t2 _ (by decide +kernel) (by decide +kernel)
@[simp] theorem in_cases_list_one : inD (.str (Str.ofString "cases")) (.list [.str (Str.ofString "one"), .str (Str.ofString "other")]) = some (.bool false) := in_l2 _ (by decide +kernel) (by decide +kernel)
@[simp] theorem in_cases_list_left : inD (.str (Str.ofString "cases")) (.list [.str (Str.ofString "left"), .str (Str.ofString "right")]) = some (.bool false) := in_l2 _ (by decide +kernel) (by decide +kernel)
@[simp] theorem in_suppose_tuple_suppose : inD (.str (Str.ofString "suppose")) (.tuple [.str (Str.ofString "suppose"), .str (Str.ofString "onward")]) = some (.bool true) := in_t2 _ (by decide +kernel) (by decide +kernel)
@[simp] theorem in_suppose_tuple_one : inD (.str (Str.ofString "suppose")) (.tuple [.str (Str.ofString "one"), .str (Str.ofString "other")]) = some (.bool false) := in_t2 _ (by decide +kernel) (by decide +kernel)
@[simp] theorem in_suppose_list_one : inD (.str (Str.ofString "suppose")) (.list [.str (Str.ofString "one"), .str (Str.ofString "other")]) = some (.bool false) := in_l2 _ (by decide +kernel) (by decide +kernel)
@[simp] theorem in_suppose_list_left : inD (.str (Str.ofString "suppose")) (.list [.str (Str.ofString "left"), .str (Str.ofString "right")]) = some (.bool false) := in_l2 _ (by decide +kernel) (by decide +kernel)
@[simp] theorem in_onward_tuple_suppose : inD (.str (Str.ofString "onward")) (.tuple [.str (Str.ofString "suppose"), .str (Str.ofString "onward")]) = some (.bool true) := in_t2 _ (by decide +kernel) (by decide +kernel)
@[simp] theorem in_onward_tuple_one : inD (.str (Str.ofString "onward")) (.tuple [.str (Str.ofString "one"), .str (Str.ofString "other")]) = some (.bool false) := in_t2 _ (by decide +kernel) (by decide +kernel)
@[simp] theorem in_onward_list_one : inD (.str (Str.ofString "onward")) (.list [.str (Str.ofString "one"), .str (Str.ofString "other")]) = some (.bool false) := in_l2 _ (by decide +kernel) (by decide +kernel)
@[simp] theorem in_onward_list_left : inD (.str (Str.ofString "onward")) (.list [.str (Str.ofString "left"), .str (Str.ofString "right")]) = some (.bool false) := in_l2 _ (by decide +kernel) (by decide +kernel)
@[simp] theorem in_any_tuple_suppose : inD (.str (Str.ofString "any")) (.tuple [.str (Str.ofString "suppose"), .str (Str.ofString "onward")]) = some (.bool false) := in_t2 _ (by decide +kernel) (by decide +kernel)
@[simp] theorem in_any_tuple_one : inD (.str (Str.ofString "any")) (.tuple [.str (Str.ofString "one"), .str (Str.ofString "other")]) = some (.bool false) := in_t2 _ (by decide +kernel) (by decide +kernel)
@[simp] theorem in_any_list_one : inD (.str (Str.ofString "any")) (.list [.str (Str.ofString "one"), .str (Str.ofString "other")]) = some (.bool false) := in_l2 _ (by decide +kernel) (by decide +kernel)
@[simp] theorem in_any_list_left : inD (.str (Str.ofString "any")) (.list [.str (Str.ofString "left"), .str (Str.ofString "right")]) = some (.bool false) := in_l2 _ (by decide +kernel) (by decide +kernel)
end My

set_option maxRecDepth 100000
set_option maxHeartbeats 4000000
set_option linter.all false
namespace My
open PySem L2 DL PyProof.Rows
/-! ### rows -/
def Stm.head : Stm → Str
  | .nm _ => "name"
  | .fl => "false"
  | .bin o _ _ => o.word
@[simp] theorem st_ix0 (s : Stm) : ixD s.enc (.int 0) = some (.str s.head) := by cases s <;> rfl
@[simp] theorem st_ix1 (o : W3) (a b : Stm) : ixD (Stm.bin o a b).enc (.int 1) = some a.enc := nrfl rfl
@[simp] theorem st_ix2 (o : W3) (a b : Stm) : ixD (Stm.bin o a b).enc (.int 2) = some b.enc := nrfl rfl
def eqs (a b : Stm) : Bool := PyData.eqv a.enc b.enc
def inS (x : Stm) (gs : List Stm) : Bool := gs.any fun g => eqs g x
structure Row where
  g : List Stm
  s : Stm
  r : Str
  u : List Int
def encs (ps : List Stm) : List PyData := ps.map Stm.enc
def nums (us : List Int) : List PyData := us.map PyData.int
def Row.enc (w : Row) : PyData := .tuple [.tuple (encs w.g), w.s.enc, .str w.r, .tuple (nums w.u)]
def SOk (s : Stm) : Prop := s.Ok ∧ s.depth ≤ 40
def Row.Ok (w : Row) : Prop := (∀ x ∈ w.g, SOk x) ∧ SOk w.s ∧ w.g.length ≤ 100 ∧ w.u.length ≤ 50
@[simp] theorem row0 (w : Row) : ixD w.enc (.int 0) = some (.tuple (encs w.g)) := nrfl rfl
@[simp] theorem row1 (w : Row) : ixD w.enc (.int 1) = some w.s.enc := nrfl rfl
@[simp] theorem row2 (w : Row) : ixD w.enc (.int 2) = some (.str w.r) := nrfl rfl
@[simp] theorem row3 (w : Row) : ixD w.enc (.int 3) = some (.tuple (nums w.u)) := nrfl rfl
@[simp] theorem row_c3 (w : Row) : DL.cutD none (some 3) w.enc = some (.tuple [.tuple (encs w.g), w.s.enc, .str w.r]) := nrfl rfl
@[simp] theorem row_c2 (w : Row) : DL.cutD none (some 2) w.enc = some (.tuple [.tuple (encs w.g), w.s.enc]) := nrfl rfl
@[simp] theorem encs_len (ps : List Stm) : (encs ps).length = ps.length := List.length_map _
@[simp] theorem nums_len (ps : List Int) : (nums ps).length = ps.length := List.length_map _
theorem enc_tup (s : Stm) : ∃ ds, s.enc = .tuple ds := by cases s <;> exact ⟨_, rfl⟩
theorem s_nice {s : Stm} (h : SOk s) : Nice s.enc 40 := (stm_nice s h.1).mono h.2
theorem s_shaped {s : Stm} (h : SOk s) : SeqAt.shaped s.enc = true := nice_shaped (s_nice h) (by decide)
theorem encs_nice {gs : List Stm} (h : ∀ x ∈ gs, SOk x) : Nices (encs gs) 40 := nices_mem.mpr fun d hd => by
  obtain ⟨x, hx, rfl⟩ := List.mem_map.mp hd
  exact s_nice (h x hx)
theorem encs_shaped {gs : List Stm} (h : ∀ x ∈ gs, SOk x) : SeqAt.shaped (.tuple (encs gs)) = true ∧ SeqAt.shaped (.list (encs gs)) = true :=
  ⟨nice_shaped (nice_tup.mpr (encs_nice h)) (by decide), nice_shaped (nice_lst.mpr (encs_nice h)) (by decide)⟩
theorem eq_stm {a b : Stm} (ha : SOk a) (hb : SOk b) : eqD a.enc b.enc = some (.bool (eqs a b)) := by
  have h1 := s_shaped ha
  have h2 := s_shaped hb
  unfold eqs
  obtain ⟨ds, e⟩ := enc_tup a
  rw [e] at h1 ⊢
  have e2 : eqD (.tuple ds) b.enc = if SeqAt.shaped (.tuple ds) && SeqAt.shaped b.enc then some (.bool (PyData.eqv (.tuple ds) b.enc)) else none := rfl
  rw [e2, h1, h2]
  rfl
theorem eqs_refl {a : Stm} (h : SOk a) : eqs a a = true := PySem.SeqAt.eqv_refl a.enc (s_nice h).1
theorem in_any (x : Stm) (gs : List Stm) : ((encs gs).any fun z => PyData.eqv z x.enc) = inS x gs := by
  simp only [encs, List.any_map]
  rfl
theorem in_tup {x : Stm} {gs : List Stm} (hx : SOk x) (h : ∀ x ∈ gs, SOk x) : inD x.enc (.tuple (encs gs)) = some (.bool (inS x gs)) := by
  obtain ⟨ds, e⟩ := enc_tup x
  have h1 := s_shaped hx
  have h2 := (encs_shaped h).1
  have e2 : inD x.enc (.tuple (encs gs)) = if SeqAt.shaped x.enc && SeqAt.shaped (.tuple (encs gs)) then some (.bool ((encs gs).any fun z => PyData.eqv z x.enc)) else none := by rw [e]; rfl
  rw [e2, h1, h2, in_any]
  rfl
theorem in_lst {x : Stm} {gs : List Stm} (hx : SOk x) (h : ∀ x ∈ gs, SOk x) : inD x.enc (.list (encs gs)) = some (.bool (inS x gs)) := by
  obtain ⟨ds, e⟩ := enc_tup x
  have h1 := s_shaped hx
  have h2 := (encs_shaped h).2
  have e2 : inD x.enc (.list (encs gs)) = if SeqAt.shaped x.enc && SeqAt.shaped (.list (encs gs)) then some (.bool ((encs gs).any fun z => PyData.eqv z x.enc)) else none := by rw [e]; rfl
  rw [e2, h1, h2, in_any]
  rfl
def fromB (w : Row) (given : List Stm) (st : Stm) (sup : List Stm) : Bool := eqs w.s st && w.g.all fun o => inS o given || inS o sup
theorem bools_bl : ∀ (bs : List Bool), bools (bs.map PyData.bool) = some bs
  | [] => rfl
  | b :: bs => by simp [bools, bools_bl bs]
theorem is_from {w : Row} {given sup : List Stm} {st : Stm} (hw : w.Ok) (hg : ∀ x ∈ given, SOk x) (hs : ∀ x ∈ sup, SOk x) (ht : SOk st) :
    sem_is_from [w.enc, .tuple (encs given), st.enc, .tuple (encs sup)] = .ok (.bool (fromB w given st sup)) ∧
    sem_law_from [w.enc, .tuple (encs given), st.enc, .tuple (encs sup)] = .ok (.bool (fromB w given st sup)) ∧
    sem_law_from [w.enc, .tuple (encs given), st.enc, .list (encs sup)] = .ok (.bool (fromB w given st sup)) := by
  have he := eq_stm hw.2.1 ht
  have hl : w.g.length ≤ big := Nat.le_trans hw.2.2.1 (by decide)
  have key : ∀ (f : SE) (env : PyData → PEnv), (∀ o ∈ w.g, f (env o.enc) = .ok (.bool (inS o given || inS o sup))) → lcGo env tTrue f (encs w.g) = .ok ((w.g.map fun o => inS o given || inS o sup).map PyData.bool) := fun f env hf => by
    rw [lcGo_map (v := fun d => .bool ((given.any fun g => PyData.eqv g.enc d) || (sup.any fun g => PyData.eqv g.enc d))) (by
      intro d hd
      obtain ⟨o, ho, rfl⟩ := List.mem_map.mp hd
      exact ⟨rfl, hf o ho, rfl⟩)]
    simp only [encs, List.map_map]
    rfl
  have all : allD [.list ((w.g.map fun o => inS o given || inS o sup).map PyData.bool)] = some (.bool (w.g.all fun o => inS o given || inS o sup)) := by
    simp only [allD, bools_bl, Option.map_some, List.all_map]
    rfl
  refine ⟨?_, ?_, ?_⟩
  · simp only [sem_is_from, bodyD, F_is_from, startD]
    simp [he, eLc_ap, hl]
    by_cases hq : eqs w.s st = true
    · simp [hq]
      rw [key _ _ fun o ho => by
        have h1 := in_tup (hw.1 o ho) hg
        have h2 := in_tup (hw.1 o ho) hs
        simp [h1, h2]
        cases inS o given <;> rfl]
      rw [List.map_map] at all
      simp [Res.calm, all, fromB, hq]
    · simp [hq, fromB]
  · simp only [sem_law_from, bodyD, F_law_from, startD]
    simp [he, eLc_ap, hl]
    by_cases hq : eqs w.s st = true
    · simp [hq]
      rw [key _ _ fun o ho => by
        have h1 := in_tup (hw.1 o ho) hg
        have h2 := in_tup (hw.1 o ho) hs
        simp [h1, h2]
        cases inS o given <;> rfl]
      rw [List.map_map] at all
      simp [Res.calm, all, fromB, hq]
    · simp [hq, fromB]
  · simp only [sem_law_from, bodyD, F_law_from, startD]
    simp [he, eLc_ap, hl]
    by_cases hq : eqs w.s st = true
    · simp [hq]
      rw [key _ _ fun o ho => by
        have h1 := in_tup (hw.1 o ho) hg
        have h2 := in_lst (hw.1 o ho) hs
        simp [h1, h2]
        cases inS o given <;> rfl]
      rw [List.map_map] at all
      simp [Res.calm, all, fromB, hq]
    · simp [hq, fromB]
end My

set_option Elab.async false
set_option maxRecDepth 100000
set_option maxHeartbeats 4000000
set_option linter.all false
namespace My
open PySem L2 DL PyProof.Rows
inductive Rule where
  | given | both | left | right | one | other | cases | suppose | onward | any
def Rule.word : Rule → Str
  | .given => "given"
  | .both => "both"
  | .left => "left"
  | .right => "right"
  | .one => "one"
  | .other => "other"
  | .cases => "cases"
  | .suppose => "suppose"
  | .onward => "onward"
  | .any => "any"
def Rule.count : Rule → Nat
  | .given => 0
  | .both => 2
  | .left => 1
  | .right => 1
  | .one => 1
  | .other => 1
  | .cases => 3
  | .suppose => 1
  | .onward => 2
  | .any => 1
def core (k : Rule) (w : Row) (ups : List Row) : Bool := match k, ups with
  | .given, _ => inS w.s w.g
  | .any, [a] => fromB a w.g .fl []
  | .both, [a, b] => match w.s with
    | .bin .an x y => fromB a w.g x [] && fromB b w.g y []
    | _ => false
  | .one, [a] => match w.s with
    | .bin .orr x _ => fromB a w.g x []
    | _ => false
  | .other, [a] => match w.s with
    | .bin .orr _ y => fromB a w.g y []
    | _ => false
  | .left, [a] => match a.s with
    | .bin .an x _ => fromB a w.g a.s [] && eqs w.s x
    | _ => false
  | .right, [a] => match a.s with
    | .bin .an _ y => fromB a w.g a.s [] && eqs w.s y
    | _ => false
  | .cases, [a, b, c] => match a.s with
    | .bin .orr x y => fromB a w.g a.s [] && (fromB b w.g w.s [x] && fromB c w.g w.s [y])
    | _ => false
  | .suppose, [a] => match w.s with
    | .bin .th x y => fromB a w.g y [x]
    | _ => false
  | .onward, [a, b] => match a.s with
    | .bin .th x y => fromB a w.g a.s [] && (eqs w.s y && fromB b w.g x [])
    | _ => false
  | _, _ => false
theorem froms {w : Row} {given : List Stm} (hw : w.Ok) (hg : ∀ x ∈ given, SOk x) :
    (∀ st, SOk st → sem_is_from [w.enc, .tuple (encs given), st.enc, .tuple []] = .ok (.bool (fromB w given st []))) ∧
    (∀ st x, SOk st → SOk x → sem_is_from [w.enc, .tuple (encs given), st.enc, .tuple [x.enc]] = .ok (.bool (fromB w given st [x]))) ∧
    (∀ st, SOk st → sem_law_from [w.enc, .tuple (encs given), st.enc, .tuple []] = .ok (.bool (fromB w given st []))) ∧
    (∀ st x, SOk st → SOk x → sem_law_from [w.enc, .tuple (encs given), st.enc, .list [x.enc]] = .ok (.bool (fromB w given st [x]))) :=
  ⟨fun st h => (is_from (sup := []) hw hg (by intro x hx; cases hx) h).1, fun st x h hx => (is_from (sup := [x]) hw hg (by intro y hy; rw [List.mem_singleton] at hy; subst hy; exact hx) h).1,
   fun st h => (is_from (sup := []) hw hg (by intro x hx; cases hx) h).2.1, fun st x h hx => (is_from (sup := [x]) hw hg (by intro y hy; rw [List.mem_singleton] at hy; subst hy; exact hx) h).2.2⟩
theorem fl_ok : SOk .fl := ⟨trivial, by decide⟩
theorem bin_ok {o : W3} {a b : Stm} (h : SOk (.bin o a b)) : SOk a ∧ SOk b := by
  obtain ⟨h1, h2⟩ := h
  simp only [Stm.depth] at h2
  exact ⟨⟨h1.1, by omega⟩, ⟨h1.2, by omega⟩⟩
theorem is_pair (s : Stm) (z : Str) : sem_is_pair [s.enc, .str z] = .ok (.bool (s.head == z)) := by
  simp [sem_is_pair, bodyD, F_is_pair, startD]
@[simp] theorem head_and (s : Stm) : (s.head = Str.ofString "and") = (∃ a b, s = .bin .an a b) := by
  cases s with
  | nm w => simp [Stm.head]
  | fl => simp [Stm.head]
  | bin o a b => cases o <;> simp [Stm.head, W3.word]
@[simp] theorem head_or (s : Stm) : (s.head = Str.ofString "or") = (∃ a b, s = .bin .orr a b) := by
  cases s with
  | nm w => simp [Stm.head]
  | fl => simp [Stm.head]
  | bin o a b => cases o <;> simp [Stm.head, W3.word]
@[simp] theorem head_then (s : Stm) : (s.head = Str.ofString "then") = (∃ a b, s = .bin .th a b) := by
  cases s with
  | nm w => simp [Stm.head]
  | fl => simp [Stm.head]
  | bin o a b => cases o <;> simp [Stm.head, W3.word]
@[simp] theorem gN3 {i j k : Nat} {a b c : PyData} {ρ : PEnv} : gT 3 (gsCons (gN i) (gsCons (gN j) (gsCons (gN k) gsNil))) (.tuple [a, b, c]) ρ = some (((ρ.set i (some a)).set j (some b)).set k (some c)) := nrfl rfl
@[simp] theorem gN2 {i j : Nat} {a b : PyData} {ρ : PEnv} : gT 2 (gsCons (gN i) (gsCons (gN j) gsNil)) (.tuple [a, b]) ρ = some ((ρ.set i (some a)).set j (some b)) := nrfl rfl
@[simp] theorem int_b {b : Bool} : intD [.bool b] = some (.int (if b then 1 else 0)) := nrfl rfl
@[simp] theorem at1_0 {p : PyData} : atI [p] 0 = some p := nrfl rfl
@[simp] theorem at2_0 {p q : PyData} : atI [p, q] 0 = some p := nrfl rfl
@[simp] theorem at2_1 {p q : PyData} : atI [p, q] 1 = some q := nrfl rfl
@[simp] theorem at3_0 {p q r : PyData} : atI [p, q, r] 0 = some p := nrfl rfl
@[simp] theorem at3_1 {p q r : PyData} : atI [p, q, r] 1 = some q := nrfl rfl
@[simp] theorem at3_2 {p q r : PyData} : atI [p, q, r] 2 = some r := nrfl rfl
theorem fl_enc : Stm.fl.enc = .tuple [.str "false"] := rfl
end My

set_option Elab.async false
set_option maxRecDepth 100000
set_option maxHeartbeats 4000000
set_option linter.all false
namespace My
open PySem L2 DL PyProof.Rows
@[simp] theorem frz_b {b : Bool} : frz (.bool b) = true := nrfl rfl
theorem lc_nil {env : PyData → PEnv} {t : ST} {f : SE} : lcGo env t f [] = .ok [] := rfl
theorem lc_one {env : PyData → PEnv} {f : SE} {d : PyData} {ds : List PyData} {b : Bool} (h : f (env d) = .ok (.bool b)) : lcGo env tTrue f (d :: ds) = (lcGo env tTrue f ds).bind fun ys => .ok (.bool b :: ys) := by
  conv => lhs; unfold lcGo
  rw [tTrue_ap, h]
  cases lcGo env tTrue f ds <;> simp [Res.calm]
theorem neD_str {i j : Str} : neD (.str i) (.str j) = some (.bool (!(i == j))) := nrfl rfl
theorem ne_stm {a b : Stm} (ha : SOk a) (hb : SOk b) : neD a.enc b.enc = some (.bool (!eqs a b)) := by simp only [neD, eq_stm ha hb]
theorem bg1 : (1 : Int) ≤ (big : Nat) := by decide
theorem bg2 : (2 : Int) ≤ (big : Nat) := by decide
theorem bg3 : (3 : Int) ≤ (big : Nat) := by decide
theorem allD2 {p q : Bool} : allD [.list [.bool p, .bool q]] = some (.bool (p && q)) := by cases p <;> cases q <;> rfl
theorem core_one {w a : Row} (hw : w.Ok) (ha : a.Ok) (h : w.r = "one") : sem_by_parts [w.enc, .list [a.enc]] = .ok (.bool (core .one w [a])) ∧ sem_law_ups_right [w.enc, .list [a.enc]] = .ok (.bool (core .one w [a])) := by
  obtain ⟨sg, ss, sr, su⟩ := w
  have hp := is_pair
  have e2 : DL.upTo 0 2 = [.int 0, .int 1] := rfl
  have e3 : DL.upTo 1 2 = [.int 1, .int 2] := rfl
  rcases ss with x | _ | ⟨o, x, y⟩
  · have hws := hw.2.1
    obtain ⟨f0a, f1a, g0a, g1a⟩ := froms ha hw.1
    have has := ha.2.1
    try dsimp only at *
    refine ⟨?_, ?_⟩ <;> (simp only [sem_law_ups_right, bodyD, F_law_ups_right, startD, sem_by_parts, F_by_parts]; simp [h, hp, core, hws, f0a, f1a, g0a, g1a, has, e2, e3, eLc_ap, lc_one, lc_nil, allD2, eq_stm, ne_stm, neD_str, bg1, bg2, bg3, Stm.head, W3.word])
  · have hws := hw.2.1
    obtain ⟨f0a, f1a, g0a, g1a⟩ := froms ha hw.1
    have has := ha.2.1
    try dsimp only at *
    refine ⟨?_, ?_⟩ <;> (simp only [sem_law_ups_right, bodyD, F_law_ups_right, startD, sem_by_parts, F_by_parts]; simp [h, hp, core, hws, f0a, f1a, g0a, g1a, has, e2, e3, eLc_ap, lc_one, lc_nil, allD2, eq_stm, ne_stm, neD_str, bg1, bg2, bg3, Stm.head, W3.word])
  · cases o
    · have hws := hw.2.1
      obtain ⟨f0a, f1a, g0a, g1a⟩ := froms ha hw.1
      have has := ha.2.1
      obtain ⟨okx, oky⟩ := bin_ok (hw.2.1)
      try dsimp only at *
      cases hB0 : fromB a sg x [] <;>
      refine ⟨?_, ?_⟩ <;> (simp only [sem_law_ups_right, bodyD, F_law_ups_right, startD, sem_by_parts, F_by_parts]; simp [h, hp, core, hws, f0a, f1a, g0a, g1a, has, e2, e3, eLc_ap, lc_one, lc_nil, allD2, eq_stm, ne_stm, neD_str, bg1, bg2, bg3, Stm.head, W3.word, okx, oky, hB0])
    · have hws := hw.2.1
      obtain ⟨f0a, f1a, g0a, g1a⟩ := froms ha hw.1
      have has := ha.2.1
      obtain ⟨okx, oky⟩ := bin_ok (hw.2.1)
      try dsimp only at *
      cases hB0 : fromB a sg x [] <;>
      refine ⟨?_, ?_⟩ <;> (simp only [sem_law_ups_right, bodyD, F_law_ups_right, startD, sem_by_parts, F_by_parts]; simp [h, hp, core, hws, f0a, f1a, g0a, g1a, has, e2, e3, eLc_ap, lc_one, lc_nil, allD2, eq_stm, ne_stm, neD_str, bg1, bg2, bg3, Stm.head, W3.word, okx, oky, hB0])
    · have hws := hw.2.1
      obtain ⟨f0a, f1a, g0a, g1a⟩ := froms ha hw.1
      have has := ha.2.1
      obtain ⟨okx, oky⟩ := bin_ok (hw.2.1)
      try dsimp only at *
      cases hB0 : fromB a sg x [] <;>
      refine ⟨?_, ?_⟩ <;> (simp only [sem_law_ups_right, bodyD, F_law_ups_right, startD, sem_by_parts, F_by_parts]; simp [h, hp, core, hws, f0a, f1a, g0a, g1a, has, e2, e3, eLc_ap, lc_one, lc_nil, allD2, eq_stm, ne_stm, neD_str, bg1, bg2, bg3, Stm.head, W3.word, okx, oky, hB0])
end My

set_option Elab.async false
set_option maxRecDepth 100000
set_option maxHeartbeats 4000000
set_option linter.all false
namespace My
open PySem L2 DL PyProof.Rows
theorem core_other {w a : Row} (hw : w.Ok) (ha : a.Ok) (h : w.r = "other") : sem_by_parts [w.enc, .list [a.enc]] = .ok (.bool (core .other w [a])) ∧ sem_law_ups_right [w.enc, .list [a.enc]] = .ok (.bool (core .other w [a])) := by
  obtain ⟨sg, ss, sr, su⟩ := w
  have hp := is_pair
  have e2 : DL.upTo 0 2 = [.int 0, .int 1] := rfl
  have e3 : DL.upTo 1 2 = [.int 1, .int 2] := rfl
  rcases ss with x | _ | ⟨o, x, y⟩
  · have hws := hw.2.1
    obtain ⟨f0a, f1a, g0a, g1a⟩ := froms ha hw.1
    have has := ha.2.1
    try dsimp only at *
    refine ⟨?_, ?_⟩ <;> (simp only [sem_law_ups_right, bodyD, F_law_ups_right, startD, sem_by_parts, F_by_parts]; simp [h, hp, core, hws, f0a, f1a, g0a, g1a, has, e2, e3, eLc_ap, lc_one, lc_nil, allD2, eq_stm, ne_stm, neD_str, bg1, bg2, bg3, Stm.head, W3.word])
  · have hws := hw.2.1
    obtain ⟨f0a, f1a, g0a, g1a⟩ := froms ha hw.1
    have has := ha.2.1
    try dsimp only at *
    refine ⟨?_, ?_⟩ <;> (simp only [sem_law_ups_right, bodyD, F_law_ups_right, startD, sem_by_parts, F_by_parts]; simp [h, hp, core, hws, f0a, f1a, g0a, g1a, has, e2, e3, eLc_ap, lc_one, lc_nil, allD2, eq_stm, ne_stm, neD_str, bg1, bg2, bg3, Stm.head, W3.word])
  · cases o
    · have hws := hw.2.1
      obtain ⟨f0a, f1a, g0a, g1a⟩ := froms ha hw.1
      have has := ha.2.1
      obtain ⟨okx, oky⟩ := bin_ok (hw.2.1)
      try dsimp only at *
      cases hB0 : fromB a sg y [] <;>
      refine ⟨?_, ?_⟩ <;> (simp only [sem_law_ups_right, bodyD, F_law_ups_right, startD, sem_by_parts, F_by_parts]; simp [h, hp, core, hws, f0a, f1a, g0a, g1a, has, e2, e3, eLc_ap, lc_one, lc_nil, allD2, eq_stm, ne_stm, neD_str, bg1, bg2, bg3, Stm.head, W3.word, okx, oky, hB0])
    · have hws := hw.2.1
      obtain ⟨f0a, f1a, g0a, g1a⟩ := froms ha hw.1
      have has := ha.2.1
      obtain ⟨okx, oky⟩ := bin_ok (hw.2.1)
      try dsimp only at *
      cases hB0 : fromB a sg y [] <;>
      refine ⟨?_, ?_⟩ <;> (simp only [sem_law_ups_right, bodyD, F_law_ups_right, startD, sem_by_parts, F_by_parts]; simp [h, hp, core, hws, f0a, f1a, g0a, g1a, has, e2, e3, eLc_ap, lc_one, lc_nil, allD2, eq_stm, ne_stm, neD_str, bg1, bg2, bg3, Stm.head, W3.word, okx, oky, hB0])
    · have hws := hw.2.1
      obtain ⟨f0a, f1a, g0a, g1a⟩ := froms ha hw.1
      have has := ha.2.1
      obtain ⟨okx, oky⟩ := bin_ok (hw.2.1)
      try dsimp only at *
      cases hB0 : fromB a sg y [] <;>
      refine ⟨?_, ?_⟩ <;> (simp only [sem_law_ups_right, bodyD, F_law_ups_right, startD, sem_by_parts, F_by_parts]; simp [h, hp, core, hws, f0a, f1a, g0a, g1a, has, e2, e3, eLc_ap, lc_one, lc_nil, allD2, eq_stm, ne_stm, neD_str, bg1, bg2, bg3, Stm.head, W3.word, okx, oky, hB0])
end My

set_option Elab.async false
set_option maxRecDepth 100000
set_option maxHeartbeats 4000000
set_option linter.all false
namespace My
open PySem L2 DL PyProof.Rows
theorem core_left {w a : Row} (hw : w.Ok) (ha : a.Ok) (h : w.r = "left") : sem_by_parts [w.enc, .list [a.enc]] = .ok (.bool (core .left w [a])) ∧ sem_law_ups_right [w.enc, .list [a.enc]] = .ok (.bool (core .left w [a])) := by
  obtain ⟨sg, ss, sr, su⟩ := a
  have hp := is_pair
  have e2 : DL.upTo 0 2 = [.int 0, .int 1] := rfl
  have e3 : DL.upTo 1 2 = [.int 1, .int 2] := rfl
  rcases ss with x | _ | ⟨o, x, y⟩
  · have hws := hw.2.1
    obtain ⟨f0a, f1a, g0a, g1a⟩ := froms ha hw.1
    have has := ha.2.1
    try dsimp only at *
    cases hB0 : fromB (Row.mk sg (Stm.nm x) sr su) w.g (Stm.nm x) [] <;>
    refine ⟨?_, ?_⟩ <;> (simp only [sem_law_ups_right, bodyD, F_law_ups_right, startD, sem_by_parts, F_by_parts]; simp [h, hp, core, hws, f0a, f1a, g0a, g1a, has, e2, e3, eLc_ap, lc_one, lc_nil, allD2, eq_stm, ne_stm, neD_str, bg1, bg2, bg3, Stm.head, W3.word, hB0])
  · have hws := hw.2.1
    obtain ⟨f0a, f1a, g0a, g1a⟩ := froms ha hw.1
    have has := ha.2.1
    try dsimp only at *
    cases hB0 : fromB (Row.mk sg (Stm.fl) sr su) w.g (Stm.fl) [] <;>
    refine ⟨?_, ?_⟩ <;> (simp only [sem_law_ups_right, bodyD, F_law_ups_right, startD, sem_by_parts, F_by_parts]; simp [h, hp, core, hws, f0a, f1a, g0a, g1a, has, e2, e3, eLc_ap, lc_one, lc_nil, allD2, eq_stm, ne_stm, neD_str, bg1, bg2, bg3, Stm.head, W3.word, hB0])
  · cases o
    · have hws := hw.2.1
      obtain ⟨f0a, f1a, g0a, g1a⟩ := froms ha hw.1
      have has := ha.2.1
      obtain ⟨okx, oky⟩ := bin_ok (ha.2.1)
      try dsimp only at *
      cases hB0 : fromB (Row.mk sg (Stm.bin .an x y) sr su) w.g (Stm.bin .an x y) [] <;>
      cases hB1 : eqs w.s x <;>
      refine ⟨?_, ?_⟩ <;> (simp only [sem_law_ups_right, bodyD, F_law_ups_right, startD, sem_by_parts, F_by_parts]; simp [h, hp, core, hws, f0a, f1a, g0a, g1a, has, e2, e3, eLc_ap, lc_one, lc_nil, allD2, eq_stm, ne_stm, neD_str, bg1, bg2, bg3, Stm.head, W3.word, okx, oky, hB0, hB1])
    · have hws := hw.2.1
      obtain ⟨f0a, f1a, g0a, g1a⟩ := froms ha hw.1
      have has := ha.2.1
      obtain ⟨okx, oky⟩ := bin_ok (ha.2.1)
      try dsimp only at *
      cases hB0 : fromB (Row.mk sg (Stm.bin .orr x y) sr su) w.g (Stm.bin .orr x y) [] <;>
      cases hB1 : eqs w.s x <;>
      refine ⟨?_, ?_⟩ <;> (simp only [sem_law_ups_right, bodyD, F_law_ups_right, startD, sem_by_parts, F_by_parts]; simp [h, hp, core, hws, f0a, f1a, g0a, g1a, has, e2, e3, eLc_ap, lc_one, lc_nil, allD2, eq_stm, ne_stm, neD_str, bg1, bg2, bg3, Stm.head, W3.word, okx, oky, hB0, hB1])
    · have hws := hw.2.1
      obtain ⟨f0a, f1a, g0a, g1a⟩ := froms ha hw.1
      have has := ha.2.1
      obtain ⟨okx, oky⟩ := bin_ok (ha.2.1)
      try dsimp only at *
      cases hB0 : fromB (Row.mk sg (Stm.bin .th x y) sr su) w.g (Stm.bin .th x y) [] <;>
      cases hB1 : eqs w.s x <;>
      refine ⟨?_, ?_⟩ <;> (simp only [sem_law_ups_right, bodyD, F_law_ups_right, startD, sem_by_parts, F_by_parts]; simp [h, hp, core, hws, f0a, f1a, g0a, g1a, has, e2, e3, eLc_ap, lc_one, lc_nil, allD2, eq_stm, ne_stm, neD_str, bg1, bg2, bg3, Stm.head, W3.word, okx, oky, hB0, hB1])
end My

set_option Elab.async false
set_option maxRecDepth 100000
set_option maxHeartbeats 4000000
set_option linter.all false
namespace My
open PySem L2 DL PyProof.Rows
theorem core_right {w a : Row} (hw : w.Ok) (ha : a.Ok) (h : w.r = "right") : sem_by_parts [w.enc, .list [a.enc]] = .ok (.bool (core .right w [a])) ∧ sem_law_ups_right [w.enc, .list [a.enc]] = .ok (.bool (core .right w [a])) := by
  obtain ⟨sg, ss, sr, su⟩ := a
  have hp := is_pair
  have e2 : DL.upTo 0 2 = [.int 0, .int 1] := rfl
  have e3 : DL.upTo 1 2 = [.int 1, .int 2] := rfl
  rcases ss with x | _ | ⟨o, x, y⟩
  · have hws := hw.2.1
    obtain ⟨f0a, f1a, g0a, g1a⟩ := froms ha hw.1
    have has := ha.2.1
    try dsimp only at *
    cases hB0 : fromB (Row.mk sg (Stm.nm x) sr su) w.g (Stm.nm x) [] <;>
    refine ⟨?_, ?_⟩ <;> (simp only [sem_law_ups_right, bodyD, F_law_ups_right, startD, sem_by_parts, F_by_parts]; simp [h, hp, core, hws, f0a, f1a, g0a, g1a, has, e2, e3, eLc_ap, lc_one, lc_nil, allD2, eq_stm, ne_stm, neD_str, bg1, bg2, bg3, Stm.head, W3.word, hB0])
  · have hws := hw.2.1
    obtain ⟨f0a, f1a, g0a, g1a⟩ := froms ha hw.1
    have has := ha.2.1
    try dsimp only at *
    cases hB0 : fromB (Row.mk sg (Stm.fl) sr su) w.g (Stm.fl) [] <;>
    refine ⟨?_, ?_⟩ <;> (simp only [sem_law_ups_right, bodyD, F_law_ups_right, startD, sem_by_parts, F_by_parts]; simp [h, hp, core, hws, f0a, f1a, g0a, g1a, has, e2, e3, eLc_ap, lc_one, lc_nil, allD2, eq_stm, ne_stm, neD_str, bg1, bg2, bg3, Stm.head, W3.word, hB0])
  · cases o
    · have hws := hw.2.1
      obtain ⟨f0a, f1a, g0a, g1a⟩ := froms ha hw.1
      have has := ha.2.1
      obtain ⟨okx, oky⟩ := bin_ok (ha.2.1)
      try dsimp only at *
      cases hB0 : fromB (Row.mk sg (Stm.bin .an x y) sr su) w.g (Stm.bin .an x y) [] <;>
      cases hB1 : eqs w.s y <;>
      refine ⟨?_, ?_⟩ <;> (simp only [sem_law_ups_right, bodyD, F_law_ups_right, startD, sem_by_parts, F_by_parts]; simp [h, hp, core, hws, f0a, f1a, g0a, g1a, has, e2, e3, eLc_ap, lc_one, lc_nil, allD2, eq_stm, ne_stm, neD_str, bg1, bg2, bg3, Stm.head, W3.word, okx, oky, hB0, hB1])
    · have hws := hw.2.1
      obtain ⟨f0a, f1a, g0a, g1a⟩ := froms ha hw.1
      have has := ha.2.1
      obtain ⟨okx, oky⟩ := bin_ok (ha.2.1)
      try dsimp only at *
      cases hB0 : fromB (Row.mk sg (Stm.bin .orr x y) sr su) w.g (Stm.bin .orr x y) [] <;>
      cases hB1 : eqs w.s y <;>
      refine ⟨?_, ?_⟩ <;> (simp only [sem_law_ups_right, bodyD, F_law_ups_right, startD, sem_by_parts, F_by_parts]; simp [h, hp, core, hws, f0a, f1a, g0a, g1a, has, e2, e3, eLc_ap, lc_one, lc_nil, allD2, eq_stm, ne_stm, neD_str, bg1, bg2, bg3, Stm.head, W3.word, okx, oky, hB0, hB1])
    · have hws := hw.2.1
      obtain ⟨f0a, f1a, g0a, g1a⟩ := froms ha hw.1
      have has := ha.2.1
      obtain ⟨okx, oky⟩ := bin_ok (ha.2.1)
      try dsimp only at *
      cases hB0 : fromB (Row.mk sg (Stm.bin .th x y) sr su) w.g (Stm.bin .th x y) [] <;>
      cases hB1 : eqs w.s y <;>
      refine ⟨?_, ?_⟩ <;> (simp only [sem_law_ups_right, bodyD, F_law_ups_right, startD, sem_by_parts, F_by_parts]; simp [h, hp, core, hws, f0a, f1a, g0a, g1a, has, e2, e3, eLc_ap, lc_one, lc_nil, allD2, eq_stm, ne_stm, neD_str, bg1, bg2, bg3, Stm.head, W3.word, okx, oky, hB0, hB1])
end My

set_option Elab.async false
set_option maxRecDepth 100000
set_option maxHeartbeats 4000000
set_option linter.all false
namespace My
open PySem L2 DL PyProof.Rows
theorem core_suppose {w a : Row} (hw : w.Ok) (ha : a.Ok) (h : w.r = "suppose") : sem_by_then [w.enc, .list [a.enc]] = .ok (.bool (core .suppose w [a])) ∧ sem_law_ups_right [w.enc, .list [a.enc]] = .ok (.bool (core .suppose w [a])) := by
  obtain ⟨sg, ss, sr, su⟩ := w
  have hp := is_pair
  have e2 : DL.upTo 0 2 = [.int 0, .int 1] := rfl
  have e3 : DL.upTo 1 2 = [.int 1, .int 2] := rfl
  rcases ss with x | _ | ⟨o, x, y⟩
  · have hws := hw.2.1
    obtain ⟨f0a, f1a, g0a, g1a⟩ := froms ha hw.1
    have has := ha.2.1
    try dsimp only at *
    refine ⟨?_, ?_⟩ <;> (simp only [sem_law_ups_right, bodyD, F_law_ups_right, startD, sem_by_then, F_by_then]; simp [h, hp, core, hws, f0a, f1a, g0a, g1a, has, e2, e3, eLc_ap, lc_one, lc_nil, allD2, eq_stm, ne_stm, neD_str, bg1, bg2, bg3, Stm.head, W3.word])
  · have hws := hw.2.1
    obtain ⟨f0a, f1a, g0a, g1a⟩ := froms ha hw.1
    have has := ha.2.1
    try dsimp only at *
    refine ⟨?_, ?_⟩ <;> (simp only [sem_law_ups_right, bodyD, F_law_ups_right, startD, sem_by_then, F_by_then]; simp [h, hp, core, hws, f0a, f1a, g0a, g1a, has, e2, e3, eLc_ap, lc_one, lc_nil, allD2, eq_stm, ne_stm, neD_str, bg1, bg2, bg3, Stm.head, W3.word])
  · cases o
    · have hws := hw.2.1
      obtain ⟨f0a, f1a, g0a, g1a⟩ := froms ha hw.1
      have has := ha.2.1
      obtain ⟨okx, oky⟩ := bin_ok (hw.2.1)
      try dsimp only at *
      cases hB0 : fromB a sg y [x] <;>
      refine ⟨?_, ?_⟩ <;> (simp only [sem_law_ups_right, bodyD, F_law_ups_right, startD, sem_by_then, F_by_then]; simp [h, hp, core, hws, f0a, f1a, g0a, g1a, has, e2, e3, eLc_ap, lc_one, lc_nil, allD2, eq_stm, ne_stm, neD_str, bg1, bg2, bg3, Stm.head, W3.word, okx, oky, hB0])
    · have hws := hw.2.1
      obtain ⟨f0a, f1a, g0a, g1a⟩ := froms ha hw.1
      have has := ha.2.1
      obtain ⟨okx, oky⟩ := bin_ok (hw.2.1)
      try dsimp only at *
      cases hB0 : fromB a sg y [x] <;>
      refine ⟨?_, ?_⟩ <;> (simp only [sem_law_ups_right, bodyD, F_law_ups_right, startD, sem_by_then, F_by_then]; simp [h, hp, core, hws, f0a, f1a, g0a, g1a, has, e2, e3, eLc_ap, lc_one, lc_nil, allD2, eq_stm, ne_stm, neD_str, bg1, bg2, bg3, Stm.head, W3.word, okx, oky, hB0])
    · have hws := hw.2.1
      obtain ⟨f0a, f1a, g0a, g1a⟩ := froms ha hw.1
      have has := ha.2.1
      obtain ⟨okx, oky⟩ := bin_ok (hw.2.1)
      try dsimp only at *
      cases hB0 : fromB a sg y [x] <;>
      refine ⟨?_, ?_⟩ <;> (simp only [sem_law_ups_right, bodyD, F_law_ups_right, startD, sem_by_then, F_by_then]; simp [h, hp, core, hws, f0a, f1a, g0a, g1a, has, e2, e3, eLc_ap, lc_one, lc_nil, allD2, eq_stm, ne_stm, neD_str, bg1, bg2, bg3, Stm.head, W3.word, okx, oky, hB0])
end My

set_option Elab.async false
set_option maxRecDepth 100000
set_option maxHeartbeats 4000000
set_option linter.all false
namespace My
open PySem L2 DL PyProof.Rows
theorem core_both {w a b : Row} (hw : w.Ok) (ha : a.Ok) (hb : b.Ok) (h : w.r = "both") : sem_by_parts [w.enc, .list [a.enc, b.enc]] = .ok (.bool (core .both w [a, b])) ∧ sem_law_ups_right [w.enc, .list [a.enc, b.enc]] = .ok (.bool (core .both w [a, b])) := by
  obtain ⟨sg, ss, sr, su⟩ := w
  have hp := is_pair
  have e2 : DL.upTo 0 2 = [.int 0, .int 1] := rfl
  have e3 : DL.upTo 1 2 = [.int 1, .int 2] := rfl
  rcases ss with x | _ | ⟨o, x, y⟩
  · have hws := hw.2.1
    obtain ⟨f0a, f1a, g0a, g1a⟩ := froms ha hw.1
    have has := ha.2.1
    obtain ⟨f0b, f1b, g0b, g1b⟩ := froms hb hw.1
    have hbs := hb.2.1
    try dsimp only at *
    refine ⟨?_, ?_⟩ <;> (simp only [sem_law_ups_right, bodyD, F_law_ups_right, startD, sem_by_parts, F_by_parts]; simp [h, hp, core, hws, f0a, f1a, g0a, g1a, has, f0b, f1b, g0b, g1b, hbs, e2, e3, eLc_ap, lc_one, lc_nil, allD2, Res.calm, eq_stm, ne_stm, neD_str, bg1, bg2, bg3, Stm.head, W3.word])
  · have hws := hw.2.1
    obtain ⟨f0a, f1a, g0a, g1a⟩ := froms ha hw.1
    have has := ha.2.1
    obtain ⟨f0b, f1b, g0b, g1b⟩ := froms hb hw.1
    have hbs := hb.2.1
    try dsimp only at *
    refine ⟨?_, ?_⟩ <;> (simp only [sem_law_ups_right, bodyD, F_law_ups_right, startD, sem_by_parts, F_by_parts]; simp [h, hp, core, hws, f0a, f1a, g0a, g1a, has, f0b, f1b, g0b, g1b, hbs, e2, e3, eLc_ap, lc_one, lc_nil, allD2, Res.calm, eq_stm, ne_stm, neD_str, bg1, bg2, bg3, Stm.head, W3.word])
  · cases o
    · have hws := hw.2.1
      obtain ⟨f0a, f1a, g0a, g1a⟩ := froms ha hw.1
      have has := ha.2.1
      obtain ⟨f0b, f1b, g0b, g1b⟩ := froms hb hw.1
      have hbs := hb.2.1
      obtain ⟨okx, oky⟩ := bin_ok (hw.2.1)
      try dsimp only at *
      cases hB0 : fromB a sg x [] <;>
      cases hB1 : fromB b sg y [] <;>
      refine ⟨?_, ?_⟩ <;> (simp only [sem_law_ups_right, bodyD, F_law_ups_right, startD, sem_by_parts, F_by_parts]; simp [h, hp, core, hws, f0a, f1a, g0a, g1a, has, f0b, f1b, g0b, g1b, hbs, e2, e3, eLc_ap, lc_one, lc_nil, allD2, Res.calm, eq_stm, ne_stm, neD_str, bg1, bg2, bg3, Stm.head, W3.word, okx, oky, hB0, hB1])
    · have hws := hw.2.1
      obtain ⟨f0a, f1a, g0a, g1a⟩ := froms ha hw.1
      have has := ha.2.1
      obtain ⟨f0b, f1b, g0b, g1b⟩ := froms hb hw.1
      have hbs := hb.2.1
      obtain ⟨okx, oky⟩ := bin_ok (hw.2.1)
      try dsimp only at *
      cases hB0 : fromB a sg x [] <;>
      cases hB1 : fromB b sg y [] <;>
      refine ⟨?_, ?_⟩ <;> (simp only [sem_law_ups_right, bodyD, F_law_ups_right, startD, sem_by_parts, F_by_parts]; simp [h, hp, core, hws, f0a, f1a, g0a, g1a, has, f0b, f1b, g0b, g1b, hbs, e2, e3, eLc_ap, lc_one, lc_nil, allD2, Res.calm, eq_stm, ne_stm, neD_str, bg1, bg2, bg3, Stm.head, W3.word, okx, oky, hB0, hB1])
    · have hws := hw.2.1
      obtain ⟨f0a, f1a, g0a, g1a⟩ := froms ha hw.1
      have has := ha.2.1
      obtain ⟨f0b, f1b, g0b, g1b⟩ := froms hb hw.1
      have hbs := hb.2.1
      obtain ⟨okx, oky⟩ := bin_ok (hw.2.1)
      try dsimp only at *
      cases hB0 : fromB a sg x [] <;>
      cases hB1 : fromB b sg y [] <;>
      refine ⟨?_, ?_⟩ <;> (simp only [sem_law_ups_right, bodyD, F_law_ups_right, startD, sem_by_parts, F_by_parts]; simp [h, hp, core, hws, f0a, f1a, g0a, g1a, has, f0b, f1b, g0b, g1b, hbs, e2, e3, eLc_ap, lc_one, lc_nil, allD2, Res.calm, eq_stm, ne_stm, neD_str, bg1, bg2, bg3, Stm.head, W3.word, okx, oky, hB0, hB1])
end My

set_option Elab.async false
set_option maxRecDepth 100000
set_option maxHeartbeats 4000000
set_option linter.all false
namespace My
open PySem L2 DL PyProof.Rows
theorem core_onward {w a b : Row} (hw : w.Ok) (ha : a.Ok) (hb : b.Ok) (h : w.r = "onward") : sem_by_then [w.enc, .list [a.enc, b.enc]] = .ok (.bool (core .onward w [a, b])) ∧ sem_law_ups_right [w.enc, .list [a.enc, b.enc]] = .ok (.bool (core .onward w [a, b])) := by
  obtain ⟨sg, ss, sr, su⟩ := a
  have hp := is_pair
  have e2 : DL.upTo 0 2 = [.int 0, .int 1] := rfl
  have e3 : DL.upTo 1 2 = [.int 1, .int 2] := rfl
  rcases ss with x | _ | ⟨o, x, y⟩
  · have hws := hw.2.1
    obtain ⟨f0a, f1a, g0a, g1a⟩ := froms ha hw.1
    have has := ha.2.1
    obtain ⟨f0b, f1b, g0b, g1b⟩ := froms hb hw.1
    have hbs := hb.2.1
    try dsimp only at *
    cases hB0 : fromB (Row.mk sg (Stm.nm x) sr su) w.g (Stm.nm x) [] <;>
    refine ⟨?_, ?_⟩ <;> (simp only [sem_law_ups_right, bodyD, F_law_ups_right, startD, sem_by_then, F_by_then]; simp [h, hp, core, hws, f0a, f1a, g0a, g1a, has, f0b, f1b, g0b, g1b, hbs, e2, e3, eLc_ap, lc_one, lc_nil, allD2, eq_stm, ne_stm, neD_str, bg1, bg2, bg3, Stm.head, W3.word, hB0])
  · have hws := hw.2.1
    obtain ⟨f0a, f1a, g0a, g1a⟩ := froms ha hw.1
    have has := ha.2.1
    obtain ⟨f0b, f1b, g0b, g1b⟩ := froms hb hw.1
    have hbs := hb.2.1
    try dsimp only at *
    cases hB0 : fromB (Row.mk sg (Stm.fl) sr su) w.g (Stm.fl) [] <;>
    refine ⟨?_, ?_⟩ <;> (simp only [sem_law_ups_right, bodyD, F_law_ups_right, startD, sem_by_then, F_by_then]; simp [h, hp, core, hws, f0a, f1a, g0a, g1a, has, f0b, f1b, g0b, g1b, hbs, e2, e3, eLc_ap, lc_one, lc_nil, allD2, eq_stm, ne_stm, neD_str, bg1, bg2, bg3, Stm.head, W3.word, hB0])
  · cases o
    · have hws := hw.2.1
      obtain ⟨f0a, f1a, g0a, g1a⟩ := froms ha hw.1
      have has := ha.2.1
      obtain ⟨f0b, f1b, g0b, g1b⟩ := froms hb hw.1
      have hbs := hb.2.1
      obtain ⟨okx, oky⟩ := bin_ok (ha.2.1)
      try dsimp only at *
      cases hB0 : fromB (Row.mk sg (Stm.bin .an x y) sr su) w.g (Stm.bin .an x y) [] <;>
      cases hB1 : eqs w.s y <;>
      cases hB2 : fromB b w.g x [] <;>
      refine ⟨?_, ?_⟩ <;> (simp only [sem_law_ups_right, bodyD, F_law_ups_right, startD, sem_by_then, F_by_then]; simp [h, hp, core, hws, f0a, f1a, g0a, g1a, has, f0b, f1b, g0b, g1b, hbs, e2, e3, eLc_ap, lc_one, lc_nil, allD2, eq_stm, ne_stm, neD_str, bg1, bg2, bg3, Stm.head, W3.word, okx, oky, hB0, hB1, hB2])
    · have hws := hw.2.1
      obtain ⟨f0a, f1a, g0a, g1a⟩ := froms ha hw.1
      have has := ha.2.1
      obtain ⟨f0b, f1b, g0b, g1b⟩ := froms hb hw.1
      have hbs := hb.2.1
      obtain ⟨okx, oky⟩ := bin_ok (ha.2.1)
      try dsimp only at *
      cases hB0 : fromB (Row.mk sg (Stm.bin .orr x y) sr su) w.g (Stm.bin .orr x y) [] <;>
      cases hB1 : eqs w.s y <;>
      cases hB2 : fromB b w.g x [] <;>
      refine ⟨?_, ?_⟩ <;> (simp only [sem_law_ups_right, bodyD, F_law_ups_right, startD, sem_by_then, F_by_then]; simp [h, hp, core, hws, f0a, f1a, g0a, g1a, has, f0b, f1b, g0b, g1b, hbs, e2, e3, eLc_ap, lc_one, lc_nil, allD2, eq_stm, ne_stm, neD_str, bg1, bg2, bg3, Stm.head, W3.word, okx, oky, hB0, hB1, hB2])
    · have hws := hw.2.1
      obtain ⟨f0a, f1a, g0a, g1a⟩ := froms ha hw.1
      have has := ha.2.1
      obtain ⟨f0b, f1b, g0b, g1b⟩ := froms hb hw.1
      have hbs := hb.2.1
      obtain ⟨okx, oky⟩ := bin_ok (ha.2.1)
      try dsimp only at *
      cases hB0 : fromB (Row.mk sg (Stm.bin .th x y) sr su) w.g (Stm.bin .th x y) [] <;>
      cases hB1 : eqs w.s y <;>
      cases hB2 : fromB b w.g x [] <;>
      refine ⟨?_, ?_⟩ <;> (simp only [sem_law_ups_right, bodyD, F_law_ups_right, startD, sem_by_then, F_by_then]; simp [h, hp, core, hws, f0a, f1a, g0a, g1a, has, f0b, f1b, g0b, g1b, hbs, e2, e3, eLc_ap, lc_one, lc_nil, allD2, eq_stm, ne_stm, neD_str, bg1, bg2, bg3, Stm.head, W3.word, okx, oky, hB0, hB1, hB2])
end My

set_option Elab.async false
set_option maxRecDepth 100000
set_option maxHeartbeats 4000000
set_option linter.all false
namespace My
open PySem L2 DL PyProof.Rows
theorem core_cases {w a b c : Row} (hw : w.Ok) (ha : a.Ok) (hb : b.Ok) (hc : c.Ok) (h : w.r = "cases") : sem_by_cases [w.enc, .list [a.enc, b.enc, c.enc]] = .ok (.bool (core .cases w [a, b, c])) ∧ sem_law_ups_right [w.enc, .list [a.enc, b.enc, c.enc]] = .ok (.bool (core .cases w [a, b, c])) := by
  obtain ⟨sg, ss, sr, su⟩ := a
  have hp := is_pair
  have e2 : DL.upTo 0 2 = [.int 0, .int 1] := rfl
  have e3 : DL.upTo 1 2 = [.int 1, .int 2] := rfl
  rcases ss with x | _ | ⟨o, x, y⟩
  · have hws := hw.2.1
    obtain ⟨f0a, f1a, g0a, g1a⟩ := froms ha hw.1
    have has := ha.2.1
    obtain ⟨f0b, f1b, g0b, g1b⟩ := froms hb hw.1
    have hbs := hb.2.1
    obtain ⟨f0c, f1c, g0c, g1c⟩ := froms hc hw.1
    have hcs := hc.2.1
    try dsimp only at *
    cases hB0 : fromB (Row.mk sg (Stm.nm x) sr su) w.g (Stm.nm x) [] <;>
    refine ⟨?_, ?_⟩ <;> (simp only [sem_law_ups_right, bodyD, F_law_ups_right, startD, sem_by_cases, F_by_cases]; simp [h, hp, core, hws, f0a, f1a, g0a, g1a, has, f0b, f1b, g0b, g1b, hbs, f0c, f1c, g0c, g1c, hcs, e2, e3, eLc_ap, lc_one, lc_nil, allD2, Res.calm, eq_stm, ne_stm, neD_str, bg1, bg2, bg3, Stm.head, W3.word, hB0])
  · have hws := hw.2.1
    obtain ⟨f0a, f1a, g0a, g1a⟩ := froms ha hw.1
    have has := ha.2.1
    obtain ⟨f0b, f1b, g0b, g1b⟩ := froms hb hw.1
    have hbs := hb.2.1
    obtain ⟨f0c, f1c, g0c, g1c⟩ := froms hc hw.1
    have hcs := hc.2.1
    try dsimp only at *
    cases hB0 : fromB (Row.mk sg (Stm.fl) sr su) w.g (Stm.fl) [] <;>
    refine ⟨?_, ?_⟩ <;> (simp only [sem_law_ups_right, bodyD, F_law_ups_right, startD, sem_by_cases, F_by_cases]; simp [h, hp, core, hws, f0a, f1a, g0a, g1a, has, f0b, f1b, g0b, g1b, hbs, f0c, f1c, g0c, g1c, hcs, e2, e3, eLc_ap, lc_one, lc_nil, allD2, Res.calm, eq_stm, ne_stm, neD_str, bg1, bg2, bg3, Stm.head, W3.word, hB0])
  · cases o
    · have hws := hw.2.1
      obtain ⟨f0a, f1a, g0a, g1a⟩ := froms ha hw.1
      have has := ha.2.1
      obtain ⟨f0b, f1b, g0b, g1b⟩ := froms hb hw.1
      have hbs := hb.2.1
      obtain ⟨f0c, f1c, g0c, g1c⟩ := froms hc hw.1
      have hcs := hc.2.1
      obtain ⟨okx, oky⟩ := bin_ok (ha.2.1)
      try dsimp only at *
      cases hB0 : fromB (Row.mk sg (Stm.bin .an x y) sr su) w.g (Stm.bin .an x y) [] <;>
      cases hB1 : fromB b w.g w.s [x] <;>
      cases hB2 : fromB c w.g w.s [y] <;>
      refine ⟨?_, ?_⟩ <;> (simp only [sem_law_ups_right, bodyD, F_law_ups_right, startD, sem_by_cases, F_by_cases]; simp [h, hp, core, hws, f0a, f1a, g0a, g1a, has, f0b, f1b, g0b, g1b, hbs, f0c, f1c, g0c, g1c, hcs, e2, e3, eLc_ap, lc_one, lc_nil, allD2, Res.calm, eq_stm, ne_stm, neD_str, bg1, bg2, bg3, Stm.head, W3.word, okx, oky, hB0, hB1, hB2])
    · have hws := hw.2.1
      obtain ⟨f0a, f1a, g0a, g1a⟩ := froms ha hw.1
      have has := ha.2.1
      obtain ⟨f0b, f1b, g0b, g1b⟩ := froms hb hw.1
      have hbs := hb.2.1
      obtain ⟨f0c, f1c, g0c, g1c⟩ := froms hc hw.1
      have hcs := hc.2.1
      obtain ⟨okx, oky⟩ := bin_ok (ha.2.1)
      try dsimp only at *
      cases hB0 : fromB (Row.mk sg (Stm.bin .orr x y) sr su) w.g (Stm.bin .orr x y) [] <;>
      cases hB1 : fromB b w.g w.s [x] <;>
      cases hB2 : fromB c w.g w.s [y] <;>
      refine ⟨?_, ?_⟩ <;> (simp only [sem_law_ups_right, bodyD, F_law_ups_right, startD, sem_by_cases, F_by_cases]; simp [h, hp, core, hws, f0a, f1a, g0a, g1a, has, f0b, f1b, g0b, g1b, hbs, f0c, f1c, g0c, g1c, hcs, e2, e3, eLc_ap, lc_one, lc_nil, allD2, Res.calm, eq_stm, ne_stm, neD_str, bg1, bg2, bg3, Stm.head, W3.word, okx, oky, hB0, hB1, hB2])
    · have hws := hw.2.1
      obtain ⟨f0a, f1a, g0a, g1a⟩ := froms ha hw.1
      have has := ha.2.1
      obtain ⟨f0b, f1b, g0b, g1b⟩ := froms hb hw.1
      have hbs := hb.2.1
      obtain ⟨f0c, f1c, g0c, g1c⟩ := froms hc hw.1
      have hcs := hc.2.1
      obtain ⟨okx, oky⟩ := bin_ok (ha.2.1)
      try dsimp only at *
      cases hB0 : fromB (Row.mk sg (Stm.bin .th x y) sr su) w.g (Stm.bin .th x y) [] <;>
      cases hB1 : fromB b w.g w.s [x] <;>
      cases hB2 : fromB c w.g w.s [y] <;>
      refine ⟨?_, ?_⟩ <;> (simp only [sem_law_ups_right, bodyD, F_law_ups_right, startD, sem_by_cases, F_by_cases]; simp [h, hp, core, hws, f0a, f1a, g0a, g1a, has, f0b, f1b, g0b, g1b, hbs, f0c, f1c, g0c, g1c, hcs, e2, e3, eLc_ap, lc_one, lc_nil, allD2, Res.calm, eq_stm, ne_stm, neD_str, bg1, bg2, bg3, Stm.head, W3.word, okx, oky, hB0, hB1, hB2])
end My

set_option Elab.async false
set_option maxRecDepth 100000
set_option maxHeartbeats 4000000
set_option linter.all false
namespace My
open PySem L2 DL PyProof.Rows
def kinds : List Rule := [.given, .both, .left, .right, .one, .other, .cases, .suppose, .onward, .any]
/-- the rule of a word -/
def ruleOf (z : Str) : Option Rule := kinds.find? fun k => k.word == z
theorem ruleOf_word {z : Str} {k : Rule} (h : ruleOf z = some k) : z = k.word := by
  have := List.find?_some h
  exact (eq_of_beq this).symm
def countD (z : Str) : PyData := match ruleOf z with
  | some k => .int k.count
  | none => .none
def pairD (k : Rule) : PyData := .tuple [.str k.word, .int k.count]
theorem count_go (z : Str) : ∀ (ks : List Rule) (x y : Option PyData), ∃ ρ', forGo (gT 2 (gsCons (gN 1) (gsCons (gN 2) gsNil))) (sIf (asT (eOp eqD (eVar 1) (eVar 0))) (sRet (eVar 2)) sNext) (ks.map pairD) [some (.str z), x, y] =
    match ks.find? fun k => k.word == z with
    | some k => .ok (.rt (.int k.count))
    | none => .ok (.nx ρ')
  | [], x, y => ⟨_, rfl⟩
  | k :: ks, x, y => by
    obtain ⟨ρ', ih⟩ := count_go z ks (some (.str k.word)) (some (.int k.count))
    refine ⟨ρ', ?_⟩
    simp only [List.map_cons, List.find?_cons]
    unfold forGo
    cases hz : k.word == z with
    | true => simp [pairD, beq_iff_eq.mp hz]
    | false =>
      have hz' : ¬ k.word = z := by simpa using hz
      simp [pairD, hz', ih]
theorem count_of (z : Str) : sem_count_of [.str z] = .ok (countD z) := by
  have ea : addD gl_COUNTS gl_MORE_COUNTS = some (.tuple (kinds.map pairD)) := rfl
  obtain ⟨ρ', h⟩ := count_go z kinds none none
  have hl : (kinds.map pairD).length ≤ big := by decide
  simp only [sem_count_of, bodyD, F_count_of, startD]
  simp only [countD, ruleOf]
  generalize kinds.map pairD = ks at *
  simp [ea, sFor_ap, hl, h]
  cases kinds.find? fun k => k.word == z <;> rfl
theorem counts_kv : kvD (mergeK (mergeK [] [(Sum.inr "given", V.int 0), (Sum.inr "both", V.int 2), (Sum.inr "left", V.int 1), (Sum.inr "right", V.int 1), (Sum.inr "one", V.int 1), (Sum.inr "other", V.int 1)]) (mergeK [] [(Sum.inr "cases", V.int 3), (Sum.inr "suppose", V.int 1), (Sum.inr "onward", V.int 2), (Sum.inr "any", V.int 1)])) = kinds.map fun k => (.str k.word, .int k.count) := rfl
theorem look_go (z : Str) : ∀ ks : List Rule, lookS (ks.map fun k => (.str k.word, .int k.count)) z = (ks.find? fun k => k.word == z).map fun k => .int k.count
  | [] => rfl
  | k :: ks => by
    have ih := look_go z ks
    simp only [lookS, List.map_cons, List.find?_cons] at ih ⊢
    by_cases h : k.word = z
    · simp [h]
    · have hb : (k.word == z) = false := by simpa using h
      simp only [hb]
      simpa [h] using ih
theorem counts_get (z : Str) (d : PyData) : getD2 (kinds.map fun k => (.str k.word, .int k.count)) (.str z) d = some (match ruleOf z with
    | some k => .int k.count
    | none => d) := by
  simp only [getD2, look_go, ruleOf]
  cases kinds.find? fun k => k.word == z <;> rfl
theorem ne_none (l : Int) : neD .none (.int l) = some (.bool true) := rfl
mutual
theorem frz_stm : ∀ s : Stm, frz s.enc = true
  | .nm _ => rfl
  | .fl => rfl
  | .bin o a b => by
    simp only [Stm.enc, frz, frzs, frz_stm a, frz_stm b]
    rfl
end
theorem frzs_encs : ∀ gs : List Stm, frzs (encs gs) = true
  | [] => rfl
  | g :: gs => by
    show (frz g.enc && frzs (encs gs)) = true
    rw [frz_stm, frzs_encs gs]; rfl
theorem frzs_nums : ∀ us : List Int, frzs (nums us) = true
  | [] => rfl
  | g :: gs => by
    show (frz (.int g) && frzs (nums gs)) = true
    rw [frzs_nums gs]; rfl
theorem frz_row (w : Row) : frz w.enc = true := by
  simp only [Row.enc, frz, frzs, frz_stm, frzs_encs, frzs_nums]
  rfl
def rows (rs : List Row) : List PyData := rs.map Row.enc
theorem rows_at {rs : List Row} {n : Nat} {w : Row} (h : rs[n]? = some w) : atI (rows rs) (n : Nat) = some w.enc := atI_nat (by rw [rows, List.getElem?_map, h]; rfl)
def upsOf (rs : List Row) (w : Row) : List Row := w.u.map fun i => (rs[i.toNat]?).getD w
def inR (us : List Int) (n : Int) : Bool := us.all fun i => decide (0 ≤ i ∧ i < n)
def fol (rs : List Row) (n : Nat) : Bool := match rs[n]? with
  | none => false
  | some w => match ruleOf w.r with
    | none => false
    | some k => decide (k.count = w.u.length) && (inR w.u n && core k w (upsOf rs w))
theorem core_given {w : Row} {us : List PyData} (hw : w.Ok) (h : w.r = "given") : sem_law_ups_right [w.enc, .list us] = .ok (.bool (inS w.s w.g)) := by
  have hi := in_tup hw.2.1 hw.1
  simp only [sem_law_ups_right, bodyD, F_law_ups_right, startD]
  simp [h, hi]
theorem core_any {w a : Row} (hw : w.Ok) (ha : a.Ok) (h : w.r = "any") : sem_law_ups_right [w.enc, .list [a.enc]] = .ok (.bool (fromB a w.g .fl [])) := by
  obtain ⟨f0, f1, g0, g1⟩ := froms ha hw.1
  have gf := g0 .fl fl_ok
  rw [fl_enc] at gf
  simp only [sem_law_ups_right, bodyD, F_law_ups_right, startD]
  simp [h, gf]
end My

set_option Elab.async false
set_option maxRecDepth 100000
set_option maxHeartbeats 4000000
set_option linter.all false
namespace My
open PySem L2 DL PyProof.Rows
theorem guard_go (us : List Int) (n : Int) (f : SE) (env : PyData → PEnv) (hf : ∀ i : Int, f (env (.int i)) = .ok (.bool (decide (0 ≤ i ∧ i < n)))) : lcGo env tTrue f (nums us) = .ok ((us.map fun i => decide (0 ≤ i ∧ i < n)).map PyData.bool) := by
  rw [lcGo_map (v := fun d => match d with | .int i => .bool (decide (0 ≤ i ∧ i < n)) | _ => .none) (by
    intro d hd
    obtain ⟨i, _, rfl⟩ := List.mem_map.mp hd
    exact ⟨rfl, hf i, rfl⟩)]
  simp only [nums, List.map_map]
  rfl
theorem guard_all (us : List Int) (n : Int) : allD [.list ((us.map fun i => decide (0 ≤ i ∧ i < n)).map PyData.bool)] = some (.bool (inR us n)) := by
  simp only [allD, bools_bl, Option.map_some, List.all_map]
  rfl
theorem ups_go {rs : List Row} {w : Row} {n : Nat} (hn : n < rs.length) (hu : inR w.u n = true) (f : SE) (env : PyData → PEnv) (hf : ∀ (i : Nat) (r : Row), rs[i]? = some r → f (env (.int (i : Nat))) = .ok r.enc) :
    lcGo env tTrue f (nums w.u) = .ok ((upsOf rs w).map Row.enc) := by
  rw [lcGo_map (v := fun d => match d with | .int i => ((rs[i.toNat]?).getD w).enc | _ => .none) (by
    intro d hd
    obtain ⟨i, hi, rfl⟩ := List.mem_map.mp hd
    have h := of_decide_eq_true (List.all_eq_true.mp hu i hi)
    have hl : i.toNat < rs.length := by omega
    have q := hf i.toNat rs[i.toNat] (List.getElem?_eq_getElem hl)
    rw [Int.toNat_of_nonneg h.1] at q
    refine ⟨rfl, ?_, frz_row _⟩
    rw [q]
    show Res.ok _ = Res.ok ((rs[i.toNat]?).getD w).enc
    rw [List.getElem?_eq_getElem hl]
    rfl)]
  simp only [nums, upsOf, List.map_map]
  rfl
theorem ups_ok {rs : List Row} {w : Row} (hr : ∀ r ∈ rs, r.Ok) (hw : w.Ok) : ∀ r ∈ upsOf rs w, r.Ok := fun r h => by
  obtain ⟨i, _, rfl⟩ := List.mem_map.mp h
  cases e : rs[i.toNat]? with
  | none => exact hw
  | some r => exact hr r (List.mem_of_getElem? e)
theorem len1 {α : Type} {xs : List α} (h : xs.length = 1) : ∃ a, xs = [a] := by
  match xs, h with
  | [a], _ => exact ⟨a, rfl⟩
theorem len2 {α : Type} {xs : List α} (h : xs.length = 2) : ∃ a b, xs = [a, b] := by
  match xs, h with
  | [a, b], _ => exact ⟨a, b, rfl⟩
theorem len3 {α : Type} {xs : List α} (h : xs.length = 3) : ∃ a b c, xs = [a, b, c] := by
  match xs, h with
  | [a, b, c], _ => exact ⟨a, b, c, rfl⟩
/-- the law's look at the rows ahead -/
theorem law_core {k : Rule} {w : Row} {ups : List Row} (hw : w.Ok) (hu : ∀ r ∈ ups, r.Ok) (hl : ups.length = k.count) (h : w.r = k.word) : sem_law_ups_right [w.enc, .list (ups.map Row.enc)] = .ok (.bool (core k w ups)) := by
  cases k with
  | given => rw [core_given hw h]; cases ups <;> rfl
  | any => obtain ⟨a, rfl⟩ := len1 hl; exact core_any hw (hu a (by simp)) h
  | both => obtain ⟨a, b, rfl⟩ := len2 hl; exact (core_both hw (hu a (by simp)) (hu b (by simp)) h).2
  | left => obtain ⟨a, rfl⟩ := len1 hl; exact (core_left hw (hu a (by simp)) h).2
  | right => obtain ⟨a, rfl⟩ := len1 hl; exact (core_right hw (hu a (by simp)) h).2
  | one => obtain ⟨a, rfl⟩ := len1 hl; exact (core_one hw (hu a (by simp)) h).2
  | other => obtain ⟨a, rfl⟩ := len1 hl; exact (core_other hw (hu a (by simp)) h).2
  | cases => obtain ⟨a, b, c, rfl⟩ := len3 hl; exact (core_cases hw (hu a (by simp)) (hu b (by simp)) (hu c (by simp)) h).2
  | suppose => obtain ⟨a, rfl⟩ := len1 hl; exact (core_suppose hw (hu a (by simp)) h).2
  | onward => obtain ⟨a, b, rfl⟩ := len2 hl; exact (core_onward hw (hu a (by simp)) (hu b (by simp)) h).2
theorem rows_len (rs : List Row) : (rows rs).length = rs.length := List.length_map _
theorem law_follows {rs : List Row} (hr : ∀ r ∈ rs, r.Ok) {n : Nat} (hn : n < rs.length) : sem_law_follows [.list (rows rs), .int (n : Nat)] = .ok (.bool (fol rs n)) := by
  obtain ⟨w, hw⟩ : ∃ w, rs[n]? = some w := ⟨_, List.getElem?_eq_getElem hn⟩
  have ok := hr w (List.mem_of_getElem? hw)
  have hat := rows_at hw
  have hul : w.u.length ≤ big := Nat.le_trans ok.2.2.2 (by decide)
  simp only [sem_law_follows, bodyD, F_law_follows, startD]
  simp only [counts_kv]
  simp only [fol, hw]
  generalize hk : kinds.map (fun k => (PyData.str k.word, PyData.int k.count)) = kv
  have hg := counts_get w.r (.int 99)
  rw [hk] at hg
  cases hR : ruleOf w.r with
  | none =>
    have h99 : ¬ (99 : Int) = w.u.length := by have := ok.2.2.2; omega
    simp only [hR] at hg
    simp [hat, hg, h99]
  | some k =>
    simp only [hR] at hg
    by_cases hc : k.count = w.u.length
    · have hc' : (k.count : Int) = w.u.length := by omega
      simp [hat, hg, hc', eLc_ap, hul]
      rw [guard_go w.u n _ _ (fun i => by
        simp
        by_cases h0 : 0 ≤ i <;> simp [h0])]
      simp only [Res.calm, Res.ok_bind, guard_all, Res.of_some]
      cases hu : inR w.u n with
      | false => simp [hc]
      | true =>
        simp
        rw [ups_go hn hu _ _ (fun i r hi => by
          have := rows_at hi
          simp [this])]
        have hl := law_core ok (ups_ok hr ok) (by rw [upsOf, List.length_map]; exact hc.symm) (ruleOf_word hR)
        simp [Res.calm, hl, hc, hul]
    · have hc' : ¬ (k.count : Int) = w.u.length := by omega
      simp [hat, hg, hc, hc']
/-- the program's -/
theorem follows {rs : List Row} (hr : ∀ r ∈ rs, r.Ok) {n : Nat} (hn : n < rs.length) : sem_follows [.list (rows rs), .int (n : Nat)] = .ok (.bool (fol rs n)) := by
  obtain ⟨w, hw⟩ : ∃ w, rs[n]? = some w := ⟨_, List.getElem?_eq_getElem hn⟩
  have ok := hr w (List.mem_of_getElem? hw)
  have hat := rows_at hw
  have hul : w.u.length ≤ big := Nat.le_trans ok.2.2.2 (by decide)
  have hg := count_of w.r
  simp only [sem_follows, bodyD, F_follows, startD]
  simp only [fol, hw]
  cases hR : ruleOf w.r with
  | none =>
    simp only [countD, hR] at hg
    simp [hat, hg, ne_none]
  | some k =>
    simp only [countD, hR] at hg
    by_cases hc : k.count = w.u.length
    · have hc' : (k.count : Int) = w.u.length := by omega
      simp [hat, hg, hc', eLc_ap, hul]
      rw [guard_go w.u n _ _ (fun i => by
        simp
        by_cases h0 : 0 ≤ i <;> simp [h0])]
      simp only [Res.calm, Res.ok_bind, guard_all, Res.of_some]
      cases hu : inR w.u n with
      | false => simp [hc]
      | true =>
        simp
        rw [ups_go hn hu _ _ (fun i r hi => by
          have := rows_at hi
          simp [this])]
        have hwr := ruleOf_word hR
        have hok := ups_ok hr ok
        have hl : (upsOf rs w).length = k.count := by rw [upsOf, List.length_map]; exact hc.symm
        generalize upsOf rs w = ups at *
        have hin := in_tup ok.2.1 ok.1
        simp only [Res.calm, Res.ok_bind]
        cases k with
        | given =>
          simp only [Rule.word] at hwr
          simp [hwr, hc, hul, hin]
          cases ups <;> rfl
        | any =>
          obtain ⟨a, rfl⟩ := len1 hl
          have f := (froms (hok a (by simp)) ok.1).1 .fl fl_ok
          rw [fl_enc] at f
          simp only [Rule.word] at hwr
          simp [hwr, hc, hul, f, core]
        | both => obtain ⟨a, b, rfl⟩ := len2 hl; have q := (core_both ok (hok a (by simp)) (hok b (by simp)) hwr).1; simp only [Rule.word] at hwr; simp [hwr, hc, hul, q]
        | left => obtain ⟨a, rfl⟩ := len1 hl; have q := (core_left ok (hok a (by simp)) hwr).1; simp only [Rule.word] at hwr; simp [hwr, hc, hul, q]
        | right => obtain ⟨a, rfl⟩ := len1 hl; have q := (core_right ok (hok a (by simp)) hwr).1; simp only [Rule.word] at hwr; simp [hwr, hc, hul, q]
        | one => obtain ⟨a, rfl⟩ := len1 hl; have q := (core_one ok (hok a (by simp)) hwr).1; simp only [Rule.word] at hwr; simp [hwr, hc, hul, q]
        | other => obtain ⟨a, rfl⟩ := len1 hl; have q := (core_other ok (hok a (by simp)) hwr).1; simp only [Rule.word] at hwr; simp [hwr, hc, hul, q]
        | cases => obtain ⟨a, b, c, rfl⟩ := len3 hl; have q := (core_cases ok (hok a (by simp)) (hok b (by simp)) (hok c (by simp)) hwr).1; simp only [Rule.word] at hwr; simp [hwr, hc, hul, q]
        | suppose => obtain ⟨a, rfl⟩ := len1 hl; have q := (core_suppose ok (hok a (by simp)) hwr).1; simp only [Rule.word] at hwr; simp [hwr, hc, hul, q]
        | onward => obtain ⟨a, b, rfl⟩ := len2 hl; have q := (core_onward ok (hok a (by simp)) (hok b (by simp)) hwr).1; simp only [Rule.word] at hwr; simp [hwr, hc, hul, q]
    · have hc' : ¬ (k.count : Int) = w.u.length := by omega
      simp [hat, hg, hc, hc']
end My

set_option Elab.async false
set_option maxRecDepth 100000
set_option maxHeartbeats 4000000
set_option linter.all false
namespace My
open PySem L2 DL PyProof.Rows
def RN (w : Row) : Prop := w.Ok ∧ Nice (.str w.r) 0
theorem row_nice {w : Row} (h : RN w) : Nice w.enc 44 := by
  have h1 : Nice (.tuple (encs w.g)) 43 := nice_tup.mpr (nices_mem.mpr fun d hd => (nices_mem.mp (encs_nice h.1.1) d hd).mono (by decide))
  have h2 : Nices (nums w.u) 42 := nices_mem.mpr fun d hd => by
    obtain ⟨i, _, rfl⟩ := List.mem_map.mp hd
    exact ⟨rfl, Nat.zero_le _, rfl⟩
  exact nice_tup.mpr (nices_cons.mpr ⟨h1, nices_cons.mpr ⟨(s_nice h.1.2.1).mono (by decide), nices_cons.mpr ⟨h.2.mono (by decide), nices_cons.mpr ⟨nice_tup.mpr h2, nices_nil _⟩⟩⟩⟩)
theorem rows_nice {rs : List Row} (h : ∀ r ∈ rs, RN r) : Nices (rows rs) 44 := nices_mem.mpr fun d hd => by
  obtain ⟨w, hw, rfl⟩ := List.mem_map.mp hd
  exact row_nice (h w hw)
theorem eq_nil {xs : List PyData} {k : Nat} (h : Nices xs k) (hk : k ≤ 63) : eqD (.list xs) (.list []) = some (.bool xs.isEmpty) := by
  have e1 := nice_shaped (nice_lst.mpr h) (by omega)
  have e : SeqAt.shaped (.list []) = true := by decide
  have e2 : eqD (.list xs) (.list []) = if SeqAt.shaped (.list xs) && SeqAt.shaped (.list []) then some (.bool (PyData.eqv (.list xs) (.list []))) else none := rfl
  rw [e2, e1, e]
  cases xs <;> rfl
theorem ne_nil {xs : List PyData} {k : Nat} (h : Nices xs k) (hk : k ≤ 63) : neD (.list xs) (.list []) = some (.bool (!xs.isEmpty)) := by
  simp only [neD, eq_nil h hk]
theorem eq_niltup {xs : List PyData} {k : Nat} (h : Nices xs k) (hk : k ≤ 63) : eqD (.tuple xs) (.tuple []) = some (.bool xs.isEmpty) := by
  have e1 := nice_shaped (nice_tup.mpr h) (by omega)
  have e : SeqAt.shaped (.tuple []) = true := by decide
  have e2 : eqD (.tuple xs) (.tuple []) = if SeqAt.shaped (.tuple xs) && SeqAt.shaped (.tuple []) then some (.bool (PyData.eqv (.tuple xs) (.tuple []))) else none := rfl
  rw [e2, e1, e]
  cases xs <;> rfl
theorem ne_same {xs : List PyData} {k : Nat} (h : Nices xs k) (hk : k ≤ 63) : neD (.list xs) (.list xs) = some (.bool false) := by
  have e1 := nice_shaped (nice_lst.mpr h) (by omega)
  have e2 : eqD (.list xs) (.list xs) = if SeqAt.shaped (.list xs) && SeqAt.shaped (.list xs) then some (.bool (PyData.eqv (.list xs) (.list xs))) else none := rfl
  have e3 : PyData.eqv (.list xs) (.list xs) = true := PySem.SeqAt.eqv_refl _ (nice_lst.mpr h).1
  simp only [neD, e2, e1, e3]
  rfl
def natOf : PyData → Nat
  | .int i => i.toNat
  | _ => 0
def allF (rs : List Row) : Bool := (DL.upTo 0 rs.length).all fun d => fol rs (natOf d)
theorem mem_up {n : Nat} {d : PyData} (h : d ∈ DL.upTo 0 n) : ∃ i : Nat, i < n ∧ d = .int (i : Nat) ∧ natOf d = i := by
  obtain ⟨i, hi, rfl⟩ := mem_upTo.mp h
  refine ⟨i, hi, by rw [Int.zero_add], by simp [natOf]⟩
theorem big40 {n : Nat} (h : n ≤ 40) : -(big : Int) ≤ n ∧ (n : Int) ≤ big := by simp only [big]; omega
theorem faults {rs : List Row} (hr : ∀ r ∈ rs, RN r) (hl : rs.length ≤ 40) : ∃ xs, sem_faults [.list (rows rs)] = .ok (.list xs) ∧ neD (.list xs) (.list []) = some (.bool (!allF rs)) := by
  have hb := big40 hl
  have hok : ∀ r ∈ rs, r.Ok := fun r h => (hr r h).1
  refine ⟨((DL.upTo 0 rs.length).filter fun d => !fol rs (natOf d)).map id, ?_, ?_⟩
  · simp only [sem_faults, bodyD, F_faults, startD]
    simp [eLc_ap, rows_len, hb, upTo_len, big_ge (show rs.length ≤ 1000 by omega)]
    rw [lcGo_filter (p := fun d => !fol rs (natOf d)) (v := id) (by
      intro d hd
      obtain ⟨i, hi, rfl, hn⟩ := mem_up hd
      have := follows hok hi
      exact ⟨by simp [this, natOf], fun _ => ⟨by simp, rfl⟩⟩)]
    simp [Res.calm]
  · have hn : Nices (((DL.upTo 0 rs.length).filter fun d => !fol rs (natOf d)).map id) 0 := nices_mem.mpr fun d hd => by
      rw [List.map_id] at hd
      obtain ⟨i, _, rfl, _⟩ := mem_up (List.mem_filter.mp hd).1
      exact ⟨rfl, Nat.zero_le _, rfl⟩
    rw [ne_nil hn (by decide)]
    congr 3
    rw [List.map_id, allF]
    induction DL.upTo 0 rs.length with
    | nil => rfl
    | cons d ds ih =>
      simp only [List.filter_cons, List.all_cons]
      cases fol rs (natOf d) with
      | true => simpa using ih
      | false => rfl
def showsB (rs : List Row) (st : Stm) : Bool := allF rs && match rs.getLast? with
  | some w => eqs w.s st && w.g.isEmpty
  | none => false
theorem rows_back (ys : List Row) (w : Row) : atI (rows (ys ++ [w])) (-1) = some w.enc := by
  rw [rows, List.map_append]
  exact atI_last _ _
theorem shows {rs : List Row} {st : Stm} (hr : ∀ r ∈ rs, RN r) (hl : rs.length ≤ 40) (hs : SOk st) : sem_shows [.list (rows rs), st.enc] = .ok (.bool (showsB rs st)) := by
  obtain ⟨xs, h1, h2⟩ := faults hr hl
  simp only [sem_shows, bodyD, F_shows, startD]
  rcases List.eq_nil_or_concat rs with rfl | ⟨ys, w, e⟩
  · simp [rows, showsB]
  · rw [List.concat_eq_append] at e
    subst e
    have hb := rows_back ys w
    have hw := (hr w (by simp)).1
    have he := eq_stm hw.2.1 hs
    have hne : ¬ (((rows (ys ++ [w])).length : Nat) : Int) = 0 := by rw [rows_len, List.length_append]; simp; omega
    have hgl : (((w.g.length : Nat) : Int) == 0) = w.g.isEmpty := by
      cases w.g with
      | nil => rfl
      | cons a b => simp; omega
    simp only [showsB]
    generalize hA : allF (ys ++ [w]) = A at *
    generalize hrows : rows (ys ++ [w]) = R at *
    simp [hne, h1, h2, hb, he]
    cases A with
    | false => simp
    | true =>
      cases hq : eqs w.s st with
      | false => simp [hq]
      | true =>
        have hR : ¬ R = [] := fun e => by rw [e] at hb; cases hb
        simp [hq, hR, hgl]
end My

set_option Elab.async false
set_option maxRecDepth 100000
set_option maxHeartbeats 4000000
set_option linter.all false
namespace My
open PySem L2 DL PyProof.Rows
/-! ### the showings by hand -/
def W (way : Int) (a b : Stm) : List Row :=
  if way = 0 then [⟨[a], a, "given", []⟩, ⟨[], .bin .th a a, "suppose", [0]⟩]
  else if way = 1 then
    let both := Stm.bin .an a b
    [⟨[both], both, "given", []⟩, ⟨[both], a, "left", [0]⟩, ⟨[both], b, "right", [0]⟩, ⟨[both], .bin .an b a, "both", [2, 1]⟩, ⟨[], .bin .th both (.bin .an b a), "suppose", [3]⟩]
  else if way = 2 then
    let some' := Stm.bin .orr a b
    [⟨[some'], some', "given", []⟩, ⟨[a], a, "given", []⟩, ⟨[a], .bin .orr b a, "other", [1]⟩, ⟨[b], b, "given", []⟩, ⟨[b], .bin .orr b a, "one", [3]⟩, ⟨[some'], .bin .orr b a, "cases", [0, 2, 4]⟩, ⟨[], .bin .th some' (.bin .orr b a), "suppose", [5]⟩]
  else if way = 3 then
    let goes := Stm.bin .th a b
    [⟨[goes, a], goes, "given", []⟩, ⟨[a], a, "given", []⟩, ⟨[goes, a], b, "onward", [0, 1]⟩, ⟨[goes], goes, "suppose", [2]⟩, ⟨[], .bin .th goes goes, "suppose", [3]⟩]
  else if way = 4 then [⟨[.fl], .fl, "given", []⟩, ⟨[.fl], a, "any", [0]⟩, ⟨[], .bin .th .fl a, "suppose", [1]⟩]
  else [⟨[b, a], a, "given", []⟩, ⟨[a], .bin .th b a, "suppose", [0]⟩, ⟨[], .bin .th a (.bin .th b a), "suppose", [1]⟩]
theorem name_ok {w : Str} (h : NameOk w) : SOk (.nm w) := ⟨h, by show 1 ≤ 40; decide⟩
theorem mk_ok {o : W3} {a b : Stm} {k : Nat} (ha : a.Ok ∧ a.depth ≤ k) (hb : b.Ok ∧ b.depth ≤ k) : (Stm.bin o a b).Ok ∧ (Stm.bin o a b).depth ≤ k + 1 := ⟨⟨ha.1, hb.1⟩, by simp only [Stm.depth]; omega⟩
theorem showing_by (s c : Int) : ∃ wa wb, NameOk wa ∧ NameOk wb ∧ sem_law_showing_by [.int s, .int c] = .ok (.list (rows (W (c % 6) (.nm wa) (.nm wb)))) := by
  obtain ⟨wa, ha, hao⟩ := name_by s 0
  obtain ⟨wb, hb, hbo⟩ := name_by s 1
  refine ⟨wa, wb, hao, hbo, ?_⟩
  have hc : c % 6 = 0 ∨ c % 6 = 1 ∨ c % 6 = 2 ∨ c % 6 = 3 ∨ c % 6 = 4 ∨ c % 6 = 5 := by omega
  have hadd : ∀ {a b : List PyData}, a.length + b.length ≤ 1000 → addD (.list a) (.list b) = some (.list (a ++ b)) := fun h => if_pos (big_ge h)
  simp only [sem_law_showing_by, bodyD, F_law_showing_by, startD]
  rcases hc with h | h | h | h | h | h <;> (simp [ha, hb, h, hadd, W]; rfl)
def sh (m : Int) (w : Row) : Row := { w with u := w.u.map (· + m) }
def shD (m : Int) : PyData → PyData
  | .tuple [g, s, r, .tuple us] => .tuple [g, s, r, .tuple (us.map fun d => match d with | .int i => .int (i + m) | d => d)]
  | d => d
theorem shD_enc (m : Int) (w : Row) : shD m w.enc = (sh m w).enc := by
  simp only [Row.enc, shD, sh, nums, List.map_map]
  rfl
theorem up2_const (m : Nat) (d : PyData) : (DL.upTo 0 m).map (fun _ => d) = List.replicate m d := by rw [List.map_const', upTo_len]
theorem moved (rs : List Row) (m : Nat) (s : Int) (hm : m ≤ 10) (hl : rs.length ≤ 10) (hr : ∀ r ∈ rs, r.u.length ≤ 10) : ∃ wc, NameOk wc ∧ sem_law_moved [.list (rows rs), .int (m : Nat), .int s] = .ok (.list (rows (List.replicate m ⟨[.nm wc], .nm wc, "given", []⟩ ++ rs.map (sh m)))) := by
  obtain ⟨wc, hc, hco⟩ := name_by s 2
  refine ⟨wc, hco, ?_⟩
  have hb := big40 (show m ≤ 40 by omega)
  have hadd : ∀ {a b : List PyData}, a.length + b.length ≤ 1000 → addD (.list a) (.list b) = some (.list (a ++ b)) := fun h => if_pos (big_ge h)
  simp only [sem_law_moved, bodyD, F_law_moved, startD]
  simp [hc, eLc_ap, hb, upTo_len, big_ge (show m ≤ 1000 by omega), rows_len, big_ge (show rs.length ≤ 1000 by omega)]
  rw [lcGo_map (v := fun _ => (Row.mk [.nm wc] (.nm wc) "given" []).enc) (by
    intro d hd
    exact ⟨rfl, by simp; rfl, frz_row _⟩)]
  rw [up2_const]
  simp only [Res.calm, Res.ok_bind]
  have e2 : ∀ env f, (∀ w ∈ rs, f (env w.enc) = .ok (sh m w).enc) → lcGo env tTrue f (rows rs) = .ok (rows (rs.map (sh m))) := fun env f hf => by
    rw [lcGo_map (v := shD m) (by
      intro d hd
      obtain ⟨w, hw, rfl⟩ := List.mem_map.mp hd
      rw [shD_enc]
      exact ⟨rfl, hf w hw, frz_row _⟩)]
    simp only [rows, List.map_map]
    congr 1
    exact List.map_congr_left fun w _ => shD_enc m w
  simp [rows_len, big_ge (show rs.length ≤ 1000 by omega)]
  rw [e2 _ _ (fun w hw => by
    have hu := hr w hw
    simp [eLc_ap, big_ge (show w.u.length ≤ 1000 by omega)]
    rw [lcGo_map (v := fun d => match d with | .int i => .int (i + m) | d => d) (by
      intro d hd
      obtain ⟨i, _, rfl⟩ := List.mem_map.mp hd
      exact ⟨rfl, by simp, rfl⟩)]
    simp [Res.calm, tupleD]
    rw [← shD_enc]
    rfl)]
  have ea := hadd (a := List.replicate m (Row.mk [.nm wc] (.nm wc) "given" []).enc) (b := rows (rs.map (sh m))) (by rw [List.length_replicate, rows_len, List.length_map]; omega)
  have er : rows (List.replicate m (Row.mk [.nm wc] (.nm wc) "given" []) ++ rs.map (sh m)) = List.replicate m (Row.mk [.nm wc] (.nm wc) "given" []).enc ++ rows (rs.map (sh m)) := by
    simp [rows]
  rw [er]
  simp only [ea, Res.of_some, Res.ok_bind]
end My

set_option Elab.async false
set_option maxRecDepth 100000
set_option maxHeartbeats 4000000
set_option linter.all false
namespace My
open PySem L2 DL PyProof.Rows
/-! ### the right ones show -/
theorem core_sh (m : Int) (k : Rule) (w : Row) (ups : List Row) : core k (sh m w) (ups.map (sh m)) = core k w ups := by
  cases k <;> rcases ups with _ | ⟨a, _ | ⟨b, _ | ⟨c, _ | ⟨d, e⟩⟩⟩⟩ <;> rfl
theorem ruleOf_k (k : Rule) : ruleOf k.word = some k := by cases k <;> rfl
theorem fol_at {rs : List Row} {n : Nat} {w : Row} {k : Rule} (h1 : rs[n]? = some w) (h2 : w.r = k.word) (h3 : k.count = w.u.length) (h4 : inR w.u n = true) (h5 : core k w (upsOf rs w) = true) : fol rs n = true := by
  simp only [fol, h1, h2, ruleOf_k, h3, h4, h5]
  simp
theorem fol_w {a b : Stm} (ha : SOk a) (hb : SOk b) (hda : a.depth ≤ 1) (hdb : b.depth ≤ 1) (way : Int) : ∀ (j : Nat) (w : Row), (W way a b)[j]? = some w → ∃ k : Rule, w.r = k.word ∧ k.count = w.u.length ∧ inR w.u j = true ∧ core k w (upsOf (W way a b) w) = true := by
  have A : ∀ {k}, 1 ≤ k → a.Ok ∧ a.depth ≤ k := fun h => ⟨ha.1, by omega⟩
  have B : ∀ {k}, 1 ≤ k → b.Ok ∧ b.depth ≤ k := fun h => ⟨hb.1, by omega⟩
  have ra := eqs_refl ha
  have rb := eqs_refl hb
  have rf := eqs_refl fl_ok
  have r2 : ∀ o : W3, eqs (.bin o a b) (.bin o a b) = true ∧ eqs (.bin o b a) (.bin o b a) = true ∧ eqs (.bin o a a) (.bin o a a) = true := fun o => ⟨eqs_refl ⟨⟨ha.1, hb.1⟩, by simp only [Stm.depth]; omega⟩, eqs_refl ⟨⟨hb.1, ha.1⟩, by simp only [Stm.depth]; omega⟩, eqs_refl ⟨⟨ha.1, ha.1⟩, by simp only [Stm.depth]; omega⟩⟩
  intro j w h
  unfold W at h ⊢
  split at h
  · rename_i hw
    simp only [if_pos hw]
    rcases j with _ | _ | j <;> simp at h <;> subst h
    · exact ⟨.given, rfl, rfl, rfl, by simp [core, inS, upsOf, fromB, ra, rb, rf, r2]⟩
    · exact ⟨.suppose, rfl, rfl, rfl, by simp [core, inS, upsOf, fromB, ra, rb, rf, r2]⟩
  rename_i h0
  simp only [if_neg h0]
  split at h
  · rename_i hw
    simp only [if_pos hw]
    rcases j with _ | _ | _ | _ | _ | j <;> simp at h <;> subst h
    · exact ⟨.given, rfl, rfl, rfl, by simp [core, inS, upsOf, fromB, ra, rb, rf, r2]⟩
    · exact ⟨.left, rfl, rfl, rfl, by simp [core, inS, upsOf, fromB, ra, rb, rf, r2]⟩
    · exact ⟨.right, rfl, rfl, rfl, by simp [core, inS, upsOf, fromB, ra, rb, rf, r2]⟩
    · exact ⟨.both, rfl, rfl, rfl, by simp [core, inS, upsOf, fromB, ra, rb, rf, r2]⟩
    · exact ⟨.suppose, rfl, rfl, rfl, by simp [core, inS, upsOf, fromB, ra, rb, rf, r2]⟩
  rename_i h1
  simp only [if_neg h1]
  split at h
  · rename_i hw
    simp only [if_pos hw]
    rcases j with _ | _ | _ | _ | _ | _ | _ | j <;> simp at h <;> subst h
    · exact ⟨.given, rfl, rfl, rfl, by simp [core, inS, upsOf, fromB, ra, rb, rf, r2]⟩
    · exact ⟨.given, rfl, rfl, rfl, by simp [core, inS, upsOf, fromB, ra, rb, rf, r2]⟩
    · exact ⟨.other, rfl, rfl, rfl, by simp [core, inS, upsOf, fromB, ra, rb, rf, r2]⟩
    · exact ⟨.given, rfl, rfl, rfl, by simp [core, inS, upsOf, fromB, ra, rb, rf, r2]⟩
    · exact ⟨.one, rfl, rfl, rfl, by simp [core, inS, upsOf, fromB, ra, rb, rf, r2]⟩
    · exact ⟨.cases, rfl, rfl, rfl, by simp [core, inS, upsOf, fromB, ra, rb, rf, r2]⟩
    · exact ⟨.suppose, rfl, rfl, rfl, by simp [core, inS, upsOf, fromB, ra, rb, rf, r2]⟩
  rename_i h2
  simp only [if_neg h2]
  split at h
  · rename_i hw
    simp only [if_pos hw]
    rcases j with _ | _ | _ | _ | _ | j <;> simp at h <;> subst h
    · exact ⟨.given, rfl, rfl, rfl, by simp [core, inS, upsOf, fromB, ra, rb, rf, r2]⟩
    · exact ⟨.given, rfl, rfl, rfl, by simp [core, inS, upsOf, fromB, ra, rb, rf, r2]⟩
    · exact ⟨.onward, rfl, rfl, rfl, by simp [core, inS, upsOf, fromB, ra, rb, rf, r2]⟩
    · exact ⟨.suppose, rfl, rfl, rfl, by simp [core, inS, upsOf, fromB, ra, rb, rf, r2]⟩
    · exact ⟨.suppose, rfl, rfl, rfl, by simp [core, inS, upsOf, fromB, ra, rb, rf, r2]⟩
  rename_i h3
  simp only [if_neg h3]
  split at h
  · rename_i hw
    simp only [if_pos hw]
    rcases j with _ | _ | _ | j <;> simp at h <;> subst h
    · exact ⟨.given, rfl, rfl, rfl, by simp [core, inS, upsOf, fromB, ra, rb, rf, r2]⟩
    · exact ⟨.any, rfl, rfl, rfl, by simp [core, inS, upsOf, fromB, ra, rb, rf, r2]⟩
    · exact ⟨.suppose, rfl, rfl, rfl, by simp [core, inS, upsOf, fromB, ra, rb, rf, r2]⟩
  rename_i h4
  simp only [if_neg h4]
  rcases j with _ | _ | _ | j <;> simp at h <;> subst h
  · exact ⟨.given, rfl, rfl, rfl, by simp [core, inS, upsOf, fromB, ra, rb, rf, r2]⟩
  · exact ⟨.suppose, rfl, rfl, rfl, by simp [core, inS, upsOf, fromB, ra, rb, rf, r2]⟩
  · exact ⟨.suppose, rfl, rfl, rfl, by simp [core, inS, upsOf, fromB, ra, rb, rf, r2]⟩
theorem w_last (way : Int) (x y : Str) : ∃ ys w, W way (.nm x) (.nm y) = ys ++ [w] ∧ w.g = [] ∧ w.s.depth ≤ 4 := by
  unfold W
  split
  · exact ⟨_, _, (List.dropLast_concat_getLast (List.cons_ne_nil _ _)).symm, rfl, Nat.le_of_ble_eq_true rfl⟩
  split
  · exact ⟨_, _, (List.dropLast_concat_getLast (List.cons_ne_nil _ _)).symm, rfl, Nat.le_of_ble_eq_true rfl⟩
  split
  · exact ⟨_, _, (List.dropLast_concat_getLast (List.cons_ne_nil _ _)).symm, rfl, Nat.le_of_ble_eq_true rfl⟩
  split
  · exact ⟨_, _, (List.dropLast_concat_getLast (List.cons_ne_nil _ _)).symm, rfl, Nat.le_of_ble_eq_true rfl⟩
  split
  · exact ⟨_, _, (List.dropLast_concat_getLast (List.cons_ne_nil _ _)).symm, rfl, Nat.le_of_ble_eq_true rfl⟩
  · exact ⟨_, _, (List.dropLast_concat_getLast (List.cons_ne_nil _ _)).symm, rfl, Nat.le_of_ble_eq_true rfl⟩
end My

set_option Elab.async false
set_option maxRecDepth 100000
set_option maxHeartbeats 4000000
set_option linter.all false
namespace My
open PySem L2 DL PyProof.Rows
theorem cut_map (rs : List Row) (lo hi : Option Int) : cutP (rows rs) lo hi = rows (cutP rs lo hi) := by
  simp [cutP, rows, List.map_take, List.map_drop]
theorem cut_mem {α : Type} {rs : List α} {lo hi : Option Int} {r : α} (h : r ∈ cutP rs lo hi) : r ∈ rs := List.mem_of_mem_drop (List.mem_of_mem_take h)
theorem cut_le {α : Type} (rs : List α) (lo hi : Option Int) : (cutP rs lo hi).length ≤ rs.length := by
  simp only [cutP, List.length_take, List.length_drop]; omega
theorem app {xs ys : List Row} (h : xs.length + ys.length ≤ 1000) : addD (.list (rows xs)) (.list (rows ys)) = some (.list (rows (xs ++ ys))) := by
  have e : addD (.list (rows xs)) (.list (rows ys)) = some (.list (rows xs ++ rows ys)) := if_pos (by rw [rows_len, rows_len]; exact big_ge h)
  rw [e, rows, rows, rows, List.map_append]
@[simp] theorem cutD_list {xs : List PyData} {lo hi : Option Int} : DL.cutD lo hi (.list xs) = some (.list (cutP xs lo hi)) := nrfl rfl
def rv (w : Row) : Row := { w with u := w.u.reverse }
def rvD : PyData → PyData
  | .tuple [g, s, r, .tuple us] => .tuple [g, s, r, .tuple us.reverse]
  | d => d
theorem rvD_enc (w : Row) : rvD w.enc = (rv w).enc := by
  simp only [Row.enc, rvD, rv, nums, List.map_reverse]
theorem rn_mk {w : Row} (h : RN w) {g : List Stm} {s : Stm} {u : List Int} (hg : ∀ x ∈ g, SOk x) (hs : SOk s) (hgl : g.length ≤ 100) (hul : u.length ≤ 50) : RN ⟨g, s, w.r, u⟩ := ⟨⟨hg, hs, hgl, hul⟩, h.2⟩
theorem rn_given : Nice (.str "given") 0 ∧ Nice (.str "any") 0 := ⟨⟨by decide +kernel, by decide, by decide +kernel⟩, ⟨by decide +kernel, by decide, by decide +kernel⟩⟩
theorem all_app {P : Row → Prop} {xs ys : List Row} (h1 : ∀ r ∈ xs, P r) (h2 : ∀ r ∈ ys, P r) : ∀ r ∈ xs ++ ys, P r := fun r h => (List.mem_append.mp h).elim (h1 r) (h2 r)
theorem all_one {P : Row → Prop} {x : Row} (h1 : P x) : ∀ r ∈ [x], P r := fun r h => by rw [List.mem_singleton] at h; subst h; exact h1
theorem changed {ys : List Row} {l : Row} (c s : Int) (hr : ∀ r ∈ ys ++ [l], RN r) (hl : (ys ++ [l]).length ≤ 15) : ∃ rs', sem_law_changed [.list (rows (ys ++ [l])), .int c, .int s] = .ok (.list (rows rs')) ∧ (∀ r ∈ rs', RN r) ∧ rs'.length ≤ 31 := by
  obtain ⟨w, hw, hwo⟩ := name_by s 2
  have hb := rows_back ys l
  have hlen : (0 : Int) < (rows (ys ++ [l])).length := by rw [rows_len, List.length_append, List.length_singleton]; omega
  have hln := hr l (by simp)
  have hone : SOk (.nm w) := ⟨hwo, by show 1 ≤ 40; decide⟩
  have hone1 : ∀ x ∈ [Stm.nm w], SOk x := fun x h => by rw [List.mem_singleton] at h; subst h; exact hone
  have ha1 : 0 ≤ c / 9 % ((rows (ys ++ [l])).length : Int) := Int.emod_nonneg _ (by omega)
  have ha2 : c / 9 % ((rows (ys ++ [l])).length : Int) < (rows (ys ++ [l])).length := Int.emod_lt_of_pos _ hlen
  generalize hat : c / 9 % ((rows (ys ++ [l])).length : Int) = at_ at *
  have hrl := rows_len (ys ++ [l])
  have hdiv : modD (.int (c / 9)) (.int (rows (ys ++ [l])).length) = some (.int at_) := by rw [modD_pos hlen, hat]
  have hcl := cut_le (ys ++ [l])
  have cmap := cut_map (ys ++ [l])
  have cmem : ∀ lo hi, ∀ r ∈ cutP (ys ++ [l]) lo hi, RN r := fun lo hi r h => hr r (cut_mem h)
  have hx : ∃ x, atI (rows (ys ++ [l])) at_ = some x.enc ∧ RN x := by
    have hn : at_.toNat < (ys ++ [l]).length := by omega
    have q := rows_at (rs := ys ++ [l]) (n := at_.toNat) (List.getElem?_eq_getElem hn)
    rw [Int.toNat_of_nonneg ha1] at q
    exact ⟨_, q, hr _ (List.getElem_mem hn)⟩
  obtain ⟨x, hx, hxn⟩ := hx
  have hc : c % 9 = 0 ∨ c % 9 = 1 ∨ c % 9 = 2 ∨ c % 9 = 3 ∨ c % 9 = 4 ∨ c % 9 = 5 ∨ c % 9 = 6 ∨ c % 9 = 7 ∨ c % 9 = 8 := by omega
  generalize ys ++ [l] = rs at *
  have l1 := hcl none (some (-1))
  have l2 := hcl none (some at_)
  have l3 := hcl (some (at_ + 1)) none
  have l4 := hcl (some at_) none
  have L : ∀ (xs : List Row) (r : Row), (xs ++ [r]).length = xs.length + 1 := fun xs r => by simp
  simp only [sem_law_changed, bodyD, F_law_changed, startD]
  rcases hc with h | h | h | h | h | h | h | h | h
  · have e : addD (.list (rows (cutP rs none (some (-1))))) (.list [.tuple [.tuple (encs l.g), .tuple [.str "then", .tuple [.str "name", .str w], .tuple [.str "name", .str w]], .str l.r, .tuple (nums l.u)]]) = _ := app (xs := cutP rs none (some (-1))) (ys := [⟨l.g, .bin .th (.nm w) (.nm w), l.r, l.u⟩]) (by simp; omega)
    simp [hw, hb, h, cmap, e]
    refine ⟨_, rfl, all_app (cmem _ _) (all_one (rn_mk hln hln.1.1 ⟨⟨hwo, hwo⟩, (Nat.le_of_ble_eq_true rfl)⟩ hln.1.2.2.1 hln.1.2.2.2)), by rw [L]; omega⟩
  · have e : addD (.list (rows (cutP rs none (some (-1))))) (.list [.tuple [.tuple [.tuple [.str "name", .str w]], l.s.enc, .str l.r, .tuple (nums l.u)]]) = _ := app (xs := cutP rs none (some (-1))) (ys := [⟨[.nm w], l.s, l.r, l.u⟩]) (by simp; omega)
    simp [hw, hb, h, cmap, e]
    refine ⟨_, rfl, all_app (cmem _ _) (all_one (rn_mk hln hone1 hln.1.2.1 (Nat.le_of_ble_eq_true rfl) hln.1.2.2.2)), by rw [L]; omega⟩
  · have e : addD (.list (rows rs)) (.list [.tuple [.tuple [.tuple [.str "name", .str w]], .tuple [.str "name", .str w], .str "given", .tuple []]]) = _ := app (xs := rs) (ys := [⟨[.nm w], .nm w, "given", []⟩]) (by simp; omega)
    simp [hw, hb, h, e]
    refine ⟨_, rfl, all_app hr (all_one ⟨⟨hone1, hone, Nat.le_of_ble_eq_true rfl, Nat.le_of_ble_eq_true rfl⟩, rn_given.1⟩), by rw [L]; omega⟩
  · have e : addD (.list (rows (cutP rs none (some at_)))) (.list [.tuple [.tuple (encs x.g), x.s.enc, .str "any", .tuple []]]) = _ := app (xs := cutP rs none (some at_)) (ys := [⟨x.g, x.s, "any", []⟩]) (by simp; omega)
    have e2 := app (xs := cutP rs none (some at_) ++ [⟨x.g, x.s, "any", []⟩]) (ys := cutP rs (some (at_ + 1)) none) (by simp; omega)
    simp [hw, hb, h, cmap, hdiv, hx]
    simp only [e, Res.of_some, Res.ok_bind]
    simp only [e2, Res.of_some, Res.ok_bind]
    refine ⟨_, rfl, all_app (all_app (cmem _ _) (all_one ⟨⟨hxn.1.1, hxn.1.2.1, hxn.1.2.2.1, Nat.le_of_ble_eq_true rfl⟩, rn_given.2⟩)) (cmem _ _), ?_⟩
    simp only [List.length_append, List.length_cons, List.length_nil]
    omega
  · simp [hw, hb, h]
    exact ⟨[], rfl, (fun r h => by cases h), by decide⟩
  · simp [hw, hb, h, cmap]
    exact ⟨_, rfl, cmem _ _, by omega⟩
  · have e : addD (.list (rows (cutP rs none (some at_)))) (.list [.tuple [.tuple [], .tuple [.str "name", .str w], .str "given", .tuple []]]) = _ := app (xs := cutP rs none (some at_)) (ys := [⟨[], .nm w, "given", []⟩]) (by simp; omega)
    have e2 := app (xs := cutP rs none (some at_) ++ [⟨[], .nm w, "given", []⟩]) (ys := cutP rs (some at_) none) (by simp; omega)
    simp [hw, hb, h, cmap, hdiv]
    simp only [e, Res.of_some, Res.ok_bind]
    simp only [e2, Res.of_some, Res.ok_bind]
    refine ⟨_, rfl, all_app (all_app (cmem _ _) (all_one ⟨⟨(fun x h => by cases h), hone, Nat.le_of_ble_eq_true rfl, Nat.le_of_ble_eq_true rfl⟩, rn_given.1⟩)) (cmem _ _), ?_⟩
    simp only [List.length_append, List.length_cons, List.length_nil]
    omega
  · have e : addD (.list (rows rs)) (.list [.tuple [.tuple (encs l.g), l.s.enc, .str l.r, .tuple (nums l.u)]]) = _ := app (xs := rs) (ys := [l]) (by simp; omega)
    simp [hw, hb, h, e]
    refine ⟨_, rfl, all_app hr (all_one hln), by rw [L]; omega⟩
  · simp [hw, hb, h, eLc_ap, rows_len, big_ge (show rs.length ≤ 1000 by omega)]
    rw [lcGo_map (v := rvD) (by
      intro d hd
      obtain ⟨r, hr', rfl⟩ := List.mem_map.mp hd
      rw [rvD_enc]
      refine ⟨rfl, ?_, frz_row _⟩
      simp [revD]
      rw [← rvD_enc]
      rfl)]
    simp [Res.calm]
    refine ⟨rs.map rv, ?_, fun r h => ?_, by rw [List.length_map]; omega⟩
    · simp only [rows, List.map_map]
      exact List.map_congr_left fun w _ => rvD_enc w
    · obtain ⟨q, hq, rfl⟩ := List.mem_map.mp h
      have := hr q hq
      exact ⟨⟨this.1.1, this.1.2.1, this.1.2.2.1, by show (q.u.reverse).length ≤ 50; rw [List.length_reverse]; exact this.1.2.2.2⟩, this.2⟩
end My

set_option Elab.async false
set_option maxRecDepth 100000
set_option maxHeartbeats 4000000
set_option linter.all false
namespace My
open PySem L2 DL PyProof.Rows
def Rt (m : Nat) (wc : Str) (way : Int) (a b : Stm) : List Row := List.replicate m ⟨[.nm wc], .nm wc, "given", []⟩ ++ (W way a b).map (sh m)
theorem w_len (way : Int) (a b : Stm) : (W way a b).length ≤ 7 := by
  unfold W
  repeat (split; exact Nat.le_of_ble_eq_true rfl)
  exact Nat.le_of_ble_eq_true rfl
theorem rt_at {m : Nat} {wc : Str} {way : Int} {a b : Stm} {j : Nat} {w : Row} (h : (W way a b)[j]? = some w) : (Rt m wc way a b)[m + j]? = some (sh m w) := by
  rw [Rt, List.getElem?_append_right (by rw [List.length_replicate]; omega), List.length_replicate, Nat.add_sub_cancel_left, List.getElem?_map, h]
  rfl
theorem rt_all {m : Nat} {wc wa wb : Str} (hc : NameOk wc) (ha : NameOk wa) (hb : NameOk wb) (way : Int) : allF (Rt m wc way (.nm wa) (.nm wb)) = true := by
  have oc := name_ok hc
  have F := fol_w (name_ok ha) (name_ok hb) (Nat.le_refl _) (Nat.le_refl _) way
  refine List.all_eq_true.mpr fun d hd => ?_
  obtain ⟨i, hi, rfl, hn⟩ := mem_up hd
  rw [hn]
  by_cases h : i < m
  · refine fol_at (k := .given) (w := ⟨[.nm wc], .nm wc, "given", []⟩) ?_ rfl rfl rfl ?_
    · rw [Rt, List.getElem?_append_left (by rw [List.length_replicate]; exact h), List.getElem?_replicate, if_pos h]
    · simp [core, inS, eqs_refl oc]
  · obtain ⟨j, rfl⟩ : ∃ j, i = m + j := ⟨i - m, by omega⟩
    have hj : j < (W way (.nm wa) (.nm wb)).length := by
      rw [Rt, List.length_append, List.length_replicate, List.length_map] at hi
      omega
    obtain ⟨w, hw⟩ : ∃ w, (W way (.nm wa) (.nm wb))[j]? = some w := ⟨_, List.getElem?_eq_getElem hj⟩
    obtain ⟨k, h1, h2, h3, h4⟩ := F j w hw
    have hin : ∀ u ∈ w.u, 0 ≤ u ∧ u < j := fun u hu => of_decide_eq_true (List.all_eq_true.mp h3 u hu)
    refine fol_at (k := k) (rt_at hw) h1 (by rw [h2]; exact (List.length_map _).symm) ?_ ?_
    · refine List.all_eq_true.mpr fun u hu => ?_
      obtain ⟨v, hv, rfl⟩ := List.mem_map.mp hu
      have := hin v hv
      exact decide_eq_true (by omega)
    · have e : upsOf (Rt m wc way (.nm wa) (.nm wb)) (sh m w) = (upsOf (W way (.nm wa) (.nm wb)) w).map (sh m) := by
        simp only [upsOf, sh, List.map_map]
        refine List.map_congr_left fun u hu => ?_
        have hu2 := hin u hu
        have hl : u.toNat < (W way (.nm wa) (.nm wb)).length := by omega
        have q := rt_at (m := m) (wc := wc) (List.getElem?_eq_getElem hl)
        simp only [Function.comp]
        rw [show (u + (m : Int)).toNat = m + u.toNat by omega, q, List.getElem?_eq_getElem hl]
        rfl
      rw [e, core_sh]
      exact h4
theorem rn_w {a b : Stm} (ha : a.Ok ∧ a.depth ≤ 1) (hb : b.Ok ∧ b.depth ≤ 1) (way : Int) : ∀ w ∈ W way a b, RN w ∧ w.u.length ≤ 10 := by
  have nk : ∀ k : Rule, Nice (.str k.word) 0 := fun k => by cases k <;> exact ⟨by decide +kernel, by decide, by decide +kernel⟩
  have oa : SOk a := ⟨ha.1, by omega⟩
  have ob : SOk b := ⟨hb.1, by omega⟩
  have b1 : ∀ o : W3, SOk (.bin o a b) ∧ SOk (.bin o b a) ∧ SOk (.bin o a a) := fun o => ⟨⟨⟨ha.1, hb.1⟩, by simp only [Stm.depth]; omega⟩, ⟨⟨hb.1, ha.1⟩, by simp only [Stm.depth]; omega⟩, ⟨⟨ha.1, ha.1⟩, by simp only [Stm.depth]; omega⟩⟩
  have b2 : ∀ o o1 o2 : W3, SOk (.bin o (.bin o1 a b) (.bin o2 b a)) ∧ SOk (.bin o (.bin o1 a b) (.bin o2 a b)) := fun o o1 o2 => ⟨⟨⟨⟨ha.1, hb.1⟩, hb.1, ha.1⟩, by simp only [Stm.depth]; omega⟩, ⟨⟨⟨ha.1, hb.1⟩, ha.1, hb.1⟩, by simp only [Stm.depth]; omega⟩⟩
  have b3 : SOk (.bin .th .fl a) ∧ SOk (.bin .th a (.bin .th b a)) := ⟨⟨⟨trivial, ha.1⟩, by simp only [Stm.depth]; omega⟩, ⟨⟨ha.1, hb.1, ha.1⟩, by simp only [Stm.depth]; omega⟩⟩
  have mk : ∀ (k : Rule) (g : List Stm) (s : Stm) (u : List Int), (∀ x ∈ g, SOk x) → SOk s → g.length ≤ 10 → u.length ≤ 10 → RN ⟨g, s, k.word, u⟩ ∧ u.length ≤ 10 := fun k g s u h1 h2 h3 h4 => ⟨⟨⟨h1, h2, Nat.le_trans h3 (by decide), Nat.le_trans h4 (by decide)⟩, nk k⟩, h4⟩
  have n1 := fun (k : Rule) (s : Stm) (u : List Int) (h : SOk s) (hu : u.length ≤ 10) => mk k [] s u (fun x hx => by cases hx) h (by decide) hu
  have n2 := fun (k : Rule) (g s : Stm) (u : List Int) (hg : SOk g) (h : SOk s) (hu : u.length ≤ 10) => mk k [g] s u (fun x hx => by rw [List.mem_singleton] at hx; subst hx; exact hg) h (Nat.le_of_ble_eq_true rfl) hu
  have n3 := fun (k : Rule) (g1 g2 s : Stm) (u : List Int) (hg : SOk g1) (hg2 : SOk g2) (h : SOk s) (hu : u.length ≤ 10) => mk k [g1, g2] s u (fun x hx => by
    simp only [List.mem_cons, List.not_mem_nil, or_false] at hx
    rcases hx with rfl | rfl
    · exact hg
    · exact hg2) h (Nat.le_of_ble_eq_true rfl) hu
  intro w hw
  unfold W at hw
  split at hw
  · simp only [List.mem_cons, List.not_mem_nil, or_false] at hw
    rcases hw with rfl | rfl
    · exact n2 .given a a [] oa oa (by decide)
    · exact n1 .suppose (.bin .th a a) [0] (b1 _).2.2 (by decide)
  split at hw
  · simp only [List.mem_cons, List.not_mem_nil, or_false] at hw
    rcases hw with rfl | rfl | rfl | rfl | rfl
    · exact n2 .given _ _ [] (b1 _).1 (b1 _).1 (by decide)
    · exact n2 .left _ _ [0] (b1 _).1 oa (by decide)
    · exact n2 .right _ _ [0] (b1 _).1 ob (by decide)
    · exact n2 .both _ _ [2, 1] (b1 _).1 (b1 _).2.1 (by decide)
    · exact n1 .suppose _ [3] (b2 _ _ _).1 (by decide)
  split at hw
  · simp only [List.mem_cons, List.not_mem_nil, or_false] at hw
    rcases hw with rfl | rfl | rfl | rfl | rfl | rfl | rfl
    · exact n2 .given _ _ [] (b1 _).1 (b1 _).1 (by decide)
    · exact n2 .given _ _ [] oa oa (by decide)
    · exact n2 .other _ _ [1] oa (b1 _).2.1 (by decide)
    · exact n2 .given _ _ [] ob ob (by decide)
    · exact n2 .one _ _ [3] ob (b1 _).2.1 (by decide)
    · exact n2 .cases _ _ [0, 2, 4] (b1 _).1 (b1 _).2.1 (by decide)
    · exact n1 .suppose _ [5] (b2 _ _ _).1 (by decide)
  split at hw
  · simp only [List.mem_cons, List.not_mem_nil, or_false] at hw
    rcases hw with rfl | rfl | rfl | rfl | rfl
    · exact n3 .given _ _ _ [] (b1 _).1 oa (b1 _).1 (by decide)
    · exact n2 .given _ _ [] oa oa (by decide)
    · exact n3 .onward _ _ _ [0, 1] (b1 _).1 oa ob (by decide)
    · exact n2 .suppose _ _ [2] (b1 _).1 (b1 _).1 (by decide)
    · exact n1 .suppose _ [3] (b2 _ _ _).2 (by decide)
  split at hw
  · simp only [List.mem_cons, List.not_mem_nil, or_false] at hw
    rcases hw with rfl | rfl | rfl
    · exact n2 .given _ _ [] fl_ok fl_ok (by decide)
    · exact n2 .any _ _ [0] fl_ok oa (by decide)
    · exact n1 .suppose _ [1] b3.1 (by decide)
  · simp only [List.mem_cons, List.not_mem_nil, or_false] at hw
    rcases hw with rfl | rfl | rfl
    · exact n3 .given _ _ _ [] ob oa oa (by decide)
    · exact n2 .suppose _ _ [0] oa (b1 _).2.1 (by decide)
    · exact n1 .suppose _ [1] b3.2 (by decide)
theorem rt_rn {m : Nat} {wc wa wb : Str} (hc : NameOk wc) (ha : NameOk wa) (hb : NameOk wb) (way : Int) : ∀ r ∈ Rt m wc way (.nm wa) (.nm wb), RN r := fun r h => by
  rcases List.mem_append.mp h with h | h
  · obtain ⟨_, rfl⟩ := List.mem_replicate.mp h
    exact ⟨⟨fun x hx => by rw [List.mem_singleton] at hx; subst hx; exact name_ok hc, name_ok hc, Nat.le_of_ble_eq_true rfl, Nat.le_of_ble_eq_true rfl⟩, rn_given.1⟩
  · obtain ⟨w, hw, rfl⟩ := List.mem_map.mp h
    obtain ⟨h1, h2⟩ := rn_w (a := .nm wa) (b := .nm wb) ⟨ha, Nat.le_refl _⟩ ⟨hb, Nat.le_refl _⟩ way w hw
    exact ⟨⟨h1.1.1, h1.1.2.1, h1.1.2.2.1, by show (w.u.map _).length ≤ 50; rw [List.length_map]; omega⟩, h1.2⟩
end My

set_option Elab.async false
set_option maxRecDepth 100000
set_option maxHeartbeats 4000000
set_option linter.all false
namespace My
open PySem L2 DL PyProof.Rows
def U_law : SS :=
  (sSeq (sSet 7 (eArgs listD (aCons (eVar 5) aNil)))
    (sSeq (sFor (sRng1 (aCons (eC (.int 2)) aNil)) (gN 8) (sSeq (sSet 9 (eCall sem_shows (aCons (eVar 5) (aCons (eVar 4) aNil))))
    (sSeq (sIf (DL.tOr (DL.tNot (asT (eUn (isiD "bool") (eVar 9)))) (DL.tOr (asT (eOp neD (eVar 9) (eVar 6))) (asT (eOp neD (eVar 5) (eVar 7))))) (sRet (eC (.bool false))) sNext)
    (sIf (DL.tOr (asT (eOp isNotD (eCall sem_shows (aCons (eVar 3) (aCons (eOp ixD (eOp ixD (eVar 3) (eUn negD (eC (.int 1)))) (eC (.int 1))) aNil))) (eC (.bool true)))) (asT (eOp isNotD (eCall sem_shows (aCons (eLst aNil) (aCons (eVar 4) aNil))) (eC (.bool false))))) (sRet (eC (.bool false))) sNext))))
    (sRet (eC (.bool true)))))
def T_law : SS :=
  (sSeq (sSet 6 (eAnd (eOp neD (eVar 5) (eLst aNil)) (eArgs allD (aCons (eLc 10 (sRng1 (aCons (eArgs lenD (aCons (eVar 5) aNil)) aNil)) tTrue (eCall sem_law_follows (aCons (eVar 5) (aCons (eVar 10) aNil)))) aNil))))
    (sSeq (sIf (asT (eVar 6)) (sSet 6 (eAnd (eOp eqD (eOp ixD (eOp ixD (eVar 5) (eUn negD (eC (.int 1)))) (eC (.int 1))) (eVar 4)) (eOp eqD (eOp ixD (eOp ixD (eVar 5) (eUn negD (eC (.int 1)))) (eC (.int 0))) (eTup aNil)))) sNext)
    U_law))
theorem F_law_T : F_law = (sSeq (sSet 1 (eCall sem_law_cell_at (aCons (eVar 0) (aCons (eC (.int 0)) aNil))))
    (sSeq (sSet 2 (eCall sem_law_cell_at (aCons (eVar 0) (aCons (eC (.int 1)) aNil))))
    (sSeq (sSet 3 (eCall sem_law_moved (aCons (eCall sem_law_showing_by (aCons (eVar 1) (aCons (eCall sem_law_cell_at (aCons (eVar 0) (aCons (eC (.int 2)) aNil))) aNil))) (aCons (eOp modD (eOp divD (eVar 2) (eC (.int 3))) (eC (.int 6))) (aCons (eVar 1) aNil)))))
    (sSeq (sSet 4 (eOp ixD (eOp ixD (eVar 3) (eUn negD (eC (.int 1)))) (eC (.int 1))))
    (sSeq (sSet 5 (eVar 3))
    (sSeq (sIf (asT (eOp gtD (eOp modD (eVar 2) (eC (.int 3))) (eC (.int 0)))) (sSet 5 (eCall sem_law_changed (aCons (eVar 3) (aCons (eCall sem_law_cell_at (aCons (eVar 0) (aCons (eC (.int 3)) aNil))) (aCons (eVar 1) aNil))))) sNext)
    (sSeq (sIf (asT (eOp eqD (eOp modD (eOp divD (eVar 2) (eC (.int 18))) (eC (.int 5))) (eC (.int 1)))) (sSet 4 (eOp ixD (eLst (aCons (eOp ixD (eOp ixD (eVar 3) (eC (.int 0))) (eC (.int 1))) (aCons (eTup (aCons (eC (.str "and")) (aCons (eVar 4) (aCons (eVar 4) aNil)))) (aCons (eTup (aCons (eC (.str "false")) aNil)) aNil)))) (eOp modD (eOp divD (eVar 2) (eC (.int 90))) (eC (.int 3))))) sNext)
    T_law))))))) := rfl
theorem isi_bool {b : Bool} : isiD "bool" (.bool b) = some (.bool true) := nrfl rfl
theorem neD_bool {b : Bool} : neD (.bool b) (.bool b) = some (.bool false) := by cases b <;> rfl
theorem due_go {rs : List Row} (hr : ∀ r ∈ rs, RN r) (f : SE) (env : PyData → PEnv) (hf : ∀ i : Nat, i < rs.length → f (env (.int (i : Nat))) = .ok (.bool (fol rs i))) :
    lcGo env tTrue f (DL.upTo 0 rs.length) = .ok ((DL.upTo 0 rs.length).map fun d => .bool (fol rs (natOf d))) :=
  lcGo_map fun d hd => by
    obtain ⟨i, hi, rfl, hn⟩ := mem_up hd
    rw [hn]
    exact ⟨rfl, hf i hi, rfl⟩
theorem due_all (rs : List Row) : allD [.list ((DL.upTo 0 rs.length).map fun d => .bool (fol rs (natOf d)))] = some (.bool (allF rs)) := by
  have e : (DL.upTo 0 rs.length).map (fun d => PyData.bool (fol rs (natOf d))) = ((DL.upTo 0 rs.length).map fun d => fol rs (natOf d)).map PyData.bool := by rw [List.map_map]; rfl
  rw [e]
  simp only [allD, bools_bl, Option.map_some, List.all_map, allF]
  rfl
theorem is_tt : isNotD (.bool true) (.bool true) = some (.bool false) := rfl
theorem is_ff : isNotD (.bool false) (.bool false) = some (.bool false) := rfl
theorem loop (sc a0 a1 : PyData) (d10 : Option PyData) {ys : List Row} {l : Row} (hR : ∀ r ∈ ys ++ [l], RN r) (hRl : (ys ++ [l]).length ≤ 40) (hS : showsB (ys ++ [l]) l.s = true) {rs : List Row} (hr : ∀ r ∈ rs, RN r) (hrl : rs.length ≤ 40) {st : Stm} (hs : SOk st) :
    U_law [some sc, some a0, some a1, some (.list (rows (ys ++ [l]))), some st.enc, some (.list (rows rs)), some (.bool (showsB rs st)), none, none, none, d10] = .ok (.rt (.bool true)) := by
  have h1 := shows hr hrl hs
  have h2 := shows hR hRl (hR l (by simp)).1.2.1
  rw [hS] at h2
  have h3 : sem_shows [.list [], st.enc] = .ok (.bool false) := shows (rs := []) (fun r h => by cases h) (Nat.zero_le _) hs
  have hat := rows_back ys l
  have hsame := ne_same (rows_nice hr) (by decide)
  have e2 : DL.upTo 0 2 = [.int 0, .int 1] := rfl
  have bb : -(big : Int) ≤ 2 ∧ (2 : Int) ≤ big := by decide
  have li : ∀ xs, listD [.list xs] = some (.list xs) := fun _ => rfl
  generalize ys ++ [l] = R at *
  generalize rows R = RR at *
  generalize hrs : rows rs = RS at *
  generalize showsB rs st = D at *
  simp [U_law, sFor_ap, forGo, h1, h2, h3, hat, hsame, e2, bb, li, isi_bool, neD_bool, is_tt, is_ff]
theorem tail (sc a0 a1 : PyData) {ys : List Row} {l : Row} (hR : ∀ r ∈ ys ++ [l], RN r) (hRl : (ys ++ [l]).length ≤ 40) (hS : showsB (ys ++ [l]) l.s = true) {rs : List Row} (hr : ∀ r ∈ rs, RN r) (hrl : rs.length ≤ 40) {st : Stm} (hs : SOk st) :
    T_law [some sc, some a0, some a1, some (.list (rows (ys ++ [l]))), some st.enc, some (.list (rows rs)), none, none, none, none, none] = .ok (.rt (.bool true)) := by
  have hL := fun d10 => loop sc a0 a1 d10 hR hRl hS hr hrl hs
  have hne := ne_nil (rows_nice hr) (by decide)
  have hb := big40 hrl
  have hup : rs.length ≤ 1000 := by omega
  have hda := due_all rs
  have hok : ∀ r ∈ rs, r.Ok := fun r h => (hr r h).1
  simp only [T_law]
  rcases List.eq_nil_or_concat rs with rfl | ⟨zs, q, e⟩
  · have h0 : showsB [] st = false := rfl
    rw [h0] at hL
    have hne0 : neD (.list (rows [])) (.list []) = some (.bool false) := hne
    simp [hne0, hL]
  · rw [List.concat_eq_append] at e
    have hq : rs.getLast? = some q := by rw [e]; simp
    have hlast : atI (rows rs) (-1) = some q.enc := by rw [e]; exact rows_back zs q
    have hqm : q ∈ rs := by rw [e]; simp
    have hqok := (hr q hqm).1
    have heq := eq_stm hqok.2.1 hs
    have hgn : eqD (.tuple (encs q.g)) (.tuple []) = some (.bool q.g.isEmpty) := by
      rw [eq_niltup (encs_nice hqok.1) (by decide)]
      cases q.g <;> rfl
    have hemp : (rows rs).isEmpty = false := by rw [e]; simp [rows]
    rw [hemp] at hne
    have hSh : showsB rs st = (allF rs && (eqs q.s st && q.g.isEmpty)) := by simp only [showsB, hq]
    rw [hSh] at hL
    have hrl2 := rows_len rs
    have hde := due_go hr
    have hfo : ∀ i : Nat, i < rs.length → sem_law_follows [.list (rows rs), .int (i : Nat)] = .ok (.bool (fol rs i)) := fun i hi => law_follows hok hi
    clear hS hemp e hq
    simp [hne, eLc_ap, hrl2, hb, upTo_len, big_ge hup]
    rw [hde _ _ (fun i hi => by simp [hfo i hi])]
    simp only [Res.calm, Res.ok_bind, hda, Res.of_some]
    generalize allF rs = A at *
    generalize eqs q.s st = B at *
    generalize q.g.isEmpty = C at *
    cases A with
    | false => simp [hL]; exact hL _
    | true =>
      cases B with
      | false => simp [hlast, heq]; exact hL _
      | true => simp [hlast, heq, hgn]; exact hL _
theorem cell_pos (a : Int) : 0 ≤ a / 3 % 6 ∧ a / 3 % 6 ≤ 5 := by omega
theorem plain (ns : List Int) (hns : ns.length ≤ 63) : sem_law [.list (ns.map .int)] = .ok (.bool true) := by
  have g0 : sem_law_cell_at [.list (ns.map .int), .int 0] = .ok (.int (ns.getD 0 0)) := cell_at ns 0 hns
  have g1 : sem_law_cell_at [.list (ns.map .int), .int 1] = .ok (.int (ns.getD 1 0)) := cell_at ns 1 hns
  have g2 : sem_law_cell_at [.list (ns.map .int), .int 2] = .ok (.int (ns.getD 2 0)) := cell_at ns 2 hns
  have g3 : sem_law_cell_at [.list (ns.map .int), .int 3] = .ok (.int (ns.getD 3 0)) := cell_at ns 3 hns
  generalize ns.getD 0 0 = a0 at g0
  generalize ns.getD 1 0 = a1 at g1
  generalize ns.getD 2 0 = a2 at g2
  generalize ns.getD 3 0 = a3 at g3
  obtain ⟨wa, wb, ha, hb, h1⟩ := showing_by a0 a2
  have hp := cell_pos a1
  have hwl := w_len (a2 % 6) (.nm wa) (.nm wb)
  obtain ⟨m, hm⟩ : ∃ m : Nat, a1 / 3 % 6 = m := ⟨(a1 / 3 % 6).toNat, by omega⟩
  have hm5 : m ≤ 5 := by omega
  obtain ⟨wc, hc, h2⟩ := moved (W (a2 % 6) (.nm wa) (.nm wb)) m a0 (by omega) (by omega) (fun r h => (rn_w (a := .nm wa) (b := .nm wb) ⟨ha, Nat.le_refl _⟩ ⟨hb, Nat.le_refl _⟩ _ r h).2)
  have hall := rt_all (m := m) hc ha hb (a2 % 6)
  have hrn := rt_rn (m := m) hc ha hb (a2 % 6)
  obtain ⟨ys, w, hw, hg, hd⟩ := w_last (a2 % 6) wa wb
  have hwl2 : ys.length + 1 ≤ 7 := by rw [hw, List.length_append] at hwl; simpa using hwl
  have hR : List.replicate m (Row.mk [.nm wc] (.nm wc) "given" []) ++ (W (a2 % 6) (.nm wa) (.nm wb)).map (sh m) = (List.replicate m (Row.mk [.nm wc] (.nm wc) "given" []) ++ ys.map (sh m)) ++ [sh m w] := by rw [hw]; simp
  unfold Rt at hall hrn
  rw [hR] at h2 hall hrn
  generalize hW : W (a2 % 6) (.nm wa) (.nm wb) = W0 at *
  have hlY : (List.replicate m (Row.mk [.nm wc] (.nm wc) "given" []) ++ ys.map (sh m)).length ≤ 11 := by rw [List.length_append, List.length_replicate, List.length_map]; omega
  generalize List.replicate m (Row.mk [.nm wc] (.nm wc) "given" []) ++ ys.map (sh m) = Y at *
  have hlg : (sh m w).g = [] := hg
  have hld : (sh m w).s.depth ≤ 4 := hd
  generalize sh m w = l at *
  have hlen : (Y ++ [l]).length ≤ 12 := by rw [List.length_append, List.length_singleton]; omega
  have hlok := hrn l (by simp)
  have hS : showsB (Y ++ [l]) l.s = true := by
    have e : (Y ++ [l]).getLast? = some l := by simp
    simp only [showsB, e, hall, eqs_refl hlok.1.2.1, hlg]
    rfl
  have hat := rows_back Y l
  obtain ⟨rs, h3, h4, h5⟩ := changed (ys := Y) (l := l) a3 a0 hrn (by omega)
  have hfirst : ∃ r0, atI (rows (Y ++ [l])) 0 = some r0.enc ∧ RN r0 := by
    have hn : 0 < (Y ++ [l]).length := by rw [List.length_append, List.length_singleton]; omega
    exact ⟨_, rows_at (rs := Y ++ [l]) (n := 0) (List.getElem?_eq_getElem hn), hrn _ (List.getElem_mem hn)⟩
  obtain ⟨r0, h6, h7⟩ := hfirst
  have hst : ∃ st, atI [r0.s.enc, .tuple [.str "and", l.s.enc, l.s.enc], .tuple [.str "false"]] (a1 / 90 % 3) = some st.enc ∧ SOk st := by
    have h : a1 / 90 % 3 = 0 ∨ a1 / 90 % 3 = 1 ∨ a1 / 90 % 3 = 2 := by omega
    rcases h with h | h | h <;> rw [h]
    · exact ⟨r0.s, rfl, h7.1.2.1⟩
    · exact ⟨.bin .an l.s l.s, rfl, ⟨hlok.1.2.1.1, hlok.1.2.1.1⟩, by simp only [Stm.depth]; omega⟩
    · exact ⟨.fl, rfl, fl_ok⟩
  obtain ⟨st, h8, h9⟩ := hst
  have T0 := fun {rs : List Row} (hr : ∀ r ∈ rs, RN r) (hrl : rs.length ≤ 40) {st : Stm} (hs : SOk st) => tail (.list (ns.map .int)) (.int a0) (.int a1) hrn (by omega) hS hr hrl hs
  have t1 := T0 hrn (by omega) hlok.1.2.1
  have t2 := T0 hrn (by omega) h9
  have t3 := T0 h4 (by omega) hlok.1.2.1
  have t4 := T0 h4 (by omega) h9
  clear T0
  simp only [sem_law, bodyD, F_law_T, startD]
  generalize rows (Y ++ [l]) = RR at *
  generalize rows rs = RS at *
  generalize rows W0 = W1 at *
  by_cases hcg : 0 < a1 % 3
  · by_cases hst : a1 / 18 % 5 = 1
    · simp [g0, g1, g2, g3, hm, h1, h2, h3, hat, hcg, hst, h6, h8, t4]
    · simp [g0, g1, g2, g3, hm, h1, h2, h3, hat, hcg, hst, t3]
  · by_cases hst : a1 / 18 % 5 = 1
    · simp [g0, g1, g2, g3, hm, h1, h2, h3, hat, hcg, hst, h6, h8, t2]
    · simp [g0, g1, g2, g3, hm, h1, h2, h3, hat, hcg, hst, t1]
end My

set_option Elab.async false
set_option linter.all false
set_option maxRecDepth 100000
set_option maxHeartbeats 4000000
namespace My
open PySem L2 DL PyProof.Rows
abbrev defOuter_law_moved : Scope := { kind := ScopeKind.function, names := [(".0", NameKind.local), ("_law_row", NameKind.local), ("tuple", NameKind.globalImplicit), ("_law_many", NameKind.cell)], isGenerator := false, isCoroutine := false }
/-! the walks -/
section
variable {P : Program} {w : World} {K : PySem.W.Frag} {mg : Str → Option Value} {base : Heap}
abbrev Cal (P : Program) (w : World) (K : PySem.W.Frag) (mg : Str → Option Value) (base : Heap) (x : Str) (k : Nat) (ps : List Str) (g : List PyData → Res PyData) : Prop := Callee P w K mg base CX0 (fun _ => .none) x k ps g
theorem sc_count_of : FnScope N_count_of ["rule"] (defScope s_count_of) := ⟨rfl, rfl, rfl, by decide +kernel, rfl, by decide +kernel, by decide +kernel⟩
theorem w_count_of {k : Nat} (T : Txt K mg) : Cal P w K mg base "count_of" (k + 1) ["rule"] (bodyD 3 F_count_of) := by
  obtain ⟨f, fd, D, hm, hb⟩ := T.d_count_of.ex
  have sc := sc_count_of
  refine callee_of (N := N_count_of) D sc hm hb fun cdv A outer s H E W hr => ?_
  exact (pssd_cons (psd_for PassesOwn.never rfl (id_tup (ed_op od_add (ed_glob T.gl_COUNTS) (ed_glob T.gl_MORE_COUNTS))) (gd_tup rfl (gds_cons (gd_name (i := 1) sc.nd) (gds_cons (gd_name (i := 2) sc.nd) gds_nil))) (pssd_one (psd_if (td_cmp (od_eq hr.units) (ed_var (i := 1)) (ed_var (i := 0))) (pssd_one (psd_ret (ed_var (i := 2)))) pssd_nil)))
    (pssd_one (psd_ret ed_non)))
theorem sc_is_from : FnScope N_is_from ["row", "given", "statement", "supposed"] (defScope s_is_from) := ⟨rfl, rfl, rfl, by decide +kernel, rfl, by decide +kernel, by decide +kernel⟩
theorem w_is_from {k : Nat} (T : Txt K mg) : Cal P w K mg base "is_from" (k + 1) ["row", "given", "statement", "supposed"] (bodyD 5 F_is_from) := by
  obtain ⟨f, fd, D, hm, hb⟩ := T.d_is_from.ex
  have sc := sc_is_from
  refine callee_of (N := N_is_from) D sc hm hb fun cdv A outer s H E W hr => ?_
  exact (pssd_one (psd_ret (ed_and (ed_cmp (od_eq hr.units) (ed_ix (ed_var (i := 0)) ed_int) (ed_var (i := 2))) (ed_one (ed_callB (cd_all rfl) T.z_all (ad_cons (ed_lc (x := "one") (i := 4) rfl sc.nd (id_tup (ed_ix (ed_var (i := 0)) ed_int)) (blkOk_by (own := [("one", 4)]) (N := N_is_from) (sc := defScope s_is_from) (by decide +kernel)) (fun _ _ _ _ _ => pg_name (i := 4) sc.nd rfl (Or.inl rfl)) (fun _ _ _ _ _ => tds_nil) (fun _ _ _ _ _ => (ed_or (ed_cmp (od_in (units65 hr)) (ed_var (i := 4)) (ed_var (i := 1))) (ed_one (ed_cmp (od_in (units65 hr)) (ed_var (i := 4)) (ed_var (i := 3))))))) ad_nil))))))
theorem sc_is_pair : FnScope N_is_pair ["statement", "word"] (defScope s_is_pair) := ⟨rfl, rfl, rfl, by decide +kernel, rfl, by decide +kernel, by decide +kernel⟩
theorem w_is_pair {k : Nat} (T : Txt K mg) : Cal P w K mg base "is_pair" (k + 1) ["statement", "word"] (bodyD 2 F_is_pair) := by
  obtain ⟨f, fd, D, hm, hb⟩ := T.d_is_pair.ex
  have sc := sc_is_pair
  refine callee_of (N := N_is_pair) D sc hm hb fun cdv A outer s H E W hr => ?_
  exact (pssd_one (psd_ret (ed_cmp (od_eq hr.units) (ed_ix (ed_var (i := 0)) ed_int) (ed_var (i := 1)))))
theorem sc_by_parts : FnScope N_by_parts ["row", "ups"] (defScope s_by_parts) := ⟨rfl, rfl, rfl, by decide +kernel, rfl, by decide +kernel, by decide +kernel⟩
theorem w_by_parts {k : Nat} (T : Txt K mg) (c_is_from : Cal P w K mg base "is_from" k ["row", "given", "statement", "supposed"] sem_is_from) (c_is_pair : Cal P w K mg base "is_pair" k ["statement", "word"] sem_is_pair) : Cal P w K mg base "by_parts" (k + 1) ["row", "ups"] (bodyD 6 F_by_parts) := by
  obtain ⟨f, fd, D, hm, hb⟩ := T.d_by_parts.ex
  have sc := sc_by_parts
  refine callee_of (N := N_by_parts) D sc hm hb fun cdv A outer s H E W hr => ?_
  exact (pssd_cons (psd_asg (ed_cut (ed_var (i := 0)) od_none (od_some ed_int)) (gd_tup rfl (gds_cons (gd_name (i := 3) sc.nd) (gds_cons (gd_name (i := 4) sc.nd) (gds_cons (gd_name (i := 5) sc.nd) gds_nil)))))
    (pssd_cons (psd_if (td_cmp (od_eq hr.units) (ed_var (i := 5)) ed_str) (pssd_cons (psd_if (td_not (td_val (ed_call c_is_pair hr passD (ad_cons (ed_var (i := 4)) (ad_cons ed_str ad_nil)) (an_cons (an_cons an_nil))))) (pssd_one (psd_ret ed_bl)) pssd_nil)
    (pssd_one (psd_ret (ed_and (ed_call c_is_from hr passD (ad_cons (ed_ix (ed_var (i := 1)) ed_int) (ad_cons (ed_var (i := 3)) (ad_cons (ed_ix (ed_var (i := 4)) ed_int) (ad_cons (ed_tup ad_nil) ad_nil)))) (an_cons (an_cons (an_cons (an_cons an_nil))))) (ed_one (ed_call c_is_from hr passD (ad_cons (ed_ix (ed_var (i := 1)) ed_int) (ad_cons (ed_var (i := 3)) (ad_cons (ed_ix (ed_var (i := 4)) ed_int) (ad_cons (ed_tup ad_nil) ad_nil)))) (an_cons (an_cons (an_cons (an_cons an_nil)))))))))) pssd_nil)
    (pssd_cons (psd_if (td_cmp (od_in (units65 hr)) (ed_var (i := 5)) (ed_tup (ad_cons ed_str (ad_cons ed_str ad_nil)))) (pssd_one (psd_ret (ed_and (ed_call c_is_pair hr passD (ad_cons (ed_var (i := 4)) (ad_cons ed_str ad_nil)) (an_cons (an_cons an_nil))) (ed_one (ed_call c_is_from hr passD (ad_cons (ed_ix (ed_var (i := 1)) ed_int) (ad_cons (ed_var (i := 3)) (ad_cons (ed_ix (ed_var (i := 4)) (ed_op od_add ed_int (ed_callT cd_int T.z_int (ad_cons (ed_cmp (od_eq hr.units) (ed_var (i := 5)) ed_str) ad_nil)))) (ad_cons (ed_tup ad_nil) ad_nil)))) (an_cons (an_cons (an_cons (an_cons an_nil))))))))) pssd_nil)
    (pssd_cons (psd_set (i := 2) sc.nd (ed_ix (ed_ix (ed_var (i := 1)) ed_int) ed_int))
    (pssd_cons (psd_if (PW.pt (td_or (td_not (td_val (ed_call c_is_pair hr passD (ad_cons (ed_var (i := 2)) (ad_cons ed_str ad_nil)) (an_cons (an_cons an_nil))))) (td_or1 (td_not (td_val (ed_call c_is_from hr passD (ad_cons (ed_ix (ed_var (i := 1)) ed_int) (ad_cons (ed_var (i := 3)) (ad_cons (ed_var (i := 2)) (ad_cons (ed_tup ad_nil) ad_nil)))) (an_cons (an_cons (an_cons (an_cons an_nil)))))))))) (pssd_one (psd_ret ed_bl)) pssd_nil)
    (pssd_one (psd_ret (ed_cmp (od_eq hr.units) (ed_var (i := 4)) (ed_ix (ed_var (i := 2)) (ed_op od_add ed_int (ed_callT cd_int T.z_int (ad_cons (ed_cmp (od_eq hr.units) (ed_var (i := 5)) ed_str) ad_nil))))))))))))
theorem sc_by_cases : FnScope N_by_cases ["row", "ups"] (defScope s_by_cases) := ⟨rfl, rfl, rfl, by decide +kernel, rfl, by decide +kernel, by decide +kernel⟩
theorem w_by_cases {k : Nat} (T : Txt K mg) (c_is_from : Cal P w K mg base "is_from" k ["row", "given", "statement", "supposed"] sem_is_from) (c_is_pair : Cal P w K mg base "is_pair" k ["statement", "word"] sem_is_pair) : Cal P w K mg base "by_cases" (k + 1) ["row", "ups"] (bodyD 5 F_by_cases) := by
  obtain ⟨f, fd, D, hm, hb⟩ := T.d_by_cases.ex
  have sc := sc_by_cases
  refine callee_of (N := N_by_cases) D sc hm hb fun cdv A outer s H E W hr => ?_
  exact (pssd_cons (psd_asg (ed_cut (ed_var (i := 0)) od_none (od_some ed_int)) (gd_tup rfl (gds_cons (gd_name (i := 3) sc.nd) (gds_cons (gd_name (i := 4) sc.nd) gds_nil))))
    (pssd_cons (psd_set (i := 2) sc.nd (ed_ix (ed_ix (ed_var (i := 1)) ed_int) ed_int))
    (pssd_cons (psd_if (PW.pt (td_or (td_not (td_val (ed_call c_is_pair hr passD (ad_cons (ed_var (i := 2)) (ad_cons ed_str ad_nil)) (an_cons (an_cons an_nil))))) (td_or1 (td_not (td_val (ed_call c_is_from hr passD (ad_cons (ed_ix (ed_var (i := 1)) ed_int) (ad_cons (ed_var (i := 3)) (ad_cons (ed_var (i := 2)) (ad_cons (ed_tup ad_nil) ad_nil)))) (an_cons (an_cons (an_cons (an_cons an_nil)))))))))) (pssd_one (psd_ret ed_bl)) pssd_nil)
    (pssd_one (psd_ret (ed_and (ed_call c_is_from hr passD (ad_cons (ed_ix (ed_var (i := 1)) ed_int) (ad_cons (ed_var (i := 3)) (ad_cons (ed_var (i := 4)) (ad_cons (ed_tup (ad_cons (ed_ix (ed_var (i := 2)) ed_int) ad_nil)) ad_nil)))) (an_cons (an_cons (an_cons (an_cons an_nil))))) (ed_one (ed_call c_is_from hr passD (ad_cons (ed_ix (ed_var (i := 1)) ed_int) (ad_cons (ed_var (i := 3)) (ad_cons (ed_var (i := 4)) (ad_cons (ed_tup (ad_cons (ed_ix (ed_var (i := 2)) ed_int) ad_nil)) ad_nil)))) (an_cons (an_cons (an_cons (an_cons an_nil))))))))))))
theorem sc_by_then : FnScope N_by_then ["row", "ups"] (defScope s_by_then) := ⟨rfl, rfl, rfl, by decide +kernel, rfl, by decide +kernel, by decide +kernel⟩
theorem w_by_then {k : Nat} (T : Txt K mg) (c_is_from : Cal P w K mg base "is_from" k ["row", "given", "statement", "supposed"] sem_is_from) (c_is_pair : Cal P w K mg base "is_pair" k ["statement", "word"] sem_is_pair) : Cal P w K mg base "by_then" (k + 1) ["row", "ups"] (bodyD 6 F_by_then) := by
  obtain ⟨f, fd, D, hm, hb⟩ := T.d_by_then.ex
  have sc := sc_by_then
  refine callee_of (N := N_by_then) D sc hm hb fun cdv A outer s H E W hr => ?_
  exact (pssd_cons (psd_asg (ed_cut (ed_var (i := 0)) od_none (od_some ed_int)) (gd_tup rfl (gds_cons (gd_name (i := 3) sc.nd) (gds_cons (gd_name (i := 4) sc.nd) (gds_cons (gd_name (i := 5) sc.nd) gds_nil)))))
    (pssd_cons (psd_if (td_cmp (od_eq hr.units) (ed_var (i := 5)) ed_str) (pssd_one (psd_ret (ed_and (ed_call c_is_pair hr passD (ad_cons (ed_var (i := 4)) (ad_cons ed_str ad_nil)) (an_cons (an_cons an_nil))) (ed_one (ed_call c_is_from hr passD (ad_cons (ed_ix (ed_var (i := 1)) ed_int) (ad_cons (ed_var (i := 3)) (ad_cons (ed_ix (ed_var (i := 4)) ed_int) (ad_cons (ed_tup (ad_cons (ed_ix (ed_var (i := 4)) ed_int) ad_nil)) ad_nil)))) (an_cons (an_cons (an_cons (an_cons an_nil))))))))) pssd_nil)
    (pssd_cons (psd_set (i := 2) sc.nd (ed_ix (ed_ix (ed_var (i := 1)) ed_int) ed_int))
    (pssd_cons (psd_if (PW.pt (td_or (td_not (td_val (ed_call c_is_pair hr passD (ad_cons (ed_var (i := 2)) (ad_cons ed_str ad_nil)) (an_cons (an_cons an_nil))))) (td_or1 (td_not (td_val (ed_call c_is_from hr passD (ad_cons (ed_ix (ed_var (i := 1)) ed_int) (ad_cons (ed_var (i := 3)) (ad_cons (ed_var (i := 2)) (ad_cons (ed_tup ad_nil) ad_nil)))) (an_cons (an_cons (an_cons (an_cons an_nil)))))))))) (pssd_one (psd_ret ed_bl)) pssd_nil)
    (pssd_one (psd_ret (ed_and (ed_cmp (od_eq hr.units) (ed_var (i := 4)) (ed_ix (ed_var (i := 2)) ed_int)) (ed_one (ed_call c_is_from hr passD (ad_cons (ed_ix (ed_var (i := 1)) ed_int) (ad_cons (ed_var (i := 3)) (ad_cons (ed_ix (ed_var (i := 2)) ed_int) (ad_cons (ed_tup ad_nil) ad_nil)))) (an_cons (an_cons (an_cons (an_cons an_nil)))))))))))))
theorem sc_follows : FnScope N_follows ["rows", "number"] (defScope s_follows) := ⟨rfl, rfl, rfl, by decide +kernel, rfl, by decide +kernel, by decide +kernel⟩
theorem w_follows {k : Nat} (T : Txt K mg) (c_by_cases : Cal P w K mg base "by_cases" k ["row", "ups"] sem_by_cases) (c_by_parts : Cal P w K mg base "by_parts" k ["row", "ups"] sem_by_parts) (c_by_then : Cal P w K mg base "by_then" k ["row", "ups"] sem_by_then) (c_count_of : Cal P w K mg base "count_of" k ["rule"] sem_count_of) (c_is_from : Cal P w K mg base "is_from" k ["row", "given", "statement", "supposed"] sem_is_from) : Cal P w K mg base "follows" (k + 1) ["rows", "number"] (bodyD 5 F_follows) := by
  obtain ⟨f, fd, D, hm, hb⟩ := T.d_follows.ex
  have sc := sc_follows
  refine callee_of (N := N_follows) D sc hm hb fun cdv A outer s H E W hr => ?_
  exact (pssd_cons (psd_set (i := 2) sc.nd (ed_ix (ed_var (i := 0)) (ed_var (i := 1))))
    (pssd_cons (psd_if (PW.pt (td_or (td_cmp (od_ne hr.units) (ed_call c_count_of hr passD (ad_cons (ed_ix (ed_var (i := 2)) ed_int) ad_nil) (an_cons an_nil)) (ed_callB cd_len T.z_len (ad_cons (ed_ix (ed_var (i := 2)) ed_int) ad_nil))) (td_or1 (td_not (td_val (ed_callB (cd_all rfl) T.z_all (ad_cons (ed_lc (x := "up") (i := 4) rfl sc.nd (id_tup (ed_ix (ed_var (i := 2)) ed_int)) (blkOk_by (own := [("up", 4)]) (N := N_follows) (sc := defScope s_follows) (by decide +kernel)) (fun _ _ _ _ _ => pg_name (i := 4) sc.nd rfl (Or.inl rfl)) (fun _ _ _ _ _ => tds_nil) (fun _ _ _ _ _ => (ed_chain od_le od_lt ed_int (ed_var (i := 4)) (ed_var (i := 1))))) ad_nil))))))) (pssd_one (psd_ret ed_bl)) pssd_nil)
    (pssd_cons (psd_setLc (i := 3) (x := "up") (j := 4) rfl sc.nd (id_tup (ed_ix (ed_var (i := 2)) ed_int)) (blkOk_by (own := [("up", 4)]) (N := N_follows) (sc := defScope s_follows) (by decide +kernel)) (fun _ _ _ _ _ => pg_name (i := 4) sc.nd rfl (Or.inl rfl)) (fun _ _ _ _ _ => tds_nil) (fun _ _ _ _ _ => (ed_ix (ed_var (i := 0)) (ed_var (i := 4)))))
    (pssd_cons (psd_if (td_cmp (od_eq hr.units) (ed_ix (ed_var (i := 2)) ed_int) ed_str) (pssd_one (psd_ret (ed_cmp (od_in (units65 hr)) (ed_ix (ed_var (i := 2)) ed_int) (ed_ix (ed_var (i := 2)) ed_int)))) pssd_nil)
    (pssd_cons (psd_if (td_cmp (od_eq hr.units) (ed_ix (ed_var (i := 2)) ed_int) ed_str) (pssd_one (psd_ret (ed_call c_is_from hr passD (ad_cons (ed_ix (ed_var (i := 3)) ed_int) (ad_cons (ed_ix (ed_var (i := 2)) ed_int) (ad_cons (ed_tup (ad_cons ed_str ad_nil)) (ad_cons (ed_tup ad_nil) ad_nil)))) (an_cons (an_cons (an_cons (an_cons an_nil))))))) pssd_nil)
    (pssd_cons (psd_if (td_cmp (od_eq hr.units) (ed_ix (ed_var (i := 2)) ed_int) ed_str) (pssd_one (psd_ret (ed_call c_by_cases hr passD (ad_cons (ed_var (i := 2)) (ad_cons (ed_var (i := 3)) ad_nil)) (an_cons (an_cons an_nil))))) pssd_nil)
    (pssd_cons (psd_if (td_cmp (od_in (units65 hr)) (ed_ix (ed_var (i := 2)) ed_int) (ed_tup (ad_cons ed_str (ad_cons ed_str ad_nil)))) (pssd_one (psd_ret (ed_call c_by_then hr passD (ad_cons (ed_var (i := 2)) (ad_cons (ed_var (i := 3)) ad_nil)) (an_cons (an_cons an_nil))))) pssd_nil)
    (pssd_one (psd_ret (ed_call c_by_parts hr passD (ad_cons (ed_var (i := 2)) (ad_cons (ed_var (i := 3)) ad_nil)) (an_cons (an_cons an_nil))))))))))))
theorem sc_faults : FnScope N_faults ["rows"] (defScope s_faults) := ⟨rfl, rfl, rfl, by decide +kernel, rfl, by decide +kernel, by decide +kernel⟩
theorem w_faults {k : Nat} (T : Txt K mg) (c_follows : Cal P w K mg base "follows" k ["rows", "number"] sem_follows) : Cal P w K mg base "faults" (k + 1) ["rows"] (bodyD 2 F_faults) := by
  obtain ⟨f, fd, D, hm, hb⟩ := T.d_faults.ex
  have sc := sc_faults
  refine callee_of (N := N_faults) D sc hm hb fun cdv A outer s H E W hr => ?_
  exact (pssd_one (psd_ret (ed_lc (x := "number") (i := 1) rfl sc.nd (id_rng1 T.z_range (ad_cons (ed_callB cd_len T.z_len (ad_cons (ed_var (i := 0)) ad_nil)) ad_nil)) (blkOk_by (own := [("number", 1)]) (N := N_faults) (sc := defScope s_faults) (by decide +kernel)) (fun _ _ _ _ _ => pg_name (i := 1) sc.nd rfl (Or.inl rfl)) (fun _ _ _ _ _ => (tds_one (td_not (td_val (ed_call c_follows hr passD (ad_cons (ed_var (i := 0)) (ad_cons (ed_var (i := 1)) ad_nil)) (an_cons (an_cons an_nil))))))) (fun _ _ _ _ _ => (ed_var (i := 1))))))
theorem sc_shows : FnScope N_shows ["rows", "statement"] (defScope s_shows) := ⟨rfl, rfl, rfl, by decide +kernel, rfl, by decide +kernel, by decide +kernel⟩
theorem w_shows {k : Nat} (T : Txt K mg) (c_faults : Cal P w K mg base "faults" k ["rows"] sem_faults) : Cal P w K mg base "shows" (k + 1) ["rows", "statement"] (bodyD 2 F_shows) := by
  obtain ⟨f, fd, D, hm, hb⟩ := T.d_shows.ex
  have sc := sc_shows
  refine callee_of (N := N_shows) D sc hm hb fun cdv A outer s H E W hr => ?_
  exact (pssd_cons (psd_if (PW.pt (td_or (td_cmp (od_eq hr.units) (ed_callB cd_len T.z_len (ad_cons (ed_var (i := 0)) ad_nil)) ed_int) (td_or1 (td_cmp (od_ne hr.units) (ed_call c_faults hr passD (ad_cons (ed_var (i := 0)) ad_nil) (an_cons an_nil)) (ed_lst ad_nil))))) (pssd_one (psd_ret ed_bl)) pssd_nil)
    (pssd_one (psd_ret (ed_and (ed_cmp (od_eq hr.units) (ed_ix (ed_ix (ed_var (i := 0)) (ed_neg ed_int)) ed_int) (ed_var (i := 1))) (ed_one (ed_cmp (od_eq hr.units) (ed_callB cd_len T.z_len (ad_cons (ed_ix (ed_ix (ed_var (i := 0)) (ed_neg ed_int)) ed_int) ad_nil)) ed_int))))))
theorem sc_law_cell_at : FnScope N_law_cell_at ["_law_script", "_law_k"] (defScope s_law_cell_at) := ⟨rfl, rfl, rfl, by decide +kernel, rfl, by decide +kernel, by decide +kernel⟩
theorem w_law_cell_at {k : Nat} (T : Txt K mg) : Cal P w K mg base "_law_cell_at" (k + 1) ["_law_script", "_law_k"] (bodyD 2 F_law_cell_at) := by
  obtain ⟨f, fd, D, hm, hb⟩ := T.d_law_cell_at.ex
  have sc := sc_law_cell_at
  refine callee_of (N := N_law_cell_at) D sc hm hb fun cdv A outer s H E W hr => ?_
  exact (pssd_cons (psd_if (td_cmp od_lt (ed_var (i := 1)) (ed_callB cd_len T.z_len (ad_cons (ed_var (i := 0)) ad_nil))) (pssd_one (psd_ret (ed_ix (ed_var (i := 0)) (ed_var (i := 1))))) pssd_nil)
    (pssd_one (psd_ret ed_int)))
theorem sc_law_name_by : FnScope N_law_name_by ["_law_seed", "_law_k"] (defScope s_law_name_by) := ⟨rfl, rfl, rfl, by decide +kernel, rfl, by decide +kernel, by decide +kernel⟩
theorem w_law_name_by {k : Nat} (T : Txt K mg) : Cal P w K mg base "_law_name_by" (k + 1) ["_law_seed", "_law_k"] (bodyD 8 F_law_name_by) := by
  obtain ⟨f, fd, D, hm, hb⟩ := T.d_law_name_by.ex
  have sc := sc_law_name_by
  refine callee_of (N := N_law_name_by) D sc hm hb fun cdv A outer s H E W hr => ?_
  exact (pssd_cons (psd_set (i := 2) sc.nd ed_str)
    (pssd_cons (psd_set (i := 3) sc.nd (ed_op od_add ed_int (ed_op od_mod (ed_var (i := 0)) ed_int)))
    (pssd_cons (psd_set (i := 4) sc.nd (ed_join ed_str (ed_lc (x := "_law_j") (i := 7) rfl sc.nd (id_rng1 T.z_range (ad_cons (ed_var (i := 3)) ad_nil)) (blkOk_by (own := [("_law_j", 7)]) (N := N_law_name_by) (sc := defScope s_law_name_by) (by decide +kernel)) (fun _ _ _ _ _ => pg_name (i := 7) sc.nd rfl (Or.inl rfl)) (fun _ _ _ _ _ => tds_nil) (fun _ _ _ _ _ => (ed_ix (ed_var (i := 2)) (ed_op od_mod (ed_op od_add (ed_op od_add (ed_op od_div (ed_var (i := 0)) ed_int) (ed_op od_mul ed_int (ed_var (i := 7)))) (ed_op od_mul (ed_var (i := 7)) (ed_var (i := 7)))) ed_int))))))
    (pssd_cons (psd_set (i := 5) sc.nd (ed_op od_mod (ed_op od_div (ed_var (i := 0)) ed_int) (ed_var (i := 3))))
    (pssd_cons (psd_set (i := 6) sc.nd (ed_ix (ed_var (i := 2)) (ed_op od_mod (ed_op od_add (ed_sindex (ed_var (i := 2)) (ed_ix (ed_var (i := 4)) (ed_var (i := 5)))) (ed_op od_mul (ed_var (i := 1)) (ed_op od_add ed_int (ed_op od_mod (ed_op od_div (ed_var (i := 0)) ed_int) ed_int)))) ed_int)))
    (pssd_cons (psd_if (PW.pt (td_and (td_cmp (od_eq hr.units) (ed_var (i := 1)) ed_int) (td_and (td_cmp (od_eq hr.units) (ed_op od_mod (ed_op od_div (ed_var (i := 0)) ed_int) ed_int) ed_int) (td_and1 (td_cmp od_lt (ed_var (i := 3)) ed_int))))) (pssd_one (psd_ret (ed_op od_add (ed_var (i := 4)) (ed_var (i := 6))))) pssd_nil)
    (pssd_one (psd_ret (ed_op od_add (ed_op od_add (ed_cut (ed_var (i := 4)) od_none (od_some (ed_var (i := 5)))) (ed_var (i := 6))) (ed_cut (ed_var (i := 4)) (od_some (ed_op od_add (ed_var (i := 5)) ed_int)) od_none))))))))))
theorem sc_law_from : FnScope N_law_from ["_law_row", "_law_given", "_law_statement", "_law_supposed"] (defScope s_law_from) := ⟨rfl, rfl, rfl, by decide +kernel, rfl, by decide +kernel, by decide +kernel⟩
theorem w_law_from {k : Nat} (T : Txt K mg) : Cal P w K mg base "_law_from" (k + 1) ["_law_row", "_law_given", "_law_statement", "_law_supposed"] (bodyD 5 F_law_from) := by
  obtain ⟨f, fd, D, hm, hb⟩ := T.d_law_from.ex
  have sc := sc_law_from
  refine callee_of (N := N_law_from) D sc hm hb fun cdv A outer s H E W hr => ?_
  exact (pssd_one (psd_ret (ed_and (ed_cmp (od_eq hr.units) (ed_ix (ed_var (i := 0)) ed_int) (ed_var (i := 2))) (ed_one (ed_callB (cd_all rfl) T.z_all (ad_cons (ed_lc (x := "_law_one") (i := 4) rfl sc.nd (id_tup (ed_ix (ed_var (i := 0)) ed_int)) (blkOk_by (own := [("_law_one", 4)]) (N := N_law_from) (sc := defScope s_law_from) (by decide +kernel)) (fun _ _ _ _ _ => pg_name (i := 4) sc.nd rfl (Or.inl rfl)) (fun _ _ _ _ _ => tds_nil) (fun _ _ _ _ _ => (ed_or (ed_cmp (od_in (units65 hr)) (ed_var (i := 4)) (ed_var (i := 1))) (ed_one (ed_cmp (od_in (units65 hr)) (ed_var (i := 4)) (ed_var (i := 3))))))) ad_nil))))))
theorem sc_law_ups_right : FnScope N_law_ups_right ["_law_row", "_law_ups"] (defScope s_law_ups_right) := ⟨rfl, rfl, rfl, by decide +kernel, rfl, by decide +kernel, by decide +kernel⟩
theorem w_law_ups_right {k : Nat} (T : Txt K mg) (c_law_from : Cal P w K mg base "_law_from" k ["_law_row", "_law_given", "_law_statement", "_law_supposed"] sem_law_from) : Cal P w K mg base "_law_ups_right" (k + 1) ["_law_row", "_law_ups"] (bodyD 8 F_law_ups_right) := by
  obtain ⟨f, fd, D, hm, hb⟩ := T.d_law_ups_right.ex
  have sc := sc_law_ups_right
  refine callee_of (N := N_law_ups_right) D sc hm hb fun cdv A outer s H E W hr => ?_
  exact (pssd_cons (psd_asg (ed_cut (ed_var (i := 0)) od_none (od_some ed_int)) (gd_tup rfl (gds_cons (gd_name (i := 3) sc.nd) (gds_cons (gd_name (i := 4) sc.nd) (gds_cons (gd_name (i := 5) sc.nd) gds_nil)))))
    (pssd_cons (psd_if (td_cmp (od_eq hr.units) (ed_var (i := 5)) ed_str) (pssd_one (psd_ret (ed_cmp (od_in (units65 hr)) (ed_var (i := 4)) (ed_var (i := 3))))) pssd_nil)
    (pssd_cons (psd_set (i := 2) sc.nd (ed_ix (ed_ix (ed_var (i := 1)) ed_int) ed_int))
    (pssd_cons (psd_if (td_cmp (od_eq hr.units) (ed_var (i := 5)) ed_str) (pssd_one (psd_ret (ed_call c_law_from hr passD (ad_cons (ed_ix (ed_var (i := 1)) ed_int) (ad_cons (ed_var (i := 3)) (ad_cons (ed_tup (ad_cons ed_str ad_nil)) (ad_cons (ed_tup ad_nil) ad_nil)))) (an_cons (an_cons (an_cons (an_cons an_nil))))))) pssd_nil)
    (pssd_cons (psd_if (td_cmp (od_eq hr.units) (ed_var (i := 5)) ed_str) (pssd_cons (psd_if (td_cmp (od_ne hr.units) (ed_ix (ed_var (i := 4)) ed_int) ed_str) (pssd_one (psd_ret ed_bl)) pssd_nil)
    (pssd_one (psd_ret (ed_callB (cd_all rfl) T.z_all (ad_cons (ed_lc (x := "_law_k") (i := 7) rfl sc.nd (id_rng1 T.z_range (ad_cons ed_int ad_nil)) (blkOk_by (own := [("_law_k", 7)]) (N := N_law_ups_right) (sc := defScope s_law_ups_right) (by decide +kernel)) (fun _ _ _ _ _ => pg_name (i := 7) sc.nd rfl (Or.inl rfl)) (fun _ _ _ _ _ => tds_nil) (fun _ _ _ _ _ => (ed_call c_law_from hr passD (ad_cons (ed_ix (ed_var (i := 1)) (ed_var (i := 7))) (ad_cons (ed_var (i := 3)) (ad_cons (ed_ix (ed_var (i := 4)) (ed_op od_add ed_int (ed_var (i := 7)))) (ad_cons (ed_tup ad_nil) ad_nil)))) (an_cons (an_cons (an_cons (an_cons an_nil))))))) ad_nil))))) pssd_nil)
    (pssd_cons (psd_if (td_cmp (od_in (units65 hr)) (ed_var (i := 5)) (ed_lst (ad_cons ed_str (ad_cons ed_str ad_nil)))) (pssd_cons (psd_set (i := 6) sc.nd (ed_op od_add ed_int (ed_callT cd_int T.z_int (ad_cons (ed_cmp (od_eq hr.units) (ed_var (i := 5)) ed_str) ad_nil))))
    (pssd_one (psd_ret (ed_and (ed_cmp (od_eq hr.units) (ed_ix (ed_var (i := 4)) ed_int) ed_str) (ed_one (ed_call c_law_from hr passD (ad_cons (ed_ix (ed_var (i := 1)) ed_int) (ad_cons (ed_var (i := 3)) (ad_cons (ed_ix (ed_var (i := 4)) (ed_var (i := 6))) (ad_cons (ed_tup ad_nil) ad_nil)))) (an_cons (an_cons (an_cons (an_cons an_nil)))))))))) pssd_nil)
    (pssd_cons (psd_if (td_cmp (od_eq hr.units) (ed_var (i := 5)) ed_str) (pssd_one (psd_ret (ed_and (ed_cmp (od_eq hr.units) (ed_ix (ed_var (i := 4)) ed_int) ed_str) (ed_one (ed_call c_law_from hr passD (ad_cons (ed_ix (ed_var (i := 1)) ed_int) (ad_cons (ed_var (i := 3)) (ad_cons (ed_ix (ed_var (i := 4)) ed_int) (ad_cons (ed_lst (ad_cons (ed_ix (ed_var (i := 4)) ed_int) ad_nil)) ad_nil)))) (an_cons (an_cons (an_cons (an_cons an_nil))))))))) pssd_nil)
    (pssd_cons (psd_if (td_not (td_val (ed_call c_law_from hr passD (ad_cons (ed_ix (ed_var (i := 1)) ed_int) (ad_cons (ed_var (i := 3)) (ad_cons (ed_var (i := 2)) (ad_cons (ed_tup ad_nil) ad_nil)))) (an_cons (an_cons (an_cons (an_cons an_nil))))))) (pssd_one (psd_ret ed_bl)) pssd_nil)
    (pssd_cons (psd_if (td_cmp (od_in (units65 hr)) (ed_var (i := 5)) (ed_lst (ad_cons ed_str (ad_cons ed_str ad_nil)))) (pssd_one (psd_ret (ed_and (ed_cmp (od_eq hr.units) (ed_ix (ed_var (i := 2)) ed_int) ed_str) (ed_one (ed_cmp (od_eq hr.units) (ed_var (i := 4)) (ed_ix (ed_var (i := 2)) (ed_op od_add ed_int (ed_callT cd_int T.z_int (ad_cons (ed_cmp (od_eq hr.units) (ed_var (i := 5)) ed_str) ad_nil))))))))) pssd_nil)
    (pssd_cons (psd_if (td_cmp (od_eq hr.units) (ed_var (i := 5)) ed_str) (pssd_cons (psd_if (PW.pt (td_or (td_cmp (od_ne hr.units) (ed_ix (ed_var (i := 2)) ed_int) ed_str) (td_or1 (td_cmp (od_ne hr.units) (ed_var (i := 4)) (ed_ix (ed_var (i := 2)) ed_int))))) (pssd_one (psd_ret ed_bl)) pssd_nil)
    (pssd_one (psd_ret (ed_call c_law_from hr passD (ad_cons (ed_ix (ed_var (i := 1)) ed_int) (ad_cons (ed_var (i := 3)) (ad_cons (ed_ix (ed_var (i := 2)) ed_int) (ad_cons (ed_tup ad_nil) ad_nil)))) (an_cons (an_cons (an_cons (an_cons an_nil)))))))) pssd_nil)
    (pssd_cons (psd_if (td_cmp (od_ne hr.units) (ed_ix (ed_var (i := 2)) ed_int) ed_str) (pssd_one (psd_ret ed_bl)) pssd_nil)
    (pssd_one (psd_ret (ed_callB (cd_all rfl) T.z_all (ad_cons (ed_lc (x := "_law_k") (i := 7) rfl sc.nd (id_rng2 T.z_range (ad_cons ed_int (ad_cons ed_int ad_nil))) (blkOk_by (own := [("_law_k", 7)]) (N := N_law_ups_right) (sc := defScope s_law_ups_right) (by decide +kernel)) (fun _ _ _ _ _ => pg_name (i := 7) sc.nd rfl (Or.inl rfl)) (fun _ _ _ _ _ => tds_nil) (fun _ _ _ _ _ => (ed_call c_law_from hr passD (ad_cons (ed_ix (ed_var (i := 1)) (ed_var (i := 7))) (ad_cons (ed_var (i := 3)) (ad_cons (ed_var (i := 4)) (ad_cons (ed_lst (ad_cons (ed_ix (ed_var (i := 2)) (ed_var (i := 7))) ad_nil)) ad_nil)))) (an_cons (an_cons (an_cons (an_cons an_nil))))))) ad_nil)))))))))))))))
theorem sc_law_follows : FnScope N_law_follows ["_law_rows", "_law_number"] (defScope s_law_follows) := ⟨rfl, rfl, rfl, by decide +kernel, rfl, by decide +kernel, by decide +kernel⟩
theorem w_law_follows {k : Nat} (T : Txt K mg) (c_law_ups_right : Cal P w K mg base "_law_ups_right" k ["_law_row", "_law_ups"] sem_law_ups_right) : Cal P w K mg base "_law_follows" (k + 1) ["_law_rows", "_law_number"] (bodyD 5 F_law_follows) := by
  obtain ⟨f, fd, D, hm, hb⟩ := T.d_law_follows.ex
  have sc := sc_law_follows
  refine callee_of (N := N_law_follows) D sc hm hb fun cdv A outer s H E W hr => ?_
  exact (pssd_dict2 (i := 2) [(Sum.inr "given", V.int 0), (Sum.inr "both", V.int 2), (Sum.inr "left", V.int 1), (Sum.inr "right", V.int 1), (Sum.inr "one", V.int 1), (Sum.inr "other", V.int 1)] [(Sum.inr "cases", V.int 3), (Sum.inr "suppose", V.int 1), (Sum.inr "onward", V.int 2), (Sum.inr "any", V.int 1)] sc.nd (pps_cons pe_str pe_int (pps_cons pe_str pe_int (pps_cons pe_str pe_int (pps_cons pe_str pe_int (pps_cons pe_str pe_int (pps_cons pe_str pe_int pps_nil)))))) (pps_cons pe_str pe_int (pps_cons pe_str pe_int (pps_cons pe_str pe_int (pps_cons pe_str pe_int pps_nil))))
    (pssd_cons (psd_set (i := 3) sc.nd (ed_ix (ed_var (i := 0)) (ed_var (i := 1))))
    (pssd_cons (psd_if (td_cmp (od_ne hr.units) (ed_get2 (hu_of hr) (ed_var (i := 2)) (ed_ix (ed_var (i := 3)) ed_int) ed_int) (ed_callB cd_len T.z_len (ad_cons (ed_ix (ed_var (i := 3)) ed_int) ad_nil))) (pssd_one (psd_ret ed_bl)) pssd_nil)
    (pssd_cons (psd_if (td_not (td_val (ed_callB (cd_all rfl) T.z_all (ad_cons (ed_lc (x := "_law_up") (i := 4) rfl sc.nd (id_tup (ed_ix (ed_var (i := 3)) ed_int)) (blkOk_by (own := [("_law_up", 4)]) (N := N_law_follows) (sc := defScope s_law_follows) (by decide +kernel)) (fun _ _ _ _ _ => pg_name (i := 4) sc.nd rfl (Or.inl rfl)) (fun _ _ _ _ _ => tds_nil) (fun _ _ _ _ _ => (ed_chain od_le od_lt ed_int (ed_var (i := 4)) (ed_var (i := 1))))) ad_nil)))) (pssd_one (psd_ret ed_bl)) pssd_nil)
    (pssd_one (psd_ret (ed_call c_law_ups_right hr passD (ad_cons (ed_var (i := 3)) (ad_cons (ed_lc (x := "_law_up") (i := 4) rfl sc.nd (id_tup (ed_ix (ed_var (i := 3)) ed_int)) (blkOk_by (own := [("_law_up", 4)]) (N := N_law_follows) (sc := defScope s_law_follows) (by decide +kernel)) (fun _ _ _ _ _ => pg_name (i := 4) sc.nd rfl (Or.inl rfl)) (fun _ _ _ _ _ => tds_nil) (fun _ _ _ _ _ => (ed_ix (ed_var (i := 0)) (ed_var (i := 4))))) ad_nil)) (an_cons (an_cons an_nil)))))))))
theorem sc_law_showing_by : FnScope N_law_showing_by ["_law_seed", "_law_cell"] (defScope s_law_showing_by) := ⟨rfl, rfl, rfl, by decide +kernel, rfl, by decide +kernel, by decide +kernel⟩
theorem w_law_showing_by {k : Nat} (T : Txt K mg) (c_law_name_by : Cal P w K mg base "_law_name_by" k ["_law_seed", "_law_k"] sem_law_name_by) : Cal P w K mg base "_law_showing_by" (k + 1) ["_law_seed", "_law_cell"] (bodyD 10 F_law_showing_by) := by
  obtain ⟨f, fd, D, hm, hb⟩ := T.d_law_showing_by.ex
  have sc := sc_law_showing_by
  refine callee_of (N := N_law_showing_by) D sc hm hb fun cdv A outer s H E W hr => ?_
  exact (pssd_cons (psd_set (i := 2) sc.nd (ed_tup (ad_cons ed_str (ad_cons (ed_call c_law_name_by hr passD (ad_cons (ed_var (i := 0)) (ad_cons ed_int ad_nil)) (an_cons (an_cons an_nil))) ad_nil))))
    (pssd_cons (psd_set (i := 3) sc.nd (ed_tup (ad_cons ed_str (ad_cons (ed_call c_law_name_by hr passD (ad_cons (ed_var (i := 0)) (ad_cons ed_int ad_nil)) (an_cons (an_cons an_nil))) ad_nil))))
    (pssd_cons (psd_set (i := 4) sc.nd (ed_tup (ad_cons ed_str (ad_cons (ed_var (i := 2)) (ad_cons (ed_var (i := 3)) ad_nil)))))
    (pssd_cons (psd_set (i := 5) sc.nd (ed_op od_mod (ed_var (i := 1)) ed_int))
    (pssd_cons (psd_if (td_cmp (od_eq hr.units) (ed_var (i := 5)) ed_int) (pssd_one (psd_ret (ed_lst (ad_cons (ed_tup (ad_cons (ed_tup (ad_cons (ed_var (i := 2)) ad_nil)) (ad_cons (ed_var (i := 2)) (ad_cons ed_str (ad_cons (ed_tup ad_nil) ad_nil))))) (ad_cons (ed_tup (ad_cons (ed_tup ad_nil) (ad_cons (ed_tup (ad_cons ed_str (ad_cons (ed_var (i := 2)) (ad_cons (ed_var (i := 2)) ad_nil)))) (ad_cons ed_str (ad_cons (ed_tup (ad_cons ed_int ad_nil)) ad_nil))))) ad_nil))))) pssd_nil)
    (pssd_cons (psd_if (td_cmp (od_eq hr.units) (ed_var (i := 5)) ed_int) (pssd_cons (psd_set (i := 6) sc.nd (ed_lst (ad_cons (ed_tup (ad_cons (ed_tup (ad_cons (ed_var (i := 4)) ad_nil)) (ad_cons (ed_var (i := 4)) (ad_cons ed_str (ad_cons (ed_tup ad_nil) ad_nil))))) (ad_cons (ed_tup (ad_cons (ed_tup (ad_cons (ed_var (i := 4)) ad_nil)) (ad_cons (ed_var (i := 2)) (ad_cons ed_str (ad_cons (ed_tup (ad_cons ed_int ad_nil)) ad_nil))))) (ad_cons (ed_tup (ad_cons (ed_tup (ad_cons (ed_var (i := 4)) ad_nil)) (ad_cons (ed_var (i := 3)) (ad_cons ed_str (ad_cons (ed_tup (ad_cons ed_int ad_nil)) ad_nil))))) ad_nil)))))
    (pssd_one (psd_ret (ed_op od_add (ed_var (i := 6)) (ed_lst (ad_cons (ed_tup (ad_cons (ed_tup (ad_cons (ed_var (i := 4)) ad_nil)) (ad_cons (ed_tup (ad_cons ed_str (ad_cons (ed_var (i := 3)) (ad_cons (ed_var (i := 2)) ad_nil)))) (ad_cons ed_str (ad_cons (ed_tup (ad_cons ed_int (ad_cons ed_int ad_nil))) ad_nil))))) (ad_cons (ed_tup (ad_cons (ed_tup ad_nil) (ad_cons (ed_tup (ad_cons ed_str (ad_cons (ed_var (i := 4)) (ad_cons (ed_tup (ad_cons ed_str (ad_cons (ed_var (i := 3)) (ad_cons (ed_var (i := 2)) ad_nil)))) ad_nil)))) (ad_cons ed_str (ad_cons (ed_tup (ad_cons ed_int ad_nil)) ad_nil))))) ad_nil))))))) pssd_nil)
    (pssd_cons (psd_if (td_cmp (od_eq hr.units) (ed_var (i := 5)) ed_int) (pssd_cons (psd_set (i := 7) sc.nd (ed_tup (ad_cons ed_str (ad_cons (ed_var (i := 2)) (ad_cons (ed_var (i := 3)) ad_nil)))))
    (pssd_cons (psd_set (i := 6) sc.nd (ed_lst (ad_cons (ed_tup (ad_cons (ed_tup (ad_cons (ed_var (i := 7)) ad_nil)) (ad_cons (ed_var (i := 7)) (ad_cons ed_str (ad_cons (ed_tup ad_nil) ad_nil))))) (ad_cons (ed_tup (ad_cons (ed_tup (ad_cons (ed_var (i := 2)) ad_nil)) (ad_cons (ed_var (i := 2)) (ad_cons ed_str (ad_cons (ed_tup ad_nil) ad_nil))))) (ad_cons (ed_tup (ad_cons (ed_tup (ad_cons (ed_var (i := 2)) ad_nil)) (ad_cons (ed_tup (ad_cons ed_str (ad_cons (ed_var (i := 3)) (ad_cons (ed_var (i := 2)) ad_nil)))) (ad_cons ed_str (ad_cons (ed_tup (ad_cons ed_int ad_nil)) ad_nil))))) ad_nil)))))
    (pssd_cons (psd_set (i := 6) sc.nd (ed_op od_add (ed_var (i := 6)) (ed_lst (ad_cons (ed_tup (ad_cons (ed_tup (ad_cons (ed_var (i := 3)) ad_nil)) (ad_cons (ed_var (i := 3)) (ad_cons ed_str (ad_cons (ed_tup ad_nil) ad_nil))))) (ad_cons (ed_tup (ad_cons (ed_tup (ad_cons (ed_var (i := 3)) ad_nil)) (ad_cons (ed_tup (ad_cons ed_str (ad_cons (ed_var (i := 3)) (ad_cons (ed_var (i := 2)) ad_nil)))) (ad_cons ed_str (ad_cons (ed_tup (ad_cons ed_int ad_nil)) ad_nil))))) ad_nil)))))
    (pssd_cons (psd_set (i := 6) sc.nd (ed_op od_add (ed_var (i := 6)) (ed_lst (ad_cons (ed_tup (ad_cons (ed_tup (ad_cons (ed_var (i := 7)) ad_nil)) (ad_cons (ed_tup (ad_cons ed_str (ad_cons (ed_var (i := 3)) (ad_cons (ed_var (i := 2)) ad_nil)))) (ad_cons ed_str (ad_cons (ed_tup (ad_cons ed_int (ad_cons ed_int (ad_cons ed_int ad_nil)))) ad_nil))))) ad_nil))))
    (pssd_one (psd_ret (ed_op od_add (ed_var (i := 6)) (ed_lst (ad_cons (ed_tup (ad_cons (ed_tup ad_nil) (ad_cons (ed_tup (ad_cons ed_str (ad_cons (ed_var (i := 7)) (ad_cons (ed_tup (ad_cons ed_str (ad_cons (ed_var (i := 3)) (ad_cons (ed_var (i := 2)) ad_nil)))) ad_nil)))) (ad_cons ed_str (ad_cons (ed_tup (ad_cons ed_int ad_nil)) ad_nil))))) ad_nil))))))))) pssd_nil)
    (pssd_cons (psd_if (td_cmp (od_eq hr.units) (ed_var (i := 5)) ed_int) (pssd_cons (psd_set (i := 8) sc.nd (ed_tup (ad_cons ed_str (ad_cons (ed_var (i := 2)) (ad_cons (ed_var (i := 3)) ad_nil)))))
    (pssd_cons (psd_set (i := 6) sc.nd (ed_lst (ad_cons (ed_tup (ad_cons (ed_tup (ad_cons (ed_var (i := 8)) (ad_cons (ed_var (i := 2)) ad_nil))) (ad_cons (ed_var (i := 8)) (ad_cons ed_str (ad_cons (ed_tup ad_nil) ad_nil))))) (ad_cons (ed_tup (ad_cons (ed_tup (ad_cons (ed_var (i := 2)) ad_nil)) (ad_cons (ed_var (i := 2)) (ad_cons ed_str (ad_cons (ed_tup ad_nil) ad_nil))))) (ad_cons (ed_tup (ad_cons (ed_tup (ad_cons (ed_var (i := 8)) (ad_cons (ed_var (i := 2)) ad_nil))) (ad_cons (ed_var (i := 3)) (ad_cons ed_str (ad_cons (ed_tup (ad_cons ed_int (ad_cons ed_int ad_nil))) ad_nil))))) ad_nil)))))
    (pssd_one (psd_ret (ed_op od_add (ed_var (i := 6)) (ed_lst (ad_cons (ed_tup (ad_cons (ed_tup (ad_cons (ed_var (i := 8)) ad_nil)) (ad_cons (ed_var (i := 8)) (ad_cons ed_str (ad_cons (ed_tup (ad_cons ed_int ad_nil)) ad_nil))))) (ad_cons (ed_tup (ad_cons (ed_tup ad_nil) (ad_cons (ed_tup (ad_cons ed_str (ad_cons (ed_var (i := 8)) (ad_cons (ed_var (i := 8)) ad_nil)))) (ad_cons ed_str (ad_cons (ed_tup (ad_cons ed_int ad_nil)) ad_nil))))) ad_nil)))))))) pssd_nil)
    (pssd_cons (psd_if (td_cmp (od_eq hr.units) (ed_var (i := 5)) ed_int) (pssd_cons (psd_set (i := 9) sc.nd (ed_tup (ad_cons ed_str ad_nil)))
    (pssd_one (psd_ret (ed_lst (ad_cons (ed_tup (ad_cons (ed_tup (ad_cons (ed_var (i := 9)) ad_nil)) (ad_cons (ed_var (i := 9)) (ad_cons ed_str (ad_cons (ed_tup ad_nil) ad_nil))))) (ad_cons (ed_tup (ad_cons (ed_tup (ad_cons (ed_var (i := 9)) ad_nil)) (ad_cons (ed_var (i := 2)) (ad_cons ed_str (ad_cons (ed_tup (ad_cons ed_int ad_nil)) ad_nil))))) (ad_cons (ed_tup (ad_cons (ed_tup ad_nil) (ad_cons (ed_tup (ad_cons ed_str (ad_cons (ed_var (i := 9)) (ad_cons (ed_var (i := 2)) ad_nil)))) (ad_cons ed_str (ad_cons (ed_tup (ad_cons ed_int ad_nil)) ad_nil))))) ad_nil))))))) pssd_nil)
    (pssd_cons (psd_set (i := 6) sc.nd (ed_lst (ad_cons (ed_tup (ad_cons (ed_tup (ad_cons (ed_var (i := 3)) (ad_cons (ed_var (i := 2)) ad_nil))) (ad_cons (ed_var (i := 2)) (ad_cons ed_str (ad_cons (ed_tup ad_nil) ad_nil))))) (ad_cons (ed_tup (ad_cons (ed_tup (ad_cons (ed_var (i := 2)) ad_nil)) (ad_cons (ed_tup (ad_cons ed_str (ad_cons (ed_var (i := 3)) (ad_cons (ed_var (i := 2)) ad_nil)))) (ad_cons ed_str (ad_cons (ed_tup (ad_cons ed_int ad_nil)) ad_nil))))) ad_nil))))
    (pssd_one (psd_ret (ed_op od_add (ed_var (i := 6)) (ed_lst (ad_cons (ed_tup (ad_cons (ed_tup ad_nil) (ad_cons (ed_tup (ad_cons ed_str (ad_cons (ed_var (i := 2)) (ad_cons (ed_tup (ad_cons ed_str (ad_cons (ed_var (i := 3)) (ad_cons (ed_var (i := 2)) ad_nil)))) ad_nil)))) (ad_cons ed_str (ad_cons (ed_tup (ad_cons ed_int ad_nil)) ad_nil))))) ad_nil)))))))))))))))
theorem sc_law_moved : FnScope N_law_moved ["_law_rows", "_law_many", "_law_seed"] (defScope s_law_moved) := ⟨rfl, rfl, rfl, by decide +kernel, rfl, by decide +kernel, by decide +kernel⟩
theorem w_law_moved {k : Nat} (T : Txt K mg) (c_law_name_by : Cal P w K mg base "_law_name_by" k ["_law_seed", "_law_k"] sem_law_name_by) : Cal P w K mg base "_law_moved" (k + 1) ["_law_rows", "_law_many", "_law_seed"] (bodyD 8 F_law_moved) := by
  obtain ⟨f, fd, D, hm, hb⟩ := T.d_law_moved.ex
  have sc := sc_law_moved
  refine callee_of (N := N_law_moved) D sc hm hb fun cdv A outer s H E W hr => ?_
  exact (pssd_cons (psd_set (i := 3) sc.nd (ed_tup (ad_cons ed_str (ad_cons (ed_call c_law_name_by hr passD (ad_cons (ed_var (i := 2)) (ad_cons ed_int ad_nil)) (an_cons (an_cons an_nil))) ad_nil))))
    (pssd_cons (psd_setLc (i := 4) (x := "_law_k") (j := 5) rfl sc.nd (id_rng1 T.z_range (ad_cons (ed_var (i := 1)) ad_nil)) (blkOk_by (own := [("_law_k", 5)]) (N := N_law_moved) (sc := defScope s_law_moved) (by decide +kernel)) (fun _ _ _ _ _ => pg_name (i := 5) sc.nd rfl (Or.inl rfl)) (fun _ _ _ _ _ => tds_nil) (fun _ _ _ _ _ => (ed_tup (ad_cons (ed_tup (ad_cons (ed_var (i := 3)) ad_nil)) (ad_cons (ed_var (i := 3)) (ad_cons ed_str (ad_cons (ed_tup ad_nil) ad_nil)))))))
    (pssd_one (psd_ret (ed_op od_add (ed_var (i := 4)) (ed_lc (x := "_law_row") (i := 6) rfl sc.nd (id_list (ed_var (i := 0))) (blkOk_by (own := [("_law_row", 6)]) (N := N_law_moved) (sc := defScope s_law_moved) (by decide +kernel)) (fun _ _ _ _ _ => pg_name (i := 6) sc.nd rfl (Or.inl rfl)) (fun _ _ _ _ _ => tds_nil) (fun _ _ _ _ _ => (ed_tup (ad_cons (ed_ix (ed_var (i := 6)) ed_int) (ad_cons (ed_ix (ed_var (i := 6)) ed_int) (ad_cons (ed_ix (ed_var (i := 6)) ed_int) (ad_cons (ed_callT cd_tuple T.z_tuple (ad_cons (ed_lc (x := "_law_up") (i := 7) rfl sc.nd (id_tup (ed_ix (ed_var (i := 6)) ed_int)) (blkOk_by (own := [("_law_up", 7)]) (N := N_law_moved) (sc := defOuter_law_moved) (by decide +kernel)) (fun _ _ _ _ _ => pg_name (i := 7) sc.nd rfl (Or.inl rfl)) (fun _ _ _ _ _ => tds_nil) (fun _ _ _ _ _ => (ed_op od_add (ed_var (i := 7)) (ed_var (i := 1))))) ad_nil)) ad_nil))))))))))))
theorem sc_law_changed : FnScope N_law_changed ["_law_rows", "_law_cell", "_law_seed"] (defScope s_law_changed) := ⟨rfl, rfl, rfl, by decide +kernel, rfl, by decide +kernel, by decide +kernel⟩
theorem w_law_changed {k : Nat} (T : Txt K mg) (c_law_name_by : Cal P w K mg base "_law_name_by" k ["_law_seed", "_law_k"] sem_law_name_by) : Cal P w K mg base "_law_changed" (k + 1) ["_law_rows", "_law_cell", "_law_seed"] (bodyD 8 F_law_changed) := by
  obtain ⟨f, fd, D, hm, hb⟩ := T.d_law_changed.ex
  have sc := sc_law_changed
  refine callee_of (N := N_law_changed) D sc hm hb fun cdv A outer s H E W hr => ?_
  exact (pssd_cons (psd_set (i := 3) sc.nd (ed_tup (ad_cons ed_str (ad_cons (ed_call c_law_name_by hr passD (ad_cons (ed_var (i := 2)) (ad_cons ed_int ad_nil)) (an_cons (an_cons an_nil))) ad_nil))))
    (pssd_cons (psd_set (i := 4) sc.nd (ed_ix (ed_var (i := 0)) (ed_neg ed_int)))
    (pssd_cons (psd_set (i := 5) sc.nd (ed_op od_mod (ed_var (i := 1)) ed_int))
    (pssd_cons (psd_if (td_cmp (od_eq hr.units) (ed_var (i := 5)) ed_int) (pssd_one (psd_ret (ed_op od_add (ed_cut (ed_var (i := 0)) od_none (od_some (ed_neg ed_int))) (ed_lst (ad_cons (ed_tup (ad_cons (ed_ix (ed_var (i := 4)) ed_int) (ad_cons (ed_tup (ad_cons ed_str (ad_cons (ed_var (i := 3)) (ad_cons (ed_var (i := 3)) ad_nil)))) (ad_cons (ed_ix (ed_var (i := 4)) ed_int) (ad_cons (ed_ix (ed_var (i := 4)) ed_int) ad_nil))))) ad_nil))))) pssd_nil)
    (pssd_cons (psd_if (td_cmp (od_eq hr.units) (ed_var (i := 5)) ed_int) (pssd_one (psd_ret (ed_op od_add (ed_cut (ed_var (i := 0)) od_none (od_some (ed_neg ed_int))) (ed_lst (ad_cons (ed_tup (ad_cons (ed_tup (ad_cons (ed_var (i := 3)) ad_nil)) (ad_cons (ed_ix (ed_var (i := 4)) ed_int) (ad_cons (ed_ix (ed_var (i := 4)) ed_int) (ad_cons (ed_ix (ed_var (i := 4)) ed_int) ad_nil))))) ad_nil))))) pssd_nil)
    (pssd_cons (psd_if (td_cmp (od_eq hr.units) (ed_var (i := 5)) ed_int) (pssd_one (psd_ret (ed_op od_add (ed_var (i := 0)) (ed_lst (ad_cons (ed_tup (ad_cons (ed_tup (ad_cons (ed_var (i := 3)) ad_nil)) (ad_cons (ed_var (i := 3)) (ad_cons ed_str (ad_cons (ed_tup ad_nil) ad_nil))))) ad_nil))))) pssd_nil)
    (pssd_cons (psd_if (td_cmp (od_eq hr.units) (ed_var (i := 5)) ed_int) (pssd_cons (psd_set (i := 6) sc.nd (ed_op od_mod (ed_op od_div (ed_var (i := 1)) ed_int) (ed_callB cd_len T.z_len (ad_cons (ed_var (i := 0)) ad_nil))))
    (pssd_one (psd_ret (ed_op od_add (ed_op od_add (ed_cut (ed_var (i := 0)) od_none (od_some (ed_var (i := 6)))) (ed_lst (ad_cons (ed_tup (ad_cons (ed_ix (ed_ix (ed_var (i := 0)) (ed_var (i := 6))) ed_int) (ad_cons (ed_ix (ed_ix (ed_var (i := 0)) (ed_var (i := 6))) ed_int) (ad_cons ed_str (ad_cons (ed_tup ad_nil) ad_nil))))) ad_nil))) (ed_cut (ed_var (i := 0)) (od_some (ed_op od_add (ed_var (i := 6)) ed_int)) od_none))))) pssd_nil)
    (pssd_cons (psd_if (td_cmp (od_eq hr.units) (ed_var (i := 5)) ed_int) (pssd_one (psd_ret (ed_lst ad_nil))) pssd_nil)
    (pssd_cons (psd_if (td_cmp (od_eq hr.units) (ed_var (i := 5)) ed_int) (pssd_one (psd_ret (ed_cut (ed_var (i := 0)) od_none (od_some (ed_neg ed_int))))) pssd_nil)
    (pssd_cons (psd_if (td_cmp (od_eq hr.units) (ed_var (i := 5)) ed_int) (pssd_cons (psd_set (i := 6) sc.nd (ed_op od_mod (ed_op od_div (ed_var (i := 1)) ed_int) (ed_callB cd_len T.z_len (ad_cons (ed_var (i := 0)) ad_nil))))
    (pssd_one (psd_ret (ed_op od_add (ed_op od_add (ed_cut (ed_var (i := 0)) od_none (od_some (ed_var (i := 6)))) (ed_lst (ad_cons (ed_tup (ad_cons (ed_tup ad_nil) (ad_cons (ed_var (i := 3)) (ad_cons ed_str (ad_cons (ed_tup ad_nil) ad_nil))))) ad_nil))) (ed_cut (ed_var (i := 0)) (od_some (ed_var (i := 6))) od_none))))) pssd_nil)
    (pssd_cons (psd_if (td_cmp (od_eq hr.units) (ed_var (i := 5)) ed_int) (pssd_one (psd_ret (ed_op od_add (ed_var (i := 0)) (ed_lst (ad_cons (ed_tup (ad_cons (ed_ix (ed_var (i := 4)) ed_int) (ad_cons (ed_ix (ed_var (i := 4)) ed_int) (ad_cons (ed_ix (ed_var (i := 4)) ed_int) (ad_cons (ed_ix (ed_var (i := 4)) ed_int) ad_nil))))) ad_nil))))) pssd_nil)
    (pssd_one (psd_ret (ed_lc (x := "_law_row") (i := 7) rfl sc.nd (id_list (ed_var (i := 0))) (blkOk_by (own := [("_law_row", 7)]) (N := N_law_changed) (sc := defScope s_law_changed) (by decide +kernel)) (fun _ _ _ _ _ => pg_name (i := 7) sc.nd rfl (Or.inl rfl)) (fun _ _ _ _ _ => tds_nil) (fun _ _ _ _ _ => (ed_tup (ad_cons (ed_ix (ed_var (i := 7)) ed_int) (ad_cons (ed_ix (ed_var (i := 7)) ed_int) (ad_cons (ed_ix (ed_var (i := 7)) ed_int) (ad_cons (ed_tupRev rfl T.z_tuple T.z_reversed (ed_ix (ed_var (i := 7)) ed_int)) ad_nil))))))))))))))))))))
theorem sc_law : FnScope N_law ["_law_script"] (defScope s_law) := ⟨rfl, rfl, rfl, by decide +kernel, rfl, by decide +kernel, by decide +kernel⟩
theorem w_law {k : Nat} (T : Txt K mg) (c_law_cell_at : Cal P w K mg base "_law_cell_at" k ["_law_script", "_law_k"] sem_law_cell_at) (c_law_changed : Cal P w K mg base "_law_changed" k ["_law_rows", "_law_cell", "_law_seed"] sem_law_changed) (c_law_follows : Cal P w K mg base "_law_follows" k ["_law_rows", "_law_number"] sem_law_follows) (c_law_moved : Cal P w K mg base "_law_moved" k ["_law_rows", "_law_many", "_law_seed"] sem_law_moved) (c_law_showing_by : Cal P w K mg base "_law_showing_by" k ["_law_seed", "_law_cell"] sem_law_showing_by) (c_shows : Cal P w K mg base "shows" k ["rows", "statement"] sem_shows) : Cal P w K mg base "law" (k + 1) ["_law_script"] (bodyD 11 F_law) := by
  obtain ⟨f, fd, D, hm, hb⟩ := T.d_law.ex
  have sc := sc_law
  refine callee_of (N := N_law) D sc hm hb fun cdv A outer s H E W hr => ?_
  exact (pssd_cons (psd_set (i := 1) sc.nd (ed_call c_law_cell_at hr passD (ad_cons (ed_var (i := 0)) (ad_cons ed_int ad_nil)) (an_cons (an_cons an_nil))))
    (pssd_cons (psd_set (i := 2) sc.nd (ed_call c_law_cell_at hr passD (ad_cons (ed_var (i := 0)) (ad_cons ed_int ad_nil)) (an_cons (an_cons an_nil))))
    (pssd_cons (psd_set (i := 3) sc.nd (ed_call c_law_moved hr passD (ad_cons (ed_call c_law_showing_by hr passD (ad_cons (ed_var (i := 1)) (ad_cons (ed_call c_law_cell_at hr passD (ad_cons (ed_var (i := 0)) (ad_cons ed_int ad_nil)) (an_cons (an_cons an_nil))) ad_nil)) (an_cons (an_cons an_nil))) (ad_cons (ed_op od_mod (ed_op od_div (ed_var (i := 2)) ed_int) ed_int) (ad_cons (ed_var (i := 1)) ad_nil))) (an_cons (an_cons (an_cons an_nil)))))
    (pssd_cons (psd_set (i := 4) sc.nd (ed_ix (ed_ix (ed_var (i := 3)) (ed_neg ed_int)) ed_int))
    (pssd_cons (psd_set (i := 5) sc.nd (ed_var (i := 3)))
    (pssd_cons (psd_if (td_cmp od_gt (ed_op od_mod (ed_var (i := 2)) ed_int) ed_int) (pssd_one (psd_set (i := 5) sc.nd (ed_call c_law_changed hr passD (ad_cons (ed_var (i := 3)) (ad_cons (ed_call c_law_cell_at hr passD (ad_cons (ed_var (i := 0)) (ad_cons ed_int ad_nil)) (an_cons (an_cons an_nil))) (ad_cons (ed_var (i := 1)) ad_nil))) (an_cons (an_cons (an_cons an_nil)))))) pssd_nil)
    (pssd_cons (psd_if (td_cmp (od_eq hr.units) (ed_op od_mod (ed_op od_div (ed_var (i := 2)) ed_int) ed_int) ed_int) (pssd_one (psd_set (i := 4) sc.nd (ed_ix (ed_lst (ad_cons (ed_ix (ed_ix (ed_var (i := 3)) ed_int) ed_int) (ad_cons (ed_tup (ad_cons ed_str (ad_cons (ed_var (i := 4)) (ad_cons (ed_var (i := 4)) ad_nil)))) (ad_cons (ed_tup (ad_cons ed_str ad_nil)) ad_nil)))) (ed_op od_mod (ed_op od_div (ed_var (i := 2)) ed_int) ed_int)))) pssd_nil)
    (pssd_cons (psd_set (i := 6) sc.nd (ed_and (ed_cmp (od_ne hr.units) (ed_var (i := 5)) (ed_lst ad_nil)) (ed_one (ed_callB (cd_all rfl) T.z_all (ad_cons (ed_lc (x := "_law_number") (i := 10) rfl sc.nd (id_rng1 T.z_range (ad_cons (ed_callB cd_len T.z_len (ad_cons (ed_var (i := 5)) ad_nil)) ad_nil)) (blkOk_by (own := [("_law_number", 10)]) (N := N_law) (sc := defScope s_law) (by decide +kernel)) (fun _ _ _ _ _ => pg_name (i := 10) sc.nd rfl (Or.inl rfl)) (fun _ _ _ _ _ => tds_nil) (fun _ _ _ _ _ => (ed_call c_law_follows hr passD (ad_cons (ed_var (i := 5)) (ad_cons (ed_var (i := 10)) ad_nil)) (an_cons (an_cons an_nil))))) ad_nil)))))
    (pssd_cons (psd_if (td_val (ed_var (i := 6))) (pssd_one (psd_set (i := 6) sc.nd (ed_and (ed_cmp (od_eq hr.units) (ed_ix (ed_ix (ed_var (i := 5)) (ed_neg ed_int)) ed_int) (ed_var (i := 4))) (ed_one (ed_cmp (od_eq hr.units) (ed_ix (ed_ix (ed_var (i := 5)) (ed_neg ed_int)) ed_int) (ed_tup ad_nil)))))) pssd_nil)
    (pssd_cons (psd_set (i := 7) sc.nd (ed_callT cd_list T.z_list (ad_cons (ed_var (i := 5)) ad_nil)))
    (pssd_cons (psd_for PassesOwn.never rfl (id_rng1 T.z_range (ad_cons ed_int ad_nil)) (gd_name (i := 8) sc.nd) (pssd_cons (psd_set (i := 9) sc.nd (ed_call c_shows hr passD (ad_cons (ed_var (i := 5)) (ad_cons (ed_var (i := 4)) ad_nil)) (an_cons (an_cons an_nil))))
    (pssd_cons (psd_if (PW.pt (td_or (td_not (td_val (ed_isi T.z_isinstance T.z_bool (by decide) (ed_var (i := 9))))) (td_or (td_cmp (od_ne hr.units) (ed_var (i := 9)) (ed_var (i := 6))) (td_or1 (td_cmp (od_ne hr.units) (ed_var (i := 5)) (ed_var (i := 7))))))) (pssd_one (psd_ret ed_bl)) pssd_nil)
    (pssd_one (psd_if (PW.pt (td_or (td_cmp od_isNot (ed_call c_shows hr passD (ad_cons (ed_var (i := 3)) (ad_cons (ed_ix (ed_ix (ed_var (i := 3)) (ed_neg ed_int)) ed_int) ad_nil)) (an_cons (an_cons an_nil))) ed_bl) (td_or1 (td_cmp od_isNot (ed_call c_shows hr passD (ad_cons (ed_lst ad_nil) (ad_cons (ed_var (i := 4)) ad_nil)) (an_cons (an_cons an_nil))) ed_bl)))) (pssd_one (psd_ret ed_bl)) pssd_nil)))))
    (pssd_one (psd_ret ed_bl)))))))))))))
theorem all_ok (T : Txt K mg) : Cal P w K mg base "law" 6 ["_law_script"] sem_law := by
  have c_count_of : Cal P w K mg base "count_of" 1 ["rule"] sem_count_of := w_count_of (k := 0) T 
  have c_is_from : Cal P w K mg base "is_from" 1 ["row", "given", "statement", "supposed"] sem_is_from := w_is_from (k := 0) T 
  have c_is_pair : Cal P w K mg base "is_pair" 1 ["statement", "word"] sem_is_pair := w_is_pair (k := 0) T 
  have c_by_parts : Cal P w K mg base "by_parts" 2 ["row", "ups"] sem_by_parts := w_by_parts (k := 1) T (c_is_from.mono (by decide)) (c_is_pair.mono (by decide))
  have c_by_cases : Cal P w K mg base "by_cases" 2 ["row", "ups"] sem_by_cases := w_by_cases (k := 1) T (c_is_from.mono (by decide)) (c_is_pair.mono (by decide))
  have c_by_then : Cal P w K mg base "by_then" 2 ["row", "ups"] sem_by_then := w_by_then (k := 1) T (c_is_from.mono (by decide)) (c_is_pair.mono (by decide))
  have c_follows : Cal P w K mg base "follows" 3 ["rows", "number"] sem_follows := w_follows (k := 2) T (c_by_cases.mono (by decide)) (c_by_parts.mono (by decide)) (c_by_then.mono (by decide)) (c_count_of.mono (by decide)) (c_is_from.mono (by decide))
  have c_faults : Cal P w K mg base "faults" 4 ["rows"] sem_faults := w_faults (k := 3) T (c_follows.mono (by decide))
  have c_shows : Cal P w K mg base "shows" 5 ["rows", "statement"] sem_shows := w_shows (k := 4) T (c_faults.mono (by decide))
  have c_law_cell_at : Cal P w K mg base "_law_cell_at" 1 ["_law_script", "_law_k"] sem_law_cell_at := w_law_cell_at (k := 0) T 
  have c_law_name_by : Cal P w K mg base "_law_name_by" 1 ["_law_seed", "_law_k"] sem_law_name_by := w_law_name_by (k := 0) T 
  have c_law_from : Cal P w K mg base "_law_from" 1 ["_law_row", "_law_given", "_law_statement", "_law_supposed"] sem_law_from := w_law_from (k := 0) T 
  have c_law_ups_right : Cal P w K mg base "_law_ups_right" 2 ["_law_row", "_law_ups"] sem_law_ups_right := w_law_ups_right (k := 1) T (c_law_from.mono (by decide))
  have c_law_follows : Cal P w K mg base "_law_follows" 3 ["_law_rows", "_law_number"] sem_law_follows := w_law_follows (k := 2) T (c_law_ups_right.mono (by decide))
  have c_law_showing_by : Cal P w K mg base "_law_showing_by" 2 ["_law_seed", "_law_cell"] sem_law_showing_by := w_law_showing_by (k := 1) T (c_law_name_by.mono (by decide))
  have c_law_moved : Cal P w K mg base "_law_moved" 2 ["_law_rows", "_law_many", "_law_seed"] sem_law_moved := w_law_moved (k := 1) T (c_law_name_by.mono (by decide))
  have c_law_changed : Cal P w K mg base "_law_changed" 2 ["_law_rows", "_law_cell", "_law_seed"] sem_law_changed := w_law_changed (k := 1) T (c_law_name_by.mono (by decide))
  have c_law : Cal P w K mg base "law" 6 ["_law_script"] sem_law := w_law (k := 5) T (c_law_cell_at.mono (by decide)) (c_law_changed.mono (by decide)) (c_law_follows.mono (by decide)) (c_law_moved.mono (by decide)) (c_law_showing_by.mono (by decide)) (c_shows.mono (by decide))
  exact c_law
end
end My

set_option Elab.async false
set_option linter.all false
set_option maxRecDepth 100000
set_option maxHeartbeats 4000000
namespace My
open PySem L2 DL PyProof.Rows
theorem txt_mk {K : PySem.W.Frag} {h : Heap} {mg : Str → Option Value} (X : K.In h) (G : h.Ns mainGlobals mg)
    {f1 : Addr} {od1 an1 : Option Addr} {sl1 : Array (Option Value)} {oc1 kV1 dc1 pm1 cd1 ct1 : Value}
    {f2 : Addr} {od2 an2 : Option Addr} {sl2 : Array (Option Value)} {oc2 kV2 dc2 pm2 cd2 ct2 : Value}
    {f3 : Addr} {od3 an3 : Option Addr} {sl3 : Array (Option Value)} {oc3 kV3 dc3 pm3 cd3 ct3 : Value}
    {f4 : Addr} {od4 an4 : Option Addr} {sl4 : Array (Option Value)} {oc4 kV4 dc4 pm4 cd4 ct4 : Value}
    {f5 : Addr} {od5 an5 : Option Addr} {sl5 : Array (Option Value)} {oc5 kV5 dc5 pm5 cd5 ct5 : Value}
    {f6 : Addr} {od6 an6 : Option Addr} {sl6 : Array (Option Value)} {oc6 kV6 dc6 pm6 cd6 ct6 : Value}
    {f7 : Addr} {od7 an7 : Option Addr} {sl7 : Array (Option Value)} {oc7 kV7 dc7 pm7 cd7 ct7 : Value}
    {f8 : Addr} {od8 an8 : Option Addr} {sl8 : Array (Option Value)} {oc8 kV8 dc8 pm8 cd8 ct8 : Value}
    {f9 : Addr} {od9 an9 : Option Addr} {sl9 : Array (Option Value)} {oc9 kV9 dc9 pm9 cd9 ct9 : Value}
    {f10 : Addr} {od10 an10 : Option Addr} {sl10 : Array (Option Value)} {oc10 kV10 dc10 pm10 cd10 ct10 : Value}
    {f11 : Addr} {od11 an11 : Option Addr} {sl11 : Array (Option Value)} {oc11 kV11 dc11 pm11 cd11 ct11 : Value}
    {f12 : Addr} {od12 an12 : Option Addr} {sl12 : Array (Option Value)} {oc12 kV12 dc12 pm12 cd12 ct12 : Value}
    {f13 : Addr} {od13 an13 : Option Addr} {sl13 : Array (Option Value)} {oc13 kV13 dc13 pm13 cd13 ct13 : Value}
    {f14 : Addr} {od14 an14 : Option Addr} {sl14 : Array (Option Value)} {oc14 kV14 dc14 pm14 cd14 ct14 : Value}
    {f15 : Addr} {od15 an15 : Option Addr} {sl15 : Array (Option Value)} {oc15 kV15 dc15 pm15 cd15 ct15 : Value}
    {f16 : Addr} {od16 an16 : Option Addr} {sl16 : Array (Option Value)} {oc16 kV16 dc16 pm16 cd16 ct16 : Value}
    {f17 : Addr} {od17 an17 : Option Addr} {sl17 : Array (Option Value)} {oc17 kV17 dc17 pm17 cd17 ct17 : Value}
    {f18 : Addr} {od18 an18 : Option Addr} {sl18 : Array (Option Value)} {oc18 kV18 dc18 pm18 cd18 ct18 : Value}
    {a_COUNTS1 : Addr} {o_COUNTS1 : Option Addr} {n_COUNTS1 : Nat} {s_COUNTS1 : Array (Option Value)} {u_COUNTS1_0 u_COUNTS1_1 : Tok}
    {a_COUNTS2 : Addr} {o_COUNTS2 : Option Addr} {n_COUNTS2 : Nat} {s_COUNTS2 : Array (Option Value)} {u_COUNTS2_0 u_COUNTS2_1 : Tok}
    {a_COUNTS3 : Addr} {o_COUNTS3 : Option Addr} {n_COUNTS3 : Nat} {s_COUNTS3 : Array (Option Value)} {u_COUNTS3_0 u_COUNTS3_1 : Tok}
    {a_COUNTS4 : Addr} {o_COUNTS4 : Option Addr} {n_COUNTS4 : Nat} {s_COUNTS4 : Array (Option Value)} {u_COUNTS4_0 u_COUNTS4_1 : Tok}
    {a_COUNTS5 : Addr} {o_COUNTS5 : Option Addr} {n_COUNTS5 : Nat} {s_COUNTS5 : Array (Option Value)} {u_COUNTS5_0 u_COUNTS5_1 : Tok}
    {a_COUNTS6 : Addr} {o_COUNTS6 : Option Addr} {n_COUNTS6 : Nat} {s_COUNTS6 : Array (Option Value)} {u_COUNTS6_0 u_COUNTS6_1 : Tok}
    {a_COUNTS0 : Addr} {o_COUNTS0 : Option Addr} {n_COUNTS0 : Nat} {s_COUNTS0 : Array (Option Value)}
    {a_MORE_COUNTS1 : Addr} {o_MORE_COUNTS1 : Option Addr} {n_MORE_COUNTS1 : Nat} {s_MORE_COUNTS1 : Array (Option Value)} {u_MORE_COUNTS1_0 u_MORE_COUNTS1_1 : Tok}
    {a_MORE_COUNTS2 : Addr} {o_MORE_COUNTS2 : Option Addr} {n_MORE_COUNTS2 : Nat} {s_MORE_COUNTS2 : Array (Option Value)} {u_MORE_COUNTS2_0 u_MORE_COUNTS2_1 : Tok}
    {a_MORE_COUNTS3 : Addr} {o_MORE_COUNTS3 : Option Addr} {n_MORE_COUNTS3 : Nat} {s_MORE_COUNTS3 : Array (Option Value)} {u_MORE_COUNTS3_0 u_MORE_COUNTS3_1 : Tok}
    {a_MORE_COUNTS4 : Addr} {o_MORE_COUNTS4 : Option Addr} {n_MORE_COUNTS4 : Nat} {s_MORE_COUNTS4 : Array (Option Value)} {u_MORE_COUNTS4_0 u_MORE_COUNTS4_1 : Tok}
    {a_MORE_COUNTS0 : Addr} {o_MORE_COUNTS0 : Option Addr} {n_MORE_COUNTS0 : Nat} {s_MORE_COUNTS0 : Array (Option Value)}
    (a1 : PySem.W.nsIn K mainGlobals "count_of" = some (some (.ref f1)))
    (l1 : K.lookup f1 = some ⟨oc1, od1, .func (PySem.W.fnOf "count_of" "count_of" (defArgs s_count_of) (defBody s_count_of) (defScope s_count_of) .none kV1 dc1 pm1 an1 cd1 ct1), sl1⟩)
    (c1 : PySem.W.codeIn K cd1 "count_of" = true) (k1 : PySem.W.keepIn K (.ref f1) = true)
    (a2 : PySem.W.nsIn K mainGlobals "is_from" = some (some (.ref f2)))
    (l2 : K.lookup f2 = some ⟨oc2, od2, .func (PySem.W.fnOf "is_from" "is_from" (defArgs s_is_from) (defBody s_is_from) (defScope s_is_from) .none kV2 dc2 pm2 an2 cd2 ct2), sl2⟩)
    (c2 : PySem.W.codeIn K cd2 "is_from" = true) (k2 : PySem.W.keepIn K (.ref f2) = true)
    (a3 : PySem.W.nsIn K mainGlobals "is_pair" = some (some (.ref f3)))
    (l3 : K.lookup f3 = some ⟨oc3, od3, .func (PySem.W.fnOf "is_pair" "is_pair" (defArgs s_is_pair) (defBody s_is_pair) (defScope s_is_pair) .none kV3 dc3 pm3 an3 cd3 ct3), sl3⟩)
    (c3 : PySem.W.codeIn K cd3 "is_pair" = true) (k3 : PySem.W.keepIn K (.ref f3) = true)
    (a4 : PySem.W.nsIn K mainGlobals "by_parts" = some (some (.ref f4)))
    (l4 : K.lookup f4 = some ⟨oc4, od4, .func (PySem.W.fnOf "by_parts" "by_parts" (defArgs s_by_parts) (defBody s_by_parts) (defScope s_by_parts) .none kV4 dc4 pm4 an4 cd4 ct4), sl4⟩)
    (c4 : PySem.W.codeIn K cd4 "by_parts" = true) (k4 : PySem.W.keepIn K (.ref f4) = true)
    (a5 : PySem.W.nsIn K mainGlobals "by_cases" = some (some (.ref f5)))
    (l5 : K.lookup f5 = some ⟨oc5, od5, .func (PySem.W.fnOf "by_cases" "by_cases" (defArgs s_by_cases) (defBody s_by_cases) (defScope s_by_cases) .none kV5 dc5 pm5 an5 cd5 ct5), sl5⟩)
    (c5 : PySem.W.codeIn K cd5 "by_cases" = true) (k5 : PySem.W.keepIn K (.ref f5) = true)
    (a6 : PySem.W.nsIn K mainGlobals "by_then" = some (some (.ref f6)))
    (l6 : K.lookup f6 = some ⟨oc6, od6, .func (PySem.W.fnOf "by_then" "by_then" (defArgs s_by_then) (defBody s_by_then) (defScope s_by_then) .none kV6 dc6 pm6 an6 cd6 ct6), sl6⟩)
    (c6 : PySem.W.codeIn K cd6 "by_then" = true) (k6 : PySem.W.keepIn K (.ref f6) = true)
    (a7 : PySem.W.nsIn K mainGlobals "follows" = some (some (.ref f7)))
    (l7 : K.lookup f7 = some ⟨oc7, od7, .func (PySem.W.fnOf "follows" "follows" (defArgs s_follows) (defBody s_follows) (defScope s_follows) .none kV7 dc7 pm7 an7 cd7 ct7), sl7⟩)
    (c7 : PySem.W.codeIn K cd7 "follows" = true) (k7 : PySem.W.keepIn K (.ref f7) = true)
    (a8 : PySem.W.nsIn K mainGlobals "faults" = some (some (.ref f8)))
    (l8 : K.lookup f8 = some ⟨oc8, od8, .func (PySem.W.fnOf "faults" "faults" (defArgs s_faults) (defBody s_faults) (defScope s_faults) .none kV8 dc8 pm8 an8 cd8 ct8), sl8⟩)
    (c8 : PySem.W.codeIn K cd8 "faults" = true) (k8 : PySem.W.keepIn K (.ref f8) = true)
    (a9 : PySem.W.nsIn K mainGlobals "shows" = some (some (.ref f9)))
    (l9 : K.lookup f9 = some ⟨oc9, od9, .func (PySem.W.fnOf "shows" "shows" (defArgs s_shows) (defBody s_shows) (defScope s_shows) .none kV9 dc9 pm9 an9 cd9 ct9), sl9⟩)
    (c9 : PySem.W.codeIn K cd9 "shows" = true) (k9 : PySem.W.keepIn K (.ref f9) = true)
    (a10 : PySem.W.nsIn K mainGlobals "_law_cell_at" = some (some (.ref f10)))
    (l10 : K.lookup f10 = some ⟨oc10, od10, .func (PySem.W.fnOf "_law_cell_at" "_law_cell_at" (defArgs s_law_cell_at) (defBody s_law_cell_at) (defScope s_law_cell_at) .none kV10 dc10 pm10 an10 cd10 ct10), sl10⟩)
    (c10 : PySem.W.codeIn K cd10 "_law_cell_at" = true) (k10 : PySem.W.keepIn K (.ref f10) = true)
    (a11 : PySem.W.nsIn K mainGlobals "_law_name_by" = some (some (.ref f11)))
    (l11 : K.lookup f11 = some ⟨oc11, od11, .func (PySem.W.fnOf "_law_name_by" "_law_name_by" (defArgs s_law_name_by) (defBody s_law_name_by) (defScope s_law_name_by) .none kV11 dc11 pm11 an11 cd11 ct11), sl11⟩)
    (c11 : PySem.W.codeIn K cd11 "_law_name_by" = true) (k11 : PySem.W.keepIn K (.ref f11) = true)
    (a12 : PySem.W.nsIn K mainGlobals "_law_from" = some (some (.ref f12)))
    (l12 : K.lookup f12 = some ⟨oc12, od12, .func (PySem.W.fnOf "_law_from" "_law_from" (defArgs s_law_from) (defBody s_law_from) (defScope s_law_from) .none kV12 dc12 pm12 an12 cd12 ct12), sl12⟩)
    (c12 : PySem.W.codeIn K cd12 "_law_from" = true) (k12 : PySem.W.keepIn K (.ref f12) = true)
    (a13 : PySem.W.nsIn K mainGlobals "_law_ups_right" = some (some (.ref f13)))
    (l13 : K.lookup f13 = some ⟨oc13, od13, .func (PySem.W.fnOf "_law_ups_right" "_law_ups_right" (defArgs s_law_ups_right) (defBody s_law_ups_right) (defScope s_law_ups_right) .none kV13 dc13 pm13 an13 cd13 ct13), sl13⟩)
    (c13 : PySem.W.codeIn K cd13 "_law_ups_right" = true) (k13 : PySem.W.keepIn K (.ref f13) = true)
    (a14 : PySem.W.nsIn K mainGlobals "_law_follows" = some (some (.ref f14)))
    (l14 : K.lookup f14 = some ⟨oc14, od14, .func (PySem.W.fnOf "_law_follows" "_law_follows" (defArgs s_law_follows) (defBody s_law_follows) (defScope s_law_follows) .none kV14 dc14 pm14 an14 cd14 ct14), sl14⟩)
    (c14 : PySem.W.codeIn K cd14 "_law_follows" = true) (k14 : PySem.W.keepIn K (.ref f14) = true)
    (a15 : PySem.W.nsIn K mainGlobals "_law_showing_by" = some (some (.ref f15)))
    (l15 : K.lookup f15 = some ⟨oc15, od15, .func (PySem.W.fnOf "_law_showing_by" "_law_showing_by" (defArgs s_law_showing_by) (defBody s_law_showing_by) (defScope s_law_showing_by) .none kV15 dc15 pm15 an15 cd15 ct15), sl15⟩)
    (c15 : PySem.W.codeIn K cd15 "_law_showing_by" = true) (k15 : PySem.W.keepIn K (.ref f15) = true)
    (a16 : PySem.W.nsIn K mainGlobals "_law_moved" = some (some (.ref f16)))
    (l16 : K.lookup f16 = some ⟨oc16, od16, .func (PySem.W.fnOf "_law_moved" "_law_moved" (defArgs s_law_moved) (defBody s_law_moved) (defScope s_law_moved) .none kV16 dc16 pm16 an16 cd16 ct16), sl16⟩)
    (c16 : PySem.W.codeIn K cd16 "_law_moved" = true) (k16 : PySem.W.keepIn K (.ref f16) = true)
    (a17 : PySem.W.nsIn K mainGlobals "_law_changed" = some (some (.ref f17)))
    (l17 : K.lookup f17 = some ⟨oc17, od17, .func (PySem.W.fnOf "_law_changed" "_law_changed" (defArgs s_law_changed) (defBody s_law_changed) (defScope s_law_changed) .none kV17 dc17 pm17 an17 cd17 ct17), sl17⟩)
    (c17 : PySem.W.codeIn K cd17 "_law_changed" = true) (k17 : PySem.W.keepIn K (.ref f17) = true)
    (a18 : PySem.W.nsIn K mainGlobals "law" = some (some (.ref f18)))
    (l18 : K.lookup f18 = some ⟨oc18, od18, .func (PySem.W.fnOf "law" "law" (defArgs s_law) (defBody s_law) (defScope s_law) .none kV18 dc18 pm18 an18 cd18 ct18), sl18⟩)
    (c18 : PySem.W.codeIn K cd18 "law" = true) (k18 : PySem.W.keepIn K (.ref f18) = true)
    (z_all : PySem.W.nsIn K mainGlobals "all" = some none)
    (z_bool : PySem.W.nsIn K mainGlobals "bool" = some none)
    (z_int : PySem.W.nsIn K mainGlobals "int" = some none)
    (z_isinstance : PySem.W.nsIn K mainGlobals "isinstance" = some none)
    (z_len : PySem.W.nsIn K mainGlobals "len" = some none)
    (z_list : PySem.W.nsIn K mainGlobals "list" = some none)
    (z_range : PySem.W.nsIn K mainGlobals "range" = some none)
    (z_reversed : PySem.W.nsIn K mainGlobals "reversed" = some none)
    (z_tuple : PySem.W.nsIn K mainGlobals "tuple" = some none)
    (g_COUNTS : PySem.W.nsIn K mainGlobals "COUNTS" = some (some (.ref a_COUNTS0)))
    (g_COUNTS0 : K.lookup a_COUNTS0 = some ⟨.type "tuple", o_COUNTS0, .seq #[.ref a_COUNTS1, .ref a_COUNTS2, .ref a_COUNTS3, .ref a_COUNTS4, .ref a_COUNTS5, .ref a_COUNTS6] n_COUNTS0, s_COUNTS0⟩)
    (g_COUNTS1 : K.lookup a_COUNTS1 = some ⟨.type "tuple", o_COUNTS1, .seq #[.str "given" u_COUNTS1_0, .int 0 u_COUNTS1_1] n_COUNTS1, s_COUNTS1⟩)
    (g_COUNTS2 : K.lookup a_COUNTS2 = some ⟨.type "tuple", o_COUNTS2, .seq #[.str "both" u_COUNTS2_0, .int 2 u_COUNTS2_1] n_COUNTS2, s_COUNTS2⟩)
    (g_COUNTS3 : K.lookup a_COUNTS3 = some ⟨.type "tuple", o_COUNTS3, .seq #[.str "left" u_COUNTS3_0, .int 1 u_COUNTS3_1] n_COUNTS3, s_COUNTS3⟩)
    (g_COUNTS4 : K.lookup a_COUNTS4 = some ⟨.type "tuple", o_COUNTS4, .seq #[.str "right" u_COUNTS4_0, .int 1 u_COUNTS4_1] n_COUNTS4, s_COUNTS4⟩)
    (g_COUNTS5 : K.lookup a_COUNTS5 = some ⟨.type "tuple", o_COUNTS5, .seq #[.str "one" u_COUNTS5_0, .int 1 u_COUNTS5_1] n_COUNTS5, s_COUNTS5⟩)
    (g_COUNTS6 : K.lookup a_COUNTS6 = some ⟨.type "tuple", o_COUNTS6, .seq #[.str "other" u_COUNTS6_0, .int 1 u_COUNTS6_1] n_COUNTS6, s_COUNTS6⟩)
    (g_MORE_COUNTS : PySem.W.nsIn K mainGlobals "MORE_COUNTS" = some (some (.ref a_MORE_COUNTS0)))
    (g_MORE_COUNTS0 : K.lookup a_MORE_COUNTS0 = some ⟨.type "tuple", o_MORE_COUNTS0, .seq #[.ref a_MORE_COUNTS1, .ref a_MORE_COUNTS2, .ref a_MORE_COUNTS3, .ref a_MORE_COUNTS4] n_MORE_COUNTS0, s_MORE_COUNTS0⟩)
    (g_MORE_COUNTS1 : K.lookup a_MORE_COUNTS1 = some ⟨.type "tuple", o_MORE_COUNTS1, .seq #[.str "cases" u_MORE_COUNTS1_0, .int 3 u_MORE_COUNTS1_1] n_MORE_COUNTS1, s_MORE_COUNTS1⟩)
    (g_MORE_COUNTS2 : K.lookup a_MORE_COUNTS2 = some ⟨.type "tuple", o_MORE_COUNTS2, .seq #[.str "suppose" u_MORE_COUNTS2_0, .int 1 u_MORE_COUNTS2_1] n_MORE_COUNTS2, s_MORE_COUNTS2⟩)
    (g_MORE_COUNTS3 : K.lookup a_MORE_COUNTS3 = some ⟨.type "tuple", o_MORE_COUNTS3, .seq #[.str "onward" u_MORE_COUNTS3_0, .int 2 u_MORE_COUNTS3_1] n_MORE_COUNTS3, s_MORE_COUNTS3⟩)
    (g_MORE_COUNTS4 : K.lookup a_MORE_COUNTS4 = some ⟨.type "tuple", o_MORE_COUNTS4, .seq #[.str "any" u_MORE_COUNTS4_0, .int 1 u_MORE_COUNTS4_1] n_MORE_COUNTS4, s_MORE_COUNTS4⟩) : Txt K mg where
    d_count_of := defAt_mk X G a1 l1 c1 k1 fun _ _ _ _ _ _ us hl => match us, hl with | [_], _ => rfl
    d_is_from := defAt_mk X G a2 l2 c2 k2 fun _ _ _ _ _ _ us hl => match us, hl with | [_, _, _, _], _ => rfl
    d_is_pair := defAt_mk X G a3 l3 c3 k3 fun _ _ _ _ _ _ us hl => match us, hl with | [_, _], _ => rfl
    d_by_parts := defAt_mk X G a4 l4 c4 k4 fun _ _ _ _ _ _ us hl => match us, hl with | [_, _], _ => rfl
    d_by_cases := defAt_mk X G a5 l5 c5 k5 fun _ _ _ _ _ _ us hl => match us, hl with | [_, _], _ => rfl
    d_by_then := defAt_mk X G a6 l6 c6 k6 fun _ _ _ _ _ _ us hl => match us, hl with | [_, _], _ => rfl
    d_follows := defAt_mk X G a7 l7 c7 k7 fun _ _ _ _ _ _ us hl => match us, hl with | [_, _], _ => rfl
    d_faults := defAt_mk X G a8 l8 c8 k8 fun _ _ _ _ _ _ us hl => match us, hl with | [_], _ => rfl
    d_shows := defAt_mk X G a9 l9 c9 k9 fun _ _ _ _ _ _ us hl => match us, hl with | [_, _], _ => rfl
    d_law_cell_at := defAt_mk X G a10 l10 c10 k10 fun _ _ _ _ _ _ us hl => match us, hl with | [_, _], _ => rfl
    d_law_name_by := defAt_mk X G a11 l11 c11 k11 fun _ _ _ _ _ _ us hl => match us, hl with | [_, _], _ => rfl
    d_law_from := defAt_mk X G a12 l12 c12 k12 fun _ _ _ _ _ _ us hl => match us, hl with | [_, _, _, _], _ => rfl
    d_law_ups_right := defAt_mk X G a13 l13 c13 k13 fun _ _ _ _ _ _ us hl => match us, hl with | [_, _], _ => rfl
    d_law_follows := defAt_mk X G a14 l14 c14 k14 fun _ _ _ _ _ _ us hl => match us, hl with | [_, _], _ => rfl
    d_law_showing_by := defAt_mk X G a15 l15 c15 k15 fun _ _ _ _ _ _ us hl => match us, hl with | [_, _], _ => rfl
    d_law_moved := defAt_mk X G a16 l16 c16 k16 fun _ _ _ _ _ _ us hl => match us, hl with | [_, _, _], _ => rfl
    d_law_changed := defAt_mk X G a17 l17 c17 k17 fun _ _ _ _ _ _ us hl => match us, hl with | [_, _, _], _ => rfl
    d_law := defAt_mk X G a18 l18 c18 k18 fun _ _ _ _ _ _ us hl => match us, hl with | [_], _ => rfl
    z_all := PySem.W.mg_none_of X G z_all
    z_bool := PySem.W.mg_none_of X G z_bool
    z_int := PySem.W.mg_none_of X G z_int
    z_isinstance := PySem.W.mg_none_of X G z_isinstance
    z_len := PySem.W.mg_none_of X G z_len
    z_list := PySem.W.mg_none_of X G z_list
    z_range := PySem.W.mg_none_of X G z_range
    z_reversed := PySem.W.mg_none_of X G z_reversed
    z_tuple := PySem.W.mg_none_of X G z_tuple
    gl_COUNTS := gl_ref X G g_COUNTS (kd_tup g_COUNTS0 (kds_cons (kd_tup g_COUNTS1 (kds_cons kd_str (kds_cons kd_int kds_nil))) (kds_cons (kd_tup g_COUNTS2 (kds_cons kd_str (kds_cons kd_int kds_nil))) (kds_cons (kd_tup g_COUNTS3 (kds_cons kd_str (kds_cons kd_int kds_nil))) (kds_cons (kd_tup g_COUNTS4 (kds_cons kd_str (kds_cons kd_int kds_nil))) (kds_cons (kd_tup g_COUNTS5 (kds_cons kd_str (kds_cons kd_int kds_nil))) (kds_cons (kd_tup g_COUNTS6 (kds_cons kd_str (kds_cons kd_int kds_nil))) kds_nil)))))))
    gl_MORE_COUNTS := gl_ref X G g_MORE_COUNTS (kd_tup g_MORE_COUNTS0 (kds_cons (kd_tup g_MORE_COUNTS1 (kds_cons kd_str (kds_cons kd_int kds_nil))) (kds_cons (kd_tup g_MORE_COUNTS2 (kds_cons kd_str (kds_cons kd_int kds_nil))) (kds_cons (kd_tup g_MORE_COUNTS3 (kds_cons kd_str (kds_cons kd_int kds_nil))) (kds_cons (kd_tup g_MORE_COUNTS4 (kds_cons kd_str (kds_cons kd_int kds_nil))) kds_nil)))))
/-- the end: from the plain law -/
theorem walk {l : PySem.W.OpenLaw} {q : Program} {loose : List Str} {XP : (Str → Option Value) → Heap → Prop} {YP : World → Heap → Prop} {d : DefRec} {K : Params → PySem.W.Frag} (hn : l.most = some 63) (hd : d.params.defaults = []) (hd2 : d.name = "law")
    (plain : ∀ ns : List Int, ns.length ≤ 63 → sem_law [.list (ns.map PyData.int)] = .ok (.bool true)) (hY : ∀ (w : World) (h : Heap), YP w h → (K w.params).In h)
    (F : ∀ (w : World) (mg : Str → Option Value) (h : Heap), (K w.params).In h → h.Ns mainGlobals mg → Txt (K w.params) mg) : PySem.W.WalkO q loose XP YP l.row.toRowW d [] (fun f vs => PySem.call f vs) :=
  walk_data (k := 6) (by decide +kernel) (by decide +kernel) (g := sem_law) (st := s_law) hn hd hd2 hY (fun w mg h X G => (F w mg h X G).d_law) (fun w mg h X G base => all_ok (F w mg h X G)) (fun fd ⟨_, _, _, _, _, _, e⟩ s u => by subst e; exact .of_eq rfl) plain
end My
open PySem PySem.W PyProof.Rows
set_option maxRecDepth 100000 in
set_option maxHeartbeats 0 in
theorem PySem.Challenge.cw_showtree_k09_showings_holds : PySem.Challenge.rw_showtree_k09_showings.Holds := by
  w_on; o_law; k_head; (case hw => w_witness2)
  k_fill
  refine My.walk (l := PySem.Challenge.rw_showtree_k09_showings) rfl rfl rfl My.plain (fun w h Y => PySem.W.kIn_of Y) ?F
  case F =>
    intro w mg h KX G
    refine' My.txt_mk KX G ?a1 ?l1 ?c1 ?k1 ?a2 ?l2 ?c2 ?k2 ?a3 ?l3 ?c3 ?k3 ?a4 ?l4 ?c4 ?k4 ?a5 ?l5 ?c5 ?k5 ?a6 ?l6 ?c6 ?k6 ?a7 ?l7 ?c7 ?k7 ?a8 ?l8 ?c8 ?k8 ?a9 ?l9 ?c9 ?k9 ?a10 ?l10 ?c10 ?k10 ?a11 ?l11 ?c11 ?k11 ?a12 ?l12 ?c12 ?k12 ?a13 ?l13 ?c13 ?k13 ?a14 ?l14 ?c14 ?k14 ?a15 ?l15 ?c15 ?k15 ?a16 ?l16 ?c16 ?k16 ?a17 ?l17 ?c17 ?k17 ?a18 ?l18 ?c18 ?k18 ?z_all ?z_bool ?z_int ?z_isinstance ?z_len ?z_list ?z_range ?z_reversed ?z_tuple ?g_COUNTS ?g_COUNTS0 ?g_COUNTS1 ?g_COUNTS2 ?g_COUNTS3 ?g_COUNTS4 ?g_COUNTS5 ?g_COUNTS6 ?g_MORE_COUNTS ?g_MORE_COUNTS0 ?g_MORE_COUNTS1 ?g_MORE_COUNTS2 ?g_MORE_COUNTS3 ?g_MORE_COUNTS4
    (case a1 => k_is)
    (case l1 => k_is)
    (case c1 => k_is)
    (case k1 => k_is)
    (case a2 => k_is)
    (case l2 => k_is)
    (case c2 => k_is)
    (case k2 => k_is)
    (case a3 => k_is)
    (case l3 => k_is)
    (case c3 => k_is)
    (case k3 => k_is)
    (case a4 => k_is)
    (case l4 => k_is)
    (case c4 => k_is)
    (case k4 => k_is)
    (case a5 => k_is)
    (case l5 => k_is)
    (case c5 => k_is)
    (case k5 => k_is)
    (case a6 => k_is)
    (case l6 => k_is)
    (case c6 => k_is)
    (case k6 => k_is)
    (case a7 => k_is)
    (case l7 => k_is)
    (case c7 => k_is)
    (case k7 => k_is)
    (case a8 => k_is)
    (case l8 => k_is)
    (case c8 => k_is)
    (case k8 => k_is)
    (case a9 => k_is)
    (case l9 => k_is)
    (case c9 => k_is)
    (case k9 => k_is)
    (case a10 => k_is)
    (case l10 => k_is)
    (case c10 => k_is)
    (case k10 => k_is)
    (case a11 => k_is)
    (case l11 => k_is)
    (case c11 => k_is)
    (case k11 => k_is)
    (case a12 => k_is)
    (case l12 => k_is)
    (case c12 => k_is)
    (case k12 => k_is)
    (case a13 => k_is)
    (case l13 => k_is)
    (case c13 => k_is)
    (case k13 => k_is)
    (case a14 => k_is)
    (case l14 => k_is)
    (case c14 => k_is)
    (case k14 => k_is)
    (case a15 => k_is)
    (case l15 => k_is)
    (case c15 => k_is)
    (case k15 => k_is)
    (case a16 => k_is)
    (case l16 => k_is)
    (case c16 => k_is)
    (case k16 => k_is)
    (case a17 => k_is)
    (case l17 => k_is)
    (case c17 => k_is)
    (case k17 => k_is)
    (case a18 => k_is)
    (case l18 => k_is)
    (case c18 => k_is)
    (case k18 => k_is)
    (case z_all => k_is)
    (case z_bool => k_is)
    (case z_int => k_is)
    (case z_isinstance => k_is)
    (case z_len => k_is)
    (case z_list => k_is)
    (case z_range => k_is)
    (case z_reversed => k_is)
    (case z_tuple => k_is)
    (case g_COUNTS => k_is)
    (case g_COUNTS0 => k_is)
    (case g_COUNTS1 => k_is)
    (case g_COUNTS2 => k_is)
    (case g_COUNTS3 => k_is)
    (case g_COUNTS4 => k_is)
    (case g_COUNTS5 => k_is)
    (case g_COUNTS6 => k_is)
    (case g_MORE_COUNTS => k_is)
    (case g_MORE_COUNTS0 => k_is)
    (case g_MORE_COUNTS1 => k_is)
    (case g_MORE_COUNTS2 => k_is)
    (case g_MORE_COUNTS3 => k_is)
    (case g_MORE_COUNTS4 => k_is)
