import PyProof.Rows.All
import Wide.All
import OpenK.AllK
import Wide.FinOn
import HandS.ForMost
import HandS.ForExc
import HandS.Deep
import HandS.IsInst
import HandS.TupAny
import HandS.TupMul
import HandS.TupLe
import HandS.Rev
import HandS.StrMore
import HandS.Replace
import HandS.Strs
import HandS.Iter
import HandS.RevTup
import HandS.WordsExc
import HandS.ExcIs
import KE.DataMinMax
import PySem.Challenge.RW_showtree_k08_rows_follow
import PyProof.Rows.StrCase
set_option Elab.async false
set_option linter.all false
set_option maxRecDepth 100000
set_option maxHeartbeats 2000000
/-! THE DATA LAYER: a reading as a plain function over PyData. A def's body is read as a function from the values of its slots (as data) to what it answers. -/
namespace DL
open PySem L2 PyProof.Rows

/-- an equation that simp is not to take for one by unfolding -/
theorem nrfl {α : Sort u} {a b : α} (h : a = b) : a = b := h
/-! ### results -/
inductive Res (α : Type) where
  | ok (a : α) | ex (n : Nat) | bad
namespace Res
variable {α β : Type}
def bind (r : Res α) (f : α → Res β) : Res β := match r with
  | .ok a => f a
  | .ex n => .ex n
  | .bad => .bad
def of (o : Option α) : Res α := match o with
  | some a => .ok a
  | none => .bad
def post (r : Res α) (p : α → Prop) (e : Nat → Prop) : Prop := match r with
  | .ok a => p a
  | .ex n => e n
  | .bad => False
@[simp] theorem ok_bind (a : α) (f : α → Res β) : (Res.ok a).bind f = f a := nrfl rfl
@[simp] theorem ex_bind (n : Nat) (f : α → Res β) : (Res.ex n : Res α).bind f = .ex n := nrfl rfl
@[simp] theorem bad_bind (f : α → Res β) : (Res.bad : Res α).bind f = .bad := nrfl rfl
@[simp] theorem of_some (a : α) : Res.of (some a) = .ok a := nrfl rfl
@[simp] theorem of_none : Res.of (none : Option α) = .bad := nrfl rfl
theorem post_bind {r : Res α} {f : α → Res β} {p : β → Prop} {e : Nat → Prop} : (r.bind f).post p e ↔ r.post (fun a => (f a).post p e) e := by cases r <;> exact Iff.rfl
theorem post.mono {r : Res α} {p q : α → Prop} {e g : Nat → Prop} (h : r.post p e) (h1 : ∀ a, p a → q a) (h2 : ∀ n, e n → g n) : r.post q g := by
  cases r with
  | ok a => exact h1 a h
  | ex n => exact h2 n h
  | bad => exact h.elim
theorem post_of {o : Option α} {p : α → Prop} {e : Nat → Prop} (h : (Res.of o).post p e) : ∃ a, o = some a ∧ p a := by
  cases o with
  | none => exact h.elim
  | some a => exact ⟨a, rfl, h⟩
end Res

abbrev PEnv := List (Option PyData)
abbrev SE := PEnv → Res PyData
abbrev SA := PEnv → Res (List PyData)
abbrev ST := PEnv → Res Bool
inductive Out where
  | nx (ρ : PEnv) | rt (d : PyData) | bk (ρ : PEnv) | ct (ρ : PEnv)
abbrev SS := PEnv → Res Out
abbrev Wis := Nat → Hp → Prop

/-! ### data over a heap -/
/-- a key, a scalar, as data -/
def keyD : Key → PyData
  | .inl i => .int i
  | .inr x => .str x
def scaD : V → Option PyData
  | .non => some .none
  | .bl b => some (.bool b)
  | .int i => some (.int i)
  | .str x => some (.str x)
  | _ => none
def kvD (kvs : List (Key × V)) : List (PyData × PyData) := kvs.map fun p => (keyD p.1, (scaD p.2).getD .none)
mutual
inductive Dp (K : PySem.W.Frag) (H : Hp) : V → PyData → Prop
  | non : Dp K H .non .none
  | bl (b : Bool) : Dp K H (.bl b) (.bool b)
  | int (i : Int) : Dp K H (.int i) (.int i)
  | str (x : Str) : Dp K H (.str x) (.str x)
  | lst {a : Addr} {xs : List V} {ds : List PyData} : SqL K H a xs → DpAll K H xs ds → Dp K H (.ref a) (.list ds)
  | tup {a : Addr} {xs : List V} {ds : List PyData} : SqT K H a xs → DpAll K H xs ds → Dp K H (.ref a) (.tuple ds)
  | dct {a : Addr} {kvs : List (Key × V)} : H a = some (.dK kvs) → (∀ p ∈ kvs, (scaD p.2).isSome = true) → Dp K H (.ref a) (.dict (kvD kvs))
inductive DpAll (K : PySem.W.Frag) (H : Hp) : List V → List PyData → Prop
  | nil : DpAll K H [] []
  | cons {v : V} {vs : List V} {d : PyData} {ds : List PyData} : Dp K H v d → DpAll K H vs ds → DpAll K H (v :: vs) (d :: ds)
end
theorem dp_sca {K : PySem.W.Frag} {H : Hp} {v : V} {d : PyData} (h : scaD v = some d) : Dp K H v d := by
  cases v <;> simp only [scaD, reduceCtorEq, Option.some.injEq] at h <;> subst h
  · exact .non
  · exact .bl _
  · exact .int _
  · exact .str _
section
variable {K : PySem.W.Frag} {H H' : Hp}
theorem sqT_same {a : Addr} {xs : List V} (e : Same H H') (h : SqT K H a xs) : SqT K H' a xs := by
  rcases h with (h | ⟨o, h⟩) | h
  · exact .inl (.inl (e _ _ h))
  · exact .inl (.inr ⟨o, e _ _ h⟩)
  · exact .inr h
mutual
theorem dp_mono (e : Same H H') : ∀ (d : PyData) (v : V), Dp K H v d → Dp K H' v d
  | .none, _, h => by cases h; exact .non
  | .bool b, _, h => by cases h; exact .bl b
  | .int i, _, h => by cases h; exact .int i
  | .str x, _, h => by cases h; exact .str x
  | .list ds, _, h => by
    cases h with
    | lst h1 h2 => exact .lst (e.seq h1) (dps_mono e ds _ h2)
  | .tuple ds, _, h => by
    cases h with
    | tup h1 h2 => exact .tup (sqT_same e h1) (dps_mono e ds _ h2)
  | .dict kvs, _, h => by
    cases h with
    | dct h1 h2 => exact .dct (e _ _ h1) h2
theorem dps_mono (e : Same H H') : ∀ (ds : List PyData) (vs : List V), DpAll K H vs ds → DpAll K H' vs ds
  | [], _, h => by cases h; exact .nil
  | d :: ds, _, h => by
    cases h with
    | cons h1 h2 => exact .cons (dp_mono e d _ h1) (dps_mono e ds _ h2)
end
/-! data without a list -/
mutual
def frz : PyData → Bool
  | .none => true
  | .bool _ => true
  | .int _ => true
  | .str _ => true
  | .list _ => false
  | .tuple ds => frzs ds
  | .dict _ => false
def frzs : List PyData → Bool
  | [] => true
  | d :: ds => frz d && frzs ds
end
mutual
theorem frz_mono (e : ∀ a xs, SqT K H a xs → SqT K H' a xs) : ∀ (d : PyData) (v : V), frz d = true → Dp K H v d → Dp K H' v d
  | .none, _, _, h => by cases h; exact .non
  | .bool b, _, _, h => by cases h; exact .bl b
  | .int i, _, _, h => by cases h; exact .int i
  | .str x, _, _, h => by cases h; exact .str x
  | .list ds, _, z, h => by simp [frz] at z
  | .tuple ds, _, z, h => by
    cases h with
    | tup h1 h2 => exact .tup (e _ _ h1) (frzs_mono e ds _ (by simpa [frz] using z) h2)
  | .dict kvs, _, z, h => by simp [frz] at z
theorem frzs_mono (e : ∀ a xs, SqT K H a xs → SqT K H' a xs) : ∀ (ds : List PyData) (vs : List V), frzs ds = true → DpAll K H vs ds → DpAll K H' vs ds
  | [], _, _, h => by cases h; exact .nil
  | d :: ds, _, z, h => by
    simp only [frzs, Bool.and_eq_true] at z
    cases h with
    | cons h1 h2 => exact .cons (frz_mono e d _ z.1 h1) (frzs_mono e ds _ z.2 h2)
end
mutual
theorem dp_l2 : ∀ (d : PyData) (v : V), d.canLay0 = true → Dp K H v d → L2.Dp K H v d
  | .none, _, _, h => by cases h; exact .non
  | .bool b, _, _, h => by cases h; exact .bl b
  | .int i, _, _, h => by cases h; exact .int i
  | .str x, _, _, h => by cases h; exact .str x
  | .list ds, _, z, h => by
    cases h with
    | lst h1 h2 => exact .lst h1 (dps_l2 ds _ (by simpa [PyData.canLay0] using z) h2)
  | .tuple ds, _, z, h => by
    cases h with
    | tup h1 h2 => exact .tup h1 (dps_l2 ds _ (by simpa [PyData.canLay0] using z) h2)
  | .dict kvs, _, z, h => by simp [PyData.canLay0] at z
theorem dps_l2 : ∀ (ds : List PyData) (vs : List V), PyData.canLayAll0 ds = true → DpAll K H vs ds → L2.DpAll K H vs ds
  | [], _, _, h => by cases h; exact .nil
  | d :: ds, _, z, h => by
    simp only [PyData.canLayAll0, Bool.and_eq_true] at z
    cases h with
    | cons h1 h2 => exact .cons (dp_l2 d _ z.1 h1) (dps_l2 ds _ z.2 h2)
end
theorem dp_sh {d : PyData} {v : V} (z : SeqAt.shaped d = true) (h : Dp K H v d) : L2.Dp K H v d := dp_l2 d v (SeqAt.canLay_of_shaped z) h
/-- a list that H tracks is changed: the tuples stand -/
theorem sqT_lst {l : Addr} {ys zs : List V} (h : H l = some (.lst ys)) : ∀ a xs, SqT K H a xs → SqT K (upd H l (.lst zs)) a xs := fun a xs q => by
  rcases q with (q | ⟨o, q⟩) | q
  · exact .inl (.inl (by rw [upd_ne (ne_of q h (by intro z; cases z))]; exact q))
  · exact .inl (.inr ⟨o, by rw [upd_ne (ne_of q h (by intro z; cases z))]; exact q⟩)
  · exact .inr q
theorem dps_len : ∀ {vs : List V} {ds : List PyData}, DpAll K H vs ds → vs.length = ds.length
  | _, _, .nil => rfl
  | _, _, .cons _ h => congrArg (· + 1) (dps_len h)
theorem dps_get : ∀ {vs : List V} {ds : List PyData} {i : Nat} {d : PyData}, DpAll K H vs ds → ds[i]? = some d → ∃ v, vs[i]? = some v ∧ Dp K H v d
  | _, _, _, _, .nil, e => by simp at e
  | _, _, 0, _, .cons h _, e => by simp at e; subst e; exact ⟨_, rfl, h⟩
  | _, _, i + 1, d, .cons _ h, e => by
    obtain ⟨v, h1, h2⟩ := dps_get (i := i) (d := d) h (by simpa using e)
    exact ⟨v, by simpa using h1, h2⟩
theorem dps_getv : ∀ {vs : List V} {ds : List PyData} {i : Nat} {v : V}, DpAll K H vs ds → vs[i]? = some v → ∃ d, ds[i]? = some d ∧ Dp K H v d
  | _, _, _, _, .nil, e => by simp at e
  | _, _, 0, _, .cons h _, e => by simp at e; subst e; exact ⟨_, rfl, h⟩
  | _, _, i + 1, d, .cons _ h, e => by
    obtain ⟨v, h1, h2⟩ := dps_getv (i := i) (v := d) h (by simpa using e)
    exact ⟨v, by simpa using h1, h2⟩
theorem dps_append : ∀ {vs us : List V} {ds es : List PyData}, DpAll K H vs ds → DpAll K H us es → DpAll K H (vs ++ us) (ds ++ es)
  | _, _, _, _, .nil, h => h
  | _, _, _, _, .cons h t, s => .cons h (dps_append t s)
theorem dps_take : ∀ {vs : List V} {ds : List PyData} (n : Nat), DpAll K H vs ds → DpAll K H (vs.take n) (ds.take n)
  | _, _, 0, _ => .nil
  | _, _, _ + 1, .nil => .nil
  | _, _, n + 1, .cons h t => .cons h (dps_take n t)
theorem dps_drop : ∀ {vs : List V} {ds : List PyData} (n : Nat), DpAll K H vs ds → DpAll K H (vs.drop n) (ds.drop n)
  | _, _, 0, h => h
  | _, _, _ + 1, .nil => .nil
  | _, _, n + 1, .cons _ t => dps_drop n t
theorem dps_set : ∀ {vs : List V} {ds : List PyData} {v : V} {d : PyData} (i : Nat), Dp K H v d → DpAll K H vs ds → DpAll K H (vs.set i v) (ds.set i d)
  | _, _, _, _, _, _, .nil => .nil
  | _, _, _, _, 0, h, .cons _ t => .cons h t
  | _, _, _, _, i + 1, h, .cons q t => .cons q (dps_set i h t)
theorem dps_ints : ∀ (ns : List Int), DpAll K H (ns.map V.int) (ns.map PyData.int)
  | [] => .nil
  | n :: ns => .cons (.int n) (dps_ints ns)
theorem dps_strs_of : ∀ {vs : List V} {xs : List Str}, DpAll K H vs (xs.map PyData.str) → vs = xs.map V.str
  | [], [], _ => rfl
  | _ :: _, [], h => by cases h
  | [], _ :: _, h => by cases h
  | v :: vs, x :: xs, h => by
    cases h with
    | cons h1 h2 =>
      cases h1
      rw [dps_strs_of h2]
      rfl
theorem dps_strs : ∀ (xs : List Str), DpAll K H (xs.map V.str) (xs.map PyData.str)
  | [] => .nil
  | n :: ns => .cons (.str n) (dps_strs ns)
theorem dps_bls_of : ∀ {vs : List V} {xs : List Bool}, DpAll K H vs (xs.map PyData.bool) → vs = xs.map V.bl
  | [], [], _ => rfl
  | _ :: _, [], h => by cases h
  | [], _ :: _, h => by cases h
  | v :: vs, x :: xs, h => by
    cases h with
    | cons h1 h2 =>
      cases h1
      rw [dps_bls_of h2]
      rfl
end
theorem same_new {H : Hp} {p : Addr} (h : H p = none) (o : HO) : Same H (upd H p o) := fun b u q => by rw [upd_ne (ne_of_none q h)]; exact q

/-! ### the values of the slots -/
def EnvR (K : PySem.W.Frag) (H : Hp) (σ : L2.St) (ρ : PEnv) : Prop := ρ.length = σ.length ∧ ∀ (i : Nat) (d : PyData), ρ[i]? = some (some d) → ∃ v, σ[i]? = some (some v) ∧ Dp K H v d
section
variable {K : PySem.W.Frag} {H H' : Hp} {σ : L2.St} {ρ : PEnv}
theorem EnvR.mono (e : Same H H') (h : EnvR K H σ ρ) : EnvR K H' σ ρ := ⟨h.1, fun i d q => by
  obtain ⟨v, a, b⟩ := h.2 i d q
  exact ⟨v, a, dp_mono e d v b⟩⟩
theorem EnvR.set {i : Nat} {v : V} {d : PyData} (h : EnvR K H σ ρ) (hv : Dp K H v d) : EnvR K H (σ.set i (some v)) (ρ.set i (some d)) := by
  refine ⟨by rw [List.length_set, List.length_set]; exact h.1, fun j e q => ?_⟩
  by_cases hj : i = j
  · subst hj
    have hl : i < ρ.length := by
      have z := (List.getElem?_eq_some_iff.mp q).1
      rw [List.length_set] at z
      exact z
    rw [List.getElem?_set_self hl] at q
    cases q
    exact ⟨v, List.getElem?_set_self (by rw [← h.1]; exact hl), hv⟩
  · rw [List.getElem?_set_ne hj] at q
    obtain ⟨u, a, b⟩ := h.2 j e q
    exact ⟨u, by rw [List.getElem?_set_ne hj]; exact a, b⟩
theorem EnvR.forget {i : Nat} (h : EnvR K H σ ρ) : EnvR K H (σ.set i none) (ρ.set i none) := by
  refine ⟨by rw [List.length_set, List.length_set]; exact h.1, fun j e q => ?_⟩
  by_cases hj : i = j
  · subst hj
    have hl : i < ρ.length := by
      have z := (List.getElem?_eq_some_iff.mp q).1
      rw [List.length_set] at z
      exact z
    rw [List.getElem?_set_self hl] at q
    cases q
  · rw [List.getElem?_set_ne hj] at q
    obtain ⟨u, a, b⟩ := h.2 j e q
    exact ⟨u, by rw [List.getElem?_set_ne hj]; exact a, b⟩
end
def startD (n : Nat) (ds : List PyData) : PEnv := ds.map some ++ List.replicate (n - ds.length) none
theorem envR_start {K : PySem.W.Frag} {H : Hp} {N : List Str} {vs : List V} {ds : List PyData} (h : DpAll K H vs ds) : EnvR K H (L2.start N vs) (startD N.length ds) := by
  have hl := dps_len h
  refine ⟨by simp [startD, L2.start, hl], fun i d q => ?_⟩
  unfold startD at q
  by_cases hi : i < ds.length
  · rw [List.getElem?_append_left (by simpa using hi), List.getElem?_map] at q
    cases e : ds[i]? with
    | none => rw [e] at q; cases q
    | some d' =>
      rw [e] at q
      cases q
      obtain ⟨v, a, b⟩ := dps_get h e
      refine ⟨v, ?_, b⟩
      unfold L2.start
      rw [List.getElem?_append_left (by simpa [hl] using hi), List.getElem?_map, a]
      rfl
  · rw [List.getElem?_append_right (by simpa using hi)] at q
    have z := List.mem_of_getElem? q
    have z2 := (List.mem_replicate.mp z).2
    cases z2

/-! ### readings -/
/-- at every later heap -/
abbrev fut (H : Hp) (p : Hp → Prop) : Prop := ∀ H', Same H H' → p H'
theorem fut.on {H H1 : Hp} {p : Hp → Prop} (h : fut H p) (s : Same H H1) : fut H1 p := fun H' s' => h H' (s.trans s')
def tD (K : PySem.W.Frag) (W : Wis) (f : SE) : TE := fun σ H Q => ∃ ρ, EnvR K H σ ρ ∧ (f ρ).post (fun d => fut H fun H' => ∀ v, Dp K H' v d → Q v H') fun n => fut H (W n)
def ttD (K : PySem.W.Frag) (W : Wis) (f : ST) : TT := fun σ H Q => ∃ ρ, EnvR K H σ ρ ∧ (f ρ).post (fun b => fut H fun H' => Q b H') fun n => fut H (W n)
def taD (K : PySem.W.Frag) (W : Wis) (f : SA) : TA := fun σ H Q => ∃ ρ, EnvR K H σ ρ ∧ (f ρ).post (fun ds => fut H fun H' => ∀ vs, DpAll K H' vs ds → Q vs H') fun n => fut H (W n)
def outP (K : PySem.W.Frag) (D : Ends) : Out → Hp → Prop
  | .nx ρ', H' => ∀ σ', EnvR K H' σ' ρ' → D.nx σ' H'
  | .rt d, H' => ∀ v, Dp K H' v d → D.rt v H'
  | .bk ρ', H' => ∀ σ', EnvR K H' σ' ρ' → D.bk σ' H'
  | .ct ρ', H' => ∀ σ', EnvR K H' σ' ρ' → D.ct σ' H'
def tsD (K : PySem.W.Frag) (W : Wis) (F : SS) : TS := fun D σ H => ∃ ρ, EnvR K H σ ρ ∧ (F ρ).post (fun o => fut H (outP K D o)) fun n => fut H (W n)

theorem pe_weak {X : Cx} {e : Expr} {t t' : TE} (h : PE X e t) (w : ∀ σ H Q, t' σ H Q → t σ H Q) : PE X e t' := ⟨fun pins s σ H Q I q => h.run pins s σ H Q I (w σ H Q q)⟩
theorem pt_weak {X : Cx} {e : Expr} {t t' : TT} (h : PT X e t) (w : ∀ σ H Q, t' σ H Q → t σ H Q) : PT X e t' := ⟨fun pins s σ H Q I q => h.run pins s σ H Q I (w σ H Q q)⟩
theorem pw_weak {X : Cx} {e : Expr} {t t' : TT} (h : PW X e t) (w : ∀ σ H Q, t' σ H Q → t σ H Q) : PW X e t' := ⟨fun wh pins s σ H Q I q => h.run wh pins s σ H Q I (w σ H Q q)⟩
theorem pa_weak {X : Cx} {es : List Expr} {t t' : TA} (h : PA X es t) (w : ∀ σ H Q, t' σ H Q → t σ H Q) : PA X es t' := ⟨fun pos pins s σ H Q I q => h.run pos pins s σ H Q I (w σ H Q q)⟩
theorem ps_weak {X : Cx} {st : Stmt} {t t' : TS} (h : PS X st t) (w : ∀ D σ H, t' D σ H → t D σ H) : PS X st t' := ⟨fun pins s σ H D I q => h.run pins s σ H D I (w D σ H q)⟩
theorem pss_weak {X : Cx} {st : List Stmt} {t t' : TS} (h : PSs X st t) (w : ∀ D σ H, t' D σ H → t D σ H) : PSs X st t' := ⟨fun pins s σ H D I q => h.run pins s σ H D I (w D σ H q)⟩

section
variable {K : PySem.W.Frag} {W : Wis} {σ : L2.St} {H : Hp} {ρ : PEnv} {β : Type} {p : β → Hp → Prop}
/-- what a part's reading asks, where more follows -/
theorem tD_then {f : SE} {g : PyData → Res β} (hE : EnvR K H σ ρ) (h : ((f ρ).bind g).post (fun b => fut H (p b)) fun n => fut H (W n)) :
    tD K W f σ H fun v H1 => ∃ d, Dp K H1 v d ∧ Same H H1 ∧ EnvR K H1 σ ρ ∧ (g d).post (fun b => fut H1 (p b)) fun n => fut H1 (W n) :=
  ⟨ρ, hE, (Res.post_bind.mp h).mono (fun d q H1 s v dv => ⟨d, dv, s, hE.mono s, q.mono (fun b r => r.on s) fun n r => r.on s⟩) fun n r => r⟩
theorem ttD_then {f : ST} {g : Bool → Res β} (hE : EnvR K H σ ρ) (h : ((f ρ).bind g).post (fun b => fut H (p b)) fun n => fut H (W n)) :
    ttD K W f σ H fun c H1 => Same H H1 ∧ EnvR K H1 σ ρ ∧ (g c).post (fun b => fut H1 (p b)) fun n => fut H1 (W n) :=
  ⟨ρ, hE, (Res.post_bind.mp h).mono (fun d q H1 s => ⟨s, hE.mono s, q.mono (fun b r => r.on s) fun n r => r.on s⟩) fun n r => r⟩
theorem taD_then {f : SA} {g : List PyData → Res β} (hE : EnvR K H σ ρ) (h : ((f ρ).bind g).post (fun b => fut H (p b)) fun n => fut H (W n)) :
    taD K W f σ H fun vs H1 => ∃ ds, DpAll K H1 vs ds ∧ Same H H1 ∧ EnvR K H1 σ ρ ∧ (g ds).post (fun b => fut H1 (p b)) fun n => fut H1 (W n) :=
  ⟨ρ, hE, (Res.post_bind.mp h).mono (fun d q H1 s v dv => ⟨d, dv, s, hE.mono s, q.mono (fun b r => r.on s) fun n r => r.on s⟩) fun n r => r⟩
theorem ttD_mono {f : ST} {Q Q' : Bool → Hp → Prop} (h : ttD K W f σ H Q) (w : ∀ v H', Q v H' → Q' v H') : ttD K W f σ H Q' := by
  obtain ⟨ρ, hE, q⟩ := h
  exact ⟨ρ, hE, q.mono (fun d r H' s => w _ _ (r H' s)) fun n r => r⟩
theorem taD_mono {f : SA} {Q Q' : List V → Hp → Prop} (h : taD K W f σ H Q) (w : ∀ v H', Q v H' → Q' v H') : taD K W f σ H Q' := by
  obtain ⟨ρ, hE, q⟩ := h
  exact ⟨ρ, hE, q.mono (fun d r H' s v dv => w _ _ (r H' s v dv)) fun n r => r⟩
/-- a reading's wish may be weakened -/
theorem tD_mono {f : SE} {Q Q' : VK} (h : tD K W f σ H Q) (w : ∀ v H', Q v H' → Q' v H') : tD K W f σ H Q' := by
  obtain ⟨ρ, hE, q⟩ := h
  exact ⟨ρ, hE, q.mono (fun d r H' s v dv => w _ _ (r H' s v dv)) fun n r => r⟩
end
end DL

set_option Elab.async false
set_option linter.all false
set_option maxRecDepth 100000
set_option maxHeartbeats 2000000
namespace DL
open PySem L2 PyProof.Rows

/-! ### operations on data -/
/-- the greatest length that is asked anywhere -/
def big : Nat := 1000000
theorem big_line : big ≤ sizeLine := by rw [sizeLine_eq]; decide
def addD : PyData → PyData → Option PyData
  | .int i, .int j => some (.int (i + j))
  | .str a, .str b => if a.length + b.length ≤ big then some (.str (a ++ b)) else none
  | .list a, .list b => if a.length + b.length ≤ big then some (.list (a ++ b)) else none
  | .tuple a, .tuple b => if a.length + b.length ≤ big then some (.tuple (a ++ b)) else none
  | _, _ => none
def subD : PyData → PyData → Option PyData
  | .int i, .int j => some (.int (i - j))
  | _, _ => none
def small64 (i : Int) : Bool := decide (i.natAbs < 18446744073709551616)
def mulD : PyData → PyData → Option PyData
  | .int i, .int j => if small64 i || small64 j then some (.int (i * j)) else none
  | _, _ => none
def divD : PyData → PyData → Option PyData
  | .int i, .int j => if 0 < j ∧ j < 1073741824 then some (.int (i / j)) else none
  | _, _ => none
def modD : PyData → PyData → Option PyData
  | .int i, .int j => if 0 < j then some (.int (i % j)) else none
  | _, _ => none
def powD : PyData → PyData → Option PyData
  | .int i, .int j => if 0 ≤ j ∧ j ≤ 1000000 ∧ i.natAbs < 2 ^ 64 then some (.int (i ^ j.toNat)) else none
  | _, _ => none
def eqD : PyData → PyData → Option PyData
  | .int i, .int j => some (.bool (i == j))
  | .str i, .str j => some (.bool (i == j))
  | d, e => if SeqAt.shaped d && SeqAt.shaped e then some (.bool (PyData.eqv d e)) else none
def neD (d e : PyData) : Option PyData := match eqD d e with
  | some (.bool b) => some (.bool (!b))
  | _ => none
def ltD : PyData → PyData → Option PyData
  | .int i, .int j => some (.bool (decide (i < j)))
  | .str i, .str j => some (.bool (decide (i.cps.toList < j.cps.toList)))
  | _, _ => none
def leD : PyData → PyData → Option PyData
  | .int i, .int j => some (.bool (decide (i ≤ j)))
  | _, _ => none
def gtD : PyData → PyData → Option PyData
  | .int i, .int j => some (.bool (decide (j < i)))
  | _, _ => none
def geD : PyData → PyData → Option PyData
  | .int i, .int j => some (.bool (decide (j ≤ i)))
  | _, _ => none
def inD : PyData → PyData → Option PyData
  | d, .list ds => if SeqAt.shaped d && SeqAt.shaped (.list ds) then some (.bool (ds.any fun z => PyData.eqv z d)) else none
  | d, .tuple ds => if SeqAt.shaped d && SeqAt.shaped (.tuple ds) then some (.bool (ds.any fun z => PyData.eqv z d)) else none
  | .str c, .str z => if c.length = 1 then some (.bool (decide (c.cps.toList.headD 0 ∈ z.cps.toList))) else none
  | _, _ => none
def notInD (d e : PyData) : Option PyData := match inD d e with
  | some (.bool b) => some (.bool (!b))
  | _ => none
def isNon : PyData → Bool
  | .none => true
  | _ => false
/-- is None, is True, is False -/
def isD : PyData → PyData → Option PyData
  | d, .none => some (.bool (isNon d))
  | .bool a, .bool b => some (.bool (a == b))
  | _, _ => none
def isNotD (d e : PyData) : Option PyData := match isD d e with
  | some (.bool b) => some (.bool (!b))
  | _ => none

/-- a two-place operation, by data -/
def rD (K : PySem.W.Frag) (g : PyData → PyData → Option PyData) : R2 := fun x y H Q => ∃ d e r, Dp K H x d ∧ Dp K H y e ∧ g d e = some r ∧ fut H fun H' => ∀ v, Dp K H' v r → Q v H'
section
variable {X : Cx}
theorem opR_flat {f : Value → Value → Sem Value} {g : PyData → PyData → Option PyData} (h : ∀ (pins : List (Addr × Obj)) (s : Shared) (σ : L2.St) (H : Hp) (x y : V) (v u : Value) (Q : VK) (d e r : PyData), Inv X pins σ H s → RelV x v → RelV y u →
    Dp X.K H x d → Dp X.K H y e → g d e = some r → (fut H fun H' => ∀ v, Dp X.K H' v r → Q v H') → wpAny (model X.prog X.w) X.A (f v u) (EP X pins σ Q) X.xe s) : OpR X f (rD X.K g) := by
  intro pins s σ H x y v u Q I rx ry ⟨d, e, r, hd, he, hg, q⟩
  exact h pins s σ H x y v u Q d e r I rx ry hd he hg q
theorem fut.now {H : Hp} {p : Hp → Prop} (h : fut H p) : p H := h H (Same.refl H)

theorem od_add : OpR X (binaryOp .Add) (rD X.K addD) := opR_flat fun pins s σ H x y v u Q d e r I rx ry hd he hg q => by
  cases d <;> cases e <;> simp only [addD, reduceCtorEq] at hg
  case int.int i j =>
    cases hg; cases hd; cases he
    exact op_add pins s σ H _ _ v u Q I rx ry ⟨i, j, rfl, rfl, q.now _ (.int _)⟩
  case str.str a b =>
    split at hg <;> cases hg
    cases hd; cases he
    exact op_add_str pins s σ H _ _ v u Q I rx ry ⟨a, b, rfl, rfl, Nat.le_trans (by assumption) big_line, q.now _ (.str _)⟩
  case tuple.tuple a b =>
    split at hg <;> cases hg
    rename_i hz
    cases hd with
    | tup h1 h2 =>
      cases he with
      | tup h3 h4 =>
        refine op_catA pins s σ H _ _ v u Q I rx ry ⟨_, _, _, _, rfl, rfl, h1, h3, by rw [dps_len h2, dps_len h4]; exact Nat.le_trans hz big_line, fun e => ?_, fun _ e => ?_, fun _ _ p hp => ?_⟩
        · subst e
          cases h2
          exact q.now _ (.tup h3 h4)
        · subst e
          cases h4
          rw [List.append_nil] at q
          exact q.now _ (.tup h1 h2)
        · exact q _ (same_new hp _) _ (.tup (SqT.of upd_same) (dps_mono (same_new hp _) _ _ (dps_append h2 h4)))
  case list.list a b =>
    split at hg <;> cases hg
    rename_i hz
    cases hd with
    | lst h1 h2 =>
      cases he with
      | lst h3 h4 =>
        cases rx
        cases ry
        obtain ⟨its, r1, ⟨⟨cls, dd, data, sl⟩, n, e1, hc, hdn, hdt⟩, z1⟩ := I.list h1
        obtain ⟨its2, r2, ⟨⟨cls2, dd2, data2, sl2⟩, n2, e2, hc2, hdn2, hdt2⟩, z2⟩ := I.list h3
        simp only at hc hdt hc2 hdt2 hdn hdn2
        subst hc hdt hc2 hdt2 hdn hdn2
        have hl1 := r1.length
        have hl2 := r2.length
        have hb := big_line
        have hd1 := dps_len h2
        have hd2 := dps_len h4
        have ea : its.toArray ++ its2.toArray = (its ++ its2).toArray := by simp
        refine concat_meets ⟨_, e1, rfl⟩ ⟨_, e2, rfl⟩ noFill_list_add seq_list_add PySem.F.slot_list_add PySem.F.entry_list_add (PySem.F.args_list_add_2 _ _)
          (list_addW _ _ its.toArray its2.toArray n n2 none none sl sl2 (by rw [List.size_toArray, List.size_toArray]; omega)) ⟨e1, e2, ?_⟩
        rw [ea]
        refine ⟨.ref _, _, I.lnew (t' := s.toks) (r1.append r2) (by rw [List.length_append]; omega), rfl, ?_⟩
        exact q _ (same_new I.fresh _) _ (.lst (SqL.of upd_same) (dps_mono (same_new I.fresh _) _ _ (dps_append h2 h4)))
theorem od_sub : OpR X (binaryOp .Sub) (rD X.K subD) := opR_flat fun pins s σ H x y v u Q d e r I rx ry hd he hg q => by
  cases d <;> cases e <;> simp only [subD, reduceCtorEq] at hg
  case int.int i j =>
    cases hg; cases hd; cases he
    exact op_sub pins s σ H _ _ v u Q I rx ry ⟨i, j, rfl, rfl, q.now _ (.int _)⟩
theorem od_mul : OpR X (binaryOp .Mult) (rD X.K mulD) := opR_flat fun pins s σ H x y v u Q d e r I rx ry hd he hg q => by
  cases d <;> cases e <;> simp only [mulD, reduceCtorEq] at hg
  case int.int i j =>
    split at hg <;> cases hg
    rename_i hz
    cases hd; cases he
    refine op_mul pins s σ H _ _ v u Q I rx ry ⟨i, j, rfl, rfl, ?_, q.now _ (.int _)⟩
    simp only [small64, Bool.or_eq_true, decide_eq_true_eq] at hz
    rcases hz with hz | hz
    · exact .inl (by omega)
    · exact .inr (by omega)
theorem od_div : OpR X (binaryOp .FloorDiv) (rD X.K divD) := opR_flat fun pins s σ H x y v u Q d e r I rx ry hd he hg q => by
  cases d <;> cases e <;> simp only [divD, reduceCtorEq] at hg
  case int.int i j =>
    split at hg <;> cases hg
    rename_i hz
    cases hd; cases he
    exact op_fdiv pins s σ H _ _ v u Q I rx ry ⟨i, j, rfl, rfl, hz, q.now _ (.int _)⟩
theorem od_mod : OpR X (binaryOp .Mod) (rD X.K modD) := opR_flat fun pins s σ H x y v u Q d e r I rx ry hd he hg q => by
  cases d <;> cases e <;> simp only [modD, reduceCtorEq] at hg
  case int.int i j =>
    split at hg <;> cases hg
    rename_i hz
    cases hd; cases he
    exact op_mod pins s σ H _ _ v u Q I rx ry ⟨i, j, rfl, rfl, hz, q.now _ (.int _)⟩
theorem od_pow : OpR X (binaryOp .Pow) (rD X.K powD) := opR_flat fun pins s σ H x y v u Q d e r I rx ry hd he hg q => by
  cases d <;> cases e <;> simp only [powD, reduceCtorEq] at hg
  case int.int i j =>
    split at hg <;> cases hg
    rename_i hz
    cases hd; cases he
    exact op_pow pins s σ H _ _ v u Q I rx ry ⟨i, j, rfl, rfl, hz, q.now _ (.int _)⟩
theorem od_eq (hu : X.A.units + 64 < cLine) : OpR X (compareOp .Eq) (rD X.K eqD) := opR_flat fun pins s σ H x y v u Q d e r I rx ry hd he hg q => by
  have gen : (if SeqAt.shaped d && SeqAt.shaped e then some (PyData.bool (PyData.eqv d e)) else none) = some r → wpAny (model X.prog X.w) X.A (compareOp .Eq v u) (EP X pins σ Q) X.xe s := fun hg => by
    split at hg <;> cases hg
    rename_i hz
    rw [Bool.and_eq_true] at hz
    exact op_eqD hu pins s σ H _ _ v u Q I rx ry ⟨d, e, dp_sh hz.1 hd, dp_sh hz.2 he, hz.1, hz.2, q.now _ (.bl _)⟩
  cases d <;> cases e <;> first | exact gen hg | skip
  case str.str i j =>
    simp only [eqD] at hg
    cases hg; cases hd; cases he
    exact op_eq pins s σ H _ _ v u Q I rx ry ⟨rfl, by rw [dec_str]; exact q.now _ (.bl _)⟩
theorem od_ne (hu : X.A.units + 64 < cLine) : OpR X (compareOp .NotEq) (rD X.K neD) := opR_flat fun pins s σ H x y v u Q d e r I rx ry hd he hg q => by
  have gen : neD d e = (match (if SeqAt.shaped d && SeqAt.shaped e then some (PyData.bool (PyData.eqv d e)) else none) with | some (.bool b) => some (.bool (!b)) | _ => none) → wpAny (model X.prog X.w) X.A (compareOp .NotEq v u) (EP X pins σ Q) X.xe s := fun hh => by
    rw [hh] at hg
    split at hg
    · rename_i b hb
      cases hg
      split at hb <;> cases hb
      rename_i hz
      rw [Bool.and_eq_true] at hz
      exact op_neD hu pins s σ H _ _ v u Q I rx ry ⟨d, e, dp_sh hz.1 hd, dp_sh hz.2 he, hz.1, hz.2, q.now _ (.bl _)⟩
    · cases hg
  cases d <;> cases e <;> first | exact gen rfl | skip
  case str.str i j =>
    simp only [neD, eqD] at hg
    cases hg; cases hd; cases he
    exact op_ne pins s σ H _ _ v u Q I rx ry ⟨rfl, by rw [dec_str]; exact q.now _ (.bl _)⟩
theorem od_lt : OpR X (compareOp .Lt) (rD X.K ltD) := opR_flat fun pins s σ H x y v u Q d e r I rx ry hd he hg q => by
  cases d <;> cases e <;> simp only [ltD, reduceCtorEq] at hg
  case int.int i j =>
    cases hg; cases hd; cases he
    exact op_lt pins s σ H _ _ v u Q I rx ry ⟨i, j, rfl, rfl, q.now _ (.bl _)⟩
  case str.str i j =>
    cases hg; cases hd; cases he
    exact op_lt_str pins s σ H _ _ v u Q I rx ry ⟨i, j, rfl, rfl, q.now _ (.bl _)⟩
theorem od_le : OpR X (compareOp .LtE) (rD X.K leD) := opR_flat fun pins s σ H x y v u Q d e r I rx ry hd he hg q => by
  cases d <;> cases e <;> simp only [leD, reduceCtorEq] at hg
  case int.int i j =>
    cases hg; cases hd; cases he
    exact op_le pins s σ H _ _ v u Q I rx ry ⟨i, j, rfl, rfl, q.now _ (.bl _)⟩
theorem od_gt : OpR X (compareOp .Gt) (rD X.K gtD) := opR_flat fun pins s σ H x y v u Q d e r I rx ry hd he hg q => by
  cases d <;> cases e <;> simp only [gtD, reduceCtorEq] at hg
  case int.int i j =>
    cases hg; cases hd; cases he
    exact op_gt pins s σ H _ _ v u Q I rx ry ⟨i, j, rfl, rfl, q.now _ (.bl _)⟩
theorem od_ge : OpR X (compareOp .GtE) (rD X.K geD) := opR_flat fun pins s σ H x y v u Q d e r I rx ry hd he hg q => by
  cases d <;> cases e <;> simp only [geD, reduceCtorEq] at hg
  case int.int i j =>
    cases hg; cases hd; cases he
    exact op_ge pins s σ H _ _ v u Q I rx ry ⟨i, j, rfl, rfl, q.now _ (.bl _)⟩
theorem in_core (hu : X.A.units + 65 < cLine) (neg : Bool) {pins : List (Addr × Obj)} {s : Shared} {σ : L2.St} {H : Hp} {x y : V} {v u : Value} {Q : VK} {d e : PyData} {b : Bool} (I : Inv X pins σ H s) (rx : RelV x v) (ry : RelV y u)
    (hd : Dp X.K H x d) (he : Dp X.K H y e) (hg : inD d e = some (.bool b)) (q : Q (.bl (if neg then !b else b)) H) : wpAny (model X.prog X.w) X.A (compareOp (if neg then .NotIn else .In) v u) (EP X pins σ Q) X.xe s := by
  unfold inD at hg
  split at hg
  · split at hg <;> cases hg
    rename_i hz
    rw [Bool.and_eq_true] at hz
    cases neg
    · exact op_inD hu pins s σ H _ _ v u Q I rx ry ⟨_, _, dp_sh hz.1 hd, dp_sh hz.2 he, hz.1, hz.2, q⟩
    · exact op_notInD hu pins s σ H _ _ v u Q I rx ry ⟨_, _, dp_sh hz.1 hd, dp_sh hz.2 he, hz.1, hz.2, q⟩
  · split at hg <;> cases hg
    rename_i hz
    rw [Bool.and_eq_true] at hz
    obtain ⟨as, r1⟩ := L2.Dp.reads I _ x v (dp_sh hz.1 hd) rx
    obtain ⟨bs, r2⟩ := L2.Dp.reads I _ y u (dp_sh hz.2 he) ry
    cases neg
    · exact SeqAt.in_tuple_reads r2 r1 (SeqAt.canLay_of_shaped hz.2) (SeqAt.canLay_of_shaped hz.1) (room_in_shaped hz.1 hu) ⟨.bl _, H, I, rfl, q⟩
    · exact SeqAt.notIn_tuple_reads r2 r1 (SeqAt.canLay_of_shaped hz.2) (SeqAt.canLay_of_shaped hz.1) (room_in_shaped hz.1 hu) ⟨.bl _, H, I, rfl, q⟩
  · split at hg <;> cases hg
    rename_i c z hz
    cases hd; cases he
    obtain ⟨⟨l⟩⟩ := c
    match l, hz with
    | [k], _ =>
      cases neg
      · exact op_in_sign pins s σ H _ _ v u Q I rx ry ⟨k, z, rfl, rfl, q⟩
      · exact op_notIn_sign pins s σ H _ _ v u Q I rx ry ⟨k, z, rfl, rfl, q⟩
  · cases hg
theorem inD_bool {d e r : PyData} (h : inD d e = some r) : ∃ b, r = .bool b := by
  unfold inD at h
  split at h
  · split at h <;> cases h; exact ⟨_, rfl⟩
  · split at h <;> cases h; exact ⟨_, rfl⟩
  · split at h <;> cases h; exact ⟨_, rfl⟩
  · cases h
theorem od_in (hu : X.A.units + 65 < cLine) : OpR X (compareOp .In) (rD X.K inD) := opR_flat fun pins s σ H x y v u Q d e r I rx ry hd he hg q => by
  obtain ⟨b, rfl⟩ := inD_bool hg
  exact in_core hu false I rx ry hd he hg (q.now _ (.bl _))
theorem od_notIn (hu : X.A.units + 65 < cLine) : OpR X (compareOp .NotIn) (rD X.K notInD) := opR_flat fun pins s σ H x y v u Q d e r I rx ry hd he hg q => by
  unfold notInD at hg
  split at hg
  · rename_i b hb
    cases hg
    exact in_core hu true I rx ry hd he hb (q.now _ (.bl _))
  · cases hg
theorem dp_non_iff {K : PySem.W.Frag} {H : Hp} {v : V} {d : PyData} (h : Dp K H v d) : decide (v = .non) = isNon d := by
  cases h <;> rfl
theorem od_is : OpR X (compareOp .Is) (rD X.K isD) := opR_flat fun pins s σ H x y v u Q d e r I rx ry hd he hg q => by
  unfold isD at hg
  split at hg
  · cases hg; cases he
    exact op_isN pins s σ H _ _ v u Q I rx ry ⟨rfl, by rw [dp_non_iff hd]; exact q.now _ (.bl _)⟩
  · cases hg; cases hd; cases he
    exact op_is_bl pins s σ H _ _ v u Q I rx ry ⟨_, _, rfl, rfl, by rw [← Bool.beq_eq_decide_eq]; exact q.now _ (.bl _)⟩
  · cases hg
theorem od_isNot : OpR X (compareOp .IsNot) (rD X.K isNotD) := opR_flat fun pins s σ H x y v u Q d e r I rx ry hd he hg q => by
  unfold isNotD isD at hg
  split at hg
  · rename_i b hb
    cases hg
    split at hb
    · cases hb; cases he
      exact op_notN pins s σ H _ _ v u Q I rx ry ⟨rfl, by rw [dp_non_iff hd]; exact q.now _ (.bl _)⟩
    · cases hb; cases hd; cases he
      exact op_isnot_bl pins s σ H _ _ v u Q I rx ry ⟨_, _, rfl, rfl, by rw [← Bool.beq_eq_decide_eq]; exact q.now _ (.bl _)⟩
    · cases hb
  · cases hg
end
end DL

set_option Elab.async false
set_option linter.all false
set_option maxRecDepth 100000
set_option maxHeartbeats 2000000
namespace DL
open PySem L2 PyProof.Rows

/-! ### the functions that expressions are read as -/
def eVar (i : Nat) : SE := fun ρ => match ρ[i]? with
  | some (some d) => .ok d
  | _ => .bad
def eC (d : PyData) : SE := fun _ => .ok d
def eOp (g : PyData → PyData → Option PyData) (f h : SE) : SE := fun ρ => (f ρ).bind fun x => (h ρ).bind fun y => Res.of (g x y)
/-- of one value -/
def eUn (g : PyData → Option PyData) (f : SE) : SE := fun ρ => (f ρ).bind fun x => Res.of (g x)
/-- of an argument list -/
def eArgs (g : List PyData → Option PyData) (f : SA) : SE := fun ρ => (f ρ).bind fun xs => Res.of (g xs)
def eCall (g : List PyData → Res PyData) (f : SA) : SE := fun ρ => (f ρ).bind g
def truth : PyData → Option Bool
  | .bool b => some b
  | _ => none
def asT (f : SE) : ST := fun ρ => (f ρ).bind fun x => Res.of (truth x)
/-- the truth of any value -/
def truthy : PyData → Option Bool
  | .none => some false
  | .bool b => some b
  | .int i => some (i != 0)
  | .str s => if s.length ≤ big then some ((s.length : Int) != 0) else none
  | .list xs => some (!xs.isEmpty)
  | .tuple xs => some (!xs.isEmpty)
  | .dict _ => none
def asTru (f : SE) : ST := fun ρ => (f ρ).bind fun x => Res.of (truthy x)
def tAnd (t u : ST) : ST := fun ρ => (t ρ).bind fun b => if b then u ρ else .ok false
def tOr (t u : ST) : ST := fun ρ => (t ρ).bind fun b => if b then .ok true else u ρ
def tNot (t : ST) : ST := fun ρ => (t ρ).bind fun b => .ok (!b)
def eAnd (f g : SE) : SE := fun ρ => (f ρ).bind fun x => (Res.of (truth x)).bind fun b => if b then g ρ else .ok (.bool false)
def eOr (f g : SE) : SE := fun ρ => (f ρ).bind fun x => (Res.of (truth x)).bind fun b => if b then .ok (.bool true) else g ρ
def eNot (f : SE) : SE := fun ρ => (f ρ).bind fun x => (Res.of (truth x)).bind fun b => .ok (.bool (!b))
def eChain (g h : PyData → PyData → Option PyData) (a b c : SE) : SE := fun ρ => (a ρ).bind fun x => (b ρ).bind fun y => (Res.of (g x y)).bind fun z => (Res.of (truth z)).bind fun k =>
  if k then (c ρ).bind fun w => Res.of (h y w) else .ok (.bool false)
def aNil : SA := fun _ => .ok []
def aCons (f : SE) (g : SA) : SA := fun ρ => (f ρ).bind fun x => (g ρ).bind fun xs => .ok (x :: xs)
def eTup (f : SA) : SE := fun ρ => (f ρ).bind fun xs => if xs.length ≤ big then .ok (.tuple xs) else .bad
def eLst (f : SA) : SE := fun ρ => (f ρ).bind fun xs => if xs.length ≤ big then .ok (.list xs) else .bad
def oNone : PEnv → Res (Option Int) := fun _ => .ok none
def oSome (f : SE) : PEnv → Res (Option Int) := fun ρ => (f ρ).bind fun x => match x with
  | .int i => .ok (some i)
  | _ => .bad
def cutP {α : Type} (xs : List α) (lo hi : Option Int) : List α := (xs.drop (HT.sIx xs.length 0 lo)).take (HT.sIx xs.length xs.length hi - HT.sIx xs.length 0 lo)
def cutD (lo hi : Option Int) : PyData → Option PyData
  | .list xs => some (.list (cutP xs lo hi))
  | .tuple xs => some (.tuple (cutP xs lo hi))
  | .str z => if z.length ≤ big then some (.str (cutS z lo hi)) else none
  | _ => none
def eCut (f : SE) (l u : PEnv → Res (Option Int)) : SE := fun ρ => (f ρ).bind fun x => (l ρ).bind fun lo => (u ρ).bind fun hi => Res.of (cutD lo hi x)
def ixD : PyData → PyData → Option PyData
  | .list xs, .int i => atI xs i
  | .tuple xs, .int i => atI xs i
  | .str z, .int i => if z.length ≤ big then (atI z.cps.toList i).map fun c => .str ⟨#[c]⟩ else none
  | _, _ => none
def lenD : List PyData → Option PyData
  | [.list xs] => some (.int xs.length)
  | [.tuple xs] => some (.int xs.length)
  | [.str z] => if z.length ≤ big then some (.int z.length) else none
  | _ => none
def listD : List PyData → Option PyData
  | [.list xs] => some (.list xs)
  | [.tuple xs] => some (.list xs)
  | _ => none
def tupleD : List PyData → Option PyData
  | [.list xs] => some (.tuple xs)
  | [.tuple xs] => some (.tuple xs)
  | _ => none
def intD : List PyData → Option PyData
  | [.int i] => some (.int i)
  | [.bool b] => some (.int (if b then 1 else 0))
  | _ => none
def max2D : List PyData → Option PyData
  | [.int i, .int j] => some (.int (if j > i then j else i))
  | _ => none
def min2D : List PyData → Option PyData
  | [.int i, .int j] => some (.int (if j < i then j else i))
  | _ => none
def bools : List PyData → Option (List Bool)
  | [] => some []
  | .bool b :: r => (bools r).map (b :: ·)
  | _ :: _ => none
def strsOf : List PyData → Option (List Str)
  | [] => some []
  | .str b :: r => (strsOf r).map (b :: ·)
  | _ :: _ => none
def allD : List PyData → Option PyData
  | [.list xs] => (bools xs).map fun bs => .bool (bs.all id)
  | _ => none
def tyN : PyData → String
  | .none => "NoneType"
  | .bool _ => "bool"
  | .int _ => "int"
  | .str _ => "str"
  | .list _ => "list"
  | .tuple _ => "tuple"
  | .dict _ => "dict"
/-- isinstance(x, T) -/
def isiD (T : String) : PyData → Option PyData
  | .none => some (.bool false)
  | .bool _ => some (.bool (T == "bool" || T == "int"))
  | .int _ => some (.bool (T == "int"))
  | .str _ => some (.bool (T == "str"))
  | .list _ => some (.bool (T == "list"))
  | .tuple _ => some (.bool (T == "tuple"))
  | .dict _ => none

section
variable {X : Cx} {W : Wis} {a b c : Expr} {pos : Pos}
theorem ed_var {i : Nat} {x : Str} (hN : X.N[i]? = some x := by rfl) (hv : Vis X.env.scope x := by first | exact Or.inl rfl | exact Or.inr (Or.inl rfl) | exact Or.inr (Or.inr rfl)) (hd : (x == ("__debug__" : Str)) = false := by decide)
    (hcd : (x == ("__classdict__" : Str)) = false := by decide) : PE X (.Name x pos) (tD X.K W (eVar i)) := pe_weak (pe_var (i := i) hN hv hd hcd) fun σ H Q h => by
  obtain ⟨ρ, hE, q⟩ := h
  unfold eVar at q
  split at q
  · rename_i d e
    obtain ⟨v, h1, h2⟩ := hE.2 i d e
    exact ⟨v, h1, q _ (Same.refl H) v h2⟩
  · exact q.elim
theorem ed_int {i j} : PE X (.Constant (.int i) j pos) (tD X.K W (eC (.int i))) := pe_weak pe_int fun σ H Q ⟨ρ, hE, q⟩ => q _ (Same.refl H) _ (.int i)
theorem ed_bl {i j} : PE X (.Constant (.bool i) j pos) (tD X.K W (eC (.bool i))) := pe_weak pe_bl fun σ H Q ⟨ρ, hE, q⟩ => q _ (Same.refl H) _ (.bl i)
theorem ed_non {j} : PE X (.Constant .none j pos) (tD X.K W (eC .none)) := pe_weak pe_non fun σ H Q ⟨ρ, hE, q⟩ => q _ (Same.refl H) _ .non
theorem ed_str {i j} : PE X (.Constant (.str i) j pos) (tD X.K W (eC (.str i))) := pe_weak pe_str fun σ H Q ⟨ρ, hE, q⟩ => q _ (Same.refl H) _ (.str i)
/-- a constant of the module -/
structure GlD (K : PySem.W.Frag) (mg : Str → Option Value) (x : Str) (d : PyData) : Prop where
  at_ : ∃ v u, mg x = some u ∧ RelV v u ∧ ∀ H, Dp K H v d
theorem ed_glob {x : Str} {d : PyData} (g : GlD X.K X.mg x d) (hg : Gl X x := by rfl) (hd : (x == ("__debug__" : Str)) = false := by decide) : PE X (.Name x pos) (tD X.K W (eC d)) := by
  obtain ⟨v, u, hm, r, hD⟩ := g.at_
  exact pe_weak (pe_glob hg hm r hd) fun σ H Q ⟨ρ, hE, q⟩ => q _ (Same.refl H) _ (hD H)
/-- a two-place operation -/
theorem op_then {K : PySem.W.Frag} {g : PyData → PyData → Option PyData} {fa fb : SE} {σ : L2.St} {H : Hp} {Q : VK} (h : tD K W (eOp g fa fb) σ H Q) : tOp (rD K g) (tD K W fa) (tD K W fb) σ H Q := by
  obtain ⟨ρ, hE, q⟩ := h
  refine tD_mono (tD_then hE q) fun x H1 ⟨d, hx, s1, hE1, q1⟩ => ?_
  refine tD_mono (tD_then hE1 q1) fun y H2 ⟨e, hy, s2, hE2, q2⟩ => ?_
  obtain ⟨r, hr, q3⟩ := Res.post_of q2
  exact ⟨d, e, r, dp_mono s2 _ _ hx, hy, hr, q3⟩
theorem ed_op {op : Operator} {g : PyData → PyData → Option PyData} {fa fb : SE} (ho : OpR X (binaryOp op) (rD X.K g)) (ha : PE X a (tD X.K W fa)) (hb : PE X b (tD X.K W fb)) : PE X (.BinOp a op b pos) (tD X.K W (eOp g fa fb)) :=
  pe_weak (pe_op ho ha hb) fun σ H Q h => op_then h
theorem ed_cmp {op : CmpOp} {g : PyData → PyData → Option PyData} {fa fb : SE} (ho : OpR X (compareOp op) (rD X.K g)) (ha : PE X a (tD X.K W fa)) (hb : PE X b (tD X.K W fb)) (hm : behindInMarks op b = false := by first | exact nomark _ | rfl) :
    PE X (.Compare a [op] [b] pos) (tD X.K W (eOp g fa fb)) := pe_weak (pe_cmpR ho ha hb hm) fun σ H Q h => op_then h
/-- a value that is a truth -/
theorem asT_then {K : PySem.W.Frag} {f : SE} {σ : L2.St} {H : Hp} {Q : Bool → Hp → Prop} (h : ttD K W (asT f) σ H Q) : tD K W f σ H fun x H' => ∃ k, x = .bl k ∧ Q k H' := by
  obtain ⟨ρ, hE, q⟩ := h
  refine tD_mono (tD_then hE q) fun x H1 ⟨d, hx, s1, hE1, q1⟩ => ?_
  obtain ⟨k, hk, q2⟩ := Res.post_of q1
  cases d <;> simp only [truth, reduceCtorEq] at hk
  cases hk
  cases hx
  exact ⟨_, rfl, q2.now⟩
theorem td_cmp {op : CmpOp} {g : PyData → PyData → Option PyData} {fa fb : SE} (ho : OpR X (compareOp op) (rD X.K g)) (ha : PE X a (tD X.K W fa)) (hb : PE X b (tD X.K W fb)) (hm : behindInMarks op b = false := by first | exact nomark _ | rfl) :
    PT X (.Compare a [op] [b] pos) (ttD X.K W (asT (eOp g fa fb))) := by
  refine pt_weak (pt_cmpR ho ha hb hm) fun σ H Q h => ?_
  have h1 := asT_then h
  exact op_then h1
/-- a truth that an expression gives, not a comparison -/
theorem td_val {f : SE} (ha : PE X a (tD X.K W f)) (he : ∀ whole, isTrue a X.env whole = (do let v ← whole; standAt a.pos; holding [v] (PySem.truthy v)) := by intro _; rfl) : PT X a (ttD X.K W (asT f)) :=
  pt_weak (pt_val ha he) fun σ H Q h => asT_then h
theorem td_tru {f : SE} (ha : PE X a (tD X.K W f)) (he : ∀ whole, isTrue a X.env whole = (do let v ← whole; standAt a.pos; holding [v] (PySem.truthy v)) := by intro _; rfl) : PT X a (ttD X.K W (asTru f)) := by
  refine pt_weak (pt_truth ha he) fun σ H Q h => ?_
  obtain ⟨ρ, hE, q⟩ := h
  refine tD_mono (tD_then hE q) fun x H1 ⟨d, hx, s1, hE1, q1⟩ => ?_
  obtain ⟨k, hk, q2⟩ := Res.post_of q1
  refine ⟨k, ?_, q2.now⟩
  cases hx with
  | non => simp only [DL.truthy, Option.some.injEq] at hk; exact hk.symm
  | bl _ => simp only [DL.truthy, Option.some.injEq] at hk; exact hk.symm
  | int _ => simp only [DL.truthy, Option.some.injEq] at hk; exact hk.symm
  | str _ =>
    simp only [DL.truthy] at hk
    split at hk <;> cases hk
    rename_i hz
    exact ⟨Nat.le_trans hz big_line, rfl⟩
  | lst h1 h2 =>
    simp only [DL.truthy, Option.some.injEq] at hk
    subst hk
    refine .inl ⟨_, h1, ?_⟩
    cases h2 <;> rfl
  | tup h1 h2 =>
    simp only [DL.truthy, Option.some.injEq] at hk
    subst hk
    refine .inr (.inl ⟨_, h1, ?_⟩)
    cases h2 <;> rfl
  | dct h1 h2 => simp only [DL.truthy, reduceCtorEq] at hk
theorem td_and1 {t : ST} (ha : PT X a (ttD X.K W t)) : PW X (.BoolOp .And [a] pos) (ttD X.K W t) := pw_and1 ha
theorem td_or1 {t : ST} (ha : PT X a (ttD X.K W t)) : PW X (.BoolOp .Or [a] pos) (ttD X.K W t) := pw_or1 ha
theorem td_and {rest : List Expr} {t u : ST} (ha : PT X a (ttD X.K W t)) (hb : PW X (.BoolOp .And (b :: rest) pos) (ttD X.K W u)) : PW X (.BoolOp .And (a :: b :: rest) pos) (ttD X.K W (tAnd t u)) := by
  refine pw_weak (pw_and ha hb) fun σ H Q h => ?_
  obtain ⟨ρ, hE, q⟩ := h
  refine ttD_mono (ttD_then hE q) fun k H1 ⟨s1, hE1, q1⟩ => ?_
  cases k with
  | true => exact ⟨ρ, hE1, q1⟩
  | false => exact q1.now
theorem td_or {rest : List Expr} {t u : ST} (ha : PT X a (ttD X.K W t)) (hb : PW X (.BoolOp .Or (b :: rest) pos) (ttD X.K W u)) : PW X (.BoolOp .Or (a :: b :: rest) pos) (ttD X.K W (tOr t u)) := by
  refine pw_weak (pw_or ha hb) fun σ H Q h => ?_
  obtain ⟨ρ, hE, q⟩ := h
  refine ttD_mono (ttD_then hE q) fun k H1 ⟨s1, hE1, q1⟩ => ?_
  cases k with
  | true => exact q1.now
  | false => exact ⟨ρ, hE1, q1⟩
theorem td_not {t : ST} (ha : PT X a (ttD X.K W t)) : PT X (.UnaryOp .Not a pos) (ttD X.K W (DL.tNot t)) := by
  refine pt_weak (pt_not ha) fun σ H Q h => ?_
  obtain ⟨ρ, hE, q⟩ := h
  exact ttD_mono (ttD_then hE q) fun k H1 ⟨s1, hE1, q1⟩ => q1.now
theorem ed_one {op} {t : SE} (h : PE X a (tD X.K W t)) : PE X (.BoolOp op [a] pos) (tD X.K W t) := pe_one h
theorem ed_and {rest : List Expr} {f g : SE} (ha : PE X a (tD X.K W f)) (hb : PE X (.BoolOp .And (b :: rest) pos) (tD X.K W g)) : PE X (.BoolOp .And (a :: b :: rest) pos) (tD X.K W (eAnd f g)) := by
  refine pe_weak (pe_and ha hb) fun σ H Q h => ?_
  obtain ⟨ρ, hE, q⟩ := h
  refine tD_mono (tD_then hE q) fun x H1 ⟨d, hx, s1, hE1, q1⟩ => ?_
  obtain ⟨k, hk, q2⟩ := Res.post_of (Res.post_bind.mp q1)
  cases d <;> simp only [truth, reduceCtorEq] at hk
  cases hk
  cases hx
  refine ⟨_, rfl, ?_⟩
  cases k with
  | true => exact ⟨ρ, hE1, q2⟩
  | false => exact q2.now _ (.bl _)
theorem ed_or {rest : List Expr} {f g : SE} (ha : PE X a (tD X.K W f)) (hb : PE X (.BoolOp .Or (b :: rest) pos) (tD X.K W g)) : PE X (.BoolOp .Or (a :: b :: rest) pos) (tD X.K W (eOr f g)) := by
  refine pe_weak (pe_or ha hb) fun σ H Q h => ?_
  obtain ⟨ρ, hE, q⟩ := h
  refine tD_mono (tD_then hE q) fun x H1 ⟨d, hx, s1, hE1, q1⟩ => ?_
  obtain ⟨k, hk, q2⟩ := Res.post_of (Res.post_bind.mp q1)
  cases d <;> simp only [truth, reduceCtorEq] at hk
  cases hk
  cases hx
  refine ⟨_, rfl, ?_⟩
  cases k with
  | true => exact q2.now _ (.bl _)
  | false => exact ⟨ρ, hE1, q2⟩
theorem ed_not {f : SE} (ha : PE X a (tD X.K W f)) : PE X (.UnaryOp .Not a pos) (tD X.K W (eNot f)) := by
  refine pe_weak (pe_not ha) fun σ H Q h => ?_
  obtain ⟨ρ, hE, q⟩ := h
  refine tD_mono (tD_then hE q) fun x H1 ⟨d, hx, s1, hE1, q1⟩ => ?_
  obtain ⟨k, hk, q2⟩ := Res.post_of (Res.post_bind.mp q1)
  cases d <;> simp only [truth, reduceCtorEq] at hk
  cases hk
  cases hx
  exact ⟨_, rfl, q2.now _ (.bl _)⟩
/-! a op b op c -/
theorem chain_then {K : PySem.W.Frag} {g h : PyData → PyData → Option PyData} {fa fb fc : SE} {σ : L2.St} {H : Hp} {Q : VK} (q : tD K W (eChain g h fa fb fc) σ H Q) : tChain (rD K g) (rD K h) (tD K W fa) (tD K W fb) (tD K W fc) σ H Q := by
  obtain ⟨ρ, hE, q⟩ := q
  refine tD_mono (tD_then hE q) fun x H1 ⟨d, hx, s1, hE1, q1⟩ => ?_
  refine tD_mono (tD_then hE1 q1) fun y H2 ⟨e, hy, s2, hE2, q2⟩ => ?_
  obtain ⟨z, hz, q3⟩ := Res.post_of (Res.post_bind.mp q2)
  obtain ⟨k, hk, q4⟩ := Res.post_of (Res.post_bind.mp q3)
  cases z <;> simp only [truth, reduceCtorEq] at hk
  cases hk
  refine ⟨d, e, _, dp_mono s2 _ _ hx, hy, hz, fun H3 s3 v hv => ?_⟩
  cases hv
  refine ⟨k, rfl, ?_⟩
  cases k with
  | true =>
    have q5 := q4.mono (fun b r => r.on s3) (fun n r => r.on s3)
    refine iteT (tD_mono (tD_then (hE2.mono s3) q5) fun w H4 ⟨d4, hw, s4, hE4, q6⟩ => ?_)
    obtain ⟨r, hr, q7⟩ := Res.post_of q6
    exact ⟨e, d4, r, dp_mono (s3.trans s4) _ _ hy, hw, hr, q7⟩
  | false => exact iteF (q4 _ s3 _ (.bl _))
theorem ed_chain {op op' : CmpOp} {g h : PyData → PyData → Option PyData} {fa fb fc : SE} (ho : OpR X (compareOp op) (rD X.K g)) (ho' : OpR X (compareOp op') (rD X.K h)) (ha : PE X a (tD X.K W fa)) (hb : PE X b (tD X.K W fb)) (hc : PE X c (tD X.K W fc))
    (hm : lastMarks [op, op'] [b, c] = false := by with_unfolding_all rfl) : PE X (.Compare a [op, op'] [b, c] pos) (tD X.K W (eChain g h fa fb fc)) := pe_weak (pe_chain ho ho' ha hb hc hm) fun σ H Q q => chain_then q
theorem td_chain {op op' : CmpOp} {g h : PyData → PyData → Option PyData} {fa fb fc : SE} (ho : OpR X (compareOp op) (rD X.K g)) (ho' : OpR X (compareOp op') (rD X.K h)) (ha : PE X a (tD X.K W fa)) (hb : PE X b (tD X.K W fb)) (hc : PE X c (tD X.K W fc))
    (hm : lastMarks [op, op'] [b, c] = false := by with_unfolding_all rfl) : PT X (.Compare a [op, op'] [b, c] pos) (ttD X.K W (asT (eChain g h fa fb fc))) := pt_weak (pt_chain ho ho' ha hb hc hm) fun σ H Q q => chain_then (asT_then q)

/-! ### arguments, displays -/
theorem ad_nil : PA X [] (taD X.K W aNil) := pa_weak pa_nil fun σ H Q ⟨ρ, hE, q⟩ => q.now _ .nil
theorem ad_cons {es : List Expr} {f : SE} {g : SA} (ha : PE X a (tD X.K W f)) (hr : PA X es (taD X.K W g)) (hs : starEach (a :: es) X.env = (false, eval a X.env) :: starEach es X.env := by rfl) : PA X (a :: es) (taD X.K W (aCons f g)) := by
  refine pa_weak (pa_cons ha hr hs) fun σ H Q h => ?_
  obtain ⟨ρ, hE, q⟩ := h
  refine tD_mono (tD_then hE q) fun x H1 ⟨d, hx, s1, hE1, q1⟩ => ?_
  refine taD_mono (taD_then hE1 q1) fun xs H2 ⟨ds, hxs, s2, hE2, q2⟩ => ?_
  exact q2.now _ (.cons (dp_mono s2 _ _ hx) hxs)
theorem ed_tup {es : List Expr} {f : SA} {x1} (h : PA X es (taD X.K W f)) : PE X (.Tuple es x1 pos) (tD X.K W (eTup f)) := by
  refine pe_weak (pe_tup h) fun σ H Q h => ?_
  obtain ⟨ρ, hE, q⟩ := h
  refine taD_mono (taD_then hE q) fun xs H1 ⟨ds, hxs, s1, hE1, q1⟩ => ?_
  split at q1
  · rename_i hz
    exact ⟨by rw [dps_len hxs]; exact Nat.le_trans hz big_line, fun p hp => q1 _ (same_new hp _) _ (.tup (SqT.of upd_same) (dps_mono (same_new hp _) _ _ hxs))⟩
  · exact q1.elim
theorem ed_lst {es : List Expr} {f : SA} (h : PA X es (taD X.K W f)) : PE X (.List es pos) (tD X.K W (eLst f)) := by
  refine pe_weak (pe_lst h) fun σ H Q h => ?_
  obtain ⟨ρ, hE, q⟩ := h
  refine taD_mono (taD_then hE q) fun xs H1 ⟨ds, hxs, s1, hE1, q1⟩ => ?_
  split at q1
  · rename_i hz
    exact ⟨by rw [dps_len hxs]; exact Nat.le_trans hz big_line, fun p hp => q1 _ (same_new hp _) _ (.lst (SqL.of upd_same) (dps_mono (same_new hp _) _ _ hxs))⟩
  · exact q1.elim
theorem ed_ifExp {t : ST} {f g : SE} (hc : PT X c (ttD X.K W t)) (ha : PE X a (tD X.K W f)) (hb : PE X b (tD X.K W g)) : PE X (.IfExp c a b pos) (tD X.K W (fun ρ => (t ρ).bind fun k => if k then f ρ else g ρ)) := by
  refine pe_weak (pe_ifExp hc ha hb) fun σ H Q h => ?_
  obtain ⟨ρ, hE, q⟩ := h
  refine ttD_mono (ttD_then hE q) fun k H1 ⟨s1, hE1, q1⟩ => ?_
  cases k with
  | true => exact iteT ⟨ρ, hE1, q1⟩
  | false => exact iteF ⟨ρ, hE1, q1⟩

/-! ### subscripts, slices -/
theorem atI_dps {K : PySem.W.Frag} {H : Hp} {vs : List V} {ds : List PyData} {i : Int} {d : PyData} (h : DpAll K H vs ds) (e : atI ds i = some d) : ∃ v, atI vs i = some v ∧ Dp K H v d := by
  unfold atI at e ⊢
  rw [dps_len h]
  cases q : ixN ds.length i with
  | none => rw [q] at e; cases e
  | some j =>
    rw [q] at e
    exact dps_get h e
theorem ed_ix {fa fb : SE} (ha : PE X a (tD X.K W fa)) (hb : PE X b (tD X.K W fb)) (hs : PlainIx b := by exact fun _ _ => rfl) : PE X (.Subscript a b pos) (tD X.K W (eOp ixD fa fb)) := by
  refine pe_weak (pe_ix ix_seq ha hb hs) fun σ H Q h => ?_
  obtain ⟨ρ, hE, q⟩ := h
  refine tD_mono (tD_then hE q) fun x H1 ⟨d, hx, s1, hE1, q1⟩ => ?_
  refine tD_mono (tD_then hE1 q1) fun y H2 ⟨e, hy, s2, hE2, q2⟩ => ?_
  obtain ⟨r, hr, q3⟩ := Res.post_of q2
  have hx := dp_mono s2 _ _ hx
  rcases d with _ | dB | dI | z | dL | dT | dD <;> rcases e with _ | eB | i | eS | eL | eT | eD <;> simp only [ixD, reduceCtorEq] at hr
  case str.int =>
    split at hr
    · rename_i hz
      cases q : atI z.cps.toList i with
      | none => rw [q] at hr; cases hr
      | some k =>
        rw [q] at hr
        cases hr
        cases hx; cases hy
        exact .inr (.inr ⟨z, i, k, rfl, rfl, Nat.le_trans hz big_line, q, q3.now _ (.str _)⟩)
    · cases hr
  case list.int =>
    cases hy
    cases hx with
    | lst h1 h2 =>
      obtain ⟨v, hv, hd⟩ := atI_dps h2 hr
      exact .inl ⟨_, _, i, v, rfl, rfl, h1, hv, q3.now _ hd⟩
  case tuple.int =>
    cases hy
    cases hx with
    | tup h1 h2 =>
      obtain ⟨v, hv, hd⟩ := atI_dps h2 hr
      exact .inr (.inl ⟨_, _, i, v, rfl, rfl, h1, hv, q3.now _ hd⟩)
def toD (K : PySem.W.Frag) (W : Wis) (f : PEnv → Res (Option Int)) : TO := fun σ H Q => ∃ ρ, EnvR K H σ ρ ∧ (f ρ).post (fun o => fut H fun H' => Q o H') fun n => fut H (W n)
theorem toD_then {β : Type} {p : β → Hp → Prop} {K : PySem.W.Frag} {σ : L2.St} {H : Hp} {ρ : PEnv} {f : PEnv → Res (Option Int)} {g : Option Int → Res β} (hE : EnvR K H σ ρ) (h : ((f ρ).bind g).post (fun b => fut H (p b)) fun n => fut H (W n)) :
    toD K W f σ H fun c H1 => Same H H1 ∧ EnvR K H1 σ ρ ∧ (g c).post (fun b => fut H1 (p b)) fun n => fut H1 (W n) :=
  ⟨ρ, hE, (Res.post_bind.mp h).mono (fun d q H1 s => ⟨s, hE.mono s, q.mono (fun b r => r.on s) fun n r => r.on s⟩) fun n r => r⟩
theorem toD_mono {K : PySem.W.Frag} {σ : L2.St} {H : Hp} {f : PEnv → Res (Option Int)} {Q Q' : Option Int → Hp → Prop} (h : toD K W f σ H Q) (w : ∀ v H', Q v H' → Q' v H') : toD K W f σ H Q' := by
  obtain ⟨ρ, hE, q⟩ := h
  exact ⟨ρ, hE, q.mono (fun d r H' s => w _ _ (r H' s)) fun n r => r⟩
theorem po_weak {e : Option Expr} {t t' : TO} (h : PO X e t) (w : ∀ σ H Q, t' σ H Q → t σ H Q) : PO X e t' := ⟨fun pins s σ H Q I q => h.run pins s σ H Q I (w σ H Q q)⟩
theorem od_none : PO X none (toD X.K W oNone) := po_weak po_none fun σ H Q ⟨ρ, hE, q⟩ => q.now
theorem od_some {f : SE} (h : PE X a (tD X.K W f)) : PO X (some a) (toD X.K W (oSome f)) := by
  refine po_weak (po_some h) fun σ H Q h => ?_
  obtain ⟨ρ, hE, q⟩ := h
  refine tD_mono (tD_then hE q) fun x H1 ⟨d, hx, s1, hE1, q1⟩ => ?_
  cases hx <;> first | exact q1.elim | skip
  exact ⟨_, rfl, q1.now⟩
theorem sIx_bd (n d : Nat) (h : HT.sIx n 0 none = 0) : True := trivial
theorem dps_cut {K : PySem.W.Frag} {H : Hp} {vs : List V} {ds : List PyData} (lo hi : Option Int) (h : DpAll K H vs ds) : DpAll K H (cutV vs lo hi) (cutP ds lo hi) := by
  unfold cutV cutP
  rw [dps_len h]
  exact dps_take _ (dps_drop _ h)
theorem ed_cut {f : SE} {l u : PEnv → Res (Option Int)} {lo hi : Option Expr} {p2 : Pos} (ha : PE X a (tD X.K W f)) (hl : PO X lo (toD X.K W l)) (hu : PO X hi (toD X.K W u)) : PE X (.Subscript a (.Slice lo hi none p2) pos) (tD X.K W (eCut f l u)) := by
  refine pe_weak (pe_slice ((sl_list.or (sl_tupA.or sl_str))) ha hl hu) fun σ H Q h => ?_
  obtain ⟨ρ, hE, q⟩ := h
  refine tD_mono (tD_then hE q) fun x H1 ⟨d, hx, s1, hE1, q1⟩ => ?_
  refine toD_mono (toD_then hE1 q1) fun lo' H2 ⟨s2, hE2, q2⟩ => ?_
  refine toD_mono (toD_then hE2 q2) fun hi' H3 ⟨s3, hE3, q3⟩ => ?_
  obtain ⟨r, hr, q4⟩ := Res.post_of q3
  have hx := dp_mono (s2.trans s3) _ _ hx
  rcases d with _ | dB | dI | zS | zL | z | dD <;> simp only [cutD, reduceCtorEq] at hr
  case list =>
    cases hr
    cases hx with
    | lst h1 h2 => exact .inl ⟨_, _, rfl, h1, fun p hp => q4 _ (same_new hp _) _ (.lst (SqL.of upd_same) (dps_mono (same_new hp _) _ _ (dps_cut _ _ h2)))⟩
  case tuple =>
    cases hr
    cases hx with
    | @tup aa vs _ h1 h2 =>
      refine .inr (.inl ⟨_, _, rfl, h1, fun e => ?_, fun _ p hp => q4 _ (same_new hp _) _ (.tup (SqT.of upd_same) (dps_mono (same_new hp _) _ _ (dps_cut _ _ h2)))⟩)
      have e2 : cutP z lo' hi' = z := by
        unfold cutP
        rw [← dps_len h2, e.1, e.2, List.drop_zero, Nat.sub_zero, dps_len h2, List.take_length]
      rw [e2] at q4
      exact q4.now _ (.tup h1 h2)
  case str =>
    split at hr <;> cases hr
    rename_i hz
    cases hx
    exact .inr (.inr ⟨zS, rfl, Nat.le_trans hz big_line, q4.now _ (.str _)⟩)
end
end DL

set_option Elab.async false
set_option linter.all false
set_option maxRecDepth 100000
set_option maxHeartbeats 2000000
namespace DL
open PySem L2 PyProof.Rows

/-! ### calls of built-ins by name -/
def rCD (K : PySem.W.Frag) (g : List PyData → Option PyData) : List V → Hp → VK → Prop := fun vs H Q => ∃ ds r, DpAll K H vs ds ∧ g ds = some r ∧ fut H fun H' => ∀ v, Dp K H' v r → Q v H'
section
variable {X : Cx} {W : Wis} {a b c : Expr} {pos : Pos}
theorem callR_weak {f : Value} {r r' : List V → Hp → VK → Prop} (h : CallR X f r) (w : ∀ vs H Q, r' vs H Q → r vs H Q) : CallR X f r' := fun pins s σ H xs us Q I rv q => h pins s σ H xs us Q I rv (w _ _ _ q)
theorem cb_then {g : List PyData → Option PyData} {f : SA} {K : PySem.W.Frag} {σ : L2.St} {H : Hp} {Q : VK} (h : tD K W (eArgs g f) σ H Q) : tCB (rCD K g) (taD K W f) σ H Q := by
  obtain ⟨ρ, hE, q⟩ := h
  refine taD_mono (taD_then hE q) fun xs H1 ⟨ds, hx, s1, hE1, q1⟩ => ?_
  obtain ⟨r, hr, q2⟩ := Res.post_of q1
  exact ⟨ds, r, hx, hr, q2⟩
theorem ed_callB {x : Str} {id : String} {p : Pos} {es : List Expr} {g : List PyData → Option PyData} {f : SA} (hc : CallR X (.builtin id) (rCD X.K g)) (hm : X.mg x = none) (ha : PA X (a :: es) (taD X.K W f)) (hv : bootBuiltins x = some (.builtin id) := by decide +kernel) (hg : Gl X x := by rfl)
    (hn : x ≠ "__name__" := by decide) (hdb : (x == ("__debug__" : Str)) = false := by decide) (he : starEach (a :: es) X.env = (false, eval a X.env) :: starEach es X.env := by rfl) (hpl : (backTo pos (starEach es X.env)).any (·.1) = false := by rfl) :
    PE X (.Call (.Name x p) (a :: es) [] pos) (tD X.K W (eArgs g f)) := pe_weak (pe_callB hc hg hm hv ha hn hdb he hpl) fun σ H Q h => cb_then h
theorem ed_callT {x : Str} {T : String} {p : Pos} {es : List Expr} {g : List PyData → Option PyData} {f : SA} (hc : CallR X (.type T) (rCD X.K g)) (hm : X.mg x = none) (ha : PA X (a :: es) (taD X.K W f)) (hv : bootBuiltins x = some (.type T) := by decide +kernel) (hg : Gl X x := by rfl)
    (hn : x ≠ "__name__" := by decide) (hdb : (x == ("__debug__" : Str)) = false := by decide) (he : starEach (a :: es) X.env = (false, eval a X.env) :: starEach es X.env := by rfl) (hpl : (backTo pos (starEach es X.env)).any (·.1) = false := by rfl) :
    PE X (.Call (.Name x p) (a :: es) [] pos) (tD X.K W (eArgs g f)) := pe_weak (pe_callTy hc hg hm hv ha hn hdb he hpl) fun σ H Q h => cb_then h
/-! what each asks -/
theorem cd_len : CallR X (.builtin "len") (rCD X.K lenD) := callR_weak call_len fun vs H Q ⟨ds, r, hd, hg, q⟩ => by
  match ds, vs, hd, hg with
  | [.list xs], _, .cons (.lst h1 h2) .nil, hg =>
    simp only [lenD, Option.some.injEq] at hg
    subst hg
    exact ⟨_, _, rfl, .inl ⟨_, h1, rfl⟩, by rw [dps_len h2]; exact q.now _ (.int _)⟩
  | [.tuple xs], _, .cons (.tup h1 h2) .nil, hg =>
    simp only [lenD, Option.some.injEq] at hg
    subst hg
    exact ⟨_, _, rfl, .inr ⟨_, h1, rfl⟩, by rw [dps_len h2]; exact q.now _ (.int _)⟩
  | [.str z], _, .cons (.str _) .nil, hg =>
    simp only [lenD] at hg
    split at hg <;> cases hg
    rename_i hz
    exact ⟨_, _, rfl, ⟨Nat.le_trans hz big_line, rfl⟩, q.now _ (.int _)⟩
theorem cd_list : CallR X (.type "list") (rCD X.K listD) := callR_weak call_list_of fun vs H Q ⟨ds, r, hd, hg, q⟩ => by
  match ds, vs, hd, hg with
  | [.list xs], _, .cons (.lst h1 h2) .nil, hg =>
    simp only [listD, Option.some.injEq] at hg
    subst hg
    exact ⟨_, _, rfl, .inl h1, fun p hp => q _ (same_new hp _) _ (.lst (SqL.of upd_same) (dps_mono (same_new hp _) _ _ h2))⟩
  | [.tuple xs], _, .cons (.tup h1 h2) .nil, hg =>
    simp only [listD, Option.some.injEq] at hg
    subst hg
    exact ⟨_, _, rfl, .inr h1, fun p hp => q _ (same_new hp _) _ (.lst (SqL.of upd_same) (dps_mono (same_new hp _) _ _ h2))⟩
theorem cd_tuple : CallR X (.type "tuple") (rCD X.K tupleD) := callR_weak call_tuple_of fun vs H Q ⟨ds, r, hd, hg, q⟩ => by
  match ds, vs, hd, hg with
  | [.list xs], _, .cons (.lst h1 h2) .nil, hg =>
    simp only [tupleD, Option.some.injEq] at hg
    subst hg
    exact ⟨_, _, rfl, .inl ⟨h1, fun p hp => q _ (same_new hp _) _ (.tup (SqT.of upd_same) (dps_mono (same_new hp _) _ _ h2))⟩⟩
  | [.tuple xs], _, .cons (.tup h1 h2) .nil, hg =>
    simp only [tupleD, Option.some.injEq] at hg
    subst hg
    exact ⟨_, _, rfl, .inr ⟨h1, q.now _ (.tup h1 h2)⟩⟩
theorem cd_int : CallR X (.type "int") (rCD X.K intD) := callR_weak call_int1 fun vs H Q ⟨ds, r, hd, hg, q⟩ => by
  match ds, vs, hd, hg with
  | [.int i], _, .cons (.int _) .nil, hg =>
    simp only [intD, Option.some.injEq] at hg
    subst hg
    exact .inl ⟨_, rfl, q.now _ (.int _)⟩
  | [.bool k], _, .cons (.bl _) .nil, hg =>
    simp only [intD, Option.some.injEq] at hg
    subst hg
    exact .inr ⟨_, rfl, q.now _ (.int _)⟩
theorem cd_max2 (hc : X.calm = true) : CallR X (.builtin "max") (rCD X.K max2D) := callR_weak (call_max2 hc) fun vs H Q ⟨ds, r, hd, hg, q⟩ => by
  match ds, vs, hd, hg with
  | [.int i, .int j], _, .cons (.int _) (.cons (.int _) .nil), hg =>
    simp only [max2D, Option.some.injEq] at hg
    subst hg
    exact ⟨_, _, rfl, q.now _ (.int _)⟩
theorem cd_min2 (hc : X.calm = true) : CallR X (.builtin "min") (rCD X.K min2D) := callR_weak (call_min2 hc) fun vs H Q ⟨ds, r, hd, hg, q⟩ => by
  match ds, vs, hd, hg with
  | [.int i, .int j], _, .cons (.int _) (.cons (.int _) .nil), hg =>
    simp only [min2D, Option.some.injEq] at hg
    subst hg
    exact ⟨_, _, rfl, q.now _ (.int _)⟩
theorem bools_map : ∀ {xs : List PyData} {bs : List Bool}, bools xs = some bs → xs = bs.map PyData.bool
  | [], bs, h => by cases h; rfl
  | .bool b :: r, bs, h => by
    simp only [bools, Option.map_eq_some_iff] at h
    obtain ⟨cs, h1, rfl⟩ := h
    rw [bools_map h1]
    rfl
  | .none :: r, bs, h => by simp [bools] at h
  | .int _ :: r, bs, h => by simp [bools] at h
  | .str _ :: r, bs, h => by simp [bools] at h
  | .list _ :: r, bs, h => by simp [bools] at h
  | .tuple _ :: r, bs, h => by simp [bools] at h
  | .dict _ :: r, bs, h => by simp [bools] at h
theorem strsOf_map : ∀ {xs : List PyData} {bs : List Str}, strsOf xs = some bs → xs = bs.map PyData.str
  | [], bs, h => by cases h; rfl
  | .str b :: r, bs, h => by
    simp only [strsOf, Option.map_eq_some_iff] at h
    obtain ⟨cs, h1, rfl⟩ := h
    rw [strsOf_map h1]
    rfl
  | .none :: r, bs, h => by simp [strsOf] at h
  | .int _ :: r, bs, h => by simp [strsOf] at h
  | .bool _ :: r, bs, h => by simp [strsOf] at h
  | .list _ :: r, bs, h => by simp [strsOf] at h
  | .tuple _ :: r, bs, h => by simp [strsOf] at h
  | .dict _ :: r, bs, h => by simp [strsOf] at h
theorem cd_all (hc : X.calm = true) : CallR X (.builtin "all") (rCD X.K allD) := callR_weak (cr_all hc) fun vs H Q ⟨ds, r, hd, hg, q⟩ => by
  match ds, vs, hd, hg with
  | [.list xs], _, .cons (.lst h1 h2) .nil, hg =>
    simp only [allD, Option.map_eq_some_iff] at hg
    obtain ⟨bs, hb, rfl⟩ := hg
    rw [bools_map hb] at h2
    rw [dps_bls_of h2] at h1
    exact ⟨_, bs, rfl, h1, q.now _ (.bl _)⟩
/-! isinstance -/
theorem kit_all (t T : String) (ht : t ∈ ["NoneType", "bool", "int", "str", "list", "tuple"]) (hT : T ∈ ["bool", "int", "str", "list", "tuple"]) : kitB t T = some (t == T || (t == "bool" && T == "int")) := by
  simp only [List.mem_cons, List.not_mem_nil, or_false] at ht hT
  rcases ht with rfl | rfl | rfl | rfl | rfl | rfl <;> rcases hT with rfl | rfl | rfl | rfl | rfl <;> decide +kernel
theorem ty_of {K : PySem.W.Frag} {H : Hp} {v : V} {d : PyData} (h : Dp K H v d) : TyX K H v (.type (tyN d)) := by
  cases h with
  | non => exact .base .non
  | bl b => exact .base (.bl b)
  | int i => exact .base (.int i)
  | str x => exact .base (.str x)
  | lst h1 h2 =>
    rcases h1 with (h1 | ⟨o, h1⟩) | ⟨o, its, n, h1, h3, _⟩
    · exact .base (.lst h1)
    · exact .base (.frz h1)
    · exact .kList h1 h3
  | tup h1 h2 =>
    rcases h1 with (h1 | ⟨o, h1⟩) | ⟨o, its, n, h1, h3, _⟩
    · exact .base (.tup h1)
    · exact .fTuple h1
    · exact .kTuple h1 h3
  | dct h1 h2 => exact .base (.dK h1)
theorem ed_isi {T : String} {tn : Str} {p p2 : Pos} {f : SE} (hm : X.mg "isinstance" = none) (hmT : X.mg tn = none) (hT : T ∈ ["bool", "int", "str", "list", "tuple"]) (ha : PE X a (tD X.K W f)) (hvT : bootBuiltins tn = some (.type T) := by decide +kernel) (hgT : Gl X tn := by rfl) (hg : Gl X "isinstance" := by rfl)
    (hnT : tn ≠ "__name__" := by decide) (hdT : (tn == ("__debug__" : Str)) = false := by decide) (hs : starEach (a :: [.Name tn p2]) X.env = (false, eval a X.env) :: starEach [.Name tn p2] X.env := by rfl)
    (hs2 : starEach ((.Name tn p2) :: []) X.env = (false, eval (.Name tn p2) X.env) :: starEach [] X.env := by rfl) (hpl : (backTo pos (starEach [.Name tn p2] X.env)).any (·.1) = false := by rfl) :
    PE X (.Call (.Name "isinstance" p) [a, .Name tn p2] [] pos) (tD X.K W (eUn (isiD T) f)) := by
  refine pe_weak (pe_callB call_isi hg hm (by decide +kernel) (pa_cons ha (pa_cons (pe_bltn (v := .ty T) hgT hmT hvT rfl hnT hdT) pa_nil hs2) hs) (by decide) (by decide) hs hpl) fun σ H Q h => ?_
  obtain ⟨ρ, hE, q⟩ := h
  refine tD_mono (tD_then hE q) fun x H1 ⟨d, hx, s1, hE1, q1⟩ => ?_
  obtain ⟨r, hr, q2⟩ := Res.post_of q1
  have hk : ∃ b, r = .bool b ∧ kitB (tyN d) T = some b := by
    cases d <;> simp only [isiD, Option.some.injEq, reduceCtorEq] at hr
    all_goals
      subst hr
      refine ⟨_, rfl, ?_⟩
      rw [kit_all _ T (by simp [tyN]) hT]
      simp only [List.mem_cons, List.not_mem_nil, or_false] at hT
      simp only [tyN]
      rcases hT with rfl | rfl | rfl | rfl | rfl <;> decide
  obtain ⟨b, rfl, hb⟩ := hk
  exact ⟨_, _, _, _, b, rfl, .ty T, ty_of hx, kit_ty hb, q2.now _ (.bl _)⟩

/-! ### methods of texts -/
theorem mtR_weak {id : String} {r r' : V → List V → Hp → VK → Prop} (h : MtR X id r) (w : ∀ x vs H Q, r' x vs H Q → r x vs H Q) : MtR X id r' := fun pins s σ H x xs v us Q I rx rs q => h pins s σ H x xs v us Q I rx rs (w _ _ _ _ q)
def rMD (K : PySem.W.Frag) (g : Str → PyData → Option PyData) : V → List V → Hp → VK → Prop := fun x vs H Q => ∃ z y e r, x = .str z ∧ vs = [y] ∧ Dp K H y e ∧ g z e = some r ∧ fut H fun H' => ∀ v, Dp K H' v r → Q v H'
/-- a text's method of one argument, of none -/
def eM1 (g : Str → PyData → Option PyData) (f h : SE) : SE := fun ρ => (f ρ).bind fun x => match x with
  | .str z => (h ρ).bind fun y => Res.of (g z y)
  | _ => .bad
def eM0 (g : Str → Option PyData) (f : SE) : SE := fun ρ => (f ρ).bind fun x => match x with
  | .str z => Res.of (g z)
  | _ => .bad
theorem ed_m1 {id : String} {name : Str} {apos : Pos} {g : Str → PyData → Option PyData} {f h : SE} (slot : Slot "str" name id) (ty : typeOf (.builtin id) = pure (.type "method_descriptor")) (rule : MtR X id (rMD X.K g))
    (ho : PE X a (tD X.K W f)) (he : PE X b (tD X.K W h)) (hs : starEach [b] X.env = [(false, eval b X.env)] := by rfl) (hbase : attributeBase a name X.env (eval a X.env) = eval a X.env := by rfl) (hline : (apos.endLine == pos.line) = true := by rfl) :
    PE X (.Call (.Attribute a name apos) [b] [] pos) (tD X.K W (eM1 g f h)) := by
  refine pe_weak (pe_m1 slot ty rule ho he hs hbase hline) fun σ H Q q => ?_
  obtain ⟨ρ, hE, q⟩ := q
  refine tD_mono (tD_then hE q) fun x H1 ⟨d, hx, s1, hE1, q1⟩ => ?_
  obtain ⟨z, rfl, rfl⟩ : ∃ z, d = .str z ∧ x = .str z := by
    cases hx with
    | str z => exact ⟨z, rfl, rfl⟩
    | _ => exact q1.elim
  refine ⟨⟨z, rfl⟩, tD_mono (tD_then hE1 q1) fun y H2 ⟨e, hy, s2, hE2, q2⟩ => ?_⟩
  obtain ⟨r, hr, q3⟩ := Res.post_of q2
  exact ⟨z, y, e, r, rfl, rfl, hy, hr, q3⟩
theorem ed_m0 {id : String} {name : Str} {apos : Pos} {g : Str → Option PyData} {f : SE} (slot : Slot "str" name id) (ty : typeOf (.builtin id) = pure (.type "method_descriptor"))
    (rule : MtR X id (fun x vs H Q => ∃ z r, x = .str z ∧ vs = [] ∧ g z = some r ∧ fut H fun H' => ∀ v, Dp X.K H' v r → Q v H'))
    (ho : PE X a (tD X.K W f)) (hbase : attributeBase a name X.env (eval a X.env) = eval a X.env := by rfl) (hline : (apos.endLine == pos.line) = true := by rfl) :
    PE X (.Call (.Attribute a name apos) [] [] pos) (tD X.K W (eM0 g f)) := by
  refine pe_weak (pe_m0 slot ty rule ho hbase hline) fun σ H Q q => ?_
  obtain ⟨ρ, hE, q⟩ := q
  refine tD_mono (tD_then hE q) fun x H1 ⟨d, hx, s1, hE1, q1⟩ => ?_
  obtain ⟨z, rfl, rfl⟩ : ∃ z, d = .str z ∧ x = .str z := by
    cases hx with
    | str z => exact ⟨z, rfl, rfl⟩
    | _ => exact q1.elim
  obtain ⟨r, hr, q3⟩ := Res.post_of q1
  exact ⟨⟨z, rfl⟩, z, r, rfl, rfl, hr, q3⟩
def joinD (z : Str) : PyData → Option PyData
  | .list ds => (strsOf ds).bind fun ys => if (ys.map (·.length)).sum + ys.length * z.length ≤ big then some (.str (Str.join z ys)) else none
  | _ => none
def indexD (z : Str) : PyData → Option PyData
  | .str b => (Builtin.Str.occurrences z b 0 z.length 1).head?.map fun i => .int (i : Nat)
  | _ => none
def findD (z : Str) : PyData → Option PyData
  | .str b => some (.int (Txt.find z b))
  | _ => none
def upperD (z : Str) : Option PyData := if z.length ≤ big then some (.str (Txt.upper z)) else none
theorem md_join : MtR X "str.join" (rMD X.K joinD) := mtR_weak mt_join fun x vs H Q ⟨z, y, e, r, hx, hv, hy, hg, q⟩ => by
  subst hx hv
  obtain ⟨a, xs, ds, rfl, rfl, h1, h2⟩ : ∃ a xs ds, e = .list ds ∧ y = .ref a ∧ SqL X.K H a xs ∧ DpAll X.K H xs ds := by
    cases hy with
    | lst h1 h2 => exact ⟨_, _, _, rfl, rfl, h1, h2⟩
    | _ => simp [joinD] at hg
  simp only [joinD] at hg
  simp only [Option.bind_eq_some_iff] at hg
  obtain ⟨ys, hs, hg⟩ := hg
  split at hg <;> cases hg
  rename_i hz
  rw [strsOf_map hs] at h2
  rw [dps_strs_of h2] at h1
  refine ⟨z, _, ys, rfl, rfl, .inl h1, Nat.le_trans hz (by decide), ?_⟩
  rw [TL.join_eq]
  exact q.now _ (.str _)
theorem md_index : MtR X "str.index" (rMD X.K indexD) := mtR_weak mt_sindex fun x vs H Q ⟨z, y, e, r, hx, hv, hy, hg, q⟩ => by
  subst hx hv
  obtain ⟨b, rfl, rfl⟩ : ∃ b, e = .str b ∧ y = .str b := by
    cases hy with
    | str z => exact ⟨z, rfl, rfl⟩
    | _ => simp [indexD] at hg
  simp only [indexD] at hg
  cases ho : Builtin.Str.occurrences z b 0 z.length 1 with
  | nil => rw [ho] at hg; cases hg
  | cons i rest =>
    rw [ho] at hg
    cases hg
    exact ⟨z, b, i, rest, rfl, rfl, ho, q.now _ (.int _)⟩
theorem md_find : MtR X "str.find" (rMD X.K findD) := mtR_weak mt_find fun x vs H Q ⟨z, y, e, r, hx, hv, hy, hg, q⟩ => by
  subst hx hv
  cases hy <;> simp only [findD, reduceCtorEq] at hg
  cases hg
  exact ⟨z, _, rfl, rfl, q.now _ (.int _)⟩
theorem md_upper : MtR X "str.upper" (fun x vs H Q => ∃ z r, x = .str z ∧ vs = [] ∧ upperD z = some r ∧ fut H fun H' => ∀ v, Dp X.K H' v r → Q v H') := mtR_weak mt_upper fun x vs H Q ⟨z, r, hx, hv, hg, q⟩ => by
  subst hx hv
  unfold upperD at hg
  split at hg <;> cases hg
  rename_i hz
  exact ⟨z, rfl, rfl, Nat.le_trans hz (by decide), q.now _ (.str _)⟩
theorem ed_join {apos : Pos} {f h : SE} (ho : PE X a (tD X.K W f)) (he : PE X b (tD X.K W h)) (hs : starEach [b] X.env = [(false, eval b X.env)] := by rfl) (hbase : attributeBase a "join" X.env (eval a X.env) = eval a X.env := by rfl) (hline : (apos.endLine == pos.line) = true := by rfl) :
    PE X (.Call (.Attribute a "join" apos) [b] [] pos) (tD X.K W (eM1 joinD f h)) := ed_m1 F.slot_str_join F.type_str_join md_join ho he hs hbase hline
theorem ed_sindex {apos : Pos} {f h : SE} (ho : PE X a (tD X.K W f)) (he : PE X b (tD X.K W h)) (hs : starEach [b] X.env = [(false, eval b X.env)] := by rfl) (hbase : attributeBase a "index" X.env (eval a X.env) = eval a X.env := by rfl) (hline : (apos.endLine == pos.line) = true := by rfl) :
    PE X (.Call (.Attribute a "index" apos) [b] [] pos) (tD X.K W (eM1 indexD f h)) := ed_m1 F.slot_str_index F.type_str_index md_index ho he hs hbase hline
theorem ed_find {apos : Pos} {f h : SE} (ho : PE X a (tD X.K W f)) (he : PE X b (tD X.K W h)) (hs : starEach [b] X.env = [(false, eval b X.env)] := by rfl) (hbase : attributeBase a "find" X.env (eval a X.env) = eval a X.env := by rfl) (hline : (apos.endLine == pos.line) = true := by rfl) :
    PE X (.Call (.Attribute a "find" apos) [b] [] pos) (tD X.K W (eM1 findD f h)) := ed_m1 F.slot_str_find F.type_str_find md_find ho he hs hbase hline
theorem ed_upper {apos : Pos} {f : SE} (ho : PE X a (tD X.K W f)) (hbase : attributeBase a "upper" X.env (eval a X.env) = eval a X.env := by rfl) (hline : (apos.endLine == pos.line) = true := by rfl) :
    PE X (.Call (.Attribute a "upper" apos) [] [] pos) (tD X.K W (eM0 upperD f)) := ed_m0 F.slot_str_upper F.type_str_upper md_upper ho hbase hline

/-! ### calls of the text's defs -/
def spD (K : PySem.W.Frag) (cls : Nat → Value) (n : Nat) (g : List PyData → Res PyData) : Sp := fun vs H Q E => vs.length = n ∧ ∃ ds, DpAll K H vs ds ∧ (g ds).post (fun d => fut H fun H' => ∀ v, Dp K H' v d → Q v H') fun m => fut H fun H' => E (cls m) none H'
structure Callee (P : Program) (w : World) (K : PySem.W.Frag) (mg : Str → Option Value) (base : Heap) (CX : CXT) (cls : Nat → Value) (x : Str) (k : Nat) (ps : List Str) (g : List PyData → Res PyData) : Prop where
  ex : ∃ f fd, FnOk P w K mg base CX k f fd ps (spD K cls ps.length g) ∧ mg x = some (.ref f) ∧ PySem.W.keepIn K (.ref f) = true ∧ Binds K fd ps [] ∧ ∃ oc od osl, K.lookup f = some ⟨oc, od, .func fd, osl⟩
def wishE (cls : Nat → Value) (W : Wis) : XK := fun c d H => ∃ m, c = cls m ∧ d = none ∧ W m H
theorem sp_then {K : PySem.W.Frag} {cls : Nat → Value} {n : Nat} {g : List PyData → Res PyData} {f : SA} {σ : L2.St} {H : Hp} {Q : VK} (hn : ∀ ρ ds, f ρ = .ok ds → ds.length = n) (h : tD K W (eCall g f) σ H Q) :
    tCall (spD K cls n g) [] (wishE cls W) (taD K W f) σ H Q := by
  obtain ⟨ρ, hE, q⟩ := h
  unfold eCall at q
  cases hfr : f ρ with
  | bad => rw [hfr] at q; exact q.elim
  | ex m => rw [hfr] at q; exact ⟨ρ, hE, by rw [hfr]; exact q⟩
  | ok ds =>
    rw [hfr] at q
    refine ⟨ρ, hE, ?_⟩
    rw [hfr]
    intro H1 s1 vs hvs
    rw [List.append_nil]
    refine ⟨(dps_len hvs).trans (hn ρ ds hfr), ds, hvs, q.mono (fun d r => r.on s1) fun m r H' s' => ⟨m, rfl, rfl, r _ (s1.trans s')⟩⟩
theorem ed_call {CX : CXT} {cls : Nat → Value} {x : Str} {k : Nat} {ps : List Str} {g : List PyData → Res PyData} {p : Pos} {es : List Expr} {f : SA} (C : Callee X.prog X.w X.K X.mg X.base CX cls x k ps g) (hr : Room k X.A) (hx : Passes CX X (wishE cls W)) (ha : PA X (a :: es) (taD X.K W f))
    (hn : ∀ ρ ds, f ρ = .ok ds → ds.length = ps.length) (hg : Gl X x := by rfl) (hdb : (x == ("__debug__" : Str)) = false := by decide) (he : starEach (a :: es) X.env = (false, eval a X.env) :: starEach es X.env := by rfl) (hpl : (backTo pos (starEach es X.env)).any (·.1) = false := by rfl) :
    PE X (.Call (.Name x p) (a :: es) [] pos) (tD X.K W (eCall g f)) := by
  obtain ⟨fa, fd, F, hm, hk, hb, _⟩ := C.ex
  exact pe_weak (pe_call F hr hg hm hk hb .nil hx ha hdb he hpl) fun σ H Q h => sp_then hn h
theorem passD {cls : Nat → Value} : Passes CX0 X (wishE cls W) := fun _ _ _ _ _ _ _ h => h.elim
theorem an_nil (ρ : PEnv) (ds : List PyData) (h : aNil ρ = .ok ds) : ds.length = 0 := by cases h; rfl
theorem an_cons {n : Nat} {f : SE} {g : SA} (hg : ∀ ρ ds, g ρ = .ok ds → ds.length = n) (ρ : PEnv) (ds : List PyData) (h : aCons f g ρ = .ok ds) : ds.length = n + 1 := by
  unfold aCons at h
  cases h1 : f ρ with
  | ok d =>
    rw [h1] at h
    cases h2 : g ρ with
    | ok es =>
      rw [h2] at h
      cases h
      exact congrArg (· + 1) (hg ρ es h2)
    | ex m => rw [h2] at h; cases h
    | bad => rw [h2] at h; cases h
  | ex m => rw [h1] at h; cases h
  | bad => rw [h1] at h; cases h
end
end DL

set_option Elab.async false
set_option linter.all false
set_option maxRecDepth 100000
set_option maxHeartbeats 2000000
namespace DL
open PySem L2 PyProof.Rows

/-! ### what is walked -/
/-- the iterator J gives the data ds -/
def Walks (K : PySem.W.Frag) (J : It) (H : Hp) (ds : List PyData) : Prop := ∀ (i : Nat) (H' : Hp), Same H H' →
  (∀ d, ds[i]? = some d → J.go i H' ∧ ∀ x H2, J.yld i H' x H2 → H2 = H' ∧ Dp K H' x d) ∧ (ds.length ≤ i → J.stop i H')
theorem Walks.mono {K : PySem.W.Frag} {J : It} {H H' : Hp} {ds : List PyData} (h : Walks K J H ds) (s : Same H H') : Walks K J H' ds := fun i H2 s2 => h i H2 (s.trans s2)
def tiD (K : PySem.W.Frag) (W : Wis) (f : SA) : TI := fun σ H R => ∃ ρ, EnvR K H σ ρ ∧ (f ρ).post (fun ds => fut H fun H' => ∀ J, Walks K J H' ds → R J H') fun n => fut H (W n)
theorem pi_weak {X : Cx} {tg iter : Expr} {t t' : TI} (h : PI X tg iter t) (w : ∀ σ H R, t' σ H R → t σ H R) : PI X tg iter t' := ⟨fun pins s σ H R I q => h.run pins s σ H R I (w σ H R q)⟩
def sList (f : SE) : SA := fun ρ => (f ρ).bind fun x => match x with
  | .list xs => .ok xs
  | _ => .bad
def sTup (f : SE) : SA := fun ρ => (f ρ).bind fun x => match x with
  | .tuple xs => .ok xs
  | _ => .bad
def sStr (f : SE) : SA := fun ρ => (f ρ).bind fun x => match x with
  | .str z => .ok (z.cps.toList.map fun c => .str ⟨#[c]⟩)
  | _ => .bad
def upTo (lo : Int) (n : Nat) : List PyData := (List.range n).map fun i => .int (lo + (i : Nat))
def sRng1 (f : SA) : SA := fun ρ => (f ρ).bind fun xs => match xs with
  | [.int j] => if -big ≤ j ∧ j ≤ big then .ok (upTo 0 j.toNat) else .bad
  | _ => .bad
def sRng2 (f : SA) : SA := fun ρ => (f ρ).bind fun xs => match xs with
  | [.int i, .int j] => if -big ≤ i ∧ i ≤ big ∧ -big ≤ j ∧ j ≤ big then .ok (upTo i (j - i).toNat) else .bad
  | _ => .bad
theorem walks_lst {K : PySem.W.Frag} {H : Hp} {a : Addr} {xs : List V} {ds : List PyData} (h : SqL K H a xs) (hd : DpAll K H xs ds) : Walks K (Itl K a) H ds := fun i H' s => by
  have h' := s.seq h
  refine ⟨fun d e => ?_, fun e => ⟨xs, h', by rw [dps_len hd]; exact e⟩⟩
  obtain ⟨v, hv, hdv⟩ := dps_get (dps_mono s _ _ hd) e
  refine ⟨⟨xs, v, h', hv⟩, fun x H2 ⟨e2, y⟩ => ⟨e2, ?_⟩⟩
  have z := y xs h'
  rw [hv] at z
  cases z
  exact hdv
theorem walks_tup {K : PySem.W.Frag} {H : Hp} {a : Addr} {xs : List V} {ds : List PyData} (h : SqT K H a xs) (hd : DpAll K H xs ds) : Walks K (Itt K a) H ds := fun i H' s => by
  have h' := sqT_same s h
  refine ⟨fun d e => ?_, fun e => ⟨xs, h', by rw [dps_len hd]; exact e⟩⟩
  obtain ⟨v, hv, hdv⟩ := dps_get (dps_mono s _ _ hd) e
  refine ⟨⟨xs, v, h', hv⟩, fun x H2 ⟨e2, y⟩ => ⟨e2, ?_⟩⟩
  have z := y xs h'
  rw [hv] at z
  cases z
  exact hdv
theorem walks_rng {K : PySem.W.Frag} {H : Hp} {lo : Int} {n : Nat} : Walks K (Itr lo n) H (upTo lo n) := fun i H' s => by
  refine ⟨fun d e => ?_, fun e => ?_⟩
  · unfold upTo at e
    rw [List.getElem?_map] at e
    cases q : (List.range n)[i]? with
    | none => rw [q] at e; cases e
    | some j =>
      rw [q] at e
      cases e
      obtain ⟨h1, h2⟩ := List.getElem?_eq_some_iff.mp q
      rw [List.getElem_range] at h2
      subst h2
      rw [List.length_range] at h1
      exact ⟨h1, fun x H2 ⟨e2, y⟩ => ⟨e2, by rw [y]; exact .int _⟩⟩
  · unfold upTo at e
    rw [List.length_map, List.length_range] at e
    exact e
theorem walks_str {K : PySem.W.Frag} {H : Hp} {z : Str} : Walks K (Its z) H (z.cps.toList.map fun c => .str ⟨#[c]⟩) := fun i H' s => by
  refine ⟨fun d e => ?_, fun e => ?_⟩
  · rw [List.getElem?_map, Array.getElem?_toList] at e
    cases q : z.cps[i]? with
    | none => rw [q] at e; cases e
    | some c =>
      rw [q] at e
      cases e
      refine ⟨(Array.getElem?_eq_some_iff.mp q).1, fun x H2 ⟨e2, c2, y, e3⟩ => ⟨e2, ?_⟩⟩
      rw [q] at y
      cases y
      rw [e3]
      exact .str _
  · rw [List.length_map, Array.length_toList] at e
    exact e
section
variable {X : Cx} {W : Wis} {a b tg : Expr} {pos : Pos}
theorem id_list {f : SE} (h : PE X a (tD X.K W f)) : PI X tg a (tiD X.K W (sList f)) := pi_weak (pi_list h) fun σ H R q => by
  obtain ⟨ρ, hE, q⟩ := q
  refine tD_mono (tD_then hE q) fun x H1 ⟨d, hx, s1, hE1, q1⟩ => ?_
  cases hx with
  | lst h1 h2 => exact ⟨_, rfl, ⟨_, h1⟩, q1.now _ (walks_lst h1 h2)⟩
  | _ => exact q1.elim
theorem id_tup {f : SE} (h : PE X a (tD X.K W f)) : PI X tg a (tiD X.K W (sTup f)) := pi_weak (pi_tup h) fun σ H R q => by
  obtain ⟨ρ, hE, q⟩ := q
  refine tD_mono (tD_then hE q) fun x H1 ⟨d, hx, s1, hE1, q1⟩ => ?_
  cases hx with
  | tup h1 h2 => exact ⟨_, rfl, ⟨_, h1⟩, q1.now _ (walks_tup h1 h2)⟩
  | _ => exact q1.elim
theorem id_str {f : SE} (h : PE X a (tD X.K W f)) : PI X tg a (tiD X.K W (sStr f)) := pi_weak (pi_str h) fun σ H R q => by
  obtain ⟨ρ, hE, q⟩ := q
  refine tD_mono (tD_then hE q) fun x H1 ⟨d, hx, s1, hE1, q1⟩ => ?_
  cases hx with
  | str z => exact ⟨_, rfl, q1.now _ walks_str⟩
  | _ => exact q1.elim
theorem id_rng1 {f : SA} {p : Pos} (hm : X.mg "range" = none) (ha : PA X [a] (taD X.K W f)) (hg : Gl X "range" := by rfl) (hs : starEach [a] X.env = [(false, eval a X.env)] := by rfl) : PI X tg (.Call (.Name "range" p) [a] [] pos) (tiD X.K W (sRng1 f)) :=
  pi_weak (pi_range1 hg hm ha hs) fun σ H R q => by
  obtain ⟨ρ, hE, q⟩ := q
  refine taD_mono (taD_then hE q) fun x H1 ⟨d, hx, s1, hE1, q1⟩ => ?_
  split at q1
  · split at q1
    · rename_i j hj
      cases hx with
      | cons h1 h2 =>
        cases h1; cases h2
        simp only [big] at hj
        exact ⟨j, rfl, by omega, by omega, q1.now _ walks_rng⟩
    · exact q1.elim
  · exact q1.elim
theorem id_rng2 {f : SA} {p : Pos} (hm : X.mg "range" = none) (ha : PA X [a, b] (taD X.K W f)) (hg : Gl X "range" := by rfl) (hs : starEach [a, b] X.env = [(false, eval a X.env), (false, eval b X.env)] := by rfl) (hs2 : starEach [b] X.env = [(false, eval b X.env)] := by rfl) :
    PI X tg (.Call (.Name "range" p) [a, b] [] pos) (tiD X.K W (sRng2 f)) := pi_weak (pi_range2 hg hm ha hs hs2) fun σ H R q => by
  obtain ⟨ρ, hE, q⟩ := q
  refine taD_mono (taD_then hE q) fun x H1 ⟨d, hx, s1, hE1, q1⟩ => ?_
  split at q1
  · split at q1
    · rename_i i j hj
      cases hx with
      | cons h1 h2 =>
        cases h1
        cases h2 with
        | cons h1 h2 =>
        cases h1; cases h2
        simp only [big] at hj
        exact ⟨i, j, rfl, by omega, q1.now _ walks_rng⟩
    · exact q1.elim
  · exact q1.elim

/-! ### comprehensions -/
def Res.calm {α : Type} : Res α → Res α
  | .ok a => .ok a
  | _ => .bad
theorem Res.post_calm {α : Type} {r : Res α} {p : α → Prop} {e g : Nat → Prop} (h : (Res.calm r).post p e) : r.post p g := by
  cases r with
  | ok a => exact h
  | ex n => exact h.elim
  | bad => exact h.elim
def lcGo (env : PyData → PEnv) (t : ST) (f : SE) : List PyData → Res (List PyData)
  | [] => .ok []
  | d :: ds => (Res.calm (t (env d))).bind fun b => if b then (Res.calm (f (env d))).bind fun y => if frz y then (lcGo env t f ds).bind fun ys => .ok (y :: ys) else .bad else lcGo env t f ds
def eLc (i : Nat) (src : SA) (t : ST) (f : SE) : SE := fun ρ => (src ρ).bind fun xs => if xs.length ≤ big then (Res.calm (lcGo (fun d => (ρ.set i none).set i (some d)) t f xs)).bind fun ys => .ok (.list ys) else .bad
def tTrue : ST := fun _ => .ok true
theorem wipe_one {σ : L2.St} {i : Nat} {x : Option V} : wipe ((wipe σ [i]).set i x) [i] = wipe σ [i] := by
  simp [wipe]
theorem lcGo_le {env : PyData → PEnv} {t : ST} {f : SE} : ∀ {xs ys : List PyData}, lcGo env t f xs = .ok ys → ys.length ≤ xs.length
  | [], ys, h => by cases h; exact Nat.le_refl _
  | d :: ds, ys, h => by
    unfold lcGo at h
    cases h1 : Res.calm (t (env d)) with
    | ex n => rw [h1] at h; cases h
    | bad => rw [h1] at h; cases h
    | ok b =>
      rw [h1] at h
      cases b with
      | false => exact Nat.le_succ_of_le (lcGo_le h)
      | true =>
        simp only [Res.ok_bind, if_true] at h
        cases h2 : Res.calm (f (env d)) with
        | ex n => rw [h2] at h; cases h
        | bad => rw [h2] at h; cases h
        | ok y =>
          rw [h2] at h
          simp only [Res.ok_bind] at h
          split at h
          · cases h3 : lcGo env t f ds with
            | ex n => rw [h3] at h; cases h
            | bad => rw [h3] at h; cases h
            | ok zs =>
              rw [h3] at h
              cases h
              exact Nat.succ_le_succ (lcGo_le h3)
          · cases h
theorem lc_then {K : PySem.W.Frag} {i : Nat} {src : SA} {t : ST} {f : SE} {σ : L2.St} {H : Hp} {Q : VK} (q : tD K W (eLc i src t f) σ H Q) :
    tLc (tiD K W src) (gName i) (ttD K (fun _ _ => False) t) (tD K (fun _ _ => False) f) [i] σ H Q := by
  obtain ⟨ρ, hE, q⟩ := q
  unfold eLc at q
  refine ⟨ρ, hE, (Res.post_bind.mp q).mono (fun xs r H1 s1 J hJ D hD => ?_) fun n r => r⟩
  split at r
  · rename_i hz
    generalize hg : Res.calm (lcGo (fun d => (ρ.set i none).set i (some d)) t f xs) = g at r
    cases g with
    | bad => exact r.elim
    | ex n => cases hq : lcGo (fun d => (ρ.set i none).set i (some d)) t f xs <;> rw [hq] at hg <;> cases hg
    | ok tot =>
      have hg2 : lcGo (fun d => (ρ.set i none).set i (some d)) t f xs = .ok tot := by
        cases hq : lcGo (fun d => (ρ.set i none).set i (some d)) t f xs <;> rw [hq] at hg <;> cases hg
        rfl
      have htot := lcGo_le hg2
      refine ⟨fun k m H' => m = xs.length - k ∧ k ≤ xs.length ∧ Same H1 H' ∧ ∃ acc ys zs, H' D = some (.lst acc) ∧ DpAll K H' acc ys ∧ frzs ys = true ∧ lcGo (fun d => (ρ.set i none).set i (some d)) t f (xs.drop k) = .ok zs ∧ tot = ys ++ zs,
        ⟨xs.length, by simp, Nat.zero_le _, same_new hD _, [], [], tot, upd_same, .nil, rfl, by rw [List.drop_zero]; exact hg2, rfl⟩, ?_⟩
      rintro k m H' ⟨rfl, hk, s, acc, ys, zs, hacc, hys, hfr, hgo, htz⟩
      obtain ⟨w1, w2⟩ := hJ k H' s
      by_cases hlt : k < xs.length
      · have hx : xs[k]? = some xs[k] := List.getElem?_eq_getElem hlt
        obtain ⟨go, yl⟩ := w1 _ hx
        refine .inr ⟨go, fun H2 => Same H1 H2 ∧ ∃ acc ys zs, H2 D = some (.lst acc) ∧ DpAll K H2 acc ys ∧ frzs ys = true ∧ lcGo (fun d => (ρ.set i none).set i (some d)) t f (xs.drop (k + 1)) = .ok zs ∧ tot = ys ++ zs, fun H2 h2 => ⟨xs.length - (k + 1), by omega, rfl, hlt, h2⟩, fun x H2 y => ?_⟩
        obtain ⟨e2, hdx⟩ := yl x H2 y
        subst e2
        rw [List.drop_eq_getElem_cons hlt] at hgo
        unfold lcGo at hgo
        refine ⟨wipe_one, ?_⟩
        have hE2 : EnvR K H2 ((wipe σ [i]).set i (some x)) ((ρ.set i none).set i (some xs[k])) := by
          refine EnvR.set ?_ hdx
          exact (hE.mono (s1.trans s)).forget
        cases ht : t ((ρ.set i none).set i (some xs[k])) with
        | bad => rw [ht] at hgo; cases hgo
        | ex n => rw [ht] at hgo; cases hgo
        | ok b =>
          rw [ht] at hgo
          refine ⟨_, hE2, ?_⟩
          rw [ht]
          intro H3 s3
          cases b with
          | false =>
            exact iteF ⟨s.trans s3, acc, ys, zs, s3 _ _ hacc, dps_mono s3 _ _ hys, hfr, hgo, htz⟩
          | true =>
            refine iteT ?_
            simp only [Res.calm, Res.ok_bind, if_true] at hgo
            cases hf : f ((ρ.set i none).set i (some xs[k])) with
            | bad => rw [hf] at hgo; cases hgo
            | ex n => rw [hf] at hgo; cases hgo
            | ok y =>
              rw [hf] at hgo
              simp only [Res.calm, Res.ok_bind] at hgo
              split at hgo
              · rename_i hy
                refine ⟨_, hE2.mono s3, ?_⟩
                rw [hf]
                intro H4 s4 v hv
                cases hr : lcGo (fun d => (ρ.set i none).set i (some d)) t f (xs.drop (k + 1)) with
                | bad => rw [hr] at hgo; cases hgo
                | ex n => rw [hr] at hgo; cases hgo
                | ok zs' =>
                  rw [hr] at hgo
                  cases hgo
                  have hacc4 := s4 _ _ (s3 _ _ hacc)
                  have hla := dps_len hys
                  have hz2 := big_line
                  have h5 : acc.length < sizeLine := by
                    have h6 : tot.length = ys.length + (zs'.length + 1) := by rw [htz, List.length_append, List.length_cons]
                    omega
                  refine ⟨acc, hacc4, h5, fun b o q => ?_, acc ++ [v], ys ++ [y], zs', upd_same, dps_append (frzs_mono (sqT_lst hacc4) _ _ hfr (dps_mono (s3.trans s4) _ _ hys)) (.cons (frz_mono (sqT_lst hacc4) _ _ hy hv) .nil), ?_, rfl, by rw [htz, List.append_assoc]; rfl⟩
                  · rw [upd_ne (ne_of_none q hD)]
                    exact s4 _ _ (s3 _ _ (s _ _ q))
                  · have hfa : ∀ (as bs : List PyData), frzs (as ++ bs) = (frzs as && frzs bs) := by
                      intro as bs
                      induction as with
                      | nil => simp [frzs]
                      | cons a as ih => simp [frzs, ih, Bool.and_assoc]
                    rw [hfa, hfr]
                    simp [frzs, hy]
              · cases hgo
      · have e : k = xs.length := by omega
        subst e
        rw [List.drop_length] at hgo
        cases hgo
        refine .inl ⟨w2 (Nat.le_refl _), ?_⟩
        rw [List.append_nil] at htz
        subst htz
        exact r _ (s1.trans s) _ (.lst (SqL.of hacc) hys)
  · exact r.elim
theorem ed_lc {elt iter : Expr} {ifs : List Expr} {scope : Scope} {x : Str} {i : Nat} {src : SA} {t : ST} {f : SE} (hc : X.calm = true) (hN : X.N.Nodup) (hi : PI X tg iter (tiD X.K W src)) (ok : BlkOk X.N X.env.scope scope [(x, i)])
    (hg : ∀ (s : Shared) (H : Hp) (C : Addr) (cl : List (Str × Addr)) (fp : List Addr), PG (X.blk s H scope (compEnvC scope cl C X.env) fp) tg (gName i)) (ht : ∀ (s : Shared) (H : Hp) (C : Addr) (cl : List (Str × Addr)) (fp : List Addr), PTs (X.blk s H scope (compEnvC scope cl C X.env) fp) ifs (ttD X.K (fun _ _ => False) t))
    (he : ∀ (s : Shared) (H : Hp) (C : Addr) (cl : List (Str × Addr)) (fp : List Addr), PE (X.blk s H scope (compEnvC scope cl C X.env) fp) elt (tD X.K (fun _ _ => False) f)) (hs : ∀ x, foldedSetIterable iter X.env x = pure x := by intro _; rfl) :
    PE X (.ListComp elt [⟨tg, iter, ifs, 0⟩] scope pos) (tD X.K W (eLc i src t f)) :=
  pe_weak (pe_lc hc hN hi ok hg ht he hs) fun σ H Q q => lc_then q
theorem tds_nil : PTs X [] (ttD X.K W tTrue) := ⟨fun pins s σ H Q I h => pts_nil.run pins s σ H Q I (by
  obtain ⟨ρ, hE, q⟩ := h
  exact q.now)⟩
theorem tds_one {t : ST} (h : PT X a (ttD X.K W t)) : PTs X [a] (ttD X.K W t) := pts_one h
end
end DL

set_option Elab.async false
set_option linter.all false
set_option maxRecDepth 100000
set_option maxHeartbeats 2000000
namespace DL
open PySem L2 PyProof.Rows

/-! ### statements -/
def sNext : SS := fun ρ => .ok (.nx ρ)
def sSeq (F G : SS) : SS := fun ρ => (F ρ).bind fun o => match o with
  | .nx ρ' => G ρ'
  | .rt d => .ok (.rt d)
  | .bk ρ' => .ok (.bk ρ')
  | .ct ρ' => .ok (.ct ρ')
def sSet (i : Nat) (f : SE) : SS := fun ρ => (f ρ).bind fun d => .ok (.nx (ρ.set i (some d)))
def sDrop (f : SE) : SS := fun ρ => (f ρ).bind fun _ => .ok (.nx ρ)
def sRet (f : SE) : SS := fun ρ => (f ρ).bind fun d => .ok (.rt d)
def sRetN : SS := fun _ => .ok (.rt .none)
def sIf (t : ST) (F G : SS) : SS := fun ρ => (t ρ).bind fun b => if b then F ρ else G ρ
def sBreak : SS := fun ρ => .ok (.bk ρ)
def sCont : SS := fun ρ => .ok (.ct ρ)
/-- what a target does with a value -/
abbrev SG := PyData → PEnv → Option PEnv
abbrev SGs := List PyData → PEnv → Option PEnv
def gN (i : Nat) : SG := fun d ρ => some (ρ.set i (some d))
def gsNil : SGs := fun ds ρ => match ds with
  | [] => some ρ
  | _ => none
def gsCons (g : SG) (gs : SGs) : SGs := fun ds ρ => match ds with
  | d :: r => (g d ρ).bind fun ρ' => gs r ρ'
  | [] => none
def gT (n : Nat) (gs : SGs) : SG := fun d ρ => match d with
  | .tuple ds => if ds.length = n then gs ds ρ else none
  | _ => none
def sAsg (f : SE) (g : SG) : SS := fun ρ => (f ρ).bind fun d => (Res.of (g d ρ)).bind fun ρ' => .ok (.nx ρ')
def forGo (g : SG) (F : SS) : List PyData → PEnv → Res Out
  | [], ρ => .ok (.nx ρ)
  | d :: ds, ρ => (Res.of (g d ρ)).bind fun ρ1 => (F ρ1).bind fun o => match o with
    | .nx ρ' => forGo g F ds ρ'
    | .ct ρ' => forGo g F ds ρ'
    | .bk ρ' => .ok (.nx ρ')
    | .rt d => .ok (.rt d)
def sFor (src : SA) (g : SG) (F : SS) : SS := fun ρ => (src ρ).bind fun ds => forGo g F ds ρ
def whGo (t : ST) (F : SS) : Nat → PEnv → Res Out
  | 0, _ => .bad
  | n + 1, ρ => (t ρ).bind fun b => if b then (F ρ).bind fun o => match o with
      | .nx ρ' => whGo t F n ρ'
      | .ct ρ' => whGo t F n ρ'
      | .bk ρ' => .ok (.nx ρ')
      | .rt d => .ok (.rt d)
    else .ok (.nx ρ)
def sWh (n : Nat) (t : ST) (F : SS) : SS := whGo t F n
/-- reading of a target -/
def tgD (K : PySem.W.Frag) (g : SG) : TG := fun v σ H Q => ∃ d ρ, Dp K H v d ∧ EnvR K H σ ρ ∧ ∃ ρ', g d ρ = some ρ' ∧ ∀ σ', EnvR K H σ' ρ' → Q σ' H
def tgsD (K : PySem.W.Frag) (g : SGs) : TGs := fun vs σ H Q => ∃ ds ρ, DpAll K H vs ds ∧ EnvR K H σ ρ ∧ ∃ ρ', g ds ρ = some ρ' ∧ ∀ σ', EnvR K H σ' ρ' → Q σ' H
section
variable {X : Cx} {W : Wis} {a b tg : Expr} {pos : Pos} {st : Stmt} {rest : List Stmt} {F G : SS}
theorem pg_weak {t t' : TG} (h : PG X tg t) (w : ∀ v σ H Q, t' v σ H Q → t v σ H Q) : PG X tg t' := ⟨fun pins s σ H v u Q I r q => h.run pins s σ H v u Q I r (w v σ H Q q)⟩
theorem pgs_weak {ts : List Expr} {t t' : TGs} (h : PGs X ts t) (w : ∀ v σ H Q, t' v σ H Q → t v σ H Q) : PGs X ts t' := ⟨fun pins s σ H v u Q I r q => h.run pins s σ H v u Q I r (w v σ H Q q)⟩
theorem gd_name {i : Nat} {x : Str} (hN : X.N.Nodup) (hi : X.N[i]? = some x := by rfl) (hx : Loc X.env.scope x := by first | exact Or.inl rfl | exact Or.inr rfl) (hf : X.fn x = true ∨ X.env.scope.names.lookup x = some .local := by first | exact .inl rfl | exact .inr rfl | assumption) : PG X (.Name x pos) (tgD X.K (gN i)) :=
  pg_weak (pg_name hN hi hx hf) fun v σ H Q ⟨d, ρ, hv, hE, ρ', e, q⟩ => by
    cases e
    exact q _ (hE.set hv)
theorem gds_nil : PGs X [] (tgsD X.K gsNil) := pgs_weak pgs_nil fun v σ H Q ⟨ds, ρ, hv, hE, ρ', e, q⟩ => by
  cases hv with
  | nil => cases e; exact ⟨rfl, q _ hE⟩
  | cons _ _ => cases e
theorem gds_cons {e : Expr} {es : List Expr} {g : SG} {gs : SGs} (h1 : PG X e (tgD X.K g)) (h2 : PGs X es (tgsD X.K gs))
    (hs : (assignEach (e :: es) X.env).map (·.2) = assign e X.env :: (assignEach es X.env).map (·.2) := by rfl) : PGs X (e :: es) (tgsD X.K (gsCons g gs)) := pgs_weak (pgs_cons h1 h2 hs) fun v σ H Q ⟨ds, ρ, hv, hE, ρ', e, q⟩ => by
  cases hv with
  | nil => cases e
  | @cons v1 vs1 d1 ds1 h3 h4 =>
    simp only [gsCons, Option.bind_eq_some_iff] at e
    obtain ⟨ρ1, h5, e⟩ := e
    exact ⟨_, _, rfl, d1, ρ, h3, hE, ρ1, h5, fun σ1 hE1 => ⟨ds1, ρ1, h4, hE1, ρ', e, q⟩⟩
theorem gd_tup {es : List Expr} {k n : Nat} {gs : SGs} (hc : X.calm = true) (h : PGs X es (tgsD X.K gs)) (hn : (assignEach es X.env).length = n := by rfl) (hst : (assignEach es X.env).findIdx? (·.1) = none := by rfl) : PG X (.Tuple es k pos) (tgD X.K (gT n gs)) :=
  pg_weak (pg_tup hc h hn hst) fun v σ H Q ⟨d, ρ, hv, hE, ρ', e, q⟩ => by
    cases hv with
    | tup h1 h2 =>
      simp only [gT] at e
      split at e
      · rename_i hz
        exact ⟨_, _, rfl, h1, by rw [dps_len h2]; exact hz, _, ρ, h2, hE, ρ', e, q⟩
      · cases e
    | _ => cases e
theorem pssd_nil : PSs X [] (tsD X.K W sNext) := pss_weak pss_nil fun D σ H ⟨ρ, hE, q⟩ => q.now σ hE
theorem outP_seq {K : PySem.W.Frag} {D : Ends} {σ : L2.St} {H : Hp} {r : Res Out} (h : (r.bind fun o => match o with
    | .nx ρ' => G ρ'
    | .rt d => .ok (.rt d)
    | .bk ρ' => .ok (.bk ρ')
    | .ct ρ' => .ok (.ct ρ')).post (fun o => fut H (outP K D o)) fun n => fut H (W n)) :
    r.post (fun o => fut H (outP K { D with nx := tsD K W G D } o)) fun n => fut H (W n) :=
  (Res.post_bind.mp h).mono (fun o r => by
    cases o with
    | nx ρ' => exact fun H' s σ' hE => ⟨ρ', hE, r.mono (fun b q => q.on s) fun n q => q.on s⟩
    | rt d => exact r
    | bk ρ' => exact r
    | ct ρ' => exact r) fun n r => r
theorem pssd_cons (h1 : PS X st (tsD X.K W F)) (h2 : PSs X rest (tsD X.K W G)) : PSs X (st :: rest) (tsD X.K W (sSeq F G)) := pss_weak (pss_cons h1 h2) fun D σ H ⟨ρ, hE, q⟩ => ⟨ρ, hE, outP_seq (σ := σ) q⟩
theorem pssd_one (h1 : PS X st (tsD X.K W F)) : PSs X [st] (tsD X.K W F) := pss_one h1
theorem psd_ret {f : SE} (he : PE X a (tD X.K W f)) : PS X (.Return (some a) pos) (tsD X.K W (sRet f)) := ps_weak (ps_ret he) fun D σ H ⟨ρ, hE, q⟩ => tD_mono (tD_then hE q) fun x H1 ⟨d, hx, s1, hE1, q1⟩ => q1.now _ hx
theorem psd_retN : PS X (.Return none pos) (tsD X.K W sRetN) := ps_weak ps_retN fun D σ H ⟨ρ, hE, q⟩ => q.now _ .non
theorem psd_break : PS X (.Break pos) (tsD X.K W sBreak) := ps_weak ps_break fun D σ H ⟨ρ, hE, q⟩ => q.now σ hE
theorem psd_cont : PS X (.Continue pos) (tsD X.K W sCont) := ps_weak ps_continue fun D σ H ⟨ρ, hE, q⟩ => q.now σ hE
theorem psd_pass : PS X (.Pass pos) (tsD X.K W sNext) := ps_weak ps_pass fun D σ H ⟨ρ, hE, q⟩ => q.now σ hE
theorem psd_expr {f : SE} (he : PE X a (tD X.K W f)) (hs : swapsWith a none pos.line X.env = pure false := by rfl) : PS X (.Expr a pos) (tsD X.K W (sDrop f)) := ps_weak (ps_expr he hs) fun D σ H ⟨ρ, hE, q⟩ => tD_mono (tD_then hE q) fun x H1 ⟨d, hx, s1, hE1, q1⟩ => q1.now _ hE1
theorem psd_set {i : Nat} {x : Str} {f : SE} {pos' : Pos} (hN : X.N.Nodup) (he : PE X a (tD X.K W f)) (hi : X.N[i]? = some x := by rfl) (hx : Loc X.env.scope x := by first | exact Or.inl rfl | exact Or.inr rfl) (hs : swapsWith a (some (.Name x pos')) pos.line X.env = pure false := by rfl)
    (hf : X.fn x = true ∨ X.env.scope.names.lookup x = some .local := by first | exact .inl rfl | exact .inr rfl | assumption) : PS X (.Assign [.Name x pos'] a pos) (tsD X.K W (sSet i f)) :=
  ps_weak (ps_set hN hi hx he hs hf) fun D σ H ⟨ρ, hE, q⟩ => tD_mono (tD_then hE q) fun x H1 ⟨d, hx, s1, hE1, q1⟩ => q1.now _ (hE1.set hx)
theorem psd_setLc {i j : Nat} {y x : Str} {py : Pos} {elt iter : Expr} {ifs : List Expr} {scope : Scope} {pos spos : Pos} {src : SA} {t : ST} {f : SE} (hc : X.calm = true) (hN : X.N.Nodup) (hi : PI X tg iter (tiD X.K W src)) (ok : BlkOk X.N X.env.scope scope [(x, j)])
    (hg : ∀ (s : Shared) (H : Hp) (C : Addr) (cl : List (Str × Addr)) (fp : List Addr), PG (X.blk s H scope (compEnvC scope cl C X.env) fp) tg (gName j)) (ht : ∀ (s : Shared) (H : Hp) (C : Addr) (cl : List (Str × Addr)) (fp : List Addr), PTs (X.blk s H scope (compEnvC scope cl C X.env) fp) ifs (ttD X.K (fun _ _ => False) t))
    (he : ∀ (s : Shared) (H : Hp) (C : Addr) (cl : List (Str × Addr)) (fp : List Addr), PE (X.blk s H scope (compEnvC scope cl C X.env) fp) elt (tD X.K (fun _ _ => False) f))
    (hsw : swapsWith (.ListComp elt [⟨tg, iter, ifs, 0⟩] scope pos) (some (.Name y py)) spos.line X.env = pure true := by exact sw_true rfl rfl rfl (by decide +kernel))
    (hy : X.N[i]? = some y := by rfl) (hyl : X.env.scope.names.lookup y = some .local := by rfl) (hs : ∀ x, foldedSetIterable iter X.env x = pure x := by intro _; rfl) :
    PS X (.Assign [.Name y py] (.ListComp elt [⟨tg, iter, ifs, 0⟩] scope pos) spos) (tsD X.K W (sSet i (eLc j src t f))) :=
  ps_weak (ps_setLc hc hN hy hyl hsw hi ok hg ht he hs) fun D σ H ⟨ρ, hE, q⟩ => lc_then (tD_mono (tD_then hE q) fun x H1 ⟨d, hx, s1, hE1, q1⟩ => q1.now _ (hE1.set hx))
theorem psd_asg {f : SE} {g : SG} (he : PE X a (tD X.K W f)) (hg : PG X tg (tgD X.K g)) (hs : swapsWithSole [tg] a pos.line X.env = pure false := by rfl) (hw : swappedStores [tg] a X.env = pure none := by rfl)
    (h1 : (assignEach [tg] X.env).map (·.2) = [assign tg X.env] := by rfl) : PS X (.Assign [tg] a pos) (tsD X.K W (sAsg f g)) :=
  ps_weak (ps_asg he hg hs hw h1) fun D σ H ⟨ρ, hE, q⟩ => tD_mono (tD_then hE q) fun x H1 ⟨d, hx, s1, hE1, q1⟩ => by
    obtain ⟨ρ', h2, q2⟩ := Res.post_of (Res.post_bind.mp q1)
    exact ⟨d, ρ, hx, hE1, ρ', h2, fun σ' hE' => q2.now _ hE'⟩
theorem psd_if {t : ST} {c : Expr} {a b : List Stmt} (hc : PT X c (ttD X.K W t)) (ha : PSs X a (tsD X.K W F)) (hb : PSs X b (tsD X.K W G)) : PS X (.If c a b pos) (tsD X.K W (sIf t F G)) :=
  ps_weak (ps_if hc ha hb) fun D σ H ⟨ρ, hE, q⟩ => ttD_mono (ttD_then hE q) fun k H1 ⟨s1, hE1, q1⟩ => by
    cases k with
    | true => exact iteT ⟨ρ, hE1, q1⟩
    | false => exact iteF ⟨ρ, hE1, q1⟩
theorem psd_for {iter : Expr} {body : List Stmt} {src : SA} {g : SG} (hp : PassesOwn (model X.prog X.w) X.A X.env X.xe) (hc : X.calm = true) (hi : PI X tg iter (tiD X.K W src)) (hg : PG X tg (tgD X.K g)) (hb : PSs X body (tsD X.K W F))
    (hs : ∀ x, foldedSetIterable iter X.env x = pure x := by intro _; rfl) : PS X (.For tg iter body [] pos) (tsD X.K W (sFor src g F)) := by
  refine ps_weak (ps_for hp hc hi hg hb hs) fun D σ H ⟨ρ, hE, q⟩ => ?_
  refine ⟨ρ, hE, (Res.post_bind.mp q).mono (fun ds r H1 s1 J hJ => ?_) fun n r => r⟩
  refine ⟨fun k m σ' H' => m = ds.length - k ∧ k ≤ ds.length ∧ Same H H' ∧ Same H1 H' ∧ ∃ ρ', EnvR X.K H' σ' ρ' ∧ (forGo g F (ds.drop k) ρ').post (fun o => fut H' (outP X.K D o)) fun n => fut H' (W n),
    ⟨ds.length, by simp, Nat.zero_le _, s1, Same.refl _, ρ, hE.mono s1, by rw [List.drop_zero]; exact r.mono (fun o r => r.on s1) fun n r => r.on s1⟩, ?_⟩
  rintro k m σ' H' ⟨rfl, hk, s, s', ρ', hE', r'⟩
  obtain ⟨w1, w2⟩ := hJ k H' s'
  by_cases hlt : k < ds.length
  · have hx : ds[k]? = some ds[k] := List.getElem?_eq_getElem hlt
    obtain ⟨go, yl⟩ := w1 _ hx
    refine .inr ⟨go, fun σ2 H2 => Same H H2 ∧ Same H1 H2 ∧ ∃ ρ', EnvR X.K H2 σ2 ρ' ∧ (forGo g F (ds.drop (k + 1)) ρ').post (fun o => fut H2 (outP X.K D o)) fun n => fut H2 (W n), fun σ2 H2 ⟨a1, a2, a3⟩ => ⟨ds.length - (k + 1), by omega, rfl, hlt, a1, a2, a3⟩, fun x H2 y => ?_⟩
    obtain ⟨e2, hdx⟩ := yl x H2 y
    subst e2
    rw [List.drop_eq_getElem_cons hlt] at r'
    obtain ⟨ρ1, h1, r1⟩ := Res.post_of (Res.post_bind.mp r')
    refine ⟨ds[k], ρ', hdx, hE', ρ1, h1, fun σ2 hE2 => ⟨ρ1, hE2, (Res.post_bind.mp r1).mono (fun o ro H3 s3 => ?_) fun n r => r⟩⟩
    cases o with
    | nx ρ2 => exact fun σ3 hE3 => ⟨s.trans s3, s'.trans s3, ρ2, hE3, ro.mono (fun o q => q.on s3) fun n q => q.on s3⟩
    | ct ρ2 => exact fun σ3 hE3 => ⟨s.trans s3, s'.trans s3, ρ2, hE3, ro.mono (fun o q => q.on s3) fun n q => q.on s3⟩
    | bk ρ2 => exact ro _ s3
    | rt d => exact ro _ s3
  · have e : k = ds.length := by omega
    subst e
    rw [List.drop_length] at r'
    exact .inl ⟨w2 (Nat.le_refl _), r'.now σ' hE'⟩
theorem psd_while {c : Expr} {body : List Stmt} {t : ST} (n : Nat) (hp : PassesOwn (model X.prog X.w) X.A X.env X.xe) (hc : PT X c (ttD X.K W t)) (hb : PSs X body (tsD X.K W F)) : PS X (.While c body [] pos) (tsD X.K W (sWh n t F)) := by
  refine ps_weak (ps_while hp hc hb) fun D σ H ⟨ρ, hE, q⟩ => ?_
  refine ⟨fun m σ' H' => ∃ ρ', EnvR X.K H' σ' ρ' ∧ (whGo t F m ρ').post (fun o => fut H' (outP X.K D o)) fun n => fut H' (W n), ⟨n, ρ, hE, q⟩, ?_⟩
  rintro m σ' H' ⟨ρ', hE', r⟩
  cases m with
  | zero => exact r.elim
  | succ m =>
    refine ttD_mono (ttD_then hE' r) fun k H1 ⟨s1, hE1, r1⟩ => ?_
    cases k with
    | false => exact iteF (r1.now σ' hE1)
    | true =>
      refine iteT ⟨fun σ2 H2 => ∃ ρ', EnvR X.K H2 σ2 ρ' ∧ (whGo t F m ρ').post (fun o => fut H2 (outP X.K D o)) fun n => fut H2 (W n), fun σ2 H2 h2 => ⟨m, Nat.lt_succ_self _, h2⟩, ρ', hE1, (Res.post_bind.mp r1).mono (fun o ro H3 s3 => ?_) fun n r => r⟩
      cases o with
      | nx ρ2 => exact fun σ3 hE3 => ⟨ρ2, hE3, ro.mono (fun o q => q.on s3) fun n q => q.on s3⟩
      | ct ρ2 => exact fun σ3 hE3 => ⟨ρ2, hE3, ro.mono (fun o q => q.on s3) fun n q => q.on s3⟩
      | bk ρ2 => exact ro _ s3
      | rt d => exact ro _ s3
end

/-! ### defs -/
def bodyD (n : Nat) (F : SS) (ds : List PyData) : Res PyData := (F (startD n ds)).bind fun o => match o with
  | .nx _ => .ok .none
  | .rt d => .ok d
  | _ => .bad
section
variable {P : Program} {w : World} {K : PySem.W.Frag} {mg : Str → Option Value} {base : Heap}
theorem body_then {cls : Nat → Value} {N : List Str} {n : Nat} {F : SS} {vs : List V} {H : Hp} {Q : VK} {E : XK} (h : spD K cls n (bodyD N.length F) vs H Q E) :
    tsD K (fun m H' => E (cls m) none H') F { nx := fun _ H' => Q .non H', rt := Q } (start N vs) H := by
  obtain ⟨_, ds, hd, q⟩ := h
  refine ⟨startD N.length ds, envR_start hd, (Res.post_bind.mp q).mono (fun o r H1 s1 => ?_) fun n r => r⟩
  cases o with
  | nx ρ' => exact fun σ' hE => r _ s1 _ .non
  | rt d => exact fun v hv => r _ s1 _ hv
  | bk ρ' => exact r.elim
  | ct ρ' => exact r.elim
/-- a def that nothing leaves by a raise -/
theorem callee_of {cls : Nat → Value} {x qual : Str} {st : Stmt} {f : Addr} {fd : FuncData} {N ps : List Str} {k : Nat} {F : SS} (D : L2.Fun K x qual st f fd) (S : FnScope N ps (defScope st)) (hm : mg x = some (.ref f)) (hb : Binds K fd ps [])
    (body : ∀ (cdv : Value) (A : Around) (outer : List Env) (s : Shared) (H : Hp) (E : XK) (W : Wis), Room k (A.deeper (envOfC qual (defScope st) s.heap.objs.size f cdv)) →
      PSs (cxOf CX0 P w K mg base N qual (defScope st) f cdv A outer s H E).nox (defBody st) (tsD K W F)) : Callee P w K mg base CX0 cls x (k + 1) ps (bodyD N.length F) := by
  refine ⟨f, fd, D.ok S (fun vs H Q E h => h.1) (fun cdv A outer s H vs Q E hr h => ⟨_, body cdv A outer s H E _ hr, body_then h⟩), hm, D.kp, hb, ?_⟩
  obtain ⟨oc, od, kV, doc, pm, an, cdv, ct, osl, rfl, lk, hcd⟩ := D.ex
  exact ⟨oc, od, osl, lk⟩
theorem Callee.mono {CX : CXT} {cls : Nat → Value} {x : Str} {j k : Nat} {ps : List Str} {g : List PyData → Res PyData} (C : Callee P w K mg base CX cls x j ps g) (h : j ≤ k) : Callee P w K mg base CX cls x k ps g := by
  obtain ⟨f, fd, F, r⟩ := C.ex
  exact ⟨f, fd, F.mono h, r⟩
/-- told by another function that agrees where it answers -/
theorem Callee.imp {CX : CXT} {cls : Nat → Value} {x : Str} {k : Nat} {ps : List Str} {g g' : List PyData → Res PyData} (C : Callee P w K mg base CX cls x k ps g) (h : ∀ ds, ds.length = ps.length → g' ds ≠ .bad → g ds = g' ds) : Callee P w K mg base CX cls x k ps g' := by
  obtain ⟨f, fd, F, r⟩ := C.ex
  refine ⟨f, fd, F.imp fun vs H Q E ⟨hl, ds, hd, q⟩ => ⟨hl, ds, hd, ?_⟩, r⟩
  rw [h ds ((dps_len hd).symm.trans hl) fun e => by rw [e] at q; exact q]
  exact q
end
end DL

set_option Elab.async false
set_option linter.all false
set_option maxRecDepth 100000
set_option maxHeartbeats 2000000
namespace DL
open PySem L2 PyProof.Rows

theorem units65 {k : Nat} {A : Around} (hr : Room k A) : A.units + 65 < cLine := by
  have := hr.un
  omega
def negD : PyData → Option PyData
  | .int i => some (.int (-i))
  | _ => none
/-- {'a': 'b', ..}[x], the texts written -/
def menuD (kvs : List (Key × V)) : PyData → Option PyData
  | .str x => (valV (mergeK [] kvs) (.inr x)).bind scaD
  | _ => none
def eMenu (kvs : List (Key × V)) (f : SE) : SE := fun ρ => (f ρ).bind fun x => Res.of (menuD kvs x)
section
variable {X : Cx} {W : Wis} {a b : Expr} {pos : Pos}
theorem ed_neg {f : SE} (h : PE X a (tD X.K W f)) : PE X (.UnaryOp .USub a pos) (tD X.K W (eUn negD f)) := pe_weak (pe_un un_neg h) fun σ H Q q => by
  obtain ⟨ρ, hE, q⟩ := q
  refine tD_mono (tD_then hE q) fun x H1 ⟨d, hx, s1, hE1, q1⟩ => ?_
  obtain ⟨r, hr, q2⟩ := Res.post_of q1
  cases hx <;> simp only [negD, reduceCtorEq, Option.some.injEq] at hr
  subst hr
  exact ⟨_, rfl, q2.now _ (.int _)⟩
/-- the pairs of a display of written texts -/
theorem pairs_then {kvs : List (Key × V)} : ∀ {σ : L2.St} {H : Hp} {Q : List (V × V) → Hp → Prop}, Q (kvs.map fun p => (kV p.1, p.2)) H → tPairs (kvs.map fun p => (tC (kV p.1), tC p.2)) σ H Q := by
  induction kvs with
  | nil => intro σ H Q h; exact h
  | cons p r ih => intro σ H Q h; exact ih h
theorem ed_menu {keys : List (Option Expr)} {vals : List Expr} {p2 : Pos} {f : SE} (kvs : List (Key × V)) (hu : X.A.units + 1 < cLine) (hp : PPs X p2 keys vals (kvs.map fun p => (tC (kV p.1), tC p.2))) (hs : NoSl b) (hb : PE X b (tD X.K W f))
    (hall : keys.all (·.isSome) = true := by rfl) (hl : keys.length = vals.length := by rfl) (h0 : keys ≠ [] := by exact List.cons_ne_nil _ _) (h15 : keys.length ≤ 15 := by decide) (hk : kvs.length ≤ 15 := by decide) : PE X (.Subscript (.Dict keys vals p2) b pos) (tD X.K W (eMenu kvs f)) := by
  refine pe_weak (pe_dget hu (pe_disp hp hall hl h0 h15) hb hs) fun σ H Q h => ?_
  obtain ⟨ρ, hE, q⟩ := h
  intro p hp
  refine pairs_then ⟨upd_same, kvs, rfl, hk, ?_⟩
  rw [upd_upd]
  have s0 : Same H (upd H p (.dK (mergeK [] kvs))) := same_new hp _
  have q0 : (eMenu kvs f ρ).post (fun d => fut (upd H p (.dK (mergeK [] kvs))) fun H' => ∀ v, Dp X.K H' v d → Q v H') fun n => fut (upd H p (.dK (mergeK [] kvs))) (W n) := Res.post.mono q (fun d r => r.on s0) fun n r => r.on s0
  refine tD_mono (tD_then (hE.mono s0) q0) fun y H2 ⟨e, hy, s2, hE2, q2⟩ => ?_
  obtain ⟨r, hr, q3⟩ := Res.post_of q2
  cases hy <;> simp only [menuD, reduceCtorEq] at hr
  rename_i x _
  cases hv : valV (mergeK [] kvs) (.inr x) with
  | none => rw [hv] at hr; cases hr
  | some v =>
    rw [hv] at hr
    refine ⟨p, v, rfl, ?_, q3.now _ (dp_sca hr)⟩
    have z := DGet.k (k := .inr x) (s2 _ _ (upd_same (H := H) (a := p) (o := .dK (mergeK [] kvs))))
    rw [hv] at z
    exact z
end

/-! ### the text's defs and constants as they stand behind the top -/
structure DefAt (K : PySem.W.Frag) (mg : Str → Option Value) (x : Str) (st : Stmt) (ps : List Str) : Prop where
  ex : ∃ f fd, L2.Fun K x x st f fd ∧ mg x = some (.ref f) ∧ Binds K fd ps []
section
variable {K : PySem.W.Frag} {mg : Str → Option Value} {h : Heap}
theorem defAt_mk {x : Str} {st : Stmt} {ps : List Str} {f : Addr} {oc : Value} {od an : Option Addr} {osl : Array (Option Value)} {kV doc pm cdv ct : Value} (X : K.In h) (G : h.Ns mainGlobals mg) (a : PySem.W.nsIn K mainGlobals x = some (some (.ref f)))
    (l : K.lookup f = some ⟨oc, od, .func (PySem.W.fnOf x x (defArgs st) (defBody st) (defScope st) .none kV doc pm an cdv ct), osl⟩) (c : PySem.W.codeIn K cdv x = true) (k : PySem.W.keepIn K (.ref f) = true)
    (hb : ∀ (kV doc pm : Value) (an : Option Addr) (cdv ct : Value) (us : List Value), us.length = ps.length → bindArgs (PySem.W.fnOf x x (defArgs st) (defBody st) (defScope st) .none kV doc pm an cdv ct) ⟨us, []⟩ = pure (ps.zip us)) : DefAt K mg x st ps :=
  ⟨f, _, fun_mk l c k, PySem.W.mg_of X G a, (fun_mk (st := st) l c k).binds hb⟩
theorem gl_int {x : Str} {i : Int} {t : Tok} (X : K.In h) (G : h.Ns mainGlobals mg) (a : PySem.W.nsIn K mainGlobals x = some (some (.int i t))) : GlD K mg x (.int i) := ⟨.int i, _, PySem.W.mg_of X G a, ⟨t, rfl⟩, fun H => .int i⟩
theorem gl_str {x : Str} {i : Str} {t : Tok} (X : K.In h) (G : h.Ns mainGlobals mg) (a : PySem.W.nsIn K mainGlobals x = some (some (.str i t))) : GlD K mg x (.str i) := ⟨.str i, _, PySem.W.mg_of X G a, ⟨t, rfl⟩, fun H => .str i⟩
/-- a value of the written part, as data -/
def KD (K : PySem.W.Frag) (u : Value) (d : PyData) : Prop := ∃ v, RelV v u ∧ ∀ H, Dp K H v d
def KDs (K : PySem.W.Frag) (us : List Value) (ds : List PyData) : Prop := us.length ≤ 16777216 ∧ ∃ vs, Vals vs us ∧ ∀ H, DpAll K H vs ds
theorem kd_str {x : Str} {t : Tok} : KD K (.str x t) (.str x) := ⟨.str x, ⟨t, rfl⟩, fun H => .str x⟩
theorem kd_int {x : Int} {t : Tok} : KD K (.int x t) (.int x) := ⟨.int x, ⟨t, rfl⟩, fun H => .int x⟩
theorem kds_nil : KDs K [] [] := ⟨by decide, [], .nil, fun H => .nil⟩
theorem kds_cons {u : Value} {us : List Value} {d : PyData} {ds : List PyData} (h1 : KD K u d) (h2 : KDs K us ds) (hl : (u :: us).length ≤ 16777216 := by exact Nat.le_of_ble_eq_true rfl) : KDs K (u :: us) (d :: ds) := by
  obtain ⟨v, r, hv⟩ := h1
  obtain ⟨_, vs, rs, hvs⟩ := h2
  exact ⟨hl, v :: vs, .cons r rs, fun H => .cons (hv H) (hvs H)⟩
theorem kd_tup {a : Addr} {o : Option Addr} {n : Nat} {its : Array Value} {sl : Array (Option Value)} {ds : List PyData} (l : K.lookup a = some ⟨.type "tuple", o, .seq its n, sl⟩) (h : KDs K its.toList ds) : KD K (.ref a) (.tuple ds) := by
  obtain ⟨hz, vs, rs, hvs⟩ := h
  refine ⟨.ref a, rfl, fun H => .tup (.inr ⟨_, its, n, l, rfl, rfl, ?_, rs⟩) (hvs H)⟩
  rw [sizeLine_eq]
  simpa using hz
theorem gl_ref {x : Str} {a : Addr} {d : PyData} (X : K.In h) (G : h.Ns mainGlobals mg) (e : PySem.W.nsIn K mainGlobals x = some (some (.ref a))) (k : KD K (.ref a) d) : GlD K mg x d := by
  obtain ⟨v, r, hv⟩ := k
  exact ⟨v, _, PySem.W.mg_of X G e, r, hv⟩
theorem callee_bad {P : Program} {w : World} {base : Heap} {CX : CXT} {cls : Nat → Value} {x : Str} {st : Stmt} {ps : List Str} {k : Nat} (D : DefAt K mg x st ps) : Callee P w K mg base CX cls x k ps (fun _ => .bad) := by
  obtain ⟨f, fd, F, hm, hb⟩ := D.ex
  have no : ∀ vs H Q E, ¬ spD K cls ps.length (fun _ => .bad) vs H Q E := fun vs H Q E h => by
    obtain ⟨_, _, _, q⟩ := h
    exact q
  refine ⟨f, fd, ⟨fun vs H Q E h => absurd h (no vs H Q E), fun A outer s H args us vs Q E _ _ _ _ h => absurd h (no vs H Q E)⟩, hm, F.kp, hb, ?_⟩
  obtain ⟨oc, od, kV, doc, pm, an, cdv, ct, osl, rfl, lk, hcd⟩ := F.ex
  exact ⟨oc, od, osl, lk⟩
end
/-- the end of a law -/
theorem walk_data {l : PySem.W.OpenLaw} {k : Nat} {q : Program} {loose : List Str} {XP : (Str → Option Value) → Heap → Prop} {YP : World → Heap → Prop} {d : DefRec} {K : Params → PySem.W.Frag} {g : List PyData → Res PyData} {st : Stmt}
    (hr1 : 3 * k + 5 < recursionLimit - callerA.depth) (hr2 : 16 * k + 200 < cLine - callerA.units) (hn : l.most = some 63) (hd : d.params.defaults = []) (hd2 : d.name = "law")
    (hY : ∀ (w : World) (h : Heap), YP w h → (K w.params).In h)
    (D : ∀ (w : World) (mg : Str → Option Value) (h : Heap), (K w.params).In h → h.Ns mainGlobals mg → DefAt (K w.params) mg "law" st ["_law_script"])
    (F : ∀ (w : World) (mg : Str → Option Value) (h : Heap), (K w.params).In h → h.Ns mainGlobals mg → ∀ base : Heap, Callee l.prog w (K w.params) mg base CX0 (fun _ => .none) "law" k ["_law_script"] g)
    (hbind : ∀ fd : FuncData, (∃ kV doc pm an cdv ct, fd = PySem.W.fnOf "law" "law" (defArgs st) (defBody st) (defScope st) .none kV doc pm an cdv ct) → ∀ (s : Shared) (u : Value), BindsTo s fd ⟨[u], []⟩ [("_law_script", u)])
    (plain : ∀ ns : List Int, ns.length ≤ 63 → g [.list (ns.map PyData.int)] = .ok (.bool true)) : PySem.W.WalkO q loose XP YP l.row.toRowW d [] (fun f vs => PySem.call f vs) := by
  refine L2.walk_of (n := 63) (k := k) (x := "_law_script") (CX := fun _ => CX0) (K := K) (sp := fun w => spD (K w.params) (fun _ => .none) 1 g) hn (by decide) hd ⟨rfl, by omega, by omega⟩ hY (fun w mg fa h X G hmg => ?_) (fun w H a ns hl _ hS => ⟨rfl, _, .cons (.lst hS (dps_ints ns)) .nil, ?_⟩) fun _ _ _ _ _ z => z
  · rw [hd2] at hmg
    obtain ⟨f, fd, D1, hm1, hb1⟩ := (D w mg h X G).ex
    cases hmg.symm.trans hm1
    obtain ⟨oc, od, kV, doc, pm, an, cdv, ct, osl, e, lk, _⟩ := D1.ex
    refine ⟨fd, fun s u => ?_, fun base _ _ => ?_⟩
    · exact hbind fd ⟨kV, doc, pm, an, cdv, ct, e⟩ s u
    · obtain ⟨f2, fd2, C, hm2, _, _, oc2, od2, osl2, lk2⟩ := (F w mg h X G base).ex
      cases hm1.symm.trans hm2
      rw [lk] at lk2
      cases lk2
      exact C
  · rw [plain ns hl]
    intro H' s v hv
    cases hv
    rfl
end DL

set_option Elab.async false
set_option linter.all false
set_option maxRecDepth 100000
set_option maxHeartbeats 2000000
namespace DL
open PySem L2 PyProof.Rows
def sBad : SS := fun _ => .bad
section
variable {X : Cx} {W : Wis} {a b : Expr} {pos : Pos}
/-- what is not reached -/
theorem psd_bad {st : Stmt} : PS X st (tsD X.K W sBad) := ⟨fun pins s σ H D I q => by
  obtain ⟨ρ, hE, q⟩ := q
  exact q.elim⟩
/-! a place in a module's tuple of texts -/
structure GlT (K : PySem.W.Frag) (mg : Str → Option Value) (x : Str) (ys : List Str) : Prop where
  at_ : ∃ a o, mg x = some (.ref a) ∧ (∀ H, SqT K H a (ys.map V.str)) ∧ K.lookup a = some o ∧ o.dict = none ∧ o.cls = .type "tuple"
def gindexD (ys : List Str) : PyData → Option PyData
  | .str z => if z ∈ ys then some (.int (ys.idxOf z : Nat)) else none
  | _ => none
theorem ed_gindex {x : Str} {ys : List Str} {p apos : Pos} {h : SE} (g : GlT X.K X.mg x ys) (he : PE X b (tD X.K W h)) (hg : Gl X x := by rfl) (hs : starEach [b] X.env = [(false, eval b X.env)] := by rfl)
    (hbase : attributeBase (.Name x p) "index" X.env (eval (.Name x p) X.env) = eval (.Name x p) X.env := by rfl) (hline : (apos.endLine == pos.line) = true := by rfl) (hd : (x == ("__debug__" : Str)) = false := by decide) :
    PE X (.Call (.Attribute (.Name x p) "index" apos) [b] [] pos) (tD X.K W (eUn (gindexD ys) h)) := by
  obtain ⟨a, o, hm, hsq, hk, hdn, hcl⟩ := g.at_
  refine ⟨fun pins s σ H Q I hh => ?_⟩
  obtain ⟨ρ, hE, q⟩ := hh
  have q0 := tD_then (K := X.K) (W := W) (f := h) hE q
  refine PySem.Call_method1 hbase hs hline (ld_glob I hg hm ?_ hd)
  refine ⟨"tuple", _, F.plainAttrs_tuple, F.slot_tuple_index, F.type_tuple_index, ⟨o, I.kIn a o hk, hcl⟩, (fun c e => by cases e; exact ⟨o, I.kIn a o hk, hdn⟩), Calls.callWith_builtin rfl (Calls.evalArgs_plain (Calls.spliced_cons ?_))⟩
  refine thn (he.run pins s σ H _ I q0) fun u s2 ⟨y, H2, I2, r2, q2⟩ => Calls.spliced_nil ?_
  obtain ⟨d, hy, s1, hE1, q1⟩ := q2
  obtain ⟨r, hr, q3⟩ := Res.post_of q1
  obtain ⟨z, rfl, rfl⟩ : ∃ z, d = .str z ∧ y = .str z := by
    cases hy with
    | str z => exact ⟨z, rfl, rfl⟩
    | _ => simp [gindexD] at hr
  simp only [gindexD] at hr
  split at hr <;> cases hr
  rename_i hz
  have hl := List.idxOf_lt_length_of_mem hz
  refine mt_tup_index pins s2 σ H2 (.ref a) [.str z] _ [u] Q I2 rfl (.cons r2 .nil) ⟨a, ys, z, ys.idxOf z, rfl, rfl, hsq H2, ?_, ?_, q3.now _ (.int _)⟩
  · rw [List.getElem?_eq_getElem hl]
    simp
  · intro m hmj e
    have := List.not_of_lt_findIdx (p := (· == z)) (xs := ys) (i := m) hmj
    obtain ⟨h1, h2⟩ := List.getElem?_eq_some_iff.mp e
    rw [h2] at this
    simp at this
end
section
variable {K : PySem.W.Frag} {mg : Str → Option Value} {h : Heap}
theorem strs_vals : ∀ {us : List Value} {ys : List Str}, KDs K us (ys.map PyData.str) → ∃ vs, Vals vs us ∧ vs = ys.map V.str
  | [], [], _ => ⟨[], .nil, rfl⟩
  | _, _, h => by
    obtain ⟨hl, vs, rs, hvs⟩ := h
    have e := hvs (fun _ => none)
    exact ⟨vs, rs, dps_strs_of e⟩
theorem gt_ref {x : Str} {a : Addr} {n : Nat} {its : Array Value} {sl : Array (Option Value)} {ys : List Str} (X : K.In h) (G : h.Ns mainGlobals mg) (e : PySem.W.nsIn K mainGlobals x = some (some (.ref a)))
    (l : K.lookup a = some ⟨.type "tuple", none, .seq its n, sl⟩) (k : KDs K its.toList (ys.map PyData.str)) : GlT K mg x ys := by
  refine ⟨a, _, PySem.W.mg_of X G e, fun H => ?_, l, rfl, rfl⟩
  obtain ⟨vs, rs, rfl⟩ := strs_vals k
  refine .inr ⟨_, its, n, l, rfl, rfl, ?_, rs⟩
  rw [sizeLine_eq]
  simpa using k.1
end
@[simp] theorem sBad_ap {ρ : PEnv} : sBad ρ = .bad := rfl
end DL

set_option Elab.async false
set_option linter.all false
set_option maxRecDepth 100000
set_option maxHeartbeats 2000000
/-! tuple(reversed(a tuple)) -/
namespace RT
open PySem PySem.Spec PyProof.Rows
theorem nolen_rt : typeLookup (.type "reversed") "__len__" = pure none := by rw [typeLookup_type, builtinLookup_eq_fast]; kernel_rfl
theorem hint_rt : typeLookup (.type "reversed") "__length_hint__" = pure (some (.builtin "reversed.__length_hint__")) := by rw [typeLookup_type, builtinLookup_eq_fast]; kernel_rfl
theorem slot_rt_hint : Slot "reversed" "__length_hint__" "reversed.__length_hint__" :=
  .of (owner := "reversed") (n := "__length_hint__") (by rw [typeLookup_type, builtinLookup_eq_fast]; kernel_rfl) (by decide +kernel) (by decide +kernel) (by decide +kernel)
    (by first | exact .inl (by decide +kernel) | exact .inr (by decide +kernel)) (by rw [isSubtype_type]; kernel_rfl)
theorem entry_rt_hint : entryFor table "reversed.__length_hint__" = some Builtin.«reversed.__length_hint__» := entryFor_of_tree (by kernel_rfl)
theorem args_rt_hint (a : Value) : argsOk "reversed.__length_hint__" ⟨[a], []⟩ := by
  unfold argsOk; rw [signature?_of (id := "reversed.__length_hint__") (n := ['_', '_', 't', 'n', 'i', 'h', '_', 'h', 't', 'g', 'n', 'e', 'l', '_', '_']) (o := ['d', 'e', 's', 'r', 'e', 'v', 'e', 'r']) (by kernel_rfl) owner_rt]; kernel_rfl
section
variable {prog : Program} {w : World} {A : Around} {E : Value → Shared → Prop} {s : Shared}
theorem call_hint_rt {it t : Addr} {items : Array Value} {Q : Value → Shared → Prop} (hit : IsRt s.heap it t ((items.size : Int) - 1)) (ht : IsTup s.heap t items) (hn : items.size ≤ sizeLine)
    (h : ∀ tk tk', Q (.int items.size tk) { s with toks := tk' }) : wpAny (model prog w) A (call (.builtin "reversed.__length_hint__") [.ref it]) Q E s := by
  obtain ⟨o, ho, hc, hd⟩ := id hit
  rw [sizeLine_eq] at hn
  refine wpAny_call_entry slot_rt_hint hit.typeIs entry_rt_hint ?_ (args_rt_hint _)
  unfold Builtin.«reversed.__length_hint__»
  refine wpAny_bind (wpAny_of_eq (a := Value.ref it) rfl ?_)
  refine wpAny_bind (wpAny_field ho hd (x := .ref t) rfl ?_)
  try dsimp only
  rw [if_neg (by intro e; cases e)]
  refine wpAny_bind ?_
  refine len_tuple ht (by omega) ?_
  refine wpAny_bind (wpAny_of_eq (a := some ((items.size : Nat) : Int)) rfl ?_)
  try dsimp only
  refine wpAny_bind (wpAny_field ho hd (x := rawInt ((items.size : Int) - 1)) rfl ?_)
  show wpAny _ _ (if ((items.size : Nat) : Int) < (items.size : Int) - 1 + 1 then _ else _) _ _ _
  rw [if_neg (by omega)]
  refine wpAny_bind (wpAny_mkInt ?_)
  refine wpAny_pure ⟨_, rfl, ?_⟩
  rw [show (items.size : Int) - 1 + 1 = items.size by omega]
  exact h _ _
theorem tup_at {h h' : Heap} {t : Addr} {items : Array Value} (x : IsTup h t items) (e : ∀ o, h.get? t = some o → h'.get? t = some o) : IsTup h' t items := let ⟨o, ho, r⟩ := x; ⟨o, e _ ho, r⟩
theorem Walks.tupRev (hh : A.handled = none) (I t : Addr) (hne : t ≠ I) (items : Array Value) (hn : items.size ≤ sizeLine) :
    Walks prog w A I [I, t] [I] items.size (fun i v => items[items.size - 1 - i]? = some v) (fun i h => i ≤ items.size ∧ IsRt h I t ((items.size : Int) - 1 - (i : Int)) ∧ IsTup h t items) where
  sub := fun b hb => by simp at hb; simp [hb]
  frame := fun _ _ _ x hk => ⟨x.1, x.2.1.at fun o e => hk I (by simp) o e, tup_at x.2.2 fun o e => hk t (by simp) o e⟩
  item := fun i s Q E hi x hQ => by
    have e : (items.size : Int) - 1 - (i : Int) = ((items.size - 1 - i : Nat) : Int) := by omega
    have hit := x.2.1
    rw [e] at hit
    have hx : items[items.size - 1 - i]? = some (items[items.size - 1 - i]'(by omega)) := Array.getElem?_eq_getElem (by omega)
    refine next_rt_item hit x.2.2 hx hn fun h' hit' hs' => ?_
    have e2 : ((items.size - 1 - i : Nat) : Int) - 1 = (items.size : Int) - 1 - ((i + 1 : Nat) : Int) := by omega
    rw [e2] at hit'
    exact hQ _ h' (s.toks + 1) hx ⟨hi, hit', tup_at x.2.2 fun o eo => (hs'.2 t hne).trans eo⟩ fun b o hb eo => (hs'.2 b (fun h => hb (by simp [h]))).trans eo
  done := fun s Q E x hQ => by
    have e : (items.size : Int) - 1 - (items.size : Int) = -1 := by omega
    have hit := x.2.1
    rw [e] at hit
    exact next_rt_end hh hit fun h' he' => hQ h' s.toks fun b o hb eo => he' b o (fun h => hb (by simp [h])) eo
  self := fun _ _ _ _ x hQ => iter_rt x.2.1 hQ
theorem len_hint_rt {it t : Addr} {items : Array Value} {Q : Bool → Shared → Prop} (hit : IsRt s.heap it t ((items.size : Int) - 1)) (ht : IsTup s.heap t items) (hn : items.size ≤ sizeLine)
    (h : ∀ tk', Q (((items.size : Nat) : Int) != 0) { s with toks := tk' }) : wpAny (model prog w) A (Builtin.List.listLengthHint (.ref it)) Q E s := by
  have hT := hit.typeIs
  have hz := hn
  rw [sizeLine_eq] at hz
  have f1 : Builtin.List.listFitsIndex ((items.size : Nat) : Int) = true := by
    unfold Builtin.List.listFitsIndex
    rw [Bool.and_eq_true]
    exact ⟨decide_eq_true (by omega), decide_eq_true (by omega)⟩
  have f2 : Builtin.List.listTooLong (((items.size : Nat) : Int).toNat) = false := by
    unfold Builtin.List.listTooLong
    exact decide_eq_false (by rw [Int.toNat_natCast]; omega)
  unfold Builtin.List.listLengthHint
  refine wpAny_bind (wpAny_specialOf hT nolen_rt ?_)
  show wpAny _ A (specialOf (Value.ref it) (Str.ofString "__length_hint__") >>= _) _ _ _
  refine wpAny_bind (wpAny_specialOf hT hint_rt ?_)
  generalize hid : ("reversed.__length_hint__" : String) = id0
  wp_delta
  rw [show splitId id0 = some ("reversed", "__length_hint__") from by subst hid; decide +kernel]
  subst hid
  refine wpAny_bind (wpAny_isInstance (b := true) hT (by rw [isSubtype_type]; kernel_rfl) ?_)
  rw [if_neg (by decide)]
  dsimp only
  rw [if_neg (by decide +kernel)]
  refine wpAny_bind (wpAny_rule ?_)
  refine wpAny_bind (wpAny_of_eq (slot_rt_hint.bind _) ?_)
  dsimp only
  refine wpAny_bind (wpAny_attempt (call_hint_rt hit ht hn fun tk tk' => ?_))
  dsimp only
  generalize hk : ((items.size : Nat) : Int) = k at *
  have ea : asInt? (Value.int k tk) = pure (some k) := rfl
  rw [ea]
  refine wpAny_bind ?_
  refine wpAny_pure ?_
  dsimp only
  rw [f1, f2]
  rw [if_neg (by decide)]
  rw [if_neg (by omega)]
  rw [if_neg (by decide)]
  exact wpAny_pure (h tk')
theorem collect_rt {it t : Addr} {items : Array Value} {Q : List Value → Shared → Prop} (hh : A.handled = none) (hit : IsRt s.heap it t ((items.size : Int) - 1)) (hl : IsTup s.heap t items) (hne : t ≠ it) (hn : items.size ≤ sizeLine)
    (hQ : ∀ (h' : Heap) (tk : Nat) (acc : Array Value), (∀ b o, b ≠ it → s.heap.get? b = some o → h'.get? b = some o) → ItemsOf (fun i v => items[items.size - 1 - i]? = some v) acc items.size → Q acc.toList { s with heap := h', toks := tk }) :
    wpAny (model prog w) A (collect (.ref it)) Q E s := by
  have W := (Walks.tupRev (prog := prog) (w := w) (A := A.in1) hh it t hne items hn).toS
  obtain ⟨oi, hoi, _⟩ := id hit
  obtain ⟨ol, hol, _⟩ := id hl
  have hSi : s.heap.objs.size ≠ it := Nat.ne_of_gt (Heap.lt_size hoi)
  have hSl : s.heap.objs.size ≠ t := Nat.ne_of_gt (Heap.lt_size hol)
  have hSf : s.heap.objs.size ∉ [it, t] := by simp only [List.mem_cons, List.not_mem_nil, or_false, not_or]; exact ⟨hSi, hSl⟩
  unfold collect
  refine wpAny_bind (wpAny_runValue (codeAny_builtin F.entry_proto_collect ?_))
  rw [Around.under_plainId F.plain_proto_collect _]
  show wpAny _ A.in1 (newList [] >>= fun l' => again (.builtin "list.__iadd__" ⟨[l', .ref it], []⟩)) _ _ s
  refine wpAny_bind (wpAny_newObj_type ?_)
  refine wpAny_pure ⟨plainId_quiet F.plain_list_iadd _, codeAny_builtin F.entry_list_iadd ?_⟩
  rw [Around.under_plainId F.plain_list_iadd _]
  have hS₁ : (s.heap.push { cls := .type "list", data := .seq ([] : List Value).toArray }).get? s.heap.objs.size = some { cls := .type "list", data := .seq ([] : List Value).toArray } := Heap.get?_push_size _ rfl
  have hit1 : IsRt (s.heap.push { cls := .type "list", data := .seq ([] : List Value).toArray }) it t ((items.size : Int) - 1) := hit.at fun o e => Heap.get?_push_of_some _ e
  have hl1 : IsTup (s.heap.push { cls := .type "list", data := .seq ([] : List Value).toArray }) t items := tup_at hl fun o e => Heap.get?_push_of_some _ e
  have hT : ({ s with heap := s.heap.push { cls := .type "list", data := .seq ([] : List Value).toArray } } : Shared).TypeIs (.ref it) "reversed" := IsRt.typeIs (s := { s with heap := s.heap.push { cls := .type "list", data := .seq ([] : List Value).toArray } }) hit1
  have h1 : Builtin.List.listSameRef (.ref s.heap.objs.size) (.ref it) = false := by simp [Builtin.List.listSameRef, hSi]
  have e0 : ((items.size : Nat) : Int) - 1 - ((0 : Nat) : Int) = (items.size : Int) - 1 := by omega
  show wpAny _ A.in1 (Builtin.List.listExtendWith (.ref s.heap.objs.size) (.ref it) (.ref s.heap.objs.size)) _ _ _
  unfold Builtin.List.listExtendWith
  refine wpAny_bind (wpAny_typeOf hT ?_)
  rw [if_neg (by rw [h1]; decide)]
  refine wpAny_bind (iter_rt (s := { s with heap := s.heap.push { cls := .type "list", data := .seq ([] : List Value).toArray } }) hit1 ?_)
  refine wpAny_bind (wpAny_holding ?_)
  refine len_hint_rt (s := { s with heap := s.heap.push { cls := .type "list", data := .seq ([] : List Value).toArray } }) hit1 hl1 hn fun tk' => ?_
  have fin : ∀ (h2 : Heap) (tk c : Nat), h2.get? s.heap.objs.size = some { cls := .type "list", data := .seq (#[] : Array Value) c } → (∀ b o, b ≠ s.heap.objs.size → s.heap.get? b = some o → h2.get? b = some o) →
      codeAny (model prog w) A (.builtin "list.extend.loop" ⟨[.ref s.heap.objs.size, .ref it, .ref s.heap.objs.size], []⟩) (fun r s' => match r with
        | .ok (.ret v) => wpAny (model prog w) A (match v with
          | .ref a => do
            let o ← load a
            match o.data with
            | .seq xs _ => pure xs.toList
            | _ => unsupported "internal:collect"
          | _ => unsupported "internal:collect") Q E s'
        | .ok _ => False
        | .error e => E e s') { s with heap := h2, toks := tk } := fun h2 tk c hS hk => by
    have hst : IsRt h2 it t ((items.size : Int) - 1 - ((0 : Nat) : Int)) ∧ IsTup h2 t items := ⟨by rw [e0]; exact hit.at fun o e => hk it o (Ne.symm hSi) e, tup_at hl fun o e => hk t o (Ne.symm hSl) e⟩
    refine codeAny_extend_loopS W hn _ hSf _ items.size 0 { s with heap := h2, toks := tk } _ _ rfl (Nat.zero_le _) ⟨Nat.zero_le _, hst.1, hst.2⟩ hS (ItemsOf.nil _) fun s' acc' c' hm hS' hacc => ?_
    show wpAny _ A (load s.heap.objs.size >>= _) _ _ s'
    refine wpAny_bind (wpAny_load hS' ?_)
    refine wpAny_pure ?_
    rw [Moved.eq_with hm]
    refine hQ s'.heap s'.toks acc' (fun b o hb e => hm.heap b o (fun hmem => ?_) (hk b o (Nat.ne_of_lt (Heap.lt_size e)) e)) hacc
    rcases List.mem_cons.mp hmem with e' | hmem
    · exact absurd (Heap.lt_size e) (by rw [e']; exact Nat.lt_irrefl _)
    · exact hb (List.mem_singleton.mp hmem)
  have old : ∀ b o, b ≠ s.heap.objs.size → s.heap.get? b = some o → (s.heap.push { cls := .type "list", data := .seq ([] : List Value).toArray }).get? b = some o := fun b o _ e => Heap.get?_push_of_some _ e
  by_cases hk : items.size = 0
  · have e : (((items.size : Nat) : Int) != 0) = false := by rw [hk]; rfl
    rw [e]
    dsimp only
    rw [if_neg (by decide +kernel)]
    exact wpAny_pure ⟨plainId_quiet F.plain_extend_loop _, fin _ tk' _ hS₁ old⟩
  · have e : (((items.size : Nat) : Int) != 0) = true := by simp [hk]
    rw [e]
    dsimp only
    rw [if_pos (by rw [Bool.true_or])]
    refine wpAny_bind (wpAny_rule ?_)
    refine wpAny_bind ?_
    unfold Builtin.List.listTouch
    show wpAny _ A.in1 (updateSeq s.heap.objs.size (·.push .none) >>= fun _ => updateSeq s.heap.objs.size (·.pop)) _ _ _
    refine wpAny_bind (wpAny_updateSeq hS₁ rfl ?_ (by decide) (by decide))
    have h2 := Heap.get?_update_self (Obj.mapSeq fun x => x.push Value.none) hS₁ rfl
    refine wpAny_updateSeq h2 rfl ?_ (by decide) (by decide)
    have h3 := Heap.get?_update_self (Obj.mapSeq fun x => x.pop) h2 rfl
    refine wpAny_pure ⟨plainId_quiet F.plain_extend_loop _, fin _ tk' _ h3 fun b o hb e => ?_⟩
    rw [Heap.get?_update_other _ _ (Ne.symm hb), Heap.get?_update_other _ _ (Ne.symm hb)]
    exact old b o hb e
theorem code_tuple_new_rt {it t : Addr} {items : Array Value} {Q₁ : Value → Shared → Prop} (hh : A.handled = none) (hit : IsRt s.heap it t ((items.size : Int) - 1)) (hl : IsTup s.heap t items) (hne : t ≠ it) (hn : items.size ≤ sizeLine)
    (h : ∀ (h' : Heap) (tk : Nat) (acc : Array Value), (∀ b o, b ≠ it → s.heap.get? b = some o → h'.get? b = some o) → ItemsOf (fun i v => items[items.size - 1 - i]? = some v) acc items.size →
      Q₁ (.ref h'.objs.size) { s with heap := h'.push { cls := .type "tuple", data := .seq acc }, toks := tk }) :
    codeAny (model prog w) A (.call (.builtin "tuple.__new__") ⟨[.type "tuple", .ref it], []⟩) (wants Q₁ E) s := by
  refine codeAny_of_tree ?_
  show wpAny _ A.in1 (do checkBuiltinCall "tuple.__new__" ⟨[.type "tuple", .ref it], []⟩; again (.builtin "tuple.__new__" ⟨[.type "tuple", .ref it], []⟩)) _ _ s
  refine wpAny_bind (wpAny_of_eq (F.newCall_tuple_1 _) (wpAny_pure ⟨plainId_quiet F.plain_tuple_new _, codeAny_builtin F.entry_tuple_new ?_⟩))
  rw [Around.under_plainId F.plain_tuple_new _]
  have hsub := sub_tuple_self
  have hinit := init_tuple_lookup
  have hmh := madeHere_tuple
  have hTI : s.TypeIs (.ref it) "reversed" := hit.typeIs
  have hh1 : A.in1.handled = none := hh
  wp_walk using wpAny_typeOf hTI, collect_rt (A := A.in1) hh1 hit hl hne hn
  intro h' tk acc hk hacc
  show wpAny _ _ (Builtin.Tuple.tupleExact acc.toList.toArray >>= fun v => ret v) _ _ _
  unfold Builtin.Tuple.tupleExact
  refine wpAny_bind (wpAny_newObj_type ?_ (by show acc.toList.toArray.size ≤ sizeLine; simp only [Array.toArray_toList]; rw [hacc.1]; exact hn))
  refine wpAny_pure ?_
  have e : acc.toList.toArray = acc := by simp
  rw [e]
  exact h h' tk acc hk hacc
theorem call_tuple_rt {it t : Addr} {items : Array Value} {Q : Value → Shared → Prop} (hh : A.handled = none) (hit : IsRt s.heap it t ((items.size : Int) - 1)) (hl : IsTup s.heap t items) (hne : t ≠ it) (hn : items.size ≤ sizeLine)
    (hQ : ∀ (h' : Heap) (tk : Nat) (acc : Array Value), (∀ b o, b ≠ it → s.heap.get? b = some o → h'.get? b = some o) → ItemsOf (fun i v => items[items.size - 1 - i]? = some v) acc items.size →
      Q (.ref h'.objs.size) { s with heap := h'.push { cls := .type "tuple", data := .seq acc }, toks := tk }) :
    wpAny (model prog w) A (call (.type "tuple") [.ref it]) Q E s := by
  refine callType_codes (Q₁ := fun obj s₁ => s₁.TypeIs obj "tuple" ∧ Q obj s₁) F.called_tuple (F.typeCall_tuple_1 _) F.entry_object_init
    (code_tuple_new_rt (A := A.in1) hh hit hl hne hn fun h' tk acc hk hacc => ⟨⟨_, Heap.get?_push_size _ rfl, rfl⟩, hQ h' tk acc hk hacc⟩) fun obj s₁ h₁ => ?_
  exact ⟨h₁.1, F.args_object_init_2 obj _, object_init_meets F.called_tuple.init.lookup F.called_tuple.made (by decide) prog w A.in1 _ s₁ ⟨h₁.1, rfl, h₁.2⟩⟩
end
end RT

namespace RT
open PySem PySem.Spec PyProof.Rows L2
section
variable {X : Cx}
/-- tuple(reversed(x)), x a tuple: a new tuple -/
def tTupRevT (K : PySem.W.Frag) (te : TE) : TE := fun σ H Q => te σ H fun v H1 => ∃ (a : Addr) (xs : List V), v = .ref a ∧ SqT K H1 a xs ∧ ∀ q, H1 q = none → Q (.ref q) (upd H1 q (.tup xs.reverse))
theorem pe_tupRevT {e : Expr} {te : TE} {p p2 pos pos2 : Pos} (hc : X.calm = true) (hg : Gl X "tuple") (hm : X.mg "tuple" = none) (hg2 : Gl X "reversed") (hm2 : X.mg "reversed" = none) (he : PE X e te)
    (hs : starEach [e] X.env = (false, eval e X.env) :: starEach [] X.env := by rfl)
    (hs2 : starEach [.Call (.Name "reversed" p2) [e] [] pos2] X.env = (false, eval (.Call (.Name "reversed" p2) [e] [] pos2) X.env) :: starEach [] X.env := by rfl) :
    PE X (.Call (.Name "tuple" p) [.Call (.Name "reversed" p2) [e] [] pos2] [] pos) (tTupRevT X.K te) := by
  refine ⟨fun pins s σ H Q I h => ?_⟩
  refine Call_ (ld_blt I hg hm boot_tuple (PyProof.Rows.callWith_type1 (args_cons (Call_ (ld_blt I hg2 hm2 PyProof.Rows.boot_reversed (PyProof.Rows.callWith_type1 (args_cons (thn (he.run pins s σ H _ I h) fun u s1 ⟨v, H1, I1, r1, q1⟩ => args_nil ?_) hs) hs rfl))) hs2) hs2 rfl))
  obtain ⟨a, xs, ev, hq, q⟩ := q1
  subst ev
  obtain rfl : u = Value.ref a := r1
  obtain ⟨its, rv, p', hz⟩ := I1.tuple hq
  have hn := line63
  have hn0 : its.toArray.size ≤ sizeLine := by rw [List.size_toArray, ← rv.length]; exact hz
  refine call_reversed_tup p' (fun A E Q k => len_tuple p' (by omega) k) (args_nil ?_)
  have k0 : ∀ b o, s1.heap.get? b = some o → (s1.heap.push (rtObj a ((its.toArray.size : Int) - 1))).get? b = some o := fun b o e => Heap.get?_push_of_some _ e
  have I2 : Inv X pins σ H1 { s1 with heap := s1.heap.push (rtObj a ((its.toArray.size : Int) - 1)), toks := s1.toks + 1 + 1 } := I1.kept (t' := s1.toks + 1 + 1) k0
  obtain ⟨f0, f1, f2, f3, f4, f5⟩ := I1.fpOk (H' := H1) (b := s1.heap.objs.size) (Nat.le_refl _) (I1.hok.fresh (Nat.le_refl _))
  obtain ⟨ol, hol, _⟩ := id p'
  have hne : a ≠ s1.heap.objs.size := Nat.ne_of_lt (Heap.lt_size hol)
  refine call_tuple_rt (s := { s1 with heap := s1.heap.push (rtObj a ((its.toArray.size : Int) - 1)), toks := s1.toks + 1 + 1 }) (I1.ok.hd hc) ⟨_, Heap.get?_push_size _ rfl, rfl, rfl⟩ (tup_at p' fun o e => k0 a o e) hne hn0 fun h' tk acc hk hi => ?_
  have I3 : Inv X pins σ H1 { s1 with heap := h', toks := tk } := I2.turned (t' := tk) (fun b o hb e => hk b o hb e) f0 f1 f3 f4 f5
  refine ⟨.ref h'.objs.size, upd H1 h'.objs.size (.tup xs.reverse), I3.laid (t' := tk) (fun c o e => Heap.get?_push_of_some _ e) (Nat.le_refl _) (show ObjOk X.prog X.w _ _ _ (.tup xs.reverse) from ⟨by rw [List.length_reverse]; exact hz, acc.toList, vals_rev rv hi, ?_⟩), rfl, q _ (I3.hok.fresh (Nat.le_refl _))⟩
  rw [Array.toArray_toList]
  exact IsTup.new _ _
end
end RT

set_option Elab.async false
set_option linter.all false
set_option maxRecDepth 100000
set_option maxHeartbeats 2000000
namespace L2
open PySem PySem.Spec PyProof.Rows
section
variable {X : Cx}
/-- d.update(e), both dicts of ints and texts -/
def tDUpd (td te : TE) : TE := fun σ H Q => td σ H fun x H1 => (∃ a kvs, x = .ref a ∧ H1 a = some (.dK kvs)) ∧ te σ H1 fun y H2 => ∃ a b kvs more, x = .ref a ∧ y = .ref b ∧ a ≠ b ∧ H2 a = some (.dK kvs) ∧ H2 b = some (.dK more) ∧ kvs.length + more.length ≤ sizeLine ∧ Q .non (upd H2 a (.dK (mergeK kvs more)))
theorem pe_dupd {o e : Expr} {td te : TE} {apos cpos : Pos} (ho : PE X o td) (he : PE X e te)
    (hs : starEach [e] X.env = [(false, eval e X.env)] := by rfl) (hbase : attributeBase o "update" X.env (eval o X.env) = eval o X.env := by rfl) (hline : (apos.endLine == cpos.line) = true := by rfl) :
    PE X (.Call (.Attribute o "update" apos) [e] [] cpos) (tDUpd td te) := by
  refine ⟨fun pins s σ H Q I h => ?_⟩
  refine PySem.Call_method1 hbase hs hline (thn (ho.run pins s σ H _ I h) fun u s1 ⟨x, H1, I1, rx, ⟨a, kvs, ex, e1⟩, q1⟩ => ?_)
  subst ex
  obtain rfl : u = Value.ref a := rx
  obtain ⟨t1, t2, _⟩ := isD_at I1 (.inl ⟨kvs, .inl e1⟩)
  refine ⟨"dict", _, PySem.F.plainAttrs_dict, PySem.F.slot_dict_update, PySem.F.type_dict_update, t1, t2, Calls.callWith_builtin rfl (Calls.evalArgs_plain (Calls.spliced_cons (thn (he.run pins s1 σ H1 _ I1 q1) fun iv s2 ⟨y, H2, I2, ry, q2⟩ => Calls.spliced_nil ?_)))⟩
  obtain ⟨a', b, kvs', more, ea, rfl, hab, e2, e3, hl, q2⟩ := q2
  cases ea
  obtain rfl : iv = Value.ref b := ry
  obtain ⟨z, hd, vs, rel, dd⟩ := dk_of I2.hok e2
  obtain ⟨z2, hd2, ws, rel2, dd2⟩ := dk_of I2.hok e3
  refine call_meetsIn PySem.F.slot_dict_update dd.typeIs PySem.F.entry_dict_update (PySem.F.args_dict_update_2 _ _) (meets_dict_update (mixKind X.prog X.w) a b hab hd2)
    ⟨vs, ws, dd, dd2, by rw [← rel.length, ← rel2.length]; exact hl, fun h' dd' _ hs => ?_⟩
  have he : ∃ q, h'.get? a = some q := let ⟨q, _, _, hq, _⟩ := dd'; ⟨q, hq⟩
  exact ⟨.non, _, d_write (t' := s2.toks) I2 (by rw [e2]; exact True.intro) hs he (dk_new (Nat.le_trans (length_mergeK more kvs') hl) hd (KV.merge rel2 rel) dd'), rfl, q2⟩
end
end L2
namespace DL
open PySem L2 PyProof.Rows
section
variable {K : PySem.W.Frag} {H : Hp}
theorem dps_app : ∀ {vs ws : List V} {ds es : List PyData}, DpAll K H vs ds → DpAll K H ws es → DpAll K H (vs ++ ws) (ds ++ es)
  | [], _, _, _, .nil, h => h
  | _ :: _, _, _, _, .cons a b, h => .cons a (dps_app b h)
theorem dps_rev : ∀ {vs : List V} {ds : List PyData}, DpAll K H vs ds → DpAll K H vs.reverse ds.reverse
  | [], _, .nil => .nil
  | _ :: _, _, .cons a b => by
    rw [List.reverse_cons, List.reverse_cons]
    exact dps_app (dps_rev b) (.cons a .nil)
end
def revD : PyData → Option PyData
  | .tuple xs => some (.tuple xs.reverse)
  | _ => none
def lookS (kvs : List (PyData × PyData)) (x : Str) : Option PyData := (kvs.find? fun p => match p.1 with
  | .str y => decide (y = x)
  | _ => false).map (·.2)
def getD2 (kvs : List (PyData × PyData)) : PyData → PyData → Option PyData
  | .str x, d => some ((lookS kvs x).getD d)
  | _, _ => none
def eGet2 (f g h : SE) : SE := fun ρ => (f ρ).bind fun x => match x with
  | .dict kvs => (g ρ).bind fun y => (h ρ).bind fun z => Res.of (getD2 kvs y z)
  | _ => .bad
@[simp] theorem eGet2_ap {f g h : SE} {ρ : PEnv} : eGet2 f g h ρ = (f ρ).bind fun x => match x with
  | .dict kvs => (g ρ).bind fun y => (h ρ).bind fun z => Res.of (getD2 kvs y z)
  | _ => .bad := nrfl rfl
theorem lookS_kv (x : Str) : ∀ kvs : List (Key × V), lookS (kvD kvs) x = (valV kvs (.inr x)).map fun v => (scaD v).getD .none
  | [] => rfl
  | (k, v) :: r => by
    have ih := lookS_kv x r
    simp only [lookS, kvD, valV, List.map_cons, List.find?_cons] at ih ⊢
    cases k with
    | inl i => simpa [keyD] using ih
    | inr y =>
      by_cases h : y = x
      · subst h; simp [keyD]
      · simpa [keyD, h] using ih
section
variable {X : Cx} {W : Wis} {a b c : Expr} {pos : Pos}
theorem ed_tupRev {p p2 pos pos2 : Pos} {f : SE} (hc : X.calm = true) (hm : X.mg "tuple" = none) (hm2 : X.mg "reversed" = none) (he : PE X a (tD X.K W f)) (hg : Gl X "tuple" := by rfl) (hg2 : Gl X "reversed" := by rfl)
    (hs : starEach [a] X.env = (false, eval a X.env) :: starEach [] X.env := by rfl)
    (hs2 : starEach [.Call (.Name "reversed" p2) [a] [] pos2] X.env = (false, eval (.Call (.Name "reversed" p2) [a] [] pos2) X.env) :: starEach [] X.env := by rfl) :
    PE X (.Call (.Name "tuple" p) [.Call (.Name "reversed" p2) [a] [] pos2] [] pos) (tD X.K W (eUn revD f)) :=
  pe_weak (RT.pe_tupRevT hc hg hm hg2 hm2 he hs hs2) fun σ H Q q => by
    obtain ⟨ρ, hE, q⟩ := q
    refine tD_mono (tD_then hE q) fun x H1 ⟨d, hx, s1, hE1, q1⟩ => ?_
    obtain ⟨r, hr, q2⟩ := Res.post_of q1
    obtain ⟨p, xs, ds, rfl, rfl, h1, h2⟩ : ∃ p xs ds, x = .ref p ∧ d = .tuple ds ∧ SqT X.K H1 p xs ∧ DpAll X.K H1 xs ds := by
      cases hx with
      | tup h1 h2 => exact ⟨_, _, _, rfl, rfl, h1, h2⟩
      | _ => simp [revD] at hr
    simp only [revD, Option.some.injEq] at hr
    subst hr
    exact ⟨_, _, rfl, h1, fun p hp => q2 _ (same_new hp _) _ (.tup (SqT.of upd_same) (dps_mono (same_new hp _) _ _ (dps_rev h2)))⟩
theorem ed_get2 {apos : Pos} {f g h : SE} (hu : X.A.units + 1 < cLine) (ho : PE X a (tD X.K W f)) (he : PE X b (tD X.K W g)) (hf : PE X c (tD X.K W h)) (m : M2 X a "get" apos b c pos := by exact ⟨rfl, rfl, rfl, rfl⟩) :
    PE X (.Call (.Attribute a "get" apos) [b, c] [] pos) (tD X.K W (eGet2 f g h)) := by
  refine pe_weak (pe_dget2 hu ho he hf m) fun σ H Q q => ?_
  obtain ⟨ρ, hE, q⟩ := q
  refine tD_mono (tD_then hE q) fun x H1 ⟨d, hx, s1, hE1, q1⟩ => ?_
  obtain ⟨p, kvs, rfl, rfl, h1, h2⟩ : ∃ p kvs, x = .ref p ∧ d = .dict (kvD kvs) ∧ H1 p = some (.dK kvs) ∧ ∀ q ∈ kvs, (scaD q.2).isSome = true := by
    cases hx with
    | dct h1 h2 => exact ⟨_, _, rfl, rfl, h1, h2⟩
    | _ => exact q1.elim
  refine ⟨p, rfl, .inl ⟨kvs, .inl h1⟩, tD_mono (tD_then hE1 q1) fun y H2 ⟨e, hy, s2, hE2, q2⟩ => ?_⟩
  refine tD_mono (tD_then hE2 q2) fun z H3 ⟨e2, hz, s3, hE3, q3⟩ => ?_
  obtain ⟨r, hr, q4⟩ := Res.post_of q3
  obtain ⟨k, rfl, rfl⟩ : ∃ k, e = .str k ∧ y = .str k := by
    cases hy with
    | str z => exact ⟨z, rfl, rfl⟩
    | _ => simp [getD2] at hr
  simp only [getD2, lookS_kv, Option.some.injEq] at hr
  refine ⟨valV kvs (.inr k), DGet.k (k := .inr k) (s3 _ _ (s2 _ _ h1)), ?_⟩
  cases hv : valV kvs (.inr k) with
  | none =>
    rw [hv] at hr
    subst hr
    exact q4.now _ hz
  | some v =>
    rw [hv] at hr
    subst hr
    have hm : (scaD v).isSome = true := by
      simp only [valV, Option.map_eq_some_iff] at hv
      obtain ⟨kv, h3, rfl⟩ := hv
      exact h2 _ (List.mem_of_find?_eq_some h3)
    obtain ⟨dv, hd⟩ := Option.isSome_iff_exists.mp hm
    refine q4.now _ ?_
    show Dp X.K H3 v ((scaD v).getD .none)
    rw [hd]
    exact dp_sca hd
/-- a place that is there gets a written thing -/
def sPut (i : Nat) (d : PyData) : SS := fun ρ => if i < ρ.length then .ok (.nx (ρ.set i (some d))) else .bad
@[simp] theorem sPut_ap {i : Nat} {d : PyData} {ρ : PEnv} : sPut i d ρ = if i < ρ.length then .ok (.nx (ρ.set i (some d))) else .bad := nrfl rfl
/-- x = {..}; x.update({..}): written texts and numbers -/
theorem pssd_dict2 {i : Nat} {x : Str} {keys keys2 : List (Option Expr)} {vals vals2 : List Expr} {px px2 p2 p3 pos apos cpos epos : Pos} {rest : List Stmt} {G : SS} (A B : List (Key × V)) (hN : X.N.Nodup)
    (hp : PPs X p2 keys vals (A.map fun p => (tC (kV p.1), tC p.2))) (hp2 : PPs X p3 keys2 vals2 (B.map fun p => (tC (kV p.1), tC p.2))) (hr : PSs X rest (tsD X.K W G))
    (hi : X.N[i]? = some x := by rfl) (hx : Loc X.env.scope x := by first | exact Or.inl rfl | exact Or.inr rfl) (hv : Vis X.env.scope x := by first | exact Or.inl rfl | exact Or.inr rfl | rfl)
    (hall : keys.all (·.isSome) = true := by rfl) (hl : keys.length = vals.length := by rfl) (h0 : keys ≠ [] := by exact List.cons_ne_nil _ _) (h15 : keys.length ≤ 15 := by decide) (hk : A.length ≤ 15 := by decide)
    (hall2 : keys2.all (·.isSome) = true := by rfl) (hl2 : keys2.length = vals2.length := by rfl) (h02 : keys2 ≠ [] := by exact List.cons_ne_nil _ _) (h152 : keys2.length ≤ 15 := by decide) (hk2 : B.length ≤ 15 := by decide)
    (hsc : ∀ p ∈ mergeK (mergeK [] A) (mergeK [] B), (scaD p.2).isSome = true := by decide)
    (hs : swapsWith (.Dict keys vals p2) (some (.Name x px)) pos.line X.env = pure false := by rfl)
    (hs2 : swapsWith (.Call (.Attribute (.Name x px2) "update" apos) [.Dict keys2 vals2 p3] [] cpos) none epos.line X.env = pure false := by rfl)
    (hf : X.fn x = true ∨ X.env.scope.names.lookup x = some .local := by first | exact .inl rfl | exact .inr rfl | assumption)
    (hst : starEach [Expr.Dict keys2 vals2 p3] X.env = [(false, eval (Expr.Dict keys2 vals2 p3) X.env)] := by rfl) (hbase : attributeBase (.Name x px2) "update" X.env (eval (.Name x px2) X.env) = eval (.Name x px2) X.env := by rfl) (hline : (apos.endLine == cpos.line) = true := by rfl)
    (hd : (x == ("__debug__" : Str)) = false := by decide) (hcd : (x == ("__classdict__" : Str)) = false := by decide) :
    PSs X (.Assign [.Name x px] (.Dict keys vals p2) pos :: .Expr (.Call (.Attribute (.Name x px2) "update" apos) [.Dict keys2 vals2 p3] [] cpos) epos :: rest) (tsD X.K W (sSeq (sPut i (.dict (kvD (mergeK (mergeK [] A) (mergeK [] B))))) G)) := by
  have t1 := ps_set hN hi hx (pe_disp hp hall hl h0 h15) hs hf
  have t2 := ps_expr (pe_dupd (pe_var (X := X) (i := i) hi hv hd hcd) (pe_disp hp2 hall2 hl2 h02 h152) hst hbase hline) hs2
  refine pss_weak (pss_cons t1 (pss_cons t2 hr)) fun D σ H ⟨ρ, hE, q⟩ => ?_
  unfold sSeq sPut at q
  split at q
  case isFalse => exact q.elim
  rename_i hlt
  intro p hpn
  refine pairs_then ⟨upd_same, A, rfl, hk, ?_⟩
  rw [upd_upd]
  refine ⟨.ref p, ?_, ⟨p, _, rfl, upd_same⟩, ?_⟩
  · rw [List.getElem?_set_self (by rw [← hE.1]; exact hlt)]
  intro q2 hq2
  have hpq : p ≠ q2 := fun e => by
    subst e
    rw [upd_same] at hq2
    cases hq2
  refine pairs_then ⟨upd_same, B, rfl, hk2, ?_⟩
  rw [upd_upd]
  have hA := length_mergeK A []
  have hB := length_mergeK B []
  rw [List.length_nil] at hA hB
  refine ⟨p, q2, mergeK [] A, mergeK [] B, rfl, rfl, hpq, by rw [upd_ne hpq, upd_same], upd_same, by rw [sizeLine_eq]; omega, ?_⟩
  have s0 : Same H (upd (upd (upd H p (.dK (mergeK [] A))) q2 (.dK (mergeK [] B))) p (.dK (mergeK (mergeK [] A) (mergeK [] B)))) := fun b u e => by
    have hb : b ≠ p := ne_of_none e hpn
    have hb2 : b ≠ q2 := fun e2 => by
      subst e2
      rw [upd_ne hb, e] at hq2
      cases hq2
    rw [upd_ne hb, upd_ne hb2, upd_ne hb]
    exact e
  exact ⟨_, (hE.mono s0).set (.dct upd_same hsc), Res.post.mono q (fun d r => r.on s0) fun n r => r.on s0⟩
end
end DL

set_option Elab.async false
set_option linter.all false
set_option maxRecDepth 100000
set_option maxHeartbeats 2000000
namespace DL
open PySem L2 PyProof.Rows
def sEx (n : Nat) : SS := fun _ => .ex n
@[simp] theorem sEx_ap {n : Nat} {ρ : PEnv} : sEx n ρ = .ex n := rfl
section
variable {P : Program} {w : World} {K : PySem.W.Frag} {mg : Str → Option Value} {base : Heap}
/-- a def that may be left by a raise -/
theorem callee_ofX {cls : Nat → Value} {x qual : Str} {st : Stmt} {f : Addr} {fd : FuncData} {N ps : List Str} {k : Nat} {F : SS} (D : L2.Fun K x qual st f fd) (S : FnScope N ps (defScope st)) (hm : mg x = some (.ref f)) (hb : Binds K fd ps [])
    (body : ∀ (cdv : Value) (A : Around) (outer : List Env) (s : Shared) (H : Hp) (E : XK), Room k (A.deeper (envOfC qual (defScope st) s.heap.objs.size f cdv)) →
      Takes (cxOf (L2.CX P w) P w K mg base N qual (defScope st) f cdv A outer s H E) (fun c d _ H => E c d H) → PassesOwn (model P w) (A.deeper (envOfC qual (defScope st) s.heap.objs.size f cdv)) (envOfC qual (defScope st) s.heap.objs.size f cdv) (cxOf (L2.CX P w) P w K mg base N qual (defScope st) f cdv A outer s H E).xe →
      PSs (cxOf (L2.CX P w) P w K mg base N qual (defScope st) f cdv A outer s H E) (defBody st) (tsD K (fun m H' => E (cls m) none H') F)) : Callee P w K mg base (L2.CX P w) cls x (k + 1) ps (bodyD N.length F) := by
  refine ⟨f, fd, D.okX S (fun vs H Q E h => h.1) (fun cdv A outer s H vs Q E hr h => ⟨_, body cdv A outer s H E hr (takes_of rfl rfl rfl rfl) (passes_of rfl), body_then h⟩), hm, D.kp, hb, ?_⟩
  obtain ⟨oc, od, kV, doc, pm, an, cdv, ct, osl, rfl, lk, hcd⟩ := D.ex
  exact ⟨oc, od, osl, lk⟩
end
section
variable {X : Cx} {pos : Pos}
theorem passX {cls : Nat → Value} {E : XK} (tk : Takes X (fun c d _ H => E c d H)) : Passes (L2.CX X.prog X.w) X (wishE cls fun m H => E (cls m) none H) :=
  passes_call tk fun c d σ H ⟨m, h1, h2, h3⟩ => by subst h1 h2; exact h3
/-- a class of errors without an own __init__, over ValueError -/
structure ErrAt (K : PySem.W.Frag) (mg : Str → Option Value) (x : Str) (C : Addr) : Prop where
  gC : mg x = some (.ref C)
  kC : PySem.W.keepIn K (.ref C) = true
  q : PySem.W.excIn K C [.type "ValueError", .type "Exception", .type "BaseException", .type "object"] "ValueError.__new__" = true
  ex : PySem.W.subIn K (.ref C) (.type "BaseException") = some true
  ty : PySem.W.typeIn K (.ref C) = some (.type "type")
theorem psd_raise {cls : Nat → Value} {E : XK} {n : Nat} {C : Addr} {x m : Str} {j : Nat} {p p2 pos' : Pos} (T : ErrAt X.K X.mg x C) (hcl : cls n = .ref C) (hc : X.calm = true) (tk : Takes X (fun c d _ H => E c d H)) (hg : Gl X x := by rfl) (hdb : (x == ("__debug__" : Str)) = false := by decide) :
    PS X (.Raise (some (.Call (.Name x p) [.Constant (.str m) j p2] [] pos)) none pos') (tsD X.K (fun m H => E (cls m) none H) (sEx n)) :=
  ps_weak (ps_raise hc tk (pmk_own PySem.F.excBase_ValueError T.q T.gC T.kC (raises_own T.ex T.ty) hg hdb)) fun D σ H ⟨ρ, hE, q⟩ => by
    have q1 : E (cls n) none H := q H (Same.refl H)
    rw [hcl] at q1
    exact q1
/-- a place in a list of texts -/
def lindexD : PyData → PyData → Option PyData
  | .list ds, .str z => (strsOf ds).bind fun ys => if z ∈ ys then some (.int (ys.idxOf z : Nat)) else none
  | _, _ => none
/-- a method of a list, of one argument -/
def eML (g : PyData → PyData → Option PyData) (f h : SE) : SE := fun ρ => (f ρ).bind fun x => match x with
  | .list ds => (h ρ).bind fun y => Res.of (g (.list ds) y)
  | _ => .bad
@[simp] theorem eML_ap {g : PyData → PyData → Option PyData} {f h : SE} {ρ : PEnv} : eML g f h ρ = (f ρ).bind fun x => match x with
  | .list ds => (h ρ).bind fun y => Res.of (g (.list ds) y)
  | _ => .bad := nrfl rfl
theorem ed_lindex {W : Wis} {a b : Expr} {apos : Pos} {f h : SE} (ho : PE X a (tD X.K W f)) (he : PE X b (tD X.K W h)) (hs : starEach [b] X.env = [(false, eval b X.env)] := by rfl)
    (hbase : attributeBase a "index" X.env (eval a X.env) = eval a X.env := by rfl) (hline : (apos.endLine == pos.line) = true := by rfl) :
    PE X (.Call (.Attribute a "index" apos) [b] [] pos) (tD X.K W (eML lindexD f h)) := by
  refine ⟨fun pins s σ H Q I hh => ?_⟩
  obtain ⟨ρ, hE, q⟩ := hh
  refine PySem.Call_method1 hbase hs hline (thn (ho.run pins s σ H _ I (tD_then hE q)) fun v s1 ⟨x, H1, I1, r1, q1⟩ => ?_)
  obtain ⟨d, hx, sm1, hE1, q1⟩ := q1
  obtain ⟨p, xs, ds, rfl, rfl, h1, h2⟩ : ∃ p xs ds, x = .ref p ∧ d = .list ds ∧ SqL X.K H1 p xs ∧ DpAll X.K H1 xs ds := by
    cases hx with
    | lst h1 h2 => exact ⟨_, _, _, rfl, rfl, h1, h2⟩
    | _ => exact q1.elim
  obtain rfl : v = Value.ref p := r1
  obtain ⟨its, rv, ⟨o, n, ho', hc, hdn, hd⟩, hz⟩ := I1.list h1
  refine ⟨"list", _, PySem.F.plainAttrs_list, PySem.F.slot_list_index, PySem.F.type_list_index, ⟨o, ho', hc⟩, (fun c e => by cases e; exact ⟨o, ho', hdn⟩), Calls.callWith_builtin rfl (Calls.evalArgs_plain (Calls.spliced_cons ?_))⟩
  refine thn (he.run pins s1 σ H1 _ I1 (tD_then hE1 q1)) fun u s2 ⟨y, H2, I2, r2, q2⟩ => Calls.spliced_nil ?_
  obtain ⟨e, hy, sm2, hE2, q2⟩ := q2
  obtain ⟨r, hr, q3⟩ := Res.post_of q2
  obtain ⟨z, rfl, rfl⟩ : ∃ z, e = .str z ∧ y = .str z := by
    cases hy with
    | str z => exact ⟨z, rfl, rfl⟩
    | _ => simp [lindexD] at hr
  simp only [lindexD, Option.bind_eq_some_iff] at hr
  obtain ⟨ys, hys, hr⟩ := hr
  split at hr <;> cases hr
  rename_i hzm
  rw [strsOf_map hys] at h2
  rw [dps_strs_of h2] at h1
  have hl := List.idxOf_lt_length_of_mem hzm
  refine mt_index pins s2 σ H2 (.ref p) [.str z] _ [u] Q I2 rfl (.cons r2 .nil) ⟨p, ys.map V.str, .str z, ys.idxOf z, .str z, rfl, rfl, sm2.seq h1, rfl, flat_strs ys, ?_, ?_, ?_, q3.now _ (.int _)⟩
  · rw [List.getElem?_map, List.getElem?_eq_getElem hl]
    simp
  · show (z == z) = true
    exact beq_self_eq_true z
  · intro m z' hmj e
    rw [List.getElem?_map] at e
    obtain ⟨w, hw, rfl⟩ := Option.map_eq_some_iff.mp e
    have := List.not_of_lt_findIdx (p := (· == z)) (xs := ys) (i := m) hmj
    obtain ⟨h1, h2⟩ := List.getElem?_eq_some_iff.mp hw
    rw [h2] at this
    show (w == z) = false
    simpa using this
theorem kit_ref {K : PySem.W.Frag} {U C : Addr} {b : Bool} (h : PySem.W.subIn K (.ref U) (.ref C) = some b) (hs : PySem.W.subIn K (.ref U) (.ref U) = some true) (hd : PySem.W.hasDictIn K C = true) (ty : PySem.W.typeIn K (.ref C) = some (.type "type")) : PySem.W.kitOne K (.ref U) (.ref C) = some b := by
  unfold PySem.W.kitOne
  split
  · rename_i e
    have e2 : Value.ref U = Value.ref C := eq_of_beq e
    cases e2
    rw [h] at hs
    exact hs.symm
  · obtain ⟨cd, hc, _⟩ := PySem.W.any_some hd
    have e2 : ((PySem.W.clsIn K C).isSome && PySem.W.typeIn K (.ref C) == some (.type "type")) = true := by rw [hc, ty] <;> rfl
    show (if ((PySem.W.clsIn K C).isSome && PySem.W.typeIn K (.ref C) == some (.type "type")) = true then PySem.W.subIn K (.ref U) (.ref C) else none) = some b
    rw [if_pos e2]
    exact h
theorem kit_val {K : PySem.W.Frag} {U : Addr} {b : Bool} (h : PySem.W.subIn K (.ref U) (.type "ValueError") = some b) : PySem.W.kitOne K (.ref U) (.type "ValueError") = some b := by
  unfold PySem.W.kitOne
  rw [if_neg (by intro e; cases eq_of_beq e)]
  show (if PySem.W.kitMeta "ValueError" = true then PySem.W.subIn K (.ref U) (.type "ValueError") else none) = some b
  rw [if_pos (by decide +kernel)]
  exact h
end
end DL

set_option Elab.async false
set_option linter.all false
set_option maxRecDepth 100000
set_option maxHeartbeats 2000000
/-! a list of one's own, changed in place; values that are told new -/
namespace DL
open PySem L2 PyProof.Rows
/-- a heap without a place -/
def wo (H : Hp) (p : Addr) : Hp := fun b => if b = p then none else H b
theorem wo_same {H H' : Hp} (e : Same H H') (p : Addr) : Same (wo H p) (wo H' p) := fun b o h => by
  unfold wo at h ⊢
  split at h
  · cases h
  · rename_i hb
    rw [if_neg hb]
    exact e b o h
theorem wo_le (H : Hp) (p : Addr) : Same (wo H p) H := fun b o h => by
  unfold wo at h
  split at h
  · cases h
  · exact h
theorem wo_ne {H : Hp} {p a : Addr} (h : a ≠ p) : wo H p a = H a := if_neg h
theorem wo_upd (H : Hp) (p : Addr) (o : HO) : wo (upd H p o) p = wo H p := by
  funext b
  unfold wo
  split
  · rfl
  · rename_i hb
    exact upd_ne hb
theorem none_on {B B' : Hp} {a : Addr} (e : Same B B') (h : B' a = none) : B a = none := by
  cases q : B a with
  | none => rfl
  | some o => rw [e _ _ q] at h; cases h
/-- below, without a place that was not there -/
theorem same_wo {B H : Hp} {p : Addr} (e : Same B H) (h : B p = none) : Same B (wo H p) := fun b o q => by
  rw [wo_ne (fun z => by subst z; rw [h] at q; cases q)]
  exact e b o q
theorem EnvR.blank {K : PySem.W.Frag} {H : Hp} {σ : L2.St} {ρ : PEnv} {i : Nat} {x : Option V} (h : EnvR K H σ ρ) : EnvR K H (σ.set i x) (ρ.set i none) := by
  refine ⟨by rw [List.length_set, List.length_set]; exact h.1, fun j e q => ?_⟩
  by_cases hj : i = j
  · subst hj
    have hl : i < ρ.length := by
      have z := (List.getElem?_eq_some_iff.mp q).1
      rw [List.length_set] at z
      exact z
    rw [List.getElem?_set_self hl] at q
    cases q
  · rw [List.getElem?_set_ne hj] at q
    obtain ⟨u, a, b⟩ := h.2 j e q
    exact ⟨u, by rw [List.getElem?_set_ne hj]; exact a, b⟩
/-- the own place -/
def OwnAt (K : PySem.W.Frag) (B H : Hp) (σ : L2.St) (ρ : PEnv) (i : Nat) : Prop := ∃ p xs ts, σ[i]? = some (some (.ref p)) ∧ B p = none ∧ H p = some (.lst xs) ∧ ρ[i]? = some (some (.list ts)) ∧ DpAll K H xs ts ∧ frzs ts = true ∧ EnvR K (wo H p) σ (ρ.set i none)
structure St (K : PySem.W.Frag) (B H : Hp) (σ : L2.St) (ρ : PEnv) (o : Option Nat) : Prop where
  base : Same B H
  env : EnvR K H σ ρ
  own : ∀ i, o = some i → OwnAt K B H σ ρ i
/-- what is told of a value: new: a list at a place that was not there -/
def told (K : PySem.W.Frag) (n : Bool) (B H' : Hp) (d : PyData) (v : V) : Prop := Dp K H' v d ∧ (n = true → ∃ a xs ts, v = .ref a ∧ d = .list ts ∧ B a = none ∧ H' a = some (.lst xs) ∧ DpAll K H' xs ts)
theorem told.on {K : PySem.W.Frag} {n : Bool} {B B' H' : Hp} {d : PyData} {v : V} (e : Same B B') (h : told K n B' H' d v) : told K n B H' d v := ⟨h.1, fun z => by
  obtain ⟨a, xs, ts, h1, h2, h3, h4, h5⟩ := h.2 z
  exact ⟨a, xs, ts, h1, h2, none_on e h3, h4, h5⟩⟩
theorem told_no {K : PySem.W.Frag} {B H' : Hp} {d : PyData} {v : V} (h : Dp K H' v d) : told K false B H' d v := ⟨h, fun z => by cases z⟩
theorem told_lst {K : PySem.W.Frag} {n : Bool} {B H' : Hp} {a : Addr} {xs : List V} {ts : List PyData} (h1 : B a = none) (h2 : H' a = some (.lst xs)) (h3 : DpAll K H' xs ts) : told K n B H' (.list ts) (.ref a) := ⟨.lst (SqL.of h2) h3, fun _ => ⟨a, xs, ts, rfl, rfl, h1, h2, h3⟩⟩
/-- frozen data reads without the list's place, too -/
theorem frz_wo {K : PySem.W.Frag} {H : Hp} {p : Addr} {xs : List V} (hp : H p = some (.lst xs)) : ∀ a ys, SqT K H a ys → SqT K (wo H p) a ys := fun a ys h => by
  rcases h with (h | ⟨o, h⟩) | h
  · refine .inl (.inl ?_)
    rw [wo_ne (fun e => by subst e; rw [hp] at h; cases h)]
    exact h
  · refine .inl (.inr ⟨o, ?_⟩)
    rw [wo_ne (fun e => by subst e; rw [hp] at h; cases h)]
    exact h
  · exact .inr h
section
variable {K : PySem.W.Frag} {B H H' : Hp} {σ : L2.St} {ρ : PEnv} {i j : Nat} {o : Option Nat}
theorem OwnAt.on (h : OwnAt K B H σ ρ i) (e : Same H H') : OwnAt K B H' σ ρ i := by
  obtain ⟨p, xs, ts, h1, h2, h3, h4, h5, h6, h7⟩ := h
  exact ⟨p, xs, ts, h1, h2, e _ _ h3, h4, dps_mono e _ _ h5, h6, h7.mono (wo_same e p)⟩
theorem St.on (h : St K B H σ ρ o) (e : Same H H') : St K B H' σ ρ o := ⟨h.base.trans e, h.env.mono e, fun i q => (h.own i q).on e⟩
theorem St.drop (h : St K B H σ ρ o) : St K B H σ ρ none := ⟨h.base, h.env, fun i q => by cases q⟩
theorem St.rebase {B' : Hp} (h : St K B' H σ ρ o) (e : Same B B') : St K B H σ ρ o := ⟨e.trans h.base, h.env, fun i q => by
  obtain ⟨p, xs, ts, h1, h2, h⟩ := h.own i q
  exact ⟨p, xs, ts, h1, none_on e h2, h⟩⟩
theorem st_none (e : Same B H) (h : EnvR K H σ ρ) : St K B H σ ρ none := ⟨e, h, fun i q => by cases q⟩
/-- another place gets a value that lies elsewhere -/
theorem St.put (h : St K B H σ ρ o) (hij : o ≠ some j) {v : V} {d : PyData} (hv : Dp K H v d) (hw : ∀ p xs, H p = some (.lst xs) → B p = none → (∃ i, o = some i ∧ σ[i]? = some (some (.ref p))) → Dp K (wo H p) v d) : St K B H (σ.set j (some v)) (ρ.set j (some d)) o := by
  refine ⟨h.base, h.env.set hv, fun i q => ?_⟩
  obtain ⟨p, xs, ts, h1, h2, h3, h4, h5, h6, h7⟩ := h.own i q
  have hj : i ≠ j := fun z => hij (by rw [q, z])
  refine ⟨p, xs, ts, by rw [List.getElem?_set_ne (Ne.symm hj)]; exact h1, h2, h3, by rw [List.getElem?_set_ne (Ne.symm hj)]; exact h4, h5, h6, ?_⟩
  rw [List.set_comm _ _ (Ne.symm hj)]
  exact h7.set (hw p xs h3 h2 ⟨i, q, h1⟩)
theorem St.putF (h : St K B H σ ρ o) (hij : o ≠ some j) {v : V} {d : PyData} (hz : frz d = true) (hv : Dp K H v d) : St K B H (σ.set j (some v)) (ρ.set j (some d)) o :=
  h.put hij hv fun p xs hp _ _ => frz_mono (frz_wo hp) d v hz hv
/-- another place gets a new list -/
theorem St.putN (h : St K B H σ ρ o) (hij : o ≠ some j) (e : Same H H') {v : V} {d : PyData} (hv : told K true H H' d v) (hz : ∀ ts, d = .list ts → frzs ts = true) : St K B H' (σ.set j (some v)) (ρ.set j (some d)) o := by
  obtain ⟨hd, hn⟩ := hv
  obtain ⟨a, xs, ts, rfl, rfl, h1, h2, h3⟩ := hn rfl
  refine (h.on e).put hij hd fun p ys hp hB ⟨i, hi, hs⟩ => ?_
  obtain ⟨p', xs', ts', g1, g2, g3, _⟩ := h.own i hi
  rw [g1] at hs
  cases hs
  have hap : a ≠ p := fun z => by subst z; rw [h1] at g3; cases g3
  exact .lst (SqL.of (by rw [wo_ne hap]; exact h2)) (frzs_mono (frz_wo hp) _ _ (hz ts rfl) h3)
/-- a place gets a new list as its own -/
theorem St.take (h : St K B H σ ρ o) (e : Same H H') {v : V} {ts : List PyData} (hv : told K true H H' (.list ts) v) (hz : frzs ts = true) (hi : i < ρ.length) : St K B H' (σ.set i (some v)) (ρ.set i (some (.list ts))) (some i) := by
  obtain ⟨hd, hn⟩ := hv
  obtain ⟨a, xs, ts', rfl, h0, h1, h2, h3⟩ := hn rfl
  cases h0
  refine ⟨h.base.trans e, (h.env.mono e).set hd, fun j q => ?_⟩
  cases q
  refine ⟨a, xs, ts, List.getElem?_set_self (by rw [← h.env.1]; exact hi), none_on h.base h1, h2, List.getElem?_set_self hi, h3, hz, ?_⟩
  rw [List.set_set]
  exact (h.env.mono (same_wo e h1)).blank
/-- the own list grows -/
theorem St.grow (h : St K B H σ ρ (some i)) {p : Addr} {xs ys : List V} {ts us : List PyData} (hs : σ[i]? = some (some (.ref p))) (hp : H p = some (.lst xs)) (hr : ρ[i]? = some (some (.list ts)))
    (hy : DpAll K (upd H p (.lst ys)) ys us) (hz : frzs us = true) : St K B (upd H p (.lst ys)) σ (ρ.set i (some (.list us))) (some i) := by
  obtain ⟨p', xs', ts', h1, h2, h3, h4, h5, h6, h7⟩ := h.own i rfl
  rw [h1] at hs
  cases hs
  have hB : Same B (upd H p (.lst ys)) := fun b o q => by
    rw [upd_ne (fun z => by subst z; rw [h2] at q; cases q)]
    exact h.base b o q
  have hil : i < ρ.length := (List.getElem?_eq_some_iff.mp hr).1
  have hw : EnvR K (wo (upd H p (.lst ys)) p) σ (ρ.set i none) := by rw [wo_upd]; exact h7
  have hd : Dp K (upd H p (.lst ys)) (.ref p) (.list us) := .lst (SqL.of upd_same) hy
  refine ⟨hB, ?_, fun j q => ?_⟩
  · refine ⟨by rw [List.length_set]; exact h.env.1, fun j e q => ?_⟩
    by_cases hj : i = j
    · subst hj
      rw [List.getElem?_set_self hil] at q
      cases q
      exact ⟨_, h1, hd⟩
    · rw [List.getElem?_set_ne hj] at q
      obtain ⟨v, a, b⟩ := (hw.mono (wo_le _ p)).2 j e (by rw [List.getElem?_set_ne hj]; exact q)
      exact ⟨v, a, b⟩
  · cases q
    exact ⟨p, ys, us, h1, h2, upd_same, List.getElem?_set_self hil, hy, hz, by rw [List.set_set]; exact hw⟩
end
theorem frzs_append : ∀ (as bs : List PyData), frzs (as ++ bs) = (frzs as && frzs bs)
  | [], bs => by simp [frzs]
  | a :: as, bs => by simp [frzs, frzs_append as bs, Bool.and_assoc]
theorem frzs_set : ∀ (as : List PyData) (k : Nat) (d : PyData), frzs as = true → frz d = true → frzs (as.set k d) = true
  | [], k, d, _, _ => rfl
  | a :: as, 0, d, h, hd => by
    simp only [frzs, Bool.and_eq_true] at h
    simp [frzs, hd, h.2]
  | a :: as, k + 1, d, h, hd => by
    simp only [frzs, Bool.and_eq_true] at h
    simp [frzs, h.1, frzs_set as k d h.2 hd]

/-! ### expressions that give what is new -/
def tE (K : PySem.W.Frag) (W : Wis) (n : Bool) (f : SE) : TE := fun σ H Q => ∃ ρ, EnvR K H σ ρ ∧ (f ρ).post (fun d => fut H fun H' => ∀ v, told K n H H' d v → Q v H') fun m => fut H (W m)
section
variable {X : Cx} {W : Wis} {a b c : Expr} {pos : Pos} {n : Bool}
theorem eN_D {f : SE} (h : PE X a (tE X.K W n f)) : PE X a (tD X.K W f) := pe_weak h fun σ H Q ⟨ρ, hE, q⟩ => ⟨ρ, hE, q.mono (fun d r H' s v hv => r H' s v hv.1) fun m r => r⟩
theorem eD_N {f : SE} (h : PE X a (tD X.K W f)) : PE X a (tE X.K W false f) := pe_weak h fun σ H Q ⟨ρ, hE, q⟩ => ⟨ρ, hE, q.mono (fun d r H' s v hv => r H' s v (told_no hv)) fun m r => r⟩
theorem en_lst {es : List Expr} {f : SA} (h : PA X es (taD X.K W f)) : PE X (.List es pos) (tE X.K W true (eLst f)) := by
  refine pe_weak (pe_lst h) fun σ H Q h => ?_
  obtain ⟨ρ, hE, q⟩ := h
  refine ⟨ρ, hE, (Res.post_bind.mp q).mono (fun ds q1 H1 s1 xs hxs => ?_) fun m r => r⟩
  split at q1
  · rename_i hz
    exact ⟨by rw [dps_len hxs]; exact Nat.le_trans hz big_line, fun p hp => q1 _ (s1.trans (same_new hp _)) _ (told_lst (none_on s1 hp) upd_same (dps_mono (same_new hp _) _ _ hxs))⟩
  · exact q1.elim
theorem en_list {p : Pos} {f : SA} (hm : X.mg "list" = none) (ha : PA X [a] (taD X.K W f)) (hg : Gl X "list" := by rfl) (he : starEach [a] X.env = (false, eval a X.env) :: starEach [] X.env := by rfl) (hpl : (backTo pos (starEach [] X.env)).any (·.1) = false := by rfl) :
    PE X (.Call (.Name "list" p) [a] [] pos) (tE X.K W true (eArgs listD f)) := by
  refine pe_weak (pe_callTy call_list_of hg hm (by decide +kernel) ha (by decide) (by decide) he hpl) fun σ H Q h => ?_
  obtain ⟨ρ, hE, q⟩ := h
  refine ⟨ρ, hE, (Res.post_bind.mp q).mono (fun ds q1 H1 s1 xs hxs => ?_) fun m r => r⟩
  obtain ⟨r, hr, q2⟩ := Res.post_of q1
  match ds, xs, hxs, hr with
  | [.list xs], _, .cons (.lst h1 h2) .nil, hg =>
    simp only [listD, Option.some.injEq] at hg
    subst hg
    exact ⟨_, _, rfl, .inl h1, fun p hp => q2 _ (s1.trans (same_new hp _)) _ (told_lst (none_on s1 hp) upd_same (dps_mono (same_new hp _) _ _ h2))⟩
  | [.tuple xs], _, .cons (.tup h1 h2) .nil, hg =>
    simp only [listD, Option.some.injEq] at hg
    subst hg
    exact ⟨_, _, rfl, .inr h1, fun p hp => q2 _ (s1.trans (same_new hp _)) _ (told_lst (none_on s1 hp) upd_same (dps_mono (same_new hp _) _ _ h2))⟩
end

/-! ### statements -/
def outG (K : PySem.W.Frag) (n : Bool) (B : Hp) (o : Option Nat) (D : Ends) : Out → Prop
  | .nx ρ' => ∀ σ' H', St K B H' σ' ρ' o → D.nx σ' H'
  | .rt d => ∀ H', Same B H' → ∀ v, told K n B H' d v → D.rt v H'
  | .bk _ => False
  | .ct _ => False
def tsG (K : PySem.W.Frag) (W : Wis) (n : Bool) (o o' : Option Nat) (F : SS) : TS := fun D σ H => ∃ B ρ, St K B H σ ρ o ∧ (F ρ).post (outG K n B o' D) fun m => fut B (W m)
/-- no value is returned -/
def noRt (F : SS) : Prop := ∀ ρ d, F ρ ≠ .ok (.rt d)
section
variable {X : Cx} {W : Wis} {a b tg : Expr} {pos : Pos} {st : Stmt} {rest : List Stmt} {F G : SS} {n : Bool} {o o' m : Option Nat} {i j : Nat}
theorem g_of {K : PySem.W.Frag} {D : Ends} {σ : L2.St} {H : Hp} (hn : n = false ∨ noRt F) (q : tsG K W n o none F D σ H) : tsD K W F D σ H := by
  obtain ⟨B, ρ, hS, q⟩ := q
  refine ⟨ρ, hS.env, ?_⟩
  cases hF : F ρ with
  | bad => rw [hF] at q; exact q.elim
  | ex k => rw [hF] at q; exact fun H' s => q H' (hS.base.trans s)
  | ok r =>
    rw [hF] at q
    cases r with
    | nx ρ' => exact fun H' s σ' hE => q σ' H' (st_none (hS.base.trans s) hE)
    | rt d =>
      rcases hn with rfl | hn
      · exact fun H' s v hv => q H' (hS.base.trans s) v (told_no hv)
      · exact absurd hF (hn ρ d)
    | bk ρ' => exact q.elim
    | ct ρ' => exact q.elim
/-- what stands as data, among these; what was owned is let go -/
theorem psG_d (h : PS X st (tsD X.K W F)) (hn : n = false ∨ noRt F) : PS X st (tsG X.K W n o none F) := ps_weak h fun D σ H q => g_of hn q
theorem pssG_d {ss : List Stmt} (h : PSs X ss (tsD X.K W F)) (hn : n = false ∨ noRt F) : PSs X ss (tsG X.K W n o none F) := pss_weak h fun D σ H q => g_of hn q
theorem d_of {K : PySem.W.Frag} {D : Ends} {σ : L2.St} {H : Hp} (q : tsD K W F D σ H) (hb : ∀ ρ ρ', F ρ ≠ .ok (.bk ρ') ∧ F ρ ≠ .ok (.ct ρ')) : tsG K W n none o F D σ H := by
  obtain ⟨ρ, hE, q⟩ := q
  refine ⟨H, ρ, st_none (Same.refl H) hE, ?_⟩
  cases hF : F ρ with
  | bad => rw [hF] at q; exact q.elim
  | ex k => rw [hF] at q; exact q
  | ok r =>
    rw [hF] at q
    cases r with
    | nx ρ' => exact fun σ' H' hS => q H' hS.base σ' hS.env
    | rt d => exact fun H' s v hv => q H' s v hv.1
    | bk ρ' => exact absurd hF (hb ρ ρ').1
    | ct ρ' => exact absurd hF (hb ρ ρ').2
/-- a block with owned lists, as data: it breaks off nothing -/
def noBk (F : SS) : SS := fun ρ => (F ρ).bind fun r => match r with
  | .bk _ => .bad
  | .ct _ => .bad
  | r => .ok r
@[simp] theorem noBk_ap {ρ : PEnv} : noBk F ρ = (F ρ).bind fun r => match r with
  | .bk _ => .bad
  | .ct _ => .bad
  | r => .ok r := nrfl rfl
theorem d_noBk {K : PySem.W.Frag} {D : Ends} {σ : L2.St} {H : Hp} (q : tsD K W (noBk F) D σ H) : tsG K W n none o F D σ H := by
  obtain ⟨ρ, hE, q⟩ := q
  refine ⟨H, ρ, st_none (Same.refl H) hE, ?_⟩
  unfold noBk at q
  cases hF : F ρ with
  | bad => rw [hF] at q; exact q.elim
  | ex k => rw [hF] at q; exact q
  | ok r =>
    rw [hF] at q
    cases r with
    | nx ρ' => exact fun σ' H' hS => q H' hS.base σ' hS.env
    | rt d => exact fun H' s v hv => q H' s v hv.1
    | bk ρ' => exact q.elim
    | ct ρ' => exact q.elim
theorem pssD_g {ss : List Stmt} (h : PSs X ss (tsG X.K W n none o F)) : PSs X ss (tsD X.K W (noBk F)) := pss_weak h fun D σ H q => d_noBk q
theorem psD_g (h : PS X st (tsG X.K W n none o F)) : PS X st (tsD X.K W (noBk F)) := ps_weak h fun D σ H q => d_noBk q
/-- the own list is let go behind -/
theorem outG_drop {K : PySem.W.Frag} {B : Hp} {D : Ends} {r : Out} (h : outG K n B none D r) : outG K n B o D r := by
  cases r with
  | nx ρ' => exact fun σ' H' hS => h σ' H' hS.drop
  | rt d => exact h
  | bk ρ' => exact h
  | ct ρ' => exact h
theorem psG_drop (h : PS X st (tsG X.K W n m o F)) : PS X st (tsG X.K W n m none F) := ps_weak h fun D σ H ⟨B, ρ, hS, q⟩ => ⟨B, ρ, hS, q.mono (fun r z => outG_drop z) fun k z => z⟩
theorem pssG_drop {ss : List Stmt} (h : PSs X ss (tsG X.K W n m o F)) : PSs X ss (tsG X.K W n m none F) := pss_weak h fun D σ H ⟨B, ρ, hS, q⟩ => ⟨B, ρ, hS, q.mono (fun r z => outG_drop z) fun k z => z⟩
theorem pssG_nil : PSs X [] (tsG X.K W n o o sNext) := pss_weak pss_nil fun D σ H ⟨B, ρ, hS, q⟩ => q σ H hS
theorem pssG_cons (h1 : PS X st (tsG X.K W n o m F)) (h2 : PSs X rest (tsG X.K W n m o' G)) : PSs X (st :: rest) (tsG X.K W n o o' (sSeq F G)) := pss_weak (pss_cons h1 h2) fun D σ H ⟨B, ρ, hS, q⟩ => by
  refine ⟨B, ρ, hS, (Res.post_bind.mp q).mono (fun r z => ?_) fun k z => z⟩
  cases r with
  | nx ρ' => exact fun σ' H' hS' => ⟨B, ρ', hS', z⟩
  | rt d => exact z
  | bk ρ' => exact z.elim
  | ct ρ' => exact z.elim
theorem pssG_one (h1 : PS X st (tsG X.K W n o o' F)) : PSs X [st] (tsG X.K W n o o' F) := pss_one h1
/-- an expression's reading among these -/
theorem tE_then {K : PySem.W.Frag} {B H : Hp} {σ : L2.St} {ρ : PEnv} {f : SE} {g : PyData → Res Out} {D : Ends} {k : Bool} {r : Out → Prop} (hS : St K B H σ ρ o) (h : ((f ρ).bind g).post r fun m => fut B (W m)) {Q : VK}
    (w : ∀ d v H1, Same H H1 → told K k H H1 d v → St K B H1 σ ρ o → (g d).post r (fun m => fut B (W m)) → Q v H1) : tE K W k f σ H Q :=
  ⟨ρ, hS.env, (Res.post_bind.mp h).mono (fun d q H1 s v hv => w d v H1 s hv (hS.on s) q) fun m q => q.on hS.base⟩
theorem psG_bad : PS X st (tsG X.K W n o o sBad) := ⟨fun pins s σ H D I q => by
  obtain ⟨B, ρ, hS, q⟩ := q
  exact q.elim⟩
theorem psG_if {t : ST} {c : Expr} {a b : List Stmt} (hc : PT X c (ttD X.K W t)) (ha : PSs X a (tsG X.K W n o o' F)) (hb : PSs X b (tsG X.K W n o o' G)) : PS X (.If c a b pos) (tsG X.K W n o o' (sIf t F G)) :=
  ps_weak (ps_if hc ha hb) fun D σ H ⟨B, ρ, hS, q⟩ => by
    refine ⟨ρ, hS.env, (Res.post_bind.mp q).mono (fun k q1 H1 s => ?_) fun m q => q.on hS.base⟩
    cases k with
    | true => exact iteT ⟨B, ρ, hS.on s, q1⟩
    | false => exact iteF ⟨B, ρ, hS.on s, q1⟩
/-- a return: what is told of it -/
theorem psG_ret {f : SE} (he : PE X a (tE X.K W n f)) : PS X (.Return (some a) pos) (tsG X.K W n o o (sRet f)) := ps_weak (ps_ret he) fun D σ H ⟨B, ρ, hS, q⟩ =>
  tE_then (D := D) hS q fun d v H1 s hv hS1 q1 => q1 H1 hS1.base v (hv.on hS.base)
/-- the own list is returned -/
theorem psG_own {x : Str} {p : Pos} (hN : X.N[i]? = some x := by rfl) (hv : Vis X.env.scope x := by first | exact Or.inl rfl | exact Or.inr (Or.inl rfl) | exact Or.inr (Or.inr rfl)) (hd : (x == ("__debug__" : Str)) = false := by decide)
    (hcd : (x == ("__classdict__" : Str)) = false := by decide) : PS X (.Return (some (.Name x p)) pos) (tsG X.K W n (some i) (some i) (sRet (eVar i))) :=
  ps_weak (ps_ret (pe_var (i := i) hN hv hd hcd)) fun D σ H ⟨B, ρ, hS, q⟩ => by
    obtain ⟨p, xs, ts, h1, h2, h3, h4, h5, h6, h7⟩ := hS.own i rfl
    unfold sRet eVar at q
    rw [h4] at q
    exact ⟨_, h1, q H hS.base _ (told_lst h2 h3 h5)⟩
/-- another place gets frozen data -/
def sSetF (j : Nat) (f : SE) : SS := fun ρ => (f ρ).bind fun d => if frz d then .ok (.nx (ρ.set j (some d))) else .bad
@[simp] theorem sSetF_ap {j : Nat} {f : SE} {ρ : PEnv} : sSetF j f ρ = (f ρ).bind fun d => if frz d then .ok (.nx (ρ.set j (some d))) else .bad := nrfl rfl
theorem psG_set {j : Nat} {x : Str} {f : SE} {pos' : Pos} (hij : o ≠ some j) (hN : X.N.Nodup) (he : PE X a (tD X.K W f)) (hi : X.N[j]? = some x := by rfl) (hx : Loc X.env.scope x := by first | exact Or.inl rfl | exact Or.inr rfl) (hs : swapsWith a (some (.Name x pos')) pos.line X.env = pure false := by rfl)
    (hf : X.fn x = true ∨ X.env.scope.names.lookup x = some .local := by first | exact .inl rfl | exact .inr rfl | assumption) : PS X (.Assign [.Name x pos'] a pos) (tsG X.K W n o o (sSetF j f)) :=
  ps_weak (ps_set hN hi hx (eD_N he) hs hf) fun D σ H ⟨B, ρ, hS, q⟩ => tE_then (D := D) hS q fun d v H1 s hv hS1 q1 => by
    split at q1
    · rename_i hz
      exact q1 _ _ (hS1.putF hij hz hv.1)
    · exact q1.elim
/-- another place gets a new list of frozen data -/
def sSetN (j : Nat) (f : SE) : SS := fun ρ => (f ρ).bind fun d => match d with
  | .list ts => if frzs ts then .ok (.nx (ρ.set j (some (.list ts)))) else .bad
  | _ => .bad
@[simp] theorem sSetN_ap {j : Nat} {f : SE} {ρ : PEnv} : sSetN j f ρ = (f ρ).bind fun d => match d with
  | .list ts => if frzs ts then .ok (.nx (ρ.set j (some (.list ts)))) else .bad
  | _ => .bad := nrfl rfl
theorem putN_at {K : PySem.W.Frag} {B H H1 : Hp} {D : Ends} {σ : L2.St} {ρ : PEnv} {d : PyData} {v : V} (hij : o ≠ some j) (hS : St K B H σ ρ o) (s : Same H H1) (hv : told K true H H1 d v) (q1 : (match d with
  | .list ts => if frzs ts then Res.ok (Out.nx (ρ.set j (some (.list ts)))) else .bad
  | _ => .bad).post (outG K n B o D) fun m => fut B (W m)) : D.nx (σ.set j (some v)) H1 := by
  split at q1
  · split at q1
    · rename_i hz
      exact q1 _ _ (hS.putN hij s hv fun us e => by cases e; exact hz)
    · exact q1.elim
  · exact q1.elim
theorem psG_setN {j : Nat} {x : Str} {f : SE} {pos' : Pos} (hij : o ≠ some j) (hN : X.N.Nodup) (he : PE X a (tE X.K W true f)) (hi : X.N[j]? = some x := by rfl) (hx : Loc X.env.scope x := by first | exact Or.inl rfl | exact Or.inr rfl) (hs : swapsWith a (some (.Name x pos')) pos.line X.env = pure false := by rfl)
    (hf : X.fn x = true ∨ X.env.scope.names.lookup x = some .local := by first | exact .inl rfl | exact .inr rfl | assumption) : PS X (.Assign [.Name x pos'] a pos) (tsG X.K W n o o (sSetN j f)) :=
  ps_weak (ps_set hN hi hx he hs hf) fun D σ H ⟨B, ρ, hS, q⟩ => tE_then (D := D) hS q fun d v H1 s hv hS1 q1 => putN_at hij hS s hv q1
/-- a place gets a new list as its own -/
def sTake (i : Nat) (f : SE) : SS := fun ρ => (f ρ).bind fun d => match d with
  | .list ts => if frzs ts then if i < ρ.length then .ok (.nx (ρ.set i (some (.list ts)))) else .bad else .bad
  | _ => .bad
@[simp] theorem sTake_ap {j : Nat} {f : SE} {ρ : PEnv} : sTake j f ρ = (f ρ).bind fun d => match d with
  | .list ts => if frzs ts then if j < ρ.length then .ok (.nx (ρ.set j (some (.list ts)))) else .bad else .bad
  | _ => .bad := nrfl rfl
theorem psG_take {x : Str} {f : SE} {pos' : Pos} (hN : X.N.Nodup) (he : PE X a (tE X.K W true f)) (hi : X.N[i]? = some x := by rfl) (hx : Loc X.env.scope x := by first | exact Or.inl rfl | exact Or.inr rfl) (hs : swapsWith a (some (.Name x pos')) pos.line X.env = pure false := by rfl)
    (hf : X.fn x = true ∨ X.env.scope.names.lookup x = some .local := by first | exact .inl rfl | exact .inr rfl | assumption) : PS X (.Assign [.Name x pos'] a pos) (tsG X.K W n o (some i) (sTake i f)) :=
  ps_weak (ps_set hN hi hx he hs hf) fun D σ H ⟨B, ρ, hS, q⟩ => tE_then (D := D) hS q fun d v H1 s hv hS1 q1 => by
    split at q1
    · split at q1
      · rename_i hz
        split at q1
        · rename_i hl
          exact q1 _ _ (hS.take s hv hz hl)
        · exact q1.elim
      · exact q1.elim
    · exact q1.elim
/-- the own list, appended to -/
def sApp (i : Nat) (f : SE) : SS := fun ρ => (f ρ).bind fun d => match ρ[i]? with
  | some (some (.list ts)) => if frz d then if ts.length < big then .ok (.nx (ρ.set i (some (.list (ts ++ [d]))))) else .bad else .bad
  | _ => .bad
@[simp] theorem sApp_ap {j : Nat} {f : SE} {ρ : PEnv} : sApp j f ρ = (f ρ).bind fun d => match ρ[j]? with
  | some (some (.list ts)) => if frz d then if ts.length < big then .ok (.nx (ρ.set j (some (.list (ts ++ [d]))))) else .bad else .bad
  | _ => .bad := nrfl rfl
theorem psG_app {x : Str} {p apos cpos : Pos} {e : Expr} {f : SE} (he : PE X e (tD X.K W f)) (hN : X.N[i]? = some x := by rfl) (hv : Vis X.env.scope x := by first | exact Or.inl rfl | exact Or.inr (Or.inl rfl) | exact Or.inr (Or.inr rfl)) (hd : (x == ("__debug__" : Str)) = false := by decide)
    (hcd : (x == ("__classdict__" : Str)) = false := by decide) (hbase : attributeBase (.Name x p) "append" X.env (eval (.Name x p) X.env) = eval (.Name x p) X.env := by rfl)
    (hfew : ((backTo cpos (starEach [e] X.env)).all (fun x => !x.1) && (backToKw cpos (keywordEach [] X.env)).all (fun x => x.1.isSome) && decide (([e] : List Expr).length + ([] : List Keyword).length + (if ([] : List Keyword).isEmpty then 0 else 1) < 30)) = true := by rfl)
    (hline : (apos.endLine == cpos.line) = true := by rfl) (hs : starEach [e] X.env = (false, eval e X.env) :: starEach [] X.env := by rfl) (hplain : (backTo cpos (starEach [] X.env)).any (·.1) = false := by rfl)
    (hsw : swapsWith (.Call (.Attribute (.Name x p) "append" apos) [e] [] cpos) none pos.line X.env = pure false := by rfl) :
    PS X (.Expr (.Call (.Attribute (.Name x p) "append" apos) [e] [] cpos) pos) (tsG X.K W n (some i) (some i) (sApp i f)) :=
  ps_weak (ps_expr (pe_bm PySem.F.plainAttrs_list PySem.F.slot_list_append PySem.F.type_list_append mt_append (pe_var (i := i) hN hv hd hcd) (pa_cons (eD_N he) pa_nil hs) hbase hfew hline hs hplain) hsw) fun D σ H ⟨B, ρ, hS, q⟩ => by
    obtain ⟨p, xs, ts, h1, h2, h3, h4, h5, h6, h7⟩ := hS.own i rfl
    refine ⟨_, h1, .inl ⟨rfl, xs, SqL.of h3⟩, ?_⟩
    refine tE_then (D := D) hS q fun d v H1 s hv hS1 q1 => ?_
    rw [h4] at q1
    dsimp only at q1
    split at q1
    · rename_i hz
      split at q1
      · rename_i hl
        have hp1 := s _ _ h3
        have hlen := dps_len h5
        have hb := big_line
        refine ⟨p, xs, v, rfl, rfl, hp1, by omega, ?_⟩
        refine q1 _ _ (hS1.grow h1 hp1 h4 (dps_append (frzs_mono (sqT_lst hp1) _ _ h6 (dps_mono s _ _ h5)) (.cons (frz_mono (sqT_lst hp1) _ _ hz hv.1) .nil)) ?_)
        rw [frzs_append, h6]
        simp [frzs, hz]
      · exact q1.elim
    · exact q1.elim
/-- a loop over frozen data -/
def gF (j : Nat) : SG := fun d ρ => if frz d then some (ρ.set j (some d)) else none
@[simp] theorem gF_ap {j : Nat} {d : PyData} {ρ : PEnv} : gF j d ρ = if frz d then some (ρ.set j (some d)) else none := nrfl rfl
/-- what is walked lies not in a list of the start -/
def tiN (K : PySem.W.Frag) (W : Wis) (f : SA) : TI := fun σ H R => ∃ ρ, EnvR K H σ ρ ∧ (f ρ).post (fun ds => fut H fun H' => ∀ J, Walks K J H' ds → (∀ p ys, H p = some (.lst ys) → Walks K J (wo H' p) ds) → R J H') fun m => fut H (W m)
theorem St.loop {K : PySem.W.Frag} {B H H1 : Hp} {σ : L2.St} {ρ : PEnv} (h : St K B H σ ρ o) (s : Same H H1) {J : It} {ds : List PyData} (h1 : Walks K J H1 ds) (h2 : ∀ p ys, H p = some (.lst ys) → Walks K J (wo H1 p) ds) :
    ∃ B1, Same B B1 ∧ St K B1 H1 σ ρ o ∧ Walks K J B1 ds := by
  have hS := h.on s
  cases o with
  | none => exact ⟨H1, hS.base, ⟨Same.refl _, hS.env, fun i q => by cases q⟩, h1⟩
  | some i =>
    obtain ⟨p, xs, ts, g1, g2, g3, g4, g5, g6, g7⟩ := h.own i rfl
    refine ⟨wo H1 p, same_wo hS.base g2, ⟨wo_le _ _, hS.env, fun j q => ?_⟩, h2 p xs g3⟩
    cases q
    exact ⟨p, xs, ts, g1, if_pos rfl, s _ _ g3, g4, dps_mono s _ _ g5, g6, g7.mono (wo_same s p)⟩
theorem outG_on {K : PySem.W.Frag} {B B' : Hp} {D : Ends} {r : Out} (e : Same B B') (h : outG K n B o D r) : outG K n B' o D r := by
  cases r with
  | nx ρ' => exact fun σ' H' hS => h σ' H' (hS.rebase e)
  | rt d => exact fun H' s v hv => h H' (e.trans s) v (hv.on e)
  | bk ρ' => exact h
  | ct ρ' => exact h
theorem psG_for {x : Str} {tpos : Pos} {iter : Expr} {body : List Stmt} {src : SA} (hij : o ≠ some j) (hN : X.N.Nodup) (hp : PassesOwn (model X.prog X.w) X.A X.env X.xe) (hc : X.calm = true) (hi : PI X (.Name x tpos) iter (tiN X.K W src)) (hb : PSs X body (tsG X.K W n o o F))
    (hj : X.N[j]? = some x := by rfl) (hx : Loc X.env.scope x := by first | exact Or.inl rfl | exact Or.inr rfl) (hf : X.fn x = true ∨ X.env.scope.names.lookup x = some .local := by first | exact .inl rfl | exact .inr rfl | assumption)
    (hs : ∀ x, foldedSetIterable iter X.env x = pure x := by intro _; rfl) : PS X (.For (.Name x tpos) iter body [] pos) (tsG X.K W n o o (sFor src (gF j) (noBk F))) := by
  refine ps_weak (ps_for hp hc hi (pg_name hN hj hx hf) hb hs) fun D σ H ⟨B, ρ, hS, q⟩ => ?_
  refine ⟨ρ, hS.env, (Res.post_bind.mp q).mono (fun ds r H1 s1 J hJ hJ2 => ?_) fun m q => q.on hS.base⟩
  obtain ⟨B1, e1, hS1, hW⟩ := hS.loop s1 hJ hJ2
  have r1 : (forGo (gF j) (noBk F) ds ρ).post (outG X.K n B1 o D) fun m => fut B1 (W m) := r.mono (fun z q => outG_on e1 q) fun m q => q.on e1
  clear r
  refine ⟨fun k m σ' H' => m = ds.length - k ∧ k ≤ ds.length ∧ ∃ ρ', St X.K B1 H' σ' ρ' o ∧ (forGo (gF j) (noBk F) (ds.drop k) ρ').post (outG X.K n B1 o D) fun m => fut B1 (W m),
    ⟨ds.length, by simp, Nat.zero_le _, ρ, hS1, by rw [List.drop_zero]; exact r1⟩, ?_⟩
  rintro k m σ' H' ⟨rfl, hk, ρ', hS', r'⟩
  obtain ⟨w1, w2⟩ := hW k H' hS'.base
  by_cases hlt : k < ds.length
  · have hx : ds[k]? = some ds[k] := List.getElem?_eq_getElem hlt
    obtain ⟨go, yl⟩ := w1 _ hx
    refine .inr ⟨go, fun σ2 H2 => ∃ ρ', St X.K B1 H2 σ2 ρ' o ∧ (forGo (gF j) (noBk F) (ds.drop (k + 1)) ρ').post (outG X.K n B1 o D) fun m => fut B1 (W m), fun σ2 H2 h2 => ⟨ds.length - (k + 1), by omega, rfl, hlt, h2⟩, fun x H2 y => ?_⟩
    obtain ⟨e2, hdx⟩ := yl x H2 y
    subst e2
    rw [List.drop_eq_getElem_cons hlt] at r'
    obtain ⟨ρ1, h1, r1⟩ := Res.post_of (Res.post_bind.mp r')
    simp only [gF] at h1
    split at h1
    · rename_i hz
      cases h1
      refine ⟨B1, _, hS'.putF hij hz hdx, ?_⟩
      rw [noBk_ap] at r1
      cases hF : F (ρ'.set j (some ds[k])) with
      | bad => rw [hF] at r1; exact r1.elim
      | ex m => rw [hF] at r1; exact r1
      | ok z =>
        rw [hF] at r1
        cases z with
        | nx ρ2 => exact fun σ3 H3 hS3 => ⟨ρ2, hS3, r1⟩
        | rt d => exact r1
        | bk ρ2 => exact r1.elim
        | ct ρ2 => exact r1.elim
    · cases h1
  · have e : k = ds.length := by omega
    subst e
    rw [List.drop_length] at r'
    exact .inl ⟨w2 (Nat.le_refl _), r' σ' H' hS'⟩
/-! what is walked -/
theorem walks_wo {K : PySem.W.Frag} {J : It} {H : Hp} {p : Addr} {ds : List PyData} (h : ∀ H, Walks K J H ds) : Walks K J (wo H p) ds := h _
theorem in_rng1 {f : SA} {p : Pos} (hm : X.mg "range" = none) (ha : PA X [a] (taD X.K W f)) (hg : Gl X "range" := by rfl) (hs : starEach [a] X.env = [(false, eval a X.env)] := by rfl) : PI X tg (.Call (.Name "range" p) [a] [] pos) (tiN X.K W (sRng1 f)) :=
  pi_weak (pi_range1 hg hm ha hs) fun σ H R q => by
  obtain ⟨ρ, hE, q⟩ := q
  refine ⟨ρ, hE, (Res.post_bind.mp q).mono (fun d q1 H1 s1 x hx => ?_) fun m q => q⟩
  split at q1
  · split at q1
    · rename_i j hj
      cases hx with
      | cons h1 h2 =>
        cases h1; cases h2
        simp only [big] at hj
        exact ⟨j, rfl, by omega, by omega, q1 _ s1 _ walks_rng fun _ _ _ => walks_rng⟩
    · exact q1.elim
  · exact q1.elim
theorem in_rng2 {f : SA} {p : Pos} (hm : X.mg "range" = none) (ha : PA X [a, b] (taD X.K W f)) (hg : Gl X "range" := by rfl) (hs : starEach [a, b] X.env = [(false, eval a X.env), (false, eval b X.env)] := by rfl) (hs2 : starEach [b] X.env = [(false, eval b X.env)] := by rfl) :
    PI X tg (.Call (.Name "range" p) [a, b] [] pos) (tiN X.K W (sRng2 f)) := pi_weak (pi_range2 hg hm ha hs hs2) fun σ H R q => by
  obtain ⟨ρ, hE, q⟩ := q
  refine ⟨ρ, hE, (Res.post_bind.mp q).mono (fun d q1 H1 s1 x hx => ?_) fun m q => q⟩
  split at q1
  · split at q1
    · rename_i i j hj
      cases hx with
      | cons h1 h2 =>
        cases h1
        cases h2 with
        | cons h1 h2 =>
        cases h1; cases h2
        simp only [big] at hj
        exact ⟨i, j, rfl, by omega, q1 _ s1 _ walks_rng fun _ _ _ => walks_rng⟩
    · exact q1.elim
  · exact q1.elim
def sListF (f : SE) : SA := fun ρ => (f ρ).bind fun x => match x with
  | .list xs => if frzs xs then .ok xs else .bad
  | _ => .bad
@[simp] theorem sListF_ap {f : SE} {ρ : PEnv} : sListF f ρ = (f ρ).bind fun x => match x with
  | .list xs => if frzs xs then .ok xs else .bad
  | _ => .bad := nrfl rfl
theorem in_list {f : SE} (h : PE X a (tE X.K W true f)) : PI X tg a (tiN X.K W (sListF f)) := pi_weak (pi_list h) fun σ H R q => by
  obtain ⟨ρ, hE, q⟩ := q
  refine ⟨ρ, hE, (Res.post_bind.mp q).mono (fun d q1 H1 s1 x hx => ?_) fun m q => q⟩
  obtain ⟨hd, hn⟩ := hx
  obtain ⟨l, xs, ts, rfl, rfl, h1, h2, h3⟩ := hn rfl
  dsimp only at q1
  split at q1
  · rename_i hz
    refine ⟨_, rfl, ⟨_, SqL.of h2⟩, q1 _ s1 _ (walks_lst (SqL.of h2) h3) fun p ys hp => ?_⟩
    have hlp : l ≠ p := fun z => by subst z; rw [h1] at hp; cases hp
    exact walks_lst (SqL.of (by rw [wo_ne hlp]; exact h2)) (frzs_mono (frz_wo (s1 _ _ hp)) _ _ hz h3)
  · exact q1.elim
def eCutL (f : SE) (l u : PEnv → Res (Option Int)) : SE := fun ρ => (f ρ).bind fun x => (l ρ).bind fun lo => (u ρ).bind fun hi => match x with
  | .list xs => .ok (.list (cutP xs lo hi))
  | _ => .bad
@[simp] theorem eCutL_ap {f : SE} {l u : PEnv → Res (Option Int)} {ρ : PEnv} : eCutL f l u ρ = (f ρ).bind fun x => (l ρ).bind fun lo => (u ρ).bind fun hi => match x with
  | .list xs => .ok (.list (cutP xs lo hi))
  | _ => .bad := nrfl rfl
theorem en_cut {f : SE} {l u : PEnv → Res (Option Int)} {lo hi : Option Expr} {p2 : Pos} (ha : PE X a (tD X.K W f)) (hl : PO X lo (toD X.K W l)) (hu : PO X hi (toD X.K W u)) : PE X (.Subscript a (.Slice lo hi none p2) pos) (tE X.K W true (eCutL f l u)) := by
  refine pe_weak (pe_slice sl_list ha hl hu) fun σ H Q h => ?_
  obtain ⟨ρ, hE, q⟩ := h
  refine ⟨ρ, hE, (Res.post_bind.mp q).mono (fun d q1 H1 s1 x hx => ?_) fun m q => q⟩
  refine ⟨ρ, hE.mono s1, (Res.post_bind.mp q1).mono (fun lo' q2 H2 s2 => ?_) fun m q => q.on s1⟩
  refine ⟨ρ, (hE.mono s1).mono s2, (Res.post_bind.mp q2).mono (fun hi' q3 H3 s3 => ?_) fun m q => q.on (s1.trans s2)⟩
  have hx := dp_mono (s2.trans s3) _ _ hx
  have s := (s1.trans s2).trans s3
  cases hx with
  | lst h1 h2 => exact ⟨_, _, rfl, h1, fun p hp => q3 _ (s.trans (same_new hp _)) _ (told_lst (none_on s hp) upd_same (dps_mono (same_new hp _) _ _ (dps_cut _ _ h2)))⟩
  | _ => exact q3.elim
end
end DL

set_option Elab.async false
set_option linter.all false
set_option maxRecDepth 100000
set_option maxHeartbeats 2000000
/-! owned lists: comprehensions, loops, defs that tell what is new -/
namespace DL
open PySem L2 PyProof.Rows
theorem lcN_then {K : PySem.W.Frag} {i : Nat} {src : SA} {t : ST} {f : SE} {σ : L2.St} {H : Hp} {Q : VK} (q : tE K W true (eLc i src t f) σ H Q) :
    tLc (tiD K W src) (gName i) (ttD K (fun _ _ => False) t) (tD K (fun _ _ => False) f) [i] σ H Q := by
  obtain ⟨ρ, hE, q⟩ := q
  unfold eLc at q
  refine ⟨ρ, hE, (Res.post_bind.mp q).mono (fun xs r H1 s1 J hJ D hD => ?_) fun n r => r⟩
  split at r
  · rename_i hz
    generalize hg : Res.calm (lcGo (fun d => (ρ.set i none).set i (some d)) t f xs) = g at r
    cases g with
    | bad => exact r.elim
    | ex n => cases hq : lcGo (fun d => (ρ.set i none).set i (some d)) t f xs <;> rw [hq] at hg <;> cases hg
    | ok tot =>
      have hg2 : lcGo (fun d => (ρ.set i none).set i (some d)) t f xs = .ok tot := by
        cases hq : lcGo (fun d => (ρ.set i none).set i (some d)) t f xs <;> rw [hq] at hg <;> cases hg
        rfl
      have htot := lcGo_le hg2
      refine ⟨fun k m H' => m = xs.length - k ∧ k ≤ xs.length ∧ Same H1 H' ∧ ∃ acc ys zs, H' D = some (.lst acc) ∧ DpAll K H' acc ys ∧ frzs ys = true ∧ lcGo (fun d => (ρ.set i none).set i (some d)) t f (xs.drop k) = .ok zs ∧ tot = ys ++ zs,
        ⟨xs.length, by simp, Nat.zero_le _, same_new hD _, [], [], tot, upd_same, .nil, rfl, by rw [List.drop_zero]; exact hg2, rfl⟩, ?_⟩
      rintro k m H' ⟨rfl, hk, s, acc, ys, zs, hacc, hys, hfr, hgo, htz⟩
      obtain ⟨w1, w2⟩ := hJ k H' s
      by_cases hlt : k < xs.length
      · have hx : xs[k]? = some xs[k] := List.getElem?_eq_getElem hlt
        obtain ⟨go, yl⟩ := w1 _ hx
        refine .inr ⟨go, fun H2 => Same H1 H2 ∧ ∃ acc ys zs, H2 D = some (.lst acc) ∧ DpAll K H2 acc ys ∧ frzs ys = true ∧ lcGo (fun d => (ρ.set i none).set i (some d)) t f (xs.drop (k + 1)) = .ok zs ∧ tot = ys ++ zs, fun H2 h2 => ⟨xs.length - (k + 1), by omega, rfl, hlt, h2⟩, fun x H2 y => ?_⟩
        obtain ⟨e2, hdx⟩ := yl x H2 y
        subst e2
        rw [List.drop_eq_getElem_cons hlt] at hgo
        unfold lcGo at hgo
        refine ⟨wipe_one, ?_⟩
        have hE2 : EnvR K H2 ((wipe σ [i]).set i (some x)) ((ρ.set i none).set i (some xs[k])) := by
          refine EnvR.set ?_ hdx
          exact (hE.mono (s1.trans s)).forget
        cases ht : t ((ρ.set i none).set i (some xs[k])) with
        | bad => rw [ht] at hgo; cases hgo
        | ex n => rw [ht] at hgo; cases hgo
        | ok b =>
          rw [ht] at hgo
          refine ⟨_, hE2, ?_⟩
          rw [ht]
          intro H3 s3
          cases b with
          | false =>
            exact iteF ⟨s.trans s3, acc, ys, zs, s3 _ _ hacc, dps_mono s3 _ _ hys, hfr, hgo, htz⟩
          | true =>
            refine iteT ?_
            simp only [Res.calm, Res.ok_bind, if_true] at hgo
            cases hf : f ((ρ.set i none).set i (some xs[k])) with
            | bad => rw [hf] at hgo; cases hgo
            | ex n => rw [hf] at hgo; cases hgo
            | ok y =>
              rw [hf] at hgo
              simp only [Res.calm, Res.ok_bind] at hgo
              split at hgo
              · rename_i hy
                refine ⟨_, hE2.mono s3, ?_⟩
                rw [hf]
                intro H4 s4 v hv
                cases hr : lcGo (fun d => (ρ.set i none).set i (some d)) t f (xs.drop (k + 1)) with
                | bad => rw [hr] at hgo; cases hgo
                | ex n => rw [hr] at hgo; cases hgo
                | ok zs' =>
                  rw [hr] at hgo
                  cases hgo
                  have hacc4 := s4 _ _ (s3 _ _ hacc)
                  have hla := dps_len hys
                  have hz2 := big_line
                  have h5 : acc.length < sizeLine := by
                    have h6 : tot.length = ys.length + (zs'.length + 1) := by rw [htz, List.length_append, List.length_cons]
                    omega
                  refine ⟨acc, hacc4, h5, fun b o q => ?_, acc ++ [v], ys ++ [y], zs', upd_same, dps_append (frzs_mono (sqT_lst hacc4) _ _ hfr (dps_mono (s3.trans s4) _ _ hys)) (.cons (frz_mono (sqT_lst hacc4) _ _ hy hv) .nil), ?_, rfl, by rw [htz, List.append_assoc]; rfl⟩
                  · rw [upd_ne (ne_of_none q hD)]
                    exact s4 _ _ (s3 _ _ (s _ _ q))
                  · have hfa : ∀ (as bs : List PyData), frzs (as ++ bs) = (frzs as && frzs bs) := by
                      intro as bs
                      induction as with
                      | nil => simp [frzs]
                      | cons a as ih => simp [frzs, ih, Bool.and_assoc]
                    rw [hfa, hfr]
                    simp [frzs, hy]
              · cases hgo
      · have e : k = xs.length := by omega
        subst e
        rw [List.drop_length] at hgo
        cases hgo
        refine .inl ⟨w2 (Nat.le_refl _), ?_⟩
        rw [List.append_nil] at htz
        subst htz
        exact r _ (s1.trans s) _ (told_lst (none_on s1 hD) hacc hys)
  · exact r.elim
section
variable {X : Cx} {W : Wis} {a b tg : Expr} {pos : Pos}
theorem en_lc {elt iter : Expr} {ifs : List Expr} {scope : Scope} {x : Str} {i : Nat} {src : SA} {t : ST} {f : SE} (hc : X.calm = true) (hN : X.N.Nodup) (hi : PI X tg iter (tiD X.K W src)) (ok : BlkOk X.N X.env.scope scope [(x, i)])
    (hg : ∀ (s : Shared) (H : Hp) (C : Addr) (cl : List (Str × Addr)) (fp : List Addr), PG (X.blk s H scope (compEnvC scope cl C X.env) fp) tg (gName i)) (ht : ∀ (s : Shared) (H : Hp) (C : Addr) (cl : List (Str × Addr)) (fp : List Addr), PTs (X.blk s H scope (compEnvC scope cl C X.env) fp) ifs (ttD X.K (fun _ _ => False) t))
    (he : ∀ (s : Shared) (H : Hp) (C : Addr) (cl : List (Str × Addr)) (fp : List Addr), PE (X.blk s H scope (compEnvC scope cl C X.env) fp) elt (tD X.K (fun _ _ => False) f)) (hs : ∀ x, foldedSetIterable iter X.env x = pure x := by intro _; rfl) :
    PE X (.ListComp elt [⟨tg, iter, ifs, 0⟩] scope pos) (tE X.K W true (eLc i src t f)) :=
  pe_weak (pe_lc hc hN hi ok hg ht he hs) fun σ H Q q => lcN_then q
theorem psG_setLc {n : Bool} {o : Option Nat} {i j : Nat} {y x : Str} {py : Pos} {elt iter : Expr} {ifs : List Expr} {scope : Scope} {pos spos : Pos} {src : SA} {t : ST} {f : SE} (hij : o ≠ some i) (hc : X.calm = true) (hN : X.N.Nodup) (hi : PI X tg iter (tiD X.K W src)) (ok : BlkOk X.N X.env.scope scope [(x, j)])
    (hg : ∀ (s : Shared) (H : Hp) (C : Addr) (cl : List (Str × Addr)) (fp : List Addr), PG (X.blk s H scope (compEnvC scope cl C X.env) fp) tg (gName j)) (ht : ∀ (s : Shared) (H : Hp) (C : Addr) (cl : List (Str × Addr)) (fp : List Addr), PTs (X.blk s H scope (compEnvC scope cl C X.env) fp) ifs (ttD X.K (fun _ _ => False) t))
    (he : ∀ (s : Shared) (H : Hp) (C : Addr) (cl : List (Str × Addr)) (fp : List Addr), PE (X.blk s H scope (compEnvC scope cl C X.env) fp) elt (tD X.K (fun _ _ => False) f))
    (hsw : swapsWith (.ListComp elt [⟨tg, iter, ifs, 0⟩] scope pos) (some (.Name y py)) spos.line X.env = pure true := by exact sw_true rfl rfl rfl (by decide +kernel))
    (hy : X.N[i]? = some y := by rfl) (hyl : X.env.scope.names.lookup y = some .local := by rfl) (hs : ∀ x, foldedSetIterable iter X.env x = pure x := by intro _; rfl) :
    PS X (.Assign [.Name y py] (.ListComp elt [⟨tg, iter, ifs, 0⟩] scope pos) spos) (tsG X.K W n o o (sSetN i (eLc j src t f))) :=
  ps_weak (ps_setLc hc hN hy hyl hsw hi ok hg ht he hs) fun D σ H ⟨B, ρ, hS, q⟩ => lcN_then (tE_then (D := D) hS q fun d v H1 s hv hS1 q1 => putN_at hij hS s hv q1)
theorem psG_while {n : Bool} {o : Option Nat} {F : SS} {c : Expr} {body : List Stmt} {t : ST} (m : Nat) (hp : PassesOwn (model X.prog X.w) X.A X.env X.xe) (hc : PT X c (ttD X.K W t)) (hb : PSs X body (tsG X.K W n o o F)) : PS X (.While c body [] pos) (tsG X.K W n o o (sWh m t (noBk F))) := by
  refine ps_weak (ps_while hp hc hb) fun D σ H ⟨B, ρ, hS, q⟩ => ?_
  refine ⟨fun m σ' H' => ∃ ρ', St X.K B H' σ' ρ' o ∧ (whGo t (noBk F) m ρ').post (outG X.K n B o D) fun m => fut B (W m), ⟨m, ρ, hS, q⟩, ?_⟩
  rintro m σ' H' ⟨ρ', hS', r⟩
  cases m with
  | zero => exact r.elim
  | succ m =>
    refine ⟨ρ', hS'.env, (Res.post_bind.mp r).mono (fun k r1 H1 s => ?_) fun m q => q.on hS'.base⟩
    cases k with
    | false => exact iteF (r1 σ' H1 (hS'.on s))
    | true =>
      simp only [if_true] at r1
      refine iteT ⟨fun σ2 H2 => ∃ ρ', St X.K B H2 σ2 ρ' o ∧ (whGo t (noBk F) m ρ').post (outG X.K n B o D) fun m => fut B (W m), fun σ2 H2 h2 => ⟨m, Nat.lt_succ_self _, h2⟩, B, ρ', hS'.on s, ?_⟩
      rw [noBk_ap] at r1
      cases hF : F ρ' with
      | bad => rw [hF] at r1; exact r1.elim
      | ex m => rw [hF] at r1; exact r1
      | ok z =>
        rw [hF] at r1
        cases z with
        | nx ρ2 => exact fun σ3 H3 hS3 => ⟨ρ2, hS3, r1⟩
        | rt d => exact r1
        | bk ρ2 => exact r1.elim
        | ct ρ2 => exact r1.elim
theorem noRt_ex {k : Nat} : noRt (sEx k) := fun ρ d h => by cases h
theorem noRt_next : noRt sNext := fun ρ d h => by cases h
theorem noRt_bad : noRt sBad := fun ρ d h => by cases h
theorem noRt_set {i : Nat} {f : SE} : noRt (sSet i f) := fun ρ d h => by
  unfold sSet at h
  cases hf : f ρ <;> rw [hf] at h <;> cases h
theorem noRt_if {t : ST} {F G : SS} (h1 : noRt F) (h2 : noRt G) : noRt (sIf t F G) := fun ρ d h => by
  unfold sIf at h
  cases ht : t ρ with
  | bad => rw [ht] at h; cases h
  | ex k => rw [ht] at h; cases h
  | ok b =>
    rw [ht] at h
    cases b with
    | true => exact h1 ρ d h
    | false => exact h2 ρ d h
/-! defs that tell what is new -/
def spN (K : PySem.W.Frag) (cls : Nat → Value) (n : Nat) (g : List PyData → Res PyData) : Sp := fun vs H Q E => vs.length = n ∧ ∃ ds, DpAll K H vs ds ∧ (g ds).post (fun d => fut H fun H' => ∀ v, told K true H H' d v → Q v H') fun m => fut H fun H' => E (cls m) none H'
structure CalleeN (P : Program) (w : World) (K : PySem.W.Frag) (mg : Str → Option Value) (base : Heap) (CX : CXT) (cls : Nat → Value) (x : Str) (k : Nat) (ps : List Str) (g : List PyData → Res PyData) : Prop where
  ex : ∃ f fd, FnOk P w K mg base CX k f fd ps (spN K cls ps.length g) ∧ mg x = some (.ref f) ∧ PySem.W.keepIn K (.ref f) = true ∧ Binds K fd ps [] ∧ ∃ oc od osl, K.lookup f = some ⟨oc, od, .func fd, osl⟩
theorem CalleeN.mono {P : Program} {w : World} {K : PySem.W.Frag} {mg : Str → Option Value} {base : Heap} {CX : CXT} {cls : Nat → Value} {x : Str} {j k : Nat} {ps : List Str} {g : List PyData → Res PyData} (C : CalleeN P w K mg base CX cls x j ps g) (h : j ≤ k) : CalleeN P w K mg base CX cls x k ps g := by
  obtain ⟨f, fd, F, r⟩ := C.ex
  exact ⟨f, fd, F.mono h, r⟩
theorem CalleeN.toD {P : Program} {w : World} {K : PySem.W.Frag} {mg : Str → Option Value} {base : Heap} {CX : CXT} {cls : Nat → Value} {x : Str} {k : Nat} {ps : List Str} {g : List PyData → Res PyData} (C : CalleeN P w K mg base CX cls x k ps g) : Callee P w K mg base CX cls x k ps g := by
  obtain ⟨f, fd, F, r⟩ := C.ex
  exact ⟨f, fd, F.imp fun vs H Q E ⟨hl, ds, hd, q⟩ => ⟨hl, ds, hd, q.mono (fun d z H' s v hv => z H' s v hv.1) fun m z => z⟩, r⟩
theorem spN_then {K : PySem.W.Frag} {cls : Nat → Value} {n : Nat} {g : List PyData → Res PyData} {f : SA} {σ : L2.St} {H : Hp} {Q : VK} (hn : ∀ ρ ds, f ρ = .ok ds → ds.length = n) (h : tE K W true (eCall g f) σ H Q) :
    tCall (spN K cls n g) [] (wishE cls W) (taD K W f) σ H Q := by
  obtain ⟨ρ, hE, q⟩ := h
  unfold eCall at q
  cases hfr : f ρ with
  | bad => rw [hfr] at q; exact q.elim
  | ex m => rw [hfr] at q; exact ⟨ρ, hE, by rw [hfr]; exact q⟩
  | ok ds =>
    rw [hfr] at q
    refine ⟨ρ, hE, ?_⟩
    rw [hfr]
    intro H1 s1 vs hvs
    rw [List.append_nil]
    exact ⟨(dps_len hvs).trans (hn ρ ds hfr), ds, hvs, q.mono (fun d r H' s v hv => r H' (s1.trans s) v (hv.on s1)) fun m r H' s' => ⟨m, rfl, rfl, r _ (s1.trans s')⟩⟩
theorem en_call {CX : CXT} {cls : Nat → Value} {x : Str} {k : Nat} {ps : List Str} {g : List PyData → Res PyData} {p : Pos} {es : List Expr} {f : SA} (C : CalleeN X.prog X.w X.K X.mg X.base CX cls x k ps g) (hr : Room k X.A) (hx : Passes CX X (wishE cls W)) (ha : PA X (a :: es) (taD X.K W f))
    (hn : ∀ ρ ds, f ρ = .ok ds → ds.length = ps.length) (hg : Gl X x := by rfl) (hdb : (x == ("__debug__" : Str)) = false := by decide) (he : starEach (a :: es) X.env = (false, eval a X.env) :: starEach es X.env := by rfl) (hpl : (backTo pos (starEach es X.env)).any (·.1) = false := by rfl) :
    PE X (.Call (.Name x p) (a :: es) [] pos) (tE X.K W true (eCall g f)) := by
  obtain ⟨fa, fd, F, hm, hk, hb, _⟩ := C.ex
  exact pe_weak (pe_call F hr hg hm hk hb .nil hx ha hdb he hpl) fun σ H Q h => spN_then hn h
end
/-! a def that may raise, called where it does not -/
def calmF (g : List PyData → Res PyData) : List PyData → Res PyData := fun ds => Res.calm (g ds)
@[simp] theorem calmF_ap {g : List PyData → Res PyData} {ds : List PyData} : calmF g ds = Res.calm (g ds) := nrfl rfl
@[simp] theorem calm_ok {d : PyData} : Res.calm (Res.ok d) = .ok d := nrfl rfl
theorem fnOk_calm {P : Program} {w : World} {K : PySem.W.Frag} {mg : Str → Option Value} {base : Heap} {k : Nat} {f : Addr} {fd : FuncData} {ps : List Str} {sp sp' : Sp} (F : FnOk P w K mg base (L2.CX P w) k f fd ps sp)
    (h : ∀ vs H Q E, sp' vs H Q E → sp vs H Q (fun _ _ _ => False)) : FnOk P w K mg base CX0 k f fd ps sp' :=
  ⟨fun vs H Q E q => F.len _ _ _ _ (h _ _ _ _ q), fun A outer s H args us vs Q E hr he hb hv hs => codeAny_mono (F.run A outer s H args us vs Q (fun _ _ _ => False) hr he hb hv (h _ _ _ _ hs)) fun r s' hq => by
    cases r with
    | error e =>
      obtain ⟨_, _, _, _, _, _, _, _, _, _, _, _, z⟩ := hq
      exact z.elim
    | ok fl => cases fl <;> exact hq⟩
theorem CalleeN.calm {P : Program} {w : World} {K : PySem.W.Frag} {mg : Str → Option Value} {base : Heap} {cls cls' : Nat → Value} {x : Str} {k : Nat} {ps : List Str} {g : List PyData → Res PyData} (C : CalleeN P w K mg base (L2.CX P w) cls x k ps g) : CalleeN P w K mg base CX0 cls' x k ps (calmF g) := by
  obtain ⟨f, fd, F, r⟩ := C.ex
  exact ⟨f, fd, fnOk_calm F fun vs H Q E ⟨hl, ds, hd, q⟩ => ⟨hl, ds, hd, Res.post_calm q⟩, r⟩
theorem Callee.calm {P : Program} {w : World} {K : PySem.W.Frag} {mg : Str → Option Value} {base : Heap} {cls cls' : Nat → Value} {x : Str} {k : Nat} {ps : List Str} {g : List PyData → Res PyData} (C : Callee P w K mg base (L2.CX P w) cls x k ps g) : Callee P w K mg base CX0 cls' x k ps (calmF g) := by
  obtain ⟨f, fd, F, r⟩ := C.ex
  exact ⟨f, fd, fnOk_calm F fun vs H Q E ⟨hl, ds, hd, q⟩ => ⟨hl, ds, hd, Res.post_calm q⟩, r⟩
def bodyN (n : Nat) (F : SS) (ds : List PyData) : Res PyData := (F (startD n ds)).bind fun o => match o with
  | .rt d => .ok d
  | _ => .bad
section
variable {P : Program} {w : World} {K : PySem.W.Frag} {mg : Str → Option Value} {base : Heap}
theorem bodyN_then {cls : Nat → Value} {N : List Str} {n : Nat} {o : Option Nat} {F : SS} {vs : List V} {H : Hp} {Q : VK} {E : XK} (h : spN K cls n (bodyN N.length F) vs H Q E) :
    tsG K (fun m H' => E (cls m) none H') true none o F { nx := fun _ H' => Q .non H', rt := Q } (start N vs) H := by
  obtain ⟨_, ds, hd, q⟩ := h
  refine ⟨H, startD N.length ds, st_none (Same.refl H) (envR_start hd), (Res.post_bind.mp q).mono (fun r z => ?_) fun n r => r⟩
  cases r with
  | rt d => exact fun H' s v hv => z H' s v hv
  | nx ρ' => exact z.elim
  | bk ρ' => exact z.elim
  | ct ρ' => exact z.elim
theorem callee_ofN {cls : Nat → Value} {x qual : Str} {st : Stmt} {f : Addr} {fd : FuncData} {N ps : List Str} {k : Nat} {o : Option Nat} {F : SS} (D : L2.Fun K x qual st f fd) (S : FnScope N ps (defScope st)) (hm : mg x = some (.ref f)) (hb : Binds K fd ps [])
    (body : ∀ (cdv : Value) (A : Around) (outer : List Env) (s : Shared) (H : Hp) (E : XK) (W : Wis), Room k (A.deeper (envOfC qual (defScope st) s.heap.objs.size f cdv)) →
      PSs (cxOf CX0 P w K mg base N qual (defScope st) f cdv A outer s H E).nox (defBody st) (tsG K W true none o F)) : CalleeN P w K mg base CX0 cls x (k + 1) ps (bodyN N.length F) := by
  refine ⟨f, fd, D.ok S (fun vs H Q E h => h.1) (fun cdv A outer s H vs Q E hr h => ⟨_, body cdv A outer s H E _ hr, bodyN_then h⟩), hm, D.kp, hb, ?_⟩
  obtain ⟨oc, od, kV, doc, pm, an, cdv, ct, osl, rfl, lk, hcd⟩ := D.ex
  exact ⟨oc, od, osl, lk⟩
theorem callee_ofNX {cls : Nat → Value} {x qual : Str} {st : Stmt} {f : Addr} {fd : FuncData} {N ps : List Str} {k : Nat} {o : Option Nat} {F : SS} (D : L2.Fun K x qual st f fd) (S : FnScope N ps (defScope st)) (hm : mg x = some (.ref f)) (hb : Binds K fd ps [])
    (body : ∀ (cdv : Value) (A : Around) (outer : List Env) (s : Shared) (H : Hp) (E : XK), Room k (A.deeper (envOfC qual (defScope st) s.heap.objs.size f cdv)) →
      Takes (cxOf (L2.CX P w) P w K mg base N qual (defScope st) f cdv A outer s H E) (fun c d _ H => E c d H) → PassesOwn (model P w) (A.deeper (envOfC qual (defScope st) s.heap.objs.size f cdv)) (envOfC qual (defScope st) s.heap.objs.size f cdv) (cxOf (L2.CX P w) P w K mg base N qual (defScope st) f cdv A outer s H E).xe →
      PSs (cxOf (L2.CX P w) P w K mg base N qual (defScope st) f cdv A outer s H E) (defBody st) (tsG K (fun m H' => E (cls m) none H') true none o F)) : CalleeN P w K mg base (L2.CX P w) cls x (k + 1) ps (bodyN N.length F) := by
  refine ⟨f, fd, D.okX S (fun vs H Q E h => h.1) (fun cdv A outer s H vs Q E hr h => ⟨_, body cdv A outer s H E hr (takes_of rfl rfl rfl rfl) (passes_of rfl), bodyN_then h⟩), hm, D.kp, hb, ?_⟩
  obtain ⟨oc, od, kV, doc, pm, an, cdv, ct, osl, rfl, lk, hcd⟩ := D.ex
  exact ⟨oc, od, osl, lk⟩
end
end DL

set_option Elab.async false
set_option linter.all false
set_option maxRecDepth 100000
set_option maxHeartbeats 2000000
/-! sorted and min of texts -/
namespace DL
open PySem L2 PyProof.Rows
open PySem.W (minD AlikeAll str_of_cps)
def leS (a b : Str) : Bool := decide (¬ b.cps.toList < a.cps.toList)
theorem leS_iff {a b : Str} : leS a b = true ↔ a.cps.toList ≤ b.cps.toList := by
  unfold leS
  rw [decide_eq_true_eq, List.not_lt]
theorem leS_trans (a b c : Str) (h1 : leS a b = true) (h2 : leS b c = true) : leS a c = true := by
  rw [leS_iff] at h1 h2 ⊢
  exact List.le_trans h1 h2
theorem leS_total (a b : Str) : (leS a b || leS b a) = true := by
  rw [Bool.or_eq_true, leS_iff, leS_iff]
  exact List.le_total _ _
theorem leS_antisymm {a b : Str} (h1 : leS a b = true) (h2 : leS b a = true) : a = b := by
  rw [leS_iff] at h1 h2
  exact str_of_cps (List.le_antisymm h1 h2)
def sortS (ys : List Str) : List Str := ys.mergeSort leS
theorem sortS_perm (ys : List Str) : (sortS ys).Perm ys := List.mergeSort_perm ys leS
theorem sortS_pw (ys : List Str) : (sortS ys).Pairwise fun a b => leS a b = true := List.pairwise_mergeSort leS_trans leS_total ys
theorem risingS_pw : ∀ (l : List Str) (p : Str), risingS p l = true → (p :: l).Pairwise fun a b => leS a b = true
  | [], p, _ => List.pairwise_singleton ..
  | x :: r, p, h => by
    unfold risingS at h
    rw [Bool.and_eq_true] at h
    have h1 : leS p x = true := by
      have := h.1
      rw [ltCps_eq] at this
      unfold leS
      simpa using this
    have h2 := risingS_pw r x h.2
    refine List.pairwise_cons.mpr ⟨fun y hy => ?_, h2⟩
    rcases List.mem_cons.mp hy with rfl | hy
    · exact h1
    · exact leS_trans _ _ _ h1 ((List.pairwise_cons.mp h2).1 y hy)
theorem sortedS_pw : ∀ (l : List Str), sortedS l = true → l.Pairwise fun a b => leS a b = true
  | [], _ => .nil
  | x :: r, h => risingS_pw r x h
theorem sortS_uniq {xs ys : List Str} (hp : ys.Perm xs) (hs : sortedS ys = true) : ys = sortS xs :=
  (hp.trans (sortS_perm xs).symm).eq_of_pairwise (fun a b _ _ h1 h2 => leS_antisymm h1 h2) (sortedS_pw ys hs) (sortS_pw xs)
def sortedD : List PyData → Option PyData
  | [.list ds] => (strsOf ds).bind fun ys => if ys.length < 64 then some (.list ((sortS ys).map .str)) else none
  | _ => none
def minSD : PyData → Option PyData
  | .list (x :: xs) => (strsOf (x :: xs)).bind fun _ => some (minD x xs)
  | _ => none
def minSD1 : List PyData → Option PyData
  | [d] => minSD d
  | _ => none
theorem minD_mem : ∀ (xs : List PyData) (x : PyData), minD x xs ∈ x :: xs := by
  intro xs
  unfold minD
  induction xs with
  | nil => intro x; simp
  | cons y r ih =>
    intro x
    rw [List.foldl_cons]
    split
    · have := ih y
      exact List.mem_cons_of_mem _ this
    · have := ih x
      rcases List.mem_cons.mp this with h | h
      · exact List.mem_cons.mpr (.inl h)
      · exact List.mem_cons_of_mem _ (List.mem_cons_of_mem _ h)
theorem reads_strs {h : Heap} : ∀ {us : List Value} {zs : List Str}, Vals (zs.map V.str) us → ReadsAll h us (zs.map PyData.str) []
  | _, [], r => by cases r; exact .nil
  | _, z :: zs, r => by
    cases r with
    | cons r1 rs =>
      obtain ⟨t, rfl⟩ := r1
      exact .cons (.str z t) (reads_strs rs)
theorem depth_strs : ∀ (zs : List Str), PyData.depthAll (zs.map PyData.str) ≤ 1
  | [] => Nat.zero_le _
  | z :: zs => Nat.max_le.mpr ⟨by show PyData.depth (.str z) ≤ 1; simp [PyData.depth], depth_strs zs⟩
section
variable {X : Cx} {W : Wis} {a : Expr} {pos : Pos}
theorem cd_sorted : CallR X (.builtin "sorted") (rCD X.K sortedD) := callR_weak cr_sortedS fun vs H Q ⟨ds, r, hd, hg, q⟩ => by
  match ds, vs, hd, hg with
  | [.list xs], _, .cons (.lst h1 h2) .nil, hg =>
    simp only [sortedD, Option.bind_eq_some_iff] at hg
    obtain ⟨zs, hz, hg⟩ := hg
    split at hg <;> cases hg
    rename_i hl
    rw [strsOf_map hz] at h2
    rw [dps_strs_of h2] at h1
    refine ⟨_, zs, rfl, h1, hl, fun ys p hp hs hpn => ?_⟩
    rw [sortS_uniq hp hs]
    exact q _ (same_new hpn _) _ (.lst (SqL.of upd_same) (dps_strs _))
theorem cd_minS (hc : X.calm = true) (hu : X.A.units + 64 < cLine) : CallR X (.builtin "min") (rCD X.K minSD1) := by
  intro pins s σ H vs us Q I r h
  obtain ⟨ds, d, hd, hg, q⟩ := h
  obtain ⟨x, xs, rfl, hg⟩ : ∃ x xs, ds = [.list (x :: xs)] ∧ minSD (.list (x :: xs)) = some d := by
    unfold minSD1 at hg
    split at hg
    · unfold minSD at hg
      split at hg
      · exact ⟨_, _, rfl, hg⟩
      · cases hg
    · cases hg
  match vs, hd, hg with
  | _, .cons (.lst (a := p) h1 h2) .nil, hg =>
    replace hg : minSD (.list (x :: xs)) = some d := hg
    unfold minSD at hg
    simp only [Option.bind_eq_some_iff, Option.some.injEq] at hg
    obtain ⟨zs, hz, rfl⟩ := hg
    have e := strsOf_map hz
    rw [e] at h2
    rw [dps_strs_of h2] at h1
    obtain ⟨its, rv, hl, _⟩ := I.list h1
    rw [Vals.ref1 r]
    have hr : ReadsAll s.heap its.toArray.toList (x :: xs) [] := by rw [e]; exact reads_strs rv
    have hm : ∀ y ∈ x :: xs, ∃ z, y = .str z := fun y hy => by
      rw [e] at hy
      obtain ⟨z, _, rfl⟩ := List.mem_map.mp hy
      exact ⟨z, rfl⟩
    have ha : AlikeAll (x :: xs) := ⟨fun y hy y' hy' => by
      obtain ⟨z, rfl⟩ := hm y hy
      obtain ⟨z', rfl⟩ := hm y' hy'
      rfl, fun y hy => by
      obtain ⟨z, rfl⟩ := hm y hy
      simp⟩
    have hdp : PyData.depthAll (x :: xs) ≤ 1 := by rw [e]; exact depth_strs zs
    refine PySem.W.min_list_data (I.ok.hd hc) hl.isList hr ha (by omega) fun i v h' tk bs hv hrd hk => ?_
    obtain ⟨z, hz2⟩ := hm _ (minD_mem xs x)
    rw [hz2] at hrd q
    cases hrd with
    | str _ t => exact ⟨.str z, H, I.kept hk, ⟨_, rfl⟩, q.now _ (.str z)⟩
theorem ed_minS {p : Pos} {f : SE} (hc : X.calm = true) (hu : X.A.units + 64 < cLine) (hm : X.mg "min" = none) (ha : PE X a (tD X.K W f)) (hg : Gl X "min" := by rfl) (he : starEach [a] X.env = (false, eval a X.env) :: starEach [] X.env := by rfl) (hpl : (backTo pos (starEach [] X.env)).any (·.1) = false := by rfl) :
    PE X (.Call (.Name "min" p) [a] [] pos) (tD X.K W (eUn minSD f)) := by
  refine pe_weak (pe_callB (cd_minS hc hu) hg hm (by decide +kernel) (pa_cons ha pa_nil he) (by decide) (by decide) he hpl) fun σ H Q h => ?_
  obtain ⟨ρ, hE, q⟩ := h
  refine tD_mono (tD_then hE q) fun x H1 ⟨d, hx, s1, hE1, q1⟩ => ?_
  obtain ⟨r, hr, q2⟩ := Res.post_of q1
  exact ⟨[d], r, .cons hx .nil, hr, q2⟩
end
end DL

set_option Elab.async false
set_option linter.all false
set_option maxRecDepth 100000
set_option maxHeartbeats 2000000
/-! tuple * 0, tuple * 1; list + list; one dict display; xs[i] = v; a def that changes its first list -/
namespace DL
open PySem PySem.Spec L2 PyProof.Rows
theorem tuple_mul1 (l : Addr) (items : Array Value) (n : Nat) (dd : Option Addr) (sl : Array (Option Value)) (u : Tok) :
    Meets (Builtin.«tuple.__mul__» ⟨[.ref l, .int 1 u], []⟩) (fun _ R s => s.heap.get? l = some { cls := .type "tuple", dict := dd, data := .seq items n, slots := sl } ∧
      R (.ok (.ret (Value.ref l))) s) :=
  .of_wp fun prog w A R s h => by
    obtain ⟨hp, g, d, tk, os⟩ := s
    obtain ⟨hl, h⟩ := h
    have f1 := AutoSeq1.idx_int
    wp_walk using wpAny_loadPart' hl
    exact ⟨_, rfl, h⟩
theorem tuple_mul0 (l : Addr) (items : Array Value) (n : Nat) (dd : Option Addr) (sl : Array (Option Value)) (u : Tok) (he : items.isEmpty = false) :
    Meets (Builtin.«tuple.__mul__» ⟨[.ref l, .int 0 u], []⟩) (fun _ R s => s.heap.get? l = some { cls := .type "tuple", dict := dd, data := .seq items n, slots := sl } ∧
      R (.ok (.ret (Value.ref s.heap.objs.size))) { s with heap := s.heap.push { cls := Value.type "tuple", data := Data.seq (#[] : Array Value) } }) :=
  .of_wp fun prog w A R s h => by
    obtain ⟨hp, g, d, tk, os⟩ := s
    obtain ⟨hl, h⟩ := h
    have f1 := AutoSeq1.idx_int
    wp_walk using wpAny_loadPart' hl
    exact ⟨_, rfl, h⟩
section
variable {X : Cx}
/-- a tuple that holds something, 0 times or once -/
def rRep01 (K : PySem.W.Frag) : R2 := fun x y H Q => ∃ l k xs, x = .ref l ∧ y = .int k ∧ SqT K H l xs ∧ xs ≠ [] ∧ ((k = 1 ∧ Q (.ref l) H) ∨ (k = 0 ∧ ∀ p, H p = none → Q (.ref p) (upd H p (.tup []))))
theorem op_rep01 : OpR X (binaryOp .Mult) (rRep01 X.K) := by
  intro pins s σ H x y v u Q I rx ry h
  obtain ⟨l, k, xs, rfl, rfl, hT, hne, q⟩ := h
  cases rx
  obtain ⟨t, rfl⟩ := ry
  obtain ⟨its, r, ⟨⟨cls, dd, data, sl⟩, ho, hc, n, hd⟩, hs⟩ := I.tuple hT
  simp only at hc hd
  subst hc hd
  have hle : its.length = xs.length := r.length.symm
  have hn : its ≠ [] := fun e => hne (by
    rw [e] at hle
    exact List.eq_nil_of_length_eq_zero hle.symm)
  have hi : its.toArray.isEmpty = false := by
    cases its with
    | nil => exact absurd rfl hn
    | cons a b => rfl
  rcases q with ⟨rfl, q⟩ | ⟨rfl, q⟩
  · refine wpAny_binaryOp_repeat_ref (T := "tuple") (U := "int") (by decide) ⟨_, ho, rfl⟩ (fun s' => typeIs_int s' 1 t) noFill_tuple_mul F.fills_int_mul F.slot_int_rmul repeat_tuple F.slot_int_index.lookup
      (call_meets F.slot_int_rmul (typeIs_int s 1 t) F.entry_int_rmul (F.args_int_rmul_2 _ _) (int_rmul_tuple 1 t l its.toArray n dd sl)
        ⟨ho, rfl, ⟨_, ho, rfl⟩, call_meets F.slot_tuple_mul ⟨_, ho, rfl⟩ F.entry_tuple_mul (F.args_tuple_mul_2 _ _) (tuple_mul1 l its.toArray n dd sl t) ⟨ho, ?_⟩⟩)
    exact ⟨.ref l, H, I, rfl, q⟩
  · refine wpAny_binaryOp_repeat_ref (T := "tuple") (U := "int") (by decide) ⟨_, ho, rfl⟩ (fun s' => typeIs_int s' 0 t) noFill_tuple_mul F.fills_int_mul F.slot_int_rmul repeat_tuple F.slot_int_index.lookup
      (call_meets F.slot_int_rmul (typeIs_int s 0 t) F.entry_int_rmul (F.args_int_rmul_2 _ _) (int_rmul_tuple 0 t l its.toArray n dd sl)
        ⟨ho, rfl, ⟨_, ho, rfl⟩, call_meets F.slot_tuple_mul ⟨_, ho, rfl⟩ F.entry_tuple_mul (F.args_tuple_mul_2 _ _) (tuple_mul0 l its.toArray n dd sl t hi) ⟨ho, ?_⟩⟩)
    refine ⟨.ref s.heap.objs.size, _, I.laid (t' := s.toks) (o := .tup []) (fun b ob q => Heap.get?_push_of_some _ q) (Nat.le_refl _) ?_, rfl, q _ (I.hok.fresh (Nat.le_refl _))⟩
    exact ⟨by rw [sizeLine_eq]; decide, [], .nil, IsTup.new _ _⟩
/-- int * int, and such a tuple -/
def mulTD : PyData → PyData → Option PyData
  | .tuple (x :: xs), .int k => if k = 1 then some (.tuple (x :: xs)) else if k = 0 then some (.tuple []) else none
  | _, _ => none
theorem od_mulT : OpR X (binaryOp .Mult) (rD X.K mulTD) := by
  intro pins s σ H x y v u Q I rx ry h
  obtain ⟨d, e, r, hd, he, hg, q⟩ := h
  cases d <;> cases e <;> simp only [mulTD, reduceCtorEq] at hg
  rename_i ds k
  cases ds with
  | nil => simp [mulTD] at hg
  | cons d0 ds =>
  simp only [mulTD] at hg
  cases he
  cases hd with
  | @tup a xs _ h1 h2 =>
    have hne : xs ≠ [] := fun e => by subst e; cases h2
    split at hg
    · cases hg
      rename_i hk
      exact op_rep01 pins s σ H _ _ v u Q I rx ry ⟨a, k, xs, rfl, rfl, h1, hne, .inl ⟨hk, q.now _ (.tup h1 h2)⟩⟩
    · split at hg
      · cases hg
        rename_i hk
        exact op_rep01 pins s σ H _ _ v u Q I rx ry ⟨a, k, xs, rfl, rfl, h1, hne, .inr ⟨hk, fun p hp => q _ (same_new hp _) _ (.tup (SqT.of upd_same) .nil)⟩⟩
      · cases hg
/-- list + list: a new one -/
def rCatL (K : PySem.W.Frag) : R2 := fun x y H Q => ∃ a b xs ys, x = .ref a ∧ y = .ref b ∧ SqL K H a xs ∧ SqL K H b ys ∧ xs.length + ys.length ≤ sizeLine ∧ ∀ p, H p = none → Q (.ref p) (upd H p (.lst (xs ++ ys)))
theorem op_catL : OpR X (binaryOp .Add) (rCatL X.K) := by
  intro pins s σ H x y v u Q I rx ry h
  obtain ⟨a, b, xs, ys, rfl, rfl, h1, h3, hz, q⟩ := h
  cases rx
  cases ry
  obtain ⟨its, r1, ⟨⟨cls, dd, data, sl⟩, n, e1, hc, hdn, hdt⟩, z1⟩ := I.list h1
  obtain ⟨its2, r2, ⟨⟨cls2, dd2, data2, sl2⟩, n2, e2, hc2, hdn2, hdt2⟩, z2⟩ := I.list h3
  simp only at hc hdt hc2 hdt2 hdn hdn2
  subst hc hdt hc2 hdt2 hdn hdn2
  have hl1 := r1.length
  have hl2 := r2.length
  have ea : its.toArray ++ its2.toArray = (its ++ its2).toArray := by simp
  refine concat_meets ⟨_, e1, rfl⟩ ⟨_, e2, rfl⟩ noFill_list_add seq_list_add PySem.F.slot_list_add PySem.F.entry_list_add (PySem.F.args_list_add_2 _ _)
    (list_addW _ _ its.toArray its2.toArray n n2 none none sl sl2 (by rw [List.size_toArray, List.size_toArray]; omega)) ⟨e1, e2, ?_⟩
  rw [ea]
  exact ⟨.ref _, _, I.lnew (t' := s.toks) (r1.append r2) (by rw [List.length_append]; omega), rfl, q _ I.fresh⟩
def addLD : PyData → PyData → Option PyData
  | .list a, .list b => if a.length + b.length ≤ big then some (.list (a ++ b)) else none
  | _, _ => none
theorem en_add {W : Wis} {a b : Expr} {pos : Pos} {fa fb : SE} (ha : PE X a (tD X.K W fa)) (hb : PE X b (tD X.K W fb)) : PE X (.BinOp a .Add b pos) (tE X.K W true (eOp addLD fa fb)) :=
  pe_weak (pe_op op_catL ha hb) fun σ H Q ⟨ρ, hE, q⟩ => by
    refine ⟨ρ, hE, (Res.post_bind.mp q).mono (fun d q1 H1 s1 x hx => ?_) fun m q => q⟩
    refine ⟨ρ, hE.mono s1, (Res.post_bind.mp q1).mono (fun e q2 H2 s2 y hy => ?_) fun m q => q.on s1⟩
    obtain ⟨r, hr, q3⟩ := Res.post_of q2
    have hx := dp_mono s2 _ _ hx
    cases d <;> cases e <;> simp only [addLD, reduceCtorEq] at hr
    split at hr <;> cases hr
    rename_i hz
    have s := s1.trans s2
    cases hx with
    | lst h1 h2 =>
      cases hy with
      | lst h3 h4 =>
        refine ⟨_, _, _, _, rfl, rfl, h1, h3, by rw [dps_len h2, dps_len h4]; exact Nat.le_trans hz big_line, fun p hp => ?_⟩
        exact q3 _ (s.trans (same_new hp _)) _ (told_lst (none_on s hp) upd_same (dps_mono (same_new hp _) _ _ (dps_append h2 h4)))
/-! xs[j] = v in the own list -/
def sPutI (i : Nat) (a f : SE) : SS := fun ρ => (f ρ).bind fun d => (a ρ).bind fun k => match k, ρ[i]? with
  | .int z, some (some (.list ts)) => if frz d then (match ixN ts.length z with
    | some j => .ok (.nx (ρ.set i (some (.list (ts.set j d)))))
    | none => .bad) else .bad
  | _, _ => .bad
@[simp] theorem sPutI_ap {i : Nat} {a f : SE} {ρ : PEnv} : sPutI i a f ρ = (f ρ).bind fun d => (a ρ).bind fun k => match k, ρ[i]? with
  | .int z, some (some (.list ts)) => if frz d then (match ixN ts.length z with
    | some j => .ok (.nx (ρ.set i (some (.list (ts.set j d)))))
    | none => .bad) else .bad
  | _, _ => .bad := nrfl rfl
theorem psG_putI {W : Wis} {n : Bool} {i : Nat} {x : Str} {p tpos pos : Pos} {e ix : Expr} {a f : SE} (ha : PE X ix (tD X.K W a)) (he : PE X e (tD X.K W f)) (hN : X.N[i]? = some x := by rfl) (hv : Vis X.env.scope x := by first | exact Or.inl rfl | exact Or.inr (Or.inl rfl) | exact Or.inr (Or.inr rfl)) (hd : (x == ("__debug__" : Str)) = false := by decide)
    (hcd : (x == ("__classdict__" : Str)) = false := by decide)
    (has : ∀ v, assign (.Subscript (.Name x p) ix tpos) X.env v = (do
      let ov ← holding [v] (eval (.Name x p) X.env)
      let iv ← holding [v, ov] (eval ix X.env)
      standAt tpos
      holding [v, ov, iv] (setItem ov iv v)
      release [v, ov, iv] []) := by intro _; rfl) (hs : swapsWithSole [.Subscript (.Name x p) ix tpos] e pos.line X.env = pure false := by rfl) (hw : swappedStores [.Subscript (.Name x p) ix tpos] e X.env = pure none := by rfl)
    (h1 : (assignEach [.Subscript (.Name x p) ix tpos] X.env).map (·.2) = [assign (.Subscript (.Name x p) ix tpos) X.env] := by rfl) :
    PS X (.Assign [.Subscript (.Name x p) ix tpos] e pos) (tsG X.K W n (some i) (some i) (sPutI i a f)) :=
  ps_weak (ps_asg (eD_N he) (pg_sub (pe_var (i := i) hN hv hd hcd) (eD_N ha) set_list has) hs hw h1) fun D σ H ⟨B, ρ, hS, q⟩ => by
    refine tE_then (D := D) hS q fun d v H1 s hv hS1 q1 => ?_
    obtain ⟨p, xs, ts, g1, g2, g3, g4, g5, g6, g7⟩ := hS1.own i rfl
    refine ⟨_, g1, ?_⟩
    refine tE_then (D := D) hS1 q1 fun k u H2 s2 hu hS2 q2 => ?_
    rw [g4] at q2
    cases k <;> first | exact q2.elim | skip
    rename_i z
    dsimp only at q2
    split at q2
    · rename_i hz
      split at q2
      · rename_i j hj
        obtain ⟨hu1, _⟩ := hu
        cases hu1
        have hp2 := s2 _ _ g3
        refine ⟨p, xs, z, j, rfl, rfl, hp2, by rw [dps_len g5]; exact hj, ?_⟩
        refine q2 _ _ (hS2.grow g1 hp2 g4 (dps_set j (frz_mono (sqT_lst hp2) _ _ hz (dp_mono s2 _ _ hv.1)) (frzs_mono (sqT_lst hp2) _ _ g6 (dps_mono s2 _ _ g5))) (frzs_set _ _ _ g6 hz))
      · exact q2.elim
    · exact q2.elim
/-! one dict display -/
theorem psd_dict1 {W : Wis} {i : Nat} {x : Str} {px pos p2 : Pos} {keys : List (Option Expr)} {vals : List Expr} (kvs : List (Key × V)) (hN : X.N.Nodup) (hp : PPs X p2 keys vals (kvs.map fun p => (tC (kV p.1), tC p.2))) (hu : X.A.units + 1 < cLine)
    (hsc : ∀ p ∈ mergeK [] kvs, (scaD p.2).isSome = true := by decide +kernel)
    (hall : keys.all (·.isSome) = true := by rfl) (hl : keys.length = vals.length := by rfl) (h0 : keys ≠ [] := by exact List.cons_ne_nil _ _) (h15 : keys.length ≤ 15 := by decide) (hk : kvs.length ≤ 15 := by decide)
    (hi : X.N[i]? = some x := by rfl) (hx : Loc X.env.scope x := by first | exact Or.inl rfl | exact Or.inr rfl) (hs : swapsWith (.Dict keys vals p2) (some (.Name x px)) pos.line X.env = pure false := by rfl)
    (hf : X.fn x = true ∨ X.env.scope.names.lookup x = some .local := by first | exact .inl rfl | exact .inr rfl | assumption) :
    PS X (.Assign [.Name x px] (.Dict keys vals p2) pos) (tsD X.K W (sPut i (.dict (kvD (mergeK [] kvs))))) :=
  ps_weak (ps_set hN hi hx (pe_disp hp hall hl h0 h15) hs hf) fun D σ H ⟨ρ, hE, q⟩ => by
    intro p hp
    refine pairs_then ⟨upd_same, kvs, rfl, hk, ?_⟩
    rw [upd_upd]
    unfold sPut at q
    split at q
    · exact q _ (same_new hp _) _ ((hE.mono (same_new hp _)).set (.dct upd_same hsc))
    · exact q.elim
theorem noRt_asg {f : SE} {g : SG} : noRt (sAsg f g) := fun ρ d h => by
  unfold sAsg at h
  cases hf : f ρ with
  | ok x =>
    rw [hf] at h
    cases hg : g x ρ with
    | none => simp [hg, Res.bind, Res.of] at h
    | some r => simp [hg, Res.bind, Res.of] at h
  | ex m => rw [hf] at h; cases h
  | bad => rw [hf] at h; cases h
end
/-! a def that changes its first list, and tells it or a new one -/
def spM (K : PySem.W.Frag) (cls : Nat → Value) (n : Nat) (g : List PyData → Res PyData) : Sp := fun vs H Q E => vs.length = n ∧ ∃ p xs ts rest ds, vs = V.ref p :: rest ∧ H p = some (.lst xs) ∧ DpAll K H xs ts ∧ frzs ts = true ∧ DpAll K (wo H p) rest ds ∧
  (g (.list ts :: ds)).post (fun d => fut (wo H p) fun H' => ∀ v, told K true (wo H p) H' d v → Q v H') fun m => fut (wo H p) fun H' => E (cls m) none H'
structure CalleeM (P : Program) (w : World) (K : PySem.W.Frag) (mg : Str → Option Value) (base : Heap) (CX : CXT) (cls : Nat → Value) (x : Str) (k : Nat) (ps : List Str) (g : List PyData → Res PyData) : Prop where
  ex : ∃ f fd, FnOk P w K mg base CX k f fd ps (spM K cls ps.length g) ∧ mg x = some (.ref f) ∧ PySem.W.keepIn K (.ref f) = true ∧ Binds K fd ps [] ∧ ∃ oc od osl, K.lookup f = some ⟨oc, od, .func fd, osl⟩
theorem CalleeM.mono {P : Program} {w : World} {K : PySem.W.Frag} {mg : Str → Option Value} {base : Heap} {CX : CXT} {cls : Nat → Value} {x : Str} {j k : Nat} {ps : List Str} {g : List PyData → Res PyData} (C : CalleeM P w K mg base CX cls x j ps g) (h : j ≤ k) : CalleeM P w K mg base CX cls x k ps g := by
  obtain ⟨f, fd, F, r⟩ := C.ex
  exact ⟨f, fd, F.mono h, r⟩
theorem bodyM_then {K : PySem.W.Frag} {cls : Nat → Value} {N : List Str} {n : Nat} {o : Option Nat} {F : SS} {vs : List V} {H : Hp} {Q : VK} {E : XK} (h : spM K cls n (bodyN N.length F) vs H Q E) :
    tsG K (fun m H' => E (cls m) none H') true (some 0) o F { nx := fun _ H' => Q .non H', rt := Q } (L2.start N vs) H := by
  obtain ⟨_, p, xs, ts, rest, ds, rfl, hp, hxs, hz, hr, q⟩ := h
  have hd : Dp K H (.ref p) (.list ts) := .lst (SqL.of hp) hxs
  refine ⟨wo H p, startD N.length (.list ts :: ds), ⟨wo_le H p, envR_start (.cons hd (dps_mono (wo_le H p) _ _ hr)), fun i hi => ?_⟩, (Res.post_bind.mp q).mono (fun r z => ?_) fun n r => r⟩
  · cases hi
    refine ⟨p, xs, ts, rfl, if_pos rfl, hp, rfl, hxs, hz, ?_⟩
    have h0 : EnvR K (wo H p) (L2.start N (.non :: rest)) (startD N.length (.none :: ds)) := envR_start (.cons .non hr)
    exact h0.blank (i := 0) (x := some (.ref p))
  · cases r with
    | rt d => exact fun H' s v hv => z H' s v hv
    | nx ρ' => exact z.elim
    | bk ρ' => exact z.elim
    | ct ρ' => exact z.elim
theorem callee_ofM {P : Program} {w : World} {K : PySem.W.Frag} {mg : Str → Option Value} {base : Heap} {cls : Nat → Value} {x qual : Str} {st : Stmt} {f : Addr} {fd : FuncData} {N ps : List Str} {k : Nat} {o : Option Nat} {F : SS} (D : L2.Fun K x qual st f fd) (S : FnScope N ps (defScope st)) (hm : mg x = some (.ref f)) (hb : Binds K fd ps [])
    (body : ∀ (cdv : Value) (A : Around) (outer : List Env) (s : Shared) (H : Hp) (E : XK) (W : Wis), Room k (A.deeper (envOfC qual (defScope st) s.heap.objs.size f cdv)) →
      PSs (cxOf CX0 P w K mg base N qual (defScope st) f cdv A outer s H E).nox (defBody st) (tsG K W true (some 0) o F)) : CalleeM P w K mg base CX0 cls x (k + 1) ps (bodyN N.length F) := by
  refine ⟨f, fd, D.ok S (fun vs H Q E h => h.1) (fun cdv A outer s H vs Q E hr h => ⟨_, body cdv A outer s H E _ hr, bodyM_then h⟩), hm, D.kp, hb, ?_⟩
  obtain ⟨oc, od, kV, doc, pm, an, cdv, ct, osl, rfl, lk, hcd⟩ := D.ex
  exact ⟨oc, od, osl, lk⟩
def sCallM (i j k : Nat) (g : List PyData → Res PyData) : SS := fun ρ => match ρ[i]?, ρ[j]?, ρ[k]? with
  | some (some (.list ts)), some (some d), some (some e) => (g [.list ts, d, e]).bind fun r => match r with
    | .list us => if frzs us then .ok (.nx (ρ.set i (some (.list us)))) else .bad
    | _ => .bad
  | _, _, _ => .bad
@[simp] theorem sCallM_ap {i j k : Nat} {g : List PyData → Res PyData} {ρ : PEnv} : sCallM i j k g ρ = match ρ[i]?, ρ[j]?, ρ[k]? with
  | some (some (.list ts)), some (some d), some (some e) => (g [.list ts, d, e]).bind fun r => match r with
    | .list us => if frzs us then .ok (.nx (ρ.set i (some (.list us)))) else .bad
    | _ => .bad
  | _, _, _ => .bad := nrfl rfl
theorem psG_callM {X : Cx} {W : Wis} {n : Bool} {i j k m : Nat} {f x y z : Str} {px p p1 p2 p3 pos cpos : Pos} {cls : Nat → Value} {ps : List Str} {g : List PyData → Res PyData} (hij : i ≠ j) (hik : i ≠ k) (hN : X.N.Nodup) (C : CalleeM X.prog X.w X.K X.mg X.base CX0 cls f m ps g) (hr : Room m X.A) (hl3 : ps.length = 3)
    (hi : X.N[i]? = some x := by rfl) (hj : X.N[j]? = some y := by rfl) (hk : X.N[k]? = some z := by rfl)
    (hvx : Vis X.env.scope x := by first | exact Or.inl rfl | exact Or.inr (Or.inl rfl) | exact Or.inr (Or.inr rfl)) (hvy : Vis X.env.scope y := by first | exact Or.inl rfl | exact Or.inr (Or.inl rfl) | exact Or.inr (Or.inr rfl)) (hvz : Vis X.env.scope z := by first | exact Or.inl rfl | exact Or.inr (Or.inl rfl) | exact Or.inr (Or.inr rfl))
    (hdx : (x == ("__debug__" : Str)) = false := by decide) (hcx : (x == ("__classdict__" : Str)) = false := by decide) (hdy : (y == ("__debug__" : Str)) = false := by decide) (hcy : (y == ("__classdict__" : Str)) = false := by decide) (hdz : (z == ("__debug__" : Str)) = false := by decide) (hcz : (z == ("__classdict__" : Str)) = false := by decide)
    (hg : Gl X f := by rfl) (hdb : (f == ("__debug__" : Str)) = false := by decide)
    (he : starEach [.Name x p1, .Name y p2, .Name z p3] X.env = (false, eval (.Name x p1) X.env) :: starEach [.Name y p2, .Name z p3] X.env := by rfl) (he2 : starEach [.Name y p2, .Name z p3] X.env = (false, eval (.Name y p2) X.env) :: starEach [.Name z p3] X.env := by rfl) (he3 : starEach [.Name z p3] X.env = (false, eval (.Name z p3) X.env) :: starEach [] X.env := by rfl)
    (hpl : (backTo cpos (starEach [.Name y p2, .Name z p3] X.env)).any (·.1) = false := by rfl)
    (hx : Loc X.env.scope x := by first | exact Or.inl rfl | exact Or.inr rfl) (hs : swapsWith (.Call (.Name f p) [.Name x p1, .Name y p2, .Name z p3] [] cpos) (some (.Name x px)) pos.line X.env = pure false := by rfl)
    (hf : X.fn x = true ∨ X.env.scope.names.lookup x = some .local := by first | exact .inl rfl | exact .inr rfl | assumption) :
    PS X (.Assign [.Name x px] (.Call (.Name f p) [.Name x p1, .Name y p2, .Name z p3] [] cpos) pos) (tsG X.K W n (some i) (some i) (sCallM i j k g)) := by
  obtain ⟨fa, fd, F, hm, hkp, hb, _⟩ := C.ex
  refine ps_weak (ps_set hN hi hx (pe_call F hr hg hm hkp hb .nil (passD (cls := cls) (W := W)) (pa_cons (pe_var (i := i) hi hvx hdx hcx) (pa_cons (pe_var (i := j) hj hvy hdy hcy) (pa_cons (pe_var (i := k) hk hvz hdz hcz) pa_nil he3) he2) he) hdb he hpl) hs hf) fun D σ H ⟨B, ρ, hS, q⟩ => ?_
  obtain ⟨a0, xs, ts, h1, h2, h3, h4, h5, h6, h7⟩ := hS.own i rfl
  unfold sCallM at q
  rw [h4] at q
  split at q
  · rename_i ts' d e hq1 hq2 hq3
    cases hq1
    have hil : i < ρ.length := (List.getElem?_eq_some_iff.mp h4).1
    obtain ⟨vj, g1, g2⟩ := h7.2 j d (by rw [List.getElem?_set_ne hij]; exact hq2)
    obtain ⟨vk, g3, g4⟩ := h7.2 k e (by rw [List.getElem?_set_ne hik]; exact hq3)
    have hB : Same B (wo H a0) := same_wo hS.base h2
    refine ⟨_, h1, _, g1, _, g3, hl3.symm, a0, xs, ts, [vj, vk], [d, e], rfl, h3, h5, h6, .cons g2 (.cons g4 .nil), (Res.post_bind.mp q).mono (fun r z H' s v hv => ?_) fun m r H' s => ⟨m, rfl, rfl, r H' (hB.trans s)⟩⟩
    obtain ⟨hd, hn⟩ := hv
    obtain ⟨a, ys, us, rfl, rfl, k1, k2, k3⟩ := hn rfl
    dsimp only at z
    split at z
    · rename_i hz
      refine z _ _ ⟨hB.trans s, ?_, fun i' hi' => ?_⟩
      · have := (h7.mono s).set (i := i) hd
        rwa [List.set_set] at this
      · cases hi'
        refine ⟨a, ys, us, List.getElem?_set_self (by rw [← hS.env.1]; exact hil), none_on hB k1, k2, List.getElem?_set_self hil, k3, hz, ?_⟩
        have := (h7.mono (same_wo s k1)).blank (i := i) (x := some (.ref a))
        rw [List.set_set] at this ⊢
        exact this
    · exact z.elim
  · exact q.elim
end DL

set_option Elab.async false
set_option linter.all false
set_option maxRecDepth 100000
set_option maxHeartbeats 2000000
/-! the functions that bodies are read as, applied: for simp -/
namespace DL
open PySem L2 PyProof.Rows
section
variable {f g h : SE} {t u : ST} {F G : SS} {ρ : PEnv} {i n : Nat} {d : PyData} {a b : SA}
@[simp] theorem eVar_ap : eVar i ρ = match ρ[i]? with
  | some (some d) => .ok d
  | _ => .bad := nrfl rfl
@[simp] theorem eC_ap : eC d ρ = .ok d := nrfl rfl
@[simp] theorem eOp_ap {o : PyData → PyData → Option PyData} : eOp o f g ρ = (f ρ).bind fun x => (g ρ).bind fun y => Res.of (o x y) := nrfl rfl
@[simp] theorem eUn_ap {o : PyData → Option PyData} : eUn o f ρ = (f ρ).bind fun x => Res.of (o x) := nrfl rfl
@[simp] theorem eArgs_ap {o : List PyData → Option PyData} : eArgs o a ρ = (a ρ).bind fun xs => Res.of (o xs) := nrfl rfl
@[simp] theorem eCall_ap {o : List PyData → Res PyData} : eCall o a ρ = (a ρ).bind o := nrfl rfl
@[simp] theorem asT_ap : asT f ρ = (f ρ).bind fun x => Res.of (truth x) := nrfl rfl
@[simp] theorem asTru_ap : asTru f ρ = (f ρ).bind fun x => Res.of (DL.truthy x) := nrfl rfl
@[simp] theorem tAnd_ap : DL.tAnd t u ρ = (t ρ).bind fun b => if b then u ρ else .ok false := nrfl rfl
@[simp] theorem tOr_ap : DL.tOr t u ρ = (t ρ).bind fun b => if b then .ok true else u ρ := nrfl rfl
@[simp] theorem tNot_ap : DL.tNot t ρ = (t ρ).bind fun b => .ok (!b) := nrfl rfl
@[simp] theorem eAnd_ap : eAnd f g ρ = (f ρ).bind fun x => (Res.of (truth x)).bind fun b => if b then g ρ else .ok (.bool false) := nrfl rfl
@[simp] theorem eOr_ap : eOr f g ρ = (f ρ).bind fun x => (Res.of (truth x)).bind fun b => if b then .ok (.bool true) else g ρ := nrfl rfl
@[simp] theorem eNot_ap : eNot f ρ = (f ρ).bind fun x => (Res.of (truth x)).bind fun b => .ok (.bool (!b)) := nrfl rfl
@[simp] theorem eChain_ap {o p : PyData → PyData → Option PyData} : eChain o p f g h ρ = (f ρ).bind fun x => (g ρ).bind fun y => (Res.of (o x y)).bind fun z => (Res.of (truth z)).bind fun k =>
  if k then (h ρ).bind fun w => Res.of (p y w) else .ok (.bool false) := nrfl rfl
@[simp] theorem aNil_ap : aNil ρ = .ok [] := nrfl rfl
@[simp] theorem aCons_ap : aCons f a ρ = (f ρ).bind fun x => (a ρ).bind fun xs => .ok (x :: xs) := nrfl rfl
@[simp] theorem eTup_ap : eTup a ρ = (a ρ).bind fun xs => if xs.length ≤ big then .ok (.tuple xs) else .bad := nrfl rfl
@[simp] theorem eLst_ap : eLst a ρ = (a ρ).bind fun xs => if xs.length ≤ big then .ok (.list xs) else .bad := nrfl rfl
@[simp] theorem oNone_ap : oNone ρ = .ok none := nrfl rfl
@[simp] theorem oSome_ap : oSome f ρ = (f ρ).bind fun x => match x with
  | .int i => .ok (some i)
  | _ => .bad := nrfl rfl
@[simp] theorem eCut_ap {l r : PEnv → Res (Option Int)} : eCut f l r ρ = (f ρ).bind fun x => (l ρ).bind fun lo => (r ρ).bind fun hi => Res.of (cutD lo hi x) := nrfl rfl
@[simp] theorem eM1_ap {o : Str → PyData → Option PyData} : eM1 o f g ρ = (f ρ).bind fun x => match x with
  | .str z => (g ρ).bind fun y => Res.of (o z y)
  | _ => .bad := nrfl rfl
@[simp] theorem eM0_ap {o : Str → Option PyData} : eM0 o f ρ = (f ρ).bind fun x => match x with
  | .str z => Res.of (o z)
  | _ => .bad := nrfl rfl
@[simp] theorem eMenu_ap {kvs : List (Key × V)} : eMenu kvs f ρ = (f ρ).bind fun x => Res.of (menuD kvs x) := nrfl rfl
@[simp] theorem sList_ap : sList f ρ = (f ρ).bind fun x => match x with
  | .list xs => .ok xs
  | _ => .bad := nrfl rfl
@[simp] theorem sTup_ap : sTup f ρ = (f ρ).bind fun x => match x with
  | .tuple xs => .ok xs
  | _ => .bad := nrfl rfl
@[simp] theorem sStr_ap : sStr f ρ = (f ρ).bind fun x => match x with
  | .str z => .ok (z.cps.toList.map fun c => .str ⟨#[c]⟩)
  | _ => .bad := nrfl rfl
@[simp] theorem sRng1_ap : sRng1 a ρ = (a ρ).bind fun xs => match xs with
  | [.int j] => if -big ≤ j ∧ j ≤ big then .ok (upTo 0 j.toNat) else .bad
  | _ => .bad := nrfl rfl
@[simp] theorem sRng2_ap : sRng2 a ρ = (a ρ).bind fun xs => match xs with
  | [.int i, .int j] => if -big ≤ i ∧ i ≤ big ∧ -big ≤ j ∧ j ≤ big then .ok (upTo i (j - i).toNat) else .bad
  | _ => .bad := nrfl rfl
@[simp] theorem tTrue_ap : tTrue ρ = .ok true := nrfl rfl
theorem eLc_ap : eLc i a t f ρ = (a ρ).bind fun xs => if xs.length ≤ big then (Res.calm (lcGo (fun d => (ρ.set i none).set i (some d)) t f xs)).bind fun ys => .ok (.list ys) else .bad := nrfl rfl
@[simp] theorem sNext_ap : sNext ρ = .ok (.nx ρ) := nrfl rfl
@[simp] theorem sSeq_ap : sSeq F G ρ = (F ρ).bind fun o => match o with
  | .nx ρ' => G ρ'
  | .rt d => .ok (.rt d)
  | .bk ρ' => .ok (.bk ρ')
  | .ct ρ' => .ok (.ct ρ') := nrfl rfl
@[simp] theorem sSet_ap : sSet i f ρ = (f ρ).bind fun d => .ok (.nx (ρ.set i (some d))) := nrfl rfl
@[simp] theorem sDrop_ap : sDrop f ρ = (f ρ).bind fun _ => .ok (.nx ρ) := nrfl rfl
@[simp] theorem sRet_ap : sRet f ρ = (f ρ).bind fun d => .ok (.rt d) := nrfl rfl
@[simp] theorem sRetN_ap : sRetN ρ = .ok (.rt .none) := nrfl rfl
@[simp] theorem sIf_ap : sIf t F G ρ = (t ρ).bind fun b => if b then F ρ else G ρ := nrfl rfl
@[simp] theorem sBreak_ap : sBreak ρ = .ok (.bk ρ) := nrfl rfl
@[simp] theorem sCont_ap : sCont ρ = .ok (.ct ρ) := nrfl rfl
theorem sFor_ap {k : SG} : sFor a k F ρ = (a ρ).bind fun ds => forGo k F ds ρ := nrfl rfl
theorem sWh_ap : sWh n t F ρ = whGo t F n ρ := nrfl rfl
@[simp] theorem gN_ap : gN i d ρ = some (ρ.set i (some d)) := nrfl rfl
@[simp] theorem gsNil_ap : gsNil [] ρ = some ρ := nrfl rfl
@[simp] theorem gsCons_ap {k : SG} {ks : SGs} {ds : List PyData} : gsCons k ks (d :: ds) ρ = (k d ρ).bind fun ρ' => ks ds ρ' := nrfl rfl
@[simp] theorem gT_ap {ks : SGs} {ds : List PyData} : gT n ks (.tuple ds) ρ = if ds.length = n then ks ds ρ else none := nrfl rfl
@[simp] theorem sAsg_ap {k : SG} : sAsg f k ρ = (f ρ).bind fun d => (Res.of (k d ρ)).bind fun ρ' => .ok (.nx ρ') := nrfl rfl
@[simp] theorem truth_bool {b : Bool} : truth (.bool b) = some b := nrfl rfl
@[simp] theorem addD_int {i j : Int} : addD (.int i) (.int j) = some (.int (i + j)) := nrfl rfl
@[simp] theorem subD_int {i j : Int} : subD (.int i) (.int j) = some (.int (i - j)) := nrfl rfl
@[simp] theorem negD_int {i : Int} : negD (.int i) = some (.int (-i)) := nrfl rfl
@[simp] theorem eqD_int {i j : Int} : eqD (.int i) (.int j) = some (.bool (i == j)) := nrfl rfl
@[simp] theorem eqD_str {i j : Str} : eqD (.str i) (.str j) = some (.bool (i == j)) := nrfl rfl
@[simp] theorem neD_int {i j : Int} : neD (.int i) (.int j) = some (.bool (!(i == j))) := nrfl rfl
@[simp] theorem ltD_int {i j : Int} : ltD (.int i) (.int j) = some (.bool (decide (i < j))) := nrfl rfl
@[simp] theorem leD_int {i j : Int} : leD (.int i) (.int j) = some (.bool (decide (i ≤ j))) := nrfl rfl
@[simp] theorem gtD_int {i j : Int} : gtD (.int i) (.int j) = some (.bool (decide (j < i))) := nrfl rfl
@[simp] theorem geD_int {i j : Int} : geD (.int i) (.int j) = some (.bool (decide (j ≤ i))) := nrfl rfl
@[simp] theorem lenD_list {xs : List PyData} : lenD [.list xs] = some (.int xs.length) := nrfl rfl
@[simp] theorem lenD_tuple {xs : List PyData} : lenD [.tuple xs] = some (.int xs.length) := nrfl rfl
@[simp] theorem ixD_list {xs : List PyData} {i : Int} : ixD (.list xs) (.int i) = atI xs i := nrfl rfl
@[simp] theorem ixD_tuple {xs : List PyData} {i : Int} : ixD (.tuple xs) (.int i) = atI xs i := nrfl rfl
@[simp] theorem divD_pos {i j : Int} (h1 : 0 < j) (h2 : j < 1073741824) : divD (.int i) (.int j) = some (.int (i / j)) := if_pos ⟨h1, h2⟩
@[simp] theorem modD_pos {i j : Int} (h : 0 < j) : modD (.int i) (.int j) = some (.int (i % j)) := if_pos h
theorem mulD_l {i j : Int} (h : small64 i = true) : mulD (.int i) (.int j) = some (.int (i * j)) := by simp [mulD, h]
theorem mulD_r {i j : Int} (h : small64 j = true) : mulD (.int i) (.int j) = some (.int (i * j)) := by simp [mulD, h]
theorem small64_of {i : Int} (h1 : -1000000 ≤ i) (h2 : i ≤ 1000000) : small64 i = true := by
  simp only [small64, decide_eq_true_eq]
  omega
@[simp] theorem ite_bind {α β : Type} {c : Prop} [Decidable c] {x y : Res α} {k : α → Res β} : (if c then x else y).bind k = if c then x.bind k else y.bind k := by split <;> rfl
theorem bind_assoc {α β γ : Type} {x : Res α} {k : α → Res β} {l : β → Res γ} : (x.bind k).bind l = x.bind fun a => (k a).bind l := by cases x <;> rfl
/-! comprehensions, loops -/
theorem lcGo_map {env : PyData → PEnv} {t : ST} {f : SE} {v : PyData → PyData} : ∀ {xs : List PyData}, (∀ d ∈ xs, t (env d) = .ok true ∧ f (env d) = .ok (v d) ∧ frz (v d) = true) → lcGo env t f xs = .ok (xs.map v)
  | [], _ => rfl
  | d :: ds, h => by
    obtain ⟨h1, h2, h3⟩ := h d List.mem_cons_self
    unfold lcGo
    rw [h1, h2, lcGo_map fun e he => h e (List.mem_cons_of_mem _ he)]
    simp [Res.calm, h3]
theorem lcGo_filter {env : PyData → PEnv} {t : ST} {f : SE} {p : PyData → Bool} {v : PyData → PyData} : ∀ {xs : List PyData}, (∀ d ∈ xs, t (env d) = .ok (p d) ∧ (p d = true → f (env d) = .ok (v d) ∧ frz (v d) = true)) → lcGo env t f xs = .ok ((xs.filter p).map v)
  | [], _ => rfl
  | d :: ds, h => by
    obtain ⟨h1, h2⟩ := h d List.mem_cons_self
    unfold lcGo
    rw [h1, lcGo_filter fun e he => h e (List.mem_cons_of_mem _ he)]
    cases hp : p d with
    | false => simp [Res.calm, hp]
    | true =>
      obtain ⟨h3, h4⟩ := h2 hp
      simp [Res.calm, hp, h3, h4]
theorem upTo_len {lo : Int} {n : Nat} : (upTo lo n).length = n := by simp [upTo]
theorem mem_upTo {lo : Int} {n : Nat} {d : PyData} : d ∈ upTo lo n ↔ ∃ i : Nat, i < n ∧ d = .int (lo + i) := by
  simp only [upTo, List.mem_map, List.mem_range]
  exact ⟨fun ⟨i, h1, h2⟩ => ⟨i, h1, h2.symm⟩, fun ⟨i, h1, h2⟩ => ⟨i, h1, h2.symm⟩⟩
/-- a loop that runs through, by what holds between the turns -/
theorem forGo_inv {k : SG} {F : SS} (I : Nat → PEnv → Prop) : ∀ {xs : List PyData} {i : Nat} {ρ : PEnv}, I i ρ → (∀ (j : Nat) (d : PyData) (ρ : PEnv), xs[j]? = some d → I (i + j) ρ → ∃ ρ1 ρ2, k d ρ = some ρ1 ∧ (F ρ1 = .ok (.nx ρ2) ∨ F ρ1 = .ok (.ct ρ2)) ∧ I (i + j + 1) ρ2) →
    ∃ ρ', forGo k F xs ρ = .ok (.nx ρ') ∧ I (i + xs.length) ρ'
  | [], i, ρ, h, _ => ⟨ρ, rfl, h⟩
  | d :: ds, i, ρ, h, hs => by
    obtain ⟨ρ1, ρ2, h1, h2, h3⟩ := hs 0 d ρ rfl h
    obtain ⟨ρ', h4, h5⟩ := forGo_inv I (xs := ds) (i := i + 1) (ρ := ρ2) (by simpa using h3) fun j e ρ he hi => by
      obtain ⟨ρ1, ρ2, a, b, c⟩ := hs (j + 1) e ρ (by simpa using he) (by rw [show i + (j + 1) = i + 1 + j by omega]; exact hi)
      exact ⟨ρ1, ρ2, a, b, by rw [show i + 1 + j + 1 = i + (j + 1) + 1 by omega]; exact c⟩
    refine ⟨ρ', ?_, by rw [List.length_cons, show i + (ds.length + 1) = i + 1 + ds.length by omega]; exact h5⟩
    unfold forGo
    rw [h1]
    rcases h2 with h2 | h2 <;> simp [h2, h4]
/-- a while that runs through, by what holds between the turns and a measure -/
theorem whGo_inv {t : ST} {F : SS} (I : Nat → PEnv → Prop) (Z : PEnv → Prop) (hz : ∀ m ρ, I m ρ → (∃ b, t ρ = .ok b ∧ (b = false → Z ρ) ∧ (b = true → ∃ m' ρ2, m' < m ∧ (F ρ = .ok (.nx ρ2) ∨ F ρ = .ok (.ct ρ2)) ∧ I m' ρ2))) :
    ∀ (n m : Nat) (ρ : PEnv), m < n → I m ρ → ∃ ρ', whGo t F n ρ = .ok (.nx ρ') ∧ Z ρ'
  | 0, m, ρ, h, _ => absurd h (Nat.not_lt_zero _)
  | n + 1, m, ρ, h, hi => by
    obtain ⟨b, h1, h2, h3⟩ := hz m ρ hi
    unfold whGo
    rw [h1]
    cases b with
    | false => exact ⟨ρ, rfl, h2 rfl⟩
    | true =>
      obtain ⟨m', ρ2, h4, h5, h6⟩ := h3 rfl
      obtain ⟨ρ', h7, h8⟩ := whGo_inv I Z hz n m' ρ2 (by omega) h6
      refine ⟨ρ', ?_, h8⟩
      rcases h5 with h5 | h5 <;> simp [h5, h7]
end
end DL

set_option Elab.async false
set_option linter.all false
set_option maxRecDepth 100000
set_option maxHeartbeats 4000000
namespace My
open PySem L2 DL PyProof.Rows
def top (i : Nat) : Stmt := PySem.Challenge.pw_showtree_k08_rows_follow.main.body.getD i (.Pass ⟨0, 0, 0, 0⟩)
def gl_COUNTS : PyData := (.tuple [(.tuple [(.str "given"), (.int 0)]), (.tuple [(.str "both"), (.int 2)]), (.tuple [(.str "left"), (.int 1)]), (.tuple [(.str "right"), (.int 1)]), (.tuple [(.str "one"), (.int 1)]), (.tuple [(.str "other"), (.int 1)])])
def gl_MORE_COUNTS : PyData := (.tuple [(.tuple [(.str "cases"), (.int 3)]), (.tuple [(.str "suppose"), (.int 1)]), (.tuple [(.str "onward"), (.int 2)]), (.tuple [(.str "any"), (.int 1)])])
abbrev s_count_of : Stmt := top 3
abbrev N_count_of : List Str := ["rule", "word", "count"]
abbrev s_is_from : Stmt := top 4
abbrev N_is_from : List Str := ["row", "given", "statement", "supposed", "one"]
abbrev s_is_pair : Stmt := top 5
abbrev N_is_pair : List Str := ["statement", "word"]
abbrev s_by_parts : Stmt := top 6
abbrev N_by_parts : List Str := ["row", "ups", "whole", "given", "statement", "rule"]
abbrev s_by_cases : Stmt := top 7
abbrev N_by_cases : List Str := ["row", "ups", "whole", "given", "statement"]
abbrev s_by_then : Stmt := top 8
abbrev N_by_then : List Str := ["row", "ups", "whole", "given", "statement", "rule"]
abbrev s_follows : Stmt := top 9
abbrev N_follows : List Str := ["rows", "number", "row", "ups", "up"]
abbrev s_faults : Stmt := top 10
abbrev N_faults : List Str := ["rows", "number"]
abbrev s_law_cell_at : Stmt := top 12
abbrev N_law_cell_at : List Str := ["_law_script", "_law_k"]
abbrev s_law_name_by : Stmt := top 13
abbrev N_law_name_by : List Str := ["_law_seed", "_law_k", "_law_letters", "_law_size", "_law_word", "_law_spot", "_law_sign", "_law_j"]
abbrev s_law_from : Stmt := top 14
abbrev N_law_from : List Str := ["_law_row", "_law_given", "_law_statement", "_law_supposed", "_law_one"]
abbrev s_law_ups_right : Stmt := top 15
abbrev N_law_ups_right : List Str := ["_law_row", "_law_ups", "_law_first", "_law_given", "_law_statement", "_law_rule", "_law_place", "_law_k"]
abbrev s_law_follows : Stmt := top 16
abbrev N_law_follows : List Str := ["_law_rows", "_law_number", "_law_counts", "_law_row", "_law_up"]
abbrev s_law_part_by : Stmt := top 17
abbrev N_law_part_by : List Str := ["_law_seed", "_law_cell", "_law_one", "_law_other"]
abbrev s_law_added : Stmt := top 18
abbrev N_law_added : List Str := ["_law_rows", "_law_rule", "_law_given", "_law_pieces", "_law_at", "_law_a", "_law_b", "_law_c", "_law_word", "_law_one", "_law_two", "_law_goal", "_law_more"]
abbrev s_law_wrong_ups : Stmt := top 19
abbrev N_law_wrong_ups : List Str := ["_law_ups", "_law_some", "_law_number", "_law_many", "_law_at", "_law_wrong"]
abbrev s_law_spoilt : Stmt := top 20
abbrev N_law_spoilt : List Str := ["_law_row", "_law_cell", "_law_number", "_law_many", "_law_part", "_law_way", "_law_some", "_law_given", "_law_statement", "_law_rule", "_law_ups", "_law_rules", "_law_turned"]
abbrev s_law_all_spoilt : Stmt := top 21
abbrev N_law_all_spoilt : List Str := ["_law_rows", "_law_script", "_law_seed", "_law_k", "_law_at", "_law_part"]
abbrev s_law_rows_by : Stmt := top 22
abbrev N_law_rows_by : List Str := ["_law_script", "_law_seed", "_law_rows", "_law_k", "_law_cell", "_law_pieces", "_law_some", "_law_given", "_law_j"]
abbrev s_law : Stmt := top 23
abbrev N_law : List Str := ["_law_script", "_law_seed", "_law_rows", "_law_kept", "_law_due", "_law_number", "_law_found"]
/-- what the top has left -/
structure Txt (K : PySem.W.Frag) (mg : Str → Option Value) : Prop where
  d_count_of : DefAt K mg "count_of" s_count_of ["rule"]
  d_is_from : DefAt K mg "is_from" s_is_from ["row", "given", "statement", "supposed"]
  d_is_pair : DefAt K mg "is_pair" s_is_pair ["statement", "word"]
  d_by_parts : DefAt K mg "by_parts" s_by_parts ["row", "ups"]
  d_by_cases : DefAt K mg "by_cases" s_by_cases ["row", "ups"]
  d_by_then : DefAt K mg "by_then" s_by_then ["row", "ups"]
  d_follows : DefAt K mg "follows" s_follows ["rows", "number"]
  d_faults : DefAt K mg "faults" s_faults ["rows"]
  d_law_cell_at : DefAt K mg "_law_cell_at" s_law_cell_at ["_law_script", "_law_k"]
  d_law_name_by : DefAt K mg "_law_name_by" s_law_name_by ["_law_seed", "_law_k"]
  d_law_from : DefAt K mg "_law_from" s_law_from ["_law_row", "_law_given", "_law_statement", "_law_supposed"]
  d_law_ups_right : DefAt K mg "_law_ups_right" s_law_ups_right ["_law_row", "_law_ups"]
  d_law_follows : DefAt K mg "_law_follows" s_law_follows ["_law_rows", "_law_number"]
  d_law_part_by : DefAt K mg "_law_part_by" s_law_part_by ["_law_seed", "_law_cell"]
  d_law_added : DefAt K mg "_law_added" s_law_added ["_law_rows", "_law_rule", "_law_given", "_law_pieces"]
  d_law_wrong_ups : DefAt K mg "_law_wrong_ups" s_law_wrong_ups ["_law_ups", "_law_some", "_law_number", "_law_many"]
  d_law_spoilt : DefAt K mg "_law_spoilt" s_law_spoilt ["_law_row", "_law_cell", "_law_number", "_law_many", "_law_part"]
  d_law_all_spoilt : DefAt K mg "_law_all_spoilt" s_law_all_spoilt ["_law_rows", "_law_script", "_law_seed"]
  d_law_rows_by : DefAt K mg "_law_rows_by" s_law_rows_by ["_law_script", "_law_seed"]
  d_law : DefAt K mg "law" s_law ["_law_script"]
  z_all : mg "all" = none
  z_bool : mg "bool" = none
  z_int : mg "int" = none
  z_isinstance : mg "isinstance" = none
  z_len : mg "len" = none
  z_list : mg "list" = none
  z_max : mg "max" = none
  z_min : mg "min" = none
  z_range : mg "range" = none
  z_reversed : mg "reversed" = none
  z_tuple : mg "tuple" = none
  gl_COUNTS : GlD K mg "COUNTS" gl_COUNTS
  gl_MORE_COUNTS : GlD K mg "MORE_COUNTS" gl_MORE_COUNTS
/-! what the bodies are read as -/
def F_count_of : SS :=
  (sSeq (sFor (sTup (eOp addD (eC gl_COUNTS) (eC gl_MORE_COUNTS))) (gT 2 (gsCons (gN 1) (gsCons (gN 2) gsNil))) (sIf (asT (eOp eqD (eVar 1) (eVar 0))) (sRet (eVar 2)) sNext))
    (sRet (eC .none)))
def sem_count_of : List PyData → Res PyData := bodyD 3 F_count_of
def F_is_from : SS :=
  (sRet (eAnd (eOp eqD (eOp ixD (eVar 0) (eC (.int 1))) (eVar 2)) (eArgs allD (aCons (eLc 4 (sTup (eOp ixD (eVar 0) (eC (.int 0)))) tTrue (eOr (eOp inD (eVar 4) (eVar 1)) (eOp inD (eVar 4) (eVar 3)))) aNil))))
def sem_is_from : List PyData → Res PyData := bodyD 5 F_is_from
def F_is_pair : SS :=
  (sRet (eOp eqD (eOp ixD (eVar 0) (eC (.int 0))) (eVar 1)))
def sem_is_pair : List PyData → Res PyData := bodyD 2 F_is_pair
def F_by_parts : SS :=
  (sSeq (sAsg (eCut (eVar 0) oNone (oSome (eC (.int 3)))) (gT 3 (gsCons (gN 3) (gsCons (gN 4) (gsCons (gN 5) gsNil)))))
    (sSeq (sIf (asT (eOp eqD (eVar 5) (eC (.str "both")))) (sSeq (sIf (DL.tNot (asT (eCall sem_is_pair (aCons (eVar 4) (aCons (eC (.str "and")) aNil))))) (sRet (eC (.bool false))) sNext)
    (sRet (eAnd (eCall sem_is_from (aCons (eOp ixD (eVar 1) (eC (.int 0))) (aCons (eVar 3) (aCons (eOp ixD (eVar 4) (eC (.int 1))) (aCons (eTup aNil) aNil))))) (eCall sem_is_from (aCons (eOp ixD (eVar 1) (eC (.int 1))) (aCons (eVar 3) (aCons (eOp ixD (eVar 4) (eC (.int 2))) (aCons (eTup aNil) aNil)))))))) sNext)
    (sSeq (sIf (asT (eOp inD (eVar 5) (eTup (aCons (eC (.str "one")) (aCons (eC (.str "other")) aNil))))) (sRet (eAnd (eCall sem_is_pair (aCons (eVar 4) (aCons (eC (.str "or")) aNil))) (eCall sem_is_from (aCons (eOp ixD (eVar 1) (eC (.int 0))) (aCons (eVar 3) (aCons (eOp ixD (eVar 4) (eOp addD (eC (.int 1)) (eArgs intD (aCons (eOp eqD (eVar 5) (eC (.str "other"))) aNil)))) (aCons (eTup aNil) aNil))))))) sNext)
    (sSeq (sSet 2 (eOp ixD (eOp ixD (eVar 1) (eC (.int 0))) (eC (.int 1))))
    (sSeq (sIf (DL.tOr (DL.tNot (asT (eCall sem_is_pair (aCons (eVar 2) (aCons (eC (.str "and")) aNil))))) (DL.tNot (asT (eCall sem_is_from (aCons (eOp ixD (eVar 1) (eC (.int 0))) (aCons (eVar 3) (aCons (eVar 2) (aCons (eTup aNil) aNil)))))))) (sRet (eC (.bool false))) sNext)
    (sRet (eOp eqD (eVar 4) (eOp ixD (eVar 2) (eOp addD (eC (.int 1)) (eArgs intD (aCons (eOp eqD (eVar 5) (eC (.str "right"))) aNil)))))))))))
def sem_by_parts : List PyData → Res PyData := bodyD 6 F_by_parts
def F_by_cases : SS :=
  (sSeq (sAsg (eCut (eVar 0) oNone (oSome (eC (.int 2)))) (gT 2 (gsCons (gN 3) (gsCons (gN 4) gsNil))))
    (sSeq (sSet 2 (eOp ixD (eOp ixD (eVar 1) (eC (.int 0))) (eC (.int 1))))
    (sSeq (sIf (DL.tOr (DL.tNot (asT (eCall sem_is_pair (aCons (eVar 2) (aCons (eC (.str "or")) aNil))))) (DL.tNot (asT (eCall sem_is_from (aCons (eOp ixD (eVar 1) (eC (.int 0))) (aCons (eVar 3) (aCons (eVar 2) (aCons (eTup aNil) aNil)))))))) (sRet (eC (.bool false))) sNext)
    (sRet (eAnd (eCall sem_is_from (aCons (eOp ixD (eVar 1) (eC (.int 1))) (aCons (eVar 3) (aCons (eVar 4) (aCons (eTup (aCons (eOp ixD (eVar 2) (eC (.int 1))) aNil)) aNil))))) (eCall sem_is_from (aCons (eOp ixD (eVar 1) (eC (.int 2))) (aCons (eVar 3) (aCons (eVar 4) (aCons (eTup (aCons (eOp ixD (eVar 2) (eC (.int 2))) aNil)) aNil))))))))))
def sem_by_cases : List PyData → Res PyData := bodyD 5 F_by_cases
def F_by_then : SS :=
  (sSeq (sAsg (eCut (eVar 0) oNone (oSome (eC (.int 3)))) (gT 3 (gsCons (gN 3) (gsCons (gN 4) (gsCons (gN 5) gsNil)))))
    (sSeq (sIf (asT (eOp eqD (eVar 5) (eC (.str "suppose")))) (sRet (eAnd (eCall sem_is_pair (aCons (eVar 4) (aCons (eC (.str "then")) aNil))) (eCall sem_is_from (aCons (eOp ixD (eVar 1) (eC (.int 0))) (aCons (eVar 3) (aCons (eOp ixD (eVar 4) (eC (.int 2))) (aCons (eTup (aCons (eOp ixD (eVar 4) (eC (.int 1))) aNil)) aNil))))))) sNext)
    (sSeq (sSet 2 (eOp ixD (eOp ixD (eVar 1) (eC (.int 0))) (eC (.int 1))))
    (sSeq (sIf (DL.tOr (DL.tNot (asT (eCall sem_is_pair (aCons (eVar 2) (aCons (eC (.str "then")) aNil))))) (DL.tNot (asT (eCall sem_is_from (aCons (eOp ixD (eVar 1) (eC (.int 0))) (aCons (eVar 3) (aCons (eVar 2) (aCons (eTup aNil) aNil)))))))) (sRet (eC (.bool false))) sNext)
    (sRet (eAnd (eOp eqD (eVar 4) (eOp ixD (eVar 2) (eC (.int 2)))) (eCall sem_is_from (aCons (eOp ixD (eVar 1) (eC (.int 1))) (aCons (eVar 3) (aCons (eOp ixD (eVar 2) (eC (.int 1))) (aCons (eTup aNil) aNil)))))))))))
def sem_by_then : List PyData → Res PyData := bodyD 6 F_by_then
def F_follows : SS :=
  (sSeq (sSet 2 (eOp ixD (eVar 0) (eVar 1)))
    (sSeq (sIf (DL.tOr (asT (eOp neD (eCall sem_count_of (aCons (eOp ixD (eVar 2) (eC (.int 2))) aNil)) (eArgs lenD (aCons (eOp ixD (eVar 2) (eC (.int 3))) aNil)))) (DL.tNot (asT (eArgs allD (aCons (eLc 4 (sTup (eOp ixD (eVar 2) (eC (.int 3)))) tTrue (eChain leD ltD (eC (.int 0)) (eVar 4) (eVar 1))) aNil))))) (sRet (eC (.bool false))) sNext)
    (sSeq (sSet 3 (eLc 4 (sTup (eOp ixD (eVar 2) (eC (.int 3)))) tTrue (eOp ixD (eVar 0) (eVar 4))))
    (sSeq (sIf (asT (eOp eqD (eOp ixD (eVar 2) (eC (.int 2))) (eC (.str "given")))) (sRet (eOp inD (eOp ixD (eVar 2) (eC (.int 1))) (eOp ixD (eVar 2) (eC (.int 0))))) sNext)
    (sSeq (sIf (asT (eOp eqD (eOp ixD (eVar 2) (eC (.int 2))) (eC (.str "any")))) (sRet (eCall sem_is_from (aCons (eOp ixD (eVar 3) (eC (.int 0))) (aCons (eOp ixD (eVar 2) (eC (.int 0))) (aCons (eTup (aCons (eC (.str "false")) aNil)) (aCons (eTup aNil) aNil)))))) sNext)
    (sSeq (sIf (asT (eOp eqD (eOp ixD (eVar 2) (eC (.int 2))) (eC (.str "cases")))) (sRet (eCall sem_by_cases (aCons (eVar 2) (aCons (eVar 3) aNil)))) sNext)
    (sSeq (sIf (asT (eOp inD (eOp ixD (eVar 2) (eC (.int 2))) (eTup (aCons (eC (.str "suppose")) (aCons (eC (.str "onward")) aNil))))) (sRet (eCall sem_by_then (aCons (eVar 2) (aCons (eVar 3) aNil)))) sNext)
    (sRet (eCall sem_by_parts (aCons (eVar 2) (aCons (eVar 3) aNil)))))))))))
def sem_follows : List PyData → Res PyData := bodyD 5 F_follows
def F_faults : SS :=
  (sRet (eLc 1 (sRng1 (aCons (eArgs lenD (aCons (eVar 0) aNil)) aNil)) (DL.tNot (asT (eCall sem_follows (aCons (eVar 0) (aCons (eVar 1) aNil))))) (eVar 1)))
def sem_faults : List PyData → Res PyData := bodyN 2 F_faults
def F_law_cell_at : SS :=
  (sSeq (sIf (asT (eOp ltD (eVar 1) (eArgs lenD (aCons (eVar 0) aNil)))) (sRet (eOp ixD (eVar 0) (eVar 1))) sNext)
    (sRet (eC (.int 0))))
def sem_law_cell_at : List PyData → Res PyData := bodyD 2 F_law_cell_at
def F_law_name_by : SS :=
  (sSeq (sSet 2 (eC (.str "abcdefghijklmnopqrstuvwxyz")))
    (sSeq (sSet 3 (eOp addD (eC (.int 1)) (eOp modD (eVar 0) (eC (.int 8)))))
    (sSeq (sSet 4 (eM1 joinD (eC (.str "")) (eLc 7 (sRng1 (aCons (eVar 3) aNil)) tTrue (eOp ixD (eVar 2) (eOp modD (eOp addD (eOp addD (eOp divD (eVar 0) (eC (.int 8))) (eOp mulD (eC (.int 5)) (eVar 7))) (eOp mulD (eVar 7) (eVar 7))) (eC (.int 26)))))))
    (sSeq (sSet 5 (eOp modD (eOp divD (eVar 0) (eC (.int 208))) (eVar 3)))
    (sSeq (sSet 6 (eOp ixD (eVar 2) (eOp modD (eOp addD (eM1 indexD (eVar 2) (eOp ixD (eVar 4) (eVar 5))) (eOp mulD (eVar 1) (eOp addD (eC (.int 1)) (eOp modD (eOp divD (eVar 0) (eC (.int 1664))) (eC (.int 8)))))) (eC (.int 26)))))
    (sSeq (sIf (DL.tAnd (asT (eOp eqD (eVar 1) (eC (.int 2)))) (DL.tAnd (asT (eOp eqD (eOp modD (eOp divD (eVar 0) (eC (.int 13312))) (eC (.int 2))) (eC (.int 1)))) (asT (eOp ltD (eVar 3) (eC (.int 8)))))) (sRet (eOp addD (eVar 4) (eVar 6))) sNext)
    (sRet (eOp addD (eOp addD (eCut (eVar 4) oNone (oSome (eVar 5))) (eVar 6)) (eCut (eVar 4) (oSome (eOp addD (eVar 5) (eC (.int 1)))) oNone)))))))))
def sem_law_name_by : List PyData → Res PyData := bodyD 8 F_law_name_by
def F_law_from : SS :=
  (sRet (eAnd (eOp eqD (eOp ixD (eVar 0) (eC (.int 1))) (eVar 2)) (eArgs allD (aCons (eLc 4 (sTup (eOp ixD (eVar 0) (eC (.int 0)))) tTrue (eOr (eOp inD (eVar 4) (eVar 1)) (eOp inD (eVar 4) (eVar 3)))) aNil))))
def sem_law_from : List PyData → Res PyData := bodyD 5 F_law_from
def F_law_ups_right : SS :=
  (sSeq (sAsg (eCut (eVar 0) oNone (oSome (eC (.int 3)))) (gT 3 (gsCons (gN 3) (gsCons (gN 4) (gsCons (gN 5) gsNil)))))
    (sSeq (sIf (asT (eOp eqD (eVar 5) (eC (.str "given")))) (sRet (eOp inD (eVar 4) (eVar 3))) sNext)
    (sSeq (sSet 2 (eOp ixD (eOp ixD (eVar 1) (eC (.int 0))) (eC (.int 1))))
    (sSeq (sIf (asT (eOp eqD (eVar 5) (eC (.str "any")))) (sRet (eCall sem_law_from (aCons (eOp ixD (eVar 1) (eC (.int 0))) (aCons (eVar 3) (aCons (eTup (aCons (eC (.str "false")) aNil)) (aCons (eTup aNil) aNil)))))) sNext)
    (sSeq (sIf (asT (eOp eqD (eVar 5) (eC (.str "both")))) (sSeq (sIf (asT (eOp neD (eOp ixD (eVar 4) (eC (.int 0))) (eC (.str "and")))) (sRet (eC (.bool false))) sNext)
    (sRet (eArgs allD (aCons (eLc 7 (sRng1 (aCons (eC (.int 2)) aNil)) tTrue (eCall sem_law_from (aCons (eOp ixD (eVar 1) (eVar 7)) (aCons (eVar 3) (aCons (eOp ixD (eVar 4) (eOp addD (eC (.int 1)) (eVar 7))) (aCons (eTup aNil) aNil)))))) aNil)))) sNext)
    (sSeq (sIf (asT (eOp inD (eVar 5) (eLst (aCons (eC (.str "one")) (aCons (eC (.str "other")) aNil))))) (sSeq (sSet 6 (eOp addD (eC (.int 1)) (eArgs intD (aCons (eOp eqD (eVar 5) (eC (.str "other"))) aNil))))
    (sRet (eAnd (eOp eqD (eOp ixD (eVar 4) (eC (.int 0))) (eC (.str "or"))) (eCall sem_law_from (aCons (eOp ixD (eVar 1) (eC (.int 0))) (aCons (eVar 3) (aCons (eOp ixD (eVar 4) (eVar 6)) (aCons (eTup aNil) aNil)))))))) sNext)
    (sSeq (sIf (asT (eOp eqD (eVar 5) (eC (.str "suppose")))) (sRet (eAnd (eOp eqD (eOp ixD (eVar 4) (eC (.int 0))) (eC (.str "then"))) (eCall sem_law_from (aCons (eOp ixD (eVar 1) (eC (.int 0))) (aCons (eVar 3) (aCons (eOp ixD (eVar 4) (eC (.int 2))) (aCons (eLst (aCons (eOp ixD (eVar 4) (eC (.int 1))) aNil)) aNil))))))) sNext)
    (sSeq (sIf (DL.tNot (asT (eCall sem_law_from (aCons (eOp ixD (eVar 1) (eC (.int 0))) (aCons (eVar 3) (aCons (eVar 2) (aCons (eTup aNil) aNil))))))) (sRet (eC (.bool false))) sNext)
    (sSeq (sIf (asT (eOp inD (eVar 5) (eLst (aCons (eC (.str "left")) (aCons (eC (.str "right")) aNil))))) (sRet (eAnd (eOp eqD (eOp ixD (eVar 2) (eC (.int 0))) (eC (.str "and"))) (eOp eqD (eVar 4) (eOp ixD (eVar 2) (eOp addD (eC (.int 1)) (eArgs intD (aCons (eOp eqD (eVar 5) (eC (.str "right"))) aNil))))))) sNext)
    (sSeq (sIf (asT (eOp eqD (eVar 5) (eC (.str "onward")))) (sSeq (sIf (DL.tOr (asT (eOp neD (eOp ixD (eVar 2) (eC (.int 0))) (eC (.str "then")))) (asT (eOp neD (eVar 4) (eOp ixD (eVar 2) (eC (.int 2)))))) (sRet (eC (.bool false))) sNext)
    (sRet (eCall sem_law_from (aCons (eOp ixD (eVar 1) (eC (.int 1))) (aCons (eVar 3) (aCons (eOp ixD (eVar 2) (eC (.int 1))) (aCons (eTup aNil) aNil))))))) sNext)
    (sSeq (sIf (asT (eOp neD (eOp ixD (eVar 2) (eC (.int 0))) (eC (.str "or")))) (sRet (eC (.bool false))) sNext)
    (sRet (eArgs allD (aCons (eLc 7 (sRng2 (aCons (eC (.int 1)) (aCons (eC (.int 3)) aNil))) tTrue (eCall sem_law_from (aCons (eOp ixD (eVar 1) (eVar 7)) (aCons (eVar 3) (aCons (eVar 4) (aCons (eLst (aCons (eOp ixD (eVar 2) (eVar 7)) aNil)) aNil)))))) aNil))))))))))))))
def sem_law_ups_right : List PyData → Res PyData := bodyD 8 F_law_ups_right
def F_law_follows : SS :=
  (sSeq (sPut 2 (.dict (kvD (mergeK (mergeK [] [(Sum.inr "given", V.int 0), (Sum.inr "both", V.int 2), (Sum.inr "left", V.int 1), (Sum.inr "right", V.int 1), (Sum.inr "one", V.int 1), (Sum.inr "other", V.int 1)]) (mergeK [] [(Sum.inr "cases", V.int 3), (Sum.inr "suppose", V.int 1), (Sum.inr "onward", V.int 2), (Sum.inr "any", V.int 1)])))))
    (sSeq (sSet 3 (eOp ixD (eVar 0) (eVar 1)))
    (sSeq (sIf (asT (eOp neD (eGet2 (eVar 2) (eOp ixD (eVar 3) (eC (.int 2))) (eC (.int 99))) (eArgs lenD (aCons (eOp ixD (eVar 3) (eC (.int 3))) aNil)))) (sRet (eC (.bool false))) sNext)
    (sSeq (sIf (DL.tNot (asT (eArgs allD (aCons (eLc 4 (sTup (eOp ixD (eVar 3) (eC (.int 3)))) tTrue (eChain leD ltD (eC (.int 0)) (eVar 4) (eVar 1))) aNil)))) (sRet (eC (.bool false))) sNext)
    (sRet (eCall sem_law_ups_right (aCons (eVar 3) (aCons (eLc 4 (sTup (eOp ixD (eVar 3) (eC (.int 3)))) tTrue (eOp ixD (eVar 0) (eVar 4))) aNil))))))))
def sem_law_follows : List PyData → Res PyData := bodyD 5 F_law_follows
def F_law_part_by : SS :=
  (sSeq (sSet 2 (eTup (aCons (eC (.str "name")) (aCons (eCall sem_law_name_by (aCons (eVar 0) (aCons (eOp modD (eVar 1) (eC (.int 3))) aNil))) aNil))))
    (sSeq (sIf (asT (eOp eqD (eOp modD (eOp divD (eVar 1) (eC (.int 3))) (eC (.int 4))) (eC (.int 0)))) (sRet (eVar 2)) sNext)
    (sSeq (sIf (asT (eOp eqD (eOp modD (eOp divD (eVar 1) (eC (.int 3))) (eC (.int 4))) (eC (.int 1)))) (sRet (eTup (aCons (eC (.str "false")) aNil))) sNext)
    (sSeq (sSet 3 (eOp ixD (eLst (aCons (eTup (aCons (eC (.str "false")) aNil)) (aCons (eTup (aCons (eC (.str "name")) (aCons (eCall sem_law_name_by (aCons (eVar 0) (aCons (eOp modD (eOp divD (eVar 1) (eC (.int 12))) (eC (.int 3))) aNil))) aNil))) (aCons (eTup (aCons (eC (.str "or")) (aCons (eVar 2) (aCons (eTup (aCons (eC (.str "false")) aNil)) aNil)))) aNil)))) (eOp modD (eOp divD (eVar 1) (eC (.int 36))) (eC (.int 3)))))
    (sRet (eTup (aCons (eOp ixD (eLst (aCons (eC (.str "and")) (aCons (eC (.str "or")) (aCons (eC (.str "then")) aNil)))) (eOp modD (eOp divD (eVar 1) (eC (.int 108))) (eC (.int 3)))) (aCons (eVar 2) (aCons (eVar 3) aNil)))))))))
def sem_law_part_by : List PyData → Res PyData := bodyD 4 F_law_part_by
def F_law_added : SS :=
  (sSeq (sAsg (eVar 3) (gT 3 (gsCons (gN 5) (gsCons (gN 6) (gsCons (gN 7) gsNil)))))
    (sSeq (sSet 4 (eArgs lenD (aCons (eVar 0) aNil)))
    (sSeq (sIf (asT (eOp eqD (eVar 1) (eC (.int 0)))) (sRet (eOp addLD (eVar 0) (eLst (aCons (eTup (aCons (eOp addD (eVar 2) (eTup (aCons (eVar 5) aNil))) (aCons (eVar 5) (aCons (eC (.str "given")) (aCons (eTup aNil) aNil))))) aNil)))) sNext)
    (sSeq (sIf (asT (eOp eqD (eVar 1) (eC (.int 1)))) (sRet (eOp addLD (eVar 0) (eLst (aCons (eTup (aCons (eVar 2) (aCons (eVar 5) (aCons (eC (.str "given")) (aCons (eTup aNil) aNil))))) (aCons (eTup (aCons (eVar 2) (aCons (eVar 6) (aCons (eC (.str "given")) (aCons (eTup aNil) aNil))))) (aCons (eTup (aCons (eVar 2) (aCons (eTup (aCons (eC (.str "and")) (aCons (eVar 5) (aCons (eVar 6) aNil)))) (aCons (eC (.str "both")) (aCons (eTup (aCons (eVar 4) (aCons (eOp addD (eVar 4) (eC (.int 1))) aNil))) aNil))))) aNil)))))) sNext)
    (sSeq (sIf (asT (eOp ltD (eVar 1) (eC (.int 4)))) (sSeq (sSet 8 (eOp ixD (eLst (aCons (eC (.str "left")) (aCons (eC (.str "right")) aNil))) (eOp subD (eVar 1) (eC (.int 2)))))
    (sRet (eOp addLD (eVar 0) (eLst (aCons (eTup (aCons (eVar 2) (aCons (eTup (aCons (eC (.str "and")) (aCons (eVar 5) (aCons (eVar 6) aNil)))) (aCons (eC (.str "given")) (aCons (eTup aNil) aNil))))) (aCons (eTup (aCons (eOp addD (eVar 2) (eTup (aCons (eVar 7) aNil))) (aCons (eOp ixD (eLst (aCons (eVar 5) (aCons (eVar 6) aNil))) (eOp subD (eVar 1) (eC (.int 2)))) (aCons (eVar 8) (aCons (eTup (aCons (eVar 4) aNil)) aNil))))) aNil)))))) sNext)
    (sSeq (sIf (asT (eOp ltD (eVar 1) (eC (.int 6)))) (sSeq (sSet 8 (eOp ixD (eLst (aCons (eC (.str "one")) (aCons (eC (.str "other")) aNil))) (eOp subD (eVar 1) (eC (.int 4)))))
    (sRet (eOp addLD (eVar 0) (eLst (aCons (eTup (aCons (eVar 2) (aCons (eOp ixD (eLst (aCons (eVar 5) (aCons (eVar 6) aNil))) (eOp subD (eVar 1) (eC (.int 4)))) (aCons (eC (.str "given")) (aCons (eTup aNil) aNil))))) (aCons (eTup (aCons (eVar 2) (aCons (eTup (aCons (eC (.str "or")) (aCons (eVar 5) (aCons (eVar 6) aNil)))) (aCons (eVar 8) (aCons (eTup (aCons (eVar 4) aNil)) aNil))))) aNil)))))) sNext)
    (sSeq (sIf (asT (eOp eqD (eVar 1) (eC (.int 6)))) (sSeq (sSet 9 (eOp ixD (eLst (aCons (eTup (aCons (eVar 5) aNil)) (aCons (eTup (aCons (eVar 6) aNil)) (aCons (eTup (aCons (eVar 5) aNil)) (aCons (eTup (aCons (eVar 5) (aCons (eVar 6) aNil))) aNil))))) (eOp modD (eVar 4) (eC (.int 4)))))
    (sSeq (sSet 10 (eOp ixD (eLst (aCons (eTup (aCons (eVar 6) aNil)) (aCons (eTup (aCons (eVar 6) aNil)) (aCons (eTup (aCons (eVar 5) aNil)) (aCons (eTup (aCons (eVar 6) (aCons (eVar 5) aNil))) aNil))))) (eOp modD (eVar 4) (eC (.int 4)))))
    (sSeq (sSet 11 (eOp ixD (eLst (aCons (eOp ixD (eVar 9) (eUn negD (eC (.int 1)))) (aCons (eVar 7) aNil))) (eOp modD (eOp divD (eVar 4) (eC (.int 4))) (eC (.int 2)))))
    (sSeq (sTake 12 (eLst (aCons (eTup (aCons (eVar 2) (aCons (eTup (aCons (eC (.str "or")) (aCons (eVar 5) (aCons (eVar 6) aNil)))) (aCons (eC (.str "given")) (aCons (eTup aNil) aNil))))) (aCons (eTup (aCons (eOp addD (eVar 2) (eVar 9)) (aCons (eVar 11) (aCons (eC (.str "given")) (aCons (eTup aNil) aNil))))) aNil))))
    (sSeq (sApp 12 (eTup (aCons (eOp addD (eVar 10) (eVar 2)) (aCons (eVar 11) (aCons (eC (.str "given")) (aCons (eTup aNil) aNil))))))
    (sRet (eOp addLD (eOp addD (eVar 0) (eVar 12)) (eLst (aCons (eTup (aCons (eVar 2) (aCons (eVar 11) (aCons (eC (.str "cases")) (aCons (eTup (aCons (eVar 4) (aCons (eOp addD (eVar 4) (eC (.int 1))) (aCons (eOp addD (eVar 4) (eC (.int 2))) aNil)))) aNil))))) aNil))))))))) sNext)
    (sSeq (sIf (asT (eOp eqD (eVar 1) (eC (.int 7)))) (sSeq (sSet 12 (eOp ixD (eLst (aCons (eTup (aCons (eVar 5) aNil)) (aCons (eTup (aCons (eVar 6) aNil)) (aCons (eTup (aCons (eVar 5) (aCons (eVar 6) aNil))) (aCons (eTup (aCons (eVar 6) (aCons (eVar 5) aNil))) aNil))))) (eOp modD (eVar 4) (eC (.int 4)))))
    (sRet (eOp addLD (eVar 0) (eLst (aCons (eTup (aCons (eOp addD (eVar 12) (eVar 2)) (aCons (eVar 6) (aCons (eC (.str "given")) (aCons (eTup aNil) aNil))))) (aCons (eTup (aCons (eVar 2) (aCons (eTup (aCons (eC (.str "then")) (aCons (eVar 5) (aCons (eVar 6) aNil)))) (aCons (eC (.str "suppose")) (aCons (eTup (aCons (eVar 4) aNil)) aNil))))) aNil)))))) sNext)
    (sSeq (sIf (asT (eOp eqD (eVar 1) (eC (.int 8)))) (sSeq (sTake 12 (eLst (aCons (eTup (aCons (eVar 2) (aCons (eTup (aCons (eC (.str "then")) (aCons (eVar 5) (aCons (eVar 6) aNil)))) (aCons (eC (.str "given")) (aCons (eTup aNil) aNil))))) (aCons (eTup (aCons (eVar 2) (aCons (eVar 5) (aCons (eC (.str "given")) (aCons (eTup aNil) aNil))))) aNil))))
    (sRet (eOp addLD (eOp addD (eVar 0) (eVar 12)) (eLst (aCons (eTup (aCons (eVar 2) (aCons (eVar 6) (aCons (eC (.str "onward")) (aCons (eTup (aCons (eVar 4) (aCons (eOp addD (eVar 4) (eC (.int 1))) aNil))) aNil))))) aNil))))) sNext)
    (sRet (eOp addLD (eVar 0) (eLst (aCons (eTup (aCons (eVar 2) (aCons (eTup (aCons (eC (.str "false")) aNil)) (aCons (eC (.str "given")) (aCons (eTup aNil) aNil))))) (aCons (eTup (aCons (eVar 2) (aCons (eVar 5) (aCons (eC (.str "any")) (aCons (eTup (aCons (eVar 4) aNil)) aNil))))) aNil))))))))))))))
def sem_law_added : List PyData → Res PyData := bodyN 13 F_law_added
def F_law_wrong_ups : SS :=
  (sSeq (sIf (DL.tOr (asT (eOp eqD (eArgs lenD (aCons (eVar 0) aNil)) (eC (.int 0)))) (asT (eOp eqD (eOp modD (eVar 1) (eC (.int 3))) (eC (.int 0))))) (sRet (eOp addD (eVar 0) (eTup (aCons (eOp modD (eOp divD (eVar 1) (eC (.int 3))) (eOp addD (eVar 2) (eC (.int 1)))) aNil)))) sNext)
    (sSeq (sSet 4 (eOp modD (eOp divD (eVar 1) (eC (.int 3))) (eArgs lenD (aCons (eVar 0) aNil))))
    (sSeq (sIf (asT (eOp eqD (eOp modD (eVar 1) (eC (.int 3))) (eC (.int 1)))) (sRet (eOp addD (eCut (eVar 0) oNone (oSome (eVar 4))) (eCut (eVar 0) (oSome (eOp addD (eVar 4) (eC (.int 1)))) oNone))) sNext)
    (sSeq (sSet 5 (eLst (aCons (eVar 2) (aCons (eOp addD (eVar 2) (eC (.int 1))) (aCons (eOp subD (eOp ixD (eVar 0) (eVar 4)) (eVar 3)) (aCons (eOp subD (eOp ixD (eVar 0) (eVar 4)) (eC (.int 1))) (aCons (eOp modD (eOp divD (eVar 1) (eC (.int 9))) (eOp addD (eVar 2) (eC (.int 1)))) (aCons (eOp powD (eC (.int 10)) (eC (.int 12))) (aCons (eVar 3) (aCons (eUn negD (eC (.int 1))) aNil))))))))))
    (sRet (eOp addD (eOp addD (eCut (eVar 0) oNone (oSome (eVar 4))) (eTup (aCons (eOp ixD (eVar 5) (eOp modD (eOp divD (eVar 1) (eC (.int 9))) (eC (.int 8)))) aNil))) (eCut (eVar 0) (oSome (eOp addD (eVar 4) (eC (.int 1)))) oNone)))))))
def sem_law_wrong_ups : List PyData → Res PyData := bodyD 6 F_law_wrong_ups
def F_law_spoilt : SS :=
  (sSeq (sSet 5 (eOp modD (eVar 1) (eC (.int 9))))
    (sSeq (sSet 6 (eOp divD (eVar 1) (eC (.int 9))))
    (sSeq (sAsg (eVar 0) (gT 4 (gsCons (gN 7) (gsCons (gN 8) (gsCons (gN 9) (gsCons (gN 10) gsNil))))))
    (sSeq (sIf (DL.tAnd (asT (eOp eqD (eVar 5) (eC (.int 0)))) (asT (eOp gtD (eArgs lenD (aCons (eVar 7) aNil)) (eC (.int 0))))) (sRet (eTup (aCons (eOp addD (eCut (eVar 7) oNone (oSome (eOp modD (eVar 6) (eArgs lenD (aCons (eVar 7) aNil))))) (eCut (eVar 7) (oSome (eOp addD (eOp modD (eVar 6) (eArgs lenD (aCons (eVar 7) aNil))) (eC (.int 1)))) oNone)) (aCons (eVar 8) (aCons (eVar 9) (aCons (eVar 10) aNil)))))) sNext)
    (sSeq (sIf (asT (eOp eqD (eVar 5) (eC (.int 1)))) (sRet (eTup (aCons (eVar 7) (aCons (eVar 4) (aCons (eVar 9) (aCons (eVar 10) aNil)))))) sNext)
    (sSeq (sIf (asT (eOp eqD (eVar 5) (eC (.int 2)))) (sSeq (sSet 11 (eLst (aCons (eC (.str "given")) (aCons (eC (.str "both")) (aCons (eC (.str "left")) (aCons (eC (.str "right")) (aCons (eC (.str "one")) (aCons (eC (.str "other")) (aCons (eC (.str "cases")) (aCons (eC (.str "suppose")) (aCons (eC (.str "onward")) (aCons (eC (.str "any")) (aCons (eC (.str "")) (aCons (eC (.str "Given")) aNil))))))))))))))
    (sSeq (sSet 11 (eOp addD (eVar 11) (eLst (aCons (eOp addD (eVar 9) (eC (.str " "))) (aCons (eOp addD (eC (.str " ")) (eVar 9)) (aCons (eCut (eVar 9) oNone (oSome (eUn negD (eC (.int 1))))) (aCons (eOp addD (eVar 9) (eC (.str "s"))) (aCons (eM0 upperD (eVar 9)) (aCons (eCut (eVar 9) (oSome (eC (.int 1))) oNone) aNil)))))))))
    (sRet (eTup (aCons (eVar 7) (aCons (eVar 8) (aCons (eOp ixD (eVar 11) (eOp modD (eVar 6) (eC (.int 18)))) (aCons (eVar 10) aNil)))))))) sNext)
    (sSeq (sIf (asT (eOp ltD (eVar 5) (eC (.int 5)))) (sRet (eTup (aCons (eVar 7) (aCons (eVar 8) (aCons (eVar 9) (aCons (eCall sem_law_wrong_ups (aCons (eVar 10) (aCons (eVar 6) (aCons (eVar 2) (aCons (eVar 3) aNil))))) aNil)))))) sNext)
    (sSeq (sIf (asT (eOp eqD (eVar 5) (eC (.int 5)))) (sSeq (sPut 12 (.dict (kvD (mergeK [] [(Sum.inr "left", V.str "right"), (Sum.inr "right", V.str "left"), (Sum.inr "one", V.str "other"), (Sum.inr "other", V.str "one"), (Sum.inr "onward", V.str "both"), (Sum.inr "both", V.str "onward")]))))
    (sRet (eTup (aCons (eVar 7) (aCons (eVar 8) (aCons (eGet2 (eVar 12) (eVar 9) (eC (.str "any"))) (aCons (eVar 10) aNil))))))) sNext)
    (sSeq (sIf (asT (eOp eqD (eVar 5) (eC (.int 6)))) (sRet (eTup (aCons (eVar 7) (aCons (eVar 8) (aCons (eVar 9) (aCons (eUn revD (eVar 10)) aNil)))))) sNext)
    (sSeq (sIf (asT (eOp eqD (eVar 5) (eC (.int 7)))) (sRet (eTup (aCons (eOp addD (eVar 7) (eTup (aCons (eVar 4) aNil))) (aCons (eVar 8) (aCons (eVar 9) (aCons (eVar 10) aNil)))))) sNext)
    (sSeq (sIf (asT (eOp eqD (eArgs lenD (aCons (eVar 8) aNil)) (eC (.int 3)))) (sRet (eTup (aCons (eVar 7) (aCons (eTup (aCons (eOp ixD (eLst (aCons (eC (.str "and")) (aCons (eC (.str "or")) (aCons (eC (.str "then")) aNil)))) (eOp modD (eVar 6) (eC (.int 3)))) (aCons (eOp ixD (eVar 8) (eC (.int 2))) (aCons (eOp ixD (eVar 8) (eC (.int 1))) aNil)))) (aCons (eVar 9) (aCons (eVar 10) aNil)))))) sNext)
    (sRet (eTup (aCons (eTup aNil) (aCons (eVar 8) (aCons (eVar 9) (aCons (eVar 10) aNil)))))))))))))))))
def sem_law_spoilt : List PyData → Res PyData := bodyD 13 F_law_spoilt
def F_law_all_spoilt : SS :=
  (sSeq (sFor (sRng1 (aCons (eOp modD (eCall sem_law_cell_at (aCons (eVar 1) (aCons (eC (.int 1)) aNil))) (eC (.int 5))) aNil)) (gF 3) (noBk (sSeq (sSetF 4 (eOp modD (eOp divD (eCall sem_law_cell_at (aCons (eVar 1) (aCons (eC (.int 2)) aNil))) (eOp ixD (eLst (aCons (eC (.int 1)) (aCons (eC (.int 7)) (aCons (eC (.int 49)) (aCons (eC (.int 343)) aNil))))) (eVar 3))) (eArgs lenD (aCons (eVar 0) aNil))))
    (sSeq (sSetF 5 (eCall sem_law_part_by (aCons (eVar 2) (aCons (eOp addD (eOp divD (eCall sem_law_cell_at (aCons (eVar 1) (aCons (eC (.int 1)) aNil))) (eC (.int 5))) (eVar 3)) aNil))))
    (sSeq (sIf (DL.tAnd (asT (eOp eqD (eOp modD (eVar 3) (eC (.int 2))) (eC (.int 1)))) (asT (eOp gtD (eArgs lenD (aCons (eOp ixD (eOp ixD (eVar 0) (eVar 4)) (eC (.int 3))) aNil)) (eC (.int 0))))) (sSetF 4 (eArgs max2D (aCons (eC (.int 0)) (aCons (eArgs min2D (aCons (eOp subD (eArgs lenD (aCons (eVar 0) aNil)) (eC (.int 1))) (aCons (eOp ixD (eOp ixD (eOp ixD (eVar 0) (eVar 4)) (eC (.int 3))) (eC (.int 0))) aNil))) aNil)))) sNext)
    (sPutI 0 (eVar 4) (eCall sem_law_spoilt (aCons (eOp ixD (eVar 0) (eVar 4)) (aCons (eOp divD (eCall sem_law_cell_at (aCons (eVar 1) (aCons (eC (.int 3)) aNil))) (eOp ixD (eLst (aCons (eC (.int 1)) (aCons (eC (.int 11)) (aCons (eC (.int 121)) (aCons (eC (.int 1331)) aNil))))) (eVar 3))) (aCons (eVar 4) (aCons (eArgs lenD (aCons (eVar 0) aNil)) (aCons (eVar 5) aNil))))))))))))
    (sRet (eVar 0)))
def sem_law_all_spoilt : List PyData → Res PyData := bodyN 6 F_law_all_spoilt
def F_law_rows_by : SS :=
  (sSeq (sTake 2 (eLst aNil))
    (sSeq (sFor (sRng1 (aCons (eArgs min2D (aCons (eC (.int 10)) (aCons (eOp divD (eArgs lenD (aCons (eVar 0) aNil)) (eC (.int 2))) aNil))) aNil)) (gF 3) (noBk (sSeq (sSetF 4 (eOp ixD (eVar 0) (eOp mulD (eC (.int 2)) (eVar 3))))
    (sSeq (sSetF 5 (eArgs tupleD (aCons (eLc 8 (sRng1 (aCons (eC (.int 3)) aNil)) tTrue (eCall sem_law_part_by (aCons (eVar 1) (aCons (eOp divD (eOp divD (eVar 4) (eC (.int 10))) (eOp ixD (eLst (aCons (eC (.int 1)) (aCons (eC (.int 400)) (aCons (eC (.int 160000)) aNil)))) (eVar 8))) aNil)))) aNil)))
    (sSeq (sSetF 6 (eOp ixD (eVar 0) (eOp addD (eOp mulD (eC (.int 2)) (eVar 3)) (eC (.int 1)))))
    (sSeq (sSetF 7 (eOp addD (eOp addD (eOp mulTD (eTup (aCons (eOp ixD (eVar 5) (eOp modD (eVar 6) (eC (.int 3)))) aNil)) (eOp modD (eOp divD (eVar 6) (eC (.int 3))) (eC (.int 2)))) (eOp mulTD (eTup (aCons (eTup (aCons (eC (.str "false")) aNil)) aNil)) (eOp modD (eOp divD (eVar 6) (eC (.int 6))) (eC (.int 2))))) (eTup (aCons (eOp ixD (eVar 5) (eOp modD (eOp divD (eVar 6) (eC (.int 12))) (eC (.int 3)))) aNil))))
    (sTake 2 (eCall sem_law_added (aCons (eVar 2) (aCons (eOp modD (eVar 4) (eC (.int 10))) (aCons (eVar 7) (aCons (eVar 5) aNil))))))))))))
    (sRet (eVar 2))))
def sem_law_rows_by : List PyData → Res PyData := bodyN 9 F_law_rows_by
def F_law : SS :=
  (sSeq (sSet 1 (eCall sem_law_cell_at (aCons (eVar 0) (aCons (eC (.int 0)) aNil))))
    (noBk (sSeq (sTake 2 (eCall sem_law_rows_by (aCons (eCut (eVar 0) (oSome (eC (.int 4))) (oSome (eC (.int 24)))) (aCons (eVar 1) aNil))))
    (sSeq (sIf (asT (eOp gtD (eArgs lenD (aCons (eVar 2) aNil)) (eC (.int 0)))) (sCallM 2 0 1 sem_law_all_spoilt) sNext)
    (sSeq (sSetN 3 (eArgs listD (aCons (eVar 2) aNil)))
    (sSeq (sTake 4 (eLst aNil))
    (sSeq (sFor (sRng1 (aCons (eArgs lenD (aCons (eVar 2) aNil)) aNil)) (gF 5) (noBk (sSeq (sSetF 6 (eCall sem_follows (aCons (eVar 2) (aCons (eVar 5) aNil))))
    (sSeq (sIf (DL.tOr (DL.tNot (asT (eUn (isiD "bool") (eVar 6)))) (asT (eOp neD (eVar 6) (eCall sem_law_follows (aCons (eVar 2) (aCons (eVar 5) aNil)))))) (sRet (eC (.bool false))) sNext)
    (sIf (DL.tNot (asT (eVar 6))) (sApp 4 (eVar 5)) sNext)))))
    (sSeq (sTake 6 (eCall sem_faults (aCons (eVar 2) aNil)))
    (sSeq (sIf (DL.tOr (DL.tNot (asT (eUn (isiD "list") (eVar 6)))) (DL.tOr (asT (eOp neD (eVar 6) (eVar 4))) (asT (eOp neD (eVar 2) (eVar 3))))) (sRet (eC (.bool false))) sNext)
    (sSeq (sApp 6 (eC (.int 5)))
    (sRet (eAnd (eOp eqD (eCall sem_faults (aCons (eVar 2) aNil)) (eVar 4)) (eOp eqD (eCall sem_faults (aCons (eCut (eVar 2) oNone (oSome (eC (.int 1)))) aNil)) (eLc 5 (sList (eVar 4)) (asT (eOp ltD (eVar 5) (eC (.int 1)))) (eVar 5)))))))))))))))
def sem_law : List PyData → Res PyData := bodyD 7 F_law
end My

set_option maxRecDepth 100000
set_option maxHeartbeats 4000000
namespace My
open PySem L2 DL PyProof.Rows
/-! ### names -/
def NameOk (w : Str) : Prop := 1 ≤ w.length ∧ w.length ≤ 8 ∧ ∀ c ∈ w.cps.toList, 97 ≤ c ∧ c ≤ 122
theorem len_list (z : Str) : z.length = z.cps.toList.length := by simp [Str.length]
theorem letters_list : ("abcdefghijklmnopqrstuvwxyz" : Str).cps.toList = (List.range 26).map (97 + ·) := by decide +kernel
theorem letters_len : ("abcdefghijklmnopqrstuvwxyz" : Str).length = 26 := by decide +kernel
theorem ix_letters {i : Int} (h0 : 0 ≤ i) (h1 : i < 26) : ixD (.str "abcdefghijklmnopqrstuvwxyz") (.int i) = some (.str ⟨#[97 + i.toNat]⟩) := by
  have h : ∀ n : Nat, n < 26 → atI ("abcdefghijklmnopqrstuvwxyz" : Str).cps.toList (n : Int) = some (97 + n) := by decide +kernel
  have q := h i.toNat (by omega)
  rw [Int.toNat_of_nonneg h0] at q
  simp only [ixD, letters_len, q]
  rfl
theorem index_letters {c : Nat} (h0 : 97 ≤ c) (h1 : c ≤ 122) : indexD "abcdefghijklmnopqrstuvwxyz" (.str ⟨#[c]⟩) = some (.int ((c : Int) - 97)) := by
  have h : ∀ n : Nat, n < 26 → (Builtin.Str.occurrences "abcdefghijklmnopqrstuvwxyz" ⟨#[97 + n]⟩ 0 26 1).head? = some n := by decide +kernel
  have q := h (c - 97) (by omega)
  rw [show 97 + (c - 97) = c by omega] at q
  simp only [indexD, letters_len, q, Option.map_some]
  congr 2
  omega
theorem joinL_nil : ∀ xs : List (List Nat), TL.joinL [] xs = xs.flatten
  | [] => rfl
  | [a] => by simp [TL.joinL]
  | a :: b :: r => by
    have ih := joinL_nil (b :: r)
    simp only [TL.joinL, List.flatten_cons] at ih ⊢
    rw [ih]
    simp
theorem join_signs (cs : List Nat) : Str.join "" (cs.map fun c => (⟨#[c]⟩ : Str)) = ⟨cs.toArray⟩ := by
  refine TL.ext_tl ?_
  rw [TL.tl_join, List.map_map]
  have e : TL.tl "" = [] := by decide +kernel
  rw [e, joinL_nil, TL.tl_mk]
  induction cs with
  | nil => rfl
  | cons c cs ih => simp only [List.map_cons, List.flatten_cons, ih]; rfl
theorem strsOf_strs : ∀ (xs : List Str), strsOf (xs.map PyData.str) = some xs
  | [] => rfl
  | x :: xs => by simp [strsOf, strsOf_strs xs]
theorem joinD_signs (cs : List Nat) (h : cs.length ≤ big) : joinD "" (.list (cs.map fun c => .str ⟨#[c]⟩)) = some (.str ⟨cs.toArray⟩) := by
  have e : (cs.map fun c => PyData.str ⟨#[c]⟩) = (cs.map fun c => (⟨#[c]⟩ : Str)).map PyData.str := by rw [List.map_map]; rfl
  have l : ((cs.map fun c => (⟨#[c]⟩ : Str)).map (·.length)).sum + (cs.map fun c => (⟨#[c]⟩ : Str)).length * ("" : Str).length ≤ big := by
    have e2 : ("" : Str).length = 0 := by decide +kernel
    have e3 : ((cs.map fun c => (⟨#[c]⟩ : Str)).map (·.length)).sum = cs.length := by
      rw [List.map_map]
      induction cs with
      | nil => rfl
      | cons c cs ih =>
        have := ih (by simp at h; omega) (by rw [List.map_map]; rfl)
        simp only [List.map_cons, List.sum_cons, List.length_cons, this]
        show 1 + _ = _
        omega
    rw [e2, e3]
    omega
  simp only [joinD, e, strsOf_strs, Option.bind_some]
  rw [if_pos l, join_signs]
theorem ix_str {z : Str} {i : Int} (h0 : 0 ≤ i) (h1 : i < z.length) (hz : z.length ≤ big) : ∃ c, ixD (.str z) (.int i) = some (.str ⟨#[c]⟩) ∧ c ∈ z.cps.toList := by
  have hl := len_list z
  have hi : i.toNat < z.cps.toList.length := by omega
  have q : atI z.cps.toList ((i.toNat : Nat) : Int) = some z.cps.toList[i.toNat] := atI_nat (List.getElem?_eq_getElem hi)
  rw [Int.toNat_of_nonneg h0] at q
  refine ⟨_, ?_, List.getElem_mem hi⟩
  simp only [ixD, if_pos hz, q]
  rfl
theorem cutS_toList (z : Str) (lo hi : Option Int) : (cutS z lo hi).cps.toList = cutP z.cps.toList lo hi := by
  simp [cutS, cutP, len_list]
theorem sIx_pos {n d : Nat} {i : Int} (h : 0 ≤ i) : HT.sIx n d (some i) = min i.toNat n := by
  have q := HT.sIx_nat n d i.toNat
  rw [Int.toNat_of_nonneg h] at q
  exact q
def nameSign (s : Int) (d : PyData) : Nat := match d with
  | .int j => 97 + ((s / 8 + 5 * j + j * j) % 26).toNat
  | _ => 0
theorem upTo_signs (s : Int) (n : Nat) : (upTo 0 n).map (fun d => PyData.str ⟨#[nameSign s d]⟩) = ((upTo 0 n).map (nameSign s)).map fun c => PyData.str ⟨#[c]⟩ := by
  rw [List.map_map]; rfl
theorem addD_str {a b : Str} (h : a.length + b.length ≤ big) : addD (.str a) (.str b) = some (.str (a ++ b)) := if_pos h
theorem cutD_str {z : Str} {lo hi : Option Int} (h : z.length ≤ big) : cutD lo hi (.str z) = some (.str (cutS z lo hi)) := if_pos h
theorem app_list (a b : Str) : (a ++ b).cps.toList = a.cps.toList ++ b.cps.toList := TL.tl_append a b
theorem app_len (a b : Str) : (a ++ b).length = a.length + b.length := by
  rw [len_list, len_list, len_list, app_list, List.length_append]
@[simp] theorem sign_len (c : Nat) : (⟨#[c]⟩ : Str).length = 1 := rfl
theorem name_by (s k : Int) : ∃ w, sem_law_name_by [.int s, .int k] = .ok (.str w) ∧ NameOk w := by
  have h1 : 1 ≤ 1 + s % 8 ∧ 1 + s % 8 ≤ 8 := by omega
  have hbig : big = 1000000 := rfl
  have hb1 : -(big : Int) ≤ 1 + s % 8 ∧ 1 + s % 8 ≤ (big : Int) := by simp only [big]; omega
  have hb2 : (1 + s % 8).toNat ≤ big := by simp only [big]; omega
  simp only [sem_law_name_by, bodyD, F_law_name_by, startD]
  generalize hcs : (upTo 0 (1 + s % 8).toNat).map (nameSign s) = cs
  have hcl : cs.length = (1 + s % 8).toNat := by rw [← hcs, List.length_map, upTo_len]
  have hcr : ∀ c ∈ cs, 97 ≤ c ∧ c ≤ 122 := by
    intro c hc
    rw [← hcs] at hc
    obtain ⟨d, hd, rfl⟩ := List.mem_map.mp hc
    obtain ⟨j, _, rfl⟩ := mem_upTo.mp hd
    simp only [nameSign]
    omega
  have hjoin := joinD_signs cs (by omega)
  simp [eLc_ap, hb1, hb2, upTo_len]
  rw [lcGo_map (v := fun d => .str ⟨#[nameSign s d]⟩) (by
    intro d hd
    obtain ⟨j, hj, rfl⟩ := mem_upTo.mp hd
    have hj1 : -1000000 ≤ (0 : Int) + j ∧ (0 : Int) + j ≤ 1000000 := by omega
    have m1 : mulD (.int 5) (.int (0 + (j : Int))) = some (.int (5 * (0 + (j : Int)))) := mulD_l (small64_of (by decide) (by decide))
    have m2 : mulD (.int (0 + (j : Int))) (.int (0 + (j : Int))) = some (.int ((0 + (j : Int)) * (0 + (j : Int)))) := mulD_l (small64_of hj1.1 hj1.2)
    refine ⟨rfl, ?_, rfl⟩
    simp only [Int.zero_add] at m1 m2
    simp [m1, m2]
    rw [ix_letters (by omega) (by omega)]
    simp [nameSign]), upTo_signs, hcs]
  simp only [Res.calm, Res.ok_bind, hjoin, Res.of_some]
  generalize hz : (⟨cs.toArray⟩ : Str) = z
  have hzl : z.cps.toList = cs := by rw [← hz]
  have hlen : z.length = (1 + s % 8).toNat := by rw [len_list, hzl, hcl]
  generalize hsize : 1 + s % 8 = size at *
  generalize hspot : s / 208 % size = spot
  have hsp : 0 ≤ spot ∧ spot < size := by
    rw [← hspot]
    exact ⟨Int.emod_nonneg _ (by omega), Int.emod_lt_of_pos _ (by omega)⟩
  obtain ⟨c, hc1, hc2⟩ := ix_str (z := z) (i := spot) hsp.1 (by omega) (by omega)
  have hc3 := hcr c (by rw [← hzl]; exact hc2)
  have hidx := index_letters hc3.1 hc3.2
  have m3 : mulD (.int k) (.int (1 + s / 1664 % 8)) = some (.int (k * (1 + s / 1664 % 8))) := mulD_r (small64_of (by omega) (by omega))
  generalize hj : ((c : Int) - 97 + k * (1 + s / 1664 % 8)) % 26 = j
  have hjr : 0 ≤ j ∧ j < 26 := by rw [← hj]; omega
  have hsg := ix_letters hjr.1 hjr.2
  generalize hg : (⟨#[97 + j.toNat]⟩ : Str) = g at hsg
  have hgl : g.length = 1 := by rw [← hg]; rfl
  have hgs : g.cps.toList = [97 + j.toNat] := by rw [← hg]
  have hp : (0 : Int) < size := by omega
  have hk1 : addD (.str z) (.str g) = some (.str (z ++ g)) := addD_str (by omega)
  have hk2 : cutD none (some spot) (.str z) = some (.str (cutS z none (some spot))) := cutD_str (by omega)
  have hk3 : cutD (some (spot + 1)) none (.str z) = some (.str (cutS z (some (spot + 1)) none)) := cutD_str (by omega)
  have hl1 : (cutS z none (some spot)).cps.toList = cs.take spot.toNat := by
    rw [cutS_toList, hzl]
    simp only [cutP, HT.sIx_none, List.drop_zero, Nat.sub_zero]
    rw [sIx_pos hsp.1]
    rw [Nat.min_eq_left (by omega)]
  have hl2 : (cutS z (some (spot + 1)) none).cps.toList = cs.drop (spot.toNat + 1) := by
    rw [cutS_toList, hzl]
    simp only [cutP, HT.sIx_none]
    rw [sIx_pos (by omega), Nat.min_eq_left (by omega), show (spot + 1).toNat = spot.toNat + 1 by omega]
    exact List.take_of_length_le (by rw [List.length_drop]; omega)
  have hL1 : (cutS z none (some spot)).length = spot.toNat := by rw [len_list, hl1, List.length_take]; omega
  have hL2 : (cutS z (some (spot + 1)) none).length = cs.length - (spot.toNat + 1) := by rw [len_list, hl2, List.length_drop]
  have hk4 : addD (.str (cutS z none (some spot))) (.str g) = some (.str (cutS z none (some spot) ++ g)) := addD_str (by omega)
  have hk5 : addD (.str (cutS z none (some spot) ++ g)) (.str (cutS z (some (spot + 1)) none)) = some (.str (cutS z none (some spot) ++ g ++ cutS z (some (spot + 1)) none)) := addD_str (by rw [app_len]; omega)
  simp [hp, hspot, hc1, hidx, m3, hj, hsg, hk1, hk2, hk3, hk4, hk5]
  have ok1 : size < 8 → NameOk (z ++ g) := fun h => by
    refine ⟨by rw [app_len]; omega, by rw [app_len]; omega, fun x hx => ?_⟩
    rw [app_list, hzl, hgs] at hx
    rcases List.mem_append.mp hx with hx | hx
    · exact hcr x hx
    · rw [List.mem_singleton] at hx
      omega
  have ok2 : NameOk (cutS z none (some spot) ++ g ++ cutS z (some (spot + 1)) none) := by
    refine ⟨by rw [app_len, app_len]; omega, by rw [app_len, app_len]; omega, fun x hx => ?_⟩
    rw [app_list, app_list, hl1, hl2, hgs] at hx
    rcases List.mem_append.mp hx with hx | hx
    · rcases List.mem_append.mp hx with hx | hx
      · exact hcr x (List.mem_of_mem_take hx)
      · rw [List.mem_singleton] at hx
        omega
    · exact hcr x (List.mem_of_mem_drop hx)
  split
  · split
    · split
      · rename_i h
        exact ⟨_, rfl, ok1 h⟩
      · exact ⟨_, rfl, ok2⟩
    · exact ⟨_, rfl, ok2⟩
  · exact ⟨_, rfl, ok2⟩

/-! ### statements -/
inductive W3 where
  | an | orr | th
def W3.word : W3 → Str
  | .an => "and"
  | .orr => "or"
  | .th => "then"
inductive Stm where
  | nm (w : Str)
  | fl
  | bin (o : W3) (a b : Stm)
namespace Stm
def enc : Stm → PyData
  | nm w => .tuple [.str "name", .str w]
  | fl => .tuple [.str "false"]
  | bin o a b => .tuple [.str o.word, enc a, enc b]
def depth : Stm → Nat
  | nm _ => 1
  | fl => 1
  | bin _ a b => max a.depth b.depth + 1
def Ok : Stm → Prop
  | nm w => NameOk w
  | fl => True
  | bin _ a b => a.Ok ∧ b.Ok
theorem depth_pos : ∀ s : Stm, 1 ≤ s.depth
  | nm _ => Nat.le_refl _
  | fl => Nat.le_refl _
  | bin _ a b => by simp only [depth]; omega
end Stm
/-! the script's cells -/
theorem cell_at (ns : List Int) (k : Nat) (hk : ns.length ≤ 63) : sem_law_cell_at [.list (ns.map PyData.int), .int k] = .ok (.int (ns.getD k 0)) := by
  simp [sem_law_cell_at, bodyD, F_law_cell_at, startD]
  by_cases h : k < ns.length
  · have q : atI (ns.map PyData.int) (k : Int) = some (.int ns[k]) := atI_nat (by rw [List.getElem?_map, List.getElem?_eq_getElem h]; rfl)
    simp [h, q, List.getElem?_eq_getElem h]
  · simp [h, List.getElem?_eq_none (Nat.le_of_not_lt h)]
@[simp] theorem big_ge {n : Nat} (h : n ≤ 1000) : n ≤ big := Nat.le_trans h (by decide)
end My

set_option maxRecDepth 100000
set_option maxHeartbeats 4000000
set_option linter.all false
namespace My
open PySem L2 DL PyProof.Rows
/-! ### data of small depth -/
mutual
def strB : PyData → Bool
  | .none => true
  | .bool _ => true
  | .int _ => true
  | .str z => decide (z.length ≤ 1000)
  | .list ds => strBs ds
  | .tuple ds => strBs ds
  | .dict _ => false
def strBs : List PyData → Bool
  | [] => true
  | d :: ds => strB d && strBs ds
end
def Nice (d : PyData) (k : Nat) : Prop := d.canLay0 = true ∧ d.depth ≤ k ∧ strB d = true
def Nices (ds : List PyData) (k : Nat) : Prop := PyData.canLayAll0 ds = true ∧ PyData.depthAll ds ≤ k ∧ strBs ds = true
theorem nices_nil (k : Nat) : Nices [] k := ⟨rfl, Nat.zero_le _, rfl⟩
theorem nices_cons {d : PyData} {ds : List PyData} {k : Nat} : Nices (d :: ds) k ↔ Nice d k ∧ Nices ds k := by
  simp only [Nices, Nice, PyData.canLayAll0, PyData.depthAll, strBs, Bool.and_eq_true]
  constructor
  · rintro ⟨⟨a, b⟩, c, d, e⟩
    exact ⟨⟨a, by omega, d⟩, b, by omega, e⟩
  · rintro ⟨⟨a, b, c⟩, d, e, f⟩
    exact ⟨⟨a, d⟩, by omega, c, f⟩
theorem nices_mem {ds : List PyData} {k : Nat} : Nices ds k ↔ ∀ d ∈ ds, Nice d k := by
  induction ds with
  | nil => exact ⟨fun _ d h => (by cases h), fun _ => nices_nil k⟩
  | cons d ds ih =>
    rw [nices_cons, ih]
    exact ⟨fun h e he => by
      rcases List.mem_cons.mp he with rfl | he
      · exact h.1
      · exact h.2 e he, fun h => ⟨h d List.mem_cons_self, fun e he => h e (List.mem_cons_of_mem _ he)⟩⟩
theorem nice_tup {ds : List PyData} {k : Nat} : Nice (.tuple ds) (k + 1) ↔ Nices ds k := by
  simp only [Nice, Nices, PyData.canLay0, PyData.depth, strB]
  exact ⟨fun h => ⟨h.1, by omega, h.2.2⟩, fun h => ⟨h.1, by omega, h.2.2⟩⟩
theorem nice_lst {ds : List PyData} {k : Nat} : Nice (.list ds) (k + 1) ↔ Nices ds k := by
  simp only [Nice, Nices, PyData.canLay0, PyData.depth, strB]
  exact ⟨fun h => ⟨h.1, by omega, h.2.2⟩, fun h => ⟨h.1, by omega, h.2.2⟩⟩
theorem Nice.mono {d : PyData} {k j : Nat} (h : Nice d k) (hj : k ≤ j) : Nice d j := ⟨h.1, Nat.le_trans h.2.1 hj, h.2.2⟩
theorem nice_shaped {d : PyData} {k : Nat} (h : Nice d k) (hk : k ≤ 64) : SeqAt.shaped d = true := by
  unfold SeqAt.shaped
  rw [h.1]
  simpa using Nat.le_trans h.2.1 hk
theorem nice_str {z : Str} {k : Nat} (h1 : z.length ≤ 1000) (h2 : ∀ c ∈ z.cps.toList, c < 1114112) : Nice (.str z) k := by
  refine ⟨?_, by simp [PyData.depth], by simpa [strB] using h1⟩
  simp only [PyData.canLay0, PyData.strOk, Array.all_eq_true, decide_eq_true_eq]
  intro i hi
  exact h2 _ (Array.mem_toList_iff.mpr (Array.getElem_mem hi))
theorem str_nice {z : Str} {k : Nat} (h : Nice (.str z) k) : z.length ≤ 1000 ∧ ∀ c ∈ z.cps.toList, c < 1114112 := by
  obtain ⟨a, _, b⟩ := h
  refine ⟨by simpa [strB] using b, fun c hc => ?_⟩
  simp only [PyData.canLay0, PyData.strOk, Array.all_eq_true, decide_eq_true_eq] at a
  obtain ⟨i, hi, e⟩ := Array.mem_iff_getElem.mp (Array.mem_toList_iff.mp hc)
  rw [← e]
  exact a i hi
theorem name_nice {w : Str} (h : NameOk w) (k : Nat) : Nice (.str w) k := nice_str (Nat.le_trans h.2.1 (by decide)) fun c hc => Nat.lt_of_le_of_lt (h.2.2 c hc).2 (by decide)
theorem word_nice (o : W3) (k : Nat) : Nice (.str o.word) k := ⟨by cases o <;> decide +kernel, by simp [PyData.depth], by cases o <;> decide +kernel⟩
theorem stm_nice : ∀ s : Stm, s.Ok → Nice s.enc s.depth
  | .nm w, h => nice_tup.mpr (nices_cons.mpr ⟨⟨by decide +kernel, by simp [PyData.depth], by decide +kernel⟩, nices_cons.mpr ⟨name_nice h 0, nices_nil 0⟩⟩)
  | .fl, _ => nice_tup.mpr (nices_cons.mpr ⟨⟨by decide +kernel, by simp [PyData.depth], by decide +kernel⟩, nices_nil 0⟩)
  | .bin o a b, h => nice_tup.mpr (nices_cons.mpr ⟨word_nice o _, nices_cons.mpr ⟨(stm_nice a h.1).mono (Nat.le_max_left _ _), nices_cons.mpr ⟨(stm_nice b h.2).mono (Nat.le_max_right _ _), nices_nil _⟩⟩⟩)

end My

set_option Elab.async false
set_option maxRecDepth 100000
set_option maxHeartbeats 4000000
set_option linter.all false
namespace My
open PySem L2 DL PyProof.Rows
@[simp] theorem ne_given_both : (Str.ofString "given" = Str.ofString "both") = False := eq_false (by decide +kernel)
@[simp] theorem ne_given_left : (Str.ofString "given" = Str.ofString "left") = False := eq_false (by decide +kernel)
@[simp] theorem ne_given_right : (Str.ofString "given" = Str.ofString "right") = False := eq_false (by decide +kernel)
@[simp] theorem ne_given_one : (Str.ofString "given" = Str.ofString "one") = False := eq_false (by decide +kernel)
@[simp] theorem ne_given_other : (Str.ofString "given" = Str.ofString "other") = False := eq_false (by decide +kernel)
@[simp] theorem ne_given_cases : (Str.ofString "given" = Str.ofString "cases") = False := eq_false (by decide +kernel)
@[simp] theorem ne_given_suppose : (Str.ofString "given" = Str.ofString "suppose") = False := eq_false (by decide +kernel)
@[simp] theorem ne_given_onward : (Str.ofString "given" = Str.ofString "onward") = False := eq_false (by decide +kernel)
@[simp] theorem ne_given_any : (Str.ofString "given" = Str.ofString "any") = False := eq_false (by decide +kernel)
@[simp] theorem ne_both_given : (Str.ofString "both" = Str.ofString "given") = False := eq_false (by decide +kernel)
@[simp] theorem ne_both_left : (Str.ofString "both" = Str.ofString "left") = False := eq_false (by decide +kernel)
@[simp] theorem ne_both_right : (Str.ofString "both" = Str.ofString "right") = False := eq_false (by decide +kernel)
@[simp] theorem ne_both_one : (Str.ofString "both" = Str.ofString "one") = False := eq_false (by decide +kernel)
@[simp] theorem ne_both_other : (Str.ofString "both" = Str.ofString "other") = False := eq_false (by decide +kernel)
@[simp] theorem ne_both_cases : (Str.ofString "both" = Str.ofString "cases") = False := eq_false (by decide +kernel)
@[simp] theorem ne_both_suppose : (Str.ofString "both" = Str.ofString "suppose") = False := eq_false (by decide +kernel)
@[simp] theorem ne_both_onward : (Str.ofString "both" = Str.ofString "onward") = False := eq_false (by decide +kernel)
@[simp] theorem ne_both_any : (Str.ofString "both" = Str.ofString "any") = False := eq_false (by decide +kernel)
@[simp] theorem ne_left_given : (Str.ofString "left" = Str.ofString "given") = False := eq_false (by decide +kernel)
@[simp] theorem ne_left_both : (Str.ofString "left" = Str.ofString "both") = False := eq_false (by decide +kernel)
@[simp] theorem ne_left_right : (Str.ofString "left" = Str.ofString "right") = False := eq_false (by decide +kernel)
@[simp] theorem ne_left_one : (Str.ofString "left" = Str.ofString "one") = False := eq_false (by decide +kernel)
@[simp] theorem ne_left_other : (Str.ofString "left" = Str.ofString "other") = False := eq_false (by decide +kernel)
@[simp] theorem ne_left_cases : (Str.ofString "left" = Str.ofString "cases") = False := eq_false (by decide +kernel)
@[simp] theorem ne_left_suppose : (Str.ofString "left" = Str.ofString "suppose") = False := eq_false (by decide +kernel)
@[simp] theorem ne_left_onward : (Str.ofString "left" = Str.ofString "onward") = False := eq_false (by decide +kernel)
@[simp] theorem ne_left_any : (Str.ofString "left" = Str.ofString "any") = False := eq_false (by decide +kernel)
@[simp] theorem ne_right_given : (Str.ofString "right" = Str.ofString "given") = False := eq_false (by decide +kernel)
@[simp] theorem ne_right_both : (Str.ofString "right" = Str.ofString "both") = False := eq_false (by decide +kernel)
@[simp] theorem ne_right_left : (Str.ofString "right" = Str.ofString "left") = False := eq_false (by decide +kernel)
@[simp] theorem ne_right_one : (Str.ofString "right" = Str.ofString "one") = False := eq_false (by decide +kernel)
@[simp] theorem ne_right_other : (Str.ofString "right" = Str.ofString "other") = False := eq_false (by decide +kernel)
@[simp] theorem ne_right_cases : (Str.ofString "right" = Str.ofString "cases") = False := eq_false (by decide +kernel)
@[simp] theorem ne_right_suppose : (Str.ofString "right" = Str.ofString "suppose") = False := eq_false (by decide +kernel)
@[simp] theorem ne_right_onward : (Str.ofString "right" = Str.ofString "onward") = False := eq_false (by decide +kernel)
@[simp] theorem ne_right_any : (Str.ofString "right" = Str.ofString "any") = False := eq_false (by decide +kernel)
@[simp] theorem ne_one_given : (Str.ofString "one" = Str.ofString "given") = False := eq_false (by decide +kernel)
@[simp] theorem ne_one_both : (Str.ofString "one" = Str.ofString "both") = False := eq_false (by decide +kernel)
@[simp] theorem ne_one_left : (Str.ofString "one" = Str.ofString "left") = False := eq_false (by decide +kernel)
@[simp] theorem ne_one_right : (Str.ofString "one" = Str.ofString "right") = False := eq_false (by decide +kernel)
@[simp] theorem ne_one_other : (Str.ofString "one" = Str.ofString "other") = False := eq_false (by decide +kernel)
@[simp] theorem ne_one_cases : (Str.ofString "one" = Str.ofString "cases") = False := eq_false (by decide +kernel)
@[simp] theorem ne_one_suppose : (Str.ofString "one" = Str.ofString "suppose") = False := eq_false (by decide +kernel)
@[simp] theorem ne_one_onward : (Str.ofString "one" = Str.ofString "onward") = False := eq_false (by decide +kernel)
@[simp] theorem ne_one_any : (Str.ofString "one" = Str.ofString "any") = False := eq_false (by decide +kernel)
@[simp] theorem ne_other_given : (Str.ofString "other" = Str.ofString "given") = False := eq_false (by decide +kernel)
@[simp] theorem ne_other_both : (Str.ofString "other" = Str.ofString "both") = False := eq_false (by decide +kernel)
@[simp] theorem ne_other_left : (Str.ofString "other" = Str.ofString "left") = False := eq_false (by decide +kernel)
@[simp] theorem ne_other_right : (Str.ofString "other" = Str.ofString "right") = False := eq_false (by decide +kernel)
@[simp] theorem ne_other_one : (Str.ofString "other" = Str.ofString "one") = False := eq_false (by decide +kernel)
@[simp] theorem ne_other_cases : (Str.ofString "other" = Str.ofString "cases") = False := eq_false (by decide +kernel)
@[simp] theorem ne_other_suppose : (Str.ofString "other" = Str.ofString "suppose") = False := eq_false (by decide +kernel)
@[simp] theorem ne_other_onward : (Str.ofString "other" = Str.ofString "onward") = False := eq_false (by decide +kernel)
@[simp] theorem ne_other_any : (Str.ofString "other" = Str.ofString "any") = False := eq_false (by decide +kernel)
@[simp] theorem ne_cases_given : (Str.ofString "cases" = Str.ofString "given") = False := eq_false (by decide +kernel)
@[simp] theorem ne_cases_both : (Str.ofString "cases" = Str.ofString "both") = False := eq_false (by decide +kernel)
@[simp] theorem ne_cases_left : (Str.ofString "cases" = Str.ofString "left") = False := eq_false (by decide +kernel)
@[simp] theorem ne_cases_right : (Str.ofString "cases" = Str.ofString "right") = False := eq_false (by decide +kernel)
@[simp] theorem ne_cases_one : (Str.ofString "cases" = Str.ofString "one") = False := eq_false (by decide +kernel)
@[simp] theorem ne_cases_other : (Str.ofString "cases" = Str.ofString "other") = False := eq_false (by decide +kernel)
@[simp] theorem ne_cases_suppose : (Str.ofString "cases" = Str.ofString "suppose") = False := eq_false (by decide +kernel)
@[simp] theorem ne_cases_onward : (Str.ofString "cases" = Str.ofString "onward") = False := eq_false (by decide +kernel)
@[simp] theorem ne_cases_any : (Str.ofString "cases" = Str.ofString "any") = False := eq_false (by decide +kernel)
@[simp] theorem ne_suppose_given : (Str.ofString "suppose" = Str.ofString "given") = False := eq_false (by decide +kernel)
@[simp] theorem ne_suppose_both : (Str.ofString "suppose" = Str.ofString "both") = False := eq_false (by decide +kernel)
@[simp] theorem ne_suppose_left : (Str.ofString "suppose" = Str.ofString "left") = False := eq_false (by decide +kernel)
@[simp] theorem ne_suppose_right : (Str.ofString "suppose" = Str.ofString "right") = False := eq_false (by decide +kernel)
@[simp] theorem ne_suppose_one : (Str.ofString "suppose" = Str.ofString "one") = False := eq_false (by decide +kernel)
@[simp] theorem ne_suppose_other : (Str.ofString "suppose" = Str.ofString "other") = False := eq_false (by decide +kernel)
@[simp] theorem ne_suppose_cases : (Str.ofString "suppose" = Str.ofString "cases") = False := eq_false (by decide +kernel)
@[simp] theorem ne_suppose_onward : (Str.ofString "suppose" = Str.ofString "onward") = False := eq_false (by decide +kernel)
@[simp] theorem ne_suppose_any : (Str.ofString "suppose" = Str.ofString "any") = False := eq_false (by decide +kernel)
@[simp] theorem ne_onward_given : (Str.ofString "onward" = Str.ofString "given") = False := eq_false (by decide +kernel)
@[simp] theorem ne_onward_both : (Str.ofString "onward" = Str.ofString "both") = False := eq_false (by decide +kernel)
@[simp] theorem ne_onward_left : (Str.ofString "onward" = Str.ofString "left") = False := eq_false (by decide +kernel)
@[simp] theorem ne_onward_right : (Str.ofString "onward" = Str.ofString "right") = False := eq_false (by decide +kernel)
@[simp] theorem ne_onward_one : (Str.ofString "onward" = Str.ofString "one") = False := eq_false (by decide +kernel)
@[simp] theorem ne_onward_other : (Str.ofString "onward" = Str.ofString "other") = False := eq_false (by decide +kernel)
@[simp] theorem ne_onward_cases : (Str.ofString "onward" = Str.ofString "cases") = False := eq_false (by decide +kernel)
@[simp] theorem ne_onward_suppose : (Str.ofString "onward" = Str.ofString "suppose") = False := eq_false (by decide +kernel)
@[simp] theorem ne_onward_any : (Str.ofString "onward" = Str.ofString "any") = False := eq_false (by decide +kernel)
@[simp] theorem ne_any_given : (Str.ofString "any" = Str.ofString "given") = False := eq_false (by decide +kernel)
@[simp] theorem ne_any_both : (Str.ofString "any" = Str.ofString "both") = False := eq_false (by decide +kernel)
@[simp] theorem ne_any_left : (Str.ofString "any" = Str.ofString "left") = False := eq_false (by decide +kernel)
@[simp] theorem ne_any_right : (Str.ofString "any" = Str.ofString "right") = False := eq_false (by decide +kernel)
@[simp] theorem ne_any_one : (Str.ofString "any" = Str.ofString "one") = False := eq_false (by decide +kernel)
@[simp] theorem ne_any_other : (Str.ofString "any" = Str.ofString "other") = False := eq_false (by decide +kernel)
@[simp] theorem ne_any_cases : (Str.ofString "any" = Str.ofString "cases") = False := eq_false (by decide +kernel)
@[simp] theorem ne_any_suppose : (Str.ofString "any" = Str.ofString "suppose") = False := eq_false (by decide +kernel)
@[simp] theorem ne_any_onward : (Str.ofString "any" = Str.ofString "onward") = False := eq_false (by decide +kernel)
@[simp] theorem ne_and_or : (Str.ofString "and" = Str.ofString "or") = False := eq_false (by decide +kernel)
@[simp] theorem ne_and_then : (Str.ofString "and" = Str.ofString "then") = False := eq_false (by decide +kernel)
@[simp] theorem ne_and_name : (Str.ofString "and" = Str.ofString "name") = False := eq_false (by decide +kernel)
@[simp] theorem ne_and_false : (Str.ofString "and" = Str.ofString "false") = False := eq_false (by decide +kernel)
@[simp] theorem ne_or_and : (Str.ofString "or" = Str.ofString "and") = False := eq_false (by decide +kernel)
@[simp] theorem ne_or_then : (Str.ofString "or" = Str.ofString "then") = False := eq_false (by decide +kernel)
@[simp] theorem ne_or_name : (Str.ofString "or" = Str.ofString "name") = False := eq_false (by decide +kernel)
@[simp] theorem ne_or_false : (Str.ofString "or" = Str.ofString "false") = False := eq_false (by decide +kernel)
@[simp] theorem ne_then_and : (Str.ofString "then" = Str.ofString "and") = False := eq_false (by decide +kernel)
@[simp] theorem ne_then_or : (Str.ofString "then" = Str.ofString "or") = False := eq_false (by decide +kernel)
@[simp] theorem ne_then_name : (Str.ofString "then" = Str.ofString "name") = False := eq_false (by decide +kernel)
@[simp] theorem ne_then_false : (Str.ofString "then" = Str.ofString "false") = False := eq_false (by decide +kernel)
@[simp] theorem ne_name_and : (Str.ofString "name" = Str.ofString "and") = False := eq_false (by decide +kernel)
@[simp] theorem ne_name_or : (Str.ofString "name" = Str.ofString "or") = False := eq_false (by decide +kernel)
@[simp] theorem ne_name_then : (Str.ofString "name" = Str.ofString "then") = False := eq_false (by decide +kernel)
@[simp] theorem ne_name_false : (Str.ofString "name" = Str.ofString "false") = False := eq_false (by decide +kernel)
@[simp] theorem ne_false_and : (Str.ofString "false" = Str.ofString "and") = False := eq_false (by decide +kernel)
@[simp] theorem ne_false_or : (Str.ofString "false" = Str.ofString "or") = False := eq_false (by decide +kernel)
@[simp] theorem ne_false_then : (Str.ofString "false" = Str.ofString "then") = False := eq_false (by decide +kernel)
@[simp] theorem ne_false_name : (Str.ofString "false" = Str.ofString "name") = False := eq_false (by decide +kernel)
theorem in_t2 {z x y : Str} (b : Bool) (h : (SeqAt.shaped (.str z) && SeqAt.shaped (.tuple [.str x, .str y])) = true) (hb : (x == z || y == z) = b) : inD (.str z) (.tuple [.str x, .str y]) = some (.bool b) := by
  have e : inD (.str z) (.tuple [.str x, .str y]) = if SeqAt.shaped (.str z) && SeqAt.shaped (.tuple [.str x, .str y]) then some (.bool ([PyData.str x, .str y].any fun w => PyData.eqv w (.str z))) else none := rfl
  rw [e, h, ← hb]
  simp [PyData.eqv]
theorem in_l2 {z x y : Str} (b : Bool) (h : (SeqAt.shaped (.str z) && SeqAt.shaped (.list [.str x, .str y])) = true) (hb : (x == z || y == z) = b) : inD (.str z) (.list [.str x, .str y]) = some (.bool b) := by
  have e : inD (.str z) (.list [.str x, .str y]) = if SeqAt.shaped (.str z) && SeqAt.shaped (.list [.str x, .str y]) then some (.bool ([PyData.str x, .str y].any fun w => PyData.eqv w (.str z))) else none := rfl
  rw [e, h, ← hb]
  simp [PyData.eqv]
@[simp] theorem in_given_tuple_suppose : inD (.str (Str.ofString "given")) (.tuple [.str (Str.ofString "suppose"), .str (Str.ofString "onward")]) = some (.bool false) := in_t2 _ (by decide +kernel) (by decide +kernel)
@[simp] theorem in_given_tuple_one : inD (.str (Str.ofString "given")) (.tuple [.str (Str.ofString "one"), .str (Str.ofString "other")]) = some (.bool false) := in_t2 _ (by decide +kernel) (by decide +kernel)
@[simp] theorem in_given_list_one : inD (.str (Str.ofString "given")) (.list [.str (Str.ofString "one"), .str (Str.ofString "other")]) = some (.bool false) := in_l2 _ (by decide +kernel) (by decide +kernel)
@[simp] theorem in_given_list_left : inD (.str (Str.ofString "given")) (.list [.str (Str.ofString "left"), .str (Str.ofString "right")]) = some (.bool false) := in_l2 _ (by decide +kernel) (by decide +kernel)
@[simp] theorem in_both_tuple_suppose : inD (.str (Str.ofString "both")) (.tuple [.str (Str.ofString "suppose"), .str (Str.ofString "onward")]) = some (.bool false) := in_t2 _ (by decide +kernel) (by decide +kernel)
@[simp] theorem in_both_tuple_one : inD (.str (Str.ofString "both")) (.tuple [.str (Str.ofString "one"), .str (Str.ofString "other")]) = some (.bool false) := in_t2 _ (by decide +kernel) (by decide +kernel)
@[simp] theorem in_both_list_one : inD (.str (Str.ofString "both")) (.list [.str (Str.ofString "one"), .str (Str.ofString "other")]) = some (.bool false) := in_l2 _ (by decide +kernel) (by decide +kernel)
@[simp] theorem in_both_list_left : inD (.str (Str.ofString "both")) (.list [.str (Str.ofString "left"), .str (Str.ofString "right")]) = some (.bool false) := in_l2 _ (by decide +kernel) (by decide +kernel)
@[simp] theorem in_left_tuple_suppose : inD (.str (Str.ofString "left")) (.tuple [.str (Str.ofString "suppose"), .str (Str.ofString "onward")]) = some (.bool false) := in_t2 _ (by decide +kernel) (by decide +kernel)
@[simp] theorem in_left_tuple_one : inD (.str (Str.ofString "left")) (.tuple [.str (Str.ofString "one"), .str (Str.ofString "other")]) = some (.bool false) := in_t2 _ (by decide +kernel) (by decide +kernel)
@[simp] theorem in_left_list_one : inD (.str (Str.ofString "left")) (.list [.str (Str.ofString "one"), .str (Str.ofString "other")]) = some (.bool false) := in_l2 _ (by decide +kernel) (by decide +kernel)
@[simp] theorem in_left_list_left : inD (.str (Str.ofString "left")) (.list [.str (Str.ofString "left"), .str (Str.ofString "right")]) = some (.bool true) := in_l2 _ (by decide +kernel) (by decide +kernel)
@[simp] theorem in_right_tuple_suppose : inD (.str (Str.ofString "right")) (.tuple [.str (Str.ofString "suppose"), .str (Str.ofString "onward")]) = some (.bool false) := in_t2 _ (by decide +kernel) (by decide +kernel)
@[simp] theorem in_right_tuple_one : inD (.str (Str.ofString "right")) (.tuple [.str (Str.ofString "one"), .str (Str.ofString "other")]) = some (.bool false) := in_t2 _ (by decide +kernel) (by decide +kernel)
@[simp] theorem in_right_list_one : inD (.str (Str.ofString "right")) (.list [.str (Str.ofString "one"), .str (Str.ofString "other")]) = some (.bool false) := in_l2 _ (by decide +kernel) (by decide +kernel)
@[simp] theorem in_right_list_left : inD (.str (Str.ofString "right")) (.list [.str (Str.ofString "left"), .str (Str.ofString "right")]) = some (.bool true) := in_l2 _ (by decide +kernel) (by decide +kernel)
@[simp] theorem in_one_tuple_suppose : inD (.str (Str.ofString "one")) (.tuple [.str (Str.ofString "suppose"), .str (Str.ofString "onward")]) = some (.bool false) := in_t2 _ (by decide +kernel) (by decide +kernel)
@[simp] theorem in_one_tuple_one : inD (.str (Str.ofString "one")) (.tuple [.str (Str.ofString "one"), .str (Str.ofString "other")]) = some (.bool true) := in_t2 _ (by decide +kernel) (by decide +kernel)
@[simp] theorem in_one_list_one : inD (.str (Str.ofString "one")) (.list [.str (Str.ofString "one"), .str (Str.ofString "other")]) = some (.bool true) := in_l2 _ (by decide +kernel) (by decide +kernel)
@[simp] theorem in_one_list_left : inD (.str (Str.ofString "one")) (.list [.str (Str.ofString "left"), .str (Str.ofString "right")]) = some (.bool false) := in_l2 _ (by decide +kernel) (by decide +kernel)
@[simp] theorem in_other_tuple_suppose : inD (.str (Str.ofString "other")) (.tuple [.str (Str.ofString "suppose"), .str (Str.ofString "onward")]) = some (.bool false) := in_t2 _ (by decide +kernel) (by decide +kernel)
@[simp] theorem in_other_tuple_one : inD (.str (Str.ofString "other")) (.tuple [.str (Str.ofString "one"), .str (Str.ofString "other")]) = some (.bool true) := in_t2 _ (by decide +kernel) (by decide +kernel)
@[simp] theorem in_other_list_one : inD (.str (Str.ofString "other")) (.list [.str (Str.ofString "one"), .str (Str.ofString "other")]) = some (.bool true) := in_l2 _ (by decide +kernel) (by decide +kernel)
@[simp] theorem in_other_list_left : inD (.str (Str.ofString "other")) (.list [.str (Str.ofString "left"), .str (Str.ofString "right")]) = some (.bool false) := in_l2 _ (by decide +kernel) (by decide +kernel)
@[simp] theorem in_cases_tuple_suppose : inD (.str (Str.ofString "cases")) (.tuple [.str (Str.ofString "suppose"), .str (Str.ofString "onward")]) = some (.bool false) := in_t2 _ (by decide +kernel) (by decide +kernel)
@[simp] theorem in_cases_tuple_one : inD (.str (Str.ofString "cases")) (.tuple [.str (Str.ofString "one"), .str (Str.ofString "other")]) = some (.bool false) := in_t2 _ (by decide +kernel) (by decide +kernel)
@[simp] theorem in_cases_list_one : inD (.str (Str.ofString "cases")) (.list [.str (Str.ofString "one"), .str (Str.ofString "other")]) = some (.bool false) := in_l2 _ (by decide +kernel) (by decide +kernel)
@[simp] theorem in_cases_list_left : inD (.str (Str.ofString "cases")) (.list [.str (Str.ofString "left"), .str (Str.ofString "right")]) = some (.bool false) := in_l2 _ (by decide +kernel) (by decide +kernel)
@[simp] theorem in_suppose_tuple_suppose : inD (.str (Str.ofString "suppose")) (.tuple [.str (Str.ofString "suppose"), .str (Str.ofString "onward")]) = some (.bool true) := in_t2 _ (by decide +kernel) (by decide +kernel)
@[simp] theorem in_suppose_tuple_one : inD (.str (Str.ofString "suppose")) (.tuple [.str (Str.ofString "one"), .str (Str.ofString "other")]) = some (.bool false) := in_t2 _ (by decide +kernel) (by decide +kernel)
@[simp] theorem in_suppose_list_one : inD (.str (Str.ofString "suppose")) (.list [.str (Str.ofString "one"), .str (Str.ofString "other")]) = some (.bool false) := in_l2 _ (by decide +kernel) (by decide +kernel)
@[simp] theorem in_suppose_list_left : inD (.str (Str.ofString "suppose")) (.list [.str (Str.ofString "left"), .str (Str.ofString "right")]) = some (.bool false) := in_l2 _ (by decide +kernel) (by decide +kernel)
@[simp] theorem in_onward_tuple_suppose : inD (.str (Str.ofString "onward")) (.tuple [.str (Str.ofString "suppose"), .str (Str.ofString "onward")]) = some (.bool true) := in_t2 _ (by decide +kernel) (by decide +kernel)
@[simp] theorem in_onward_tuple_one : inD (.str (Str.ofString "onward")) (.tuple [.str (Str.ofString "one"), .str (Str.ofString "other")]) = some (.bool false) := in_t2 _ (by decide +kernel) (by decide +kernel)
@[simp] theorem in_onward_list_one : inD (.str (Str.ofString "onward")) (.list [.str (Str.ofString "one"), .str (Str.ofString "other")]) = some (.bool false) := in_l2 _ (by decide +kernel) (by decide +kernel)
@[simp] theorem in_onward_list_left : inD (.str (Str.ofString "onward")) (.list [.str (Str.ofString "left"), .str (Str.ofString "right")]) = some (.bool false) := in_l2 _ (by decide +kernel) (by decide +kernel)
@[simp] theorem in_any_tuple_suppose : inD (.str (Str.ofString "any")) (.tuple [.str (Str.ofString "suppose"), .str (Str.ofString "onward")]) = some (.bool false) := in_t2 _ (by decide +kernel) (by decide +kernel)
@[simp] theorem in_any_tuple_one : inD (.str (Str.ofString "any")) (.tuple [.str (Str.ofString "one"), .str (Str.ofString "other")]) = some (.bool false) := in_t2 _ (by decide +kernel) (by decide +kernel)
@[simp] theorem in_any_list_one : inD (.str (Str.ofString "any")) (.list [.str (Str.ofString "one"), .str (Str.ofString "other")]) = some (.bool false) := in_l2 _ (by decide +kernel) (by decide +kernel)
@[simp] theorem in_any_list_left : inD (.str (Str.ofString "any")) (.list [.str (Str.ofString "left"), .str (Str.ofString "right")]) = some (.bool false) := in_l2 _ (by decide +kernel) (by decide +kernel)
end My

set_option maxRecDepth 100000
set_option maxHeartbeats 4000000
set_option linter.all false
namespace My
open PySem L2 DL PyProof.Rows
/-! ### rows -/
def Stm.head : Stm → Str
  | .nm _ => "name"
  | .fl => "false"
  | .bin o _ _ => o.word
@[simp] theorem st_ix0 (s : Stm) : ixD s.enc (.int 0) = some (.str s.head) := by cases s <;> rfl
@[simp] theorem st_ix1 (o : W3) (a b : Stm) : ixD (Stm.bin o a b).enc (.int 1) = some a.enc := nrfl rfl
@[simp] theorem st_ix2 (o : W3) (a b : Stm) : ixD (Stm.bin o a b).enc (.int 2) = some b.enc := nrfl rfl
def eqs (a b : Stm) : Bool := PyData.eqv a.enc b.enc
def inS (x : Stm) (gs : List Stm) : Bool := gs.any fun g => eqs g x
structure Row where
  g : List Stm
  s : Stm
  r : Str
  u : List Int
def encs (ps : List Stm) : List PyData := ps.map Stm.enc
def nums (us : List Int) : List PyData := us.map PyData.int
def Row.enc (w : Row) : PyData := .tuple [.tuple (encs w.g), w.s.enc, .str w.r, .tuple (nums w.u)]
def SOk (s : Stm) : Prop := s.Ok ∧ s.depth ≤ 40
def Row.Ok (w : Row) : Prop := (∀ x ∈ w.g, SOk x) ∧ SOk w.s ∧ w.g.length ≤ 100 ∧ w.u.length ≤ 50
@[simp] theorem row0 (w : Row) : ixD w.enc (.int 0) = some (.tuple (encs w.g)) := nrfl rfl
@[simp] theorem row1 (w : Row) : ixD w.enc (.int 1) = some w.s.enc := nrfl rfl
@[simp] theorem row2 (w : Row) : ixD w.enc (.int 2) = some (.str w.r) := nrfl rfl
@[simp] theorem row3 (w : Row) : ixD w.enc (.int 3) = some (.tuple (nums w.u)) := nrfl rfl
@[simp] theorem row_c3 (w : Row) : DL.cutD none (some 3) w.enc = some (.tuple [.tuple (encs w.g), w.s.enc, .str w.r]) := nrfl rfl
@[simp] theorem row_c2 (w : Row) : DL.cutD none (some 2) w.enc = some (.tuple [.tuple (encs w.g), w.s.enc]) := nrfl rfl
@[simp] theorem encs_len (ps : List Stm) : (encs ps).length = ps.length := List.length_map _
@[simp] theorem nums_len (ps : List Int) : (nums ps).length = ps.length := List.length_map _
theorem enc_tup (s : Stm) : ∃ ds, s.enc = .tuple ds := by cases s <;> exact ⟨_, rfl⟩
theorem s_nice {s : Stm} (h : SOk s) : Nice s.enc 40 := (stm_nice s h.1).mono h.2
theorem s_shaped {s : Stm} (h : SOk s) : SeqAt.shaped s.enc = true := nice_shaped (s_nice h) (by decide)
theorem encs_nice {gs : List Stm} (h : ∀ x ∈ gs, SOk x) : Nices (encs gs) 40 := nices_mem.mpr fun d hd => by
  obtain ⟨x, hx, rfl⟩ := List.mem_map.mp hd
  exact s_nice (h x hx)
theorem encs_shaped {gs : List Stm} (h : ∀ x ∈ gs, SOk x) : SeqAt.shaped (.tuple (encs gs)) = true ∧ SeqAt.shaped (.list (encs gs)) = true :=
  ⟨nice_shaped (nice_tup.mpr (encs_nice h)) (by decide), nice_shaped (nice_lst.mpr (encs_nice h)) (by decide)⟩
theorem eq_stm {a b : Stm} (ha : SOk a) (hb : SOk b) : eqD a.enc b.enc = some (.bool (eqs a b)) := by
  have h1 := s_shaped ha
  have h2 := s_shaped hb
  unfold eqs
  obtain ⟨ds, e⟩ := enc_tup a
  rw [e] at h1 ⊢
  have e2 : eqD (.tuple ds) b.enc = if SeqAt.shaped (.tuple ds) && SeqAt.shaped b.enc then some (.bool (PyData.eqv (.tuple ds) b.enc)) else none := rfl
  rw [e2, h1, h2]
  rfl
theorem eqs_refl {a : Stm} (h : SOk a) : eqs a a = true := PySem.SeqAt.eqv_refl a.enc (s_nice h).1
theorem in_any (x : Stm) (gs : List Stm) : ((encs gs).any fun z => PyData.eqv z x.enc) = inS x gs := by
  simp only [encs, List.any_map]
  rfl
theorem in_tup {x : Stm} {gs : List Stm} (hx : SOk x) (h : ∀ x ∈ gs, SOk x) : inD x.enc (.tuple (encs gs)) = some (.bool (inS x gs)) := by
  obtain ⟨ds, e⟩ := enc_tup x
  have h1 := s_shaped hx
  have h2 := (encs_shaped h).1
  have e2 : inD x.enc (.tuple (encs gs)) = if SeqAt.shaped x.enc && SeqAt.shaped (.tuple (encs gs)) then some (.bool ((encs gs).any fun z => PyData.eqv z x.enc)) else none := by rw [e]; rfl
  rw [e2, h1, h2, in_any]
  rfl
theorem in_lst {x : Stm} {gs : List Stm} (hx : SOk x) (h : ∀ x ∈ gs, SOk x) : inD x.enc (.list (encs gs)) = some (.bool (inS x gs)) := by
  obtain ⟨ds, e⟩ := enc_tup x
  have h1 := s_shaped hx
  have h2 := (encs_shaped h).2
  have e2 : inD x.enc (.list (encs gs)) = if SeqAt.shaped x.enc && SeqAt.shaped (.list (encs gs)) then some (.bool ((encs gs).any fun z => PyData.eqv z x.enc)) else none := by rw [e]; rfl
  rw [e2, h1, h2, in_any]
  rfl
def fromB (w : Row) (given : List Stm) (st : Stm) (sup : List Stm) : Bool := eqs w.s st && w.g.all fun o => inS o given || inS o sup
theorem bools_bl : ∀ (bs : List Bool), bools (bs.map PyData.bool) = some bs
  | [] => rfl
  | b :: bs => by simp [bools, bools_bl bs]
theorem is_from {w : Row} {given sup : List Stm} {st : Stm} (hw : w.Ok) (hg : ∀ x ∈ given, SOk x) (hs : ∀ x ∈ sup, SOk x) (ht : SOk st) :
    sem_is_from [w.enc, .tuple (encs given), st.enc, .tuple (encs sup)] = .ok (.bool (fromB w given st sup)) ∧
    sem_law_from [w.enc, .tuple (encs given), st.enc, .tuple (encs sup)] = .ok (.bool (fromB w given st sup)) ∧
    sem_law_from [w.enc, .tuple (encs given), st.enc, .list (encs sup)] = .ok (.bool (fromB w given st sup)) := by
  have he := eq_stm hw.2.1 ht
  have hl : w.g.length ≤ big := Nat.le_trans hw.2.2.1 (by decide)
  have key : ∀ (f : SE) (env : PyData → PEnv), (∀ o ∈ w.g, f (env o.enc) = .ok (.bool (inS o given || inS o sup))) → lcGo env tTrue f (encs w.g) = .ok ((w.g.map fun o => inS o given || inS o sup).map PyData.bool) := fun f env hf => by
    rw [lcGo_map (v := fun d => .bool ((given.any fun g => PyData.eqv g.enc d) || (sup.any fun g => PyData.eqv g.enc d))) (by
      intro d hd
      obtain ⟨o, ho, rfl⟩ := List.mem_map.mp hd
      exact ⟨rfl, hf o ho, rfl⟩)]
    simp only [encs, List.map_map]
    rfl
  have all : allD [.list ((w.g.map fun o => inS o given || inS o sup).map PyData.bool)] = some (.bool (w.g.all fun o => inS o given || inS o sup)) := by
    simp only [allD, bools_bl, Option.map_some, List.all_map]
    rfl
  refine ⟨?_, ?_, ?_⟩
  · simp only [sem_is_from, bodyD, F_is_from, startD]
    simp [he, eLc_ap, hl]
    by_cases hq : eqs w.s st = true
    · simp [hq]
      rw [key _ _ fun o ho => by
        have h1 := in_tup (hw.1 o ho) hg
        have h2 := in_tup (hw.1 o ho) hs
        simp [h1, h2]
        cases inS o given <;> rfl]
      rw [List.map_map] at all
      simp [Res.calm, all, fromB, hq]
    · simp [hq, fromB]
  · simp only [sem_law_from, bodyD, F_law_from, startD]
    simp [he, eLc_ap, hl]
    by_cases hq : eqs w.s st = true
    · simp [hq]
      rw [key _ _ fun o ho => by
        have h1 := in_tup (hw.1 o ho) hg
        have h2 := in_tup (hw.1 o ho) hs
        simp [h1, h2]
        cases inS o given <;> rfl]
      rw [List.map_map] at all
      simp [Res.calm, all, fromB, hq]
    · simp [hq, fromB]
  · simp only [sem_law_from, bodyD, F_law_from, startD]
    simp [he, eLc_ap, hl]
    by_cases hq : eqs w.s st = true
    · simp [hq]
      rw [key _ _ fun o ho => by
        have h1 := in_tup (hw.1 o ho) hg
        have h2 := in_lst (hw.1 o ho) hs
        simp [h1, h2]
        cases inS o given <;> rfl]
      rw [List.map_map] at all
      simp [Res.calm, all, fromB, hq]
    · simp [hq, fromB]
end My

set_option Elab.async false
set_option maxRecDepth 100000
set_option maxHeartbeats 4000000
set_option linter.all false
namespace My
open PySem L2 DL PyProof.Rows
inductive Rule where
  | given | both | left | right | one | other | cases | suppose | onward | any
def Rule.word : Rule → Str
  | .given => "given"
  | .both => "both"
  | .left => "left"
  | .right => "right"
  | .one => "one"
  | .other => "other"
  | .cases => "cases"
  | .suppose => "suppose"
  | .onward => "onward"
  | .any => "any"
def Rule.count : Rule → Nat
  | .given => 0
  | .both => 2
  | .left => 1
  | .right => 1
  | .one => 1
  | .other => 1
  | .cases => 3
  | .suppose => 1
  | .onward => 2
  | .any => 1
def core (k : Rule) (w : Row) (ups : List Row) : Bool := match k, ups with
  | .given, _ => inS w.s w.g
  | .any, [a] => fromB a w.g .fl []
  | .both, [a, b] => match w.s with
    | .bin .an x y => fromB a w.g x [] && fromB b w.g y []
    | _ => false
  | .one, [a] => match w.s with
    | .bin .orr x _ => fromB a w.g x []
    | _ => false
  | .other, [a] => match w.s with
    | .bin .orr _ y => fromB a w.g y []
    | _ => false
  | .left, [a] => match a.s with
    | .bin .an x _ => fromB a w.g a.s [] && eqs w.s x
    | _ => false
  | .right, [a] => match a.s with
    | .bin .an _ y => fromB a w.g a.s [] && eqs w.s y
    | _ => false
  | .cases, [a, b, c] => match a.s with
    | .bin .orr x y => fromB a w.g a.s [] && (fromB b w.g w.s [x] && fromB c w.g w.s [y])
    | _ => false
  | .suppose, [a] => match w.s with
    | .bin .th x y => fromB a w.g y [x]
    | _ => false
  | .onward, [a, b] => match a.s with
    | .bin .th x y => fromB a w.g a.s [] && (eqs w.s y && fromB b w.g x [])
    | _ => false
  | _, _ => false
theorem froms {w : Row} {given : List Stm} (hw : w.Ok) (hg : ∀ x ∈ given, SOk x) :
    (∀ st, SOk st → sem_is_from [w.enc, .tuple (encs given), st.enc, .tuple []] = .ok (.bool (fromB w given st []))) ∧
    (∀ st x, SOk st → SOk x → sem_is_from [w.enc, .tuple (encs given), st.enc, .tuple [x.enc]] = .ok (.bool (fromB w given st [x]))) ∧
    (∀ st, SOk st → sem_law_from [w.enc, .tuple (encs given), st.enc, .tuple []] = .ok (.bool (fromB w given st []))) ∧
    (∀ st x, SOk st → SOk x → sem_law_from [w.enc, .tuple (encs given), st.enc, .list [x.enc]] = .ok (.bool (fromB w given st [x]))) :=
  ⟨fun st h => (is_from (sup := []) hw hg (by intro x hx; cases hx) h).1, fun st x h hx => (is_from (sup := [x]) hw hg (by intro y hy; rw [List.mem_singleton] at hy; subst hy; exact hx) h).1,
   fun st h => (is_from (sup := []) hw hg (by intro x hx; cases hx) h).2.1, fun st x h hx => (is_from (sup := [x]) hw hg (by intro y hy; rw [List.mem_singleton] at hy; subst hy; exact hx) h).2.2⟩
theorem fl_ok : SOk .fl := ⟨trivial, by decide⟩
theorem bin_ok {o : W3} {a b : Stm} (h : SOk (.bin o a b)) : SOk a ∧ SOk b := by
  obtain ⟨h1, h2⟩ := h
  simp only [Stm.depth] at h2
  exact ⟨⟨h1.1, by omega⟩, ⟨h1.2, by omega⟩⟩
theorem is_pair (s : Stm) (z : Str) : sem_is_pair [s.enc, .str z] = .ok (.bool (s.head == z)) := by
  simp [sem_is_pair, bodyD, F_is_pair, startD]
@[simp] theorem head_and (s : Stm) : (s.head = Str.ofString "and") = (∃ a b, s = .bin .an a b) := by
  cases s with
  | nm w => simp [Stm.head]
  | fl => simp [Stm.head]
  | bin o a b => cases o <;> simp [Stm.head, W3.word]
@[simp] theorem head_or (s : Stm) : (s.head = Str.ofString "or") = (∃ a b, s = .bin .orr a b) := by
  cases s with
  | nm w => simp [Stm.head]
  | fl => simp [Stm.head]
  | bin o a b => cases o <;> simp [Stm.head, W3.word]
@[simp] theorem head_then (s : Stm) : (s.head = Str.ofString "then") = (∃ a b, s = .bin .th a b) := by
  cases s with
  | nm w => simp [Stm.head]
  | fl => simp [Stm.head]
  | bin o a b => cases o <;> simp [Stm.head, W3.word]
@[simp] theorem gN3 {i j k : Nat} {a b c : PyData} {ρ : PEnv} : gT 3 (gsCons (gN i) (gsCons (gN j) (gsCons (gN k) gsNil))) (.tuple [a, b, c]) ρ = some (((ρ.set i (some a)).set j (some b)).set k (some c)) := nrfl rfl
@[simp] theorem gN2 {i j : Nat} {a b : PyData} {ρ : PEnv} : gT 2 (gsCons (gN i) (gsCons (gN j) gsNil)) (.tuple [a, b]) ρ = some ((ρ.set i (some a)).set j (some b)) := nrfl rfl
@[simp] theorem int_b {b : Bool} : intD [.bool b] = some (.int (if b then 1 else 0)) := nrfl rfl
@[simp] theorem at1_0 {p : PyData} : atI [p] 0 = some p := nrfl rfl
@[simp] theorem at2_0 {p q : PyData} : atI [p, q] 0 = some p := nrfl rfl
@[simp] theorem at2_1 {p q : PyData} : atI [p, q] 1 = some q := nrfl rfl
@[simp] theorem at3_0 {p q r : PyData} : atI [p, q, r] 0 = some p := nrfl rfl
@[simp] theorem at3_1 {p q r : PyData} : atI [p, q, r] 1 = some q := nrfl rfl
@[simp] theorem at3_2 {p q r : PyData} : atI [p, q, r] 2 = some r := nrfl rfl
theorem fl_enc : Stm.fl.enc = .tuple [.str "false"] := rfl
end My

set_option Elab.async false
set_option maxRecDepth 100000
set_option maxHeartbeats 4000000
set_option linter.all false
namespace My
open PySem L2 DL PyProof.Rows
@[simp] theorem frz_b {b : Bool} : frz (.bool b) = true := nrfl rfl
theorem lc_nil {env : PyData → PEnv} {t : ST} {f : SE} : lcGo env t f [] = .ok [] := rfl
theorem lc_one {env : PyData → PEnv} {f : SE} {d : PyData} {ds : List PyData} {b : Bool} (h : f (env d) = .ok (.bool b)) : lcGo env tTrue f (d :: ds) = (lcGo env tTrue f ds).bind fun ys => .ok (.bool b :: ys) := by
  conv => lhs; unfold lcGo
  rw [tTrue_ap, h]
  cases lcGo env tTrue f ds <;> simp [Res.calm]
theorem neD_str {i j : Str} : neD (.str i) (.str j) = some (.bool (!(i == j))) := nrfl rfl
theorem ne_stm {a b : Stm} (ha : SOk a) (hb : SOk b) : neD a.enc b.enc = some (.bool (!eqs a b)) := by simp only [neD, eq_stm ha hb]
theorem bg1 : (1 : Int) ≤ (big : Nat) := by decide
theorem bg2 : (2 : Int) ≤ (big : Nat) := by decide
theorem bg3 : (3 : Int) ≤ (big : Nat) := by decide
theorem allD2 {p q : Bool} : allD [.list [.bool p, .bool q]] = some (.bool (p && q)) := by cases p <;> cases q <;> rfl
theorem core_one {w a : Row} (hw : w.Ok) (ha : a.Ok) (h : w.r = "one") : sem_by_parts [w.enc, .list [a.enc]] = .ok (.bool (core .one w [a])) ∧ sem_law_ups_right [w.enc, .list [a.enc]] = .ok (.bool (core .one w [a])) := by
  obtain ⟨sg, ss, sr, su⟩ := w
  have hp := is_pair
  have e2 : DL.upTo 0 2 = [.int 0, .int 1] := rfl
  have e3 : DL.upTo 1 2 = [.int 1, .int 2] := rfl
  rcases ss with x | _ | ⟨o, x, y⟩
  · have hws := hw.2.1
    obtain ⟨f0a, f1a, g0a, g1a⟩ := froms ha hw.1
    have has := ha.2.1
    try dsimp only at *
    refine ⟨?_, ?_⟩ <;> (simp only [sem_law_ups_right, bodyD, F_law_ups_right, startD, sem_by_parts, F_by_parts]; simp [h, hp, core, hws, f0a, f1a, g0a, g1a, has, e2, e3, eLc_ap, lc_one, lc_nil, allD2, eq_stm, ne_stm, neD_str, bg1, bg2, bg3, Stm.head, W3.word])
  · have hws := hw.2.1
    obtain ⟨f0a, f1a, g0a, g1a⟩ := froms ha hw.1
    have has := ha.2.1
    try dsimp only at *
    refine ⟨?_, ?_⟩ <;> (simp only [sem_law_ups_right, bodyD, F_law_ups_right, startD, sem_by_parts, F_by_parts]; simp [h, hp, core, hws, f0a, f1a, g0a, g1a, has, e2, e3, eLc_ap, lc_one, lc_nil, allD2, eq_stm, ne_stm, neD_str, bg1, bg2, bg3, Stm.head, W3.word])
  · cases o
    · have hws := hw.2.1
      obtain ⟨f0a, f1a, g0a, g1a⟩ := froms ha hw.1
      have has := ha.2.1
      obtain ⟨okx, oky⟩ := bin_ok (hw.2.1)
      try dsimp only at *
      cases hB0 : fromB a sg x [] <;>
      refine ⟨?_, ?_⟩ <;> (simp only [sem_law_ups_right, bodyD, F_law_ups_right, startD, sem_by_parts, F_by_parts]; simp [h, hp, core, hws, f0a, f1a, g0a, g1a, has, e2, e3, eLc_ap, lc_one, lc_nil, allD2, eq_stm, ne_stm, neD_str, bg1, bg2, bg3, Stm.head, W3.word, okx, oky, hB0])
    · have hws := hw.2.1
      obtain ⟨f0a, f1a, g0a, g1a⟩ := froms ha hw.1
      have has := ha.2.1
      obtain ⟨okx, oky⟩ := bin_ok (hw.2.1)
      try dsimp only at *
      cases hB0 : fromB a sg x [] <;>
      refine ⟨?_, ?_⟩ <;> (simp only [sem_law_ups_right, bodyD, F_law_ups_right, startD, sem_by_parts, F_by_parts]; simp [h, hp, core, hws, f0a, f1a, g0a, g1a, has, e2, e3, eLc_ap, lc_one, lc_nil, allD2, eq_stm, ne_stm, neD_str, bg1, bg2, bg3, Stm.head, W3.word, okx, oky, hB0])
    · have hws := hw.2.1
      obtain ⟨f0a, f1a, g0a, g1a⟩ := froms ha hw.1
      have has := ha.2.1
      obtain ⟨okx, oky⟩ := bin_ok (hw.2.1)
      try dsimp only at *
      cases hB0 : fromB a sg x [] <;>
      refine ⟨?_, ?_⟩ <;> (simp only [sem_law_ups_right, bodyD, F_law_ups_right, startD, sem_by_parts, F_by_parts]; simp [h, hp, core, hws, f0a, f1a, g0a, g1a, has, e2, e3, eLc_ap, lc_one, lc_nil, allD2, eq_stm, ne_stm, neD_str, bg1, bg2, bg3, Stm.head, W3.word, okx, oky, hB0])
end My

set_option Elab.async false
set_option maxRecDepth 100000
set_option maxHeartbeats 4000000
set_option linter.all false
namespace My
open PySem L2 DL PyProof.Rows
theorem core_other {w a : Row} (hw : w.Ok) (ha : a.Ok) (h : w.r = "other") : sem_by_parts [w.enc, .list [a.enc]] = .ok (.bool (core .other w [a])) ∧ sem_law_ups_right [w.enc, .list [a.enc]] = .ok (.bool (core .other w [a])) := by
  obtain ⟨sg, ss, sr, su⟩ := w
  have hp := is_pair
  have e2 : DL.upTo 0 2 = [.int 0, .int 1] := rfl
  have e3 : DL.upTo 1 2 = [.int 1, .int 2] := rfl
  rcases ss with x | _ | ⟨o, x, y⟩
  · have hws := hw.2.1
    obtain ⟨f0a, f1a, g0a, g1a⟩ := froms ha hw.1
    have has := ha.2.1
    try dsimp only at *
    refine ⟨?_, ?_⟩ <;> (simp only [sem_law_ups_right, bodyD, F_law_ups_right, startD, sem_by_parts, F_by_parts]; simp [h, hp, core, hws, f0a, f1a, g0a, g1a, has, e2, e3, eLc_ap, lc_one, lc_nil, allD2, eq_stm, ne_stm, neD_str, bg1, bg2, bg3, Stm.head, W3.word])
  · have hws := hw.2.1
    obtain ⟨f0a, f1a, g0a, g1a⟩ := froms ha hw.1
    have has := ha.2.1
    try dsimp only at *
    refine ⟨?_, ?_⟩ <;> (simp only [sem_law_ups_right, bodyD, F_law_ups_right, startD, sem_by_parts, F_by_parts]; simp [h, hp, core, hws, f0a, f1a, g0a, g1a, has, e2, e3, eLc_ap, lc_one, lc_nil, allD2, eq_stm, ne_stm, neD_str, bg1, bg2, bg3, Stm.head, W3.word])
  · cases o
    · have hws := hw.2.1
      obtain ⟨f0a, f1a, g0a, g1a⟩ := froms ha hw.1
      have has := ha.2.1
      obtain ⟨okx, oky⟩ := bin_ok (hw.2.1)
      try dsimp only at *
      cases hB0 : fromB a sg y [] <;>
      refine ⟨?_, ?_⟩ <;> (simp only [sem_law_ups_right, bodyD, F_law_ups_right, startD, sem_by_parts, F_by_parts]; simp [h, hp, core, hws, f0a, f1a, g0a, g1a, has, e2, e3, eLc_ap, lc_one, lc_nil, allD2, eq_stm, ne_stm, neD_str, bg1, bg2, bg3, Stm.head, W3.word, okx, oky, hB0])
    · have hws := hw.2.1
      obtain ⟨f0a, f1a, g0a, g1a⟩ := froms ha hw.1
      have has := ha.2.1
      obtain ⟨okx, oky⟩ := bin_ok (hw.2.1)
      try dsimp only at *
      cases hB0 : fromB a sg y [] <;>
      refine ⟨?_, ?_⟩ <;> (simp only [sem_law_ups_right, bodyD, F_law_ups_right, startD, sem_by_parts, F_by_parts]; simp [h, hp, core, hws, f0a, f1a, g0a, g1a, has, e2, e3, eLc_ap, lc_one, lc_nil, allD2, eq_stm, ne_stm, neD_str, bg1, bg2, bg3, Stm.head, W3.word, okx, oky, hB0])
    · have hws := hw.2.1
      obtain ⟨f0a, f1a, g0a, g1a⟩ := froms ha hw.1
      have has := ha.2.1
      obtain ⟨okx, oky⟩ := bin_ok (hw.2.1)
      try dsimp only at *
      cases hB0 : fromB a sg y [] <;>
      refine ⟨?_, ?_⟩ <;> (simp only [sem_law_ups_right, bodyD, F_law_ups_right, startD, sem_by_parts, F_by_parts]; simp [h, hp, core, hws, f0a, f1a, g0a, g1a, has, e2, e3, eLc_ap, lc_one, lc_nil, allD2, eq_stm, ne_stm, neD_str, bg1, bg2, bg3, Stm.head, W3.word, okx, oky, hB0])
end My

set_option Elab.async false
set_option maxRecDepth 100000
set_option maxHeartbeats 4000000
set_option linter.all false
namespace My
open PySem L2 DL PyProof.Rows
theorem core_left {w a : Row} (hw : w.Ok) (ha : a.Ok) (h : w.r = "left") : sem_by_parts [w.enc, .list [a.enc]] = .ok (.bool (core .left w [a])) ∧ sem_law_ups_right [w.enc, .list [a.enc]] = .ok (.bool (core .left w [a])) := by
  obtain ⟨sg, ss, sr, su⟩ := a
  have hp := is_pair
  have e2 : DL.upTo 0 2 = [.int 0, .int 1] := rfl
  have e3 : DL.upTo 1 2 = [.int 1, .int 2] := rfl
  rcases ss with x | _ | ⟨o, x, y⟩
  · have hws := hw.2.1
    obtain ⟨f0a, f1a, g0a, g1a⟩ := froms ha hw.1
    have has := ha.2.1
    try dsimp only at *
    cases hB0 : fromB (Row.mk sg (Stm.nm x) sr su) w.g (Stm.nm x) [] <;>
    refine ⟨?_, ?_⟩ <;> (simp only [sem_law_ups_right, bodyD, F_law_ups_right, startD, sem_by_parts, F_by_parts]; simp [h, hp, core, hws, f0a, f1a, g0a, g1a, has, e2, e3, eLc_ap, lc_one, lc_nil, allD2, eq_stm, ne_stm, neD_str, bg1, bg2, bg3, Stm.head, W3.word, hB0])
  · have hws := hw.2.1
    obtain ⟨f0a, f1a, g0a, g1a⟩ := froms ha hw.1
    have has := ha.2.1
    try dsimp only at *
    cases hB0 : fromB (Row.mk sg (Stm.fl) sr su) w.g (Stm.fl) [] <;>
    refine ⟨?_, ?_⟩ <;> (simp only [sem_law_ups_right, bodyD, F_law_ups_right, startD, sem_by_parts, F_by_parts]; simp [h, hp, core, hws, f0a, f1a, g0a, g1a, has, e2, e3, eLc_ap, lc_one, lc_nil, allD2, eq_stm, ne_stm, neD_str, bg1, bg2, bg3, Stm.head, W3.word, hB0])
  · cases o
    · have hws := hw.2.1
      obtain ⟨f0a, f1a, g0a, g1a⟩ := froms ha hw.1
      have has := ha.2.1
      obtain ⟨okx, oky⟩ := bin_ok (ha.2.1)
      try dsimp only at *
      cases hB0 : fromB (Row.mk sg (Stm.bin .an x y) sr su) w.g (Stm.bin .an x y) [] <;>
      cases hB1 : eqs w.s x <;>
      refine ⟨?_, ?_⟩ <;> (simp only [sem_law_ups_right, bodyD, F_law_ups_right, startD, sem_by_parts, F_by_parts]; simp [h, hp, core, hws, f0a, f1a, g0a, g1a, has, e2, e3, eLc_ap, lc_one, lc_nil, allD2, eq_stm, ne_stm, neD_str, bg1, bg2, bg3, Stm.head, W3.word, okx, oky, hB0, hB1])
    · have hws := hw.2.1
      obtain ⟨f0a, f1a, g0a, g1a⟩ := froms ha hw.1
      have has := ha.2.1
      obtain ⟨okx, oky⟩ := bin_ok (ha.2.1)
      try dsimp only at *
      cases hB0 : fromB (Row.mk sg (Stm.bin .orr x y) sr su) w.g (Stm.bin .orr x y) [] <;>
      cases hB1 : eqs w.s x <;>
      refine ⟨?_, ?_⟩ <;> (simp only [sem_law_ups_right, bodyD, F_law_ups_right, startD, sem_by_parts, F_by_parts]; simp [h, hp, core, hws, f0a, f1a, g0a, g1a, has, e2, e3, eLc_ap, lc_one, lc_nil, allD2, eq_stm, ne_stm, neD_str, bg1, bg2, bg3, Stm.head, W3.word, okx, oky, hB0, hB1])
    · have hws := hw.2.1
      obtain ⟨f0a, f1a, g0a, g1a⟩ := froms ha hw.1
      have has := ha.2.1
      obtain ⟨okx, oky⟩ := bin_ok (ha.2.1)
      try dsimp only at *
      cases hB0 : fromB (Row.mk sg (Stm.bin .th x y) sr su) w.g (Stm.bin .th x y) [] <;>
      cases hB1 : eqs w.s x <;>
      refine ⟨?_, ?_⟩ <;> (simp only [sem_law_ups_right, bodyD, F_law_ups_right, startD, sem_by_parts, F_by_parts]; simp [h, hp, core, hws, f0a, f1a, g0a, g1a, has, e2, e3, eLc_ap, lc_one, lc_nil, allD2, eq_stm, ne_stm, neD_str, bg1, bg2, bg3, Stm.head, W3.word, okx, oky, hB0, hB1])
end My

set_option Elab.async false
set_option maxRecDepth 100000
set_option maxHeartbeats 4000000
set_option linter.all false
namespace My
open PySem L2 DL PyProof.Rows
theorem core_right {w a : Row} (hw : w.Ok) (ha : a.Ok) (h : w.r = "right") : sem_by_parts [w.enc, .list [a.enc]] = .ok (.bool (core .right w [a])) ∧ sem_law_ups_right [w.enc, .list [a.enc]] = .ok (.bool (core .right w [a])) := by
  obtain ⟨sg, ss, sr, su⟩ := a
  have hp := is_pair
  have e2 : DL.upTo 0 2 = [.int 0, .int 1] := rfl
  have e3 : DL.upTo 1 2 = [.int 1, .int 2] := rfl
  rcases ss with x | _ | ⟨o, x, y⟩
  · have hws := hw.2.1
    obtain ⟨f0a, f1a, g0a, g1a⟩ := froms ha hw.1
    have has := ha.2.1
    try dsimp only at *
    cases hB0 : fromB (Row.mk sg (Stm.nm x) sr su) w.g (Stm.nm x) [] <;>
    refine ⟨?_, ?_⟩ <;> (simp only [sem_law_ups_right, bodyD, F_law_ups_right, startD, sem_by_parts, F_by_parts]; simp [h, hp, core, hws, f0a, f1a, g0a, g1a, has, e2, e3, eLc_ap, lc_one, lc_nil, allD2, eq_stm, ne_stm, neD_str, bg1, bg2, bg3, Stm.head, W3.word, hB0])
  · have hws := hw.2.1
    obtain ⟨f0a, f1a, g0a, g1a⟩ := froms ha hw.1
    have has := ha.2.1
    try dsimp only at *
    cases hB0 : fromB (Row.mk sg (Stm.fl) sr su) w.g (Stm.fl) [] <;>
    refine ⟨?_, ?_⟩ <;> (simp only [sem_law_ups_right, bodyD, F_law_ups_right, startD, sem_by_parts, F_by_parts]; simp [h, hp, core, hws, f0a, f1a, g0a, g1a, has, e2, e3, eLc_ap, lc_one, lc_nil, allD2, eq_stm, ne_stm, neD_str, bg1, bg2, bg3, Stm.head, W3.word, hB0])
  · cases o
    · have hws := hw.2.1
      obtain ⟨f0a, f1a, g0a, g1a⟩ := froms ha hw.1
      have has := ha.2.1
      obtain ⟨okx, oky⟩ := bin_ok (ha.2.1)
      try dsimp only at *
      cases hB0 : fromB (Row.mk sg (Stm.bin .an x y) sr su) w.g (Stm.bin .an x y) [] <;>
      cases hB1 : eqs w.s y <;>
      refine ⟨?_, ?_⟩ <;> (simp only [sem_law_ups_right, bodyD, F_law_ups_right, startD, sem_by_parts, F_by_parts]; simp [h, hp, core, hws, f0a, f1a, g0a, g1a, has, e2, e3, eLc_ap, lc_one, lc_nil, allD2, eq_stm, ne_stm, neD_str, bg1, bg2, bg3, Stm.head, W3.word, okx, oky, hB0, hB1])
    · have hws := hw.2.1
      obtain ⟨f0a, f1a, g0a, g1a⟩ := froms ha hw.1
      have has := ha.2.1
      obtain ⟨okx, oky⟩ := bin_ok (ha.2.1)
      try dsimp only at *
      cases hB0 : fromB (Row.mk sg (Stm.bin .orr x y) sr su) w.g (Stm.bin .orr x y) [] <;>
      cases hB1 : eqs w.s y <;>
      refine ⟨?_, ?_⟩ <;> (simp only [sem_law_ups_right, bodyD, F_law_ups_right, startD, sem_by_parts, F_by_parts]; simp [h, hp, core, hws, f0a, f1a, g0a, g1a, has, e2, e3, eLc_ap, lc_one, lc_nil, allD2, eq_stm, ne_stm, neD_str, bg1, bg2, bg3, Stm.head, W3.word, okx, oky, hB0, hB1])
    · have hws := hw.2.1
      obtain ⟨f0a, f1a, g0a, g1a⟩ := froms ha hw.1
      have has := ha.2.1
      obtain ⟨okx, oky⟩ := bin_ok (ha.2.1)
      try dsimp only at *
      cases hB0 : fromB (Row.mk sg (Stm.bin .th x y) sr su) w.g (Stm.bin .th x y) [] <;>
      cases hB1 : eqs w.s y <;>
      refine ⟨?_, ?_⟩ <;> (simp only [sem_law_ups_right, bodyD, F_law_ups_right, startD, sem_by_parts, F_by_parts]; simp [h, hp, core, hws, f0a, f1a, g0a, g1a, has, e2, e3, eLc_ap, lc_one, lc_nil, allD2, eq_stm, ne_stm, neD_str, bg1, bg2, bg3, Stm.head, W3.word, okx, oky, hB0, hB1])
end My

set_option Elab.async false
set_option maxRecDepth 100000
set_option maxHeartbeats 4000000
set_option linter.all false
namespace My
open PySem L2 DL PyProof.Rows
theorem core_suppose {w a : Row} (hw : w.Ok) (ha : a.Ok) (h : w.r = "suppose") : sem_by_then [w.enc, .list [a.enc]] = .ok (.bool (core .suppose w [a])) ∧ sem_law_ups_right [w.enc, .list [a.enc]] = .ok (.bool (core .suppose w [a])) := by
  obtain ⟨sg, ss, sr, su⟩ := w
  have hp := is_pair
  have e2 : DL.upTo 0 2 = [.int 0, .int 1] := rfl
  have e3 : DL.upTo 1 2 = [.int 1, .int 2] := rfl
  rcases ss with x | _ | ⟨o, x, y⟩
  · have hws := hw.2.1
    obtain ⟨f0a, f1a, g0a, g1a⟩ := froms ha hw.1
    have has := ha.2.1
    try dsimp only at *
    refine ⟨?_, ?_⟩ <;> (simp only [sem_law_ups_right, bodyD, F_law_ups_right, startD, sem_by_then, F_by_then]; simp [h, hp, core, hws, f0a, f1a, g0a, g1a, has, e2, e3, eLc_ap, lc_one, lc_nil, allD2, eq_stm, ne_stm, neD_str, bg1, bg2, bg3, Stm.head, W3.word])
  · have hws := hw.2.1
    obtain ⟨f0a, f1a, g0a, g1a⟩ := froms ha hw.1
    have has := ha.2.1
    try dsimp only at *
    refine ⟨?_, ?_⟩ <;> (simp only [sem_law_ups_right, bodyD, F_law_ups_right, startD, sem_by_then, F_by_then]; simp [h, hp, core, hws, f0a, f1a, g0a, g1a, has, e2, e3, eLc_ap, lc_one, lc_nil, allD2, eq_stm, ne_stm, neD_str, bg1, bg2, bg3, Stm.head, W3.word])
  · cases o
    · have hws := hw.2.1
      obtain ⟨f0a, f1a, g0a, g1a⟩ := froms ha hw.1
      have has := ha.2.1
      obtain ⟨okx, oky⟩ := bin_ok (hw.2.1)
      try dsimp only at *
      cases hB0 : fromB a sg y [x] <;>
      refine ⟨?_, ?_⟩ <;> (simp only [sem_law_ups_right, bodyD, F_law_ups_right, startD, sem_by_then, F_by_then]; simp [h, hp, core, hws, f0a, f1a, g0a, g1a, has, e2, e3, eLc_ap, lc_one, lc_nil, allD2, eq_stm, ne_stm, neD_str, bg1, bg2, bg3, Stm.head, W3.word, okx, oky, hB0])
    · have hws := hw.2.1
      obtain ⟨f0a, f1a, g0a, g1a⟩ := froms ha hw.1
      have has := ha.2.1
      obtain ⟨okx, oky⟩ := bin_ok (hw.2.1)
      try dsimp only at *
      cases hB0 : fromB a sg y [x] <;>
      refine ⟨?_, ?_⟩ <;> (simp only [sem_law_ups_right, bodyD, F_law_ups_right, startD, sem_by_then, F_by_then]; simp [h, hp, core, hws, f0a, f1a, g0a, g1a, has, e2, e3, eLc_ap, lc_one, lc_nil, allD2, eq_stm, ne_stm, neD_str, bg1, bg2, bg3, Stm.head, W3.word, okx, oky, hB0])
    · have hws := hw.2.1
      obtain ⟨f0a, f1a, g0a, g1a⟩ := froms ha hw.1
      have has := ha.2.1
      obtain ⟨okx, oky⟩ := bin_ok (hw.2.1)
      try dsimp only at *
      cases hB0 : fromB a sg y [x] <;>
      refine ⟨?_, ?_⟩ <;> (simp only [sem_law_ups_right, bodyD, F_law_ups_right, startD, sem_by_then, F_by_then]; simp [h, hp, core, hws, f0a, f1a, g0a, g1a, has, e2, e3, eLc_ap, lc_one, lc_nil, allD2, eq_stm, ne_stm, neD_str, bg1, bg2, bg3, Stm.head, W3.word, okx, oky, hB0])
end My

set_option Elab.async false
set_option maxRecDepth 100000
set_option maxHeartbeats 4000000
set_option linter.all false
namespace My
open PySem L2 DL PyProof.Rows
theorem core_both {w a b : Row} (hw : w.Ok) (ha : a.Ok) (hb : b.Ok) (h : w.r = "both") : sem_by_parts [w.enc, .list [a.enc, b.enc]] = .ok (.bool (core .both w [a, b])) ∧ sem_law_ups_right [w.enc, .list [a.enc, b.enc]] = .ok (.bool (core .both w [a, b])) := by
  obtain ⟨sg, ss, sr, su⟩ := w
  have hp := is_pair
  have e2 : DL.upTo 0 2 = [.int 0, .int 1] := rfl
  have e3 : DL.upTo 1 2 = [.int 1, .int 2] := rfl
  rcases ss with x | _ | ⟨o, x, y⟩
  · have hws := hw.2.1
    obtain ⟨f0a, f1a, g0a, g1a⟩ := froms ha hw.1
    have has := ha.2.1
    obtain ⟨f0b, f1b, g0b, g1b⟩ := froms hb hw.1
    have hbs := hb.2.1
    try dsimp only at *
    refine ⟨?_, ?_⟩ <;> (simp only [sem_law_ups_right, bodyD, F_law_ups_right, startD, sem_by_parts, F_by_parts]; simp [h, hp, core, hws, f0a, f1a, g0a, g1a, has, f0b, f1b, g0b, g1b, hbs, e2, e3, eLc_ap, lc_one, lc_nil, allD2, Res.calm, eq_stm, ne_stm, neD_str, bg1, bg2, bg3, Stm.head, W3.word])
  · have hws := hw.2.1
    obtain ⟨f0a, f1a, g0a, g1a⟩ := froms ha hw.1
    have has := ha.2.1
    obtain ⟨f0b, f1b, g0b, g1b⟩ := froms hb hw.1
    have hbs := hb.2.1
    try dsimp only at *
    refine ⟨?_, ?_⟩ <;> (simp only [sem_law_ups_right, bodyD, F_law_ups_right, startD, sem_by_parts, F_by_parts]; simp [h, hp, core, hws, f0a, f1a, g0a, g1a, has, f0b, f1b, g0b, g1b, hbs, e2, e3, eLc_ap, lc_one, lc_nil, allD2, Res.calm, eq_stm, ne_stm, neD_str, bg1, bg2, bg3, Stm.head, W3.word])
  · cases o
    · have hws := hw.2.1
      obtain ⟨f0a, f1a, g0a, g1a⟩ := froms ha hw.1
      have has := ha.2.1
      obtain ⟨f0b, f1b, g0b, g1b⟩ := froms hb hw.1
      have hbs := hb.2.1
      obtain ⟨okx, oky⟩ := bin_ok (hw.2.1)
      try dsimp only at *
      cases hB0 : fromB a sg x [] <;>
      cases hB1 : fromB b sg y [] <;>
      refine ⟨?_, ?_⟩ <;> (simp only [sem_law_ups_right, bodyD, F_law_ups_right, startD, sem_by_parts, F_by_parts]; simp [h, hp, core, hws, f0a, f1a, g0a, g1a, has, f0b, f1b, g0b, g1b, hbs, e2, e3, eLc_ap, lc_one, lc_nil, allD2, Res.calm, eq_stm, ne_stm, neD_str, bg1, bg2, bg3, Stm.head, W3.word, okx, oky, hB0, hB1])
    · have hws := hw.2.1
      obtain ⟨f0a, f1a, g0a, g1a⟩ := froms ha hw.1
      have has := ha.2.1
      obtain ⟨f0b, f1b, g0b, g1b⟩ := froms hb hw.1
      have hbs := hb.2.1
      obtain ⟨okx, oky⟩ := bin_ok (hw.2.1)
      try dsimp only at *
      cases hB0 : fromB a sg x [] <;>
      cases hB1 : fromB b sg y [] <;>
      refine ⟨?_, ?_⟩ <;> (simp only [sem_law_ups_right, bodyD, F_law_ups_right, startD, sem_by_parts, F_by_parts]; simp [h, hp, core, hws, f0a, f1a, g0a, g1a, has, f0b, f1b, g0b, g1b, hbs, e2, e3, eLc_ap, lc_one, lc_nil, allD2, Res.calm, eq_stm, ne_stm, neD_str, bg1, bg2, bg3, Stm.head, W3.word, okx, oky, hB0, hB1])
    · have hws := hw.2.1
      obtain ⟨f0a, f1a, g0a, g1a⟩ := froms ha hw.1
      have has := ha.2.1
      obtain ⟨f0b, f1b, g0b, g1b⟩ := froms hb hw.1
      have hbs := hb.2.1
      obtain ⟨okx, oky⟩ := bin_ok (hw.2.1)
      try dsimp only at *
      cases hB0 : fromB a sg x [] <;>
      cases hB1 : fromB b sg y [] <;>
      refine ⟨?_, ?_⟩ <;> (simp only [sem_law_ups_right, bodyD, F_law_ups_right, startD, sem_by_parts, F_by_parts]; simp [h, hp, core, hws, f0a, f1a, g0a, g1a, has, f0b, f1b, g0b, g1b, hbs, e2, e3, eLc_ap, lc_one, lc_nil, allD2, Res.calm, eq_stm, ne_stm, neD_str, bg1, bg2, bg3, Stm.head, W3.word, okx, oky, hB0, hB1])
end My

set_option Elab.async false
set_option maxRecDepth 100000
set_option maxHeartbeats 4000000
set_option linter.all false
namespace My
open PySem L2 DL PyProof.Rows
theorem core_onward {w a b : Row} (hw : w.Ok) (ha : a.Ok) (hb : b.Ok) (h : w.r = "onward") : sem_by_then [w.enc, .list [a.enc, b.enc]] = .ok (.bool (core .onward w [a, b])) ∧ sem_law_ups_right [w.enc, .list [a.enc, b.enc]] = .ok (.bool (core .onward w [a, b])) := by
  obtain ⟨sg, ss, sr, su⟩ := a
  have hp := is_pair
  have e2 : DL.upTo 0 2 = [.int 0, .int 1] := rfl
  have e3 : DL.upTo 1 2 = [.int 1, .int 2] := rfl
  rcases ss with x | _ | ⟨o, x, y⟩
  · have hws := hw.2.1
    obtain ⟨f0a, f1a, g0a, g1a⟩ := froms ha hw.1
    have has := ha.2.1
    obtain ⟨f0b, f1b, g0b, g1b⟩ := froms hb hw.1
    have hbs := hb.2.1
    try dsimp only at *
    cases hB0 : fromB (Row.mk sg (Stm.nm x) sr su) w.g (Stm.nm x) [] <;>
    refine ⟨?_, ?_⟩ <;> (simp only [sem_law_ups_right, bodyD, F_law_ups_right, startD, sem_by_then, F_by_then]; simp [h, hp, core, hws, f0a, f1a, g0a, g1a, has, f0b, f1b, g0b, g1b, hbs, e2, e3, eLc_ap, lc_one, lc_nil, allD2, eq_stm, ne_stm, neD_str, bg1, bg2, bg3, Stm.head, W3.word, hB0])
  · have hws := hw.2.1
    obtain ⟨f0a, f1a, g0a, g1a⟩ := froms ha hw.1
    have has := ha.2.1
    obtain ⟨f0b, f1b, g0b, g1b⟩ := froms hb hw.1
    have hbs := hb.2.1
    try dsimp only at *
    cases hB0 : fromB (Row.mk sg (Stm.fl) sr su) w.g (Stm.fl) [] <;>
    refine ⟨?_, ?_⟩ <;> (simp only [sem_law_ups_right, bodyD, F_law_ups_right, startD, sem_by_then, F_by_then]; simp [h, hp, core, hws, f0a, f1a, g0a, g1a, has, f0b, f1b, g0b, g1b, hbs, e2, e3, eLc_ap, lc_one, lc_nil, allD2, eq_stm, ne_stm, neD_str, bg1, bg2, bg3, Stm.head, W3.word, hB0])
  · cases o
    · have hws := hw.2.1
      obtain ⟨f0a, f1a, g0a, g1a⟩ := froms ha hw.1
      have has := ha.2.1
      obtain ⟨f0b, f1b, g0b, g1b⟩ := froms hb hw.1
      have hbs := hb.2.1
      obtain ⟨okx, oky⟩ := bin_ok (ha.2.1)
      try dsimp only at *
      cases hB0 : fromB (Row.mk sg (Stm.bin .an x y) sr su) w.g (Stm.bin .an x y) [] <;>
      cases hB1 : eqs w.s y <;>
      cases hB2 : fromB b w.g x [] <;>
      refine ⟨?_, ?_⟩ <;> (simp only [sem_law_ups_right, bodyD, F_law_ups_right, startD, sem_by_then, F_by_then]; simp [h, hp, core, hws, f0a, f1a, g0a, g1a, has, f0b, f1b, g0b, g1b, hbs, e2, e3, eLc_ap, lc_one, lc_nil, allD2, eq_stm, ne_stm, neD_str, bg1, bg2, bg3, Stm.head, W3.word, okx, oky, hB0, hB1, hB2])
    · have hws := hw.2.1
      obtain ⟨f0a, f1a, g0a, g1a⟩ := froms ha hw.1
      have has := ha.2.1
      obtain ⟨f0b, f1b, g0b, g1b⟩ := froms hb hw.1
      have hbs := hb.2.1
      obtain ⟨okx, oky⟩ := bin_ok (ha.2.1)
      try dsimp only at *
      cases hB0 : fromB (Row.mk sg (Stm.bin .orr x y) sr su) w.g (Stm.bin .orr x y) [] <;>
      cases hB1 : eqs w.s y <;>
      cases hB2 : fromB b w.g x [] <;>
      refine ⟨?_, ?_⟩ <;> (simp only [sem_law_ups_right, bodyD, F_law_ups_right, startD, sem_by_then, F_by_then]; simp [h, hp, core, hws, f0a, f1a, g0a, g1a, has, f0b, f1b, g0b, g1b, hbs, e2, e3, eLc_ap, lc_one, lc_nil, allD2, eq_stm, ne_stm, neD_str, bg1, bg2, bg3, Stm.head, W3.word, okx, oky, hB0, hB1, hB2])
    · have hws := hw.2.1
      obtain ⟨f0a, f1a, g0a, g1a⟩ := froms ha hw.1
      have has := ha.2.1
      obtain ⟨f0b, f1b, g0b, g1b⟩ := froms hb hw.1
      have hbs := hb.2.1
      obtain ⟨okx, oky⟩ := bin_ok (ha.2.1)
      try dsimp only at *
      cases hB0 : fromB (Row.mk sg (Stm.bin .th x y) sr su) w.g (Stm.bin .th x y) [] <;>
      cases hB1 : eqs w.s y <;>
      cases hB2 : fromB b w.g x [] <;>
      refine ⟨?_, ?_⟩ <;> (simp only [sem_law_ups_right, bodyD, F_law_ups_right, startD, sem_by_then, F_by_then]; simp [h, hp, core, hws, f0a, f1a, g0a, g1a, has, f0b, f1b, g0b, g1b, hbs, e2, e3, eLc_ap, lc_one, lc_nil, allD2, eq_stm, ne_stm, neD_str, bg1, bg2, bg3, Stm.head, W3.word, okx, oky, hB0, hB1, hB2])
end My

set_option Elab.async false
set_option maxRecDepth 100000
set_option maxHeartbeats 4000000
set_option linter.all false
namespace My
open PySem L2 DL PyProof.Rows
theorem core_cases {w a b c : Row} (hw : w.Ok) (ha : a.Ok) (hb : b.Ok) (hc : c.Ok) (h : w.r = "cases") : sem_by_cases [w.enc, .list [a.enc, b.enc, c.enc]] = .ok (.bool (core .cases w [a, b, c])) ∧ sem_law_ups_right [w.enc, .list [a.enc, b.enc, c.enc]] = .ok (.bool (core .cases w [a, b, c])) := by
  obtain ⟨sg, ss, sr, su⟩ := a
  have hp := is_pair
  have e2 : DL.upTo 0 2 = [.int 0, .int 1] := rfl
  have e3 : DL.upTo 1 2 = [.int 1, .int 2] := rfl
  rcases ss with x | _ | ⟨o, x, y⟩
  · have hws := hw.2.1
    obtain ⟨f0a, f1a, g0a, g1a⟩ := froms ha hw.1
    have has := ha.2.1
    obtain ⟨f0b, f1b, g0b, g1b⟩ := froms hb hw.1
    have hbs := hb.2.1
    obtain ⟨f0c, f1c, g0c, g1c⟩ := froms hc hw.1
    have hcs := hc.2.1
    try dsimp only at *
    cases hB0 : fromB (Row.mk sg (Stm.nm x) sr su) w.g (Stm.nm x) [] <;>
    refine ⟨?_, ?_⟩ <;> (simp only [sem_law_ups_right, bodyD, F_law_ups_right, startD, sem_by_cases, F_by_cases]; simp [h, hp, core, hws, f0a, f1a, g0a, g1a, has, f0b, f1b, g0b, g1b, hbs, f0c, f1c, g0c, g1c, hcs, e2, e3, eLc_ap, lc_one, lc_nil, allD2, Res.calm, eq_stm, ne_stm, neD_str, bg1, bg2, bg3, Stm.head, W3.word, hB0])
  · have hws := hw.2.1
    obtain ⟨f0a, f1a, g0a, g1a⟩ := froms ha hw.1
    have has := ha.2.1
    obtain ⟨f0b, f1b, g0b, g1b⟩ := froms hb hw.1
    have hbs := hb.2.1
    obtain ⟨f0c, f1c, g0c, g1c⟩ := froms hc hw.1
    have hcs := hc.2.1
    try dsimp only at *
    cases hB0 : fromB (Row.mk sg (Stm.fl) sr su) w.g (Stm.fl) [] <;>
    refine ⟨?_, ?_⟩ <;> (simp only [sem_law_ups_right, bodyD, F_law_ups_right, startD, sem_by_cases, F_by_cases]; simp [h, hp, core, hws, f0a, f1a, g0a, g1a, has, f0b, f1b, g0b, g1b, hbs, f0c, f1c, g0c, g1c, hcs, e2, e3, eLc_ap, lc_one, lc_nil, allD2, Res.calm, eq_stm, ne_stm, neD_str, bg1, bg2, bg3, Stm.head, W3.word, hB0])
  · cases o
    · have hws := hw.2.1
      obtain ⟨f0a, f1a, g0a, g1a⟩ := froms ha hw.1
      have has := ha.2.1
      obtain ⟨f0b, f1b, g0b, g1b⟩ := froms hb hw.1
      have hbs := hb.2.1
      obtain ⟨f0c, f1c, g0c, g1c⟩ := froms hc hw.1
      have hcs := hc.2.1
      obtain ⟨okx, oky⟩ := bin_ok (ha.2.1)
      try dsimp only at *
      cases hB0 : fromB (Row.mk sg (Stm.bin .an x y) sr su) w.g (Stm.bin .an x y) [] <;>
      cases hB1 : fromB b w.g w.s [x] <;>
      cases hB2 : fromB c w.g w.s [y] <;>
      refine ⟨?_, ?_⟩ <;> (simp only [sem_law_ups_right, bodyD, F_law_ups_right, startD, sem_by_cases, F_by_cases]; simp [h, hp, core, hws, f0a, f1a, g0a, g1a, has, f0b, f1b, g0b, g1b, hbs, f0c, f1c, g0c, g1c, hcs, e2, e3, eLc_ap, lc_one, lc_nil, allD2, Res.calm, eq_stm, ne_stm, neD_str, bg1, bg2, bg3, Stm.head, W3.word, okx, oky, hB0, hB1, hB2])
    · have hws := hw.2.1
      obtain ⟨f0a, f1a, g0a, g1a⟩ := froms ha hw.1
      have has := ha.2.1
      obtain ⟨f0b, f1b, g0b, g1b⟩ := froms hb hw.1
      have hbs := hb.2.1
      obtain ⟨f0c, f1c, g0c, g1c⟩ := froms hc hw.1
      have hcs := hc.2.1
      obtain ⟨okx, oky⟩ := bin_ok (ha.2.1)
      try dsimp only at *
      cases hB0 : fromB (Row.mk sg (Stm.bin .orr x y) sr su) w.g (Stm.bin .orr x y) [] <;>
      cases hB1 : fromB b w.g w.s [x] <;>
      cases hB2 : fromB c w.g w.s [y] <;>
      refine ⟨?_, ?_⟩ <;> (simp only [sem_law_ups_right, bodyD, F_law_ups_right, startD, sem_by_cases, F_by_cases]; simp [h, hp, core, hws, f0a, f1a, g0a, g1a, has, f0b, f1b, g0b, g1b, hbs, f0c, f1c, g0c, g1c, hcs, e2, e3, eLc_ap, lc_one, lc_nil, allD2, Res.calm, eq_stm, ne_stm, neD_str, bg1, bg2, bg3, Stm.head, W3.word, okx, oky, hB0, hB1, hB2])
    · have hws := hw.2.1
      obtain ⟨f0a, f1a, g0a, g1a⟩ := froms ha hw.1
      have has := ha.2.1
      obtain ⟨f0b, f1b, g0b, g1b⟩ := froms hb hw.1
      have hbs := hb.2.1
      obtain ⟨f0c, f1c, g0c, g1c⟩ := froms hc hw.1
      have hcs := hc.2.1
      obtain ⟨okx, oky⟩ := bin_ok (ha.2.1)
      try dsimp only at *
      cases hB0 : fromB (Row.mk sg (Stm.bin .th x y) sr su) w.g (Stm.bin .th x y) [] <;>
      cases hB1 : fromB b w.g w.s [x] <;>
      cases hB2 : fromB c w.g w.s [y] <;>
      refine ⟨?_, ?_⟩ <;> (simp only [sem_law_ups_right, bodyD, F_law_ups_right, startD, sem_by_cases, F_by_cases]; simp [h, hp, core, hws, f0a, f1a, g0a, g1a, has, f0b, f1b, g0b, g1b, hbs, f0c, f1c, g0c, g1c, hcs, e2, e3, eLc_ap, lc_one, lc_nil, allD2, Res.calm, eq_stm, ne_stm, neD_str, bg1, bg2, bg3, Stm.head, W3.word, okx, oky, hB0, hB1, hB2])
end My

set_option Elab.async false
set_option maxRecDepth 100000
set_option maxHeartbeats 4000000
set_option linter.all false
namespace My
open PySem L2 DL PyProof.Rows
def kinds : List Rule := [.given, .both, .left, .right, .one, .other, .cases, .suppose, .onward, .any]
/-- the rule of a word -/
def ruleOf (z : Str) : Option Rule := kinds.find? fun k => k.word == z
theorem ruleOf_word {z : Str} {k : Rule} (h : ruleOf z = some k) : z = k.word := by
  have := List.find?_some h
  exact (eq_of_beq this).symm
def countD (z : Str) : PyData := match ruleOf z with
  | some k => .int k.count
  | none => .none
def pairD (k : Rule) : PyData := .tuple [.str k.word, .int k.count]
theorem count_go (z : Str) : ∀ (ks : List Rule) (x y : Option PyData), ∃ ρ', forGo (gT 2 (gsCons (gN 1) (gsCons (gN 2) gsNil))) (sIf (asT (eOp eqD (eVar 1) (eVar 0))) (sRet (eVar 2)) sNext) (ks.map pairD) [some (.str z), x, y] =
    match ks.find? fun k => k.word == z with
    | some k => .ok (.rt (.int k.count))
    | none => .ok (.nx ρ')
  | [], x, y => ⟨_, rfl⟩
  | k :: ks, x, y => by
    obtain ⟨ρ', ih⟩ := count_go z ks (some (.str k.word)) (some (.int k.count))
    refine ⟨ρ', ?_⟩
    simp only [List.map_cons, List.find?_cons]
    unfold forGo
    cases hz : k.word == z with
    | true => simp [pairD, beq_iff_eq.mp hz]
    | false =>
      have hz' : ¬ k.word = z := by simpa using hz
      simp [pairD, hz', ih]
theorem count_of (z : Str) : sem_count_of [.str z] = .ok (countD z) := by
  have ea : addD gl_COUNTS gl_MORE_COUNTS = some (.tuple (kinds.map pairD)) := rfl
  obtain ⟨ρ', h⟩ := count_go z kinds none none
  have hl : (kinds.map pairD).length ≤ big := by decide
  simp only [sem_count_of, bodyD, F_count_of, startD]
  simp only [countD, ruleOf]
  generalize kinds.map pairD = ks at *
  simp [ea, sFor_ap, hl, h]
  cases kinds.find? fun k => k.word == z <;> rfl
theorem counts_kv : kvD (mergeK (mergeK [] [(Sum.inr "given", V.int 0), (Sum.inr "both", V.int 2), (Sum.inr "left", V.int 1), (Sum.inr "right", V.int 1), (Sum.inr "one", V.int 1), (Sum.inr "other", V.int 1)]) (mergeK [] [(Sum.inr "cases", V.int 3), (Sum.inr "suppose", V.int 1), (Sum.inr "onward", V.int 2), (Sum.inr "any", V.int 1)])) = kinds.map fun k => (.str k.word, .int k.count) := rfl
theorem look_go (z : Str) : ∀ ks : List Rule, lookS (ks.map fun k => (.str k.word, .int k.count)) z = (ks.find? fun k => k.word == z).map fun k => .int k.count
  | [] => rfl
  | k :: ks => by
    have ih := look_go z ks
    simp only [lookS, List.map_cons, List.find?_cons] at ih ⊢
    by_cases h : k.word = z
    · simp [h]
    · have hb : (k.word == z) = false := by simpa using h
      simp only [hb]
      simpa [h] using ih
theorem counts_get (z : Str) (d : PyData) : getD2 (kinds.map fun k => (.str k.word, .int k.count)) (.str z) d = some (match ruleOf z with
    | some k => .int k.count
    | none => d) := by
  simp only [getD2, look_go, ruleOf]
  cases kinds.find? fun k => k.word == z <;> rfl
theorem ne_none (l : Int) : neD .none (.int l) = some (.bool true) := rfl
mutual
theorem frz_stm : ∀ s : Stm, frz s.enc = true
  | .nm _ => rfl
  | .fl => rfl
  | .bin o a b => by
    simp only [Stm.enc, frz, frzs, frz_stm a, frz_stm b]
    rfl
end
theorem frzs_encs : ∀ gs : List Stm, frzs (encs gs) = true
  | [] => rfl
  | g :: gs => by
    show (frz g.enc && frzs (encs gs)) = true
    rw [frz_stm, frzs_encs gs]; rfl
theorem frzs_nums : ∀ us : List Int, frzs (nums us) = true
  | [] => rfl
  | g :: gs => by
    show (frz (.int g) && frzs (nums gs)) = true
    rw [frzs_nums gs]; rfl
theorem frz_row (w : Row) : frz w.enc = true := by
  simp only [Row.enc, frz, frzs, frz_stm, frzs_encs, frzs_nums]
  rfl
def rows (rs : List Row) : List PyData := rs.map Row.enc
theorem rows_at {rs : List Row} {n : Nat} {w : Row} (h : rs[n]? = some w) : atI (rows rs) (n : Nat) = some w.enc := atI_nat (by rw [rows, List.getElem?_map, h]; rfl)
def upsOf (rs : List Row) (w : Row) : List Row := w.u.map fun i => (rs[i.toNat]?).getD w
def inR (us : List Int) (n : Int) : Bool := us.all fun i => decide (0 ≤ i ∧ i < n)
def fol (rs : List Row) (n : Nat) : Bool := match rs[n]? with
  | none => false
  | some w => match ruleOf w.r with
    | none => false
    | some k => decide (k.count = w.u.length) && (inR w.u n && core k w (upsOf rs w))
theorem core_given {w : Row} {us : List PyData} (hw : w.Ok) (h : w.r = "given") : sem_law_ups_right [w.enc, .list us] = .ok (.bool (inS w.s w.g)) := by
  have hi := in_tup hw.2.1 hw.1
  simp only [sem_law_ups_right, bodyD, F_law_ups_right, startD]
  simp [h, hi]
theorem core_any {w a : Row} (hw : w.Ok) (ha : a.Ok) (h : w.r = "any") : sem_law_ups_right [w.enc, .list [a.enc]] = .ok (.bool (fromB a w.g .fl [])) := by
  obtain ⟨f0, f1, g0, g1⟩ := froms ha hw.1
  have gf := g0 .fl fl_ok
  rw [fl_enc] at gf
  simp only [sem_law_ups_right, bodyD, F_law_ups_right, startD]
  simp [h, gf]
end My

set_option Elab.async false
set_option maxRecDepth 100000
set_option maxHeartbeats 4000000
set_option linter.all false
namespace My
open PySem L2 DL PyProof.Rows
theorem guard_go (us : List Int) (n : Int) (f : SE) (env : PyData → PEnv) (hf : ∀ i : Int, f (env (.int i)) = .ok (.bool (decide (0 ≤ i ∧ i < n)))) : lcGo env tTrue f (nums us) = .ok ((us.map fun i => decide (0 ≤ i ∧ i < n)).map PyData.bool) := by
  rw [lcGo_map (v := fun d => match d with | .int i => .bool (decide (0 ≤ i ∧ i < n)) | _ => .none) (by
    intro d hd
    obtain ⟨i, _, rfl⟩ := List.mem_map.mp hd
    exact ⟨rfl, hf i, rfl⟩)]
  simp only [nums, List.map_map]
  rfl
theorem guard_all (us : List Int) (n : Int) : allD [.list ((us.map fun i => decide (0 ≤ i ∧ i < n)).map PyData.bool)] = some (.bool (inR us n)) := by
  simp only [allD, bools_bl, Option.map_some, List.all_map]
  rfl
theorem ups_go {rs : List Row} {w : Row} {n : Nat} (hn : n < rs.length) (hu : inR w.u n = true) (f : SE) (env : PyData → PEnv) (hf : ∀ (i : Nat) (r : Row), rs[i]? = some r → f (env (.int (i : Nat))) = .ok r.enc) :
    lcGo env tTrue f (nums w.u) = .ok ((upsOf rs w).map Row.enc) := by
  rw [lcGo_map (v := fun d => match d with | .int i => ((rs[i.toNat]?).getD w).enc | _ => .none) (by
    intro d hd
    obtain ⟨i, hi, rfl⟩ := List.mem_map.mp hd
    have h := of_decide_eq_true (List.all_eq_true.mp hu i hi)
    have hl : i.toNat < rs.length := by omega
    have q := hf i.toNat rs[i.toNat] (List.getElem?_eq_getElem hl)
    rw [Int.toNat_of_nonneg h.1] at q
    refine ⟨rfl, ?_, frz_row _⟩
    rw [q]
    show Res.ok _ = Res.ok ((rs[i.toNat]?).getD w).enc
    rw [List.getElem?_eq_getElem hl]
    rfl)]
  simp only [nums, upsOf, List.map_map]
  rfl
theorem ups_ok {rs : List Row} {w : Row} (hr : ∀ r ∈ rs, r.Ok) (hw : w.Ok) : ∀ r ∈ upsOf rs w, r.Ok := fun r h => by
  obtain ⟨i, _, rfl⟩ := List.mem_map.mp h
  cases e : rs[i.toNat]? with
  | none => exact hw
  | some r => exact hr r (List.mem_of_getElem? e)
theorem len1 {α : Type} {xs : List α} (h : xs.length = 1) : ∃ a, xs = [a] := by
  match xs, h with
  | [a], _ => exact ⟨a, rfl⟩
theorem len2 {α : Type} {xs : List α} (h : xs.length = 2) : ∃ a b, xs = [a, b] := by
  match xs, h with
  | [a, b], _ => exact ⟨a, b, rfl⟩
theorem len3 {α : Type} {xs : List α} (h : xs.length = 3) : ∃ a b c, xs = [a, b, c] := by
  match xs, h with
  | [a, b, c], _ => exact ⟨a, b, c, rfl⟩
/-- the law's look at the rows ahead -/
theorem law_core {k : Rule} {w : Row} {ups : List Row} (hw : w.Ok) (hu : ∀ r ∈ ups, r.Ok) (hl : ups.length = k.count) (h : w.r = k.word) : sem_law_ups_right [w.enc, .list (ups.map Row.enc)] = .ok (.bool (core k w ups)) := by
  cases k with
  | given => rw [core_given hw h]; cases ups <;> rfl
  | any => obtain ⟨a, rfl⟩ := len1 hl; exact core_any hw (hu a (by simp)) h
  | both => obtain ⟨a, b, rfl⟩ := len2 hl; exact (core_both hw (hu a (by simp)) (hu b (by simp)) h).2
  | left => obtain ⟨a, rfl⟩ := len1 hl; exact (core_left hw (hu a (by simp)) h).2
  | right => obtain ⟨a, rfl⟩ := len1 hl; exact (core_right hw (hu a (by simp)) h).2
  | one => obtain ⟨a, rfl⟩ := len1 hl; exact (core_one hw (hu a (by simp)) h).2
  | other => obtain ⟨a, rfl⟩ := len1 hl; exact (core_other hw (hu a (by simp)) h).2
  | cases => obtain ⟨a, b, c, rfl⟩ := len3 hl; exact (core_cases hw (hu a (by simp)) (hu b (by simp)) (hu c (by simp)) h).2
  | suppose => obtain ⟨a, rfl⟩ := len1 hl; exact (core_suppose hw (hu a (by simp)) h).2
  | onward => obtain ⟨a, b, rfl⟩ := len2 hl; exact (core_onward hw (hu a (by simp)) (hu b (by simp)) h).2
theorem rows_len (rs : List Row) : (rows rs).length = rs.length := List.length_map _
theorem law_follows {rs : List Row} (hr : ∀ r ∈ rs, r.Ok) {n : Nat} (hn : n < rs.length) : sem_law_follows [.list (rows rs), .int (n : Nat)] = .ok (.bool (fol rs n)) := by
  obtain ⟨w, hw⟩ : ∃ w, rs[n]? = some w := ⟨_, List.getElem?_eq_getElem hn⟩
  have ok := hr w (List.mem_of_getElem? hw)
  have hat := rows_at hw
  have hul : w.u.length ≤ big := Nat.le_trans ok.2.2.2 (by decide)
  simp only [sem_law_follows, bodyD, F_law_follows, startD]
  simp only [counts_kv]
  simp only [fol, hw]
  generalize hk : kinds.map (fun k => (PyData.str k.word, PyData.int k.count)) = kv
  have hg := counts_get w.r (.int 99)
  rw [hk] at hg
  cases hR : ruleOf w.r with
  | none =>
    have h99 : ¬ (99 : Int) = w.u.length := by have := ok.2.2.2; omega
    simp only [hR] at hg
    simp [hat, hg, h99]
  | some k =>
    simp only [hR] at hg
    by_cases hc : k.count = w.u.length
    · have hc' : (k.count : Int) = w.u.length := by omega
      simp [hat, hg, hc', eLc_ap, hul]
      rw [guard_go w.u n _ _ (fun i => by
        simp
        by_cases h0 : 0 ≤ i <;> simp [h0])]
      simp only [Res.calm, Res.ok_bind, guard_all, Res.of_some]
      cases hu : inR w.u n with
      | false => simp [hc]
      | true =>
        simp
        rw [ups_go hn hu _ _ (fun i r hi => by
          have := rows_at hi
          simp [this])]
        have hl := law_core ok (ups_ok hr ok) (by rw [upsOf, List.length_map]; exact hc.symm) (ruleOf_word hR)
        simp [Res.calm, hl, hc, hul]
    · have hc' : ¬ (k.count : Int) = w.u.length := by omega
      simp [hat, hg, hc, hc']
/-- the program's -/
theorem follows {rs : List Row} (hr : ∀ r ∈ rs, r.Ok) {n : Nat} (hn : n < rs.length) : sem_follows [.list (rows rs), .int (n : Nat)] = .ok (.bool (fol rs n)) := by
  obtain ⟨w, hw⟩ : ∃ w, rs[n]? = some w := ⟨_, List.getElem?_eq_getElem hn⟩
  have ok := hr w (List.mem_of_getElem? hw)
  have hat := rows_at hw
  have hul : w.u.length ≤ big := Nat.le_trans ok.2.2.2 (by decide)
  have hg := count_of w.r
  simp only [sem_follows, bodyD, F_follows, startD]
  simp only [fol, hw]
  cases hR : ruleOf w.r with
  | none =>
    simp only [countD, hR] at hg
    simp [hat, hg, ne_none]
  | some k =>
    simp only [countD, hR] at hg
    by_cases hc : k.count = w.u.length
    · have hc' : (k.count : Int) = w.u.length := by omega
      simp [hat, hg, hc', eLc_ap, hul]
      rw [guard_go w.u n _ _ (fun i => by
        simp
        by_cases h0 : 0 ≤ i <;> simp [h0])]
      simp only [Res.calm, Res.ok_bind, guard_all, Res.of_some]
      cases hu : inR w.u n with
      | false => simp [hc]
      | true =>
        simp
        rw [ups_go hn hu _ _ (fun i r hi => by
          have := rows_at hi
          simp [this])]
        have hwr := ruleOf_word hR
        have hok := ups_ok hr ok
        have hl : (upsOf rs w).length = k.count := by rw [upsOf, List.length_map]; exact hc.symm
        generalize upsOf rs w = ups at *
        have hin := in_tup ok.2.1 ok.1
        simp only [Res.calm, Res.ok_bind]
        cases k with
        | given =>
          simp only [Rule.word] at hwr
          simp [hwr, hc, hul, hin]
          cases ups <;> rfl
        | any =>
          obtain ⟨a, rfl⟩ := len1 hl
          have f := (froms (hok a (by simp)) ok.1).1 .fl fl_ok
          rw [fl_enc] at f
          simp only [Rule.word] at hwr
          simp [hwr, hc, hul, f, core]
        | both => obtain ⟨a, b, rfl⟩ := len2 hl; have q := (core_both ok (hok a (by simp)) (hok b (by simp)) hwr).1; simp only [Rule.word] at hwr; simp [hwr, hc, hul, q]
        | left => obtain ⟨a, rfl⟩ := len1 hl; have q := (core_left ok (hok a (by simp)) hwr).1; simp only [Rule.word] at hwr; simp [hwr, hc, hul, q]
        | right => obtain ⟨a, rfl⟩ := len1 hl; have q := (core_right ok (hok a (by simp)) hwr).1; simp only [Rule.word] at hwr; simp [hwr, hc, hul, q]
        | one => obtain ⟨a, rfl⟩ := len1 hl; have q := (core_one ok (hok a (by simp)) hwr).1; simp only [Rule.word] at hwr; simp [hwr, hc, hul, q]
        | other => obtain ⟨a, rfl⟩ := len1 hl; have q := (core_other ok (hok a (by simp)) hwr).1; simp only [Rule.word] at hwr; simp [hwr, hc, hul, q]
        | cases => obtain ⟨a, b, c, rfl⟩ := len3 hl; have q := (core_cases ok (hok a (by simp)) (hok b (by simp)) (hok c (by simp)) hwr).1; simp only [Rule.word] at hwr; simp [hwr, hc, hul, q]
        | suppose => obtain ⟨a, rfl⟩ := len1 hl; have q := (core_suppose ok (hok a (by simp)) hwr).1; simp only [Rule.word] at hwr; simp [hwr, hc, hul, q]
        | onward => obtain ⟨a, b, rfl⟩ := len2 hl; have q := (core_onward ok (hok a (by simp)) (hok b (by simp)) hwr).1; simp only [Rule.word] at hwr; simp [hwr, hc, hul, q]
    · have hc' : ¬ (k.count : Int) = w.u.length := by omega
      simp [hat, hg, hc, hc']
end My

set_option Elab.async false
set_option maxRecDepth 100000
set_option maxHeartbeats 4000000
set_option linter.all false
namespace My
open PySem L2 DL PyProof.Rows
def RN (w : Row) : Prop := w.Ok ∧ Nice (.str w.r) 0
theorem row_nice {w : Row} (h : RN w) : Nice w.enc 44 := by
  have h1 : Nice (.tuple (encs w.g)) 43 := nice_tup.mpr (nices_mem.mpr fun d hd => (nices_mem.mp (encs_nice h.1.1) d hd).mono (by decide))
  have h2 : Nices (nums w.u) 42 := nices_mem.mpr fun d hd => by
    obtain ⟨i, _, rfl⟩ := List.mem_map.mp hd
    exact ⟨rfl, Nat.zero_le _, rfl⟩
  exact nice_tup.mpr (nices_cons.mpr ⟨h1, nices_cons.mpr ⟨(s_nice h.1.2.1).mono (by decide), nices_cons.mpr ⟨h.2.mono (by decide), nices_cons.mpr ⟨nice_tup.mpr h2, nices_nil _⟩⟩⟩⟩)
theorem rows_nice {rs : List Row} (h : ∀ r ∈ rs, RN r) : Nices (rows rs) 44 := nices_mem.mpr fun d hd => by
  obtain ⟨w, hw, rfl⟩ := List.mem_map.mp hd
  exact row_nice (h w hw)
theorem eq_same {xs : List PyData} {k : Nat} (h : Nices xs k) (hk : k ≤ 63) : eqD (.list xs) (.list xs) = some (.bool true) := by
  have e1 := nice_shaped (nice_lst.mpr h) (by omega)
  have e2 : eqD (.list xs) (.list xs) = if SeqAt.shaped (.list xs) && SeqAt.shaped (.list xs) then some (.bool (PyData.eqv (.list xs) (.list xs))) else none := rfl
  have e3 : PyData.eqv (.list xs) (.list xs) = true := PySem.SeqAt.eqv_refl _ (nice_lst.mpr h).1
  simp only [e2, e1, e3]
  rfl
theorem ne_same {xs : List PyData} {k : Nat} (h : Nices xs k) (hk : k ≤ 63) : neD (.list xs) (.list xs) = some (.bool false) := by
  unfold neD
  rw [eq_same h hk]
  rfl
def natOf : PyData → Nat
  | .int i => i.toNat
  | _ => 0
theorem mem_up {n : Nat} {d : PyData} (h : d ∈ DL.upTo 0 n) : ∃ i : Nat, i < n ∧ d = .int (i : Nat) ∧ natOf d = i := by
  obtain ⟨i, hi, rfl⟩ := mem_upTo.mp h
  refine ⟨i, hi, by rw [Int.zero_add], by simp [natOf]⟩
theorem big40 {n : Nat} (h : n ≤ 40) : -(big : Int) ≤ n ∧ (n : Int) ≤ big := by simp only [big]; omega
/-- the numbers of the rows that don't follow, of the first n -/
def badP (rs : List Row) : PyData → Bool := fun d => !fol rs (natOf d)
def bads (rs : List Row) (n : Nat) : List PyData := (DL.upTo 0 n).filter (badP rs)
theorem bads_nice (rs : List Row) (n : Nat) : Nices (bads rs n) 0 := nices_mem.mpr fun d hd => by
  obtain ⟨i, _, rfl, _⟩ := mem_up (List.mem_filter.mp hd).1
  exact ⟨rfl, Nat.zero_le _, rfl⟩
theorem frzs_of {xs : List PyData} (h : ∀ d ∈ xs, frz d = true) : frzs xs = true := by
  induction xs with
  | nil => rfl
  | cons d ds ih => simp [frzs, h d List.mem_cons_self, ih fun e he => h e (List.mem_cons_of_mem _ he)]
theorem bads_frz (rs : List Row) (n : Nat) : frzs (bads rs n) = true := frzs_of fun d hd => by
  obtain ⟨i, _, rfl, _⟩ := mem_up (List.mem_filter.mp hd).1
  rfl
theorem bads_len (rs : List Row) (n : Nat) : (bads rs n).length ≤ n := by
  have := List.length_filter_le (badP rs) (DL.upTo 0 n)
  rwa [upTo_len] at this
theorem faults {rs : List Row} (hr : ∀ r ∈ rs, RN r) (hl : rs.length ≤ 40) : sem_faults [.list (rows rs)] = .ok (.list (bads rs rs.length)) := by
  have hb := big40 hl
  have hok : ∀ r ∈ rs, r.Ok := fun r h => (hr r h).1
  simp only [sem_faults, bodyN, F_faults, startD]
  simp [eLc_ap, rows_len, hb, upTo_len, big_ge (show rs.length ≤ 1000 by omega)]
  rw [lcGo_filter (p := badP rs) (v := id) (by
    intro d hd
    obtain ⟨i, hi, rfl, hn⟩ := mem_up hd
    have := follows hok hi
    exact ⟨by simp [this, badP, natOf], fun _ => ⟨by simp, rfl⟩⟩)]
  simp [Res.calm, bads]
/-! bounds -/
def RQ (b : Nat) (w : Row) : Prop := (∀ x ∈ w.g, SOk x) ∧ SOk w.s ∧ w.g.length ≤ 10 + b ∧ w.u.length ≤ 10 + b ∧ w.r.length ≤ 20 + b ∧ ∀ c ∈ w.r.cps.toList, c < 128
theorem RQ.rn {b : Nat} {w : Row} (h : RQ b w) (hb : b ≤ 10) : RN w := by
  obtain ⟨h1, h2, h3, h4, h5, h6⟩ := h
  exact ⟨⟨h1, h2, by omega, by omega⟩, nice_str (by omega) fun c hc => Nat.lt_of_lt_of_le (h6 c hc) (by decide)⟩
theorem RQ.mono {b c : Nat} {w : Row} (h : RQ b w) (hb : b ≤ c) : RQ c w := by
  obtain ⟨h1, h2, h3, h4, h5, h6⟩ := h
  exact ⟨h1, h2, by omega, by omega, by omega, h6⟩
theorem cut_map (rs : List Row) (lo hi : Option Int) : cutP (rows rs) lo hi = rows (cutP rs lo hi) := by
  simp [cutP, rows, List.map_take, List.map_drop]
theorem cut_mem {α : Type} {rs : List α} {lo hi : Option Int} {r : α} (h : r ∈ cutP rs lo hi) : r ∈ rs := List.mem_of_mem_drop (List.mem_of_mem_take h)
theorem cut_le {α : Type} (rs : List α) (lo hi : Option Int) : (cutP rs lo hi).length ≤ rs.length := by
  simp only [cutP, List.length_take, List.length_drop]; omega
theorem menu {P : PyData → Prop} {xs : List PyData} {i : Int} (h0 : 0 ≤ i) (h1 : i < xs.length) (hp : ∀ d ∈ xs, P d) : ∃ d, atI xs i = some d ∧ P d := by
  have hi : i.toNat < xs.length := by omega
  have q : atI xs ((i.toNat : Nat) : Int) = some xs[i.toNat] := atI_nat (List.getElem?_eq_getElem hi)
  rw [Int.toNat_of_nonneg h0] at q
  exact ⟨_, q, hp _ (List.getElem_mem hi)⟩
/-! a small statement -/
def Sm (d : PyData) : Prop := ∃ s : Stm, d = s.enc ∧ s.Ok ∧ s.depth ≤ 3
def W3d (d : PyData) : Prop := ∃ o : W3, d = .str o.word
theorem words_menu (i : Int) : ∃ o : W3, atI [PyData.str "and", .str "or", .str "then"] (i % 3) = some (.str o.word) := by
  obtain ⟨d, h1, o, rfl⟩ := menu (P := W3d) (xs := [PyData.str "and", .str "or", .str "then"]) (i := i % 3) (by omega) (by simp; omega) (by
    intro d hd
    simp only [List.mem_cons, List.not_mem_nil, or_false] at hd
    rcases hd with rfl | rfl | rfl
    · exact ⟨.an, rfl⟩
    · exact ⟨.orr, rfl⟩
    · exact ⟨.th, rfl⟩)
  exact ⟨o, h1⟩
theorem part_by (s c : Int) : ∃ st : Stm, sem_law_part_by [.int s, .int c] = .ok st.enc ∧ st.Ok ∧ st.depth ≤ 3 := by
  obtain ⟨w, hw, hwo⟩ := name_by s (c % 3)
  obtain ⟨w2, hw2, hwo2⟩ := name_by s (c / 12 % 3)
  obtain ⟨o, ho⟩ := words_menu (c / 108)
  have hb1 : (1 : Nat) ≤ big := by decide
  have hb2 : (2 : Nat) ≤ big := by decide
  have hb3 : (3 : Nat) ≤ big := by decide
  obtain ⟨d, hd, s2, rfl, hs1, hs2⟩ := menu (P := fun d => ∃ s : Stm, d = s.enc ∧ s.Ok ∧ s.depth ≤ 2) (xs := [PyData.tuple [.str "false"], .tuple [.str "name", .str w2], .tuple [.str "or", .tuple [.str "name", .str w], .tuple [.str "false"]]]) (i := c / 36 % 3) (by omega) (by simp; omega) (by
    intro d hd
    simp only [List.mem_cons, List.not_mem_nil, or_false] at hd
    rcases hd with rfl | rfl | rfl
    · exact ⟨.fl, rfl, trivial, by decide⟩
    · exact ⟨.nm w2, rfl, hwo2, Nat.le_of_ble_eq_true rfl⟩
    · exact ⟨.bin .orr (.nm w) .fl, rfl, ⟨hwo, trivial⟩, Nat.le_of_ble_eq_true rfl⟩)
  unfold sem_law_part_by F_law_part_by
  by_cases h0 : c / 3 % 4 = 0
  · exact ⟨.nm w, by simp [bodyD, startD, hw, hb2, h0, Stm.enc], hwo, Nat.le_of_ble_eq_true rfl⟩
  · by_cases h1 : c / 3 % 4 = 1
    · exact ⟨.fl, by simp [bodyD, startD, hw, hb1, hb2, h0, h1, Stm.enc], trivial, Nat.le_of_ble_eq_true rfl⟩
    · refine ⟨.bin o (.nm w) s2, by simp [bodyD, startD, hw, hw2, hb1, hb2, hb3, h0, h1, hd, ho, Stm.enc], ⟨hwo, hs1⟩, ?_⟩
      simp only [Stm.depth]
      omega
end My

set_option Elab.async false
set_option maxRecDepth 100000
set_option maxHeartbeats 4000000
set_option linter.all false
namespace My
open PySem L2 DL PyProof.Rows
theorem nums_cut (us : List Int) (lo hi : Option Int) : DL.cutD lo hi (.tuple (nums us)) = some (.tuple (nums (cutP us lo hi))) := by
  show some (PyData.tuple (cutP (nums us) lo hi)) = _
  simp [cutP, nums, List.map_take, List.map_drop]
theorem nums_add {us vs : List Int} (h : us.length + vs.length ≤ 1000) : addD (.tuple (nums us)) (.tuple (nums vs)) = some (.tuple (nums (us ++ vs))) := by
  have e : addD (.tuple (nums us)) (.tuple (nums vs)) = some (.tuple (nums us ++ nums vs)) := if_pos (by rw [nums_len, nums_len]; exact Nat.le_trans h (by decide))
  rw [e, nums, nums, nums, List.map_append]
theorem nums_addL {us : List Int} {ds : List PyData} (vs : List Int) (e : ds = nums vs) (h : us.length + vs.length ≤ 1000) : addD (.tuple (nums us)) (.tuple ds) = some (.tuple (nums (us ++ vs))) := by
  rw [e]
  exact nums_add h
theorem nums_at {us : List Int} {i : Int} (h0 : 0 ≤ i) (h1 : i < us.length) : ∃ z, atI (nums us) i = some (.int z) := by
  obtain ⟨d, hd, z, rfl⟩ := menu (P := fun d => ∃ z : Int, d = .int z) (xs := nums us) h0 (by rw [nums_len]; exact h1) (fun d hd => by
    obtain ⟨z, _, rfl⟩ := List.mem_map.mp hd
    exact ⟨z, rfl⟩)
  exact ⟨z, hd⟩
theorem pow1012 : ∃ t, powD (.int 10) (.int 12) = some (.int t) := ⟨_, show (if 0 ≤ (12 : Int) ∧ (12 : Int) ≤ 1000000 ∧ (10 : Int).natAbs < 2 ^ 64 then some (PyData.int ((10 : Int) ^ (12 : Int).toNat)) else none) = some (PyData.int ((10 : Int) ^ (12 : Int).toNat)) from if_pos (by decide)⟩
theorem wrong_ups (us : List Int) (hl : us.length ≤ 100) (t : Int) (n : Nat) (m : Int) : ∃ vs, sem_law_wrong_ups [.tuple (nums us), .int t, .int (n : Nat), .int m] = .ok (.tuple (nums vs)) ∧ vs.length ≤ us.length + 1 := by
  have hb1 : (1 : Nat) ≤ big := by decide
  have hb8 : (8 : Nat) ≤ big := by decide
  have hm1 : modD (.int (t / 3)) (.int ((n : Int) + 1)) = some (.int (t / 3 % ((n : Int) + 1))) := modD_pos (by omega)
  have ha := nums_addL (us := us) (ds := [.int (t / 3 % ((n : Int) + 1))]) [t / 3 % ((n : Int) + 1)] rfl (by simp; omega)
  have hnl := nums_len us
  unfold sem_law_wrong_ups F_law_wrong_ups
  by_cases h0 : us.length = 0
  · have hu : us = [] := List.eq_nil_of_length_eq_zero h0
    subst hu
    have e0 : nums [] = [] := rfl
    rw [e0] at ha ⊢
    exact ⟨_, by simp [bodyD, startD, hm1, hb1, ha]; rfl, by simp⟩
  · have h0' : ((us.length : Int) == 0) = false := by
      rw [beq_eq_false_iff_ne]
      omega
    have hne : ¬ us = [] := fun e => h0 (by rw [e]; rfl)
    by_cases h3 : t % 3 = 0
    · exact ⟨_, by simp [bodyD, startD, h0', hne, h3, hm1, hb1, ha]; rfl, by simp⟩
    · have hm : modD (.int (t / 3)) (.int us.length) = some (.int (t / 3 % (us.length : Int))) := modD_pos (by omega)
      have hz0 := Int.emod_nonneg (t / 3) (show (us.length : Int) ≠ 0 by omega)
      have hz1 := Int.emod_lt_of_pos (t / 3) (show (0 : Int) < us.length by omega)
      generalize t / 3 % (us.length : Int) = at_ at *
      have hc1 := nums_cut us none (some at_)
      have hc2 := nums_cut us (some (at_ + 1)) none
      have l1 : (cutP us none (some at_)).length = at_.toNat := by
        simp only [cutP, HT.sIx_none, List.drop_zero, Nat.sub_zero, List.length_take]
        rw [sIx_pos hz0]
        omega
      have l2 : (cutP us (some (at_ + 1)) none).length = us.length - (at_.toNat + 1) := by
        simp only [cutP, HT.sIx_none, List.length_take, List.length_drop]
        rw [sIx_pos (by omega)]
        omega
      by_cases h1 : t % 3 = 1
      · have ha2 := nums_add (us := cutP us none (some at_)) (vs := cutP us (some (at_ + 1)) none) (by omega)
        exact ⟨_, by simp [bodyD, startD, h0', hne, h3, h1, hm, hc1, hc2, ha2]; rfl, by rw [List.length_append]; omega⟩
      · obtain ⟨x, hx⟩ := nums_at hz0 hz1
        obtain ⟨p, hp⟩ := pow1012
        have hm2 : modD (.int (t / 9)) (.int ((n : Int) + 1)) = some (.int (t / 9 % ((n : Int) + 1))) := modD_pos (by omega)
        obtain ⟨d, hd, y, rfl⟩ := menu (P := fun d => ∃ z : Int, d = .int z) (xs := [PyData.int n, .int ((n : Int) + 1), .int (x - m), .int (x - 1), .int (t / 9 % ((n : Int) + 1)), .int p, .int m, .int (-1)]) (i := t / 9 % 8) (by omega) (by simp; omega) (by
          intro d hd
          simp only [List.mem_cons, List.not_mem_nil, or_false] at hd
          rcases hd with rfl | rfl | rfl | rfl | rfl | rfl | rfl | rfl <;> exact ⟨_, rfl⟩)
        have ha1 := nums_addL (us := cutP us none (some at_)) (ds := [.int y]) [y] rfl (by simp; omega)
        have ha2 := nums_add (us := cutP us none (some at_) ++ [y]) (vs := cutP us (some (at_ + 1)) none) (by simp; omega)
        refine ⟨_, by simp [bodyD, startD, h0', hne, h3, h1, hm, hm2, hx, hp, hb8, hb1, hd, hc1, hc2, ha1, ha2]; rfl, by simp; omega⟩
end My

set_option Elab.async false
set_option maxRecDepth 100000
set_option maxHeartbeats 4000000
set_option linter.all false
namespace My
open PySem L2 DL PyProof.Rows
theorem encs_cut (gs : List Stm) (lo hi : Option Int) : DL.cutD lo hi (.tuple (encs gs)) = some (.tuple (encs (cutP gs lo hi))) := by
  show some (PyData.tuple (cutP (encs gs) lo hi)) = _
  simp [cutP, encs, List.map_take, List.map_drop]
theorem encs_add {gs hs : List Stm} {ds : List PyData} (e : ds = encs hs) (h : gs.length + hs.length ≤ 1000) : addD (.tuple (encs gs)) (.tuple ds) = some (.tuple (encs (gs ++ hs))) := by
  rw [e]
  have e : addD (.tuple (encs gs)) (.tuple (encs hs)) = some (.tuple (encs gs ++ encs hs)) := if_pos (by rw [encs_len, encs_len]; exact Nat.le_trans h (by decide))
  rw [e, encs, encs, encs, List.map_append]
/-- a word of a row, as data -/
def RW (b : Nat) (d : PyData) : Prop := ∃ z : Str, d = .str z ∧ z.length ≤ 20 + b ∧ ∀ c ∈ z.cps.toList, c < 128
theorem rw_lit {z : Str} (b : Nat) (h : (decide (z.length ≤ 20) && z.cps.toList.all fun c => decide (c < 128)) = true) : RW b (.str z) := by
  rw [Bool.and_eq_true, List.all_eq_true] at h
  refine ⟨z, rfl, ?_, fun c hc => of_decide_eq_true (h.2 c hc)⟩
  have := of_decide_eq_true h.1
  omega
theorem up1_ascii : ∀ c, c < 128 → up1 c < 128 := by decide +kernel
theorem cut_str {z : Str} {b : Nat} (h1 : z.length ≤ 20 + b) (h2 : ∀ c ∈ z.cps.toList, c < 128) (hb : b ≤ 10) (lo hi : Option Int) : ∃ y, DL.cutD lo hi (.str z) = some (.str y) ∧ y.length ≤ 20 + b ∧ ∀ c ∈ y.cps.toList, c < 128 := by
  refine ⟨cutS z lo hi, cutD_str (Nat.le_trans h1 (Nat.le_trans (by omega : 20 + b ≤ 30) (by decide))), ?_, fun c hc => ?_⟩
  · rw [len_list, cutS_toList]
    have := cut_le z.cps.toList lo hi
    rw [← len_list] at this
    omega
  · rw [cutS_toList] at hc
    exact h2 c (cut_mem hc)
theorem turned_get (z : Str) : ∃ y, getD2 (kvD (mergeK [] [(Sum.inr "left", V.str "right"), (Sum.inr "right", V.str "left"), (Sum.inr "one", V.str "other"), (Sum.inr "other", V.str "one"), (Sum.inr "onward", V.str "both"), (Sum.inr "both", V.str "onward")])) (.str z) (.str "any") = some y ∧ ∀ b, RW b y := by
  have e : kvD (mergeK [] [(Sum.inr "left", V.str "right"), (Sum.inr "right", V.str "left"), (Sum.inr "one", V.str "other"), (Sum.inr "other", V.str "one"), (Sum.inr "onward", V.str "both"), (Sum.inr "both", V.str "onward")]) =
    [(.str "left", .str "right"), (.str "right", .str "left"), (.str "one", .str "other"), (.str "other", .str "one"), (.str "onward", .str "both"), (.str "both", .str "onward")] := rfl
  rw [e]
  refine ⟨_, rfl, fun b => ?_⟩
  unfold lookS
  generalize hf : List.find? _ _ = o
  cases o with
  | none => exact rw_lit b (by decide +kernel)
  | some p =>
    have hm := List.mem_of_find?_eq_some hf
    simp only [List.mem_cons, List.not_mem_nil, or_false] at hm
    rcases hm with rfl | rfl | rfl | rfl | rfl | rfl <;> exact rw_lit b (by decide +kernel)
theorem addD_lst {a b : List PyData} (h : a.length + b.length ≤ 1000) : addD (.list a) (.list b) = some (.list (a ++ b)) := if_pos (Nat.le_trans h (by decide))
theorem rq_mk {b : Nat} {g : List Stm} {s : Stm} {r : Str} {u : List Int} (h1 : ∀ x ∈ g, SOk x) (h2 : SOk s) (h3 : g.length ≤ 10 + b) (h4 : u.length ≤ 10 + b) (h5 : r.length ≤ 20 + b) (h6 : ∀ c ∈ r.cps.toList, c < 128) : RQ b ⟨g, s, r, u⟩ := ⟨h1, h2, h3, h4, h5, h6⟩
theorem enc_len (s : Stm) : lenD [s.enc] = some (.int (match s with | .nm _ => 2 | .fl => 1 | .bin _ _ _ => 3)) := by cases s <;> rfl
theorem spoilt {b : Nat} {w : Row} (hw : RQ b w) (hb : b ≤ 9) (c : Int) (n : Nat) (m : Int) {st : Stm} (hs : SOk st) : ∃ v, sem_law_spoilt [w.enc, .int c, .int (n : Nat), .int m, st.enc] = .ok v.enc ∧ RQ (b + 1) v := by
  obtain ⟨g, s, r, u⟩ := w
  obtain ⟨q1, q2, q3, q4, q5, q6⟩ := hw
  simp only at q1 q2 q3 q4 q5 q6
  have hb0 : (0 : Nat) ≤ big := Nat.zero_le _
  have hb1 : (1 : Nat) ≤ big := by decide
  have hb3 : (3 : Nat) ≤ big := by decide
  have hb4 : (4 : Nat) ≤ big := by decide
  obtain ⟨us', hus, hul⟩ := wrong_ups u (by omega) (c / 9) n m
  have hc : c % 9 = 0 ∨ c % 9 = 1 ∨ c % 9 = 2 ∨ c % 9 = 3 ∨ c % 9 = 4 ∨ c % 9 = 5 ∨ c % 9 = 6 ∨ c % 9 = 7 ∨ c % 9 = 8 := by omega
  have hst1 : ∀ x ∈ [st], SOk x := fun x h => by rw [List.mem_singleton] at h; subst h; exact hs
  unfold sem_law_spoilt F_law_spoilt
  simp only [Row.enc]
  rcases hc with h | h | h | h | h | h | h | h | h
  · by_cases hg : 0 < g.length
    · have hm : modD (.int (c / 9)) (.int g.length) = some (.int (c / 9 % (g.length : Int))) := modD_pos (by omega)
      have hz0 := Int.emod_nonneg (c / 9) (show (g.length : Int) ≠ 0 by omega)
      have hz1 := Int.emod_lt_of_pos (c / 9) (show (0 : Int) < g.length by omega)
      generalize c / 9 % (g.length : Int) = a at *
      have k1 : (cutP g none (some a)).length = a.toNat := by
        simp only [cutP, HT.sIx_none, List.drop_zero, Nat.sub_zero, List.length_take]
        rw [sIx_pos hz0]
        omega
      have k2 : (cutP g (some (a + 1)) none).length = g.length - (a.toNat + 1) := by
        simp only [cutP, HT.sIx_none, List.length_take, List.length_drop]
        rw [sIx_pos (by omega)]
        omega
      have e1 := encs_cut g none (some a)
      have e2 := encs_cut g (some (a + 1)) none
      have l1 := cut_le g none (some a)
      have l2 := cut_le g (some (a + 1)) none
      by_cases hsum : (cutP g none (some a)).length + (cutP g (some (a + 1)) none).length ≤ 10 + (b + 1)
      · have e3 := encs_add (gs := cutP g none (some a)) (hs := cutP g (some (a + 1)) none) rfl (by omega)
        refine ⟨⟨cutP g none (some a) ++ cutP g (some (a + 1)) none, s, r, u⟩, by simp [bodyD, startD, h, hg, hm, e1, e2, e3, hb4], fun x hx => ?_, q2, by rw [List.length_append]; exact hsum, by show u.length ≤ _; omega, by show r.length ≤ _; omega, q6⟩
        rcases List.mem_append.mp hx with hx | hx <;> exact q1 x (cut_mem hx)
      · exact absurd (by omega) hsum
    · exact ⟨⟨g, s, r, us'⟩, by simp [bodyD, startD, h, hg, hus, hb4], q1, q2, by show g.length ≤ _; omega, by show us'.length ≤ _; omega, by show r.length ≤ _; omega, q6⟩
  · exact ⟨⟨g, st, r, u⟩, by simp [bodyD, startD, h, hb4], q1, hs, by show g.length ≤ _; omega, by show u.length ≤ _; omega, by show r.length ≤ _; omega, q6⟩
  · have hb12 : (12 : Nat) ≤ big := by decide
    have hb6 : (6 : Nat) ≤ big := by decide
    have a1 : addD (.str r) (.str " ") = some (.str (r ++ " ")) := addD_str (Nat.le_trans (by show r.length + 1 ≤ 31; omega) (by decide : 31 ≤ big))
    have a2 : addD (.str " ") (.str r) = some (.str (" " ++ r)) := addD_str (Nat.le_trans (by show 1 + r.length ≤ 31; omega) (by decide : 31 ≤ big))
    have a3 : addD (.str r) (.str "s") = some (.str (r ++ "s")) := addD_str (Nat.le_trans (by show r.length + 1 ≤ 31; omega) (by decide : 31 ≤ big))
    obtain ⟨y1, a4, b4, c4⟩ := cut_str q5 q6 (by omega) none (some (-1))
    obtain ⟨y2, a5, b5, c5⟩ := cut_str q5 q6 (by omega) (some 1) none
    have a6 : upperD r = some (.str ⟨r.cps.map up1⟩) := by
      unfold upperD
      rw [if_pos (Nat.le_trans (by omega : r.length ≤ 30) (by decide)), upper_ascii q6]
    have a7 : addD (.list [.str "given", .str "both", .str "left", .str "right", .str "one", .str "other", .str "cases", .str "suppose", .str "onward", .str "any", .str "", .str "Given"])
        (.list [.str (r ++ " "), .str (" " ++ r), .str y1, .str (r ++ "s"), .str ⟨r.cps.map up1⟩, .str y2]) = some (.list ([.str "given", .str "both", .str "left", .str "right", .str "one", .str "other", .str "cases", .str "suppose", .str "onward", .str "any", .str "", .str "Given"] ++ [.str (r ++ " "), .str (" " ++ r), .str y1, .str (r ++ "s"), .str ⟨r.cps.map up1⟩, .str y2])) := addD_lst (by simp)
    obtain ⟨d, hd, z, rfl, z1, z2⟩ := menu (P := RW (b + 1)) (xs := [.str "given", .str "both", .str "left", .str "right", .str "one", .str "other", .str "cases", .str "suppose", .str "onward", .str "any", .str "", .str "Given"] ++ [PyData.str (r ++ " "), .str (" " ++ r), .str y1, .str (r ++ "s"), .str ⟨r.cps.map up1⟩, .str y2]) (i := c / 9 % 18) (by omega) (by simp; omega) (by
      intro d hd
      rcases List.mem_append.mp hd with hd | hd
      · simp only [List.mem_cons, List.not_mem_nil, or_false] at hd
        rcases hd with rfl | rfl | rfl | rfl | rfl | rfl | rfl | rfl | rfl | rfl | rfl | rfl <;> exact rw_lit _ (by decide +kernel)
      · simp only [List.mem_cons, List.not_mem_nil, or_false] at hd
        have sp : ∀ c ∈ (" " : Str).cps.toList, c < 128 := by decide +kernel
        have ss : ∀ c ∈ ("s" : Str).cps.toList, c < 128 := by decide +kernel
        have spl : (" " : Str).length = 1 := by decide +kernel
        have ssl : ("s" : Str).length = 1 := by decide +kernel
        rcases hd with rfl | rfl | rfl | rfl | rfl | rfl
        · exact ⟨_, rfl, by rw [app_len, spl]; omega, fun c hc => by rw [app_list] at hc; exact (List.mem_append.mp hc).elim (q6 c) (sp c)⟩
        · exact ⟨_, rfl, by rw [app_len, spl]; omega, fun c hc => by rw [app_list] at hc; exact (List.mem_append.mp hc).elim (sp c) (q6 c)⟩
        · exact ⟨_, rfl, by omega, c4⟩
        · exact ⟨_, rfl, by rw [app_len, ssl]; omega, fun c hc => by rw [app_list] at hc; exact (List.mem_append.mp hc).elim (q6 c) (ss c)⟩
        · refine ⟨_, rfl, ?_, fun c hc => ?_⟩
          · show (r.cps.map up1).size ≤ _
            rw [Array.size_map]
            show r.length ≤ _
            omega
          · simp only [Array.toList_map, List.mem_map] at hc
            obtain ⟨c0, h0, rfl⟩ := hc
            exact up1_ascii _ (q6 c0 h0)
        · exact ⟨_, rfl, by omega, c5⟩)
    refine ⟨⟨g, s, z, u⟩, ?_, q1, q2, by show g.length ≤ _; omega, by show u.length ≤ _; omega, z1, z2⟩
    simp only [List.cons_append, List.nil_append] at hd a7
    simp [bodyD, startD, h, hb4, hb12, hb6, a1, a2, a3, a4, a5, a6, a7, hd]
  · exact ⟨⟨g, s, r, us'⟩, by simp [bodyD, startD, h, hus, hb4], q1, q2, by show g.length ≤ _; omega, by show us'.length ≤ _; omega, by show r.length ≤ _; omega, q6⟩
  · exact ⟨⟨g, s, r, us'⟩, by simp [bodyD, startD, h, hus, hb4], q1, q2, by show g.length ≤ _; omega, by show us'.length ≤ _; omega, by show r.length ≤ _; omega, q6⟩
  · obtain ⟨y, hy, hrw⟩ := turned_get r
    obtain ⟨z, rfl, z1, z2⟩ := hrw (b + 1)
    refine ⟨⟨g, s, z, u⟩, ?_, q1, q2, by show g.length ≤ _; omega, by show u.length ≤ _; omega, z1, z2⟩
    generalize kvD (mergeK [] [(Sum.inr "left", V.str "right"), (Sum.inr "right", V.str "left"), (Sum.inr "one", V.str "other"), (Sum.inr "other", V.str "one"), (Sum.inr "onward", V.str "both"), (Sum.inr "both", V.str "onward")]) = kv at *
    simp [bodyD, startD, h, hb4, hy]
  · refine ⟨⟨g, s, r, u.reverse⟩, ?_, q1, q2, by show g.length ≤ _; omega, by show u.reverse.length ≤ _; rw [List.length_reverse]; omega, by show r.length ≤ _; omega, q6⟩
    have e : revD (.tuple (nums u)) = some (.tuple (nums u.reverse)) := by simp [revD, nums]
    simp [bodyD, startD, h, hb4, e]
  · have e := encs_add (gs := g) (ds := [st.enc]) (hs := [st]) rfl (by simp; omega)
    refine ⟨⟨g ++ [st], s, r, u⟩, by simp [bodyD, startD, h, hb1, hb4, e], fun x hx => (List.mem_append.mp hx).elim (q1 x) (hst1 x), q2, by simp; omega, by show u.length ≤ _; omega, by show r.length ≤ _; omega, q6⟩
  · cases s with
    | bin o x y =>
      obtain ⟨o2, ho2⟩ := words_menu (c / 9)
      have e3 : lenD [(Stm.bin o x y).enc] = some (.int 3) := rfl
      refine ⟨⟨g, .bin o2 y x, r, u⟩, ?_, q1, ⟨⟨q2.1.2, q2.1.1⟩, ?_⟩, by show g.length ≤ _; omega, by show u.length ≤ _; omega, by show r.length ≤ _; omega, q6⟩
      · generalize hE : (Stm.bin o x y).enc = E at *
        have i1 : ixD E (.int 1) = some x.enc := by rw [← hE]; rfl
        have i2 : ixD E (.int 2) = some y.enc := by rw [← hE]; rfl
        simp [bodyD, startD, h, hb3, hb4, e3, ho2, i1, i2, Stm.enc]
      · have := q2.2
        simp only [Stm.depth] at this ⊢
        omega
    | nm z =>
      have e3 : lenD [(Stm.nm z).enc] = some (.int 2) := rfl
      refine ⟨⟨[], .nm z, r, u⟩, ?_, rq_mk (fun x hx => by cases hx) q2 (Nat.zero_le _) (by omega) (by omega) q6⟩
      generalize (Stm.nm z).enc = E at *
      simp [bodyD, startD, h, hb0, hb4, e3, encs]
    | fl =>
      have e3 : lenD [Stm.fl.enc] = some (.int 1) := rfl
      refine ⟨⟨[], .fl, r, u⟩, ?_, rq_mk (fun x hx => by cases hx) q2 (Nat.zero_le _) (by omega) (by omega) q6⟩
      generalize Stm.fl.enc = E at *
      simp [bodyD, startD, h, hb0, hb4, e3, encs]
end My

set_option Elab.async false
set_option maxRecDepth 100000
set_option maxHeartbeats 4000000
set_option linter.all false
namespace My
open PySem L2 DL PyProof.Rows
theorem frzs_rows (rs : List Row) : frzs (rows rs) = true := frzs_of fun d hd => by
  obtain ⟨w, _, rfl⟩ := List.mem_map.mp hd
  exact frz_row w
theorem appL {xs : List Row} {ds : List PyData} (ys : List Row) (e : ds = rows ys) (h : xs.length + ys.length ≤ 1000) : addLD (.list (rows xs)) (.list ds) = some (.list (rows (xs ++ ys))) := by
  rw [e]
  have e : addLD (.list (rows xs)) (.list (rows ys)) = some (.list (rows xs ++ rows ys)) := if_pos (by rw [rows_len, rows_len]; exact Nat.le_trans h (by decide))
  rw [e, rows, rows, rows, List.map_append]
theorem appD {xs : List Row} {ds : List PyData} (ys : List Row) (e : ds = rows ys) (h : xs.length + ys.length ≤ 1000) : addD (.list (rows xs)) (.list ds) = some (.list (rows (xs ++ ys))) := by
  rw [e, addD_lst (by rw [rows_len, rows_len]; exact h), rows, rows, rows, List.map_append]
/-- a small statement -/
def Ss (s : Stm) : Prop := s.Ok ∧ s.depth ≤ 3
theorem Ss.ok {s : Stm} (h : Ss s) : SOk s := ⟨h.1, Nat.le_trans h.2 (by decide)⟩
theorem Ss.bin {o : W3} {s t : Stm} (h : Ss s) (k : Ss t) : SOk (.bin o s t) := ⟨⟨h.1, k.1⟩, by
  have := h.2
  have := k.2
  simp only [Stm.depth]
  omega⟩
theorem lit_given : (decide (("given" : Str).length ≤ 20) && ("given" : Str).cps.toList.all fun c => decide (c < 128)) = true := by decide +kernel
theorem rq0 {g : List Stm} {s : Stm} {r : Str} {u : List Int} (h1 : ∀ x ∈ g, SOk x) (h2 : SOk s) (h3 : g.length ≤ 10) (h4 : u.length ≤ 10) (h5 : (decide (r.length ≤ 20) && r.cps.toList.all fun c => decide (c < 128)) = true) : RQ 0 ⟨g, s, r, u⟩ := by
  rw [Bool.and_eq_true, List.all_eq_true] at h5
  exact rq_mk h1 h2 h3 h4 (of_decide_eq_true h5.1) fun c hc => of_decide_eq_true (h5.2 c hc)
theorem all_app {P : Row → Prop} {xs ys : List Row} (h1 : ∀ r ∈ xs, P r) (h2 : ∀ r ∈ ys, P r) : ∀ r ∈ xs ++ ys, P r := fun r h => (List.mem_append.mp h).elim (h1 r) (h2 r)
theorem all_nil {P : Row → Prop} : ∀ r ∈ ([] : List Row), P r := fun r h => by cases h
theorem all_cons {P : Row → Prop} {x : Row} {xs : List Row} (h : P x) (hs : ∀ r ∈ xs, P r) : ∀ r ∈ x :: xs, P r := fun r hr => by
  rcases List.mem_cons.mp hr with rfl | hr
  · exact h
  · exact hs r hr
theorem g_app {xs ys : List Stm} (h1 : ∀ x ∈ xs, SOk x) (h2 : ∀ x ∈ ys, SOk x) : ∀ x ∈ xs ++ ys, SOk x := fun r h => (List.mem_append.mp h).elim (h1 r) (h2 r)
theorem g_one {s : Stm} (h : SOk s) : ∀ x ∈ [s], SOk x := fun x hx => by rw [List.mem_singleton] at hx; subst hx; exact h
/-- some of two statements -/
def Os (d : PyData) : Prop := ∃ ys x, d = .tuple (encs (ys ++ [x])) ∧ (∀ z ∈ ys ++ [x], Ss z) ∧ ys.length ≤ 1
theorem os1 {x : Stm} (h : Ss x) : Os (.tuple [x.enc]) := ⟨[], x, rfl, fun z hz => by simp at hz; subst hz; exact h, by simp⟩
theorem os2 {x y : Stm} (h : Ss x) (k : Ss y) : Os (.tuple [x.enc, y.enc]) := ⟨[x], y, rfl, fun z hz => by
  simp at hz
  rcases hz with rfl | rfl
  · exact h
  · exact k, by simp⟩
theorem last_os (ys : List Stm) (x : Stm) : atI (encs (ys ++ [x])) (-1) = some x.enc := by
  rw [encs, List.map_append]
  exact atI_last _ _
theorem added {rs : List Row} (hr : ∀ r ∈ rs, RQ 0 r) (hl : rs.length ≤ 100) (k : Int) (hk0 : 0 ≤ k) (hk1 : k ≤ 9) {gs : List Stm} (hg : ∀ x ∈ gs, SOk x) (hgl : gs.length ≤ 3) {a b c : Stm} (ha : Ss a) (hb : Ss b) (hc : Ss c) :
    ∃ rs', sem_law_added [.list (rows rs), .int k, .tuple (encs gs), .tuple [a.enc, b.enc, c.enc]] = .ok (.list (rows rs')) ∧ (∀ r ∈ rs', RQ 0 r) ∧ rs'.length ≤ rs.length + 4 := by
  have b0 : (0 : Nat) ≤ big := Nat.zero_le _
  have b1 : (1 : Nat) ≤ big := by decide
  have b2 : (2 : Nat) ≤ big := by decide
  have b3 : (3 : Nat) ≤ big := by decide
  have b4 : (4 : Nat) ≤ big := by decide
  have b5 : (2 : Nat) < big := by decide
  have hrl := rows_len rs
  have m4 : 0 ≤ (rs.length : Int) % 4 ∧ (rs.length : Int) % 4 < 4 := by omega
  have hga := g_one ha.ok
  have hgb := g_one hb.ok
  have hgc := g_one hc.ok
  unfold sem_law_added F_law_added
  have hk : k = 0 ∨ k = 1 ∨ k = 2 ∨ k = 3 ∨ k = 4 ∨ k = 5 ∨ k = 6 ∨ k = 7 ∨ k = 8 ∨ k = 9 := by omega
  rcases hk with rfl | rfl | rfl | rfl | rfl | rfl | rfl | rfl | rfl | rfl
  · have e1 := encs_add (gs := gs) (ds := [a.enc]) (hs := [a]) rfl (by simp; omega)
    have e2 := appL (xs := rs) (ds := [.tuple [.tuple (encs (gs ++ [a])), a.enc, .str "given", .tuple []]]) [⟨gs ++ [a], a, "given", []⟩] rfl (by simp; omega)
    refine ⟨_, by simp [bodyN, startD, b0, b1, b4, e1, e2]; rfl, all_app hr (all_cons (rq0 (g_app hg hga) ha.ok (by simp; omega) (by simp) lit_given) all_nil), by simp⟩
  · have e2 := appL (xs := rs) (ds := [.tuple [.tuple (encs gs), a.enc, .str "given", .tuple []], .tuple [.tuple (encs gs), b.enc, .str "given", .tuple []], .tuple [.tuple (encs gs), .tuple [.str "and", a.enc, b.enc], .str "both", .tuple [.int rs.length, .int ((rs.length : Int) + 1)]]])
      [⟨gs, a, "given", []⟩, ⟨gs, b, "given", []⟩, ⟨gs, .bin .an a b, "both", [(rs.length : Int), (rs.length : Int) + 1]⟩] rfl (by simp; omega)
    refine ⟨_, by simp [bodyN, startD, b0, b1, b2, b3, b4, hrl, e2]; rfl, all_app hr (all_cons (rq0 hg ha.ok (by omega) (by simp) lit_given) (all_cons (rq0 hg hb.ok (by omega) (by simp) lit_given) (all_cons (rq0 hg (ha.bin hb) (by omega) (by simp) (by decide +kernel)) all_nil))), by simp⟩
  · have e1 := encs_add (gs := gs) (ds := [c.enc]) (hs := [c]) rfl (by simp; omega)
    have e2 := appL (xs := rs) (ds := [.tuple [.tuple (encs gs), .tuple [.str "and", a.enc, b.enc], .str "given", .tuple []], .tuple [.tuple (encs (gs ++ [c])), a.enc, .str "left", .tuple [.int rs.length]]])
      [⟨gs, .bin .an a b, "given", []⟩, ⟨gs ++ [c], a, "left", [(rs.length : Int)]⟩] rfl (by simp; omega)
    refine ⟨_, by simp [bodyN, startD, b0, b1, b2, b3, b4, hrl, e1, e2]; rfl, all_app hr (all_cons (rq0 hg (ha.bin hb) (by omega) (by simp) lit_given) (all_cons (rq0 (g_app hg hgc) ha.ok (by simp; omega) (by simp) (by decide +kernel)) all_nil)), by simp⟩
  · have e1 := encs_add (gs := gs) (ds := [c.enc]) (hs := [c]) rfl (by simp; omega)
    have e2 := appL (xs := rs) (ds := [.tuple [.tuple (encs gs), .tuple [.str "and", a.enc, b.enc], .str "given", .tuple []], .tuple [.tuple (encs (gs ++ [c])), b.enc, .str "right", .tuple [.int rs.length]]])
      [⟨gs, .bin .an a b, "given", []⟩, ⟨gs ++ [c], b, "right", [(rs.length : Int)]⟩] rfl (by simp; omega)
    refine ⟨_, by simp [bodyN, startD, b0, b1, b2, b3, b4, hrl, e1, e2]; rfl, all_app hr (all_cons (rq0 hg (ha.bin hb) (by omega) (by simp) lit_given) (all_cons (rq0 (g_app hg hgc) hb.ok (by simp; omega) (by simp) (by decide +kernel)) all_nil)), by simp⟩
  · have e2 := appL (xs := rs) (ds := [.tuple [.tuple (encs gs), a.enc, .str "given", .tuple []], .tuple [.tuple (encs gs), .tuple [.str "or", a.enc, b.enc], .str "one", .tuple [.int rs.length]]])
      [⟨gs, a, "given", []⟩, ⟨gs, .bin .orr a b, "one", [(rs.length : Int)]⟩] rfl (by simp; omega)
    refine ⟨_, by simp [bodyN, startD, b0, b1, b2, b3, b4, hrl, e2]; rfl, all_app hr (all_cons (rq0 hg ha.ok (by omega) (by simp) lit_given) (all_cons (rq0 hg (ha.bin hb) (by omega) (by simp) (by decide +kernel)) all_nil)), by simp⟩
  · have e2 := appL (xs := rs) (ds := [.tuple [.tuple (encs gs), b.enc, .str "given", .tuple []], .tuple [.tuple (encs gs), .tuple [.str "or", a.enc, b.enc], .str "other", .tuple [.int rs.length]]])
      [⟨gs, b, "given", []⟩, ⟨gs, .bin .orr a b, "other", [(rs.length : Int)]⟩] rfl (by simp; omega)
    refine ⟨_, by simp [bodyN, startD, b0, b1, b2, b3, b4, hrl, e2]; rfl, all_app hr (all_cons (rq0 hg hb.ok (by omega) (by simp) lit_given) (all_cons (rq0 hg (ha.bin hb) (by omega) (by simp) (by decide +kernel)) all_nil)), by simp⟩
  · obtain ⟨_, h1, ys, x, rfl, p1, p2⟩ := menu (P := Os) (xs := [.tuple [a.enc], .tuple [b.enc], .tuple [a.enc], .tuple [a.enc, b.enc]]) (i := (rs.length : Int) % 4) m4.1 m4.2 (by
      intro d hd
      simp only [List.mem_cons, List.not_mem_nil, or_false] at hd
      rcases hd with rfl | rfl | rfl | rfl
      · exact os1 ha
      · exact os1 hb
      · exact os1 ha
      · exact os2 ha hb)
    obtain ⟨_, h2, zs, y, rfl, q1, q2⟩ := menu (P := Os) (xs := [.tuple [b.enc], .tuple [b.enc], .tuple [a.enc], .tuple [b.enc, a.enc]]) (i := (rs.length : Int) % 4) m4.1 m4.2 (by
      intro d hd
      simp only [List.mem_cons, List.not_mem_nil, or_false] at hd
      rcases hd with rfl | rfl | rfl | rfl
      · exact os1 hb
      · exact os1 hb
      · exact os1 ha
      · exact os2 hb ha)
    have h3 := last_os ys x
    have p3 := p1 x (by simp)
    obtain ⟨_, h4, g, rfl, r1⟩ := menu (P := fun d => ∃ g : Stm, d = g.enc ∧ Ss g) (xs := [x.enc, c.enc]) (i := (rs.length : Int) / 4 % 2) (by omega) (by simp; omega) (by
      intro d hd
      simp only [List.mem_cons, List.not_mem_nil, or_false] at hd
      rcases hd with rfl | rfl
      · exact ⟨x, rfl, p3⟩
      · exact ⟨c, rfl, hc⟩)
    have pl : (ys ++ [x]).length ≤ 2 := by simp; omega
    have ql : (zs ++ [y]).length ≤ 2 := by simp; omega
    have pg : ∀ z ∈ ys ++ [x], SOk z := fun z hz => (p1 z hz).ok
    have qg : ∀ z ∈ zs ++ [y], SOk z := fun z hz => (q1 z hz).ok
    generalize ys ++ [x] = one at *
    generalize zs ++ [y] = two at *
    have e1 := encs_add (gs := gs) (ds := encs one) (hs := one) rfl (by omega)
    have e2 := encs_add (gs := two) (ds := encs gs) (hs := gs) rfl (by omega)
    have f1 : frzs [PyData.tuple [.tuple (encs gs), .tuple [.str "or", a.enc, b.enc], .str "given", .tuple []], .tuple [.tuple (encs (gs ++ one)), g.enc, .str "given", .tuple []]] = true := frzs_rows [⟨gs, .bin .orr a b, "given", []⟩, ⟨gs ++ one, g, "given", []⟩]
    have f2 : frz (.tuple [.tuple (encs (two ++ gs)), g.enc, .str "given", .tuple []]) = true := frz_row ⟨two ++ gs, g, "given", []⟩
    have e3 := appD (xs := rs) (ds := [.tuple [.tuple (encs gs), .tuple [.str "or", a.enc, b.enc], .str "given", .tuple []], .tuple [.tuple (encs (gs ++ one)), g.enc, .str "given", .tuple []], .tuple [.tuple (encs (two ++ gs)), g.enc, .str "given", .tuple []]])
      [⟨gs, .bin .orr a b, "given", []⟩, ⟨gs ++ one, g, "given", []⟩, ⟨two ++ gs, g, "given", []⟩] rfl (by simp; omega)
    have e4 := appL (xs := rs ++ [⟨gs, .bin .orr a b, "given", []⟩, ⟨gs ++ one, g, "given", []⟩, ⟨two ++ gs, g, "given", []⟩]) (ds := [.tuple [.tuple (encs gs), g.enc, .str "cases", .tuple [.int rs.length, .int ((rs.length : Int) + 1), .int ((rs.length : Int) + 2)]]])
      [⟨gs, g, "cases", [(rs.length : Int), (rs.length : Int) + 1, (rs.length : Int) + 2]⟩] rfl (by simp; omega)
    refine ⟨_, by simp [bodyN, startD, b0, b1, b2, b3, b4, b5, hrl, h1, h2, h3, h4, e1, e2, e3, e4, f1, f2]; rfl, all_app (all_app hr (all_cons (rq0 hg (ha.bin hb) (by omega) (by simp) lit_given) (all_cons (rq0 (g_app hg pg) r1.ok (by simp; omega) (by simp) lit_given) (all_cons (rq0 (g_app qg hg) r1.ok (by simp; omega) (by simp) lit_given) all_nil)))) (all_cons (rq0 hg r1.ok (by omega) (by simp) (by decide +kernel)) all_nil), by simp⟩
  · obtain ⟨_, h1, ys, x, rfl, p1, p2⟩ := menu (P := Os) (xs := [.tuple [a.enc], .tuple [b.enc], .tuple [a.enc, b.enc], .tuple [b.enc, a.enc]]) (i := (rs.length : Int) % 4) m4.1 m4.2 (by
      intro d hd
      simp only [List.mem_cons, List.not_mem_nil, or_false] at hd
      rcases hd with rfl | rfl | rfl | rfl
      · exact os1 ha
      · exact os1 hb
      · exact os2 ha hb
      · exact os2 hb ha)
    have pl : (ys ++ [x]).length ≤ 2 := by simp; omega
    have pg : ∀ z ∈ ys ++ [x], SOk z := fun z hz => (p1 z hz).ok
    generalize ys ++ [x] = one at *
    have e1 := encs_add (gs := one) (ds := encs gs) (hs := gs) rfl (by omega)
    have e2 := appL (xs := rs) (ds := [.tuple [.tuple (encs (one ++ gs)), b.enc, .str "given", .tuple []], .tuple [.tuple (encs gs), .tuple [.str "then", a.enc, b.enc], .str "suppose", .tuple [.int rs.length]]])
      [⟨one ++ gs, b, "given", []⟩, ⟨gs, .bin .th a b, "suppose", [(rs.length : Int)]⟩] rfl (by simp; omega)
    refine ⟨_, by simp [bodyN, startD, b0, b1, b2, b3, b4, hrl, h1, e1, e2]; rfl, all_app hr (all_cons (rq0 (g_app pg hg) hb.ok (by simp; omega) (by simp) lit_given) (all_cons (rq0 hg (ha.bin hb) (by omega) (by simp) (by decide +kernel)) all_nil)), by simp⟩
  · have f1 : frzs [PyData.tuple [.tuple (encs gs), .tuple [.str "then", a.enc, b.enc], .str "given", .tuple []], .tuple [.tuple (encs gs), a.enc, .str "given", .tuple []]] = true := frzs_rows [⟨gs, .bin .th a b, "given", []⟩, ⟨gs, a, "given", []⟩]
    have e3 := appD (xs := rs) (ds := [.tuple [.tuple (encs gs), .tuple [.str "then", a.enc, b.enc], .str "given", .tuple []], .tuple [.tuple (encs gs), a.enc, .str "given", .tuple []]])
      [⟨gs, .bin .th a b, "given", []⟩, ⟨gs, a, "given", []⟩] rfl (by simp; omega)
    have e4 := appL (xs := rs ++ [⟨gs, .bin .th a b, "given", []⟩, ⟨gs, a, "given", []⟩]) (ds := [.tuple [.tuple (encs gs), b.enc, .str "onward", .tuple [.int rs.length, .int ((rs.length : Int) + 1)]]])
      [⟨gs, b, "onward", [(rs.length : Int), (rs.length : Int) + 1]⟩] rfl (by simp; omega)
    refine ⟨_, by simp [bodyN, startD, b0, b1, b2, b3, b4, hrl, e3, e4, f1]; rfl, all_app (all_app hr (all_cons (rq0 hg (ha.bin hb) (by omega) (by simp) lit_given) (all_cons (rq0 hg ha.ok (by omega) (by simp) lit_given) all_nil))) (all_cons (rq0 hg hb.ok (by omega) (by simp) (by decide +kernel)) all_nil), by simp⟩
  · have e2 := appL (xs := rs) (ds := [.tuple [.tuple (encs gs), .tuple [.str "false"], .str "given", .tuple []], .tuple [.tuple (encs gs), a.enc, .str "any", .tuple [.int rs.length]]])
      [⟨gs, .fl, "given", []⟩, ⟨gs, a, "any", [(rs.length : Int)]⟩] rfl (by simp; omega)
    refine ⟨_, by simp [bodyN, startD, b0, b1, b2, b3, b4, hrl, e2]; rfl, all_app hr (all_cons (rq0 hg fl_ok (by omega) (by simp) lit_given) (all_cons (rq0 hg ha.ok (by omega) (by simp) (by decide +kernel)) all_nil)), by simp⟩
end My

set_option Elab.async false
set_option maxRecDepth 100000
set_option maxHeartbeats 4000000
set_option linter.all false
namespace My
open PySem L2 DL PyProof.Rows
def spAt : SS :=
  (sIf (DL.tAnd (asT (eOp eqD (eOp modD (eVar 3) (eC (.int 2))) (eC (.int 1)))) (asT (eOp gtD (eArgs lenD (aCons (eOp ixD (eOp ixD (eVar 0) (eVar 4)) (eC (.int 3))) aNil)) (eC (.int 0))))) (sSetF 4 (eArgs max2D (aCons (eC (.int 0)) (aCons (eArgs min2D (aCons (eOp subD (eArgs lenD (aCons (eVar 0) aNil)) (eC (.int 1))) (aCons (eOp ixD (eOp ixD (eOp ixD (eVar 0) (eVar 4)) (eC (.int 3))) (eC (.int 0))) aNil))) aNil)))) sNext)
def spPut : SS :=
  (sPutI 0 (eVar 4) (eCall sem_law_spoilt (aCons (eOp ixD (eVar 0) (eVar 4)) (aCons (eOp divD (eCall sem_law_cell_at (aCons (eVar 1) (aCons (eC (.int 3)) aNil))) (eOp ixD (eLst (aCons (eC (.int 1)) (aCons (eC (.int 11)) (aCons (eC (.int 121)) (aCons (eC (.int 1331)) aNil))))) (eVar 3))) (aCons (eVar 4) (aCons (eArgs lenD (aCons (eVar 0) aNil)) (aCons (eVar 5) aNil)))))))
def spBody : SS :=
  (noBk (sSeq (sSetF 4 (eOp modD (eOp divD (eCall sem_law_cell_at (aCons (eVar 1) (aCons (eC (.int 2)) aNil))) (eOp ixD (eLst (aCons (eC (.int 1)) (aCons (eC (.int 7)) (aCons (eC (.int 49)) (aCons (eC (.int 343)) aNil))))) (eVar 3))) (eArgs lenD (aCons (eVar 0) aNil))))
    (sSeq (sSetF 5 (eCall sem_law_part_by (aCons (eVar 2) (aCons (eOp addD (eOp divD (eCall sem_law_cell_at (aCons (eVar 1) (aCons (eC (.int 1)) aNil))) (eC (.int 5))) (eVar 3)) aNil))))
    (sSeq spAt
    spPut))))
theorem pick {rs : List Row} {a : Int} (h0 : 0 ≤ a) (h1 : a < rs.length) : ∃ w, rs[a.toNat]? = some w ∧ atI (rows rs) a = some w.enc := by
  have hn : a.toNat < rs.length := by omega
  have q := rows_at (rs := rs) (n := a.toNat) (List.getElem?_eq_getElem hn)
  rw [Int.toNat_of_nonneg h0] at q
  exact ⟨_, List.getElem?_eq_getElem hn, q⟩
theorem mm (L z : Int) (hL : 0 < L) : ∃ m, min2D [.int (L - 1), .int z] = some (.int m) ∧ ∃ t, max2D [.int 0, .int m] = some (.int t) ∧ 0 ≤ t ∧ t < L := by
  refine ⟨_, rfl, _, rfl, ?_, ?_⟩
  · split <;> omega
  · split <;> split <;> omega
theorem sp_at {b : Nat} {rs : List Row} (hr : ∀ r ∈ rs, RQ b r) {a : Int} (h0 : 0 ≤ a) (h1 : a < rs.length) (k : Int) (x1 x2 x5 : Option PyData) : ∃ t : Int, 0 ≤ t ∧ t < rs.length ∧
    spAt [some (.list (rows rs)), x1, x2, some (.int k), some (.int a), x5] = .ok (.nx [some (.list (rows rs)), x1, x2, some (.int k), some (.int t), x5]) := by
  obtain ⟨w, hw1, hw2⟩ := pick h0 h1
  have hrl := rows_len rs
  unfold spAt
  by_cases hk : k % 2 = 1
  · by_cases hu : 0 < w.u.length
    · obtain ⟨z, hz⟩ := nums_at (us := w.u) (i := 0) (by decide) (by omega)
      obtain ⟨m, e1, t, e2, e3, e4⟩ := mm (rs.length : Int) z (by omega)
      refine ⟨t, e3, e4, ?_⟩
      simp [hk, hw2, hu, hrl, hz, e1, e2, frz]
    · refine ⟨a, h0, h1, ?_⟩
      simp [hk, hw2, hu]
  · refine ⟨a, h0, h1, ?_⟩
    simp [hk]
theorem rows_set (rs : List Row) (n : Nat) (v : Row) : (rows rs).set n v.enc = rows (rs.set n v) := by
  rw [rows, rows, List.map_set]
theorem tens {P : Int → Prop} {xs : List PyData} (k : Nat) (h : k < xs.length) (hp : ∀ d ∈ xs, ∃ t, d = .int t ∧ P t) : ∃ t, atI xs (k : Int) = some (.int t) ∧ P t := by
  obtain ⟨d, h1, t, rfl, h2⟩ := menu (P := fun d => ∃ t, d = .int t ∧ P t) (xs := xs) (i := (k : Int)) (by omega) (by omega) hp
  exact ⟨t, h1, h2⟩
def Dv (t : Int) : Prop := 0 < t ∧ t < 1073741824
theorem sp_put {b : Nat} (hb : b ≤ 9) {rs : List Row} (hr : ∀ r ∈ rs, RQ b r) {ns : List Int} (hns : ns.length ≤ 63) {a : Int} (h0 : 0 ≤ a) (h1 : a < rs.length) {k : Nat} (hk : k < 4) {st : Stm} (hst : SOk st) (x2 : Option PyData) :
    ∃ rs', rs'.length = rs.length ∧ (∀ r ∈ rs', RQ (b + 1) r) ∧ spPut [some (.list (rows rs)), some (.list (ns.map PyData.int)), x2, some (.int (k : Nat)), some (.int a), some st.enc] =
      .ok (.nx [some (.list (rows rs')), some (.list (ns.map PyData.int)), x2, some (.int (k : Nat)), some (.int a), some st.enc]) := by
  obtain ⟨w, hw1, hw2⟩ := pick h0 h1
  have c3 : sem_law_cell_at [.list (ns.map PyData.int), .int 3] = .ok (.int (ns.getD 3 0)) := cell_at ns 3 hns
  generalize ns.getD 3 0 = c at c3
  obtain ⟨t, ht, t1, t2⟩ := tens (P := Dv) (xs := [PyData.int 1, .int 11, .int 121, .int 1331]) k (by simpa using hk) (by
    intro d hd
    simp only [List.mem_cons, List.not_mem_nil, or_false] at hd
    rcases hd with rfl | rfl | rfl | rfl <;> exact ⟨_, rfl, by decide, by decide⟩)
  have hdv : divD (.int c) (.int t) = some (.int (c / t)) := divD_pos t1 t2
  obtain ⟨v, hv, hvq⟩ := spoilt (hr w (List.mem_of_getElem? hw1)) hb (c / t) a.toNat (rs.length : Int) hst
  rw [Int.toNat_of_nonneg h0] at hv
  have b4 : (4 : Nat) ≤ big := by decide
  have hrl := rows_len rs
  have hix : ixN rs.length a = some a.toNat := by
    unfold ixN
    rw [if_pos h0, if_pos h1]
  refine ⟨rs.set a.toNat v, List.length_set, fun r h => ?_, ?_⟩
  · rcases List.mem_or_eq_of_mem_set h with h | rfl
    · exact (hr r h).mono (by omega)
    · exact hvq
  · unfold spPut
    simp [c3, hw2, ht, hdv, b4, hrl, hv, frz_row, hix, rows_set]
theorem sp_body {b : Nat} (hb : b ≤ 9) {rs : List Row} (hr : ∀ r ∈ rs, RQ b r) (hl : 0 < rs.length) {ns : List Int} (hns : ns.length ≤ 63) (s : Int) {k : Nat} (hk : k < 4) (x4 x5 : Option PyData) :
    ∃ rs' y4 y5, rs'.length = rs.length ∧ (∀ r ∈ rs', RQ (b + 1) r) ∧ spBody [some (.list (rows rs)), some (.list (ns.map PyData.int)), some (.int s), some (.int (k : Nat)), x4, x5] =
      .ok (.nx [some (.list (rows rs')), some (.list (ns.map PyData.int)), some (.int s), some (.int (k : Nat)), y4, y5]) := by
  have c2 : sem_law_cell_at [.list (ns.map PyData.int), .int 2] = .ok (.int (ns.getD 2 0)) := cell_at ns 2 hns
  have c1 : sem_law_cell_at [.list (ns.map PyData.int), .int 1] = .ok (.int (ns.getD 1 0)) := cell_at ns 1 hns
  generalize ns.getD 2 0 = c at c2
  generalize ns.getD 1 0 = d1 at c1
  obtain ⟨t, ht, t1, t2⟩ := tens (P := Dv) (xs := [PyData.int 1, .int 7, .int 49, .int 343]) k (by simpa using hk) (by
    intro d hd
    simp only [List.mem_cons, List.not_mem_nil, or_false] at hd
    rcases hd with rfl | rfl | rfl | rfl <;> exact ⟨_, rfl, by decide, by decide⟩)
  have hdv : divD (.int c) (.int t) = some (.int (c / t)) := divD_pos t1 t2
  have hm : modD (.int (c / t)) (.int rs.length) = some (.int (c / t % (rs.length : Int))) := modD_pos (by omega)
  have hz0 := Int.emod_nonneg (c / t) (show (rs.length : Int) ≠ 0 by omega)
  have hz1 := Int.emod_lt_of_pos (c / t) (show (0 : Int) < rs.length by omega)
  obtain ⟨st, hst, hs1, hs2⟩ := part_by s (d1 / 5 + k)
  have hso : SOk st := ⟨hs1, Nat.le_trans hs2 (by decide)⟩
  obtain ⟨a, a0, a1, ea⟩ := sp_at hr hz0 hz1 (k : Int) (some (.list (ns.map PyData.int))) (some (.int s)) (some st.enc)
  obtain ⟨rs', r1, r2, er⟩ := sp_put hb hr hns a0 a1 hk hso (some (.int s))
  have b4 : (4 : Nat) ≤ big := by decide
  have hrl := rows_len rs
  refine ⟨rs', some (.int a), some st.enc, r1, r2, ?_⟩
  unfold spBody
  simp [c2, c1, ht, hdv, hm, b4, hrl, hst, frz, frz_stm, ea, er]
theorem all_spoilt {rs : List Row} (hr : ∀ r ∈ rs, RQ 0 r) (hl : 0 < rs.length) {ns : List Int} (hns : ns.length ≤ 63) (s : Int) : ∃ rs', rs'.length = rs.length ∧ (∀ r ∈ rs', RQ 5 r) ∧
    sem_law_all_spoilt [.list (rows rs), .list (ns.map PyData.int), .int s] = .ok (.list (rows rs')) := by
  have c1 : sem_law_cell_at [.list (ns.map PyData.int), .int 1] = .ok (.int (ns.getD 1 0)) := cell_at ns 1 hns
  generalize ns.getD 1 0 = d1 at c1
  obtain ⟨m, hm⟩ : ∃ m : Nat, d1 % 5 = (m : Int) := ⟨(d1 % 5).toNat, by omega⟩
  have hm1 : m ≤ 4 := by omega
  have hbm : -(big : Int) ≤ (m : Int) ∧ (m : Int) ≤ big := by simp only [big]; omega
  obtain ⟨ρ', h1, rs', x3, x4, x5, rfl, q1, q2⟩ := forGo_inv (k := gF 3) (F := spBody) (I := fun j ρ => ∃ rs' x3 x4 x5, ρ = [some (.list (rows rs')), some (.list (ns.map PyData.int)), some (.int s), x3, x4, x5] ∧ rs'.length = rs.length ∧ (∀ r ∈ rs', RQ j r))
    (xs := DL.upTo 0 m) (i := 0) (ρ := [some (.list (rows rs)), some (.list (ns.map PyData.int)), some (.int s), none, none, none]) ⟨rs, _, _, _, rfl, rfl, hr⟩ (by
    rintro j d ρ hd ⟨rs', x3, x4, x5, rfl, q1, q2⟩
    have hj := (List.getElem?_eq_some_iff.mp hd).1
    rw [upTo_len] at hj
    have e : d = .int ((j : Nat) : Int) := by
      have := (List.getElem?_eq_some_iff.mp hd).2
      simp [DL.upTo] at this
      rw [← this]
    subst e
    rw [Nat.zero_add] at q2 ⊢
    obtain ⟨rs2, y4, y5, p1, p2, p3⟩ := sp_body (b := j) (by omega) q2 (by omega) hns s (k := j) (by omega) x4 x5
    exact ⟨_, _, rfl, .inl p3, rs2, _, _, _, rfl, by omega, p2⟩)
  rw [Nat.zero_add, upTo_len] at q2
  refine ⟨rs', q1, fun r h => (q2 r h).mono (by omega), ?_⟩
  unfold sem_law_all_spoilt F_law_all_spoilt
  unfold spBody spAt spPut at h1
  simp [bodyN, startD, c1, hm, hbm, sFor_ap, h1]
end My

set_option Elab.async false
set_option maxRecDepth 100000
set_option maxHeartbeats 4000000
set_option linter.all false
namespace My
open PySem L2 DL PyProof.Rows
def rbBody : SS :=
  (noBk (sSeq (sSetF 4 (eOp ixD (eVar 0) (eOp mulD (eC (.int 2)) (eVar 3))))
    (sSeq (sSetF 5 (eArgs tupleD (aCons (eLc 8 (sRng1 (aCons (eC (.int 3)) aNil)) tTrue (eCall sem_law_part_by (aCons (eVar 1) (aCons (eOp divD (eOp divD (eVar 4) (eC (.int 10))) (eOp ixD (eLst (aCons (eC (.int 1)) (aCons (eC (.int 400)) (aCons (eC (.int 160000)) aNil)))) (eVar 8))) aNil)))) aNil)))
    (sSeq (sSetF 6 (eOp ixD (eVar 0) (eOp addD (eOp mulD (eC (.int 2)) (eVar 3)) (eC (.int 1)))))
    (sSeq (sSetF 7 (eOp addD (eOp addD (eOp mulTD (eTup (aCons (eOp ixD (eVar 5) (eOp modD (eVar 6) (eC (.int 3)))) aNil)) (eOp modD (eOp divD (eVar 6) (eC (.int 3))) (eC (.int 2)))) (eOp mulTD (eTup (aCons (eTup (aCons (eC (.str "false")) aNil)) aNil)) (eOp modD (eOp divD (eVar 6) (eC (.int 6))) (eC (.int 2))))) (eTup (aCons (eOp ixD (eVar 5) (eOp modD (eOp divD (eVar 6) (eC (.int 12))) (eC (.int 3)))) aNil))))
    (sTake 2 (eCall sem_law_added (aCons (eVar 2) (aCons (eOp modD (eVar 4) (eC (.int 10))) (aCons (eVar 7) (aCons (eVar 5) aNil)))))))))))
def pieceD (a b c : Stm) (d : PyData) : PyData := match natOf d with
  | 0 => a.enc
  | 1 => b.enc
  | _ => c.enc
theorem piece_at {a b c : Stm} (ha : Ss a) (hb : Ss b) (hc : Ss c) {i : Int} (h0 : 0 ≤ i) (h1 : i < 3) : ∃ x, atI [a.enc, b.enc, c.enc] i = some x.enc ∧ Ss x := by
  obtain ⟨_, h, x, rfl, hx⟩ := menu (P := fun d => ∃ x : Stm, d = x.enc ∧ Ss x) (xs := [a.enc, b.enc, c.enc]) (i := i) h0 (by simpa using h1) (by
    intro d hd
    simp only [List.mem_cons, List.not_mem_nil, or_false] at hd
    rcases hd with rfl | rfl | rfl
    · exact ⟨_, rfl, ha⟩
    · exact ⟨_, rfl, hb⟩
    · exact ⟨_, rfl, hc⟩)
  exact ⟨x, h, hx⟩
theorem mul01 {x : Stm} (h : SOk x) (t : Int) : ∃ gs : List Stm, mulTD (.tuple [x.enc]) (.int (t % 2)) = some (.tuple (encs gs)) ∧ gs.length ≤ 1 ∧ ∀ y ∈ gs, SOk y := by
  have : t % 2 = 0 ∨ t % 2 = 1 := by omega
  rcases this with e | e <;> rw [e]
  · exact ⟨[], rfl, by simp, fun y hy => by cases hy⟩
  · exact ⟨[x], rfl, by simp, g_one h⟩
theorem mul2 (n : Nat) (hn : n ≤ 1000) : mulD (.int 2) (.int (n : Nat)) = some (.int (2 * (n : Int))) := mulD_l (small64_of (by decide) (by decide))
theorem ns_at {ns : List Int} {i : Int} (h0 : 0 ≤ i) (h1 : i < ns.length) : ∃ z, atI (ns.map PyData.int) i = some (.int z) := nums_at (us := ns) h0 h1
theorem rb_body {rs : List Row} (hr : ∀ r ∈ rs, RQ 0 r) (hl : rs.length ≤ 90) {ns : List Int} {k : Nat} (hk : 2 * k + 1 < ns.length) (hn : ns.length ≤ 63) (s : Int) (x4 x5 x6 x7 x8 : Option PyData) :
    ∃ rs' y4 y5 y6 y7, rs'.length ≤ rs.length + 4 ∧ (∀ r ∈ rs', RQ 0 r) ∧ rbBody [some (.list (ns.map PyData.int)), some (.int s), some (.list (rows rs)), some (.int (k : Nat)), x4, x5, x6, x7, x8] =
      .ok (.nx [some (.list (ns.map PyData.int)), some (.int s), some (.list (rows rs')), some (.int (k : Nat)), y4, y5, y6, y7, x8]) := by
  obtain ⟨c, hc⟩ := ns_at (ns := ns) (i := 2 * (k : Int)) (by omega) (by omega)
  obtain ⟨t, ht⟩ := ns_at (ns := ns) (i := 2 * (k : Int) + 1) (by omega) (by omega)
  have hm := mul2 k (by omega)
  obtain ⟨pa, ea, ha⟩ := part_by s (c / 10 / 1)
  obtain ⟨pb, eb, hb⟩ := part_by s (c / 10 / 400)
  obtain ⟨pc, ec, hcc⟩ := part_by s (c / 10 / 160000)
  have sa : Ss pa := ha
  have sb : Ss pb := hb
  have sc : Ss pc := hcc
  obtain ⟨x, hx, sx⟩ := piece_at sa sb sc (i := t % 3) (by omega) (by omega)
  obtain ⟨y, hy, sy⟩ := piece_at sa sb sc (i := t / 12 % 3) (by omega) (by omega)
  obtain ⟨g1, e1, l1, k1⟩ := mul01 sx.ok (t / 3)
  obtain ⟨g2, e2, l2, k2⟩ := mul01 fl_ok (t / 6)
  have e2' : mulTD (.tuple [.tuple [.str "false"]]) (.int (t / 6 % 2)) = some (.tuple (encs g2)) := e2
  have a1 := encs_add (gs := g1) (ds := encs g2) (hs := g2) rfl (by omega)
  have a2 := encs_add (gs := g1 ++ g2) (ds := [y.enc]) (hs := [y]) rfl (by simp; omega)
  obtain ⟨rs', er, p1, p2⟩ := added hr (by omega) (c % 10) (by omega) (by omega) (gs := g1 ++ g2 ++ [y]) (g_app (g_app k1 k2) (g_one sy.ok)) (by simp; omega) sa sb sc
  have b1 : (1 : Nat) ≤ big := by decide
  have b3 : (3 : Nat) ≤ big := by decide
  have b3i : -(big : Int) ≤ 3 ∧ (3 : Int) ≤ big := by simp only [big]; omega
  have hu : DL.upTo 0 (3 : Int).toNat = [.int 0, .int 1, .int 2] := rfl
  have hul : (DL.upTo 0 (3 : Int).toNat).length ≤ big := by rw [upTo_len]; exact b3
  have hfg : frz (.tuple (encs (g1 ++ g2 ++ [y]))) = true := by
    simp only [frz]
    exact frzs_encs _
  have hfp : frz (.tuple [pa.enc, pb.enc, pc.enc]) = true := by simp [frz, frzs, frz_stm]
  have hfr := frzs_rows rs'
  have hfp2 : frzs [pa.enc, pb.enc, pc.enc] = true := by simp [frzs, frz_stm]
  have hfg2 : frzs (encs (g1 ++ g2 ++ [y])) = true := frzs_encs _
  refine ⟨rs', some (.int c), some (.tuple [pa.enc, pb.enc, pc.enc]), some (.int t), some (.tuple (encs (g1 ++ g2 ++ [y]))), p2, p1, ?_⟩
  unfold rbBody
  rw [noBk_ap]
  simp only [sSeq_ap, sSetF_ap, eOp_ap, eVar_ap, eC_ap, List.getElem?_cons_succ, List.getElem?_cons_zero, Res.ok_bind, hm, Res.of_some, ixD_list, hc, List.set_cons_succ, List.set_cons_zero]
  rw [show frz (.int c) = true from rfl]
  simp only [if_true, Res.ok_bind, eArgs_ap, aCons_ap, aNil_ap]
  rw [eLc_ap]
  simp only [sRng1_ap, aCons_ap, aNil_ap, eC_ap, Res.ok_bind, if_pos b3i, if_pos hul, List.set_cons_succ, List.set_cons_zero]
  rw [lcGo_map (v := pieceD pa pb pc) (by
    intro d hd
    rw [hu] at hd
    simp only [List.mem_cons, List.not_mem_nil, or_false] at hd
    rcases hd with rfl | rfl | rfl
    · refine ⟨rfl, ?_, frz_stm _⟩
      simp [b3, pieceD, natOf]
      simpa using ea
    · refine ⟨rfl, ?_, frz_stm _⟩
      simp [b3, pieceD, natOf, eb]
    · refine ⟨rfl, ?_, frz_stm _⟩
      simp [b3, pieceD, natOf, ec])]
  have hmap : (DL.upTo 0 (3 : Int).toNat).map (pieceD pa pb pc) = [pa.enc, pb.enc, pc.enc] := rfl
  rw [hmap]
  simp only [List.append_assoc] at hfg2 a2 er ⊢
  simp [Res.calm, tupleD, hfp2, hfg2, hm, ht, frz, hx, hy, b1, e1, e2', a1, a2, er, hfr]
theorem rows_by {ns : List Int} (hn : ns.length ≤ 63) (s : Int) : ∃ rs, sem_law_rows_by [.list (ns.map PyData.int), .int s] = .ok (.list (rows rs)) ∧ (∀ r ∈ rs, RQ 0 r) ∧ rs.length ≤ 40 := by
  obtain ⟨m, hm, hm1, hm2⟩ : ∃ m : Nat, min2D [.int 10, .int ((ns.length : Int) / 2)] = some (.int (m : Nat)) ∧ m ≤ 10 ∧ 2 * m ≤ ns.length := by
    refine ⟨(if (ns.length : Int) / 2 < 10 then (ns.length : Int) / 2 else 10).toNat, ?_, ?_, ?_⟩
    · simp only [min2D]
      congr 2
      split <;> omega
    · split <;> omega
    · split <;> omega
  have hbm : -(big : Int) ≤ (m : Int) ∧ (m : Int) ≤ big := by simp only [big]; omega
  have b0 : (0 : Nat) ≤ big := Nat.zero_le _
  obtain ⟨ρ', h1, rs, x3, x4, x5, x6, x7, rfl, q1, q2⟩ := forGo_inv (k := gF 3) (F := rbBody) (I := fun j ρ => ∃ rs x3 x4 x5 x6 x7, ρ = [some (.list (ns.map PyData.int)), some (.int s), some (.list (rows rs)), x3, x4, x5, x6, x7, none] ∧ rs.length ≤ 4 * j ∧ (∀ r ∈ rs, RQ 0 r))
    (xs := DL.upTo 0 m) (i := 0) (ρ := [some (.list (ns.map PyData.int)), some (.int s), some (.list (rows [])), none, none, none, none, none, none]) ⟨[], _, _, _, _, _, rfl, by simp, fun r h => by cases h⟩ (by
    rintro j d ρ hd ⟨rs, x3, x4, x5, x6, x7, rfl, q1, q2⟩
    have hj := (List.getElem?_eq_some_iff.mp hd).1
    rw [upTo_len] at hj
    have e : d = .int ((j : Nat) : Int) := by
      have := (List.getElem?_eq_some_iff.mp hd).2
      simp [DL.upTo] at this
      rw [← this]
    subst e
    rw [Nat.zero_add] at q1 ⊢
    obtain ⟨rs2, y4, y5, y6, y7, p1, p2, p3⟩ := rb_body (k := j) q2 (by omega) (ns := ns) (by omega) hn s x4 x5 x6 x7 none
    exact ⟨_, _, rfl, .inl p3, rs2, _, _, _, _, _, rfl, by omega, p2⟩)
  rw [Nat.zero_add, upTo_len] at q1
  refine ⟨rs, ?_, q2, by omega⟩
  unfold sem_law_rows_by F_law_rows_by
  have e0 : rows [] = [] := rfl
  rw [e0] at h1
  unfold rbBody at h1
  simp [bodyN, startD, b0, hm, hbm, sFor_ap, frzs, h1]
end My

set_option Elab.async false
set_option maxRecDepth 100000
set_option maxHeartbeats 4000000
set_option linter.all false
namespace My
open PySem L2 DL PyProof.Rows
def dueBody : SS :=
  (noBk (sSeq (sSetF 6 (eCall sem_follows (aCons (eVar 2) (aCons (eVar 5) aNil))))
    (sSeq (sIf (DL.tOr (DL.tNot (asT (eUn (isiD "bool") (eVar 6)))) (asT (eOp neD (eVar 6) (eCall sem_law_follows (aCons (eVar 2) (aCons (eVar 5) aNil)))))) (sRet (eC (.bool false))) sNext)
    (sIf (DL.tNot (asT (eVar 6))) (sApp 4 (eVar 5)) sNext))))
def lawTail : SS :=
  (sSeq (sTake 6 (eCall sem_faults (aCons (eVar 2) aNil)))
    (sSeq (sIf (DL.tOr (DL.tNot (asT (eUn (isiD "list") (eVar 6)))) (DL.tOr (asT (eOp neD (eVar 6) (eVar 4))) (asT (eOp neD (eVar 2) (eVar 3))))) (sRet (eC (.bool false))) sNext)
    (sSeq (sApp 6 (eC (.int 5)))
    (sRet (eAnd (eOp eqD (eCall sem_faults (aCons (eVar 2) aNil)) (eVar 4)) (eOp eqD (eCall sem_faults (aCons (eCut (eVar 2) oNone (oSome (eC (.int 1)))) aNil)) (eLc 5 (sList (eVar 4)) (asT (eOp ltD (eVar 5) (eC (.int 1)))) (eVar 5))))))))
def lawRest : SS :=
  (sSeq (sSetN 3 (eArgs listD (aCons (eVar 2) aNil)))
    (sSeq (sTake 4 (eLst aNil))
    (sSeq (sFor (sRng1 (aCons (eArgs lenD (aCons (eVar 2) aNil)) aNil)) (gF 5) dueBody)
    lawTail)))
def lawF : SS :=
  (sSeq (sSet 1 (eCall sem_law_cell_at (aCons (eVar 0) (aCons (eC (.int 0)) aNil))))
    (noBk (sSeq (sTake 2 (eCall sem_law_rows_by (aCons (eCut (eVar 0) (oSome (eC (.int 4))) (oSome (eC (.int 24)))) (aCons (eVar 1) aNil))))
    (sSeq (sIf (asT (eOp gtD (eArgs lenD (aCons (eVar 2) aNil)) (eC (.int 0)))) (sCallM 2 0 1 sem_law_all_spoilt) sNext)
    lawRest))))
theorem lawF_eq : F_law = lawF := rfl
theorem isi_bool {b : Bool} : isiD "bool" (.bool b) = some (.bool true) := nrfl rfl
theorem isi_list {z : List PyData} : isiD "list" (.list z) = some (.bool true) := nrfl rfl
theorem neD_bool {b : Bool} : neD (.bool b) (.bool b) = some (.bool false) := by cases b <;> rfl
theorem upTo_succ (n : Nat) : DL.upTo 0 (n + 1) = DL.upTo 0 n ++ [.int (n : Nat)] := by
  unfold DL.upTo
  rw [List.range_succ, List.map_append]
  simp
theorem bads_succ (rs : List Row) (n : Nat) : bads rs (n + 1) = bads rs n ++ if fol rs n then [] else [.int (n : Nat)] := by
  unfold bads
  rw [upTo_succ, List.filter_append]
  congr 1
  cases h : fol rs n <;> simp [badP, natOf, h]
theorem due_step {rs : List Row} (hr : ∀ r ∈ rs, RN r) (hl : rs.length ≤ 40) {n : Nat} (hn : n < rs.length) (a0 a1 a3 x6 : Option PyData) :
    dueBody [a0, a1, some (.list (rows rs)), a3, some (.list (bads rs n)), some (.int (n : Nat)), x6] =
      .ok (.nx [a0, a1, some (.list (rows rs)), a3, some (.list (bads rs (n + 1))), some (.int (n : Nat)), some (.bool (fol rs n))]) := by
  have hok : ∀ r ∈ rs, r.Ok := fun r h => (hr r h).1
  have e1 := follows hok hn
  have e2 := law_follows hok hn
  have hb : (bads rs n).length < big := Nat.lt_of_le_of_lt (bads_len rs n) (by simp only [big]; omega)
  unfold dueBody
  rw [bads_succ]
  generalize fol rs n = f at *
  cases f with
  | false => simp [e1, e2, frz, isi_bool, neD_bool, hb]
  | true => simp [e1, e2, frz, isi_bool, neD_bool]
def lt1 (d : PyData) : Bool := match d with
  | .int i => decide (i < 1)
  | _ => false
theorem fol_first (r : Row) (t : List Row) : fol [r] 0 = fol (r :: t) 0 := by
  simp only [fol, List.getElem?_cons_zero]
  cases ruleOf r.r with
  | none => rfl
  | some k =>
    simp only
    cases hu : r.u with
    | nil => simp [upsOf, hu]
    | cons u us =>
      have : inR (u :: us) ((0 : Nat) : Int) = false := by
        simp only [inR, List.all_cons, Bool.and_eq_false_iff]
        refine .inl ?_
        simp <;> omega
      rw [this]
      simp
theorem first_bads (rs : List Row) : bads (cutP rs none (some 1)) (cutP rs none (some 1)).length = (bads rs rs.length).filter lt1 := by
  have e : cutP rs none (some 1) = rs.take 1 := by
    simp only [cutP, HT.sIx_none, List.drop_zero, Nat.sub_zero]
    rw [sIx_pos (by decide)]
    cases rs with
    | nil => rfl
    | cons r t => rw [show min (1 : Int).toNat (r :: t).length = 1 by simp]
  rw [e]
  cases rs with
  | nil => rfl
  | cons r t =>
    have e1 : (r :: t).take 1 = [r] := rfl
    have hu : DL.upTo 0 (t.length + 1) = .int 0 :: (List.range t.length).map fun i => .int ((i : Int) + 1) := by
      unfold DL.upTo
      rw [List.range_succ_eq_map, List.map_cons, List.map_map]
      congr 1
      refine List.map_congr_left fun i _ => ?_
      show PyData.int (0 + ((i + 1 : Nat) : Int)) = _
      congr 1
      omega
    have hz : (((List.range t.length).map fun i : Nat => PyData.int ((i : Int) + 1)).filter (badP (r :: t))).filter lt1 = [] := by
      refine List.filter_eq_nil_iff.mpr fun d hd => ?_
      obtain ⟨i, _, rfl⟩ := List.mem_map.mp (List.mem_filter.mp hd).1
      simp only [lt1, decide_eq_true_eq]
      omega
    rw [e1]
    unfold bads
    rw [show (r :: t).length = t.length + 1 from rfl, hu]
    have e2 : DL.upTo 0 [r].length = [.int 0] := rfl
    rw [e2]
    have e3 : badP [r] (.int 0) = badP (r :: t) (.int 0) := by
      simp only [badP, natOf]
      show (!fol [r] 0) = !fol (r :: t) 0
      rw [fol_first r t]
    cases hb : badP (r :: t) (.int 0) with
    | false => simp [e3, hb, hz]
    | true =>
      have h1 : lt1 (.int 0) = true := rfl
      simp [e3, hb, hz, h1]
theorem law_tail {rs : List Row} (hr : ∀ r ∈ rs, RN r) (hl : rs.length ≤ 40) (a0 a1 x5 x6 : Option PyData) :
    lawTail [a0, a1, some (.list (rows rs)), some (.list (rows rs)), some (.list (bads rs rs.length)), x5, x6] = .ok (.rt (.bool true)) := by
  have e1 := faults hr hl
  have hr1 : ∀ r ∈ cutP rs none (some 1), RN r := fun r h => hr r (cut_mem h)
  have e2 := faults hr1 (Nat.le_trans (cut_le rs none (some 1)) hl)
  have hc : DL.cutD none (some 1) (.list (rows rs)) = some (.list (rows (cutP rs none (some 1)))) := by
    rw [← cut_map]
    rfl
  rw [first_bads] at e2
  have n1 := ne_same (bads_nice rs rs.length) (by decide)
  have n2 := ne_same (rows_nice hr) (by decide)
  have n3 := eq_same (bads_nice rs rs.length) (by decide)
  have n4 := eq_same (xs := (bads rs rs.length).filter lt1) (k := 0) (nices_mem.mpr fun d hd => nices_mem.mp (bads_nice rs rs.length) d (List.mem_filter.mp hd).1) (by decide)
  have hf := bads_frz rs rs.length
  have hbl := bads_len rs rs.length
  have hb : (bads rs rs.length).length < big := Nat.lt_of_le_of_lt hbl (by simp only [big]; omega)
  have hb2 : (bads rs rs.length).length ≤ big := Nat.le_of_lt hb
  have hint : ∀ d ∈ bads rs rs.length, ∃ i : Int, d = .int i := fun d hd => by
    obtain ⟨i, _, rfl, _⟩ := mem_up (List.mem_filter.mp hd).1
    exact ⟨_, rfl⟩
  generalize bads rs rs.length = due at *
  unfold lawTail
  simp [e1, e2, hc, hf, isi_list, n1, n2, n3, frz, hb]
  rw [eLc_ap]
  simp [hb2]
  rw [lcGo_filter (p := lt1) (v := id) (by
    intro d hd
    obtain ⟨i, rfl⟩ := hint d hd
    exact ⟨by simp [lt1], fun _ => ⟨by simp, rfl⟩⟩)]
  simp [Res.calm, n4]
theorem law_rest {rs : List Row} (hr : ∀ r ∈ rs, RN r) (hl : rs.length ≤ 40) (a0 a1 : Option PyData) :
    lawRest [a0, a1, some (.list (rows rs)), none, none, none, none] = .ok (.rt (.bool true)) := by
  obtain ⟨ρ', h1, x5, x6, rfl⟩ := forGo_inv (k := gF 5) (F := dueBody) (I := fun j ρ => ∃ x5 x6, ρ = [a0, a1, some (.list (rows rs)), some (.list (rows rs)), some (.list (bads rs j)), x5, x6])
    (xs := DL.upTo 0 rs.length) (i := 0) (ρ := [a0, a1, some (.list (rows rs)), some (.list (rows rs)), some (.list (bads rs 0)), none, none]) ⟨_, _, rfl⟩ (by
    rintro j d ρ hd ⟨x5, x6, rfl⟩
    have hj := (List.getElem?_eq_some_iff.mp hd).1
    rw [upTo_len] at hj
    have e : d = .int ((j : Nat) : Int) := by
      have := (List.getElem?_eq_some_iff.mp hd).2
      simp [DL.upTo] at this
      rw [← this]
    subst e
    rw [Nat.zero_add]
    exact ⟨_, _, rfl, .inl (due_step hr hl hj a0 a1 (some (.list (rows rs))) x6), _, _, rfl⟩)
  rw [Nat.zero_add, upTo_len] at h1
  have e0 : bads rs 0 = [] := rfl
  rw [e0] at h1
  have ht := law_tail hr hl a0 a1 x5 x6
  have hf := frzs_rows rs
  have b0 : (0 : Nat) ≤ big := Nat.zero_le _
  have hb := big40 hl
  have hrl := rows_len rs
  unfold lawRest
  simp [listD, hf, b0, frzs, sFor_ap, hrl, hb, h1, ht]
theorem plain : ∀ ns : List Int, ns.length ≤ 63 → sem_law [.list (ns.map PyData.int)] = .ok (.bool true) := by
  intro ns hns
  have c0 : sem_law_cell_at [.list (ns.map PyData.int), .int 0] = .ok (.int (ns.getD 0 0)) := cell_at ns 0 hns
  generalize ns.getD 0 0 = s at c0
  have hcut : DL.cutD (some 4) (some 24) (.list (ns.map PyData.int)) = some (.list ((cutP ns (some 4) (some 24)).map PyData.int)) := by
    show some (PyData.list (cutP (ns.map PyData.int) (some 4) (some 24))) = _
    simp [cutP, List.map_take, List.map_drop]
  obtain ⟨rs, hrb, hrq, hrl⟩ := rows_by (Nat.le_trans (cut_le ns (some 4) (some 24)) hns) s
  have hf := frzs_rows rs
  have hlen := rows_len rs
  unfold sem_law
  rw [lawF_eq]
  unfold lawF
  by_cases h0 : 0 < rs.length
  · obtain ⟨rs2, q1, q2, q3⟩ := all_spoilt hrq h0 hns s
    have hr := law_rest (fun r h => (q2 r h).rn (by decide)) (by omega) (some (.list (ns.map PyData.int))) (some (.int s))
    have hf2 := frzs_rows rs2
    simp [bodyD, startD, c0, hcut, hrb, hf, hlen, h0, q3, hf2, hr]
  · have hr := law_rest (fun r h => (hrq r h).rn (by decide)) hrl (some (.list (ns.map PyData.int))) (some (.int s))
    simp [bodyD, startD, c0, hcut, hrb, hf, hlen, h0, hr]
end My

set_option Elab.async false
set_option linter.all false
set_option maxRecDepth 100000
set_option maxHeartbeats 4000000
namespace My
open PySem L2 DL PyProof.Rows
/-! the walks -/
section
variable {P : Program} {w : World} {K : PySem.W.Frag} {mg : Str → Option Value} {base : Heap}
abbrev Cal (P : Program) (w : World) (K : PySem.W.Frag) (mg : Str → Option Value) (base : Heap) (x : Str) (k : Nat) (ps : List Str) (g : List PyData → Res PyData) : Prop := Callee P w K mg base CX0 (fun _ => .none) x k ps g
abbrev CalM (P : Program) (w : World) (K : PySem.W.Frag) (mg : Str → Option Value) (base : Heap) (x : Str) (k : Nat) (ps : List Str) (g : List PyData → Res PyData) : Prop := CalleeM P w K mg base CX0 (fun _ => .none) x k ps g
abbrev CalN (P : Program) (w : World) (K : PySem.W.Frag) (mg : Str → Option Value) (base : Heap) (x : Str) (k : Nat) (ps : List Str) (g : List PyData → Res PyData) : Prop := CalleeN P w K mg base CX0 (fun _ => .none) x k ps g
theorem sc_count_of : FnScope N_count_of ["rule"] (defScope s_count_of) := ⟨rfl, rfl, rfl, by decide +kernel, rfl, by decide +kernel, by decide +kernel⟩
theorem w_count_of {k : Nat} (T : Txt K mg) : Cal P w K mg base "count_of" (k + 1) ["rule"] (bodyD 3 F_count_of) := by
  obtain ⟨f, fd, D, hm, hb⟩ := T.d_count_of.ex
  have sc := sc_count_of
  refine callee_of (N := N_count_of) D sc hm hb fun cdv A outer s H E W hr => ?_
  exact (pssd_cons (psd_for PassesOwn.never rfl (id_tup (ed_op od_add (ed_glob T.gl_COUNTS) (ed_glob T.gl_MORE_COUNTS))) (gd_tup rfl (gds_cons (gd_name (i := 1) sc.nd) (gds_cons (gd_name (i := 2) sc.nd) gds_nil))) (pssd_one (psd_if (td_cmp (od_eq hr.units) (ed_var (i := 1)) (ed_var (i := 0))) (pssd_one (psd_ret (ed_var (i := 2)))) pssd_nil)))
    (pssd_one (psd_ret ed_non)))
theorem sc_is_from : FnScope N_is_from ["row", "given", "statement", "supposed"] (defScope s_is_from) := ⟨rfl, rfl, rfl, by decide +kernel, rfl, by decide +kernel, by decide +kernel⟩
theorem w_is_from {k : Nat} (T : Txt K mg) : Cal P w K mg base "is_from" (k + 1) ["row", "given", "statement", "supposed"] (bodyD 5 F_is_from) := by
  obtain ⟨f, fd, D, hm, hb⟩ := T.d_is_from.ex
  have sc := sc_is_from
  refine callee_of (N := N_is_from) D sc hm hb fun cdv A outer s H E W hr => ?_
  exact (pssd_one (psd_ret (ed_and (ed_cmp (od_eq hr.units) (ed_ix (ed_var (i := 0)) ed_int) (ed_var (i := 2))) (ed_one (ed_callB (cd_all rfl) T.z_all (ad_cons (ed_lc (x := "one") (i := 4) rfl sc.nd (id_tup (ed_ix (ed_var (i := 0)) ed_int)) (blkOk_by (own := [("one", 4)]) (N := N_is_from) (sc := defScope s_is_from) (by decide +kernel)) (fun _ _ _ _ _ => pg_name (i := 4) sc.nd rfl (Or.inl rfl)) (fun _ _ _ _ _ => tds_nil) (fun _ _ _ _ _ => (ed_or (ed_cmp (od_in (units65 hr)) (ed_var (i := 4)) (ed_var (i := 1))) (ed_one (ed_cmp (od_in (units65 hr)) (ed_var (i := 4)) (ed_var (i := 3))))))) ad_nil))))))
theorem sc_is_pair : FnScope N_is_pair ["statement", "word"] (defScope s_is_pair) := ⟨rfl, rfl, rfl, by decide +kernel, rfl, by decide +kernel, by decide +kernel⟩
theorem w_is_pair {k : Nat} (T : Txt K mg) : Cal P w K mg base "is_pair" (k + 1) ["statement", "word"] (bodyD 2 F_is_pair) := by
  obtain ⟨f, fd, D, hm, hb⟩ := T.d_is_pair.ex
  have sc := sc_is_pair
  refine callee_of (N := N_is_pair) D sc hm hb fun cdv A outer s H E W hr => ?_
  exact (pssd_one (psd_ret (ed_cmp (od_eq hr.units) (ed_ix (ed_var (i := 0)) ed_int) (ed_var (i := 1)))))
theorem sc_by_parts : FnScope N_by_parts ["row", "ups"] (defScope s_by_parts) := ⟨rfl, rfl, rfl, by decide +kernel, rfl, by decide +kernel, by decide +kernel⟩
theorem w_by_parts {k : Nat} (T : Txt K mg) (c_is_from : Cal P w K mg base "is_from" k ["row", "given", "statement", "supposed"] sem_is_from) (c_is_pair : Cal P w K mg base "is_pair" k ["statement", "word"] sem_is_pair) : Cal P w K mg base "by_parts" (k + 1) ["row", "ups"] (bodyD 6 F_by_parts) := by
  obtain ⟨f, fd, D, hm, hb⟩ := T.d_by_parts.ex
  have sc := sc_by_parts
  refine callee_of (N := N_by_parts) D sc hm hb fun cdv A outer s H E W hr => ?_
  exact (pssd_cons (psd_asg (ed_cut (ed_var (i := 0)) od_none (od_some ed_int)) (gd_tup rfl (gds_cons (gd_name (i := 3) sc.nd) (gds_cons (gd_name (i := 4) sc.nd) (gds_cons (gd_name (i := 5) sc.nd) gds_nil)))))
    (pssd_cons (psd_if (td_cmp (od_eq hr.units) (ed_var (i := 5)) ed_str) (pssd_cons (psd_if (td_not (td_val (ed_call c_is_pair hr passD (ad_cons (ed_var (i := 4)) (ad_cons ed_str ad_nil)) (an_cons (an_cons an_nil))))) (pssd_one (psd_ret ed_bl)) pssd_nil)
    (pssd_one (psd_ret (ed_and (ed_call c_is_from hr passD (ad_cons (ed_ix (ed_var (i := 1)) ed_int) (ad_cons (ed_var (i := 3)) (ad_cons (ed_ix (ed_var (i := 4)) ed_int) (ad_cons (ed_tup ad_nil) ad_nil)))) (an_cons (an_cons (an_cons (an_cons an_nil))))) (ed_one (ed_call c_is_from hr passD (ad_cons (ed_ix (ed_var (i := 1)) ed_int) (ad_cons (ed_var (i := 3)) (ad_cons (ed_ix (ed_var (i := 4)) ed_int) (ad_cons (ed_tup ad_nil) ad_nil)))) (an_cons (an_cons (an_cons (an_cons an_nil)))))))))) pssd_nil)
    (pssd_cons (psd_if (td_cmp (od_in (units65 hr)) (ed_var (i := 5)) (ed_tup (ad_cons ed_str (ad_cons ed_str ad_nil)))) (pssd_one (psd_ret (ed_and (ed_call c_is_pair hr passD (ad_cons (ed_var (i := 4)) (ad_cons ed_str ad_nil)) (an_cons (an_cons an_nil))) (ed_one (ed_call c_is_from hr passD (ad_cons (ed_ix (ed_var (i := 1)) ed_int) (ad_cons (ed_var (i := 3)) (ad_cons (ed_ix (ed_var (i := 4)) (ed_op od_add ed_int (ed_callT cd_int T.z_int (ad_cons (ed_cmp (od_eq hr.units) (ed_var (i := 5)) ed_str) ad_nil)))) (ad_cons (ed_tup ad_nil) ad_nil)))) (an_cons (an_cons (an_cons (an_cons an_nil))))))))) pssd_nil)
    (pssd_cons (psd_set (i := 2) sc.nd (ed_ix (ed_ix (ed_var (i := 1)) ed_int) ed_int))
    (pssd_cons (psd_if (PW.pt (td_or (td_not (td_val (ed_call c_is_pair hr passD (ad_cons (ed_var (i := 2)) (ad_cons ed_str ad_nil)) (an_cons (an_cons an_nil))))) (td_or1 (td_not (td_val (ed_call c_is_from hr passD (ad_cons (ed_ix (ed_var (i := 1)) ed_int) (ad_cons (ed_var (i := 3)) (ad_cons (ed_var (i := 2)) (ad_cons (ed_tup ad_nil) ad_nil)))) (an_cons (an_cons (an_cons (an_cons an_nil)))))))))) (pssd_one (psd_ret ed_bl)) pssd_nil)
    (pssd_one (psd_ret (ed_cmp (od_eq hr.units) (ed_var (i := 4)) (ed_ix (ed_var (i := 2)) (ed_op od_add ed_int (ed_callT cd_int T.z_int (ad_cons (ed_cmp (od_eq hr.units) (ed_var (i := 5)) ed_str) ad_nil))))))))))))
theorem sc_by_cases : FnScope N_by_cases ["row", "ups"] (defScope s_by_cases) := ⟨rfl, rfl, rfl, by decide +kernel, rfl, by decide +kernel, by decide +kernel⟩
theorem w_by_cases {k : Nat} (T : Txt K mg) (c_is_from : Cal P w K mg base "is_from" k ["row", "given", "statement", "supposed"] sem_is_from) (c_is_pair : Cal P w K mg base "is_pair" k ["statement", "word"] sem_is_pair) : Cal P w K mg base "by_cases" (k + 1) ["row", "ups"] (bodyD 5 F_by_cases) := by
  obtain ⟨f, fd, D, hm, hb⟩ := T.d_by_cases.ex
  have sc := sc_by_cases
  refine callee_of (N := N_by_cases) D sc hm hb fun cdv A outer s H E W hr => ?_
  exact (pssd_cons (psd_asg (ed_cut (ed_var (i := 0)) od_none (od_some ed_int)) (gd_tup rfl (gds_cons (gd_name (i := 3) sc.nd) (gds_cons (gd_name (i := 4) sc.nd) gds_nil))))
    (pssd_cons (psd_set (i := 2) sc.nd (ed_ix (ed_ix (ed_var (i := 1)) ed_int) ed_int))
    (pssd_cons (psd_if (PW.pt (td_or (td_not (td_val (ed_call c_is_pair hr passD (ad_cons (ed_var (i := 2)) (ad_cons ed_str ad_nil)) (an_cons (an_cons an_nil))))) (td_or1 (td_not (td_val (ed_call c_is_from hr passD (ad_cons (ed_ix (ed_var (i := 1)) ed_int) (ad_cons (ed_var (i := 3)) (ad_cons (ed_var (i := 2)) (ad_cons (ed_tup ad_nil) ad_nil)))) (an_cons (an_cons (an_cons (an_cons an_nil)))))))))) (pssd_one (psd_ret ed_bl)) pssd_nil)
    (pssd_one (psd_ret (ed_and (ed_call c_is_from hr passD (ad_cons (ed_ix (ed_var (i := 1)) ed_int) (ad_cons (ed_var (i := 3)) (ad_cons (ed_var (i := 4)) (ad_cons (ed_tup (ad_cons (ed_ix (ed_var (i := 2)) ed_int) ad_nil)) ad_nil)))) (an_cons (an_cons (an_cons (an_cons an_nil))))) (ed_one (ed_call c_is_from hr passD (ad_cons (ed_ix (ed_var (i := 1)) ed_int) (ad_cons (ed_var (i := 3)) (ad_cons (ed_var (i := 4)) (ad_cons (ed_tup (ad_cons (ed_ix (ed_var (i := 2)) ed_int) ad_nil)) ad_nil)))) (an_cons (an_cons (an_cons (an_cons an_nil))))))))))))
theorem sc_by_then : FnScope N_by_then ["row", "ups"] (defScope s_by_then) := ⟨rfl, rfl, rfl, by decide +kernel, rfl, by decide +kernel, by decide +kernel⟩
theorem w_by_then {k : Nat} (T : Txt K mg) (c_is_from : Cal P w K mg base "is_from" k ["row", "given", "statement", "supposed"] sem_is_from) (c_is_pair : Cal P w K mg base "is_pair" k ["statement", "word"] sem_is_pair) : Cal P w K mg base "by_then" (k + 1) ["row", "ups"] (bodyD 6 F_by_then) := by
  obtain ⟨f, fd, D, hm, hb⟩ := T.d_by_then.ex
  have sc := sc_by_then
  refine callee_of (N := N_by_then) D sc hm hb fun cdv A outer s H E W hr => ?_
  exact (pssd_cons (psd_asg (ed_cut (ed_var (i := 0)) od_none (od_some ed_int)) (gd_tup rfl (gds_cons (gd_name (i := 3) sc.nd) (gds_cons (gd_name (i := 4) sc.nd) (gds_cons (gd_name (i := 5) sc.nd) gds_nil)))))
    (pssd_cons (psd_if (td_cmp (od_eq hr.units) (ed_var (i := 5)) ed_str) (pssd_one (psd_ret (ed_and (ed_call c_is_pair hr passD (ad_cons (ed_var (i := 4)) (ad_cons ed_str ad_nil)) (an_cons (an_cons an_nil))) (ed_one (ed_call c_is_from hr passD (ad_cons (ed_ix (ed_var (i := 1)) ed_int) (ad_cons (ed_var (i := 3)) (ad_cons (ed_ix (ed_var (i := 4)) ed_int) (ad_cons (ed_tup (ad_cons (ed_ix (ed_var (i := 4)) ed_int) ad_nil)) ad_nil)))) (an_cons (an_cons (an_cons (an_cons an_nil))))))))) pssd_nil)
    (pssd_cons (psd_set (i := 2) sc.nd (ed_ix (ed_ix (ed_var (i := 1)) ed_int) ed_int))
    (pssd_cons (psd_if (PW.pt (td_or (td_not (td_val (ed_call c_is_pair hr passD (ad_cons (ed_var (i := 2)) (ad_cons ed_str ad_nil)) (an_cons (an_cons an_nil))))) (td_or1 (td_not (td_val (ed_call c_is_from hr passD (ad_cons (ed_ix (ed_var (i := 1)) ed_int) (ad_cons (ed_var (i := 3)) (ad_cons (ed_var (i := 2)) (ad_cons (ed_tup ad_nil) ad_nil)))) (an_cons (an_cons (an_cons (an_cons an_nil)))))))))) (pssd_one (psd_ret ed_bl)) pssd_nil)
    (pssd_one (psd_ret (ed_and (ed_cmp (od_eq hr.units) (ed_var (i := 4)) (ed_ix (ed_var (i := 2)) ed_int)) (ed_one (ed_call c_is_from hr passD (ad_cons (ed_ix (ed_var (i := 1)) ed_int) (ad_cons (ed_var (i := 3)) (ad_cons (ed_ix (ed_var (i := 2)) ed_int) (ad_cons (ed_tup ad_nil) ad_nil)))) (an_cons (an_cons (an_cons (an_cons an_nil)))))))))))))
theorem sc_follows : FnScope N_follows ["rows", "number"] (defScope s_follows) := ⟨rfl, rfl, rfl, by decide +kernel, rfl, by decide +kernel, by decide +kernel⟩
theorem w_follows {k : Nat} (T : Txt K mg) (c_by_cases : Cal P w K mg base "by_cases" k ["row", "ups"] sem_by_cases) (c_by_parts : Cal P w K mg base "by_parts" k ["row", "ups"] sem_by_parts) (c_by_then : Cal P w K mg base "by_then" k ["row", "ups"] sem_by_then) (c_count_of : Cal P w K mg base "count_of" k ["rule"] sem_count_of) (c_is_from : Cal P w K mg base "is_from" k ["row", "given", "statement", "supposed"] sem_is_from) : Cal P w K mg base "follows" (k + 1) ["rows", "number"] (bodyD 5 F_follows) := by
  obtain ⟨f, fd, D, hm, hb⟩ := T.d_follows.ex
  have sc := sc_follows
  refine callee_of (N := N_follows) D sc hm hb fun cdv A outer s H E W hr => ?_
  exact (pssd_cons (psd_set (i := 2) sc.nd (ed_ix (ed_var (i := 0)) (ed_var (i := 1))))
    (pssd_cons (psd_if (PW.pt (td_or (td_cmp (od_ne hr.units) (ed_call c_count_of hr passD (ad_cons (ed_ix (ed_var (i := 2)) ed_int) ad_nil) (an_cons an_nil)) (ed_callB cd_len T.z_len (ad_cons (ed_ix (ed_var (i := 2)) ed_int) ad_nil))) (td_or1 (td_not (td_val (ed_callB (cd_all rfl) T.z_all (ad_cons (ed_lc (x := "up") (i := 4) rfl sc.nd (id_tup (ed_ix (ed_var (i := 2)) ed_int)) (blkOk_by (own := [("up", 4)]) (N := N_follows) (sc := defScope s_follows) (by decide +kernel)) (fun _ _ _ _ _ => pg_name (i := 4) sc.nd rfl (Or.inl rfl)) (fun _ _ _ _ _ => tds_nil) (fun _ _ _ _ _ => (ed_chain od_le od_lt ed_int (ed_var (i := 4)) (ed_var (i := 1))))) ad_nil))))))) (pssd_one (psd_ret ed_bl)) pssd_nil)
    (pssd_cons (psd_setLc (i := 3) (x := "up") (j := 4) rfl sc.nd (id_tup (ed_ix (ed_var (i := 2)) ed_int)) (blkOk_by (own := [("up", 4)]) (N := N_follows) (sc := defScope s_follows) (by decide +kernel)) (fun _ _ _ _ _ => pg_name (i := 4) sc.nd rfl (Or.inl rfl)) (fun _ _ _ _ _ => tds_nil) (fun _ _ _ _ _ => (ed_ix (ed_var (i := 0)) (ed_var (i := 4)))))
    (pssd_cons (psd_if (td_cmp (od_eq hr.units) (ed_ix (ed_var (i := 2)) ed_int) ed_str) (pssd_one (psd_ret (ed_cmp (od_in (units65 hr)) (ed_ix (ed_var (i := 2)) ed_int) (ed_ix (ed_var (i := 2)) ed_int)))) pssd_nil)
    (pssd_cons (psd_if (td_cmp (od_eq hr.units) (ed_ix (ed_var (i := 2)) ed_int) ed_str) (pssd_one (psd_ret (ed_call c_is_from hr passD (ad_cons (ed_ix (ed_var (i := 3)) ed_int) (ad_cons (ed_ix (ed_var (i := 2)) ed_int) (ad_cons (ed_tup (ad_cons ed_str ad_nil)) (ad_cons (ed_tup ad_nil) ad_nil)))) (an_cons (an_cons (an_cons (an_cons an_nil))))))) pssd_nil)
    (pssd_cons (psd_if (td_cmp (od_eq hr.units) (ed_ix (ed_var (i := 2)) ed_int) ed_str) (pssd_one (psd_ret (ed_call c_by_cases hr passD (ad_cons (ed_var (i := 2)) (ad_cons (ed_var (i := 3)) ad_nil)) (an_cons (an_cons an_nil))))) pssd_nil)
    (pssd_cons (psd_if (td_cmp (od_in (units65 hr)) (ed_ix (ed_var (i := 2)) ed_int) (ed_tup (ad_cons ed_str (ad_cons ed_str ad_nil)))) (pssd_one (psd_ret (ed_call c_by_then hr passD (ad_cons (ed_var (i := 2)) (ad_cons (ed_var (i := 3)) ad_nil)) (an_cons (an_cons an_nil))))) pssd_nil)
    (pssd_one (psd_ret (ed_call c_by_parts hr passD (ad_cons (ed_var (i := 2)) (ad_cons (ed_var (i := 3)) ad_nil)) (an_cons (an_cons an_nil))))))))))))
theorem sc_faults : FnScope N_faults ["rows"] (defScope s_faults) := ⟨rfl, rfl, rfl, by decide +kernel, rfl, by decide +kernel, by decide +kernel⟩
theorem w_faults {k : Nat} (T : Txt K mg) (c_follows : Cal P w K mg base "follows" k ["rows", "number"] sem_follows) : CalN P w K mg base "faults" (k + 1) ["rows"] (bodyN 2 F_faults) := by
  obtain ⟨f, fd, D, hm, hb⟩ := T.d_faults.ex
  have sc := sc_faults
  refine callee_ofN (N := N_faults) (o := none) D sc hm hb fun cdv A outer s H E W hr => ?_
  exact (pssG_one (psG_ret (en_lc (x := "number") (i := 1) rfl sc.nd (id_rng1 T.z_range (ad_cons (ed_callB cd_len T.z_len (ad_cons (ed_var (i := 0)) ad_nil)) ad_nil)) (blkOk_by (own := [("number", 1)]) (N := N_faults) (sc := defScope s_faults) (by decide +kernel)) (fun _ _ _ _ _ => pg_name (i := 1) sc.nd rfl (Or.inl rfl)) (fun _ _ _ _ _ => (tds_one (td_not (td_val (ed_call c_follows hr passD (ad_cons (ed_var (i := 0)) (ad_cons (ed_var (i := 1)) ad_nil)) (an_cons (an_cons an_nil))))))) (fun _ _ _ _ _ => (ed_var (i := 1))))))
theorem sc_law_cell_at : FnScope N_law_cell_at ["_law_script", "_law_k"] (defScope s_law_cell_at) := ⟨rfl, rfl, rfl, by decide +kernel, rfl, by decide +kernel, by decide +kernel⟩
theorem w_law_cell_at {k : Nat} (T : Txt K mg) : Cal P w K mg base "_law_cell_at" (k + 1) ["_law_script", "_law_k"] (bodyD 2 F_law_cell_at) := by
  obtain ⟨f, fd, D, hm, hb⟩ := T.d_law_cell_at.ex
  have sc := sc_law_cell_at
  refine callee_of (N := N_law_cell_at) D sc hm hb fun cdv A outer s H E W hr => ?_
  exact (pssd_cons (psd_if (td_cmp od_lt (ed_var (i := 1)) (ed_callB cd_len T.z_len (ad_cons (ed_var (i := 0)) ad_nil))) (pssd_one (psd_ret (ed_ix (ed_var (i := 0)) (ed_var (i := 1))))) pssd_nil)
    (pssd_one (psd_ret ed_int)))
theorem sc_law_name_by : FnScope N_law_name_by ["_law_seed", "_law_k"] (defScope s_law_name_by) := ⟨rfl, rfl, rfl, by decide +kernel, rfl, by decide +kernel, by decide +kernel⟩
theorem w_law_name_by {k : Nat} (T : Txt K mg) : Cal P w K mg base "_law_name_by" (k + 1) ["_law_seed", "_law_k"] (bodyD 8 F_law_name_by) := by
  obtain ⟨f, fd, D, hm, hb⟩ := T.d_law_name_by.ex
  have sc := sc_law_name_by
  refine callee_of (N := N_law_name_by) D sc hm hb fun cdv A outer s H E W hr => ?_
  exact (pssd_cons (psd_set (i := 2) sc.nd ed_str)
    (pssd_cons (psd_set (i := 3) sc.nd (ed_op od_add ed_int (ed_op od_mod (ed_var (i := 0)) ed_int)))
    (pssd_cons (psd_set (i := 4) sc.nd (ed_join ed_str (ed_lc (x := "_law_j") (i := 7) rfl sc.nd (id_rng1 T.z_range (ad_cons (ed_var (i := 3)) ad_nil)) (blkOk_by (own := [("_law_j", 7)]) (N := N_law_name_by) (sc := defScope s_law_name_by) (by decide +kernel)) (fun _ _ _ _ _ => pg_name (i := 7) sc.nd rfl (Or.inl rfl)) (fun _ _ _ _ _ => tds_nil) (fun _ _ _ _ _ => (ed_ix (ed_var (i := 2)) (ed_op od_mod (ed_op od_add (ed_op od_add (ed_op od_div (ed_var (i := 0)) ed_int) (ed_op od_mul ed_int (ed_var (i := 7)))) (ed_op od_mul (ed_var (i := 7)) (ed_var (i := 7)))) ed_int))))))
    (pssd_cons (psd_set (i := 5) sc.nd (ed_op od_mod (ed_op od_div (ed_var (i := 0)) ed_int) (ed_var (i := 3))))
    (pssd_cons (psd_set (i := 6) sc.nd (ed_ix (ed_var (i := 2)) (ed_op od_mod (ed_op od_add (ed_sindex (ed_var (i := 2)) (ed_ix (ed_var (i := 4)) (ed_var (i := 5)))) (ed_op od_mul (ed_var (i := 1)) (ed_op od_add ed_int (ed_op od_mod (ed_op od_div (ed_var (i := 0)) ed_int) ed_int)))) ed_int)))
    (pssd_cons (psd_if (PW.pt (td_and (td_cmp (od_eq hr.units) (ed_var (i := 1)) ed_int) (td_and (td_cmp (od_eq hr.units) (ed_op od_mod (ed_op od_div (ed_var (i := 0)) ed_int) ed_int) ed_int) (td_and1 (td_cmp od_lt (ed_var (i := 3)) ed_int))))) (pssd_one (psd_ret (ed_op od_add (ed_var (i := 4)) (ed_var (i := 6))))) pssd_nil)
    (pssd_one (psd_ret (ed_op od_add (ed_op od_add (ed_cut (ed_var (i := 4)) od_none (od_some (ed_var (i := 5)))) (ed_var (i := 6))) (ed_cut (ed_var (i := 4)) (od_some (ed_op od_add (ed_var (i := 5)) ed_int)) od_none))))))))))
theorem sc_law_from : FnScope N_law_from ["_law_row", "_law_given", "_law_statement", "_law_supposed"] (defScope s_law_from) := ⟨rfl, rfl, rfl, by decide +kernel, rfl, by decide +kernel, by decide +kernel⟩
theorem w_law_from {k : Nat} (T : Txt K mg) : Cal P w K mg base "_law_from" (k + 1) ["_law_row", "_law_given", "_law_statement", "_law_supposed"] (bodyD 5 F_law_from) := by
  obtain ⟨f, fd, D, hm, hb⟩ := T.d_law_from.ex
  have sc := sc_law_from
  refine callee_of (N := N_law_from) D sc hm hb fun cdv A outer s H E W hr => ?_
  exact (pssd_one (psd_ret (ed_and (ed_cmp (od_eq hr.units) (ed_ix (ed_var (i := 0)) ed_int) (ed_var (i := 2))) (ed_one (ed_callB (cd_all rfl) T.z_all (ad_cons (ed_lc (x := "_law_one") (i := 4) rfl sc.nd (id_tup (ed_ix (ed_var (i := 0)) ed_int)) (blkOk_by (own := [("_law_one", 4)]) (N := N_law_from) (sc := defScope s_law_from) (by decide +kernel)) (fun _ _ _ _ _ => pg_name (i := 4) sc.nd rfl (Or.inl rfl)) (fun _ _ _ _ _ => tds_nil) (fun _ _ _ _ _ => (ed_or (ed_cmp (od_in (units65 hr)) (ed_var (i := 4)) (ed_var (i := 1))) (ed_one (ed_cmp (od_in (units65 hr)) (ed_var (i := 4)) (ed_var (i := 3))))))) ad_nil))))))
theorem sc_law_ups_right : FnScope N_law_ups_right ["_law_row", "_law_ups"] (defScope s_law_ups_right) := ⟨rfl, rfl, rfl, by decide +kernel, rfl, by decide +kernel, by decide +kernel⟩
theorem w_law_ups_right {k : Nat} (T : Txt K mg) (c_law_from : Cal P w K mg base "_law_from" k ["_law_row", "_law_given", "_law_statement", "_law_supposed"] sem_law_from) : Cal P w K mg base "_law_ups_right" (k + 1) ["_law_row", "_law_ups"] (bodyD 8 F_law_ups_right) := by
  obtain ⟨f, fd, D, hm, hb⟩ := T.d_law_ups_right.ex
  have sc := sc_law_ups_right
  refine callee_of (N := N_law_ups_right) D sc hm hb fun cdv A outer s H E W hr => ?_
  exact (pssd_cons (psd_asg (ed_cut (ed_var (i := 0)) od_none (od_some ed_int)) (gd_tup rfl (gds_cons (gd_name (i := 3) sc.nd) (gds_cons (gd_name (i := 4) sc.nd) (gds_cons (gd_name (i := 5) sc.nd) gds_nil)))))
    (pssd_cons (psd_if (td_cmp (od_eq hr.units) (ed_var (i := 5)) ed_str) (pssd_one (psd_ret (ed_cmp (od_in (units65 hr)) (ed_var (i := 4)) (ed_var (i := 3))))) pssd_nil)
    (pssd_cons (psd_set (i := 2) sc.nd (ed_ix (ed_ix (ed_var (i := 1)) ed_int) ed_int))
    (pssd_cons (psd_if (td_cmp (od_eq hr.units) (ed_var (i := 5)) ed_str) (pssd_one (psd_ret (ed_call c_law_from hr passD (ad_cons (ed_ix (ed_var (i := 1)) ed_int) (ad_cons (ed_var (i := 3)) (ad_cons (ed_tup (ad_cons ed_str ad_nil)) (ad_cons (ed_tup ad_nil) ad_nil)))) (an_cons (an_cons (an_cons (an_cons an_nil))))))) pssd_nil)
    (pssd_cons (psd_if (td_cmp (od_eq hr.units) (ed_var (i := 5)) ed_str) (pssd_cons (psd_if (td_cmp (od_ne hr.units) (ed_ix (ed_var (i := 4)) ed_int) ed_str) (pssd_one (psd_ret ed_bl)) pssd_nil)
    (pssd_one (psd_ret (ed_callB (cd_all rfl) T.z_all (ad_cons (ed_lc (x := "_law_k") (i := 7) rfl sc.nd (id_rng1 T.z_range (ad_cons ed_int ad_nil)) (blkOk_by (own := [("_law_k", 7)]) (N := N_law_ups_right) (sc := defScope s_law_ups_right) (by decide +kernel)) (fun _ _ _ _ _ => pg_name (i := 7) sc.nd rfl (Or.inl rfl)) (fun _ _ _ _ _ => tds_nil) (fun _ _ _ _ _ => (ed_call c_law_from hr passD (ad_cons (ed_ix (ed_var (i := 1)) (ed_var (i := 7))) (ad_cons (ed_var (i := 3)) (ad_cons (ed_ix (ed_var (i := 4)) (ed_op od_add ed_int (ed_var (i := 7)))) (ad_cons (ed_tup ad_nil) ad_nil)))) (an_cons (an_cons (an_cons (an_cons an_nil))))))) ad_nil))))) pssd_nil)
    (pssd_cons (psd_if (td_cmp (od_in (units65 hr)) (ed_var (i := 5)) (ed_lst (ad_cons ed_str (ad_cons ed_str ad_nil)))) (pssd_cons (psd_set (i := 6) sc.nd (ed_op od_add ed_int (ed_callT cd_int T.z_int (ad_cons (ed_cmp (od_eq hr.units) (ed_var (i := 5)) ed_str) ad_nil))))
    (pssd_one (psd_ret (ed_and (ed_cmp (od_eq hr.units) (ed_ix (ed_var (i := 4)) ed_int) ed_str) (ed_one (ed_call c_law_from hr passD (ad_cons (ed_ix (ed_var (i := 1)) ed_int) (ad_cons (ed_var (i := 3)) (ad_cons (ed_ix (ed_var (i := 4)) (ed_var (i := 6))) (ad_cons (ed_tup ad_nil) ad_nil)))) (an_cons (an_cons (an_cons (an_cons an_nil)))))))))) pssd_nil)
    (pssd_cons (psd_if (td_cmp (od_eq hr.units) (ed_var (i := 5)) ed_str) (pssd_one (psd_ret (ed_and (ed_cmp (od_eq hr.units) (ed_ix (ed_var (i := 4)) ed_int) ed_str) (ed_one (ed_call c_law_from hr passD (ad_cons (ed_ix (ed_var (i := 1)) ed_int) (ad_cons (ed_var (i := 3)) (ad_cons (ed_ix (ed_var (i := 4)) ed_int) (ad_cons (ed_lst (ad_cons (ed_ix (ed_var (i := 4)) ed_int) ad_nil)) ad_nil)))) (an_cons (an_cons (an_cons (an_cons an_nil))))))))) pssd_nil)
    (pssd_cons (psd_if (td_not (td_val (ed_call c_law_from hr passD (ad_cons (ed_ix (ed_var (i := 1)) ed_int) (ad_cons (ed_var (i := 3)) (ad_cons (ed_var (i := 2)) (ad_cons (ed_tup ad_nil) ad_nil)))) (an_cons (an_cons (an_cons (an_cons an_nil))))))) (pssd_one (psd_ret ed_bl)) pssd_nil)
    (pssd_cons (psd_if (td_cmp (od_in (units65 hr)) (ed_var (i := 5)) (ed_lst (ad_cons ed_str (ad_cons ed_str ad_nil)))) (pssd_one (psd_ret (ed_and (ed_cmp (od_eq hr.units) (ed_ix (ed_var (i := 2)) ed_int) ed_str) (ed_one (ed_cmp (od_eq hr.units) (ed_var (i := 4)) (ed_ix (ed_var (i := 2)) (ed_op od_add ed_int (ed_callT cd_int T.z_int (ad_cons (ed_cmp (od_eq hr.units) (ed_var (i := 5)) ed_str) ad_nil))))))))) pssd_nil)
    (pssd_cons (psd_if (td_cmp (od_eq hr.units) (ed_var (i := 5)) ed_str) (pssd_cons (psd_if (PW.pt (td_or (td_cmp (od_ne hr.units) (ed_ix (ed_var (i := 2)) ed_int) ed_str) (td_or1 (td_cmp (od_ne hr.units) (ed_var (i := 4)) (ed_ix (ed_var (i := 2)) ed_int))))) (pssd_one (psd_ret ed_bl)) pssd_nil)
    (pssd_one (psd_ret (ed_call c_law_from hr passD (ad_cons (ed_ix (ed_var (i := 1)) ed_int) (ad_cons (ed_var (i := 3)) (ad_cons (ed_ix (ed_var (i := 2)) ed_int) (ad_cons (ed_tup ad_nil) ad_nil)))) (an_cons (an_cons (an_cons (an_cons an_nil)))))))) pssd_nil)
    (pssd_cons (psd_if (td_cmp (od_ne hr.units) (ed_ix (ed_var (i := 2)) ed_int) ed_str) (pssd_one (psd_ret ed_bl)) pssd_nil)
    (pssd_one (psd_ret (ed_callB (cd_all rfl) T.z_all (ad_cons (ed_lc (x := "_law_k") (i := 7) rfl sc.nd (id_rng2 T.z_range (ad_cons ed_int (ad_cons ed_int ad_nil))) (blkOk_by (own := [("_law_k", 7)]) (N := N_law_ups_right) (sc := defScope s_law_ups_right) (by decide +kernel)) (fun _ _ _ _ _ => pg_name (i := 7) sc.nd rfl (Or.inl rfl)) (fun _ _ _ _ _ => tds_nil) (fun _ _ _ _ _ => (ed_call c_law_from hr passD (ad_cons (ed_ix (ed_var (i := 1)) (ed_var (i := 7))) (ad_cons (ed_var (i := 3)) (ad_cons (ed_var (i := 4)) (ad_cons (ed_lst (ad_cons (ed_ix (ed_var (i := 2)) (ed_var (i := 7))) ad_nil)) ad_nil)))) (an_cons (an_cons (an_cons (an_cons an_nil))))))) ad_nil)))))))))))))))
theorem sc_law_follows : FnScope N_law_follows ["_law_rows", "_law_number"] (defScope s_law_follows) := ⟨rfl, rfl, rfl, by decide +kernel, rfl, by decide +kernel, by decide +kernel⟩
theorem w_law_follows {k : Nat} (T : Txt K mg) (c_law_ups_right : Cal P w K mg base "_law_ups_right" k ["_law_row", "_law_ups"] sem_law_ups_right) : Cal P w K mg base "_law_follows" (k + 1) ["_law_rows", "_law_number"] (bodyD 5 F_law_follows) := by
  obtain ⟨f, fd, D, hm, hb⟩ := T.d_law_follows.ex
  have sc := sc_law_follows
  refine callee_of (N := N_law_follows) D sc hm hb fun cdv A outer s H E W hr => ?_
  exact (pssd_dict2 (i := 2) [(Sum.inr "given", V.int 0), (Sum.inr "both", V.int 2), (Sum.inr "left", V.int 1), (Sum.inr "right", V.int 1), (Sum.inr "one", V.int 1), (Sum.inr "other", V.int 1)] [(Sum.inr "cases", V.int 3), (Sum.inr "suppose", V.int 1), (Sum.inr "onward", V.int 2), (Sum.inr "any", V.int 1)] sc.nd (pps_cons pe_str pe_int (pps_cons pe_str pe_int (pps_cons pe_str pe_int (pps_cons pe_str pe_int (pps_cons pe_str pe_int (pps_cons pe_str pe_int pps_nil)))))) (pps_cons pe_str pe_int (pps_cons pe_str pe_int (pps_cons pe_str pe_int (pps_cons pe_str pe_int pps_nil))))
    (pssd_cons (psd_set (i := 3) sc.nd (ed_ix (ed_var (i := 0)) (ed_var (i := 1))))
    (pssd_cons (psd_if (td_cmp (od_ne hr.units) (ed_get2 (hu_of hr) (ed_var (i := 2)) (ed_ix (ed_var (i := 3)) ed_int) ed_int) (ed_callB cd_len T.z_len (ad_cons (ed_ix (ed_var (i := 3)) ed_int) ad_nil))) (pssd_one (psd_ret ed_bl)) pssd_nil)
    (pssd_cons (psd_if (td_not (td_val (ed_callB (cd_all rfl) T.z_all (ad_cons (ed_lc (x := "_law_up") (i := 4) rfl sc.nd (id_tup (ed_ix (ed_var (i := 3)) ed_int)) (blkOk_by (own := [("_law_up", 4)]) (N := N_law_follows) (sc := defScope s_law_follows) (by decide +kernel)) (fun _ _ _ _ _ => pg_name (i := 4) sc.nd rfl (Or.inl rfl)) (fun _ _ _ _ _ => tds_nil) (fun _ _ _ _ _ => (ed_chain od_le od_lt ed_int (ed_var (i := 4)) (ed_var (i := 1))))) ad_nil)))) (pssd_one (psd_ret ed_bl)) pssd_nil)
    (pssd_one (psd_ret (ed_call c_law_ups_right hr passD (ad_cons (ed_var (i := 3)) (ad_cons (ed_lc (x := "_law_up") (i := 4) rfl sc.nd (id_tup (ed_ix (ed_var (i := 3)) ed_int)) (blkOk_by (own := [("_law_up", 4)]) (N := N_law_follows) (sc := defScope s_law_follows) (by decide +kernel)) (fun _ _ _ _ _ => pg_name (i := 4) sc.nd rfl (Or.inl rfl)) (fun _ _ _ _ _ => tds_nil) (fun _ _ _ _ _ => (ed_ix (ed_var (i := 0)) (ed_var (i := 4))))) ad_nil)) (an_cons (an_cons an_nil)))))))))
theorem sc_law_part_by : FnScope N_law_part_by ["_law_seed", "_law_cell"] (defScope s_law_part_by) := ⟨rfl, rfl, rfl, by decide +kernel, rfl, by decide +kernel, by decide +kernel⟩
theorem w_law_part_by {k : Nat} (T : Txt K mg) (c_law_name_by : Cal P w K mg base "_law_name_by" k ["_law_seed", "_law_k"] sem_law_name_by) : Cal P w K mg base "_law_part_by" (k + 1) ["_law_seed", "_law_cell"] (bodyD 4 F_law_part_by) := by
  obtain ⟨f, fd, D, hm, hb⟩ := T.d_law_part_by.ex
  have sc := sc_law_part_by
  refine callee_of (N := N_law_part_by) D sc hm hb fun cdv A outer s H E W hr => ?_
  exact (pssd_cons (psd_set (i := 2) sc.nd (ed_tup (ad_cons ed_str (ad_cons (ed_call c_law_name_by hr passD (ad_cons (ed_var (i := 0)) (ad_cons (ed_op od_mod (ed_var (i := 1)) ed_int) ad_nil)) (an_cons (an_cons an_nil))) ad_nil))))
    (pssd_cons (psd_if (td_cmp (od_eq hr.units) (ed_op od_mod (ed_op od_div (ed_var (i := 1)) ed_int) ed_int) ed_int) (pssd_one (psd_ret (ed_var (i := 2)))) pssd_nil)
    (pssd_cons (psd_if (td_cmp (od_eq hr.units) (ed_op od_mod (ed_op od_div (ed_var (i := 1)) ed_int) ed_int) ed_int) (pssd_one (psd_ret (ed_tup (ad_cons ed_str ad_nil)))) pssd_nil)
    (pssd_cons (psd_set (i := 3) sc.nd (ed_ix (ed_lst (ad_cons (ed_tup (ad_cons ed_str ad_nil)) (ad_cons (ed_tup (ad_cons ed_str (ad_cons (ed_call c_law_name_by hr passD (ad_cons (ed_var (i := 0)) (ad_cons (ed_op od_mod (ed_op od_div (ed_var (i := 1)) ed_int) ed_int) ad_nil)) (an_cons (an_cons an_nil))) ad_nil))) (ad_cons (ed_tup (ad_cons ed_str (ad_cons (ed_var (i := 2)) (ad_cons (ed_tup (ad_cons ed_str ad_nil)) ad_nil)))) ad_nil)))) (ed_op od_mod (ed_op od_div (ed_var (i := 1)) ed_int) ed_int)))
    (pssd_one (psd_ret (ed_tup (ad_cons (ed_ix (ed_lst (ad_cons ed_str (ad_cons ed_str (ad_cons ed_str ad_nil)))) (ed_op od_mod (ed_op od_div (ed_var (i := 1)) ed_int) ed_int)) (ad_cons (ed_var (i := 2)) (ad_cons (ed_var (i := 3)) ad_nil))))))))))
theorem sc_law_added : FnScope N_law_added ["_law_rows", "_law_rule", "_law_given", "_law_pieces"] (defScope s_law_added) := ⟨rfl, rfl, rfl, by decide +kernel, rfl, by decide +kernel, by decide +kernel⟩
theorem w_law_added {k : Nat} (T : Txt K mg) : CalN P w K mg base "_law_added" (k + 1) ["_law_rows", "_law_rule", "_law_given", "_law_pieces"] (bodyN 13 F_law_added) := by
  obtain ⟨f, fd, D, hm, hb⟩ := T.d_law_added.ex
  have sc := sc_law_added
  refine callee_ofN (N := N_law_added) (o := none) D sc hm hb fun cdv A outer s H E W hr => ?_
  exact (pssG_cons (psG_d (psd_asg (ed_var (i := 3)) (gd_tup rfl (gds_cons (gd_name (i := 5) sc.nd) (gds_cons (gd_name (i := 6) sc.nd) (gds_cons (gd_name (i := 7) sc.nd) gds_nil))))) (.inr noRt_asg))
    (pssG_cons (psG_d (psd_set (i := 4) sc.nd (ed_callB cd_len T.z_len (ad_cons (ed_var (i := 0)) ad_nil))) (.inr noRt_set))
    (pssG_cons (psG_if (td_cmp (od_eq hr.units) (ed_var (i := 1)) ed_int) (pssG_one (psG_ret (en_add (ed_var (i := 0)) (ed_lst (ad_cons (ed_tup (ad_cons (ed_op od_add (ed_var (i := 2)) (ed_tup (ad_cons (ed_var (i := 5)) ad_nil))) (ad_cons (ed_var (i := 5)) (ad_cons ed_str (ad_cons (ed_tup ad_nil) ad_nil))))) ad_nil))))) pssG_nil)
    (pssG_cons (psG_if (td_cmp (od_eq hr.units) (ed_var (i := 1)) ed_int) (pssG_one (psG_ret (en_add (ed_var (i := 0)) (ed_lst (ad_cons (ed_tup (ad_cons (ed_var (i := 2)) (ad_cons (ed_var (i := 5)) (ad_cons ed_str (ad_cons (ed_tup ad_nil) ad_nil))))) (ad_cons (ed_tup (ad_cons (ed_var (i := 2)) (ad_cons (ed_var (i := 6)) (ad_cons ed_str (ad_cons (ed_tup ad_nil) ad_nil))))) (ad_cons (ed_tup (ad_cons (ed_var (i := 2)) (ad_cons (ed_tup (ad_cons ed_str (ad_cons (ed_var (i := 5)) (ad_cons (ed_var (i := 6)) ad_nil)))) (ad_cons ed_str (ad_cons (ed_tup (ad_cons (ed_var (i := 4)) (ad_cons (ed_op od_add (ed_var (i := 4)) ed_int) ad_nil))) ad_nil))))) ad_nil))))))) pssG_nil)
    (pssG_cons (psG_if (td_cmp od_lt (ed_var (i := 1)) ed_int) (pssG_cons (psG_d (psd_set (i := 8) sc.nd (ed_ix (ed_lst (ad_cons ed_str (ad_cons ed_str ad_nil))) (ed_op od_sub (ed_var (i := 1)) ed_int))) (.inr noRt_set))
    (pssG_one (psG_ret (en_add (ed_var (i := 0)) (ed_lst (ad_cons (ed_tup (ad_cons (ed_var (i := 2)) (ad_cons (ed_tup (ad_cons ed_str (ad_cons (ed_var (i := 5)) (ad_cons (ed_var (i := 6)) ad_nil)))) (ad_cons ed_str (ad_cons (ed_tup ad_nil) ad_nil))))) (ad_cons (ed_tup (ad_cons (ed_op od_add (ed_var (i := 2)) (ed_tup (ad_cons (ed_var (i := 7)) ad_nil))) (ad_cons (ed_ix (ed_lst (ad_cons (ed_var (i := 5)) (ad_cons (ed_var (i := 6)) ad_nil))) (ed_op od_sub (ed_var (i := 1)) ed_int)) (ad_cons (ed_var (i := 8)) (ad_cons (ed_tup (ad_cons (ed_var (i := 4)) ad_nil)) ad_nil))))) ad_nil))))))) pssG_nil)
    (pssG_cons (psG_if (td_cmp od_lt (ed_var (i := 1)) ed_int) (pssG_cons (psG_d (psd_set (i := 8) sc.nd (ed_ix (ed_lst (ad_cons ed_str (ad_cons ed_str ad_nil))) (ed_op od_sub (ed_var (i := 1)) ed_int))) (.inr noRt_set))
    (pssG_one (psG_ret (en_add (ed_var (i := 0)) (ed_lst (ad_cons (ed_tup (ad_cons (ed_var (i := 2)) (ad_cons (ed_ix (ed_lst (ad_cons (ed_var (i := 5)) (ad_cons (ed_var (i := 6)) ad_nil))) (ed_op od_sub (ed_var (i := 1)) ed_int)) (ad_cons ed_str (ad_cons (ed_tup ad_nil) ad_nil))))) (ad_cons (ed_tup (ad_cons (ed_var (i := 2)) (ad_cons (ed_tup (ad_cons ed_str (ad_cons (ed_var (i := 5)) (ad_cons (ed_var (i := 6)) ad_nil)))) (ad_cons (ed_var (i := 8)) (ad_cons (ed_tup (ad_cons (ed_var (i := 4)) ad_nil)) ad_nil))))) ad_nil))))))) pssG_nil)
    (pssG_cons (psG_if (td_cmp (od_eq hr.units) (ed_var (i := 1)) ed_int) (pssG_drop (pssG_cons (psG_d (psd_set (i := 9) sc.nd (ed_ix (ed_lst (ad_cons (ed_tup (ad_cons (ed_var (i := 5)) ad_nil)) (ad_cons (ed_tup (ad_cons (ed_var (i := 6)) ad_nil)) (ad_cons (ed_tup (ad_cons (ed_var (i := 5)) ad_nil)) (ad_cons (ed_tup (ad_cons (ed_var (i := 5)) (ad_cons (ed_var (i := 6)) ad_nil))) ad_nil))))) (ed_op od_mod (ed_var (i := 4)) ed_int))) (.inr noRt_set))
    (pssG_cons (psG_d (psd_set (i := 10) sc.nd (ed_ix (ed_lst (ad_cons (ed_tup (ad_cons (ed_var (i := 6)) ad_nil)) (ad_cons (ed_tup (ad_cons (ed_var (i := 6)) ad_nil)) (ad_cons (ed_tup (ad_cons (ed_var (i := 5)) ad_nil)) (ad_cons (ed_tup (ad_cons (ed_var (i := 6)) (ad_cons (ed_var (i := 5)) ad_nil))) ad_nil))))) (ed_op od_mod (ed_var (i := 4)) ed_int))) (.inr noRt_set))
    (pssG_cons (psG_d (psd_set (i := 11) sc.nd (ed_ix (ed_lst (ad_cons (ed_ix (ed_var (i := 9)) (ed_neg ed_int)) (ad_cons (ed_var (i := 7)) ad_nil))) (ed_op od_mod (ed_op od_div (ed_var (i := 4)) ed_int) ed_int))) (.inr noRt_set))
    (pssG_cons (psG_take (i := 12) sc.nd (en_lst (ad_cons (ed_tup (ad_cons (ed_var (i := 2)) (ad_cons (ed_tup (ad_cons ed_str (ad_cons (ed_var (i := 5)) (ad_cons (ed_var (i := 6)) ad_nil)))) (ad_cons ed_str (ad_cons (ed_tup ad_nil) ad_nil))))) (ad_cons (ed_tup (ad_cons (ed_op od_add (ed_var (i := 2)) (ed_var (i := 9))) (ad_cons (ed_var (i := 11)) (ad_cons ed_str (ad_cons (ed_tup ad_nil) ad_nil))))) ad_nil))))
    (pssG_cons (psG_app (i := 12) (ed_tup (ad_cons (ed_op od_add (ed_var (i := 10)) (ed_var (i := 2))) (ad_cons (ed_var (i := 11)) (ad_cons ed_str (ad_cons (ed_tup ad_nil) ad_nil))))))
    (pssG_one (psG_ret (en_add (ed_op od_add (ed_var (i := 0)) (ed_var (i := 12))) (ed_lst (ad_cons (ed_tup (ad_cons (ed_var (i := 2)) (ad_cons (ed_var (i := 11)) (ad_cons ed_str (ad_cons (ed_tup (ad_cons (ed_var (i := 4)) (ad_cons (ed_op od_add (ed_var (i := 4)) ed_int) (ad_cons (ed_op od_add (ed_var (i := 4)) ed_int) ad_nil)))) ad_nil))))) ad_nil))))))))))) pssG_nil)
    (pssG_cons (psG_if (td_cmp (od_eq hr.units) (ed_var (i := 1)) ed_int) (pssG_cons (psG_d (psd_set (i := 12) sc.nd (ed_ix (ed_lst (ad_cons (ed_tup (ad_cons (ed_var (i := 5)) ad_nil)) (ad_cons (ed_tup (ad_cons (ed_var (i := 6)) ad_nil)) (ad_cons (ed_tup (ad_cons (ed_var (i := 5)) (ad_cons (ed_var (i := 6)) ad_nil))) (ad_cons (ed_tup (ad_cons (ed_var (i := 6)) (ad_cons (ed_var (i := 5)) ad_nil))) ad_nil))))) (ed_op od_mod (ed_var (i := 4)) ed_int))) (.inr noRt_set))
    (pssG_one (psG_ret (en_add (ed_var (i := 0)) (ed_lst (ad_cons (ed_tup (ad_cons (ed_op od_add (ed_var (i := 12)) (ed_var (i := 2))) (ad_cons (ed_var (i := 6)) (ad_cons ed_str (ad_cons (ed_tup ad_nil) ad_nil))))) (ad_cons (ed_tup (ad_cons (ed_var (i := 2)) (ad_cons (ed_tup (ad_cons ed_str (ad_cons (ed_var (i := 5)) (ad_cons (ed_var (i := 6)) ad_nil)))) (ad_cons ed_str (ad_cons (ed_tup (ad_cons (ed_var (i := 4)) ad_nil)) ad_nil))))) ad_nil))))))) pssG_nil)
    (pssG_cons (psG_if (td_cmp (od_eq hr.units) (ed_var (i := 1)) ed_int) (pssG_drop (pssG_cons (psG_take (i := 12) sc.nd (en_lst (ad_cons (ed_tup (ad_cons (ed_var (i := 2)) (ad_cons (ed_tup (ad_cons ed_str (ad_cons (ed_var (i := 5)) (ad_cons (ed_var (i := 6)) ad_nil)))) (ad_cons ed_str (ad_cons (ed_tup ad_nil) ad_nil))))) (ad_cons (ed_tup (ad_cons (ed_var (i := 2)) (ad_cons (ed_var (i := 5)) (ad_cons ed_str (ad_cons (ed_tup ad_nil) ad_nil))))) ad_nil))))
    (pssG_one (psG_ret (en_add (ed_op od_add (ed_var (i := 0)) (ed_var (i := 12))) (ed_lst (ad_cons (ed_tup (ad_cons (ed_var (i := 2)) (ad_cons (ed_var (i := 6)) (ad_cons ed_str (ad_cons (ed_tup (ad_cons (ed_var (i := 4)) (ad_cons (ed_op od_add (ed_var (i := 4)) ed_int) ad_nil))) ad_nil))))) ad_nil))))))) pssG_nil)
    (pssG_one (psG_ret (en_add (ed_var (i := 0)) (ed_lst (ad_cons (ed_tup (ad_cons (ed_var (i := 2)) (ad_cons (ed_tup (ad_cons ed_str ad_nil)) (ad_cons ed_str (ad_cons (ed_tup ad_nil) ad_nil))))) (ad_cons (ed_tup (ad_cons (ed_var (i := 2)) (ad_cons (ed_var (i := 5)) (ad_cons ed_str (ad_cons (ed_tup (ad_cons (ed_var (i := 4)) ad_nil)) ad_nil))))) ad_nil)))))))))))))))
theorem sc_law_wrong_ups : FnScope N_law_wrong_ups ["_law_ups", "_law_some", "_law_number", "_law_many"] (defScope s_law_wrong_ups) := ⟨rfl, rfl, rfl, by decide +kernel, rfl, by decide +kernel, by decide +kernel⟩
theorem w_law_wrong_ups {k : Nat} (T : Txt K mg) : Cal P w K mg base "_law_wrong_ups" (k + 1) ["_law_ups", "_law_some", "_law_number", "_law_many"] (bodyD 6 F_law_wrong_ups) := by
  obtain ⟨f, fd, D, hm, hb⟩ := T.d_law_wrong_ups.ex
  have sc := sc_law_wrong_ups
  refine callee_of (N := N_law_wrong_ups) D sc hm hb fun cdv A outer s H E W hr => ?_
  exact (pssd_cons (psd_if (PW.pt (td_or (td_cmp (od_eq hr.units) (ed_callB cd_len T.z_len (ad_cons (ed_var (i := 0)) ad_nil)) ed_int) (td_or1 (td_cmp (od_eq hr.units) (ed_op od_mod (ed_var (i := 1)) ed_int) ed_int)))) (pssd_one (psd_ret (ed_op od_add (ed_var (i := 0)) (ed_tup (ad_cons (ed_op od_mod (ed_op od_div (ed_var (i := 1)) ed_int) (ed_op od_add (ed_var (i := 2)) ed_int)) ad_nil))))) pssd_nil)
    (pssd_cons (psd_set (i := 4) sc.nd (ed_op od_mod (ed_op od_div (ed_var (i := 1)) ed_int) (ed_callB cd_len T.z_len (ad_cons (ed_var (i := 0)) ad_nil))))
    (pssd_cons (psd_if (td_cmp (od_eq hr.units) (ed_op od_mod (ed_var (i := 1)) ed_int) ed_int) (pssd_one (psd_ret (ed_op od_add (ed_cut (ed_var (i := 0)) od_none (od_some (ed_var (i := 4)))) (ed_cut (ed_var (i := 0)) (od_some (ed_op od_add (ed_var (i := 4)) ed_int)) od_none)))) pssd_nil)
    (pssd_cons (psd_set (i := 5) sc.nd (ed_lst (ad_cons (ed_var (i := 2)) (ad_cons (ed_op od_add (ed_var (i := 2)) ed_int) (ad_cons (ed_op od_sub (ed_ix (ed_var (i := 0)) (ed_var (i := 4))) (ed_var (i := 3))) (ad_cons (ed_op od_sub (ed_ix (ed_var (i := 0)) (ed_var (i := 4))) ed_int) (ad_cons (ed_op od_mod (ed_op od_div (ed_var (i := 1)) ed_int) (ed_op od_add (ed_var (i := 2)) ed_int)) (ad_cons (ed_op od_pow ed_int ed_int) (ad_cons (ed_var (i := 3)) (ad_cons (ed_neg ed_int) ad_nil))))))))))
    (pssd_one (psd_ret (ed_op od_add (ed_op od_add (ed_cut (ed_var (i := 0)) od_none (od_some (ed_var (i := 4)))) (ed_tup (ad_cons (ed_ix (ed_var (i := 5)) (ed_op od_mod (ed_op od_div (ed_var (i := 1)) ed_int) ed_int)) ad_nil))) (ed_cut (ed_var (i := 0)) (od_some (ed_op od_add (ed_var (i := 4)) ed_int)) od_none))))))))
theorem sc_law_spoilt : FnScope N_law_spoilt ["_law_row", "_law_cell", "_law_number", "_law_many", "_law_part"] (defScope s_law_spoilt) := ⟨rfl, rfl, rfl, by decide +kernel, rfl, by decide +kernel, by decide +kernel⟩
theorem w_law_spoilt {k : Nat} (T : Txt K mg) (c_law_wrong_ups : Cal P w K mg base "_law_wrong_ups" k ["_law_ups", "_law_some", "_law_number", "_law_many"] sem_law_wrong_ups) : Cal P w K mg base "_law_spoilt" (k + 1) ["_law_row", "_law_cell", "_law_number", "_law_many", "_law_part"] (bodyD 13 F_law_spoilt) := by
  obtain ⟨f, fd, D, hm, hb⟩ := T.d_law_spoilt.ex
  have sc := sc_law_spoilt
  refine callee_of (N := N_law_spoilt) D sc hm hb fun cdv A outer s H E W hr => ?_
  exact (pssd_cons (psd_set (i := 5) sc.nd (ed_op od_mod (ed_var (i := 1)) ed_int))
    (pssd_cons (psd_set (i := 6) sc.nd (ed_op od_div (ed_var (i := 1)) ed_int))
    (pssd_cons (psd_asg (ed_var (i := 0)) (gd_tup rfl (gds_cons (gd_name (i := 7) sc.nd) (gds_cons (gd_name (i := 8) sc.nd) (gds_cons (gd_name (i := 9) sc.nd) (gds_cons (gd_name (i := 10) sc.nd) gds_nil))))))
    (pssd_cons (psd_if (PW.pt (td_and (td_cmp (od_eq hr.units) (ed_var (i := 5)) ed_int) (td_and1 (td_cmp od_gt (ed_callB cd_len T.z_len (ad_cons (ed_var (i := 7)) ad_nil)) ed_int)))) (pssd_one (psd_ret (ed_tup (ad_cons (ed_op od_add (ed_cut (ed_var (i := 7)) od_none (od_some (ed_op od_mod (ed_var (i := 6)) (ed_callB cd_len T.z_len (ad_cons (ed_var (i := 7)) ad_nil))))) (ed_cut (ed_var (i := 7)) (od_some (ed_op od_add (ed_op od_mod (ed_var (i := 6)) (ed_callB cd_len T.z_len (ad_cons (ed_var (i := 7)) ad_nil))) ed_int)) od_none)) (ad_cons (ed_var (i := 8)) (ad_cons (ed_var (i := 9)) (ad_cons (ed_var (i := 10)) ad_nil))))))) pssd_nil)
    (pssd_cons (psd_if (td_cmp (od_eq hr.units) (ed_var (i := 5)) ed_int) (pssd_one (psd_ret (ed_tup (ad_cons (ed_var (i := 7)) (ad_cons (ed_var (i := 4)) (ad_cons (ed_var (i := 9)) (ad_cons (ed_var (i := 10)) ad_nil))))))) pssd_nil)
    (pssd_cons (psd_if (td_cmp (od_eq hr.units) (ed_var (i := 5)) ed_int) (pssd_cons (psd_set (i := 11) sc.nd (ed_lst (ad_cons ed_str (ad_cons ed_str (ad_cons ed_str (ad_cons ed_str (ad_cons ed_str (ad_cons ed_str (ad_cons ed_str (ad_cons ed_str (ad_cons ed_str (ad_cons ed_str (ad_cons ed_str (ad_cons ed_str ad_nil))))))))))))))
    (pssd_cons (psd_set (i := 11) sc.nd (ed_op od_add (ed_var (i := 11)) (ed_lst (ad_cons (ed_op od_add (ed_var (i := 9)) ed_str) (ad_cons (ed_op od_add ed_str (ed_var (i := 9))) (ad_cons (ed_cut (ed_var (i := 9)) od_none (od_some (ed_neg ed_int))) (ad_cons (ed_op od_add (ed_var (i := 9)) ed_str) (ad_cons (ed_upper (ed_var (i := 9))) (ad_cons (ed_cut (ed_var (i := 9)) (od_some ed_int) od_none) ad_nil)))))))))
    (pssd_one (psd_ret (ed_tup (ad_cons (ed_var (i := 7)) (ad_cons (ed_var (i := 8)) (ad_cons (ed_ix (ed_var (i := 11)) (ed_op od_mod (ed_var (i := 6)) ed_int)) (ad_cons (ed_var (i := 10)) ad_nil))))))))) pssd_nil)
    (pssd_cons (psd_if (td_cmp od_lt (ed_var (i := 5)) ed_int) (pssd_one (psd_ret (ed_tup (ad_cons (ed_var (i := 7)) (ad_cons (ed_var (i := 8)) (ad_cons (ed_var (i := 9)) (ad_cons (ed_call c_law_wrong_ups hr passD (ad_cons (ed_var (i := 10)) (ad_cons (ed_var (i := 6)) (ad_cons (ed_var (i := 2)) (ad_cons (ed_var (i := 3)) ad_nil)))) (an_cons (an_cons (an_cons (an_cons an_nil))))) ad_nil))))))) pssd_nil)
    (pssd_cons (psd_if (td_cmp (od_eq hr.units) (ed_var (i := 5)) ed_int) (pssd_cons (psd_dict1 (i := 12) [(Sum.inr "left", V.str "right"), (Sum.inr "right", V.str "left"), (Sum.inr "one", V.str "other"), (Sum.inr "other", V.str "one"), (Sum.inr "onward", V.str "both"), (Sum.inr "both", V.str "onward")] sc.nd ((pps_cons pe_str pe_str (pps_cons pe_str pe_str (pps_cons pe_str pe_str (pps_cons pe_str pe_str (pps_cons pe_str pe_str (pps_cons pe_str pe_str pps_nil))))))) (hu_of hr))
    (pssd_one (psd_ret (ed_tup (ad_cons (ed_var (i := 7)) (ad_cons (ed_var (i := 8)) (ad_cons (ed_get2 (hu_of hr) (ed_var (i := 12)) (ed_var (i := 9)) ed_str) (ad_cons (ed_var (i := 10)) ad_nil)))))))) pssd_nil)
    (pssd_cons (psd_if (td_cmp (od_eq hr.units) (ed_var (i := 5)) ed_int) (pssd_one (psd_ret (ed_tup (ad_cons (ed_var (i := 7)) (ad_cons (ed_var (i := 8)) (ad_cons (ed_var (i := 9)) (ad_cons (ed_tupRev rfl T.z_tuple T.z_reversed (ed_var (i := 10))) ad_nil))))))) pssd_nil)
    (pssd_cons (psd_if (td_cmp (od_eq hr.units) (ed_var (i := 5)) ed_int) (pssd_one (psd_ret (ed_tup (ad_cons (ed_op od_add (ed_var (i := 7)) (ed_tup (ad_cons (ed_var (i := 4)) ad_nil))) (ad_cons (ed_var (i := 8)) (ad_cons (ed_var (i := 9)) (ad_cons (ed_var (i := 10)) ad_nil))))))) pssd_nil)
    (pssd_cons (psd_if (td_cmp (od_eq hr.units) (ed_callB cd_len T.z_len (ad_cons (ed_var (i := 8)) ad_nil)) ed_int) (pssd_one (psd_ret (ed_tup (ad_cons (ed_var (i := 7)) (ad_cons (ed_tup (ad_cons (ed_ix (ed_lst (ad_cons ed_str (ad_cons ed_str (ad_cons ed_str ad_nil)))) (ed_op od_mod (ed_var (i := 6)) ed_int)) (ad_cons (ed_ix (ed_var (i := 8)) ed_int) (ad_cons (ed_ix (ed_var (i := 8)) ed_int) ad_nil)))) (ad_cons (ed_var (i := 9)) (ad_cons (ed_var (i := 10)) ad_nil))))))) pssd_nil)
    (pssd_one (psd_ret (ed_tup (ad_cons (ed_tup ad_nil) (ad_cons (ed_var (i := 8)) (ad_cons (ed_var (i := 9)) (ad_cons (ed_var (i := 10)) ad_nil))))))))))))))))))
theorem sc_law_all_spoilt : FnScope N_law_all_spoilt ["_law_rows", "_law_script", "_law_seed"] (defScope s_law_all_spoilt) := ⟨rfl, rfl, rfl, by decide +kernel, rfl, by decide +kernel, by decide +kernel⟩
theorem w_law_all_spoilt {k : Nat} (T : Txt K mg) (c_law_cell_at : Cal P w K mg base "_law_cell_at" k ["_law_script", "_law_k"] sem_law_cell_at) (c_law_part_by : Cal P w K mg base "_law_part_by" k ["_law_seed", "_law_cell"] sem_law_part_by) (c_law_spoilt : Cal P w K mg base "_law_spoilt" k ["_law_row", "_law_cell", "_law_number", "_law_many", "_law_part"] sem_law_spoilt) : CalM P w K mg base "_law_all_spoilt" (k + 1) ["_law_rows", "_law_script", "_law_seed"] (bodyN 6 F_law_all_spoilt) := by
  obtain ⟨f, fd, D, hm, hb⟩ := T.d_law_all_spoilt.ex
  have sc := sc_law_all_spoilt
  refine callee_ofM (N := N_law_all_spoilt) (o := some 0) D sc hm hb fun cdv A outer s H E W hr => ?_
  exact (pssG_cons (psG_for (j := 3) (by decide) sc.nd PassesOwn.never rfl (in_rng1 T.z_range (ad_cons (ed_op od_mod (ed_call c_law_cell_at hr passD (ad_cons (ed_var (i := 1)) (ad_cons ed_int ad_nil)) (an_cons (an_cons an_nil))) ed_int) ad_nil)) (pssG_cons (psG_set (j := 4) (by decide) sc.nd (ed_op od_mod (ed_op od_div (ed_call c_law_cell_at hr passD (ad_cons (ed_var (i := 1)) (ad_cons ed_int ad_nil)) (an_cons (an_cons an_nil))) (ed_ix (ed_lst (ad_cons ed_int (ad_cons ed_int (ad_cons ed_int (ad_cons ed_int ad_nil))))) (ed_var (i := 3)))) (ed_callB cd_len T.z_len (ad_cons (ed_var (i := 0)) ad_nil))))
    (pssG_cons (psG_set (j := 5) (by decide) sc.nd (ed_call c_law_part_by hr passD (ad_cons (ed_var (i := 2)) (ad_cons (ed_op od_add (ed_op od_div (ed_call c_law_cell_at hr passD (ad_cons (ed_var (i := 1)) (ad_cons ed_int ad_nil)) (an_cons (an_cons an_nil))) ed_int) (ed_var (i := 3))) ad_nil)) (an_cons (an_cons an_nil))))
    (pssG_cons (psG_if (PW.pt (td_and (td_cmp (od_eq hr.units) (ed_op od_mod (ed_var (i := 3)) ed_int) ed_int) (td_and1 (td_cmp od_gt (ed_callB cd_len T.z_len (ad_cons (ed_ix (ed_ix (ed_var (i := 0)) (ed_var (i := 4))) ed_int) ad_nil)) ed_int)))) (pssG_one (psG_set (j := 4) (by decide) sc.nd (ed_callB (cd_max2 rfl) T.z_max (ad_cons ed_int (ad_cons (ed_callB (cd_min2 rfl) T.z_min (ad_cons (ed_op od_sub (ed_callB cd_len T.z_len (ad_cons (ed_var (i := 0)) ad_nil)) ed_int) (ad_cons (ed_ix (ed_ix (ed_ix (ed_var (i := 0)) (ed_var (i := 4))) ed_int) ed_int) ad_nil))) ad_nil))))) pssG_nil)
    (pssG_one (psG_putI (i := 0) (ed_var (i := 4)) (ed_call c_law_spoilt hr passD (ad_cons (ed_ix (ed_var (i := 0)) (ed_var (i := 4))) (ad_cons (ed_op od_div (ed_call c_law_cell_at hr passD (ad_cons (ed_var (i := 1)) (ad_cons ed_int ad_nil)) (an_cons (an_cons an_nil))) (ed_ix (ed_lst (ad_cons ed_int (ad_cons ed_int (ad_cons ed_int (ad_cons ed_int ad_nil))))) (ed_var (i := 3)))) (ad_cons (ed_var (i := 4)) (ad_cons (ed_callB cd_len T.z_len (ad_cons (ed_var (i := 0)) ad_nil)) (ad_cons (ed_var (i := 5)) ad_nil))))) (an_cons (an_cons (an_cons (an_cons (an_cons an_nil))))))))))))
    (pssG_one (psG_own (i := 0))))
theorem sc_law_rows_by : FnScope N_law_rows_by ["_law_script", "_law_seed"] (defScope s_law_rows_by) := ⟨rfl, rfl, rfl, by decide +kernel, rfl, by decide +kernel, by decide +kernel⟩
theorem w_law_rows_by {k : Nat} (T : Txt K mg) (c_law_added : CalN P w K mg base "_law_added" k ["_law_rows", "_law_rule", "_law_given", "_law_pieces"] sem_law_added) (c_law_part_by : Cal P w K mg base "_law_part_by" k ["_law_seed", "_law_cell"] sem_law_part_by) : CalN P w K mg base "_law_rows_by" (k + 1) ["_law_script", "_law_seed"] (bodyN 9 F_law_rows_by) := by
  obtain ⟨f, fd, D, hm, hb⟩ := T.d_law_rows_by.ex
  have sc := sc_law_rows_by
  refine callee_ofN (N := N_law_rows_by) (o := some 2) D sc hm hb fun cdv A outer s H E W hr => ?_
  exact (pssG_cons (psG_take (i := 2) sc.nd (en_lst ad_nil))
    (pssG_cons (psG_for (j := 3) (by decide) sc.nd PassesOwn.never rfl (in_rng1 T.z_range (ad_cons (ed_callB (cd_min2 rfl) T.z_min (ad_cons ed_int (ad_cons (ed_op od_div (ed_callB cd_len T.z_len (ad_cons (ed_var (i := 0)) ad_nil)) ed_int) ad_nil))) ad_nil)) (pssG_cons (psG_set (j := 4) (by decide) sc.nd (ed_ix (ed_var (i := 0)) (ed_op od_mul ed_int (ed_var (i := 3)))))
    (pssG_cons (psG_set (j := 5) (by decide) sc.nd (ed_callT cd_tuple T.z_tuple (ad_cons (ed_lc (x := "_law_j") (i := 8) rfl sc.nd (id_rng1 T.z_range (ad_cons ed_int ad_nil)) (blkOk_by (own := [("_law_j", 8)]) (N := N_law_rows_by) (sc := defScope s_law_rows_by) (by decide +kernel)) (fun _ _ _ _ _ => pg_name (i := 8) sc.nd rfl (Or.inl rfl)) (fun _ _ _ _ _ => tds_nil) (fun _ _ _ _ _ => (ed_call c_law_part_by hr passD (ad_cons (ed_var (i := 1)) (ad_cons (ed_op od_div (ed_op od_div (ed_var (i := 4)) ed_int) (ed_ix (ed_lst (ad_cons ed_int (ad_cons ed_int (ad_cons ed_int ad_nil)))) (ed_var (i := 8)))) ad_nil)) (an_cons (an_cons an_nil))))) ad_nil)))
    (pssG_cons (psG_set (j := 6) (by decide) sc.nd (ed_ix (ed_var (i := 0)) (ed_op od_add (ed_op od_mul ed_int (ed_var (i := 3))) ed_int)))
    (pssG_cons (psG_set (j := 7) (by decide) sc.nd (ed_op od_add (ed_op od_add (ed_op od_mulT (ed_tup (ad_cons (ed_ix (ed_var (i := 5)) (ed_op od_mod (ed_var (i := 6)) ed_int)) ad_nil)) (ed_op od_mod (ed_op od_div (ed_var (i := 6)) ed_int) ed_int)) (ed_op od_mulT (ed_tup (ad_cons (ed_tup (ad_cons ed_str ad_nil)) ad_nil)) (ed_op od_mod (ed_op od_div (ed_var (i := 6)) ed_int) ed_int))) (ed_tup (ad_cons (ed_ix (ed_var (i := 5)) (ed_op od_mod (ed_op od_div (ed_var (i := 6)) ed_int) ed_int)) ad_nil))))
    (pssG_one (psG_take (i := 2) sc.nd (en_call c_law_added hr passD (ad_cons (ed_var (i := 2)) (ad_cons (ed_op od_mod (ed_var (i := 4)) ed_int) (ad_cons (ed_var (i := 7)) (ad_cons (ed_var (i := 5)) ad_nil)))) (an_cons (an_cons (an_cons (an_cons an_nil))))))))))))
    (pssG_one (psG_own (i := 2)))))
theorem sc_law : FnScope N_law ["_law_script"] (defScope s_law) := ⟨rfl, rfl, rfl, by decide +kernel, rfl, by decide +kernel, by decide +kernel⟩
theorem w_law {k : Nat} (T : Txt K mg) (c_law_all_spoilt : CalM P w K mg base "_law_all_spoilt" k ["_law_rows", "_law_script", "_law_seed"] sem_law_all_spoilt) (c_law_cell_at : Cal P w K mg base "_law_cell_at" k ["_law_script", "_law_k"] sem_law_cell_at) (c_law_follows : Cal P w K mg base "_law_follows" k ["_law_rows", "_law_number"] sem_law_follows) (c_law_rows_by : CalN P w K mg base "_law_rows_by" k ["_law_script", "_law_seed"] sem_law_rows_by) (c_faults : CalN P w K mg base "faults" k ["rows"] sem_faults) (c_follows : Cal P w K mg base "follows" k ["rows", "number"] sem_follows) : Cal P w K mg base "law" (k + 1) ["_law_script"] (bodyD 7 F_law) := by
  obtain ⟨f, fd, D, hm, hb⟩ := T.d_law.ex
  have sc := sc_law
  refine callee_of (N := N_law) D sc hm hb fun cdv A outer s H E W hr => ?_
  exact (pssd_cons (psd_set (i := 1) sc.nd (ed_call c_law_cell_at hr passD (ad_cons (ed_var (i := 0)) (ad_cons ed_int ad_nil)) (an_cons (an_cons an_nil))))
    (pssD_g (pssG_cons (psG_take (i := 2) sc.nd (en_call c_law_rows_by hr passD (ad_cons (ed_cut (ed_var (i := 0)) (od_some ed_int) (od_some ed_int)) (ad_cons (ed_var (i := 1)) ad_nil)) (an_cons (an_cons an_nil))))
    (pssG_cons (psG_if (td_cmp od_gt (ed_callB cd_len T.z_len (ad_cons (ed_var (i := 2)) ad_nil)) ed_int) (pssG_one (psG_callM (i := 2) (j := 0) (k := 1) (by decide) (by decide) sc.nd c_law_all_spoilt hr rfl)) pssG_nil)
    (pssG_cons (psG_setN (j := 3) (by decide) sc.nd (en_list T.z_list (ad_cons (ed_var (i := 2)) ad_nil)))
    (pssG_cons (psG_take (i := 4) sc.nd (en_lst ad_nil))
    (pssG_cons (psG_for (j := 5) (by decide) sc.nd PassesOwn.never rfl (in_rng1 T.z_range (ad_cons (ed_callB cd_len T.z_len (ad_cons (ed_var (i := 2)) ad_nil)) ad_nil)) (pssG_cons (psG_set (j := 6) (by decide) sc.nd (ed_call c_follows hr passD (ad_cons (ed_var (i := 2)) (ad_cons (ed_var (i := 5)) ad_nil)) (an_cons (an_cons an_nil))))
    (pssG_cons (psG_if (PW.pt (td_or (td_not (td_val (ed_isi T.z_isinstance T.z_bool (by decide) (ed_var (i := 6))))) (td_or1 (td_cmp (od_ne hr.units) (ed_var (i := 6)) (ed_call c_law_follows hr passD (ad_cons (ed_var (i := 2)) (ad_cons (ed_var (i := 5)) ad_nil)) (an_cons (an_cons an_nil))))))) (pssG_one (psG_ret (eD_N ed_bl))) pssG_nil)
    (pssG_one (psG_if (td_not (td_val (ed_var (i := 6)))) (pssG_one (psG_app (i := 4) (ed_var (i := 5)))) pssG_nil)))))
    (pssG_cons (psG_take (i := 6) sc.nd (en_call c_faults hr passD (ad_cons (ed_var (i := 2)) ad_nil) (an_cons an_nil)))
    (pssG_cons (psG_if (PW.pt (td_or (td_not (td_val (ed_isi T.z_isinstance T.z_list (by decide) (ed_var (i := 6))))) (td_or (td_cmp (od_ne hr.units) (ed_var (i := 6)) (ed_var (i := 4))) (td_or1 (td_cmp (od_ne hr.units) (ed_var (i := 2)) (ed_var (i := 3))))))) (pssG_one (psG_ret (eD_N ed_bl))) pssG_nil)
    (pssG_cons (psG_app (i := 6) ed_int)
    (pssG_one (psG_ret (eD_N (ed_and (ed_cmp (od_eq hr.units) (ed_call c_faults.toD hr passD (ad_cons (ed_var (i := 2)) ad_nil) (an_cons an_nil)) (ed_var (i := 4))) (ed_one (ed_cmp (od_eq hr.units) (ed_call c_faults.toD hr passD (ad_cons (ed_cut (ed_var (i := 2)) od_none (od_some ed_int)) ad_nil) (an_cons an_nil)) (ed_lc (x := "_law_number") (i := 5) rfl sc.nd (id_list (ed_var (i := 4))) (blkOk_by (own := [("_law_number", 5)]) (N := N_law) (sc := defScope s_law) (by decide +kernel)) (fun _ _ _ _ _ => pg_name (i := 5) sc.nd rfl (Or.inl rfl)) (fun _ _ _ _ _ => (tds_one (td_cmp od_lt (ed_var (i := 5)) ed_int))) (fun _ _ _ _ _ => (ed_var (i := 5))))))))))))))))))))
theorem all_ok (T : Txt K mg) : Cal P w K mg base "law" 5 ["_law_script"] sem_law := by
  have c_count_of : Cal P w K mg base "count_of" 1 ["rule"] sem_count_of := w_count_of (k := 0) T 
  have c_is_from : Cal P w K mg base "is_from" 1 ["row", "given", "statement", "supposed"] sem_is_from := w_is_from (k := 0) T 
  have c_is_pair : Cal P w K mg base "is_pair" 1 ["statement", "word"] sem_is_pair := w_is_pair (k := 0) T 
  have c_by_parts : Cal P w K mg base "by_parts" 2 ["row", "ups"] sem_by_parts := w_by_parts (k := 1) T (c_is_from.mono (by decide)) (c_is_pair.mono (by decide))
  have c_by_cases : Cal P w K mg base "by_cases" 2 ["row", "ups"] sem_by_cases := w_by_cases (k := 1) T (c_is_from.mono (by decide)) (c_is_pair.mono (by decide))
  have c_by_then : Cal P w K mg base "by_then" 2 ["row", "ups"] sem_by_then := w_by_then (k := 1) T (c_is_from.mono (by decide)) (c_is_pair.mono (by decide))
  have c_follows : Cal P w K mg base "follows" 3 ["rows", "number"] sem_follows := w_follows (k := 2) T (c_by_cases.mono (by decide)) (c_by_parts.mono (by decide)) (c_by_then.mono (by decide)) (c_count_of.mono (by decide)) (c_is_from.mono (by decide))
  have c_faults : CalN P w K mg base "faults" 4 ["rows"] sem_faults := w_faults (k := 3) T (c_follows.mono (by decide))
  have c_law_cell_at : Cal P w K mg base "_law_cell_at" 1 ["_law_script", "_law_k"] sem_law_cell_at := w_law_cell_at (k := 0) T 
  have c_law_name_by : Cal P w K mg base "_law_name_by" 1 ["_law_seed", "_law_k"] sem_law_name_by := w_law_name_by (k := 0) T 
  have c_law_from : Cal P w K mg base "_law_from" 1 ["_law_row", "_law_given", "_law_statement", "_law_supposed"] sem_law_from := w_law_from (k := 0) T 
  have c_law_ups_right : Cal P w K mg base "_law_ups_right" 2 ["_law_row", "_law_ups"] sem_law_ups_right := w_law_ups_right (k := 1) T (c_law_from.mono (by decide))
  have c_law_follows : Cal P w K mg base "_law_follows" 3 ["_law_rows", "_law_number"] sem_law_follows := w_law_follows (k := 2) T (c_law_ups_right.mono (by decide))
  have c_law_part_by : Cal P w K mg base "_law_part_by" 2 ["_law_seed", "_law_cell"] sem_law_part_by := w_law_part_by (k := 1) T (c_law_name_by.mono (by decide))
  have c_law_added : CalN P w K mg base "_law_added" 1 ["_law_rows", "_law_rule", "_law_given", "_law_pieces"] sem_law_added := w_law_added (k := 0) T 
  have c_law_wrong_ups : Cal P w K mg base "_law_wrong_ups" 1 ["_law_ups", "_law_some", "_law_number", "_law_many"] sem_law_wrong_ups := w_law_wrong_ups (k := 0) T 
  have c_law_spoilt : Cal P w K mg base "_law_spoilt" 2 ["_law_row", "_law_cell", "_law_number", "_law_many", "_law_part"] sem_law_spoilt := w_law_spoilt (k := 1) T (c_law_wrong_ups.mono (by decide))
  have c_law_all_spoilt : CalM P w K mg base "_law_all_spoilt" 3 ["_law_rows", "_law_script", "_law_seed"] sem_law_all_spoilt := w_law_all_spoilt (k := 2) T (c_law_cell_at.mono (by decide)) (c_law_part_by.mono (by decide)) (c_law_spoilt.mono (by decide))
  have c_law_rows_by : CalN P w K mg base "_law_rows_by" 3 ["_law_script", "_law_seed"] sem_law_rows_by := w_law_rows_by (k := 2) T (c_law_added.mono (by decide)) (c_law_part_by.mono (by decide))
  have c_law : Cal P w K mg base "law" 5 ["_law_script"] sem_law := w_law (k := 4) T (c_law_all_spoilt.mono (by decide)) (c_law_cell_at.mono (by decide)) (c_law_follows.mono (by decide)) (c_law_rows_by.mono (by decide)) (c_faults.mono (by decide)) (c_follows.mono (by decide))
  exact c_law
end
end My

set_option Elab.async false
set_option linter.all false
set_option maxRecDepth 100000
set_option maxHeartbeats 4000000
namespace My
open PySem L2 DL PyProof.Rows
theorem txt_mk {K : PySem.W.Frag} {h : Heap} {mg : Str → Option Value} (X : K.In h) (G : h.Ns mainGlobals mg)
    {f1 : Addr} {od1 an1 : Option Addr} {sl1 : Array (Option Value)} {oc1 kV1 dc1 pm1 cd1 ct1 : Value}
    {f2 : Addr} {od2 an2 : Option Addr} {sl2 : Array (Option Value)} {oc2 kV2 dc2 pm2 cd2 ct2 : Value}
    {f3 : Addr} {od3 an3 : Option Addr} {sl3 : Array (Option Value)} {oc3 kV3 dc3 pm3 cd3 ct3 : Value}
    {f4 : Addr} {od4 an4 : Option Addr} {sl4 : Array (Option Value)} {oc4 kV4 dc4 pm4 cd4 ct4 : Value}
    {f5 : Addr} {od5 an5 : Option Addr} {sl5 : Array (Option Value)} {oc5 kV5 dc5 pm5 cd5 ct5 : Value}
    {f6 : Addr} {od6 an6 : Option Addr} {sl6 : Array (Option Value)} {oc6 kV6 dc6 pm6 cd6 ct6 : Value}
    {f7 : Addr} {od7 an7 : Option Addr} {sl7 : Array (Option Value)} {oc7 kV7 dc7 pm7 cd7 ct7 : Value}
    {f8 : Addr} {od8 an8 : Option Addr} {sl8 : Array (Option Value)} {oc8 kV8 dc8 pm8 cd8 ct8 : Value}
    {f9 : Addr} {od9 an9 : Option Addr} {sl9 : Array (Option Value)} {oc9 kV9 dc9 pm9 cd9 ct9 : Value}
    {f10 : Addr} {od10 an10 : Option Addr} {sl10 : Array (Option Value)} {oc10 kV10 dc10 pm10 cd10 ct10 : Value}
    {f11 : Addr} {od11 an11 : Option Addr} {sl11 : Array (Option Value)} {oc11 kV11 dc11 pm11 cd11 ct11 : Value}
    {f12 : Addr} {od12 an12 : Option Addr} {sl12 : Array (Option Value)} {oc12 kV12 dc12 pm12 cd12 ct12 : Value}
    {f13 : Addr} {od13 an13 : Option Addr} {sl13 : Array (Option Value)} {oc13 kV13 dc13 pm13 cd13 ct13 : Value}
    {f14 : Addr} {od14 an14 : Option Addr} {sl14 : Array (Option Value)} {oc14 kV14 dc14 pm14 cd14 ct14 : Value}
    {f15 : Addr} {od15 an15 : Option Addr} {sl15 : Array (Option Value)} {oc15 kV15 dc15 pm15 cd15 ct15 : Value}
    {f16 : Addr} {od16 an16 : Option Addr} {sl16 : Array (Option Value)} {oc16 kV16 dc16 pm16 cd16 ct16 : Value}
    {f17 : Addr} {od17 an17 : Option Addr} {sl17 : Array (Option Value)} {oc17 kV17 dc17 pm17 cd17 ct17 : Value}
    {f18 : Addr} {od18 an18 : Option Addr} {sl18 : Array (Option Value)} {oc18 kV18 dc18 pm18 cd18 ct18 : Value}
    {f19 : Addr} {od19 an19 : Option Addr} {sl19 : Array (Option Value)} {oc19 kV19 dc19 pm19 cd19 ct19 : Value}
    {f20 : Addr} {od20 an20 : Option Addr} {sl20 : Array (Option Value)} {oc20 kV20 dc20 pm20 cd20 ct20 : Value}
    {a_COUNTS1 : Addr} {o_COUNTS1 : Option Addr} {n_COUNTS1 : Nat} {s_COUNTS1 : Array (Option Value)} {u_COUNTS1_0 u_COUNTS1_1 : Tok}
    {a_COUNTS2 : Addr} {o_COUNTS2 : Option Addr} {n_COUNTS2 : Nat} {s_COUNTS2 : Array (Option Value)} {u_COUNTS2_0 u_COUNTS2_1 : Tok}
    {a_COUNTS3 : Addr} {o_COUNTS3 : Option Addr} {n_COUNTS3 : Nat} {s_COUNTS3 : Array (Option Value)} {u_COUNTS3_0 u_COUNTS3_1 : Tok}
    {a_COUNTS4 : Addr} {o_COUNTS4 : Option Addr} {n_COUNTS4 : Nat} {s_COUNTS4 : Array (Option Value)} {u_COUNTS4_0 u_COUNTS4_1 : Tok}
    {a_COUNTS5 : Addr} {o_COUNTS5 : Option Addr} {n_COUNTS5 : Nat} {s_COUNTS5 : Array (Option Value)} {u_COUNTS5_0 u_COUNTS5_1 : Tok}
    {a_COUNTS6 : Addr} {o_COUNTS6 : Option Addr} {n_COUNTS6 : Nat} {s_COUNTS6 : Array (Option Value)} {u_COUNTS6_0 u_COUNTS6_1 : Tok}
    {a_COUNTS0 : Addr} {o_COUNTS0 : Option Addr} {n_COUNTS0 : Nat} {s_COUNTS0 : Array (Option Value)}
    {a_MORE_COUNTS1 : Addr} {o_MORE_COUNTS1 : Option Addr} {n_MORE_COUNTS1 : Nat} {s_MORE_COUNTS1 : Array (Option Value)} {u_MORE_COUNTS1_0 u_MORE_COUNTS1_1 : Tok}
    {a_MORE_COUNTS2 : Addr} {o_MORE_COUNTS2 : Option Addr} {n_MORE_COUNTS2 : Nat} {s_MORE_COUNTS2 : Array (Option Value)} {u_MORE_COUNTS2_0 u_MORE_COUNTS2_1 : Tok}
    {a_MORE_COUNTS3 : Addr} {o_MORE_COUNTS3 : Option Addr} {n_MORE_COUNTS3 : Nat} {s_MORE_COUNTS3 : Array (Option Value)} {u_MORE_COUNTS3_0 u_MORE_COUNTS3_1 : Tok}
    {a_MORE_COUNTS4 : Addr} {o_MORE_COUNTS4 : Option Addr} {n_MORE_COUNTS4 : Nat} {s_MORE_COUNTS4 : Array (Option Value)} {u_MORE_COUNTS4_0 u_MORE_COUNTS4_1 : Tok}
    {a_MORE_COUNTS0 : Addr} {o_MORE_COUNTS0 : Option Addr} {n_MORE_COUNTS0 : Nat} {s_MORE_COUNTS0 : Array (Option Value)}
    (a1 : PySem.W.nsIn K mainGlobals "count_of" = some (some (.ref f1)))
    (l1 : K.lookup f1 = some ⟨oc1, od1, .func (PySem.W.fnOf "count_of" "count_of" (defArgs s_count_of) (defBody s_count_of) (defScope s_count_of) .none kV1 dc1 pm1 an1 cd1 ct1), sl1⟩)
    (c1 : PySem.W.codeIn K cd1 "count_of" = true) (k1 : PySem.W.keepIn K (.ref f1) = true)
    (a2 : PySem.W.nsIn K mainGlobals "is_from" = some (some (.ref f2)))
    (l2 : K.lookup f2 = some ⟨oc2, od2, .func (PySem.W.fnOf "is_from" "is_from" (defArgs s_is_from) (defBody s_is_from) (defScope s_is_from) .none kV2 dc2 pm2 an2 cd2 ct2), sl2⟩)
    (c2 : PySem.W.codeIn K cd2 "is_from" = true) (k2 : PySem.W.keepIn K (.ref f2) = true)
    (a3 : PySem.W.nsIn K mainGlobals "is_pair" = some (some (.ref f3)))
    (l3 : K.lookup f3 = some ⟨oc3, od3, .func (PySem.W.fnOf "is_pair" "is_pair" (defArgs s_is_pair) (defBody s_is_pair) (defScope s_is_pair) .none kV3 dc3 pm3 an3 cd3 ct3), sl3⟩)
    (c3 : PySem.W.codeIn K cd3 "is_pair" = true) (k3 : PySem.W.keepIn K (.ref f3) = true)
    (a4 : PySem.W.nsIn K mainGlobals "by_parts" = some (some (.ref f4)))
    (l4 : K.lookup f4 = some ⟨oc4, od4, .func (PySem.W.fnOf "by_parts" "by_parts" (defArgs s_by_parts) (defBody s_by_parts) (defScope s_by_parts) .none kV4 dc4 pm4 an4 cd4 ct4), sl4⟩)
    (c4 : PySem.W.codeIn K cd4 "by_parts" = true) (k4 : PySem.W.keepIn K (.ref f4) = true)
    (a5 : PySem.W.nsIn K mainGlobals "by_cases" = some (some (.ref f5)))
    (l5 : K.lookup f5 = some ⟨oc5, od5, .func (PySem.W.fnOf "by_cases" "by_cases" (defArgs s_by_cases) (defBody s_by_cases) (defScope s_by_cases) .none kV5 dc5 pm5 an5 cd5 ct5), sl5⟩)
    (c5 : PySem.W.codeIn K cd5 "by_cases" = true) (k5 : PySem.W.keepIn K (.ref f5) = true)
    (a6 : PySem.W.nsIn K mainGlobals "by_then" = some (some (.ref f6)))
    (l6 : K.lookup f6 = some ⟨oc6, od6, .func (PySem.W.fnOf "by_then" "by_then" (defArgs s_by_then) (defBody s_by_then) (defScope s_by_then) .none kV6 dc6 pm6 an6 cd6 ct6), sl6⟩)
    (c6 : PySem.W.codeIn K cd6 "by_then" = true) (k6 : PySem.W.keepIn K (.ref f6) = true)
    (a7 : PySem.W.nsIn K mainGlobals "follows" = some (some (.ref f7)))
    (l7 : K.lookup f7 = some ⟨oc7, od7, .func (PySem.W.fnOf "follows" "follows" (defArgs s_follows) (defBody s_follows) (defScope s_follows) .none kV7 dc7 pm7 an7 cd7 ct7), sl7⟩)
    (c7 : PySem.W.codeIn K cd7 "follows" = true) (k7 : PySem.W.keepIn K (.ref f7) = true)
    (a8 : PySem.W.nsIn K mainGlobals "faults" = some (some (.ref f8)))
    (l8 : K.lookup f8 = some ⟨oc8, od8, .func (PySem.W.fnOf "faults" "faults" (defArgs s_faults) (defBody s_faults) (defScope s_faults) .none kV8 dc8 pm8 an8 cd8 ct8), sl8⟩)
    (c8 : PySem.W.codeIn K cd8 "faults" = true) (k8 : PySem.W.keepIn K (.ref f8) = true)
    (a9 : PySem.W.nsIn K mainGlobals "_law_cell_at" = some (some (.ref f9)))
    (l9 : K.lookup f9 = some ⟨oc9, od9, .func (PySem.W.fnOf "_law_cell_at" "_law_cell_at" (defArgs s_law_cell_at) (defBody s_law_cell_at) (defScope s_law_cell_at) .none kV9 dc9 pm9 an9 cd9 ct9), sl9⟩)
    (c9 : PySem.W.codeIn K cd9 "_law_cell_at" = true) (k9 : PySem.W.keepIn K (.ref f9) = true)
    (a10 : PySem.W.nsIn K mainGlobals "_law_name_by" = some (some (.ref f10)))
    (l10 : K.lookup f10 = some ⟨oc10, od10, .func (PySem.W.fnOf "_law_name_by" "_law_name_by" (defArgs s_law_name_by) (defBody s_law_name_by) (defScope s_law_name_by) .none kV10 dc10 pm10 an10 cd10 ct10), sl10⟩)
    (c10 : PySem.W.codeIn K cd10 "_law_name_by" = true) (k10 : PySem.W.keepIn K (.ref f10) = true)
    (a11 : PySem.W.nsIn K mainGlobals "_law_from" = some (some (.ref f11)))
    (l11 : K.lookup f11 = some ⟨oc11, od11, .func (PySem.W.fnOf "_law_from" "_law_from" (defArgs s_law_from) (defBody s_law_from) (defScope s_law_from) .none kV11 dc11 pm11 an11 cd11 ct11), sl11⟩)
    (c11 : PySem.W.codeIn K cd11 "_law_from" = true) (k11 : PySem.W.keepIn K (.ref f11) = true)
    (a12 : PySem.W.nsIn K mainGlobals "_law_ups_right" = some (some (.ref f12)))
    (l12 : K.lookup f12 = some ⟨oc12, od12, .func (PySem.W.fnOf "_law_ups_right" "_law_ups_right" (defArgs s_law_ups_right) (defBody s_law_ups_right) (defScope s_law_ups_right) .none kV12 dc12 pm12 an12 cd12 ct12), sl12⟩)
    (c12 : PySem.W.codeIn K cd12 "_law_ups_right" = true) (k12 : PySem.W.keepIn K (.ref f12) = true)
    (a13 : PySem.W.nsIn K mainGlobals "_law_follows" = some (some (.ref f13)))
    (l13 : K.lookup f13 = some ⟨oc13, od13, .func (PySem.W.fnOf "_law_follows" "_law_follows" (defArgs s_law_follows) (defBody s_law_follows) (defScope s_law_follows) .none kV13 dc13 pm13 an13 cd13 ct13), sl13⟩)
    (c13 : PySem.W.codeIn K cd13 "_law_follows" = true) (k13 : PySem.W.keepIn K (.ref f13) = true)
    (a14 : PySem.W.nsIn K mainGlobals "_law_part_by" = some (some (.ref f14)))
    (l14 : K.lookup f14 = some ⟨oc14, od14, .func (PySem.W.fnOf "_law_part_by" "_law_part_by" (defArgs s_law_part_by) (defBody s_law_part_by) (defScope s_law_part_by) .none kV14 dc14 pm14 an14 cd14 ct14), sl14⟩)
    (c14 : PySem.W.codeIn K cd14 "_law_part_by" = true) (k14 : PySem.W.keepIn K (.ref f14) = true)
    (a15 : PySem.W.nsIn K mainGlobals "_law_added" = some (some (.ref f15)))
    (l15 : K.lookup f15 = some ⟨oc15, od15, .func (PySem.W.fnOf "_law_added" "_law_added" (defArgs s_law_added) (defBody s_law_added) (defScope s_law_added) .none kV15 dc15 pm15 an15 cd15 ct15), sl15⟩)
    (c15 : PySem.W.codeIn K cd15 "_law_added" = true) (k15 : PySem.W.keepIn K (.ref f15) = true)
    (a16 : PySem.W.nsIn K mainGlobals "_law_wrong_ups" = some (some (.ref f16)))
    (l16 : K.lookup f16 = some ⟨oc16, od16, .func (PySem.W.fnOf "_law_wrong_ups" "_law_wrong_ups" (defArgs s_law_wrong_ups) (defBody s_law_wrong_ups) (defScope s_law_wrong_ups) .none kV16 dc16 pm16 an16 cd16 ct16), sl16⟩)
    (c16 : PySem.W.codeIn K cd16 "_law_wrong_ups" = true) (k16 : PySem.W.keepIn K (.ref f16) = true)
    (a17 : PySem.W.nsIn K mainGlobals "_law_spoilt" = some (some (.ref f17)))
    (l17 : K.lookup f17 = some ⟨oc17, od17, .func (PySem.W.fnOf "_law_spoilt" "_law_spoilt" (defArgs s_law_spoilt) (defBody s_law_spoilt) (defScope s_law_spoilt) .none kV17 dc17 pm17 an17 cd17 ct17), sl17⟩)
    (c17 : PySem.W.codeIn K cd17 "_law_spoilt" = true) (k17 : PySem.W.keepIn K (.ref f17) = true)
    (a18 : PySem.W.nsIn K mainGlobals "_law_all_spoilt" = some (some (.ref f18)))
    (l18 : K.lookup f18 = some ⟨oc18, od18, .func (PySem.W.fnOf "_law_all_spoilt" "_law_all_spoilt" (defArgs s_law_all_spoilt) (defBody s_law_all_spoilt) (defScope s_law_all_spoilt) .none kV18 dc18 pm18 an18 cd18 ct18), sl18⟩)
    (c18 : PySem.W.codeIn K cd18 "_law_all_spoilt" = true) (k18 : PySem.W.keepIn K (.ref f18) = true)
    (a19 : PySem.W.nsIn K mainGlobals "_law_rows_by" = some (some (.ref f19)))
    (l19 : K.lookup f19 = some ⟨oc19, od19, .func (PySem.W.fnOf "_law_rows_by" "_law_rows_by" (defArgs s_law_rows_by) (defBody s_law_rows_by) (defScope s_law_rows_by) .none kV19 dc19 pm19 an19 cd19 ct19), sl19⟩)
    (c19 : PySem.W.codeIn K cd19 "_law_rows_by" = true) (k19 : PySem.W.keepIn K (.ref f19) = true)
    (a20 : PySem.W.nsIn K mainGlobals "law" = some (some (.ref f20)))
    (l20 : K.lookup f20 = some ⟨oc20, od20, .func (PySem.W.fnOf "law" "law" (defArgs s_law) (defBody s_law) (defScope s_law) .none kV20 dc20 pm20 an20 cd20 ct20), sl20⟩)
    (c20 : PySem.W.codeIn K cd20 "law" = true) (k20 : PySem.W.keepIn K (.ref f20) = true)
    (z_all : PySem.W.nsIn K mainGlobals "all" = some none)
    (z_bool : PySem.W.nsIn K mainGlobals "bool" = some none)
    (z_int : PySem.W.nsIn K mainGlobals "int" = some none)
    (z_isinstance : PySem.W.nsIn K mainGlobals "isinstance" = some none)
    (z_len : PySem.W.nsIn K mainGlobals "len" = some none)
    (z_list : PySem.W.nsIn K mainGlobals "list" = some none)
    (z_max : PySem.W.nsIn K mainGlobals "max" = some none)
    (z_min : PySem.W.nsIn K mainGlobals "min" = some none)
    (z_range : PySem.W.nsIn K mainGlobals "range" = some none)
    (z_reversed : PySem.W.nsIn K mainGlobals "reversed" = some none)
    (z_tuple : PySem.W.nsIn K mainGlobals "tuple" = some none)
    (g_COUNTS : PySem.W.nsIn K mainGlobals "COUNTS" = some (some (.ref a_COUNTS0)))
    (g_COUNTS0 : K.lookup a_COUNTS0 = some ⟨.type "tuple", o_COUNTS0, .seq #[.ref a_COUNTS1, .ref a_COUNTS2, .ref a_COUNTS3, .ref a_COUNTS4, .ref a_COUNTS5, .ref a_COUNTS6] n_COUNTS0, s_COUNTS0⟩)
    (g_COUNTS1 : K.lookup a_COUNTS1 = some ⟨.type "tuple", o_COUNTS1, .seq #[.str "given" u_COUNTS1_0, .int 0 u_COUNTS1_1] n_COUNTS1, s_COUNTS1⟩)
    (g_COUNTS2 : K.lookup a_COUNTS2 = some ⟨.type "tuple", o_COUNTS2, .seq #[.str "both" u_COUNTS2_0, .int 2 u_COUNTS2_1] n_COUNTS2, s_COUNTS2⟩)
    (g_COUNTS3 : K.lookup a_COUNTS3 = some ⟨.type "tuple", o_COUNTS3, .seq #[.str "left" u_COUNTS3_0, .int 1 u_COUNTS3_1] n_COUNTS3, s_COUNTS3⟩)
    (g_COUNTS4 : K.lookup a_COUNTS4 = some ⟨.type "tuple", o_COUNTS4, .seq #[.str "right" u_COUNTS4_0, .int 1 u_COUNTS4_1] n_COUNTS4, s_COUNTS4⟩)
    (g_COUNTS5 : K.lookup a_COUNTS5 = some ⟨.type "tuple", o_COUNTS5, .seq #[.str "one" u_COUNTS5_0, .int 1 u_COUNTS5_1] n_COUNTS5, s_COUNTS5⟩)
    (g_COUNTS6 : K.lookup a_COUNTS6 = some ⟨.type "tuple", o_COUNTS6, .seq #[.str "other" u_COUNTS6_0, .int 1 u_COUNTS6_1] n_COUNTS6, s_COUNTS6⟩)
    (g_MORE_COUNTS : PySem.W.nsIn K mainGlobals "MORE_COUNTS" = some (some (.ref a_MORE_COUNTS0)))
    (g_MORE_COUNTS0 : K.lookup a_MORE_COUNTS0 = some ⟨.type "tuple", o_MORE_COUNTS0, .seq #[.ref a_MORE_COUNTS1, .ref a_MORE_COUNTS2, .ref a_MORE_COUNTS3, .ref a_MORE_COUNTS4] n_MORE_COUNTS0, s_MORE_COUNTS0⟩)
    (g_MORE_COUNTS1 : K.lookup a_MORE_COUNTS1 = some ⟨.type "tuple", o_MORE_COUNTS1, .seq #[.str "cases" u_MORE_COUNTS1_0, .int 3 u_MORE_COUNTS1_1] n_MORE_COUNTS1, s_MORE_COUNTS1⟩)
    (g_MORE_COUNTS2 : K.lookup a_MORE_COUNTS2 = some ⟨.type "tuple", o_MORE_COUNTS2, .seq #[.str "suppose" u_MORE_COUNTS2_0, .int 1 u_MORE_COUNTS2_1] n_MORE_COUNTS2, s_MORE_COUNTS2⟩)
    (g_MORE_COUNTS3 : K.lookup a_MORE_COUNTS3 = some ⟨.type "tuple", o_MORE_COUNTS3, .seq #[.str "onward" u_MORE_COUNTS3_0, .int 2 u_MORE_COUNTS3_1] n_MORE_COUNTS3, s_MORE_COUNTS3⟩)
    (g_MORE_COUNTS4 : K.lookup a_MORE_COUNTS4 = some ⟨.type "tuple", o_MORE_COUNTS4, .seq #[.str "any" u_MORE_COUNTS4_0, .int 1 u_MORE_COUNTS4_1] n_MORE_COUNTS4, s_MORE_COUNTS4⟩) : Txt K mg where
    d_count_of := defAt_mk X G a1 l1 c1 k1 fun _ _ _ _ _ _ us hl => match us, hl with | [_], _ => rfl
    d_is_from := defAt_mk X G a2 l2 c2 k2 fun _ _ _ _ _ _ us hl => match us, hl with | [_, _, _, _], _ => rfl
    d_is_pair := defAt_mk X G a3 l3 c3 k3 fun _ _ _ _ _ _ us hl => match us, hl with | [_, _], _ => rfl
    d_by_parts := defAt_mk X G a4 l4 c4 k4 fun _ _ _ _ _ _ us hl => match us, hl with | [_, _], _ => rfl
    d_by_cases := defAt_mk X G a5 l5 c5 k5 fun _ _ _ _ _ _ us hl => match us, hl with | [_, _], _ => rfl
    d_by_then := defAt_mk X G a6 l6 c6 k6 fun _ _ _ _ _ _ us hl => match us, hl with | [_, _], _ => rfl
    d_follows := defAt_mk X G a7 l7 c7 k7 fun _ _ _ _ _ _ us hl => match us, hl with | [_, _], _ => rfl
    d_faults := defAt_mk X G a8 l8 c8 k8 fun _ _ _ _ _ _ us hl => match us, hl with | [_], _ => rfl
    d_law_cell_at := defAt_mk X G a9 l9 c9 k9 fun _ _ _ _ _ _ us hl => match us, hl with | [_, _], _ => rfl
    d_law_name_by := defAt_mk X G a10 l10 c10 k10 fun _ _ _ _ _ _ us hl => match us, hl with | [_, _], _ => rfl
    d_law_from := defAt_mk X G a11 l11 c11 k11 fun _ _ _ _ _ _ us hl => match us, hl with | [_, _, _, _], _ => rfl
    d_law_ups_right := defAt_mk X G a12 l12 c12 k12 fun _ _ _ _ _ _ us hl => match us, hl with | [_, _], _ => rfl
    d_law_follows := defAt_mk X G a13 l13 c13 k13 fun _ _ _ _ _ _ us hl => match us, hl with | [_, _], _ => rfl
    d_law_part_by := defAt_mk X G a14 l14 c14 k14 fun _ _ _ _ _ _ us hl => match us, hl with | [_, _], _ => rfl
    d_law_added := defAt_mk X G a15 l15 c15 k15 fun _ _ _ _ _ _ us hl => match us, hl with | [_, _, _, _], _ => rfl
    d_law_wrong_ups := defAt_mk X G a16 l16 c16 k16 fun _ _ _ _ _ _ us hl => match us, hl with | [_, _, _, _], _ => rfl
    d_law_spoilt := defAt_mk X G a17 l17 c17 k17 fun _ _ _ _ _ _ us hl => match us, hl with | [_, _, _, _, _], _ => rfl
    d_law_all_spoilt := defAt_mk X G a18 l18 c18 k18 fun _ _ _ _ _ _ us hl => match us, hl with | [_, _, _], _ => rfl
    d_law_rows_by := defAt_mk X G a19 l19 c19 k19 fun _ _ _ _ _ _ us hl => match us, hl with | [_, _], _ => rfl
    d_law := defAt_mk X G a20 l20 c20 k20 fun _ _ _ _ _ _ us hl => match us, hl with | [_], _ => rfl
    z_all := PySem.W.mg_none_of X G z_all
    z_bool := PySem.W.mg_none_of X G z_bool
    z_int := PySem.W.mg_none_of X G z_int
    z_isinstance := PySem.W.mg_none_of X G z_isinstance
    z_len := PySem.W.mg_none_of X G z_len
    z_list := PySem.W.mg_none_of X G z_list
    z_max := PySem.W.mg_none_of X G z_max
    z_min := PySem.W.mg_none_of X G z_min
    z_range := PySem.W.mg_none_of X G z_range
    z_reversed := PySem.W.mg_none_of X G z_reversed
    z_tuple := PySem.W.mg_none_of X G z_tuple
    gl_COUNTS := gl_ref X G g_COUNTS (kd_tup g_COUNTS0 (kds_cons (kd_tup g_COUNTS1 (kds_cons kd_str (kds_cons kd_int kds_nil))) (kds_cons (kd_tup g_COUNTS2 (kds_cons kd_str (kds_cons kd_int kds_nil))) (kds_cons (kd_tup g_COUNTS3 (kds_cons kd_str (kds_cons kd_int kds_nil))) (kds_cons (kd_tup g_COUNTS4 (kds_cons kd_str (kds_cons kd_int kds_nil))) (kds_cons (kd_tup g_COUNTS5 (kds_cons kd_str (kds_cons kd_int kds_nil))) (kds_cons (kd_tup g_COUNTS6 (kds_cons kd_str (kds_cons kd_int kds_nil))) kds_nil)))))))
    gl_MORE_COUNTS := gl_ref X G g_MORE_COUNTS (kd_tup g_MORE_COUNTS0 (kds_cons (kd_tup g_MORE_COUNTS1 (kds_cons kd_str (kds_cons kd_int kds_nil))) (kds_cons (kd_tup g_MORE_COUNTS2 (kds_cons kd_str (kds_cons kd_int kds_nil))) (kds_cons (kd_tup g_MORE_COUNTS3 (kds_cons kd_str (kds_cons kd_int kds_nil))) (kds_cons (kd_tup g_MORE_COUNTS4 (kds_cons kd_str (kds_cons kd_int kds_nil))) kds_nil)))))
/-- the end: from the plain law -/
theorem walk {l : PySem.W.OpenLaw} {q : Program} {loose : List Str} {XP : (Str → Option Value) → Heap → Prop} {YP : World → Heap → Prop} {d : DefRec} {K : Params → PySem.W.Frag} (hn : l.most = some 63) (hd : d.params.defaults = []) (hd2 : d.name = "law")
    (plain : ∀ ns : List Int, ns.length ≤ 63 → sem_law [.list (ns.map PyData.int)] = .ok (.bool true)) (hY : ∀ (w : World) (h : Heap), YP w h → (K w.params).In h)
    (F : ∀ (w : World) (mg : Str → Option Value) (h : Heap), (K w.params).In h → h.Ns mainGlobals mg → Txt (K w.params) mg) : PySem.W.WalkO q loose XP YP l.row.toRowW d [] (fun f vs => PySem.call f vs) :=
  walk_data (k := 5) (by decide +kernel) (by decide +kernel) (g := sem_law) (st := s_law) hn hd hd2 hY (fun w mg h X G => (F w mg h X G).d_law) (fun w mg h X G base => all_ok (F w mg h X G)) (fun fd ⟨_, _, _, _, _, _, e⟩ s u => by subst e; exact .of_eq rfl) plain
end My
open PySem PySem.W PyProof.Rows
set_option maxRecDepth 100000 in
set_option maxHeartbeats 0 in
theorem PySem.Challenge.cw_showtree_k08_rows_follow_holds : PySem.Challenge.rw_showtree_k08_rows_follow.Holds := by
  w_on; o_law; k_head; (case hw => w_witness2)
  k_fill
  refine My.walk (l := PySem.Challenge.rw_showtree_k08_rows_follow) rfl rfl rfl My.plain (fun w h Y => PySem.W.kIn_of Y) ?F
  case F =>
    intro w mg h KX G
    refine' My.txt_mk KX G ?a1 ?l1 ?c1 ?k1 ?a2 ?l2 ?c2 ?k2 ?a3 ?l3 ?c3 ?k3 ?a4 ?l4 ?c4 ?k4 ?a5 ?l5 ?c5 ?k5 ?a6 ?l6 ?c6 ?k6 ?a7 ?l7 ?c7 ?k7 ?a8 ?l8 ?c8 ?k8 ?a9 ?l9 ?c9 ?k9 ?a10 ?l10 ?c10 ?k10 ?a11 ?l11 ?c11 ?k11 ?a12 ?l12 ?c12 ?k12 ?a13 ?l13 ?c13 ?k13 ?a14 ?l14 ?c14 ?k14 ?a15 ?l15 ?c15 ?k15 ?a16 ?l16 ?c16 ?k16 ?a17 ?l17 ?c17 ?k17 ?a18 ?l18 ?c18 ?k18 ?a19 ?l19 ?c19 ?k19 ?a20 ?l20 ?c20 ?k20 ?z_all ?z_bool ?z_int ?z_isinstance ?z_len ?z_list ?z_max ?z_min ?z_range ?z_reversed ?z_tuple ?g_COUNTS ?g_COUNTS0 ?g_COUNTS1 ?g_COUNTS2 ?g_COUNTS3 ?g_COUNTS4 ?g_COUNTS5 ?g_COUNTS6 ?g_MORE_COUNTS ?g_MORE_COUNTS0 ?g_MORE_COUNTS1 ?g_MORE_COUNTS2 ?g_MORE_COUNTS3 ?g_MORE_COUNTS4
    (case a1 => k_is)
    (case l1 => k_is)
    (case c1 => k_is)
    (case k1 => k_is)
    (case a2 => k_is)
    (case l2 => k_is)
    (case c2 => k_is)
    (case k2 => k_is)
    (case a3 => k_is)
    (case l3 => k_is)
    (case c3 => k_is)
    (case k3 => k_is)
    (case a4 => k_is)
    (case l4 => k_is)
    (case c4 => k_is)
    (case k4 => k_is)
    (case a5 => k_is)
    (case l5 => k_is)
    (case c5 => k_is)
    (case k5 => k_is)
    (case a6 => k_is)
    (case l6 => k_is)
    (case c6 => k_is)
    (case k6 => k_is)
    (case a7 => k_is)
    (case l7 => k_is)
    (case c7 => k_is)
    (case k7 => k_is)
    (case a8 => k_is)
    (case l8 => k_is)
    (case c8 => k_is)
    (case k8 => k_is)
    (case a9 => k_is)
    (case l9 => k_is)
    (case c9 => k_is)
    (case k9 => k_is)
    (case a10 => k_is)
    (case l10 => k_is)
    (case c10 => k_is)
    (case k10 => k_is)
    (case a11 => k_is)
    (case l11 => k_is)
    (case c11 => k_is)
    (case k11 => k_is)
    (case a12 => k_is)
    (case l12 => k_is)
    (case c12 => k_is)
    (case k12 => k_is)
    (case a13 => k_is)
    (case l13 => k_is)
    (case c13 => k_is)
    (case k13 => k_is)
    (case a14 => k_is)
    (case l14 => k_is)
    (case c14 => k_is)
    (case k14 => k_is)
    (case a15 => k_is)
    (case l15 => k_is)
    (case c15 => k_is)
    (case k15 => k_is)
    (case a16 => k_is)
    (case l16 => k_is)
    (case c16 => k_is)
    (case k16 => k_is)
    (case a17 => k_is)
    (case l17 => k_is)
    (case c17 => k_is)
    (case k17 => k_is)
    (case a18 => k_is)
    (case l18 => k_is)
    (case c18 => k_is)
    (case k18 => k_is)
    (case a19 => k_is)
    (case l19 => k_is)
    (case c19 => k_is)
    (case k19 => k_is)
    (case a20 => k_is)
    (case l20 => k_is)
    (case c20 => k_is)
    (case k20 => k_is)
    (case z_all => k_is)
    (case z_bool => k_is)
    (case z_int => k_is)
    (case z_isinstance => k_is)
    (case z_len => k_is)
    (case z_list => k_is)
    (case z_max => k_is)
    (case z_min => k_is)
    (case z_range => k_is)
    (case z_reversed => k_is)
    (case z_tuple => k_is)
    (case g_COUNTS => k_is)
    (case g_COUNTS0 => k_is)
    (case g_COUNTS1 => k_is)
    (case g_COUNTS2 => k_is)
    (case g_COUNTS3 => k_is)
    (case g_COUNTS4 => k_is)
    (case g_COUNTS5 => k_is)
    (case g_COUNTS6 => k_is)
    (case g_MORE_COUNTS => k_is)
    (case g_MORE_COUNTS0 => k_is)
    (case g_MORE_COUNTS1 => k_is)
    (case g_MORE_COUNTS2 => k_is)
    (case g_MORE_COUNTS3 => k_is)
    (case g_MORE_COUNTS4 => k_is)
