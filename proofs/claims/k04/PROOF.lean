import PyProof.Rows.All
import Wide.All
import OpenK.AllK
import Wide.FinOn
import HandS.ForMost
import HandS.ForExc
import HandS.Deep
import HandS.IsInst
import HandS.TupAny
import HandS.TupMul
import HandS.TupLe
import HandS.Rev
import HandS.StrMore
import HandS.Replace
import HandS.Strs
import HandS.Iter
import HandS.RevTup
import HandS.WordsExc
import HandS.ExcIs
import KE.KOwnIn
import PySem.Challenge.RW_showtree_k04_texts_refused
set_option Elab.async false
set_option linter.all false
set_option maxRecDepth 100000
set_option maxHeartbeats 2000000
/-! THE DATA LAYER: a reading as a plain function over PyData. A def's body is read as a function from the values of its slots (as data) to what it answers. -/
namespace DL
open PySem L2 PyProof.Rows

/-- an equation that simp is not to take for one by unfolding -/
theorem nrfl {α : Sort u} {a b : α} (h : a = b) : a = b := h
/-! ### results -/
inductive Res (α : Type) where
  | ok (a : α) | ex (n : Nat) | bad
namespace Res
variable {α β : Type}
def bind (r : Res α) (f : α → Res β) : Res β := match r with
  | .ok a => f a
  | .ex n => .ex n
  | .bad => .bad
def of (o : Option α) : Res α := match o with
  | some a => .ok a
  | none => .bad
def post (r : Res α) (p : α → Prop) (e : Nat → Prop) : Prop := match r with
  | .ok a => p a
  | .ex n => e n
  | .bad => False
@[simp] theorem ok_bind (a : α) (f : α → Res β) : (Res.ok a).bind f = f a := nrfl rfl
@[simp] theorem ex_bind (n : Nat) (f : α → Res β) : (Res.ex n : Res α).bind f = .ex n := nrfl rfl
@[simp] theorem bad_bind (f : α → Res β) : (Res.bad : Res α).bind f = .bad := nrfl rfl
@[simp] theorem of_some (a : α) : Res.of (some a) = .ok a := nrfl rfl
@[simp] theorem of_none : Res.of (none : Option α) = .bad := nrfl rfl
theorem post_bind {r : Res α} {f : α → Res β} {p : β → Prop} {e : Nat → Prop} : (r.bind f).post p e ↔ r.post (fun a => (f a).post p e) e := by cases r <;> exact Iff.rfl
theorem post.mono {r : Res α} {p q : α → Prop} {e g : Nat → Prop} (h : r.post p e) (h1 : ∀ a, p a → q a) (h2 : ∀ n, e n → g n) : r.post q g := by
  cases r with
  | ok a => exact h1 a h
  | ex n => exact h2 n h
  | bad => exact h.elim
theorem post_of {o : Option α} {p : α → Prop} {e : Nat → Prop} (h : (Res.of o).post p e) : ∃ a, o = some a ∧ p a := by
  cases o with
  | none => exact h.elim
  | some a => exact ⟨a, rfl, h⟩
end Res

abbrev PEnv := List (Option PyData)
abbrev SE := PEnv → Res PyData
abbrev SA := PEnv → Res (List PyData)
abbrev ST := PEnv → Res Bool
inductive Out where
  | nx (ρ : PEnv) | rt (d : PyData) | bk (ρ : PEnv) | ct (ρ : PEnv)
abbrev SS := PEnv → Res Out
abbrev Wis := Nat → Hp → Prop

/-! ### data over a heap -/
/-- a key, a scalar, as data -/
def keyD : Key → PyData
  | .inl i => .int i
  | .inr x => .str x
def scaD : V → Option PyData
  | .non => some .none
  | .bl b => some (.bool b)
  | .int i => some (.int i)
  | .str x => some (.str x)
  | _ => none
def kvD (kvs : List (Key × V)) : List (PyData × PyData) := kvs.map fun p => (keyD p.1, (scaD p.2).getD .none)
mutual
inductive Dp (K : PySem.W.Frag) (H : Hp) : V → PyData → Prop
  | non : Dp K H .non .none
  | bl (b : Bool) : Dp K H (.bl b) (.bool b)
  | int (i : Int) : Dp K H (.int i) (.int i)
  | str (x : Str) : Dp K H (.str x) (.str x)
  | lst {a : Addr} {xs : List V} {ds : List PyData} : SqL K H a xs → DpAll K H xs ds → Dp K H (.ref a) (.list ds)
  | tup {a : Addr} {xs : List V} {ds : List PyData} : SqT K H a xs → DpAll K H xs ds → Dp K H (.ref a) (.tuple ds)
  | dct {a : Addr} {kvs : List (Key × V)} : H a = some (.dK kvs) → (∀ p ∈ kvs, (scaD p.2).isSome = true) → Dp K H (.ref a) (.dict (kvD kvs))
inductive DpAll (K : PySem.W.Frag) (H : Hp) : List V → List PyData → Prop
  | nil : DpAll K H [] []
  | cons {v : V} {vs : List V} {d : PyData} {ds : List PyData} : Dp K H v d → DpAll K H vs ds → DpAll K H (v :: vs) (d :: ds)
end
theorem dp_sca {K : PySem.W.Frag} {H : Hp} {v : V} {d : PyData} (h : scaD v = some d) : Dp K H v d := by
  cases v <;> simp only [scaD, reduceCtorEq, Option.some.injEq] at h <;> subst h
  · exact .non
  · exact .bl _
  · exact .int _
  · exact .str _
section
variable {K : PySem.W.Frag} {H H' : Hp}
theorem sqT_same {a : Addr} {xs : List V} (e : Same H H') (h : SqT K H a xs) : SqT K H' a xs := by
  rcases h with (h | ⟨o, h⟩) | h
  · exact .inl (.inl (e _ _ h))
  · exact .inl (.inr ⟨o, e _ _ h⟩)
  · exact .inr h
mutual
theorem dp_mono (e : Same H H') : ∀ (d : PyData) (v : V), Dp K H v d → Dp K H' v d
  | .none, _, h => by cases h; exact .non
  | .bool b, _, h => by cases h; exact .bl b
  | .int i, _, h => by cases h; exact .int i
  | .str x, _, h => by cases h; exact .str x
  | .list ds, _, h => by
    cases h with
    | lst h1 h2 => exact .lst (e.seq h1) (dps_mono e ds _ h2)
  | .tuple ds, _, h => by
    cases h with
    | tup h1 h2 => exact .tup (sqT_same e h1) (dps_mono e ds _ h2)
  | .dict kvs, _, h => by
    cases h with
    | dct h1 h2 => exact .dct (e _ _ h1) h2
theorem dps_mono (e : Same H H') : ∀ (ds : List PyData) (vs : List V), DpAll K H vs ds → DpAll K H' vs ds
  | [], _, h => by cases h; exact .nil
  | d :: ds, _, h => by
    cases h with
    | cons h1 h2 => exact .cons (dp_mono e d _ h1) (dps_mono e ds _ h2)
end
/-! data without a list -/
mutual
def frz : PyData → Bool
  | .none => true
  | .bool _ => true
  | .int _ => true
  | .str _ => true
  | .list _ => false
  | .tuple ds => frzs ds
  | .dict _ => false
def frzs : List PyData → Bool
  | [] => true
  | d :: ds => frz d && frzs ds
end
mutual
theorem frz_mono (e : ∀ a xs, SqT K H a xs → SqT K H' a xs) : ∀ (d : PyData) (v : V), frz d = true → Dp K H v d → Dp K H' v d
  | .none, _, _, h => by cases h; exact .non
  | .bool b, _, _, h => by cases h; exact .bl b
  | .int i, _, _, h => by cases h; exact .int i
  | .str x, _, _, h => by cases h; exact .str x
  | .list ds, _, z, h => by simp [frz] at z
  | .tuple ds, _, z, h => by
    cases h with
    | tup h1 h2 => exact .tup (e _ _ h1) (frzs_mono e ds _ (by simpa [frz] using z) h2)
  | .dict kvs, _, z, h => by simp [frz] at z
theorem frzs_mono (e : ∀ a xs, SqT K H a xs → SqT K H' a xs) : ∀ (ds : List PyData) (vs : List V), frzs ds = true → DpAll K H vs ds → DpAll K H' vs ds
  | [], _, _, h => by cases h; exact .nil
  | d :: ds, _, z, h => by
    simp only [frzs, Bool.and_eq_true] at z
    cases h with
    | cons h1 h2 => exact .cons (frz_mono e d _ z.1 h1) (frzs_mono e ds _ z.2 h2)
end
mutual
theorem dp_l2 : ∀ (d : PyData) (v : V), d.canLay0 = true → Dp K H v d → L2.Dp K H v d
  | .none, _, _, h => by cases h; exact .non
  | .bool b, _, _, h => by cases h; exact .bl b
  | .int i, _, _, h => by cases h; exact .int i
  | .str x, _, _, h => by cases h; exact .str x
  | .list ds, _, z, h => by
    cases h with
    | lst h1 h2 => exact .lst h1 (dps_l2 ds _ (by simpa [PyData.canLay0] using z) h2)
  | .tuple ds, _, z, h => by
    cases h with
    | tup h1 h2 => exact .tup h1 (dps_l2 ds _ (by simpa [PyData.canLay0] using z) h2)
  | .dict kvs, _, z, h => by simp [PyData.canLay0] at z
theorem dps_l2 : ∀ (ds : List PyData) (vs : List V), PyData.canLayAll0 ds = true → DpAll K H vs ds → L2.DpAll K H vs ds
  | [], _, _, h => by cases h; exact .nil
  | d :: ds, _, z, h => by
    simp only [PyData.canLayAll0, Bool.and_eq_true] at z
    cases h with
    | cons h1 h2 => exact .cons (dp_l2 d _ z.1 h1) (dps_l2 ds _ z.2 h2)
end
theorem dp_sh {d : PyData} {v : V} (z : SeqAt.shaped d = true) (h : Dp K H v d) : L2.Dp K H v d := dp_l2 d v (SeqAt.canLay_of_shaped z) h
/-- a list that H tracks is changed: the tuples stand -/
theorem sqT_lst {l : Addr} {ys zs : List V} (h : H l = some (.lst ys)) : ∀ a xs, SqT K H a xs → SqT K (upd H l (.lst zs)) a xs := fun a xs q => by
  rcases q with (q | ⟨o, q⟩) | q
  · exact .inl (.inl (by rw [upd_ne (ne_of q h (by intro z; cases z))]; exact q))
  · exact .inl (.inr ⟨o, by rw [upd_ne (ne_of q h (by intro z; cases z))]; exact q⟩)
  · exact .inr q
theorem dps_len : ∀ {vs : List V} {ds : List PyData}, DpAll K H vs ds → vs.length = ds.length
  | _, _, .nil => rfl
  | _, _, .cons _ h => congrArg (· + 1) (dps_len h)
theorem dps_get : ∀ {vs : List V} {ds : List PyData} {i : Nat} {d : PyData}, DpAll K H vs ds → ds[i]? = some d → ∃ v, vs[i]? = some v ∧ Dp K H v d
  | _, _, _, _, .nil, e => by simp at e
  | _, _, 0, _, .cons h _, e => by simp at e; subst e; exact ⟨_, rfl, h⟩
  | _, _, i + 1, d, .cons _ h, e => by
    obtain ⟨v, h1, h2⟩ := dps_get (i := i) (d := d) h (by simpa using e)
    exact ⟨v, by simpa using h1, h2⟩
theorem dps_getv : ∀ {vs : List V} {ds : List PyData} {i : Nat} {v : V}, DpAll K H vs ds → vs[i]? = some v → ∃ d, ds[i]? = some d ∧ Dp K H v d
  | _, _, _, _, .nil, e => by simp at e
  | _, _, 0, _, .cons h _, e => by simp at e; subst e; exact ⟨_, rfl, h⟩
  | _, _, i + 1, d, .cons _ h, e => by
    obtain ⟨v, h1, h2⟩ := dps_getv (i := i) (v := d) h (by simpa using e)
    exact ⟨v, by simpa using h1, h2⟩
theorem dps_append : ∀ {vs us : List V} {ds es : List PyData}, DpAll K H vs ds → DpAll K H us es → DpAll K H (vs ++ us) (ds ++ es)
  | _, _, _, _, .nil, h => h
  | _, _, _, _, .cons h t, s => .cons h (dps_append t s)
theorem dps_take : ∀ {vs : List V} {ds : List PyData} (n : Nat), DpAll K H vs ds → DpAll K H (vs.take n) (ds.take n)
  | _, _, 0, _ => .nil
  | _, _, _ + 1, .nil => .nil
  | _, _, n + 1, .cons h t => .cons h (dps_take n t)
theorem dps_drop : ∀ {vs : List V} {ds : List PyData} (n : Nat), DpAll K H vs ds → DpAll K H (vs.drop n) (ds.drop n)
  | _, _, 0, h => h
  | _, _, _ + 1, .nil => .nil
  | _, _, n + 1, .cons _ t => dps_drop n t
theorem dps_set : ∀ {vs : List V} {ds : List PyData} {v : V} {d : PyData} (i : Nat), Dp K H v d → DpAll K H vs ds → DpAll K H (vs.set i v) (ds.set i d)
  | _, _, _, _, _, _, .nil => .nil
  | _, _, _, _, 0, h, .cons _ t => .cons h t
  | _, _, _, _, i + 1, h, .cons q t => .cons q (dps_set i h t)
theorem dps_ints : ∀ (ns : List Int), DpAll K H (ns.map V.int) (ns.map PyData.int)
  | [] => .nil
  | n :: ns => .cons (.int n) (dps_ints ns)
theorem dps_strs_of : ∀ {vs : List V} {xs : List Str}, DpAll K H vs (xs.map PyData.str) → vs = xs.map V.str
  | [], [], _ => rfl
  | _ :: _, [], h => by cases h
  | [], _ :: _, h => by cases h
  | v :: vs, x :: xs, h => by
    cases h with
    | cons h1 h2 =>
      cases h1
      rw [dps_strs_of h2]
      rfl
theorem dps_strs : ∀ (xs : List Str), DpAll K H (xs.map V.str) (xs.map PyData.str)
  | [] => .nil
  | n :: ns => .cons (.str n) (dps_strs ns)
theorem dps_bls_of : ∀ {vs : List V} {xs : List Bool}, DpAll K H vs (xs.map PyData.bool) → vs = xs.map V.bl
  | [], [], _ => rfl
  | _ :: _, [], h => by cases h
  | [], _ :: _, h => by cases h
  | v :: vs, x :: xs, h => by
    cases h with
    | cons h1 h2 =>
      cases h1
      rw [dps_bls_of h2]
      rfl
end
theorem same_new {H : Hp} {p : Addr} (h : H p = none) (o : HO) : Same H (upd H p o) := fun b u q => by rw [upd_ne (ne_of_none q h)]; exact q

/-! ### the values of the slots -/
def EnvR (K : PySem.W.Frag) (H : Hp) (σ : L2.St) (ρ : PEnv) : Prop := ρ.length = σ.length ∧ ∀ (i : Nat) (d : PyData), ρ[i]? = some (some d) → ∃ v, σ[i]? = some (some v) ∧ Dp K H v d
section
variable {K : PySem.W.Frag} {H H' : Hp} {σ : L2.St} {ρ : PEnv}
theorem EnvR.mono (e : Same H H') (h : EnvR K H σ ρ) : EnvR K H' σ ρ := ⟨h.1, fun i d q => by
  obtain ⟨v, a, b⟩ := h.2 i d q
  exact ⟨v, a, dp_mono e d v b⟩⟩
theorem EnvR.set {i : Nat} {v : V} {d : PyData} (h : EnvR K H σ ρ) (hv : Dp K H v d) : EnvR K H (σ.set i (some v)) (ρ.set i (some d)) := by
  refine ⟨by rw [List.length_set, List.length_set]; exact h.1, fun j e q => ?_⟩
  by_cases hj : i = j
  · subst hj
    have hl : i < ρ.length := by
      have z := (List.getElem?_eq_some_iff.mp q).1
      rw [List.length_set] at z
      exact z
    rw [List.getElem?_set_self hl] at q
    cases q
    exact ⟨v, List.getElem?_set_self (by rw [← h.1]; exact hl), hv⟩
  · rw [List.getElem?_set_ne hj] at q
    obtain ⟨u, a, b⟩ := h.2 j e q
    exact ⟨u, by rw [List.getElem?_set_ne hj]; exact a, b⟩
theorem EnvR.forget {i : Nat} (h : EnvR K H σ ρ) : EnvR K H (σ.set i none) (ρ.set i none) := by
  refine ⟨by rw [List.length_set, List.length_set]; exact h.1, fun j e q => ?_⟩
  by_cases hj : i = j
  · subst hj
    have hl : i < ρ.length := by
      have z := (List.getElem?_eq_some_iff.mp q).1
      rw [List.length_set] at z
      exact z
    rw [List.getElem?_set_self hl] at q
    cases q
  · rw [List.getElem?_set_ne hj] at q
    obtain ⟨u, a, b⟩ := h.2 j e q
    exact ⟨u, by rw [List.getElem?_set_ne hj]; exact a, b⟩
end
def startD (n : Nat) (ds : List PyData) : PEnv := ds.map some ++ List.replicate (n - ds.length) none
theorem envR_start {K : PySem.W.Frag} {H : Hp} {N : List Str} {vs : List V} {ds : List PyData} (h : DpAll K H vs ds) : EnvR K H (L2.start N vs) (startD N.length ds) := by
  have hl := dps_len h
  refine ⟨by simp [startD, L2.start, hl], fun i d q => ?_⟩
  unfold startD at q
  by_cases hi : i < ds.length
  · rw [List.getElem?_append_left (by simpa using hi), List.getElem?_map] at q
    cases e : ds[i]? with
    | none => rw [e] at q; cases q
    | some d' =>
      rw [e] at q
      cases q
      obtain ⟨v, a, b⟩ := dps_get h e
      refine ⟨v, ?_, b⟩
      unfold L2.start
      rw [List.getElem?_append_left (by simpa [hl] using hi), List.getElem?_map, a]
      rfl
  · rw [List.getElem?_append_right (by simpa using hi)] at q
    have z := List.mem_of_getElem? q
    have z2 := (List.mem_replicate.mp z).2
    cases z2

/-! ### readings -/
/-- at every later heap -/
abbrev fut (H : Hp) (p : Hp → Prop) : Prop := ∀ H', Same H H' → p H'
theorem fut.on {H H1 : Hp} {p : Hp → Prop} (h : fut H p) (s : Same H H1) : fut H1 p := fun H' s' => h H' (s.trans s')
def tD (K : PySem.W.Frag) (W : Wis) (f : SE) : TE := fun σ H Q => ∃ ρ, EnvR K H σ ρ ∧ (f ρ).post (fun d => fut H fun H' => ∀ v, Dp K H' v d → Q v H') fun n => fut H (W n)
def ttD (K : PySem.W.Frag) (W : Wis) (f : ST) : TT := fun σ H Q => ∃ ρ, EnvR K H σ ρ ∧ (f ρ).post (fun b => fut H fun H' => Q b H') fun n => fut H (W n)
def taD (K : PySem.W.Frag) (W : Wis) (f : SA) : TA := fun σ H Q => ∃ ρ, EnvR K H σ ρ ∧ (f ρ).post (fun ds => fut H fun H' => ∀ vs, DpAll K H' vs ds → Q vs H') fun n => fut H (W n)
def outP (K : PySem.W.Frag) (D : Ends) : Out → Hp → Prop
  | .nx ρ', H' => ∀ σ', EnvR K H' σ' ρ' → D.nx σ' H'
  | .rt d, H' => ∀ v, Dp K H' v d → D.rt v H'
  | .bk ρ', H' => ∀ σ', EnvR K H' σ' ρ' → D.bk σ' H'
  | .ct ρ', H' => ∀ σ', EnvR K H' σ' ρ' → D.ct σ' H'
def tsD (K : PySem.W.Frag) (W : Wis) (F : SS) : TS := fun D σ H => ∃ ρ, EnvR K H σ ρ ∧ (F ρ).post (fun o => fut H (outP K D o)) fun n => fut H (W n)

theorem pe_weak {X : Cx} {e : Expr} {t t' : TE} (h : PE X e t) (w : ∀ σ H Q, t' σ H Q → t σ H Q) : PE X e t' := ⟨fun pins s σ H Q I q => h.run pins s σ H Q I (w σ H Q q)⟩
theorem pt_weak {X : Cx} {e : Expr} {t t' : TT} (h : PT X e t) (w : ∀ σ H Q, t' σ H Q → t σ H Q) : PT X e t' := ⟨fun pins s σ H Q I q => h.run pins s σ H Q I (w σ H Q q)⟩
theorem pw_weak {X : Cx} {e : Expr} {t t' : TT} (h : PW X e t) (w : ∀ σ H Q, t' σ H Q → t σ H Q) : PW X e t' := ⟨fun wh pins s σ H Q I q => h.run wh pins s σ H Q I (w σ H Q q)⟩
theorem pa_weak {X : Cx} {es : List Expr} {t t' : TA} (h : PA X es t) (w : ∀ σ H Q, t' σ H Q → t σ H Q) : PA X es t' := ⟨fun pos pins s σ H Q I q => h.run pos pins s σ H Q I (w σ H Q q)⟩
theorem ps_weak {X : Cx} {st : Stmt} {t t' : TS} (h : PS X st t) (w : ∀ D σ H, t' D σ H → t D σ H) : PS X st t' := ⟨fun pins s σ H D I q => h.run pins s σ H D I (w D σ H q)⟩
theorem pss_weak {X : Cx} {st : List Stmt} {t t' : TS} (h : PSs X st t) (w : ∀ D σ H, t' D σ H → t D σ H) : PSs X st t' := ⟨fun pins s σ H D I q => h.run pins s σ H D I (w D σ H q)⟩

section
variable {K : PySem.W.Frag} {W : Wis} {σ : L2.St} {H : Hp} {ρ : PEnv} {β : Type} {p : β → Hp → Prop}
/-- what a part's reading asks, where more follows -/
theorem tD_then {f : SE} {g : PyData → Res β} (hE : EnvR K H σ ρ) (h : ((f ρ).bind g).post (fun b => fut H (p b)) fun n => fut H (W n)) :
    tD K W f σ H fun v H1 => ∃ d, Dp K H1 v d ∧ Same H H1 ∧ EnvR K H1 σ ρ ∧ (g d).post (fun b => fut H1 (p b)) fun n => fut H1 (W n) :=
  ⟨ρ, hE, (Res.post_bind.mp h).mono (fun d q H1 s v dv => ⟨d, dv, s, hE.mono s, q.mono (fun b r => r.on s) fun n r => r.on s⟩) fun n r => r⟩
theorem ttD_then {f : ST} {g : Bool → Res β} (hE : EnvR K H σ ρ) (h : ((f ρ).bind g).post (fun b => fut H (p b)) fun n => fut H (W n)) :
    ttD K W f σ H fun c H1 => Same H H1 ∧ EnvR K H1 σ ρ ∧ (g c).post (fun b => fut H1 (p b)) fun n => fut H1 (W n) :=
  ⟨ρ, hE, (Res.post_bind.mp h).mono (fun d q H1 s => ⟨s, hE.mono s, q.mono (fun b r => r.on s) fun n r => r.on s⟩) fun n r => r⟩
theorem taD_then {f : SA} {g : List PyData → Res β} (hE : EnvR K H σ ρ) (h : ((f ρ).bind g).post (fun b => fut H (p b)) fun n => fut H (W n)) :
    taD K W f σ H fun vs H1 => ∃ ds, DpAll K H1 vs ds ∧ Same H H1 ∧ EnvR K H1 σ ρ ∧ (g ds).post (fun b => fut H1 (p b)) fun n => fut H1 (W n) :=
  ⟨ρ, hE, (Res.post_bind.mp h).mono (fun d q H1 s v dv => ⟨d, dv, s, hE.mono s, q.mono (fun b r => r.on s) fun n r => r.on s⟩) fun n r => r⟩
theorem ttD_mono {f : ST} {Q Q' : Bool → Hp → Prop} (h : ttD K W f σ H Q) (w : ∀ v H', Q v H' → Q' v H') : ttD K W f σ H Q' := by
  obtain ⟨ρ, hE, q⟩ := h
  exact ⟨ρ, hE, q.mono (fun d r H' s => w _ _ (r H' s)) fun n r => r⟩
theorem taD_mono {f : SA} {Q Q' : List V → Hp → Prop} (h : taD K W f σ H Q) (w : ∀ v H', Q v H' → Q' v H') : taD K W f σ H Q' := by
  obtain ⟨ρ, hE, q⟩ := h
  exact ⟨ρ, hE, q.mono (fun d r H' s v dv => w _ _ (r H' s v dv)) fun n r => r⟩
/-- a reading's wish may be weakened -/
theorem tD_mono {f : SE} {Q Q' : VK} (h : tD K W f σ H Q) (w : ∀ v H', Q v H' → Q' v H') : tD K W f σ H Q' := by
  obtain ⟨ρ, hE, q⟩ := h
  exact ⟨ρ, hE, q.mono (fun d r H' s v dv => w _ _ (r H' s v dv)) fun n r => r⟩
end
end DL

set_option Elab.async false
set_option linter.all false
set_option maxRecDepth 100000
set_option maxHeartbeats 2000000
namespace DL
open PySem L2 PyProof.Rows

/-! ### operations on data -/
/-- the greatest length that is asked anywhere -/
def big : Nat := 1000000
theorem big_line : big ≤ sizeLine := by rw [sizeLine_eq]; decide
def addD : PyData → PyData → Option PyData
  | .int i, .int j => some (.int (i + j))
  | .str a, .str b => if a.length + b.length ≤ big then some (.str (a ++ b)) else none
  | .list a, .list b => if a.length + b.length ≤ big then some (.list (a ++ b)) else none
  | .tuple a, .tuple b => if a.length + b.length ≤ big then some (.tuple (a ++ b)) else none
  | _, _ => none
def subD : PyData → PyData → Option PyData
  | .int i, .int j => some (.int (i - j))
  | _, _ => none
def small64 (i : Int) : Bool := decide (i.natAbs < 18446744073709551616)
def mulD : PyData → PyData → Option PyData
  | .int i, .int j => if small64 i || small64 j then some (.int (i * j)) else none
  | _, _ => none
def divD : PyData → PyData → Option PyData
  | .int i, .int j => if 0 < j ∧ j < 1073741824 then some (.int (i / j)) else none
  | _, _ => none
def modD : PyData → PyData → Option PyData
  | .int i, .int j => if 0 < j then some (.int (i % j)) else none
  | _, _ => none
def powD : PyData → PyData → Option PyData
  | .int i, .int j => if 0 ≤ j ∧ j ≤ 1000000 ∧ i.natAbs < 2 ^ 64 then some (.int (i ^ j.toNat)) else none
  | _, _ => none
def eqD : PyData → PyData → Option PyData
  | .int i, .int j => some (.bool (i == j))
  | .str i, .str j => some (.bool (i == j))
  | d, e => if SeqAt.shaped d && SeqAt.shaped e then some (.bool (PyData.eqv d e)) else none
def neD (d e : PyData) : Option PyData := match eqD d e with
  | some (.bool b) => some (.bool (!b))
  | _ => none
def ltD : PyData → PyData → Option PyData
  | .int i, .int j => some (.bool (decide (i < j)))
  | .str i, .str j => some (.bool (decide (i.cps.toList < j.cps.toList)))
  | _, _ => none
def leD : PyData → PyData → Option PyData
  | .int i, .int j => some (.bool (decide (i ≤ j)))
  | _, _ => none
def gtD : PyData → PyData → Option PyData
  | .int i, .int j => some (.bool (decide (j < i)))
  | _, _ => none
def geD : PyData → PyData → Option PyData
  | .int i, .int j => some (.bool (decide (j ≤ i)))
  | _, _ => none
def inD : PyData → PyData → Option PyData
  | d, .list ds => if SeqAt.shaped d && SeqAt.shaped (.list ds) then some (.bool (ds.any fun z => PyData.eqv z d)) else none
  | d, .tuple ds => if SeqAt.shaped d && SeqAt.shaped (.tuple ds) then some (.bool (ds.any fun z => PyData.eqv z d)) else none
  | .str c, .str z => if c.length = 1 then some (.bool (decide (c.cps.toList.headD 0 ∈ z.cps.toList))) else none
  | _, _ => none
def notInD (d e : PyData) : Option PyData := match inD d e with
  | some (.bool b) => some (.bool (!b))
  | _ => none
def isNon : PyData → Bool
  | .none => true
  | _ => false
/-- is None, is True, is False -/
def isD : PyData → PyData → Option PyData
  | d, .none => some (.bool (isNon d))
  | .bool a, .bool b => some (.bool (a == b))
  | _, _ => none
def isNotD (d e : PyData) : Option PyData := match isD d e with
  | some (.bool b) => some (.bool (!b))
  | _ => none

/-- a two-place operation, by data -/
def rD (K : PySem.W.Frag) (g : PyData → PyData → Option PyData) : R2 := fun x y H Q => ∃ d e r, Dp K H x d ∧ Dp K H y e ∧ g d e = some r ∧ fut H fun H' => ∀ v, Dp K H' v r → Q v H'
section
variable {X : Cx}
theorem opR_flat {f : Value → Value → Sem Value} {g : PyData → PyData → Option PyData} (h : ∀ (pins : List (Addr × Obj)) (s : Shared) (σ : L2.St) (H : Hp) (x y : V) (v u : Value) (Q : VK) (d e r : PyData), Inv X pins σ H s → RelV x v → RelV y u →
    Dp X.K H x d → Dp X.K H y e → g d e = some r → (fut H fun H' => ∀ v, Dp X.K H' v r → Q v H') → wpAny (model X.prog X.w) X.A (f v u) (EP X pins σ Q) X.xe s) : OpR X f (rD X.K g) := by
  intro pins s σ H x y v u Q I rx ry ⟨d, e, r, hd, he, hg, q⟩
  exact h pins s σ H x y v u Q d e r I rx ry hd he hg q
theorem fut.now {H : Hp} {p : Hp → Prop} (h : fut H p) : p H := h H (Same.refl H)

theorem od_add : OpR X (binaryOp .Add) (rD X.K addD) := opR_flat fun pins s σ H x y v u Q d e r I rx ry hd he hg q => by
  cases d <;> cases e <;> simp only [addD, reduceCtorEq] at hg
  case int.int i j =>
    cases hg; cases hd; cases he
    exact op_add pins s σ H _ _ v u Q I rx ry ⟨i, j, rfl, rfl, q.now _ (.int _)⟩
  case str.str a b =>
    split at hg <;> cases hg
    cases hd; cases he
    exact op_add_str pins s σ H _ _ v u Q I rx ry ⟨a, b, rfl, rfl, Nat.le_trans (by assumption) big_line, q.now _ (.str _)⟩
  case tuple.tuple a b =>
    split at hg <;> cases hg
    rename_i hz
    cases hd with
    | tup h1 h2 =>
      cases he with
      | tup h3 h4 =>
        refine op_catA pins s σ H _ _ v u Q I rx ry ⟨_, _, _, _, rfl, rfl, h1, h3, by rw [dps_len h2, dps_len h4]; exact Nat.le_trans hz big_line, fun e => ?_, fun _ e => ?_, fun _ _ p hp => ?_⟩
        · subst e
          cases h2
          exact q.now _ (.tup h3 h4)
        · subst e
          cases h4
          rw [List.append_nil] at q
          exact q.now _ (.tup h1 h2)
        · exact q _ (same_new hp _) _ (.tup (SqT.of upd_same) (dps_mono (same_new hp _) _ _ (dps_append h2 h4)))
  case list.list a b =>
    split at hg <;> cases hg
    rename_i hz
    cases hd with
    | lst h1 h2 =>
      cases he with
      | lst h3 h4 =>
        cases rx
        cases ry
        obtain ⟨its, r1, ⟨⟨cls, dd, data, sl⟩, n, e1, hc, hdn, hdt⟩, z1⟩ := I.list h1
        obtain ⟨its2, r2, ⟨⟨cls2, dd2, data2, sl2⟩, n2, e2, hc2, hdn2, hdt2⟩, z2⟩ := I.list h3
        simp only at hc hdt hc2 hdt2 hdn hdn2
        subst hc hdt hc2 hdt2 hdn hdn2
        have hl1 := r1.length
        have hl2 := r2.length
        have hb := big_line
        have hd1 := dps_len h2
        have hd2 := dps_len h4
        have ea : its.toArray ++ its2.toArray = (its ++ its2).toArray := by simp
        refine concat_meets ⟨_, e1, rfl⟩ ⟨_, e2, rfl⟩ noFill_list_add seq_list_add PySem.F.slot_list_add PySem.F.entry_list_add (PySem.F.args_list_add_2 _ _)
          (list_addW _ _ its.toArray its2.toArray n n2 none none sl sl2 (by rw [List.size_toArray, List.size_toArray]; omega)) ⟨e1, e2, ?_⟩
        rw [ea]
        refine ⟨.ref _, _, I.lnew (t' := s.toks) (r1.append r2) (by rw [List.length_append]; omega), rfl, ?_⟩
        exact q _ (same_new I.fresh _) _ (.lst (SqL.of upd_same) (dps_mono (same_new I.fresh _) _ _ (dps_append h2 h4)))
theorem od_sub : OpR X (binaryOp .Sub) (rD X.K subD) := opR_flat fun pins s σ H x y v u Q d e r I rx ry hd he hg q => by
  cases d <;> cases e <;> simp only [subD, reduceCtorEq] at hg
  case int.int i j =>
    cases hg; cases hd; cases he
    exact op_sub pins s σ H _ _ v u Q I rx ry ⟨i, j, rfl, rfl, q.now _ (.int _)⟩
theorem od_mul : OpR X (binaryOp .Mult) (rD X.K mulD) := opR_flat fun pins s σ H x y v u Q d e r I rx ry hd he hg q => by
  cases d <;> cases e <;> simp only [mulD, reduceCtorEq] at hg
  case int.int i j =>
    split at hg <;> cases hg
    rename_i hz
    cases hd; cases he
    refine op_mul pins s σ H _ _ v u Q I rx ry ⟨i, j, rfl, rfl, ?_, q.now _ (.int _)⟩
    simp only [small64, Bool.or_eq_true, decide_eq_true_eq] at hz
    rcases hz with hz | hz
    · exact .inl (by omega)
    · exact .inr (by omega)
theorem od_div : OpR X (binaryOp .FloorDiv) (rD X.K divD) := opR_flat fun pins s σ H x y v u Q d e r I rx ry hd he hg q => by
  cases d <;> cases e <;> simp only [divD, reduceCtorEq] at hg
  case int.int i j =>
    split at hg <;> cases hg
    rename_i hz
    cases hd; cases he
    exact op_fdiv pins s σ H _ _ v u Q I rx ry ⟨i, j, rfl, rfl, hz, q.now _ (.int _)⟩
theorem od_mod : OpR X (binaryOp .Mod) (rD X.K modD) := opR_flat fun pins s σ H x y v u Q d e r I rx ry hd he hg q => by
  cases d <;> cases e <;> simp only [modD, reduceCtorEq] at hg
  case int.int i j =>
    split at hg <;> cases hg
    rename_i hz
    cases hd; cases he
    exact op_mod pins s σ H _ _ v u Q I rx ry ⟨i, j, rfl, rfl, hz, q.now _ (.int _)⟩
theorem od_pow : OpR X (binaryOp .Pow) (rD X.K powD) := opR_flat fun pins s σ H x y v u Q d e r I rx ry hd he hg q => by
  cases d <;> cases e <;> simp only [powD, reduceCtorEq] at hg
  case int.int i j =>
    split at hg <;> cases hg
    rename_i hz
    cases hd; cases he
    exact op_pow pins s σ H _ _ v u Q I rx ry ⟨i, j, rfl, rfl, hz, q.now _ (.int _)⟩
theorem od_eq (hu : X.A.units + 64 < cLine) : OpR X (compareOp .Eq) (rD X.K eqD) := opR_flat fun pins s σ H x y v u Q d e r I rx ry hd he hg q => by
  have gen : (if SeqAt.shaped d && SeqAt.shaped e then some (PyData.bool (PyData.eqv d e)) else none) = some r → wpAny (model X.prog X.w) X.A (compareOp .Eq v u) (EP X pins σ Q) X.xe s := fun hg => by
    split at hg <;> cases hg
    rename_i hz
    rw [Bool.and_eq_true] at hz
    exact op_eqD hu pins s σ H _ _ v u Q I rx ry ⟨d, e, dp_sh hz.1 hd, dp_sh hz.2 he, hz.1, hz.2, q.now _ (.bl _)⟩
  cases d <;> cases e <;> first | exact gen hg | skip
  case str.str i j =>
    simp only [eqD] at hg
    cases hg; cases hd; cases he
    exact op_eq pins s σ H _ _ v u Q I rx ry ⟨rfl, by rw [dec_str]; exact q.now _ (.bl _)⟩
theorem od_ne (hu : X.A.units + 64 < cLine) : OpR X (compareOp .NotEq) (rD X.K neD) := opR_flat fun pins s σ H x y v u Q d e r I rx ry hd he hg q => by
  have gen : neD d e = (match (if SeqAt.shaped d && SeqAt.shaped e then some (PyData.bool (PyData.eqv d e)) else none) with | some (.bool b) => some (.bool (!b)) | _ => none) → wpAny (model X.prog X.w) X.A (compareOp .NotEq v u) (EP X pins σ Q) X.xe s := fun hh => by
    rw [hh] at hg
    split at hg
    · rename_i b hb
      cases hg
      split at hb <;> cases hb
      rename_i hz
      rw [Bool.and_eq_true] at hz
      exact op_neD hu pins s σ H _ _ v u Q I rx ry ⟨d, e, dp_sh hz.1 hd, dp_sh hz.2 he, hz.1, hz.2, q.now _ (.bl _)⟩
    · cases hg
  cases d <;> cases e <;> first | exact gen rfl | skip
  case str.str i j =>
    simp only [neD, eqD] at hg
    cases hg; cases hd; cases he
    exact op_ne pins s σ H _ _ v u Q I rx ry ⟨rfl, by rw [dec_str]; exact q.now _ (.bl _)⟩
theorem od_lt : OpR X (compareOp .Lt) (rD X.K ltD) := opR_flat fun pins s σ H x y v u Q d e r I rx ry hd he hg q => by
  cases d <;> cases e <;> simp only [ltD, reduceCtorEq] at hg
  case int.int i j =>
    cases hg; cases hd; cases he
    exact op_lt pins s σ H _ _ v u Q I rx ry ⟨i, j, rfl, rfl, q.now _ (.bl _)⟩
  case str.str i j =>
    cases hg; cases hd; cases he
    exact op_lt_str pins s σ H _ _ v u Q I rx ry ⟨i, j, rfl, rfl, q.now _ (.bl _)⟩
theorem od_le : OpR X (compareOp .LtE) (rD X.K leD) := opR_flat fun pins s σ H x y v u Q d e r I rx ry hd he hg q => by
  cases d <;> cases e <;> simp only [leD, reduceCtorEq] at hg
  case int.int i j =>
    cases hg; cases hd; cases he
    exact op_le pins s σ H _ _ v u Q I rx ry ⟨i, j, rfl, rfl, q.now _ (.bl _)⟩
theorem od_gt : OpR X (compareOp .Gt) (rD X.K gtD) := opR_flat fun pins s σ H x y v u Q d e r I rx ry hd he hg q => by
  cases d <;> cases e <;> simp only [gtD, reduceCtorEq] at hg
  case int.int i j =>
    cases hg; cases hd; cases he
    exact op_gt pins s σ H _ _ v u Q I rx ry ⟨i, j, rfl, rfl, q.now _ (.bl _)⟩
theorem od_ge : OpR X (compareOp .GtE) (rD X.K geD) := opR_flat fun pins s σ H x y v u Q d e r I rx ry hd he hg q => by
  cases d <;> cases e <;> simp only [geD, reduceCtorEq] at hg
  case int.int i j =>
    cases hg; cases hd; cases he
    exact op_ge pins s σ H _ _ v u Q I rx ry ⟨i, j, rfl, rfl, q.now _ (.bl _)⟩
theorem in_core (hu : X.A.units + 65 < cLine) (neg : Bool) {pins : List (Addr × Obj)} {s : Shared} {σ : L2.St} {H : Hp} {x y : V} {v u : Value} {Q : VK} {d e : PyData} {b : Bool} (I : Inv X pins σ H s) (rx : RelV x v) (ry : RelV y u)
    (hd : Dp X.K H x d) (he : Dp X.K H y e) (hg : inD d e = some (.bool b)) (q : Q (.bl (if neg then !b else b)) H) : wpAny (model X.prog X.w) X.A (compareOp (if neg then .NotIn else .In) v u) (EP X pins σ Q) X.xe s := by
  unfold inD at hg
  split at hg
  · split at hg <;> cases hg
    rename_i hz
    rw [Bool.and_eq_true] at hz
    cases neg
    · exact op_inD hu pins s σ H _ _ v u Q I rx ry ⟨_, _, dp_sh hz.1 hd, dp_sh hz.2 he, hz.1, hz.2, q⟩
    · exact op_notInD hu pins s σ H _ _ v u Q I rx ry ⟨_, _, dp_sh hz.1 hd, dp_sh hz.2 he, hz.1, hz.2, q⟩
  · split at hg <;> cases hg
    rename_i hz
    rw [Bool.and_eq_true] at hz
    obtain ⟨as, r1⟩ := L2.Dp.reads I _ x v (dp_sh hz.1 hd) rx
    obtain ⟨bs, r2⟩ := L2.Dp.reads I _ y u (dp_sh hz.2 he) ry
    cases neg
    · exact SeqAt.in_tuple_reads r2 r1 (SeqAt.canLay_of_shaped hz.2) (SeqAt.canLay_of_shaped hz.1) (room_in_shaped hz.1 hu) ⟨.bl _, H, I, rfl, q⟩
    · exact SeqAt.notIn_tuple_reads r2 r1 (SeqAt.canLay_of_shaped hz.2) (SeqAt.canLay_of_shaped hz.1) (room_in_shaped hz.1 hu) ⟨.bl _, H, I, rfl, q⟩
  · split at hg <;> cases hg
    rename_i c z hz
    cases hd; cases he
    obtain ⟨⟨l⟩⟩ := c
    match l, hz with
    | [k], _ =>
      cases neg
      · exact op_in_sign pins s σ H _ _ v u Q I rx ry ⟨k, z, rfl, rfl, q⟩
      · exact op_notIn_sign pins s σ H _ _ v u Q I rx ry ⟨k, z, rfl, rfl, q⟩
  · cases hg
theorem inD_bool {d e r : PyData} (h : inD d e = some r) : ∃ b, r = .bool b := by
  unfold inD at h
  split at h
  · split at h <;> cases h; exact ⟨_, rfl⟩
  · split at h <;> cases h; exact ⟨_, rfl⟩
  · split at h <;> cases h; exact ⟨_, rfl⟩
  · cases h
theorem od_in (hu : X.A.units + 65 < cLine) : OpR X (compareOp .In) (rD X.K inD) := opR_flat fun pins s σ H x y v u Q d e r I rx ry hd he hg q => by
  obtain ⟨b, rfl⟩ := inD_bool hg
  exact in_core hu false I rx ry hd he hg (q.now _ (.bl _))
theorem od_notIn (hu : X.A.units + 65 < cLine) : OpR X (compareOp .NotIn) (rD X.K notInD) := opR_flat fun pins s σ H x y v u Q d e r I rx ry hd he hg q => by
  unfold notInD at hg
  split at hg
  · rename_i b hb
    cases hg
    exact in_core hu true I rx ry hd he hb (q.now _ (.bl _))
  · cases hg
theorem dp_non_iff {K : PySem.W.Frag} {H : Hp} {v : V} {d : PyData} (h : Dp K H v d) : decide (v = .non) = isNon d := by
  cases h <;> rfl
theorem od_is : OpR X (compareOp .Is) (rD X.K isD) := opR_flat fun pins s σ H x y v u Q d e r I rx ry hd he hg q => by
  unfold isD at hg
  split at hg
  · cases hg; cases he
    exact op_isN pins s σ H _ _ v u Q I rx ry ⟨rfl, by rw [dp_non_iff hd]; exact q.now _ (.bl _)⟩
  · cases hg; cases hd; cases he
    exact op_is_bl pins s σ H _ _ v u Q I rx ry ⟨_, _, rfl, rfl, by rw [← Bool.beq_eq_decide_eq]; exact q.now _ (.bl _)⟩
  · cases hg
theorem od_isNot : OpR X (compareOp .IsNot) (rD X.K isNotD) := opR_flat fun pins s σ H x y v u Q d e r I rx ry hd he hg q => by
  unfold isNotD isD at hg
  split at hg
  · rename_i b hb
    cases hg
    split at hb
    · cases hb; cases he
      exact op_notN pins s σ H _ _ v u Q I rx ry ⟨rfl, by rw [dp_non_iff hd]; exact q.now _ (.bl _)⟩
    · cases hb; cases hd; cases he
      exact op_isnot_bl pins s σ H _ _ v u Q I rx ry ⟨_, _, rfl, rfl, by rw [← Bool.beq_eq_decide_eq]; exact q.now _ (.bl _)⟩
    · cases hb
  · cases hg
end
end DL

set_option Elab.async false
set_option linter.all false
set_option maxRecDepth 100000
set_option maxHeartbeats 2000000
namespace DL
open PySem L2 PyProof.Rows

/-! ### the functions that expressions are read as -/
def eVar (i : Nat) : SE := fun ρ => match ρ[i]? with
  | some (some d) => .ok d
  | _ => .bad
def eC (d : PyData) : SE := fun _ => .ok d
def eOp (g : PyData → PyData → Option PyData) (f h : SE) : SE := fun ρ => (f ρ).bind fun x => (h ρ).bind fun y => Res.of (g x y)
/-- of one value -/
def eUn (g : PyData → Option PyData) (f : SE) : SE := fun ρ => (f ρ).bind fun x => Res.of (g x)
/-- of an argument list -/
def eArgs (g : List PyData → Option PyData) (f : SA) : SE := fun ρ => (f ρ).bind fun xs => Res.of (g xs)
def eCall (g : List PyData → Res PyData) (f : SA) : SE := fun ρ => (f ρ).bind g
def truth : PyData → Option Bool
  | .bool b => some b
  | _ => none
def asT (f : SE) : ST := fun ρ => (f ρ).bind fun x => Res.of (truth x)
/-- the truth of any value -/
def truthy : PyData → Option Bool
  | .none => some false
  | .bool b => some b
  | .int i => some (i != 0)
  | .str s => if s.length ≤ big then some ((s.length : Int) != 0) else none
  | .list xs => some (!xs.isEmpty)
  | .tuple xs => some (!xs.isEmpty)
  | .dict _ => none
def asTru (f : SE) : ST := fun ρ => (f ρ).bind fun x => Res.of (truthy x)
def tAnd (t u : ST) : ST := fun ρ => (t ρ).bind fun b => if b then u ρ else .ok false
def tOr (t u : ST) : ST := fun ρ => (t ρ).bind fun b => if b then .ok true else u ρ
def tNot (t : ST) : ST := fun ρ => (t ρ).bind fun b => .ok (!b)
def eAnd (f g : SE) : SE := fun ρ => (f ρ).bind fun x => (Res.of (truth x)).bind fun b => if b then g ρ else .ok (.bool false)
def eOr (f g : SE) : SE := fun ρ => (f ρ).bind fun x => (Res.of (truth x)).bind fun b => if b then .ok (.bool true) else g ρ
def eNot (f : SE) : SE := fun ρ => (f ρ).bind fun x => (Res.of (truth x)).bind fun b => .ok (.bool (!b))
def eChain (g h : PyData → PyData → Option PyData) (a b c : SE) : SE := fun ρ => (a ρ).bind fun x => (b ρ).bind fun y => (Res.of (g x y)).bind fun z => (Res.of (truth z)).bind fun k =>
  if k then (c ρ).bind fun w => Res.of (h y w) else .ok (.bool false)
def aNil : SA := fun _ => .ok []
def aCons (f : SE) (g : SA) : SA := fun ρ => (f ρ).bind fun x => (g ρ).bind fun xs => .ok (x :: xs)
def eTup (f : SA) : SE := fun ρ => (f ρ).bind fun xs => if xs.length ≤ big then .ok (.tuple xs) else .bad
def eLst (f : SA) : SE := fun ρ => (f ρ).bind fun xs => if xs.length ≤ big then .ok (.list xs) else .bad
def oNone : PEnv → Res (Option Int) := fun _ => .ok none
def oSome (f : SE) : PEnv → Res (Option Int) := fun ρ => (f ρ).bind fun x => match x with
  | .int i => .ok (some i)
  | _ => .bad
def cutP {α : Type} (xs : List α) (lo hi : Option Int) : List α := (xs.drop (HT.sIx xs.length 0 lo)).take (HT.sIx xs.length xs.length hi - HT.sIx xs.length 0 lo)
def cutD (lo hi : Option Int) : PyData → Option PyData
  | .list xs => some (.list (cutP xs lo hi))
  | .tuple xs => some (.tuple (cutP xs lo hi))
  | .str z => if z.length ≤ big then some (.str (cutS z lo hi)) else none
  | _ => none
def eCut (f : SE) (l u : PEnv → Res (Option Int)) : SE := fun ρ => (f ρ).bind fun x => (l ρ).bind fun lo => (u ρ).bind fun hi => Res.of (cutD lo hi x)
def ixD : PyData → PyData → Option PyData
  | .list xs, .int i => atI xs i
  | .tuple xs, .int i => atI xs i
  | .str z, .int i => if z.length ≤ big then (atI z.cps.toList i).map fun c => .str ⟨#[c]⟩ else none
  | _, _ => none
def lenD : List PyData → Option PyData
  | [.list xs] => some (.int xs.length)
  | [.tuple xs] => some (.int xs.length)
  | [.str z] => if z.length ≤ big then some (.int z.length) else none
  | _ => none
def listD : List PyData → Option PyData
  | [.list xs] => some (.list xs)
  | [.tuple xs] => some (.list xs)
  | _ => none
def tupleD : List PyData → Option PyData
  | [.list xs] => some (.tuple xs)
  | [.tuple xs] => some (.tuple xs)
  | _ => none
def intD : List PyData → Option PyData
  | [.int i] => some (.int i)
  | [.bool b] => some (.int (if b then 1 else 0))
  | _ => none
def max2D : List PyData → Option PyData
  | [.int i, .int j] => some (.int (if j > i then j else i))
  | _ => none
def min2D : List PyData → Option PyData
  | [.int i, .int j] => some (.int (if j < i then j else i))
  | _ => none
def bools : List PyData → Option (List Bool)
  | [] => some []
  | .bool b :: r => (bools r).map (b :: ·)
  | _ :: _ => none
def strsOf : List PyData → Option (List Str)
  | [] => some []
  | .str b :: r => (strsOf r).map (b :: ·)
  | _ :: _ => none
def allD : List PyData → Option PyData
  | [.list xs] => (bools xs).map fun bs => .bool (bs.all id)
  | _ => none
def tyN : PyData → String
  | .none => "NoneType"
  | .bool _ => "bool"
  | .int _ => "int"
  | .str _ => "str"
  | .list _ => "list"
  | .tuple _ => "tuple"
  | .dict _ => "dict"
/-- isinstance(x, T) -/
def isiD (T : String) : PyData → Option PyData
  | .none => some (.bool false)
  | .bool _ => some (.bool (T == "bool" || T == "int"))
  | .int _ => some (.bool (T == "int"))
  | .str _ => some (.bool (T == "str"))
  | .list _ => some (.bool (T == "list"))
  | .tuple _ => some (.bool (T == "tuple"))
  | .dict _ => none

section
variable {X : Cx} {W : Wis} {a b c : Expr} {pos : Pos}
theorem ed_var {i : Nat} {x : Str} (hN : X.N[i]? = some x := by rfl) (hv : Vis X.env.scope x := by first | exact Or.inl rfl | exact Or.inr (Or.inl rfl) | exact Or.inr (Or.inr rfl)) (hd : (x == ("__debug__" : Str)) = false := by decide)
    (hcd : (x == ("__classdict__" : Str)) = false := by decide) : PE X (.Name x pos) (tD X.K W (eVar i)) := pe_weak (pe_var (i := i) hN hv hd hcd) fun σ H Q h => by
  obtain ⟨ρ, hE, q⟩ := h
  unfold eVar at q
  split at q
  · rename_i d e
    obtain ⟨v, h1, h2⟩ := hE.2 i d e
    exact ⟨v, h1, q _ (Same.refl H) v h2⟩
  · exact q.elim
theorem ed_int {i j} : PE X (.Constant (.int i) j pos) (tD X.K W (eC (.int i))) := pe_weak pe_int fun σ H Q ⟨ρ, hE, q⟩ => q _ (Same.refl H) _ (.int i)
theorem ed_bl {i j} : PE X (.Constant (.bool i) j pos) (tD X.K W (eC (.bool i))) := pe_weak pe_bl fun σ H Q ⟨ρ, hE, q⟩ => q _ (Same.refl H) _ (.bl i)
theorem ed_non {j} : PE X (.Constant .none j pos) (tD X.K W (eC .none)) := pe_weak pe_non fun σ H Q ⟨ρ, hE, q⟩ => q _ (Same.refl H) _ .non
theorem ed_str {i j} : PE X (.Constant (.str i) j pos) (tD X.K W (eC (.str i))) := pe_weak pe_str fun σ H Q ⟨ρ, hE, q⟩ => q _ (Same.refl H) _ (.str i)
/-- a constant of the module -/
structure GlD (K : PySem.W.Frag) (mg : Str → Option Value) (x : Str) (d : PyData) : Prop where
  at_ : ∃ v u, mg x = some u ∧ RelV v u ∧ ∀ H, Dp K H v d
theorem ed_glob {x : Str} {d : PyData} (g : GlD X.K X.mg x d) (hg : Gl X x := by rfl) (hd : (x == ("__debug__" : Str)) = false := by decide) : PE X (.Name x pos) (tD X.K W (eC d)) := by
  obtain ⟨v, u, hm, r, hD⟩ := g.at_
  exact pe_weak (pe_glob hg hm r hd) fun σ H Q ⟨ρ, hE, q⟩ => q _ (Same.refl H) _ (hD H)
/-- a two-place operation -/
theorem op_then {K : PySem.W.Frag} {g : PyData → PyData → Option PyData} {fa fb : SE} {σ : L2.St} {H : Hp} {Q : VK} (h : tD K W (eOp g fa fb) σ H Q) : tOp (rD K g) (tD K W fa) (tD K W fb) σ H Q := by
  obtain ⟨ρ, hE, q⟩ := h
  refine tD_mono (tD_then hE q) fun x H1 ⟨d, hx, s1, hE1, q1⟩ => ?_
  refine tD_mono (tD_then hE1 q1) fun y H2 ⟨e, hy, s2, hE2, q2⟩ => ?_
  obtain ⟨r, hr, q3⟩ := Res.post_of q2
  exact ⟨d, e, r, dp_mono s2 _ _ hx, hy, hr, q3⟩
theorem ed_op {op : Operator} {g : PyData → PyData → Option PyData} {fa fb : SE} (ho : OpR X (binaryOp op) (rD X.K g)) (ha : PE X a (tD X.K W fa)) (hb : PE X b (tD X.K W fb)) : PE X (.BinOp a op b pos) (tD X.K W (eOp g fa fb)) :=
  pe_weak (pe_op ho ha hb) fun σ H Q h => op_then h
theorem ed_cmp {op : CmpOp} {g : PyData → PyData → Option PyData} {fa fb : SE} (ho : OpR X (compareOp op) (rD X.K g)) (ha : PE X a (tD X.K W fa)) (hb : PE X b (tD X.K W fb)) (hm : behindInMarks op b = false := by first | exact nomark _ | rfl) :
    PE X (.Compare a [op] [b] pos) (tD X.K W (eOp g fa fb)) := pe_weak (pe_cmpR ho ha hb hm) fun σ H Q h => op_then h
/-- a value that is a truth -/
theorem asT_then {K : PySem.W.Frag} {f : SE} {σ : L2.St} {H : Hp} {Q : Bool → Hp → Prop} (h : ttD K W (asT f) σ H Q) : tD K W f σ H fun x H' => ∃ k, x = .bl k ∧ Q k H' := by
  obtain ⟨ρ, hE, q⟩ := h
  refine tD_mono (tD_then hE q) fun x H1 ⟨d, hx, s1, hE1, q1⟩ => ?_
  obtain ⟨k, hk, q2⟩ := Res.post_of q1
  cases d <;> simp only [truth, reduceCtorEq] at hk
  cases hk
  cases hx
  exact ⟨_, rfl, q2.now⟩
theorem td_cmp {op : CmpOp} {g : PyData → PyData → Option PyData} {fa fb : SE} (ho : OpR X (compareOp op) (rD X.K g)) (ha : PE X a (tD X.K W fa)) (hb : PE X b (tD X.K W fb)) (hm : behindInMarks op b = false := by first | exact nomark _ | rfl) :
    PT X (.Compare a [op] [b] pos) (ttD X.K W (asT (eOp g fa fb))) := by
  refine pt_weak (pt_cmpR ho ha hb hm) fun σ H Q h => ?_
  have h1 := asT_then h
  exact op_then h1
/-- a truth that an expression gives, not a comparison -/
theorem td_val {f : SE} (ha : PE X a (tD X.K W f)) (he : ∀ whole, isTrue a X.env whole = (do let v ← whole; standAt a.pos; holding [v] (PySem.truthy v)) := by intro _; rfl) : PT X a (ttD X.K W (asT f)) :=
  pt_weak (pt_val ha he) fun σ H Q h => asT_then h
theorem td_tru {f : SE} (ha : PE X a (tD X.K W f)) (he : ∀ whole, isTrue a X.env whole = (do let v ← whole; standAt a.pos; holding [v] (PySem.truthy v)) := by intro _; rfl) : PT X a (ttD X.K W (asTru f)) := by
  refine pt_weak (pt_truth ha he) fun σ H Q h => ?_
  obtain ⟨ρ, hE, q⟩ := h
  refine tD_mono (tD_then hE q) fun x H1 ⟨d, hx, s1, hE1, q1⟩ => ?_
  obtain ⟨k, hk, q2⟩ := Res.post_of q1
  refine ⟨k, ?_, q2.now⟩
  cases hx with
  | non => simp only [DL.truthy, Option.some.injEq] at hk; exact hk.symm
  | bl _ => simp only [DL.truthy, Option.some.injEq] at hk; exact hk.symm
  | int _ => simp only [DL.truthy, Option.some.injEq] at hk; exact hk.symm
  | str _ =>
    simp only [DL.truthy] at hk
    split at hk <;> cases hk
    rename_i hz
    exact ⟨Nat.le_trans hz big_line, rfl⟩
  | lst h1 h2 =>
    simp only [DL.truthy, Option.some.injEq] at hk
    subst hk
    refine .inl ⟨_, h1, ?_⟩
    cases h2 <;> rfl
  | tup h1 h2 =>
    simp only [DL.truthy, Option.some.injEq] at hk
    subst hk
    refine .inr (.inl ⟨_, h1, ?_⟩)
    cases h2 <;> rfl
  | dct h1 h2 => simp only [DL.truthy, reduceCtorEq] at hk
theorem td_and1 {t : ST} (ha : PT X a (ttD X.K W t)) : PW X (.BoolOp .And [a] pos) (ttD X.K W t) := pw_and1 ha
theorem td_or1 {t : ST} (ha : PT X a (ttD X.K W t)) : PW X (.BoolOp .Or [a] pos) (ttD X.K W t) := pw_or1 ha
theorem td_and {rest : List Expr} {t u : ST} (ha : PT X a (ttD X.K W t)) (hb : PW X (.BoolOp .And (b :: rest) pos) (ttD X.K W u)) : PW X (.BoolOp .And (a :: b :: rest) pos) (ttD X.K W (tAnd t u)) := by
  refine pw_weak (pw_and ha hb) fun σ H Q h => ?_
  obtain ⟨ρ, hE, q⟩ := h
  refine ttD_mono (ttD_then hE q) fun k H1 ⟨s1, hE1, q1⟩ => ?_
  cases k with
  | true => exact ⟨ρ, hE1, q1⟩
  | false => exact q1.now
theorem td_or {rest : List Expr} {t u : ST} (ha : PT X a (ttD X.K W t)) (hb : PW X (.BoolOp .Or (b :: rest) pos) (ttD X.K W u)) : PW X (.BoolOp .Or (a :: b :: rest) pos) (ttD X.K W (tOr t u)) := by
  refine pw_weak (pw_or ha hb) fun σ H Q h => ?_
  obtain ⟨ρ, hE, q⟩ := h
  refine ttD_mono (ttD_then hE q) fun k H1 ⟨s1, hE1, q1⟩ => ?_
  cases k with
  | true => exact q1.now
  | false => exact ⟨ρ, hE1, q1⟩
theorem td_not {t : ST} (ha : PT X a (ttD X.K W t)) : PT X (.UnaryOp .Not a pos) (ttD X.K W (DL.tNot t)) := by
  refine pt_weak (pt_not ha) fun σ H Q h => ?_
  obtain ⟨ρ, hE, q⟩ := h
  exact ttD_mono (ttD_then hE q) fun k H1 ⟨s1, hE1, q1⟩ => q1.now
theorem ed_one {op} {t : SE} (h : PE X a (tD X.K W t)) : PE X (.BoolOp op [a] pos) (tD X.K W t) := pe_one h
theorem ed_and {rest : List Expr} {f g : SE} (ha : PE X a (tD X.K W f)) (hb : PE X (.BoolOp .And (b :: rest) pos) (tD X.K W g)) : PE X (.BoolOp .And (a :: b :: rest) pos) (tD X.K W (eAnd f g)) := by
  refine pe_weak (pe_and ha hb) fun σ H Q h => ?_
  obtain ⟨ρ, hE, q⟩ := h
  refine tD_mono (tD_then hE q) fun x H1 ⟨d, hx, s1, hE1, q1⟩ => ?_
  obtain ⟨k, hk, q2⟩ := Res.post_of (Res.post_bind.mp q1)
  cases d <;> simp only [truth, reduceCtorEq] at hk
  cases hk
  cases hx
  refine ⟨_, rfl, ?_⟩
  cases k with
  | true => exact ⟨ρ, hE1, q2⟩
  | false => exact q2.now _ (.bl _)
theorem ed_or {rest : List Expr} {f g : SE} (ha : PE X a (tD X.K W f)) (hb : PE X (.BoolOp .Or (b :: rest) pos) (tD X.K W g)) : PE X (.BoolOp .Or (a :: b :: rest) pos) (tD X.K W (eOr f g)) := by
  refine pe_weak (pe_or ha hb) fun σ H Q h => ?_
  obtain ⟨ρ, hE, q⟩ := h
  refine tD_mono (tD_then hE q) fun x H1 ⟨d, hx, s1, hE1, q1⟩ => ?_
  obtain ⟨k, hk, q2⟩ := Res.post_of (Res.post_bind.mp q1)
  cases d <;> simp only [truth, reduceCtorEq] at hk
  cases hk
  cases hx
  refine ⟨_, rfl, ?_⟩
  cases k with
  | true => exact q2.now _ (.bl _)
  | false => exact ⟨ρ, hE1, q2⟩
theorem ed_not {f : SE} (ha : PE X a (tD X.K W f)) : PE X (.UnaryOp .Not a pos) (tD X.K W (eNot f)) := by
  refine pe_weak (pe_not ha) fun σ H Q h => ?_
  obtain ⟨ρ, hE, q⟩ := h
  refine tD_mono (tD_then hE q) fun x H1 ⟨d, hx, s1, hE1, q1⟩ => ?_
  obtain ⟨k, hk, q2⟩ := Res.post_of (Res.post_bind.mp q1)
  cases d <;> simp only [truth, reduceCtorEq] at hk
  cases hk
  cases hx
  exact ⟨_, rfl, q2.now _ (.bl _)⟩
/-! a op b op c -/
theorem chain_then {K : PySem.W.Frag} {g h : PyData → PyData → Option PyData} {fa fb fc : SE} {σ : L2.St} {H : Hp} {Q : VK} (q : tD K W (eChain g h fa fb fc) σ H Q) : tChain (rD K g) (rD K h) (tD K W fa) (tD K W fb) (tD K W fc) σ H Q := by
  obtain ⟨ρ, hE, q⟩ := q
  refine tD_mono (tD_then hE q) fun x H1 ⟨d, hx, s1, hE1, q1⟩ => ?_
  refine tD_mono (tD_then hE1 q1) fun y H2 ⟨e, hy, s2, hE2, q2⟩ => ?_
  obtain ⟨z, hz, q3⟩ := Res.post_of (Res.post_bind.mp q2)
  obtain ⟨k, hk, q4⟩ := Res.post_of (Res.post_bind.mp q3)
  cases z <;> simp only [truth, reduceCtorEq] at hk
  cases hk
  refine ⟨d, e, _, dp_mono s2 _ _ hx, hy, hz, fun H3 s3 v hv => ?_⟩
  cases hv
  refine ⟨k, rfl, ?_⟩
  cases k with
  | true =>
    have q5 := q4.mono (fun b r => r.on s3) (fun n r => r.on s3)
    refine iteT (tD_mono (tD_then (hE2.mono s3) q5) fun w H4 ⟨d4, hw, s4, hE4, q6⟩ => ?_)
    obtain ⟨r, hr, q7⟩ := Res.post_of q6
    exact ⟨e, d4, r, dp_mono (s3.trans s4) _ _ hy, hw, hr, q7⟩
  | false => exact iteF (q4 _ s3 _ (.bl _))
theorem ed_chain {op op' : CmpOp} {g h : PyData → PyData → Option PyData} {fa fb fc : SE} (ho : OpR X (compareOp op) (rD X.K g)) (ho' : OpR X (compareOp op') (rD X.K h)) (ha : PE X a (tD X.K W fa)) (hb : PE X b (tD X.K W fb)) (hc : PE X c (tD X.K W fc))
    (hm : lastMarks [op, op'] [b, c] = false := by with_unfolding_all rfl) : PE X (.Compare a [op, op'] [b, c] pos) (tD X.K W (eChain g h fa fb fc)) := pe_weak (pe_chain ho ho' ha hb hc hm) fun σ H Q q => chain_then q
theorem td_chain {op op' : CmpOp} {g h : PyData → PyData → Option PyData} {fa fb fc : SE} (ho : OpR X (compareOp op) (rD X.K g)) (ho' : OpR X (compareOp op') (rD X.K h)) (ha : PE X a (tD X.K W fa)) (hb : PE X b (tD X.K W fb)) (hc : PE X c (tD X.K W fc))
    (hm : lastMarks [op, op'] [b, c] = false := by with_unfolding_all rfl) : PT X (.Compare a [op, op'] [b, c] pos) (ttD X.K W (asT (eChain g h fa fb fc))) := pt_weak (pt_chain ho ho' ha hb hc hm) fun σ H Q q => chain_then (asT_then q)

/-! ### arguments, displays -/
theorem ad_nil : PA X [] (taD X.K W aNil) := pa_weak pa_nil fun σ H Q ⟨ρ, hE, q⟩ => q.now _ .nil
theorem ad_cons {es : List Expr} {f : SE} {g : SA} (ha : PE X a (tD X.K W f)) (hr : PA X es (taD X.K W g)) (hs : starEach (a :: es) X.env = (false, eval a X.env) :: starEach es X.env := by rfl) : PA X (a :: es) (taD X.K W (aCons f g)) := by
  refine pa_weak (pa_cons ha hr hs) fun σ H Q h => ?_
  obtain ⟨ρ, hE, q⟩ := h
  refine tD_mono (tD_then hE q) fun x H1 ⟨d, hx, s1, hE1, q1⟩ => ?_
  refine taD_mono (taD_then hE1 q1) fun xs H2 ⟨ds, hxs, s2, hE2, q2⟩ => ?_
  exact q2.now _ (.cons (dp_mono s2 _ _ hx) hxs)
theorem ed_tup {es : List Expr} {f : SA} {x1} (h : PA X es (taD X.K W f)) : PE X (.Tuple es x1 pos) (tD X.K W (eTup f)) := by
  refine pe_weak (pe_tup h) fun σ H Q h => ?_
  obtain ⟨ρ, hE, q⟩ := h
  refine taD_mono (taD_then hE q) fun xs H1 ⟨ds, hxs, s1, hE1, q1⟩ => ?_
  split at q1
  · rename_i hz
    exact ⟨by rw [dps_len hxs]; exact Nat.le_trans hz big_line, fun p hp => q1 _ (same_new hp _) _ (.tup (SqT.of upd_same) (dps_mono (same_new hp _) _ _ hxs))⟩
  · exact q1.elim
theorem ed_lst {es : List Expr} {f : SA} (h : PA X es (taD X.K W f)) : PE X (.List es pos) (tD X.K W (eLst f)) := by
  refine pe_weak (pe_lst h) fun σ H Q h => ?_
  obtain ⟨ρ, hE, q⟩ := h
  refine taD_mono (taD_then hE q) fun xs H1 ⟨ds, hxs, s1, hE1, q1⟩ => ?_
  split at q1
  · rename_i hz
    exact ⟨by rw [dps_len hxs]; exact Nat.le_trans hz big_line, fun p hp => q1 _ (same_new hp _) _ (.lst (SqL.of upd_same) (dps_mono (same_new hp _) _ _ hxs))⟩
  · exact q1.elim
theorem ed_ifExp {t : ST} {f g : SE} (hc : PT X c (ttD X.K W t)) (ha : PE X a (tD X.K W f)) (hb : PE X b (tD X.K W g)) : PE X (.IfExp c a b pos) (tD X.K W (fun ρ => (t ρ).bind fun k => if k then f ρ else g ρ)) := by
  refine pe_weak (pe_ifExp hc ha hb) fun σ H Q h => ?_
  obtain ⟨ρ, hE, q⟩ := h
  refine ttD_mono (ttD_then hE q) fun k H1 ⟨s1, hE1, q1⟩ => ?_
  cases k with
  | true => exact iteT ⟨ρ, hE1, q1⟩
  | false => exact iteF ⟨ρ, hE1, q1⟩

/-! ### subscripts, slices -/
theorem atI_dps {K : PySem.W.Frag} {H : Hp} {vs : List V} {ds : List PyData} {i : Int} {d : PyData} (h : DpAll K H vs ds) (e : atI ds i = some d) : ∃ v, atI vs i = some v ∧ Dp K H v d := by
  unfold atI at e ⊢
  rw [dps_len h]
  cases q : ixN ds.length i with
  | none => rw [q] at e; cases e
  | some j =>
    rw [q] at e
    exact dps_get h e
theorem ed_ix {fa fb : SE} (ha : PE X a (tD X.K W fa)) (hb : PE X b (tD X.K W fb)) (hs : PlainIx b := by exact fun _ _ => rfl) : PE X (.Subscript a b pos) (tD X.K W (eOp ixD fa fb)) := by
  refine pe_weak (pe_ix ix_seq ha hb hs) fun σ H Q h => ?_
  obtain ⟨ρ, hE, q⟩ := h
  refine tD_mono (tD_then hE q) fun x H1 ⟨d, hx, s1, hE1, q1⟩ => ?_
  refine tD_mono (tD_then hE1 q1) fun y H2 ⟨e, hy, s2, hE2, q2⟩ => ?_
  obtain ⟨r, hr, q3⟩ := Res.post_of q2
  have hx := dp_mono s2 _ _ hx
  rcases d with _ | dB | dI | z | dL | dT | dD <;> rcases e with _ | eB | i | eS | eL | eT | eD <;> simp only [ixD, reduceCtorEq] at hr
  case str.int =>
    split at hr
    · rename_i hz
      cases q : atI z.cps.toList i with
      | none => rw [q] at hr; cases hr
      | some k =>
        rw [q] at hr
        cases hr
        cases hx; cases hy
        exact .inr (.inr ⟨z, i, k, rfl, rfl, Nat.le_trans hz big_line, q, q3.now _ (.str _)⟩)
    · cases hr
  case list.int =>
    cases hy
    cases hx with
    | lst h1 h2 =>
      obtain ⟨v, hv, hd⟩ := atI_dps h2 hr
      exact .inl ⟨_, _, i, v, rfl, rfl, h1, hv, q3.now _ hd⟩
  case tuple.int =>
    cases hy
    cases hx with
    | tup h1 h2 =>
      obtain ⟨v, hv, hd⟩ := atI_dps h2 hr
      exact .inr (.inl ⟨_, _, i, v, rfl, rfl, h1, hv, q3.now _ hd⟩)
def toD (K : PySem.W.Frag) (W : Wis) (f : PEnv → Res (Option Int)) : TO := fun σ H Q => ∃ ρ, EnvR K H σ ρ ∧ (f ρ).post (fun o => fut H fun H' => Q o H') fun n => fut H (W n)
theorem toD_then {β : Type} {p : β → Hp → Prop} {K : PySem.W.Frag} {σ : L2.St} {H : Hp} {ρ : PEnv} {f : PEnv → Res (Option Int)} {g : Option Int → Res β} (hE : EnvR K H σ ρ) (h : ((f ρ).bind g).post (fun b => fut H (p b)) fun n => fut H (W n)) :
    toD K W f σ H fun c H1 => Same H H1 ∧ EnvR K H1 σ ρ ∧ (g c).post (fun b => fut H1 (p b)) fun n => fut H1 (W n) :=
  ⟨ρ, hE, (Res.post_bind.mp h).mono (fun d q H1 s => ⟨s, hE.mono s, q.mono (fun b r => r.on s) fun n r => r.on s⟩) fun n r => r⟩
theorem toD_mono {K : PySem.W.Frag} {σ : L2.St} {H : Hp} {f : PEnv → Res (Option Int)} {Q Q' : Option Int → Hp → Prop} (h : toD K W f σ H Q) (w : ∀ v H', Q v H' → Q' v H') : toD K W f σ H Q' := by
  obtain ⟨ρ, hE, q⟩ := h
  exact ⟨ρ, hE, q.mono (fun d r H' s => w _ _ (r H' s)) fun n r => r⟩
theorem po_weak {e : Option Expr} {t t' : TO} (h : PO X e t) (w : ∀ σ H Q, t' σ H Q → t σ H Q) : PO X e t' := ⟨fun pins s σ H Q I q => h.run pins s σ H Q I (w σ H Q q)⟩
theorem od_none : PO X none (toD X.K W oNone) := po_weak po_none fun σ H Q ⟨ρ, hE, q⟩ => q.now
theorem od_some {f : SE} (h : PE X a (tD X.K W f)) : PO X (some a) (toD X.K W (oSome f)) := by
  refine po_weak (po_some h) fun σ H Q h => ?_
  obtain ⟨ρ, hE, q⟩ := h
  refine tD_mono (tD_then hE q) fun x H1 ⟨d, hx, s1, hE1, q1⟩ => ?_
  cases hx <;> first | exact q1.elim | skip
  exact ⟨_, rfl, q1.now⟩
theorem sIx_bd (n d : Nat) (h : HT.sIx n 0 none = 0) : True := trivial
theorem dps_cut {K : PySem.W.Frag} {H : Hp} {vs : List V} {ds : List PyData} (lo hi : Option Int) (h : DpAll K H vs ds) : DpAll K H (cutV vs lo hi) (cutP ds lo hi) := by
  unfold cutV cutP
  rw [dps_len h]
  exact dps_take _ (dps_drop _ h)
theorem ed_cut {f : SE} {l u : PEnv → Res (Option Int)} {lo hi : Option Expr} {p2 : Pos} (ha : PE X a (tD X.K W f)) (hl : PO X lo (toD X.K W l)) (hu : PO X hi (toD X.K W u)) : PE X (.Subscript a (.Slice lo hi none p2) pos) (tD X.K W (eCut f l u)) := by
  refine pe_weak (pe_slice ((sl_list.or (sl_tupA.or sl_str))) ha hl hu) fun σ H Q h => ?_
  obtain ⟨ρ, hE, q⟩ := h
  refine tD_mono (tD_then hE q) fun x H1 ⟨d, hx, s1, hE1, q1⟩ => ?_
  refine toD_mono (toD_then hE1 q1) fun lo' H2 ⟨s2, hE2, q2⟩ => ?_
  refine toD_mono (toD_then hE2 q2) fun hi' H3 ⟨s3, hE3, q3⟩ => ?_
  obtain ⟨r, hr, q4⟩ := Res.post_of q3
  have hx := dp_mono (s2.trans s3) _ _ hx
  rcases d with _ | dB | dI | zS | zL | z | dD <;> simp only [cutD, reduceCtorEq] at hr
  case list =>
    cases hr
    cases hx with
    | lst h1 h2 => exact .inl ⟨_, _, rfl, h1, fun p hp => q4 _ (same_new hp _) _ (.lst (SqL.of upd_same) (dps_mono (same_new hp _) _ _ (dps_cut _ _ h2)))⟩
  case tuple =>
    cases hr
    cases hx with
    | @tup aa vs _ h1 h2 =>
      refine .inr (.inl ⟨_, _, rfl, h1, fun e => ?_, fun _ p hp => q4 _ (same_new hp _) _ (.tup (SqT.of upd_same) (dps_mono (same_new hp _) _ _ (dps_cut _ _ h2)))⟩)
      have e2 : cutP z lo' hi' = z := by
        unfold cutP
        rw [← dps_len h2, e.1, e.2, List.drop_zero, Nat.sub_zero, dps_len h2, List.take_length]
      rw [e2] at q4
      exact q4.now _ (.tup h1 h2)
  case str =>
    split at hr <;> cases hr
    rename_i hz
    cases hx
    exact .inr (.inr ⟨zS, rfl, Nat.le_trans hz big_line, q4.now _ (.str _)⟩)
end
end DL

set_option Elab.async false
set_option linter.all false
set_option maxRecDepth 100000
set_option maxHeartbeats 2000000
namespace DL
open PySem L2 PyProof.Rows

/-! ### calls of built-ins by name -/
def rCD (K : PySem.W.Frag) (g : List PyData → Option PyData) : List V → Hp → VK → Prop := fun vs H Q => ∃ ds r, DpAll K H vs ds ∧ g ds = some r ∧ fut H fun H' => ∀ v, Dp K H' v r → Q v H'
section
variable {X : Cx} {W : Wis} {a b c : Expr} {pos : Pos}
theorem callR_weak {f : Value} {r r' : List V → Hp → VK → Prop} (h : CallR X f r) (w : ∀ vs H Q, r' vs H Q → r vs H Q) : CallR X f r' := fun pins s σ H xs us Q I rv q => h pins s σ H xs us Q I rv (w _ _ _ q)
theorem cb_then {g : List PyData → Option PyData} {f : SA} {K : PySem.W.Frag} {σ : L2.St} {H : Hp} {Q : VK} (h : tD K W (eArgs g f) σ H Q) : tCB (rCD K g) (taD K W f) σ H Q := by
  obtain ⟨ρ, hE, q⟩ := h
  refine taD_mono (taD_then hE q) fun xs H1 ⟨ds, hx, s1, hE1, q1⟩ => ?_
  obtain ⟨r, hr, q2⟩ := Res.post_of q1
  exact ⟨ds, r, hx, hr, q2⟩
theorem ed_callB {x : Str} {id : String} {p : Pos} {es : List Expr} {g : List PyData → Option PyData} {f : SA} (hc : CallR X (.builtin id) (rCD X.K g)) (hm : X.mg x = none) (ha : PA X (a :: es) (taD X.K W f)) (hv : bootBuiltins x = some (.builtin id) := by decide +kernel) (hg : Gl X x := by rfl)
    (hn : x ≠ "__name__" := by decide) (hdb : (x == ("__debug__" : Str)) = false := by decide) (he : starEach (a :: es) X.env = (false, eval a X.env) :: starEach es X.env := by rfl) (hpl : (backTo pos (starEach es X.env)).any (·.1) = false := by rfl) :
    PE X (.Call (.Name x p) (a :: es) [] pos) (tD X.K W (eArgs g f)) := pe_weak (pe_callB hc hg hm hv ha hn hdb he hpl) fun σ H Q h => cb_then h
theorem ed_callT {x : Str} {T : String} {p : Pos} {es : List Expr} {g : List PyData → Option PyData} {f : SA} (hc : CallR X (.type T) (rCD X.K g)) (hm : X.mg x = none) (ha : PA X (a :: es) (taD X.K W f)) (hv : bootBuiltins x = some (.type T) := by decide +kernel) (hg : Gl X x := by rfl)
    (hn : x ≠ "__name__" := by decide) (hdb : (x == ("__debug__" : Str)) = false := by decide) (he : starEach (a :: es) X.env = (false, eval a X.env) :: starEach es X.env := by rfl) (hpl : (backTo pos (starEach es X.env)).any (·.1) = false := by rfl) :
    PE X (.Call (.Name x p) (a :: es) [] pos) (tD X.K W (eArgs g f)) := pe_weak (pe_callTy hc hg hm hv ha hn hdb he hpl) fun σ H Q h => cb_then h
/-! what each asks -/
theorem cd_len : CallR X (.builtin "len") (rCD X.K lenD) := callR_weak call_len fun vs H Q ⟨ds, r, hd, hg, q⟩ => by
  match ds, vs, hd, hg with
  | [.list xs], _, .cons (.lst h1 h2) .nil, hg =>
    simp only [lenD, Option.some.injEq] at hg
    subst hg
    exact ⟨_, _, rfl, .inl ⟨_, h1, rfl⟩, by rw [dps_len h2]; exact q.now _ (.int _)⟩
  | [.tuple xs], _, .cons (.tup h1 h2) .nil, hg =>
    simp only [lenD, Option.some.injEq] at hg
    subst hg
    exact ⟨_, _, rfl, .inr ⟨_, h1, rfl⟩, by rw [dps_len h2]; exact q.now _ (.int _)⟩
  | [.str z], _, .cons (.str _) .nil, hg =>
    simp only [lenD] at hg
    split at hg <;> cases hg
    rename_i hz
    exact ⟨_, _, rfl, ⟨Nat.le_trans hz big_line, rfl⟩, q.now _ (.int _)⟩
theorem cd_list : CallR X (.type "list") (rCD X.K listD) := callR_weak call_list_of fun vs H Q ⟨ds, r, hd, hg, q⟩ => by
  match ds, vs, hd, hg with
  | [.list xs], _, .cons (.lst h1 h2) .nil, hg =>
    simp only [listD, Option.some.injEq] at hg
    subst hg
    exact ⟨_, _, rfl, .inl h1, fun p hp => q _ (same_new hp _) _ (.lst (SqL.of upd_same) (dps_mono (same_new hp _) _ _ h2))⟩
  | [.tuple xs], _, .cons (.tup h1 h2) .nil, hg =>
    simp only [listD, Option.some.injEq] at hg
    subst hg
    exact ⟨_, _, rfl, .inr h1, fun p hp => q _ (same_new hp _) _ (.lst (SqL.of upd_same) (dps_mono (same_new hp _) _ _ h2))⟩
theorem cd_tuple : CallR X (.type "tuple") (rCD X.K tupleD) := callR_weak call_tuple_of fun vs H Q ⟨ds, r, hd, hg, q⟩ => by
  match ds, vs, hd, hg with
  | [.list xs], _, .cons (.lst h1 h2) .nil, hg =>
    simp only [tupleD, Option.some.injEq] at hg
    subst hg
    exact ⟨_, _, rfl, .inl ⟨h1, fun p hp => q _ (same_new hp _) _ (.tup (SqT.of upd_same) (dps_mono (same_new hp _) _ _ h2))⟩⟩
  | [.tuple xs], _, .cons (.tup h1 h2) .nil, hg =>
    simp only [tupleD, Option.some.injEq] at hg
    subst hg
    exact ⟨_, _, rfl, .inr ⟨h1, q.now _ (.tup h1 h2)⟩⟩
theorem cd_int : CallR X (.type "int") (rCD X.K intD) := callR_weak call_int1 fun vs H Q ⟨ds, r, hd, hg, q⟩ => by
  match ds, vs, hd, hg with
  | [.int i], _, .cons (.int _) .nil, hg =>
    simp only [intD, Option.some.injEq] at hg
    subst hg
    exact .inl ⟨_, rfl, q.now _ (.int _)⟩
  | [.bool k], _, .cons (.bl _) .nil, hg =>
    simp only [intD, Option.some.injEq] at hg
    subst hg
    exact .inr ⟨_, rfl, q.now _ (.int _)⟩
theorem cd_max2 (hc : X.calm = true) : CallR X (.builtin "max") (rCD X.K max2D) := callR_weak (call_max2 hc) fun vs H Q ⟨ds, r, hd, hg, q⟩ => by
  match ds, vs, hd, hg with
  | [.int i, .int j], _, .cons (.int _) (.cons (.int _) .nil), hg =>
    simp only [max2D, Option.some.injEq] at hg
    subst hg
    exact ⟨_, _, rfl, q.now _ (.int _)⟩
theorem cd_min2 (hc : X.calm = true) : CallR X (.builtin "min") (rCD X.K min2D) := callR_weak (call_min2 hc) fun vs H Q ⟨ds, r, hd, hg, q⟩ => by
  match ds, vs, hd, hg with
  | [.int i, .int j], _, .cons (.int _) (.cons (.int _) .nil), hg =>
    simp only [min2D, Option.some.injEq] at hg
    subst hg
    exact ⟨_, _, rfl, q.now _ (.int _)⟩
theorem bools_map : ∀ {xs : List PyData} {bs : List Bool}, bools xs = some bs → xs = bs.map PyData.bool
  | [], bs, h => by cases h; rfl
  | .bool b :: r, bs, h => by
    simp only [bools, Option.map_eq_some_iff] at h
    obtain ⟨cs, h1, rfl⟩ := h
    rw [bools_map h1]
    rfl
  | .none :: r, bs, h => by simp [bools] at h
  | .int _ :: r, bs, h => by simp [bools] at h
  | .str _ :: r, bs, h => by simp [bools] at h
  | .list _ :: r, bs, h => by simp [bools] at h
  | .tuple _ :: r, bs, h => by simp [bools] at h
  | .dict _ :: r, bs, h => by simp [bools] at h
theorem strsOf_map : ∀ {xs : List PyData} {bs : List Str}, strsOf xs = some bs → xs = bs.map PyData.str
  | [], bs, h => by cases h; rfl
  | .str b :: r, bs, h => by
    simp only [strsOf, Option.map_eq_some_iff] at h
    obtain ⟨cs, h1, rfl⟩ := h
    rw [strsOf_map h1]
    rfl
  | .none :: r, bs, h => by simp [strsOf] at h
  | .int _ :: r, bs, h => by simp [strsOf] at h
  | .bool _ :: r, bs, h => by simp [strsOf] at h
  | .list _ :: r, bs, h => by simp [strsOf] at h
  | .tuple _ :: r, bs, h => by simp [strsOf] at h
  | .dict _ :: r, bs, h => by simp [strsOf] at h
theorem cd_all (hc : X.calm = true) : CallR X (.builtin "all") (rCD X.K allD) := callR_weak (cr_all hc) fun vs H Q ⟨ds, r, hd, hg, q⟩ => by
  match ds, vs, hd, hg with
  | [.list xs], _, .cons (.lst h1 h2) .nil, hg =>
    simp only [allD, Option.map_eq_some_iff] at hg
    obtain ⟨bs, hb, rfl⟩ := hg
    rw [bools_map hb] at h2
    rw [dps_bls_of h2] at h1
    exact ⟨_, bs, rfl, h1, q.now _ (.bl _)⟩
/-! isinstance -/
theorem kit_all (t T : String) (ht : t ∈ ["NoneType", "bool", "int", "str", "list", "tuple"]) (hT : T ∈ ["bool", "int", "str", "list", "tuple"]) : kitB t T = some (t == T || (t == "bool" && T == "int")) := by
  simp only [List.mem_cons, List.not_mem_nil, or_false] at ht hT
  rcases ht with rfl | rfl | rfl | rfl | rfl | rfl <;> rcases hT with rfl | rfl | rfl | rfl | rfl <;> decide +kernel
theorem ty_of {K : PySem.W.Frag} {H : Hp} {v : V} {d : PyData} (h : Dp K H v d) : TyX K H v (.type (tyN d)) := by
  cases h with
  | non => exact .base .non
  | bl b => exact .base (.bl b)
  | int i => exact .base (.int i)
  | str x => exact .base (.str x)
  | lst h1 h2 =>
    rcases h1 with (h1 | ⟨o, h1⟩) | ⟨o, its, n, h1, h3, _⟩
    · exact .base (.lst h1)
    · exact .base (.frz h1)
    · exact .kList h1 h3
  | tup h1 h2 =>
    rcases h1 with (h1 | ⟨o, h1⟩) | ⟨o, its, n, h1, h3, _⟩
    · exact .base (.tup h1)
    · exact .fTuple h1
    · exact .kTuple h1 h3
  | dct h1 h2 => exact .base (.dK h1)
theorem ed_isi {T : String} {tn : Str} {p p2 : Pos} {f : SE} (hm : X.mg "isinstance" = none) (hmT : X.mg tn = none) (hT : T ∈ ["bool", "int", "str", "list", "tuple"]) (ha : PE X a (tD X.K W f)) (hvT : bootBuiltins tn = some (.type T) := by decide +kernel) (hgT : Gl X tn := by rfl) (hg : Gl X "isinstance" := by rfl)
    (hnT : tn ≠ "__name__" := by decide) (hdT : (tn == ("__debug__" : Str)) = false := by decide) (hs : starEach (a :: [.Name tn p2]) X.env = (false, eval a X.env) :: starEach [.Name tn p2] X.env := by rfl)
    (hs2 : starEach ((.Name tn p2) :: []) X.env = (false, eval (.Name tn p2) X.env) :: starEach [] X.env := by rfl) (hpl : (backTo pos (starEach [.Name tn p2] X.env)).any (·.1) = false := by rfl) :
    PE X (.Call (.Name "isinstance" p) [a, .Name tn p2] [] pos) (tD X.K W (eUn (isiD T) f)) := by
  refine pe_weak (pe_callB call_isi hg hm (by decide +kernel) (pa_cons ha (pa_cons (pe_bltn (v := .ty T) hgT hmT hvT rfl hnT hdT) pa_nil hs2) hs) (by decide) (by decide) hs hpl) fun σ H Q h => ?_
  obtain ⟨ρ, hE, q⟩ := h
  refine tD_mono (tD_then hE q) fun x H1 ⟨d, hx, s1, hE1, q1⟩ => ?_
  obtain ⟨r, hr, q2⟩ := Res.post_of q1
  have hk : ∃ b, r = .bool b ∧ kitB (tyN d) T = some b := by
    cases d <;> simp only [isiD, Option.some.injEq, reduceCtorEq] at hr
    all_goals
      subst hr
      refine ⟨_, rfl, ?_⟩
      rw [kit_all _ T (by simp [tyN]) hT]
      simp only [List.mem_cons, List.not_mem_nil, or_false] at hT
      simp only [tyN]
      rcases hT with rfl | rfl | rfl | rfl | rfl <;> decide
  obtain ⟨b, rfl, hb⟩ := hk
  exact ⟨_, _, _, _, b, rfl, .ty T, ty_of hx, kit_ty hb, q2.now _ (.bl _)⟩

/-! ### methods of texts -/
theorem mtR_weak {id : String} {r r' : V → List V → Hp → VK → Prop} (h : MtR X id r) (w : ∀ x vs H Q, r' x vs H Q → r x vs H Q) : MtR X id r' := fun pins s σ H x xs v us Q I rx rs q => h pins s σ H x xs v us Q I rx rs (w _ _ _ _ q)
def rMD (K : PySem.W.Frag) (g : Str → PyData → Option PyData) : V → List V → Hp → VK → Prop := fun x vs H Q => ∃ z y e r, x = .str z ∧ vs = [y] ∧ Dp K H y e ∧ g z e = some r ∧ fut H fun H' => ∀ v, Dp K H' v r → Q v H'
/-- a text's method of one argument, of none -/
def eM1 (g : Str → PyData → Option PyData) (f h : SE) : SE := fun ρ => (f ρ).bind fun x => match x with
  | .str z => (h ρ).bind fun y => Res.of (g z y)
  | _ => .bad
def eM0 (g : Str → Option PyData) (f : SE) : SE := fun ρ => (f ρ).bind fun x => match x with
  | .str z => Res.of (g z)
  | _ => .bad
theorem ed_m1 {id : String} {name : Str} {apos : Pos} {g : Str → PyData → Option PyData} {f h : SE} (slot : Slot "str" name id) (ty : typeOf (.builtin id) = pure (.type "method_descriptor")) (rule : MtR X id (rMD X.K g))
    (ho : PE X a (tD X.K W f)) (he : PE X b (tD X.K W h)) (hs : starEach [b] X.env = [(false, eval b X.env)] := by rfl) (hbase : attributeBase a name X.env (eval a X.env) = eval a X.env := by rfl) (hline : (apos.endLine == pos.line) = true := by rfl) :
    PE X (.Call (.Attribute a name apos) [b] [] pos) (tD X.K W (eM1 g f h)) := by
  refine pe_weak (pe_m1 slot ty rule ho he hs hbase hline) fun σ H Q q => ?_
  obtain ⟨ρ, hE, q⟩ := q
  refine tD_mono (tD_then hE q) fun x H1 ⟨d, hx, s1, hE1, q1⟩ => ?_
  obtain ⟨z, rfl, rfl⟩ : ∃ z, d = .str z ∧ x = .str z := by
    cases hx with
    | str z => exact ⟨z, rfl, rfl⟩
    | _ => exact q1.elim
  refine ⟨⟨z, rfl⟩, tD_mono (tD_then hE1 q1) fun y H2 ⟨e, hy, s2, hE2, q2⟩ => ?_⟩
  obtain ⟨r, hr, q3⟩ := Res.post_of q2
  exact ⟨z, y, e, r, rfl, rfl, hy, hr, q3⟩
theorem ed_m0 {id : String} {name : Str} {apos : Pos} {g : Str → Option PyData} {f : SE} (slot : Slot "str" name id) (ty : typeOf (.builtin id) = pure (.type "method_descriptor"))
    (rule : MtR X id (fun x vs H Q => ∃ z r, x = .str z ∧ vs = [] ∧ g z = some r ∧ fut H fun H' => ∀ v, Dp X.K H' v r → Q v H'))
    (ho : PE X a (tD X.K W f)) (hbase : attributeBase a name X.env (eval a X.env) = eval a X.env := by rfl) (hline : (apos.endLine == pos.line) = true := by rfl) :
    PE X (.Call (.Attribute a name apos) [] [] pos) (tD X.K W (eM0 g f)) := by
  refine pe_weak (pe_m0 slot ty rule ho hbase hline) fun σ H Q q => ?_
  obtain ⟨ρ, hE, q⟩ := q
  refine tD_mono (tD_then hE q) fun x H1 ⟨d, hx, s1, hE1, q1⟩ => ?_
  obtain ⟨z, rfl, rfl⟩ : ∃ z, d = .str z ∧ x = .str z := by
    cases hx with
    | str z => exact ⟨z, rfl, rfl⟩
    | _ => exact q1.elim
  obtain ⟨r, hr, q3⟩ := Res.post_of q1
  exact ⟨⟨z, rfl⟩, z, r, rfl, rfl, hr, q3⟩
def joinD (z : Str) : PyData → Option PyData
  | .list ds => (strsOf ds).bind fun ys => if (ys.map (·.length)).sum + ys.length * z.length ≤ big then some (.str (Str.join z ys)) else none
  | _ => none
def indexD (z : Str) : PyData → Option PyData
  | .str b => (Builtin.Str.occurrences z b 0 z.length 1).head?.map fun i => .int (i : Nat)
  | _ => none
def findD (z : Str) : PyData → Option PyData
  | .str b => some (.int (Txt.find z b))
  | _ => none
def upperD (z : Str) : Option PyData := if z.length ≤ big then some (.str (Txt.upper z)) else none
theorem md_join : MtR X "str.join" (rMD X.K joinD) := mtR_weak mt_join fun x vs H Q ⟨z, y, e, r, hx, hv, hy, hg, q⟩ => by
  subst hx hv
  obtain ⟨a, xs, ds, rfl, rfl, h1, h2⟩ : ∃ a xs ds, e = .list ds ∧ y = .ref a ∧ SqL X.K H a xs ∧ DpAll X.K H xs ds := by
    cases hy with
    | lst h1 h2 => exact ⟨_, _, _, rfl, rfl, h1, h2⟩
    | _ => simp [joinD] at hg
  simp only [joinD] at hg
  simp only [Option.bind_eq_some_iff] at hg
  obtain ⟨ys, hs, hg⟩ := hg
  split at hg <;> cases hg
  rename_i hz
  rw [strsOf_map hs] at h2
  rw [dps_strs_of h2] at h1
  refine ⟨z, _, ys, rfl, rfl, .inl h1, Nat.le_trans hz (by decide), ?_⟩
  rw [TL.join_eq]
  exact q.now _ (.str _)
theorem md_index : MtR X "str.index" (rMD X.K indexD) := mtR_weak mt_sindex fun x vs H Q ⟨z, y, e, r, hx, hv, hy, hg, q⟩ => by
  subst hx hv
  obtain ⟨b, rfl, rfl⟩ : ∃ b, e = .str b ∧ y = .str b := by
    cases hy with
    | str z => exact ⟨z, rfl, rfl⟩
    | _ => simp [indexD] at hg
  simp only [indexD] at hg
  cases ho : Builtin.Str.occurrences z b 0 z.length 1 with
  | nil => rw [ho] at hg; cases hg
  | cons i rest =>
    rw [ho] at hg
    cases hg
    exact ⟨z, b, i, rest, rfl, rfl, ho, q.now _ (.int _)⟩
theorem md_find : MtR X "str.find" (rMD X.K findD) := mtR_weak mt_find fun x vs H Q ⟨z, y, e, r, hx, hv, hy, hg, q⟩ => by
  subst hx hv
  cases hy <;> simp only [findD, reduceCtorEq] at hg
  cases hg
  exact ⟨z, _, rfl, rfl, q.now _ (.int _)⟩
theorem md_upper : MtR X "str.upper" (fun x vs H Q => ∃ z r, x = .str z ∧ vs = [] ∧ upperD z = some r ∧ fut H fun H' => ∀ v, Dp X.K H' v r → Q v H') := mtR_weak mt_upper fun x vs H Q ⟨z, r, hx, hv, hg, q⟩ => by
  subst hx hv
  unfold upperD at hg
  split at hg <;> cases hg
  rename_i hz
  exact ⟨z, rfl, rfl, Nat.le_trans hz (by decide), q.now _ (.str _)⟩
theorem ed_join {apos : Pos} {f h : SE} (ho : PE X a (tD X.K W f)) (he : PE X b (tD X.K W h)) (hs : starEach [b] X.env = [(false, eval b X.env)] := by rfl) (hbase : attributeBase a "join" X.env (eval a X.env) = eval a X.env := by rfl) (hline : (apos.endLine == pos.line) = true := by rfl) :
    PE X (.Call (.Attribute a "join" apos) [b] [] pos) (tD X.K W (eM1 joinD f h)) := ed_m1 F.slot_str_join F.type_str_join md_join ho he hs hbase hline
theorem ed_sindex {apos : Pos} {f h : SE} (ho : PE X a (tD X.K W f)) (he : PE X b (tD X.K W h)) (hs : starEach [b] X.env = [(false, eval b X.env)] := by rfl) (hbase : attributeBase a "index" X.env (eval a X.env) = eval a X.env := by rfl) (hline : (apos.endLine == pos.line) = true := by rfl) :
    PE X (.Call (.Attribute a "index" apos) [b] [] pos) (tD X.K W (eM1 indexD f h)) := ed_m1 F.slot_str_index F.type_str_index md_index ho he hs hbase hline
theorem ed_find {apos : Pos} {f h : SE} (ho : PE X a (tD X.K W f)) (he : PE X b (tD X.K W h)) (hs : starEach [b] X.env = [(false, eval b X.env)] := by rfl) (hbase : attributeBase a "find" X.env (eval a X.env) = eval a X.env := by rfl) (hline : (apos.endLine == pos.line) = true := by rfl) :
    PE X (.Call (.Attribute a "find" apos) [b] [] pos) (tD X.K W (eM1 findD f h)) := ed_m1 F.slot_str_find F.type_str_find md_find ho he hs hbase hline
theorem ed_upper {apos : Pos} {f : SE} (ho : PE X a (tD X.K W f)) (hbase : attributeBase a "upper" X.env (eval a X.env) = eval a X.env := by rfl) (hline : (apos.endLine == pos.line) = true := by rfl) :
    PE X (.Call (.Attribute a "upper" apos) [] [] pos) (tD X.K W (eM0 upperD f)) := ed_m0 F.slot_str_upper F.type_str_upper md_upper ho hbase hline

/-! ### calls of the text's defs -/
def spD (K : PySem.W.Frag) (cls : Nat → Value) (n : Nat) (g : List PyData → Res PyData) : Sp := fun vs H Q E => vs.length = n ∧ ∃ ds, DpAll K H vs ds ∧ (g ds).post (fun d => fut H fun H' => ∀ v, Dp K H' v d → Q v H') fun m => fut H fun H' => E (cls m) none H'
structure Callee (P : Program) (w : World) (K : PySem.W.Frag) (mg : Str → Option Value) (base : Heap) (CX : CXT) (cls : Nat → Value) (x : Str) (k : Nat) (ps : List Str) (g : List PyData → Res PyData) : Prop where
  ex : ∃ f fd, FnOk P w K mg base CX k f fd ps (spD K cls ps.length g) ∧ mg x = some (.ref f) ∧ PySem.W.keepIn K (.ref f) = true ∧ Binds K fd ps [] ∧ ∃ oc od osl, K.lookup f = some ⟨oc, od, .func fd, osl⟩
def wishE (cls : Nat → Value) (W : Wis) : XK := fun c d H => ∃ m, c = cls m ∧ d = none ∧ W m H
theorem sp_then {K : PySem.W.Frag} {cls : Nat → Value} {n : Nat} {g : List PyData → Res PyData} {f : SA} {σ : L2.St} {H : Hp} {Q : VK} (hn : ∀ ρ ds, f ρ = .ok ds → ds.length = n) (h : tD K W (eCall g f) σ H Q) :
    tCall (spD K cls n g) [] (wishE cls W) (taD K W f) σ H Q := by
  obtain ⟨ρ, hE, q⟩ := h
  unfold eCall at q
  cases hfr : f ρ with
  | bad => rw [hfr] at q; exact q.elim
  | ex m => rw [hfr] at q; exact ⟨ρ, hE, by rw [hfr]; exact q⟩
  | ok ds =>
    rw [hfr] at q
    refine ⟨ρ, hE, ?_⟩
    rw [hfr]
    intro H1 s1 vs hvs
    rw [List.append_nil]
    refine ⟨(dps_len hvs).trans (hn ρ ds hfr), ds, hvs, q.mono (fun d r => r.on s1) fun m r H' s' => ⟨m, rfl, rfl, r _ (s1.trans s')⟩⟩
theorem ed_call {CX : CXT} {cls : Nat → Value} {x : Str} {k : Nat} {ps : List Str} {g : List PyData → Res PyData} {p : Pos} {es : List Expr} {f : SA} (C : Callee X.prog X.w X.K X.mg X.base CX cls x k ps g) (hr : Room k X.A) (hx : Passes CX X (wishE cls W)) (ha : PA X (a :: es) (taD X.K W f))
    (hn : ∀ ρ ds, f ρ = .ok ds → ds.length = ps.length) (hg : Gl X x := by rfl) (hdb : (x == ("__debug__" : Str)) = false := by decide) (he : starEach (a :: es) X.env = (false, eval a X.env) :: starEach es X.env := by rfl) (hpl : (backTo pos (starEach es X.env)).any (·.1) = false := by rfl) :
    PE X (.Call (.Name x p) (a :: es) [] pos) (tD X.K W (eCall g f)) := by
  obtain ⟨fa, fd, F, hm, hk, hb, _⟩ := C.ex
  exact pe_weak (pe_call F hr hg hm hk hb .nil hx ha hdb he hpl) fun σ H Q h => sp_then hn h
theorem passD {cls : Nat → Value} : Passes CX0 X (wishE cls W) := fun _ _ _ _ _ _ _ h => h.elim
theorem an_nil (ρ : PEnv) (ds : List PyData) (h : aNil ρ = .ok ds) : ds.length = 0 := by cases h; rfl
theorem an_cons {n : Nat} {f : SE} {g : SA} (hg : ∀ ρ ds, g ρ = .ok ds → ds.length = n) (ρ : PEnv) (ds : List PyData) (h : aCons f g ρ = .ok ds) : ds.length = n + 1 := by
  unfold aCons at h
  cases h1 : f ρ with
  | ok d =>
    rw [h1] at h
    cases h2 : g ρ with
    | ok es =>
      rw [h2] at h
      cases h
      exact congrArg (· + 1) (hg ρ es h2)
    | ex m => rw [h2] at h; cases h
    | bad => rw [h2] at h; cases h
  | ex m => rw [h1] at h; cases h
  | bad => rw [h1] at h; cases h
end
end DL

set_option Elab.async false
set_option linter.all false
set_option maxRecDepth 100000
set_option maxHeartbeats 2000000
namespace DL
open PySem L2 PyProof.Rows

/-! ### what is walked -/
/-- the iterator J gives the data ds -/
def Walks (K : PySem.W.Frag) (J : It) (H : Hp) (ds : List PyData) : Prop := ∀ (i : Nat) (H' : Hp), Same H H' →
  (∀ d, ds[i]? = some d → J.go i H' ∧ ∀ x H2, J.yld i H' x H2 → H2 = H' ∧ Dp K H' x d) ∧ (ds.length ≤ i → J.stop i H')
theorem Walks.mono {K : PySem.W.Frag} {J : It} {H H' : Hp} {ds : List PyData} (h : Walks K J H ds) (s : Same H H') : Walks K J H' ds := fun i H2 s2 => h i H2 (s.trans s2)
def tiD (K : PySem.W.Frag) (W : Wis) (f : SA) : TI := fun σ H R => ∃ ρ, EnvR K H σ ρ ∧ (f ρ).post (fun ds => fut H fun H' => ∀ J, Walks K J H' ds → R J H') fun n => fut H (W n)
theorem pi_weak {X : Cx} {tg iter : Expr} {t t' : TI} (h : PI X tg iter t) (w : ∀ σ H R, t' σ H R → t σ H R) : PI X tg iter t' := ⟨fun pins s σ H R I q => h.run pins s σ H R I (w σ H R q)⟩
def sList (f : SE) : SA := fun ρ => (f ρ).bind fun x => match x with
  | .list xs => .ok xs
  | _ => .bad
def sTup (f : SE) : SA := fun ρ => (f ρ).bind fun x => match x with
  | .tuple xs => .ok xs
  | _ => .bad
def sStr (f : SE) : SA := fun ρ => (f ρ).bind fun x => match x with
  | .str z => .ok (z.cps.toList.map fun c => .str ⟨#[c]⟩)
  | _ => .bad
def upTo (lo : Int) (n : Nat) : List PyData := (List.range n).map fun i => .int (lo + (i : Nat))
def sRng1 (f : SA) : SA := fun ρ => (f ρ).bind fun xs => match xs with
  | [.int j] => if -big ≤ j ∧ j ≤ big then .ok (upTo 0 j.toNat) else .bad
  | _ => .bad
def sRng2 (f : SA) : SA := fun ρ => (f ρ).bind fun xs => match xs with
  | [.int i, .int j] => if -big ≤ i ∧ i ≤ big ∧ -big ≤ j ∧ j ≤ big then .ok (upTo i (j - i).toNat) else .bad
  | _ => .bad
theorem walks_lst {K : PySem.W.Frag} {H : Hp} {a : Addr} {xs : List V} {ds : List PyData} (h : SqL K H a xs) (hd : DpAll K H xs ds) : Walks K (Itl K a) H ds := fun i H' s => by
  have h' := s.seq h
  refine ⟨fun d e => ?_, fun e => ⟨xs, h', by rw [dps_len hd]; exact e⟩⟩
  obtain ⟨v, hv, hdv⟩ := dps_get (dps_mono s _ _ hd) e
  refine ⟨⟨xs, v, h', hv⟩, fun x H2 ⟨e2, y⟩ => ⟨e2, ?_⟩⟩
  have z := y xs h'
  rw [hv] at z
  cases z
  exact hdv
theorem walks_tup {K : PySem.W.Frag} {H : Hp} {a : Addr} {xs : List V} {ds : List PyData} (h : SqT K H a xs) (hd : DpAll K H xs ds) : Walks K (Itt K a) H ds := fun i H' s => by
  have h' := sqT_same s h
  refine ⟨fun d e => ?_, fun e => ⟨xs, h', by rw [dps_len hd]; exact e⟩⟩
  obtain ⟨v, hv, hdv⟩ := dps_get (dps_mono s _ _ hd) e
  refine ⟨⟨xs, v, h', hv⟩, fun x H2 ⟨e2, y⟩ => ⟨e2, ?_⟩⟩
  have z := y xs h'
  rw [hv] at z
  cases z
  exact hdv
theorem walks_rng {K : PySem.W.Frag} {H : Hp} {lo : Int} {n : Nat} : Walks K (Itr lo n) H (upTo lo n) := fun i H' s => by
  refine ⟨fun d e => ?_, fun e => ?_⟩
  · unfold upTo at e
    rw [List.getElem?_map] at e
    cases q : (List.range n)[i]? with
    | none => rw [q] at e; cases e
    | some j =>
      rw [q] at e
      cases e
      obtain ⟨h1, h2⟩ := List.getElem?_eq_some_iff.mp q
      rw [List.getElem_range] at h2
      subst h2
      rw [List.length_range] at h1
      exact ⟨h1, fun x H2 ⟨e2, y⟩ => ⟨e2, by rw [y]; exact .int _⟩⟩
  · unfold upTo at e
    rw [List.length_map, List.length_range] at e
    exact e
theorem walks_str {K : PySem.W.Frag} {H : Hp} {z : Str} : Walks K (Its z) H (z.cps.toList.map fun c => .str ⟨#[c]⟩) := fun i H' s => by
  refine ⟨fun d e => ?_, fun e => ?_⟩
  · rw [List.getElem?_map, Array.getElem?_toList] at e
    cases q : z.cps[i]? with
    | none => rw [q] at e; cases e
    | some c =>
      rw [q] at e
      cases e
      refine ⟨(Array.getElem?_eq_some_iff.mp q).1, fun x H2 ⟨e2, c2, y, e3⟩ => ⟨e2, ?_⟩⟩
      rw [q] at y
      cases y
      rw [e3]
      exact .str _
  · rw [List.length_map, Array.length_toList] at e
    exact e
section
variable {X : Cx} {W : Wis} {a b tg : Expr} {pos : Pos}
theorem id_list {f : SE} (h : PE X a (tD X.K W f)) : PI X tg a (tiD X.K W (sList f)) := pi_weak (pi_list h) fun σ H R q => by
  obtain ⟨ρ, hE, q⟩ := q
  refine tD_mono (tD_then hE q) fun x H1 ⟨d, hx, s1, hE1, q1⟩ => ?_
  cases hx with
  | lst h1 h2 => exact ⟨_, rfl, ⟨_, h1⟩, q1.now _ (walks_lst h1 h2)⟩
  | _ => exact q1.elim
theorem id_tup {f : SE} (h : PE X a (tD X.K W f)) : PI X tg a (tiD X.K W (sTup f)) := pi_weak (pi_tup h) fun σ H R q => by
  obtain ⟨ρ, hE, q⟩ := q
  refine tD_mono (tD_then hE q) fun x H1 ⟨d, hx, s1, hE1, q1⟩ => ?_
  cases hx with
  | tup h1 h2 => exact ⟨_, rfl, ⟨_, h1⟩, q1.now _ (walks_tup h1 h2)⟩
  | _ => exact q1.elim
theorem id_str {f : SE} (h : PE X a (tD X.K W f)) : PI X tg a (tiD X.K W (sStr f)) := pi_weak (pi_str h) fun σ H R q => by
  obtain ⟨ρ, hE, q⟩ := q
  refine tD_mono (tD_then hE q) fun x H1 ⟨d, hx, s1, hE1, q1⟩ => ?_
  cases hx with
  | str z => exact ⟨_, rfl, q1.now _ walks_str⟩
  | _ => exact q1.elim
theorem id_rng1 {f : SA} {p : Pos} (hm : X.mg "range" = none) (ha : PA X [a] (taD X.K W f)) (hg : Gl X "range" := by rfl) (hs : starEach [a] X.env = [(false, eval a X.env)] := by rfl) : PI X tg (.Call (.Name "range" p) [a] [] pos) (tiD X.K W (sRng1 f)) :=
  pi_weak (pi_range1 hg hm ha hs) fun σ H R q => by
  obtain ⟨ρ, hE, q⟩ := q
  refine taD_mono (taD_then hE q) fun x H1 ⟨d, hx, s1, hE1, q1⟩ => ?_
  split at q1
  · split at q1
    · rename_i j hj
      cases hx with
      | cons h1 h2 =>
        cases h1; cases h2
        simp only [big] at hj
        exact ⟨j, rfl, by omega, by omega, q1.now _ walks_rng⟩
    · exact q1.elim
  · exact q1.elim
theorem id_rng2 {f : SA} {p : Pos} (hm : X.mg "range" = none) (ha : PA X [a, b] (taD X.K W f)) (hg : Gl X "range" := by rfl) (hs : starEach [a, b] X.env = [(false, eval a X.env), (false, eval b X.env)] := by rfl) (hs2 : starEach [b] X.env = [(false, eval b X.env)] := by rfl) :
    PI X tg (.Call (.Name "range" p) [a, b] [] pos) (tiD X.K W (sRng2 f)) := pi_weak (pi_range2 hg hm ha hs hs2) fun σ H R q => by
  obtain ⟨ρ, hE, q⟩ := q
  refine taD_mono (taD_then hE q) fun x H1 ⟨d, hx, s1, hE1, q1⟩ => ?_
  split at q1
  · split at q1
    · rename_i i j hj
      cases hx with
      | cons h1 h2 =>
        cases h1
        cases h2 with
        | cons h1 h2 =>
        cases h1; cases h2
        simp only [big] at hj
        exact ⟨i, j, rfl, by omega, q1.now _ walks_rng⟩
    · exact q1.elim
  · exact q1.elim

/-! ### comprehensions -/
def Res.calm {α : Type} : Res α → Res α
  | .ok a => .ok a
  | _ => .bad
theorem Res.post_calm {α : Type} {r : Res α} {p : α → Prop} {e g : Nat → Prop} (h : (Res.calm r).post p e) : r.post p g := by
  cases r with
  | ok a => exact h
  | ex n => exact h.elim
  | bad => exact h.elim
def lcGo (env : PyData → PEnv) (t : ST) (f : SE) : List PyData → Res (List PyData)
  | [] => .ok []
  | d :: ds => (Res.calm (t (env d))).bind fun b => if b then (Res.calm (f (env d))).bind fun y => if frz y then (lcGo env t f ds).bind fun ys => .ok (y :: ys) else .bad else lcGo env t f ds
def eLc (i : Nat) (src : SA) (t : ST) (f : SE) : SE := fun ρ => (src ρ).bind fun xs => if xs.length ≤ big then (Res.calm (lcGo (fun d => (ρ.set i none).set i (some d)) t f xs)).bind fun ys => .ok (.list ys) else .bad
def tTrue : ST := fun _ => .ok true
theorem wipe_one {σ : L2.St} {i : Nat} {x : Option V} : wipe ((wipe σ [i]).set i x) [i] = wipe σ [i] := by
  simp [wipe]
theorem lcGo_le {env : PyData → PEnv} {t : ST} {f : SE} : ∀ {xs ys : List PyData}, lcGo env t f xs = .ok ys → ys.length ≤ xs.length
  | [], ys, h => by cases h; exact Nat.le_refl _
  | d :: ds, ys, h => by
    unfold lcGo at h
    cases h1 : Res.calm (t (env d)) with
    | ex n => rw [h1] at h; cases h
    | bad => rw [h1] at h; cases h
    | ok b =>
      rw [h1] at h
      cases b with
      | false => exact Nat.le_succ_of_le (lcGo_le h)
      | true =>
        simp only [Res.ok_bind, if_true] at h
        cases h2 : Res.calm (f (env d)) with
        | ex n => rw [h2] at h; cases h
        | bad => rw [h2] at h; cases h
        | ok y =>
          rw [h2] at h
          simp only [Res.ok_bind] at h
          split at h
          · cases h3 : lcGo env t f ds with
            | ex n => rw [h3] at h; cases h
            | bad => rw [h3] at h; cases h
            | ok zs =>
              rw [h3] at h
              cases h
              exact Nat.succ_le_succ (lcGo_le h3)
          · cases h
theorem lc_then {K : PySem.W.Frag} {i : Nat} {src : SA} {t : ST} {f : SE} {σ : L2.St} {H : Hp} {Q : VK} (q : tD K W (eLc i src t f) σ H Q) :
    tLc (tiD K W src) (gName i) (ttD K (fun _ _ => False) t) (tD K (fun _ _ => False) f) [i] σ H Q := by
  obtain ⟨ρ, hE, q⟩ := q
  unfold eLc at q
  refine ⟨ρ, hE, (Res.post_bind.mp q).mono (fun xs r H1 s1 J hJ D hD => ?_) fun n r => r⟩
  split at r
  · rename_i hz
    generalize hg : Res.calm (lcGo (fun d => (ρ.set i none).set i (some d)) t f xs) = g at r
    cases g with
    | bad => exact r.elim
    | ex n => cases hq : lcGo (fun d => (ρ.set i none).set i (some d)) t f xs <;> rw [hq] at hg <;> cases hg
    | ok tot =>
      have hg2 : lcGo (fun d => (ρ.set i none).set i (some d)) t f xs = .ok tot := by
        cases hq : lcGo (fun d => (ρ.set i none).set i (some d)) t f xs <;> rw [hq] at hg <;> cases hg
        rfl
      have htot := lcGo_le hg2
      refine ⟨fun k m H' => m = xs.length - k ∧ k ≤ xs.length ∧ Same H1 H' ∧ ∃ acc ys zs, H' D = some (.lst acc) ∧ DpAll K H' acc ys ∧ frzs ys = true ∧ lcGo (fun d => (ρ.set i none).set i (some d)) t f (xs.drop k) = .ok zs ∧ tot = ys ++ zs,
        ⟨xs.length, by simp, Nat.zero_le _, same_new hD _, [], [], tot, upd_same, .nil, rfl, by rw [List.drop_zero]; exact hg2, rfl⟩, ?_⟩
      rintro k m H' ⟨rfl, hk, s, acc, ys, zs, hacc, hys, hfr, hgo, htz⟩
      obtain ⟨w1, w2⟩ := hJ k H' s
      by_cases hlt : k < xs.length
      · have hx : xs[k]? = some xs[k] := List.getElem?_eq_getElem hlt
        obtain ⟨go, yl⟩ := w1 _ hx
        refine .inr ⟨go, fun H2 => Same H1 H2 ∧ ∃ acc ys zs, H2 D = some (.lst acc) ∧ DpAll K H2 acc ys ∧ frzs ys = true ∧ lcGo (fun d => (ρ.set i none).set i (some d)) t f (xs.drop (k + 1)) = .ok zs ∧ tot = ys ++ zs, fun H2 h2 => ⟨xs.length - (k + 1), by omega, rfl, hlt, h2⟩, fun x H2 y => ?_⟩
        obtain ⟨e2, hdx⟩ := yl x H2 y
        subst e2
        rw [List.drop_eq_getElem_cons hlt] at hgo
        unfold lcGo at hgo
        refine ⟨wipe_one, ?_⟩
        have hE2 : EnvR K H2 ((wipe σ [i]).set i (some x)) ((ρ.set i none).set i (some xs[k])) := by
          refine EnvR.set ?_ hdx
          exact (hE.mono (s1.trans s)).forget
        cases ht : t ((ρ.set i none).set i (some xs[k])) with
        | bad => rw [ht] at hgo; cases hgo
        | ex n => rw [ht] at hgo; cases hgo
        | ok b =>
          rw [ht] at hgo
          refine ⟨_, hE2, ?_⟩
          rw [ht]
          intro H3 s3
          cases b with
          | false =>
            exact iteF ⟨s.trans s3, acc, ys, zs, s3 _ _ hacc, dps_mono s3 _ _ hys, hfr, hgo, htz⟩
          | true =>
            refine iteT ?_
            simp only [Res.calm, Res.ok_bind, if_true] at hgo
            cases hf : f ((ρ.set i none).set i (some xs[k])) with
            | bad => rw [hf] at hgo; cases hgo
            | ex n => rw [hf] at hgo; cases hgo
            | ok y =>
              rw [hf] at hgo
              simp only [Res.calm, Res.ok_bind] at hgo
              split at hgo
              · rename_i hy
                refine ⟨_, hE2.mono s3, ?_⟩
                rw [hf]
                intro H4 s4 v hv
                cases hr : lcGo (fun d => (ρ.set i none).set i (some d)) t f (xs.drop (k + 1)) with
                | bad => rw [hr] at hgo; cases hgo
                | ex n => rw [hr] at hgo; cases hgo
                | ok zs' =>
                  rw [hr] at hgo
                  cases hgo
                  have hacc4 := s4 _ _ (s3 _ _ hacc)
                  have hla := dps_len hys
                  have hz2 := big_line
                  have h5 : acc.length < sizeLine := by
                    have h6 : tot.length = ys.length + (zs'.length + 1) := by rw [htz, List.length_append, List.length_cons]
                    omega
                  refine ⟨acc, hacc4, h5, fun b o q => ?_, acc ++ [v], ys ++ [y], zs', upd_same, dps_append (frzs_mono (sqT_lst hacc4) _ _ hfr (dps_mono (s3.trans s4) _ _ hys)) (.cons (frz_mono (sqT_lst hacc4) _ _ hy hv) .nil), ?_, rfl, by rw [htz, List.append_assoc]; rfl⟩
                  · rw [upd_ne (ne_of_none q hD)]
                    exact s4 _ _ (s3 _ _ (s _ _ q))
                  · have hfa : ∀ (as bs : List PyData), frzs (as ++ bs) = (frzs as && frzs bs) := by
                      intro as bs
                      induction as with
                      | nil => simp [frzs]
                      | cons a as ih => simp [frzs, ih, Bool.and_assoc]
                    rw [hfa, hfr]
                    simp [frzs, hy]
              · cases hgo
      · have e : k = xs.length := by omega
        subst e
        rw [List.drop_length] at hgo
        cases hgo
        refine .inl ⟨w2 (Nat.le_refl _), ?_⟩
        rw [List.append_nil] at htz
        subst htz
        exact r _ (s1.trans s) _ (.lst (SqL.of hacc) hys)
  · exact r.elim
theorem ed_lc {elt iter : Expr} {ifs : List Expr} {scope : Scope} {x : Str} {i : Nat} {src : SA} {t : ST} {f : SE} (hc : X.calm = true) (hN : X.N.Nodup) (hi : PI X tg iter (tiD X.K W src)) (ok : BlkOk X.N X.env.scope scope [(x, i)])
    (hg : ∀ (s : Shared) (H : Hp) (C : Addr) (cl : List (Str × Addr)) (fp : List Addr), PG (X.blk s H scope (compEnvC scope cl C X.env) fp) tg (gName i)) (ht : ∀ (s : Shared) (H : Hp) (C : Addr) (cl : List (Str × Addr)) (fp : List Addr), PTs (X.blk s H scope (compEnvC scope cl C X.env) fp) ifs (ttD X.K (fun _ _ => False) t))
    (he : ∀ (s : Shared) (H : Hp) (C : Addr) (cl : List (Str × Addr)) (fp : List Addr), PE (X.blk s H scope (compEnvC scope cl C X.env) fp) elt (tD X.K (fun _ _ => False) f)) (hs : ∀ x, foldedSetIterable iter X.env x = pure x := by intro _; rfl) :
    PE X (.ListComp elt [⟨tg, iter, ifs, 0⟩] scope pos) (tD X.K W (eLc i src t f)) :=
  pe_weak (pe_lc hc hN hi ok hg ht he hs) fun σ H Q q => lc_then q
theorem tds_nil : PTs X [] (ttD X.K W tTrue) := ⟨fun pins s σ H Q I h => pts_nil.run pins s σ H Q I (by
  obtain ⟨ρ, hE, q⟩ := h
  exact q.now)⟩
theorem tds_one {t : ST} (h : PT X a (ttD X.K W t)) : PTs X [a] (ttD X.K W t) := pts_one h
end
end DL

set_option Elab.async false
set_option linter.all false
set_option maxRecDepth 100000
set_option maxHeartbeats 2000000
namespace DL
open PySem L2 PyProof.Rows

/-! ### statements -/
def sNext : SS := fun ρ => .ok (.nx ρ)
def sSeq (F G : SS) : SS := fun ρ => (F ρ).bind fun o => match o with
  | .nx ρ' => G ρ'
  | .rt d => .ok (.rt d)
  | .bk ρ' => .ok (.bk ρ')
  | .ct ρ' => .ok (.ct ρ')
def sSet (i : Nat) (f : SE) : SS := fun ρ => (f ρ).bind fun d => .ok (.nx (ρ.set i (some d)))
def sDrop (f : SE) : SS := fun ρ => (f ρ).bind fun _ => .ok (.nx ρ)
def sRet (f : SE) : SS := fun ρ => (f ρ).bind fun d => .ok (.rt d)
def sRetN : SS := fun _ => .ok (.rt .none)
def sIf (t : ST) (F G : SS) : SS := fun ρ => (t ρ).bind fun b => if b then F ρ else G ρ
def sBreak : SS := fun ρ => .ok (.bk ρ)
def sCont : SS := fun ρ => .ok (.ct ρ)
/-- what a target does with a value -/
abbrev SG := PyData → PEnv → Option PEnv
abbrev SGs := List PyData → PEnv → Option PEnv
def gN (i : Nat) : SG := fun d ρ => some (ρ.set i (some d))
def gsNil : SGs := fun ds ρ => match ds with
  | [] => some ρ
  | _ => none
def gsCons (g : SG) (gs : SGs) : SGs := fun ds ρ => match ds with
  | d :: r => (g d ρ).bind fun ρ' => gs r ρ'
  | [] => none
def gT (n : Nat) (gs : SGs) : SG := fun d ρ => match d with
  | .tuple ds => if ds.length = n then gs ds ρ else none
  | _ => none
def sAsg (f : SE) (g : SG) : SS := fun ρ => (f ρ).bind fun d => (Res.of (g d ρ)).bind fun ρ' => .ok (.nx ρ')
def forGo (g : SG) (F : SS) : List PyData → PEnv → Res Out
  | [], ρ => .ok (.nx ρ)
  | d :: ds, ρ => (Res.of (g d ρ)).bind fun ρ1 => (F ρ1).bind fun o => match o with
    | .nx ρ' => forGo g F ds ρ'
    | .ct ρ' => forGo g F ds ρ'
    | .bk ρ' => .ok (.nx ρ')
    | .rt d => .ok (.rt d)
def sFor (src : SA) (g : SG) (F : SS) : SS := fun ρ => (src ρ).bind fun ds => forGo g F ds ρ
def whGo (t : ST) (F : SS) : Nat → PEnv → Res Out
  | 0, _ => .bad
  | n + 1, ρ => (t ρ).bind fun b => if b then (F ρ).bind fun o => match o with
      | .nx ρ' => whGo t F n ρ'
      | .ct ρ' => whGo t F n ρ'
      | .bk ρ' => .ok (.nx ρ')
      | .rt d => .ok (.rt d)
    else .ok (.nx ρ)
def sWh (n : Nat) (t : ST) (F : SS) : SS := whGo t F n
/-- reading of a target -/
def tgD (K : PySem.W.Frag) (g : SG) : TG := fun v σ H Q => ∃ d ρ, Dp K H v d ∧ EnvR K H σ ρ ∧ ∃ ρ', g d ρ = some ρ' ∧ ∀ σ', EnvR K H σ' ρ' → Q σ' H
def tgsD (K : PySem.W.Frag) (g : SGs) : TGs := fun vs σ H Q => ∃ ds ρ, DpAll K H vs ds ∧ EnvR K H σ ρ ∧ ∃ ρ', g ds ρ = some ρ' ∧ ∀ σ', EnvR K H σ' ρ' → Q σ' H
section
variable {X : Cx} {W : Wis} {a b tg : Expr} {pos : Pos} {st : Stmt} {rest : List Stmt} {F G : SS}
theorem pg_weak {t t' : TG} (h : PG X tg t) (w : ∀ v σ H Q, t' v σ H Q → t v σ H Q) : PG X tg t' := ⟨fun pins s σ H v u Q I r q => h.run pins s σ H v u Q I r (w v σ H Q q)⟩
theorem pgs_weak {ts : List Expr} {t t' : TGs} (h : PGs X ts t) (w : ∀ v σ H Q, t' v σ H Q → t v σ H Q) : PGs X ts t' := ⟨fun pins s σ H v u Q I r q => h.run pins s σ H v u Q I r (w v σ H Q q)⟩
theorem gd_name {i : Nat} {x : Str} (hN : X.N.Nodup) (hi : X.N[i]? = some x := by rfl) (hx : Loc X.env.scope x := by first | exact Or.inl rfl | exact Or.inr rfl) (hf : X.fn x = true ∨ X.env.scope.names.lookup x = some .local := by first | exact .inl rfl | exact .inr rfl | assumption) : PG X (.Name x pos) (tgD X.K (gN i)) :=
  pg_weak (pg_name hN hi hx hf) fun v σ H Q ⟨d, ρ, hv, hE, ρ', e, q⟩ => by
    cases e
    exact q _ (hE.set hv)
theorem gds_nil : PGs X [] (tgsD X.K gsNil) := pgs_weak pgs_nil fun v σ H Q ⟨ds, ρ, hv, hE, ρ', e, q⟩ => by
  cases hv with
  | nil => cases e; exact ⟨rfl, q _ hE⟩
  | cons _ _ => cases e
theorem gds_cons {e : Expr} {es : List Expr} {g : SG} {gs : SGs} (h1 : PG X e (tgD X.K g)) (h2 : PGs X es (tgsD X.K gs))
    (hs : (assignEach (e :: es) X.env).map (·.2) = assign e X.env :: (assignEach es X.env).map (·.2) := by rfl) : PGs X (e :: es) (tgsD X.K (gsCons g gs)) := pgs_weak (pgs_cons h1 h2 hs) fun v σ H Q ⟨ds, ρ, hv, hE, ρ', e, q⟩ => by
  cases hv with
  | nil => cases e
  | @cons v1 vs1 d1 ds1 h3 h4 =>
    simp only [gsCons, Option.bind_eq_some_iff] at e
    obtain ⟨ρ1, h5, e⟩ := e
    exact ⟨_, _, rfl, d1, ρ, h3, hE, ρ1, h5, fun σ1 hE1 => ⟨ds1, ρ1, h4, hE1, ρ', e, q⟩⟩
theorem gd_tup {es : List Expr} {k n : Nat} {gs : SGs} (hc : X.calm = true) (h : PGs X es (tgsD X.K gs)) (hn : (assignEach es X.env).length = n := by rfl) (hst : (assignEach es X.env).findIdx? (·.1) = none := by rfl) : PG X (.Tuple es k pos) (tgD X.K (gT n gs)) :=
  pg_weak (pg_tup hc h hn hst) fun v σ H Q ⟨d, ρ, hv, hE, ρ', e, q⟩ => by
    cases hv with
    | tup h1 h2 =>
      simp only [gT] at e
      split at e
      · rename_i hz
        exact ⟨_, _, rfl, h1, by rw [dps_len h2]; exact hz, _, ρ, h2, hE, ρ', e, q⟩
      · cases e
    | _ => cases e
theorem pssd_nil : PSs X [] (tsD X.K W sNext) := pss_weak pss_nil fun D σ H ⟨ρ, hE, q⟩ => q.now σ hE
theorem outP_seq {K : PySem.W.Frag} {D : Ends} {σ : L2.St} {H : Hp} {r : Res Out} (h : (r.bind fun o => match o with
    | .nx ρ' => G ρ'
    | .rt d => .ok (.rt d)
    | .bk ρ' => .ok (.bk ρ')
    | .ct ρ' => .ok (.ct ρ')).post (fun o => fut H (outP K D o)) fun n => fut H (W n)) :
    r.post (fun o => fut H (outP K { D with nx := tsD K W G D } o)) fun n => fut H (W n) :=
  (Res.post_bind.mp h).mono (fun o r => by
    cases o with
    | nx ρ' => exact fun H' s σ' hE => ⟨ρ', hE, r.mono (fun b q => q.on s) fun n q => q.on s⟩
    | rt d => exact r
    | bk ρ' => exact r
    | ct ρ' => exact r) fun n r => r
theorem pssd_cons (h1 : PS X st (tsD X.K W F)) (h2 : PSs X rest (tsD X.K W G)) : PSs X (st :: rest) (tsD X.K W (sSeq F G)) := pss_weak (pss_cons h1 h2) fun D σ H ⟨ρ, hE, q⟩ => ⟨ρ, hE, outP_seq (σ := σ) q⟩
theorem pssd_one (h1 : PS X st (tsD X.K W F)) : PSs X [st] (tsD X.K W F) := pss_one h1
theorem psd_ret {f : SE} (he : PE X a (tD X.K W f)) : PS X (.Return (some a) pos) (tsD X.K W (sRet f)) := ps_weak (ps_ret he) fun D σ H ⟨ρ, hE, q⟩ => tD_mono (tD_then hE q) fun x H1 ⟨d, hx, s1, hE1, q1⟩ => q1.now _ hx
theorem psd_retN : PS X (.Return none pos) (tsD X.K W sRetN) := ps_weak ps_retN fun D σ H ⟨ρ, hE, q⟩ => q.now _ .non
theorem psd_break : PS X (.Break pos) (tsD X.K W sBreak) := ps_weak ps_break fun D σ H ⟨ρ, hE, q⟩ => q.now σ hE
theorem psd_cont : PS X (.Continue pos) (tsD X.K W sCont) := ps_weak ps_continue fun D σ H ⟨ρ, hE, q⟩ => q.now σ hE
theorem psd_pass : PS X (.Pass pos) (tsD X.K W sNext) := ps_weak ps_pass fun D σ H ⟨ρ, hE, q⟩ => q.now σ hE
theorem psd_expr {f : SE} (he : PE X a (tD X.K W f)) (hs : swapsWith a none pos.line X.env = pure false := by rfl) : PS X (.Expr a pos) (tsD X.K W (sDrop f)) := ps_weak (ps_expr he hs) fun D σ H ⟨ρ, hE, q⟩ => tD_mono (tD_then hE q) fun x H1 ⟨d, hx, s1, hE1, q1⟩ => q1.now _ hE1
theorem psd_set {i : Nat} {x : Str} {f : SE} {pos' : Pos} (hN : X.N.Nodup) (he : PE X a (tD X.K W f)) (hi : X.N[i]? = some x := by rfl) (hx : Loc X.env.scope x := by first | exact Or.inl rfl | exact Or.inr rfl) (hs : swapsWith a (some (.Name x pos')) pos.line X.env = pure false := by rfl)
    (hf : X.fn x = true ∨ X.env.scope.names.lookup x = some .local := by first | exact .inl rfl | exact .inr rfl | assumption) : PS X (.Assign [.Name x pos'] a pos) (tsD X.K W (sSet i f)) :=
  ps_weak (ps_set hN hi hx he hs hf) fun D σ H ⟨ρ, hE, q⟩ => tD_mono (tD_then hE q) fun x H1 ⟨d, hx, s1, hE1, q1⟩ => q1.now _ (hE1.set hx)
theorem psd_setLc {i j : Nat} {y x : Str} {py : Pos} {elt iter : Expr} {ifs : List Expr} {scope : Scope} {pos spos : Pos} {src : SA} {t : ST} {f : SE} (hc : X.calm = true) (hN : X.N.Nodup) (hi : PI X tg iter (tiD X.K W src)) (ok : BlkOk X.N X.env.scope scope [(x, j)])
    (hg : ∀ (s : Shared) (H : Hp) (C : Addr) (cl : List (Str × Addr)) (fp : List Addr), PG (X.blk s H scope (compEnvC scope cl C X.env) fp) tg (gName j)) (ht : ∀ (s : Shared) (H : Hp) (C : Addr) (cl : List (Str × Addr)) (fp : List Addr), PTs (X.blk s H scope (compEnvC scope cl C X.env) fp) ifs (ttD X.K (fun _ _ => False) t))
    (he : ∀ (s : Shared) (H : Hp) (C : Addr) (cl : List (Str × Addr)) (fp : List Addr), PE (X.blk s H scope (compEnvC scope cl C X.env) fp) elt (tD X.K (fun _ _ => False) f))
    (hsw : swapsWith (.ListComp elt [⟨tg, iter, ifs, 0⟩] scope pos) (some (.Name y py)) spos.line X.env = pure true := by exact sw_true rfl rfl rfl (by decide +kernel))
    (hy : X.N[i]? = some y := by rfl) (hyl : X.env.scope.names.lookup y = some .local := by rfl) (hs : ∀ x, foldedSetIterable iter X.env x = pure x := by intro _; rfl) :
    PS X (.Assign [.Name y py] (.ListComp elt [⟨tg, iter, ifs, 0⟩] scope pos) spos) (tsD X.K W (sSet i (eLc j src t f))) :=
  ps_weak (ps_setLc hc hN hy hyl hsw hi ok hg ht he hs) fun D σ H ⟨ρ, hE, q⟩ => lc_then (tD_mono (tD_then hE q) fun x H1 ⟨d, hx, s1, hE1, q1⟩ => q1.now _ (hE1.set hx))
theorem psd_asg {f : SE} {g : SG} (he : PE X a (tD X.K W f)) (hg : PG X tg (tgD X.K g)) (hs : swapsWithSole [tg] a pos.line X.env = pure false := by rfl) (hw : swappedStores [tg] a X.env = pure none := by rfl)
    (h1 : (assignEach [tg] X.env).map (·.2) = [assign tg X.env] := by rfl) : PS X (.Assign [tg] a pos) (tsD X.K W (sAsg f g)) :=
  ps_weak (ps_asg he hg hs hw h1) fun D σ H ⟨ρ, hE, q⟩ => tD_mono (tD_then hE q) fun x H1 ⟨d, hx, s1, hE1, q1⟩ => by
    obtain ⟨ρ', h2, q2⟩ := Res.post_of (Res.post_bind.mp q1)
    exact ⟨d, ρ, hx, hE1, ρ', h2, fun σ' hE' => q2.now _ hE'⟩
theorem psd_if {t : ST} {c : Expr} {a b : List Stmt} (hc : PT X c (ttD X.K W t)) (ha : PSs X a (tsD X.K W F)) (hb : PSs X b (tsD X.K W G)) : PS X (.If c a b pos) (tsD X.K W (sIf t F G)) :=
  ps_weak (ps_if hc ha hb) fun D σ H ⟨ρ, hE, q⟩ => ttD_mono (ttD_then hE q) fun k H1 ⟨s1, hE1, q1⟩ => by
    cases k with
    | true => exact iteT ⟨ρ, hE1, q1⟩
    | false => exact iteF ⟨ρ, hE1, q1⟩
theorem psd_for {iter : Expr} {body : List Stmt} {src : SA} {g : SG} (hp : PassesOwn (model X.prog X.w) X.A X.env X.xe) (hc : X.calm = true) (hi : PI X tg iter (tiD X.K W src)) (hg : PG X tg (tgD X.K g)) (hb : PSs X body (tsD X.K W F))
    (hs : ∀ x, foldedSetIterable iter X.env x = pure x := by intro _; rfl) : PS X (.For tg iter body [] pos) (tsD X.K W (sFor src g F)) := by
  refine ps_weak (ps_for hp hc hi hg hb hs) fun D σ H ⟨ρ, hE, q⟩ => ?_
  refine ⟨ρ, hE, (Res.post_bind.mp q).mono (fun ds r H1 s1 J hJ => ?_) fun n r => r⟩
  refine ⟨fun k m σ' H' => m = ds.length - k ∧ k ≤ ds.length ∧ Same H H' ∧ Same H1 H' ∧ ∃ ρ', EnvR X.K H' σ' ρ' ∧ (forGo g F (ds.drop k) ρ').post (fun o => fut H' (outP X.K D o)) fun n => fut H' (W n),
    ⟨ds.length, by simp, Nat.zero_le _, s1, Same.refl _, ρ, hE.mono s1, by rw [List.drop_zero]; exact r.mono (fun o r => r.on s1) fun n r => r.on s1⟩, ?_⟩
  rintro k m σ' H' ⟨rfl, hk, s, s', ρ', hE', r'⟩
  obtain ⟨w1, w2⟩ := hJ k H' s'
  by_cases hlt : k < ds.length
  · have hx : ds[k]? = some ds[k] := List.getElem?_eq_getElem hlt
    obtain ⟨go, yl⟩ := w1 _ hx
    refine .inr ⟨go, fun σ2 H2 => Same H H2 ∧ Same H1 H2 ∧ ∃ ρ', EnvR X.K H2 σ2 ρ' ∧ (forGo g F (ds.drop (k + 1)) ρ').post (fun o => fut H2 (outP X.K D o)) fun n => fut H2 (W n), fun σ2 H2 ⟨a1, a2, a3⟩ => ⟨ds.length - (k + 1), by omega, rfl, hlt, a1, a2, a3⟩, fun x H2 y => ?_⟩
    obtain ⟨e2, hdx⟩ := yl x H2 y
    subst e2
    rw [List.drop_eq_getElem_cons hlt] at r'
    obtain ⟨ρ1, h1, r1⟩ := Res.post_of (Res.post_bind.mp r')
    refine ⟨ds[k], ρ', hdx, hE', ρ1, h1, fun σ2 hE2 => ⟨ρ1, hE2, (Res.post_bind.mp r1).mono (fun o ro H3 s3 => ?_) fun n r => r⟩⟩
    cases o with
    | nx ρ2 => exact fun σ3 hE3 => ⟨s.trans s3, s'.trans s3, ρ2, hE3, ro.mono (fun o q => q.on s3) fun n q => q.on s3⟩
    | ct ρ2 => exact fun σ3 hE3 => ⟨s.trans s3, s'.trans s3, ρ2, hE3, ro.mono (fun o q => q.on s3) fun n q => q.on s3⟩
    | bk ρ2 => exact ro _ s3
    | rt d => exact ro _ s3
  · have e : k = ds.length := by omega
    subst e
    rw [List.drop_length] at r'
    exact .inl ⟨w2 (Nat.le_refl _), r'.now σ' hE'⟩
theorem psd_while {c : Expr} {body : List Stmt} {t : ST} (n : Nat) (hp : PassesOwn (model X.prog X.w) X.A X.env X.xe) (hc : PT X c (ttD X.K W t)) (hb : PSs X body (tsD X.K W F)) : PS X (.While c body [] pos) (tsD X.K W (sWh n t F)) := by
  refine ps_weak (ps_while hp hc hb) fun D σ H ⟨ρ, hE, q⟩ => ?_
  refine ⟨fun m σ' H' => ∃ ρ', EnvR X.K H' σ' ρ' ∧ (whGo t F m ρ').post (fun o => fut H' (outP X.K D o)) fun n => fut H' (W n), ⟨n, ρ, hE, q⟩, ?_⟩
  rintro m σ' H' ⟨ρ', hE', r⟩
  cases m with
  | zero => exact r.elim
  | succ m =>
    refine ttD_mono (ttD_then hE' r) fun k H1 ⟨s1, hE1, r1⟩ => ?_
    cases k with
    | false => exact iteF (r1.now σ' hE1)
    | true =>
      refine iteT ⟨fun σ2 H2 => ∃ ρ', EnvR X.K H2 σ2 ρ' ∧ (whGo t F m ρ').post (fun o => fut H2 (outP X.K D o)) fun n => fut H2 (W n), fun σ2 H2 h2 => ⟨m, Nat.lt_succ_self _, h2⟩, ρ', hE1, (Res.post_bind.mp r1).mono (fun o ro H3 s3 => ?_) fun n r => r⟩
      cases o with
      | nx ρ2 => exact fun σ3 hE3 => ⟨ρ2, hE3, ro.mono (fun o q => q.on s3) fun n q => q.on s3⟩
      | ct ρ2 => exact fun σ3 hE3 => ⟨ρ2, hE3, ro.mono (fun o q => q.on s3) fun n q => q.on s3⟩
      | bk ρ2 => exact ro _ s3
      | rt d => exact ro _ s3
end

/-! ### defs -/
def bodyD (n : Nat) (F : SS) (ds : List PyData) : Res PyData := (F (startD n ds)).bind fun o => match o with
  | .nx _ => .ok .none
  | .rt d => .ok d
  | _ => .bad
section
variable {P : Program} {w : World} {K : PySem.W.Frag} {mg : Str → Option Value} {base : Heap}
theorem body_then {cls : Nat → Value} {N : List Str} {n : Nat} {F : SS} {vs : List V} {H : Hp} {Q : VK} {E : XK} (h : spD K cls n (bodyD N.length F) vs H Q E) :
    tsD K (fun m H' => E (cls m) none H') F { nx := fun _ H' => Q .non H', rt := Q } (start N vs) H := by
  obtain ⟨_, ds, hd, q⟩ := h
  refine ⟨startD N.length ds, envR_start hd, (Res.post_bind.mp q).mono (fun o r H1 s1 => ?_) fun n r => r⟩
  cases o with
  | nx ρ' => exact fun σ' hE => r _ s1 _ .non
  | rt d => exact fun v hv => r _ s1 _ hv
  | bk ρ' => exact r.elim
  | ct ρ' => exact r.elim
/-- a def that nothing leaves by a raise -/
theorem callee_of {cls : Nat → Value} {x qual : Str} {st : Stmt} {f : Addr} {fd : FuncData} {N ps : List Str} {k : Nat} {F : SS} (D : L2.Fun K x qual st f fd) (S : FnScope N ps (defScope st)) (hm : mg x = some (.ref f)) (hb : Binds K fd ps [])
    (body : ∀ (cdv : Value) (A : Around) (outer : List Env) (s : Shared) (H : Hp) (E : XK) (W : Wis), Room k (A.deeper (envOfC qual (defScope st) s.heap.objs.size f cdv)) →
      PSs (cxOf CX0 P w K mg base N qual (defScope st) f cdv A outer s H E).nox (defBody st) (tsD K W F)) : Callee P w K mg base CX0 cls x (k + 1) ps (bodyD N.length F) := by
  refine ⟨f, fd, D.ok S (fun vs H Q E h => h.1) (fun cdv A outer s H vs Q E hr h => ⟨_, body cdv A outer s H E _ hr, body_then h⟩), hm, D.kp, hb, ?_⟩
  obtain ⟨oc, od, kV, doc, pm, an, cdv, ct, osl, rfl, lk, hcd⟩ := D.ex
  exact ⟨oc, od, osl, lk⟩
theorem Callee.mono {CX : CXT} {cls : Nat → Value} {x : Str} {j k : Nat} {ps : List Str} {g : List PyData → Res PyData} (C : Callee P w K mg base CX cls x j ps g) (h : j ≤ k) : Callee P w K mg base CX cls x k ps g := by
  obtain ⟨f, fd, F, r⟩ := C.ex
  exact ⟨f, fd, F.mono h, r⟩
/-- told by another function that agrees where it answers -/
theorem Callee.imp {CX : CXT} {cls : Nat → Value} {x : Str} {k : Nat} {ps : List Str} {g g' : List PyData → Res PyData} (C : Callee P w K mg base CX cls x k ps g) (h : ∀ ds, ds.length = ps.length → g' ds ≠ .bad → g ds = g' ds) : Callee P w K mg base CX cls x k ps g' := by
  obtain ⟨f, fd, F, r⟩ := C.ex
  refine ⟨f, fd, F.imp fun vs H Q E ⟨hl, ds, hd, q⟩ => ⟨hl, ds, hd, ?_⟩, r⟩
  rw [h ds ((dps_len hd).symm.trans hl) fun e => by rw [e] at q; exact q]
  exact q
end
end DL

set_option Elab.async false
set_option linter.all false
set_option maxRecDepth 100000
set_option maxHeartbeats 2000000
namespace DL
open PySem L2 PyProof.Rows

theorem units65 {k : Nat} {A : Around} (hr : Room k A) : A.units + 65 < cLine := by
  have := hr.un
  omega
def negD : PyData → Option PyData
  | .int i => some (.int (-i))
  | _ => none
/-- {'a': 'b', ..}[x], the texts written -/
def menuD (kvs : List (Key × V)) : PyData → Option PyData
  | .str x => (valV (mergeK [] kvs) (.inr x)).bind scaD
  | _ => none
def eMenu (kvs : List (Key × V)) (f : SE) : SE := fun ρ => (f ρ).bind fun x => Res.of (menuD kvs x)
section
variable {X : Cx} {W : Wis} {a b : Expr} {pos : Pos}
theorem ed_neg {f : SE} (h : PE X a (tD X.K W f)) : PE X (.UnaryOp .USub a pos) (tD X.K W (eUn negD f)) := pe_weak (pe_un un_neg h) fun σ H Q q => by
  obtain ⟨ρ, hE, q⟩ := q
  refine tD_mono (tD_then hE q) fun x H1 ⟨d, hx, s1, hE1, q1⟩ => ?_
  obtain ⟨r, hr, q2⟩ := Res.post_of q1
  cases hx <;> simp only [negD, reduceCtorEq, Option.some.injEq] at hr
  subst hr
  exact ⟨_, rfl, q2.now _ (.int _)⟩
/-- the pairs of a display of written texts -/
theorem pairs_then {kvs : List (Key × V)} : ∀ {σ : L2.St} {H : Hp} {Q : List (V × V) → Hp → Prop}, Q (kvs.map fun p => (kV p.1, p.2)) H → tPairs (kvs.map fun p => (tC (kV p.1), tC p.2)) σ H Q := by
  induction kvs with
  | nil => intro σ H Q h; exact h
  | cons p r ih => intro σ H Q h; exact ih h
theorem ed_menu {keys : List (Option Expr)} {vals : List Expr} {p2 : Pos} {f : SE} (kvs : List (Key × V)) (hu : X.A.units + 1 < cLine) (hp : PPs X p2 keys vals (kvs.map fun p => (tC (kV p.1), tC p.2))) (hs : NoSl b) (hb : PE X b (tD X.K W f))
    (hall : keys.all (·.isSome) = true := by rfl) (hl : keys.length = vals.length := by rfl) (h0 : keys ≠ [] := by exact List.cons_ne_nil _ _) (h15 : keys.length ≤ 15 := by decide) (hk : kvs.length ≤ 15 := by decide) : PE X (.Subscript (.Dict keys vals p2) b pos) (tD X.K W (eMenu kvs f)) := by
  refine pe_weak (pe_dget hu (pe_disp hp hall hl h0 h15) hb hs) fun σ H Q h => ?_
  obtain ⟨ρ, hE, q⟩ := h
  intro p hp
  refine pairs_then ⟨upd_same, kvs, rfl, hk, ?_⟩
  rw [upd_upd]
  have s0 : Same H (upd H p (.dK (mergeK [] kvs))) := same_new hp _
  have q0 : (eMenu kvs f ρ).post (fun d => fut (upd H p (.dK (mergeK [] kvs))) fun H' => ∀ v, Dp X.K H' v d → Q v H') fun n => fut (upd H p (.dK (mergeK [] kvs))) (W n) := Res.post.mono q (fun d r => r.on s0) fun n r => r.on s0
  refine tD_mono (tD_then (hE.mono s0) q0) fun y H2 ⟨e, hy, s2, hE2, q2⟩ => ?_
  obtain ⟨r, hr, q3⟩ := Res.post_of q2
  cases hy <;> simp only [menuD, reduceCtorEq] at hr
  rename_i x _
  cases hv : valV (mergeK [] kvs) (.inr x) with
  | none => rw [hv] at hr; cases hr
  | some v =>
    rw [hv] at hr
    refine ⟨p, v, rfl, ?_, q3.now _ (dp_sca hr)⟩
    have z := DGet.k (k := .inr x) (s2 _ _ (upd_same (H := H) (a := p) (o := .dK (mergeK [] kvs))))
    rw [hv] at z
    exact z
end

/-! ### the text's defs and constants as they stand behind the top -/
structure DefAt (K : PySem.W.Frag) (mg : Str → Option Value) (x : Str) (st : Stmt) (ps : List Str) : Prop where
  ex : ∃ f fd, L2.Fun K x x st f fd ∧ mg x = some (.ref f) ∧ Binds K fd ps []
section
variable {K : PySem.W.Frag} {mg : Str → Option Value} {h : Heap}
theorem defAt_mk {x : Str} {st : Stmt} {ps : List Str} {f : Addr} {oc : Value} {od an : Option Addr} {osl : Array (Option Value)} {kV doc pm cdv ct : Value} (X : K.In h) (G : h.Ns mainGlobals mg) (a : PySem.W.nsIn K mainGlobals x = some (some (.ref f)))
    (l : K.lookup f = some ⟨oc, od, .func (PySem.W.fnOf x x (defArgs st) (defBody st) (defScope st) .none kV doc pm an cdv ct), osl⟩) (c : PySem.W.codeIn K cdv x = true) (k : PySem.W.keepIn K (.ref f) = true)
    (hb : ∀ (kV doc pm : Value) (an : Option Addr) (cdv ct : Value) (us : List Value), us.length = ps.length → bindArgs (PySem.W.fnOf x x (defArgs st) (defBody st) (defScope st) .none kV doc pm an cdv ct) ⟨us, []⟩ = pure (ps.zip us)) : DefAt K mg x st ps :=
  ⟨f, _, fun_mk l c k, PySem.W.mg_of X G a, (fun_mk (st := st) l c k).binds hb⟩
theorem gl_int {x : Str} {i : Int} {t : Tok} (X : K.In h) (G : h.Ns mainGlobals mg) (a : PySem.W.nsIn K mainGlobals x = some (some (.int i t))) : GlD K mg x (.int i) := ⟨.int i, _, PySem.W.mg_of X G a, ⟨t, rfl⟩, fun H => .int i⟩
theorem gl_str {x : Str} {i : Str} {t : Tok} (X : K.In h) (G : h.Ns mainGlobals mg) (a : PySem.W.nsIn K mainGlobals x = some (some (.str i t))) : GlD K mg x (.str i) := ⟨.str i, _, PySem.W.mg_of X G a, ⟨t, rfl⟩, fun H => .str i⟩
/-- a value of the written part, as data -/
def KD (K : PySem.W.Frag) (u : Value) (d : PyData) : Prop := ∃ v, RelV v u ∧ ∀ H, Dp K H v d
def KDs (K : PySem.W.Frag) (us : List Value) (ds : List PyData) : Prop := us.length ≤ 16777216 ∧ ∃ vs, Vals vs us ∧ ∀ H, DpAll K H vs ds
theorem kd_str {x : Str} {t : Tok} : KD K (.str x t) (.str x) := ⟨.str x, ⟨t, rfl⟩, fun H => .str x⟩
theorem kd_int {x : Int} {t : Tok} : KD K (.int x t) (.int x) := ⟨.int x, ⟨t, rfl⟩, fun H => .int x⟩
theorem kds_nil : KDs K [] [] := ⟨by decide, [], .nil, fun H => .nil⟩
theorem kds_cons {u : Value} {us : List Value} {d : PyData} {ds : List PyData} (h1 : KD K u d) (h2 : KDs K us ds) (hl : (u :: us).length ≤ 16777216 := by exact Nat.le_of_ble_eq_true rfl) : KDs K (u :: us) (d :: ds) := by
  obtain ⟨v, r, hv⟩ := h1
  obtain ⟨_, vs, rs, hvs⟩ := h2
  exact ⟨hl, v :: vs, .cons r rs, fun H => .cons (hv H) (hvs H)⟩
theorem kd_tup {a : Addr} {o : Option Addr} {n : Nat} {its : Array Value} {sl : Array (Option Value)} {ds : List PyData} (l : K.lookup a = some ⟨.type "tuple", o, .seq its n, sl⟩) (h : KDs K its.toList ds) : KD K (.ref a) (.tuple ds) := by
  obtain ⟨hz, vs, rs, hvs⟩ := h
  refine ⟨.ref a, rfl, fun H => .tup (.inr ⟨_, its, n, l, rfl, rfl, ?_, rs⟩) (hvs H)⟩
  rw [sizeLine_eq]
  simpa using hz
theorem gl_ref {x : Str} {a : Addr} {d : PyData} (X : K.In h) (G : h.Ns mainGlobals mg) (e : PySem.W.nsIn K mainGlobals x = some (some (.ref a))) (k : KD K (.ref a) d) : GlD K mg x d := by
  obtain ⟨v, r, hv⟩ := k
  exact ⟨v, _, PySem.W.mg_of X G e, r, hv⟩
theorem callee_bad {P : Program} {w : World} {base : Heap} {CX : CXT} {cls : Nat → Value} {x : Str} {st : Stmt} {ps : List Str} {k : Nat} (D : DefAt K mg x st ps) : Callee P w K mg base CX cls x k ps (fun _ => .bad) := by
  obtain ⟨f, fd, F, hm, hb⟩ := D.ex
  have no : ∀ vs H Q E, ¬ spD K cls ps.length (fun _ => .bad) vs H Q E := fun vs H Q E h => by
    obtain ⟨_, _, _, q⟩ := h
    exact q
  refine ⟨f, fd, ⟨fun vs H Q E h => absurd h (no vs H Q E), fun A outer s H args us vs Q E _ _ _ _ h => absurd h (no vs H Q E)⟩, hm, F.kp, hb, ?_⟩
  obtain ⟨oc, od, kV, doc, pm, an, cdv, ct, osl, rfl, lk, hcd⟩ := F.ex
  exact ⟨oc, od, osl, lk⟩
end
/-- the end of a law -/
theorem walk_data {l : PySem.W.OpenLaw} {k : Nat} {q : Program} {loose : List Str} {XP : (Str → Option Value) → Heap → Prop} {YP : World → Heap → Prop} {d : DefRec} {K : Params → PySem.W.Frag} {g : List PyData → Res PyData} {st : Stmt}
    (hr1 : 3 * k + 5 < recursionLimit - callerA.depth) (hr2 : 16 * k + 200 < cLine - callerA.units) (hn : l.most = some 63) (hd : d.params.defaults = []) (hd2 : d.name = "law")
    (hY : ∀ (w : World) (h : Heap), YP w h → (K w.params).In h)
    (D : ∀ (w : World) (mg : Str → Option Value) (h : Heap), (K w.params).In h → h.Ns mainGlobals mg → DefAt (K w.params) mg "law" st ["_law_script"])
    (F : ∀ (w : World) (mg : Str → Option Value) (h : Heap), (K w.params).In h → h.Ns mainGlobals mg → ∀ base : Heap, Callee l.prog w (K w.params) mg base CX0 (fun _ => .none) "law" k ["_law_script"] g)
    (hbind : ∀ fd : FuncData, (∃ kV doc pm an cdv ct, fd = PySem.W.fnOf "law" "law" (defArgs st) (defBody st) (defScope st) .none kV doc pm an cdv ct) → ∀ (s : Shared) (u : Value), BindsTo s fd ⟨[u], []⟩ [("_law_script", u)])
    (plain : ∀ ns : List Int, ns.length ≤ 63 → g [.list (ns.map PyData.int)] = .ok (.bool true)) : PySem.W.WalkO q loose XP YP l.row.toRowW d [] (fun f vs => PySem.call f vs) := by
  refine L2.walk_of (n := 63) (k := k) (x := "_law_script") (CX := fun _ => CX0) (K := K) (sp := fun w => spD (K w.params) (fun _ => .none) 1 g) hn (by decide) hd ⟨rfl, by omega, by omega⟩ hY (fun w mg fa h X G hmg => ?_) (fun w H a ns hl _ hS => ⟨rfl, _, .cons (.lst hS (dps_ints ns)) .nil, ?_⟩) fun _ _ _ _ _ z => z
  · rw [hd2] at hmg
    obtain ⟨f, fd, D1, hm1, hb1⟩ := (D w mg h X G).ex
    cases hmg.symm.trans hm1
    obtain ⟨oc, od, kV, doc, pm, an, cdv, ct, osl, e, lk, _⟩ := D1.ex
    refine ⟨fd, fun s u => ?_, fun base _ _ => ?_⟩
    · exact hbind fd ⟨kV, doc, pm, an, cdv, ct, e⟩ s u
    · obtain ⟨f2, fd2, C, hm2, _, _, oc2, od2, osl2, lk2⟩ := (F w mg h X G base).ex
      cases hm1.symm.trans hm2
      rw [lk] at lk2
      cases lk2
      exact C
  · rw [plain ns hl]
    intro H' s v hv
    cases hv
    rfl
end DL

set_option Elab.async false
set_option linter.all false
set_option maxRecDepth 100000
set_option maxHeartbeats 2000000
namespace DL
open PySem L2 PyProof.Rows
def sBad : SS := fun _ => .bad
section
variable {X : Cx} {W : Wis} {a b : Expr} {pos : Pos}
/-- what is not reached -/
theorem psd_bad {st : Stmt} : PS X st (tsD X.K W sBad) := ⟨fun pins s σ H D I q => by
  obtain ⟨ρ, hE, q⟩ := q
  exact q.elim⟩
/-! a place in a module's tuple of texts -/
structure GlT (K : PySem.W.Frag) (mg : Str → Option Value) (x : Str) (ys : List Str) : Prop where
  at_ : ∃ a o, mg x = some (.ref a) ∧ (∀ H, SqT K H a (ys.map V.str)) ∧ K.lookup a = some o ∧ o.dict = none ∧ o.cls = .type "tuple"
def gindexD (ys : List Str) : PyData → Option PyData
  | .str z => if z ∈ ys then some (.int (ys.idxOf z : Nat)) else none
  | _ => none
theorem ed_gindex {x : Str} {ys : List Str} {p apos : Pos} {h : SE} (g : GlT X.K X.mg x ys) (he : PE X b (tD X.K W h)) (hg : Gl X x := by rfl) (hs : starEach [b] X.env = [(false, eval b X.env)] := by rfl)
    (hbase : attributeBase (.Name x p) "index" X.env (eval (.Name x p) X.env) = eval (.Name x p) X.env := by rfl) (hline : (apos.endLine == pos.line) = true := by rfl) (hd : (x == ("__debug__" : Str)) = false := by decide) :
    PE X (.Call (.Attribute (.Name x p) "index" apos) [b] [] pos) (tD X.K W (eUn (gindexD ys) h)) := by
  obtain ⟨a, o, hm, hsq, hk, hdn, hcl⟩ := g.at_
  refine ⟨fun pins s σ H Q I hh => ?_⟩
  obtain ⟨ρ, hE, q⟩ := hh
  have q0 := tD_then (K := X.K) (W := W) (f := h) hE q
  refine PySem.Call_method1 hbase hs hline (ld_glob I hg hm ?_ hd)
  refine ⟨"tuple", _, F.plainAttrs_tuple, F.slot_tuple_index, F.type_tuple_index, ⟨o, I.kIn a o hk, hcl⟩, (fun c e => by cases e; exact ⟨o, I.kIn a o hk, hdn⟩), Calls.callWith_builtin rfl (Calls.evalArgs_plain (Calls.spliced_cons ?_))⟩
  refine thn (he.run pins s σ H _ I q0) fun u s2 ⟨y, H2, I2, r2, q2⟩ => Calls.spliced_nil ?_
  obtain ⟨d, hy, s1, hE1, q1⟩ := q2
  obtain ⟨r, hr, q3⟩ := Res.post_of q1
  obtain ⟨z, rfl, rfl⟩ : ∃ z, d = .str z ∧ y = .str z := by
    cases hy with
    | str z => exact ⟨z, rfl, rfl⟩
    | _ => simp [gindexD] at hr
  simp only [gindexD] at hr
  split at hr <;> cases hr
  rename_i hz
  have hl := List.idxOf_lt_length_of_mem hz
  refine mt_tup_index pins s2 σ H2 (.ref a) [.str z] _ [u] Q I2 rfl (.cons r2 .nil) ⟨a, ys, z, ys.idxOf z, rfl, rfl, hsq H2, ?_, ?_, q3.now _ (.int _)⟩
  · rw [List.getElem?_eq_getElem hl]
    simp
  · intro m hmj e
    have := List.not_of_lt_findIdx (p := (· == z)) (xs := ys) (i := m) hmj
    obtain ⟨h1, h2⟩ := List.getElem?_eq_some_iff.mp e
    rw [h2] at this
    simp at this
end
section
variable {K : PySem.W.Frag} {mg : Str → Option Value} {h : Heap}
theorem strs_vals : ∀ {us : List Value} {ys : List Str}, KDs K us (ys.map PyData.str) → ∃ vs, Vals vs us ∧ vs = ys.map V.str
  | [], [], _ => ⟨[], .nil, rfl⟩
  | _, _, h => by
    obtain ⟨hl, vs, rs, hvs⟩ := h
    have e := hvs (fun _ => none)
    exact ⟨vs, rs, dps_strs_of e⟩
theorem gt_ref {x : Str} {a : Addr} {n : Nat} {its : Array Value} {sl : Array (Option Value)} {ys : List Str} (X : K.In h) (G : h.Ns mainGlobals mg) (e : PySem.W.nsIn K mainGlobals x = some (some (.ref a)))
    (l : K.lookup a = some ⟨.type "tuple", none, .seq its n, sl⟩) (k : KDs K its.toList (ys.map PyData.str)) : GlT K mg x ys := by
  refine ⟨a, _, PySem.W.mg_of X G e, fun H => ?_, l, rfl, rfl⟩
  obtain ⟨vs, rs, rfl⟩ := strs_vals k
  refine .inr ⟨_, its, n, l, rfl, rfl, ?_, rs⟩
  rw [sizeLine_eq]
  simpa using k.1
end
@[simp] theorem sBad_ap {ρ : PEnv} : sBad ρ = .bad := rfl
end DL

set_option Elab.async false
set_option linter.all false
set_option maxRecDepth 100000
set_option maxHeartbeats 2000000
/-! tuple(reversed(a tuple)) -/
namespace RT
open PySem PySem.Spec PyProof.Rows
theorem nolen_rt : typeLookup (.type "reversed") "__len__" = pure none := by rw [typeLookup_type, builtinLookup_eq_fast]; kernel_rfl
theorem hint_rt : typeLookup (.type "reversed") "__length_hint__" = pure (some (.builtin "reversed.__length_hint__")) := by rw [typeLookup_type, builtinLookup_eq_fast]; kernel_rfl
theorem slot_rt_hint : Slot "reversed" "__length_hint__" "reversed.__length_hint__" :=
  .of (owner := "reversed") (n := "__length_hint__") (by rw [typeLookup_type, builtinLookup_eq_fast]; kernel_rfl) (by decide +kernel) (by decide +kernel) (by decide +kernel)
    (by first | exact .inl (by decide +kernel) | exact .inr (by decide +kernel)) (by rw [isSubtype_type]; kernel_rfl)
theorem entry_rt_hint : entryFor table "reversed.__length_hint__" = some Builtin.«reversed.__length_hint__» := entryFor_of_tree (by kernel_rfl)
theorem args_rt_hint (a : Value) : argsOk "reversed.__length_hint__" ⟨[a], []⟩ := by
  unfold argsOk; rw [signature?_of (id := "reversed.__length_hint__") (n := ['_', '_', 't', 'n', 'i', 'h', '_', 'h', 't', 'g', 'n', 'e', 'l', '_', '_']) (o := ['d', 'e', 's', 'r', 'e', 'v', 'e', 'r']) (by kernel_rfl) owner_rt]; kernel_rfl
section
variable {prog : Program} {w : World} {A : Around} {E : Value → Shared → Prop} {s : Shared}
theorem call_hint_rt {it t : Addr} {items : Array Value} {Q : Value → Shared → Prop} (hit : IsRt s.heap it t ((items.size : Int) - 1)) (ht : IsTup s.heap t items) (hn : items.size ≤ sizeLine)
    (h : ∀ tk tk', Q (.int items.size tk) { s with toks := tk' }) : wpAny (model prog w) A (call (.builtin "reversed.__length_hint__") [.ref it]) Q E s := by
  obtain ⟨o, ho, hc, hd⟩ := id hit
  rw [sizeLine_eq] at hn
  refine wpAny_call_entry slot_rt_hint hit.typeIs entry_rt_hint ?_ (args_rt_hint _)
  unfold Builtin.«reversed.__length_hint__»
  refine wpAny_bind (wpAny_of_eq (a := Value.ref it) rfl ?_)
  refine wpAny_bind (wpAny_field ho hd (x := .ref t) rfl ?_)
  try dsimp only
  rw [if_neg (by intro e; cases e)]
  refine wpAny_bind ?_
  refine len_tuple ht (by omega) ?_
  refine wpAny_bind (wpAny_of_eq (a := some ((items.size : Nat) : Int)) rfl ?_)
  try dsimp only
  refine wpAny_bind (wpAny_field ho hd (x := rawInt ((items.size : Int) - 1)) rfl ?_)
  show wpAny _ _ (if ((items.size : Nat) : Int) < (items.size : Int) - 1 + 1 then _ else _) _ _ _
  rw [if_neg (by omega)]
  refine wpAny_bind (wpAny_mkInt ?_)
  refine wpAny_pure ⟨_, rfl, ?_⟩
  rw [show (items.size : Int) - 1 + 1 = items.size by omega]
  exact h _ _
theorem tup_at {h h' : Heap} {t : Addr} {items : Array Value} (x : IsTup h t items) (e : ∀ o, h.get? t = some o → h'.get? t = some o) : IsTup h' t items := let ⟨o, ho, r⟩ := x; ⟨o, e _ ho, r⟩
theorem Walks.tupRev (hh : A.handled = none) (I t : Addr) (hne : t ≠ I) (items : Array Value) (hn : items.size ≤ sizeLine) :
    Walks prog w A I [I, t] [I] items.size (fun i v => items[items.size - 1 - i]? = some v) (fun i h => i ≤ items.size ∧ IsRt h I t ((items.size : Int) - 1 - (i : Int)) ∧ IsTup h t items) where
  sub := fun b hb => by simp at hb; simp [hb]
  frame := fun _ _ _ x hk => ⟨x.1, x.2.1.at fun o e => hk I (by simp) o e, tup_at x.2.2 fun o e => hk t (by simp) o e⟩
  item := fun i s Q E hi x hQ => by
    have e : (items.size : Int) - 1 - (i : Int) = ((items.size - 1 - i : Nat) : Int) := by omega
    have hit := x.2.1
    rw [e] at hit
    have hx : items[items.size - 1 - i]? = some (items[items.size - 1 - i]'(by omega)) := Array.getElem?_eq_getElem (by omega)
    refine next_rt_item hit x.2.2 hx hn fun h' hit' hs' => ?_
    have e2 : ((items.size - 1 - i : Nat) : Int) - 1 = (items.size : Int) - 1 - ((i + 1 : Nat) : Int) := by omega
    rw [e2] at hit'
    exact hQ _ h' (s.toks + 1) hx ⟨hi, hit', tup_at x.2.2 fun o eo => (hs'.2 t hne).trans eo⟩ fun b o hb eo => (hs'.2 b (fun h => hb (by simp [h]))).trans eo
  done := fun s Q E x hQ => by
    have e : (items.size : Int) - 1 - (items.size : Int) = -1 := by omega
    have hit := x.2.1
    rw [e] at hit
    exact next_rt_end hh hit fun h' he' => hQ h' s.toks fun b o hb eo => he' b o (fun h => hb (by simp [h])) eo
  self := fun _ _ _ _ x hQ => iter_rt x.2.1 hQ
theorem len_hint_rt {it t : Addr} {items : Array Value} {Q : Bool → Shared → Prop} (hit : IsRt s.heap it t ((items.size : Int) - 1)) (ht : IsTup s.heap t items) (hn : items.size ≤ sizeLine)
    (h : ∀ tk', Q (((items.size : Nat) : Int) != 0) { s with toks := tk' }) : wpAny (model prog w) A (Builtin.List.listLengthHint (.ref it)) Q E s := by
  have hT := hit.typeIs
  have hz := hn
  rw [sizeLine_eq] at hz
  have f1 : Builtin.List.listFitsIndex ((items.size : Nat) : Int) = true := by
    unfold Builtin.List.listFitsIndex
    rw [Bool.and_eq_true]
    exact ⟨decide_eq_true (by omega), decide_eq_true (by omega)⟩
  have f2 : Builtin.List.listTooLong (((items.size : Nat) : Int).toNat) = false := by
    unfold Builtin.List.listTooLong
    exact decide_eq_false (by rw [Int.toNat_natCast]; omega)
  unfold Builtin.List.listLengthHint
  refine wpAny_bind (wpAny_specialOf hT nolen_rt ?_)
  show wpAny _ A (specialOf (Value.ref it) (Str.ofString "__length_hint__") >>= _) _ _ _
  refine wpAny_bind (wpAny_specialOf hT hint_rt ?_)
  generalize hid : ("reversed.__length_hint__" : String) = id0
  wp_delta
  rw [show splitId id0 = some ("reversed", "__length_hint__") from by subst hid; decide +kernel]
  subst hid
  refine wpAny_bind (wpAny_isInstance (b := true) hT (by rw [isSubtype_type]; kernel_rfl) ?_)
  rw [if_neg (by decide)]
  dsimp only
  rw [if_neg (by decide +kernel)]
  refine wpAny_bind (wpAny_rule ?_)
  refine wpAny_bind (wpAny_of_eq (slot_rt_hint.bind _) ?_)
  dsimp only
  refine wpAny_bind (wpAny_attempt (call_hint_rt hit ht hn fun tk tk' => ?_))
  dsimp only
  generalize hk : ((items.size : Nat) : Int) = k at *
  have ea : asInt? (Value.int k tk) = pure (some k) := rfl
  rw [ea]
  refine wpAny_bind ?_
  refine wpAny_pure ?_
  dsimp only
  rw [f1, f2]
  rw [if_neg (by decide)]
  rw [if_neg (by omega)]
  rw [if_neg (by decide)]
  exact wpAny_pure (h tk')
theorem collect_rt {it t : Addr} {items : Array Value} {Q : List Value → Shared → Prop} (hh : A.handled = none) (hit : IsRt s.heap it t ((items.size : Int) - 1)) (hl : IsTup s.heap t items) (hne : t ≠ it) (hn : items.size ≤ sizeLine)
    (hQ : ∀ (h' : Heap) (tk : Nat) (acc : Array Value), (∀ b o, b ≠ it → s.heap.get? b = some o → h'.get? b = some o) → ItemsOf (fun i v => items[items.size - 1 - i]? = some v) acc items.size → Q acc.toList { s with heap := h', toks := tk }) :
    wpAny (model prog w) A (collect (.ref it)) Q E s := by
  have W := (Walks.tupRev (prog := prog) (w := w) (A := A.in1) hh it t hne items hn).toS
  obtain ⟨oi, hoi, _⟩ := id hit
  obtain ⟨ol, hol, _⟩ := id hl
  have hSi : s.heap.objs.size ≠ it := Nat.ne_of_gt (Heap.lt_size hoi)
  have hSl : s.heap.objs.size ≠ t := Nat.ne_of_gt (Heap.lt_size hol)
  have hSf : s.heap.objs.size ∉ [it, t] := by simp only [List.mem_cons, List.not_mem_nil, or_false, not_or]; exact ⟨hSi, hSl⟩
  unfold collect
  refine wpAny_bind (wpAny_runValue (codeAny_builtin F.entry_proto_collect ?_))
  rw [Around.under_plainId F.plain_proto_collect _]
  show wpAny _ A.in1 (newList [] >>= fun l' => again (.builtin "list.__iadd__" ⟨[l', .ref it], []⟩)) _ _ s
  refine wpAny_bind (wpAny_newObj_type ?_)
  refine wpAny_pure ⟨plainId_quiet F.plain_list_iadd _, codeAny_builtin F.entry_list_iadd ?_⟩
  rw [Around.under_plainId F.plain_list_iadd _]
  have hS₁ : (s.heap.push { cls := .type "list", data := .seq ([] : List Value).toArray }).get? s.heap.objs.size = some { cls := .type "list", data := .seq ([] : List Value).toArray } := Heap.get?_push_size _ rfl
  have hit1 : IsRt (s.heap.push { cls := .type "list", data := .seq ([] : List Value).toArray }) it t ((items.size : Int) - 1) := hit.at fun o e => Heap.get?_push_of_some _ e
  have hl1 : IsTup (s.heap.push { cls := .type "list", data := .seq ([] : List Value).toArray }) t items := tup_at hl fun o e => Heap.get?_push_of_some _ e
  have hT : ({ s with heap := s.heap.push { cls := .type "list", data := .seq ([] : List Value).toArray } } : Shared).TypeIs (.ref it) "reversed" := IsRt.typeIs (s := { s with heap := s.heap.push { cls := .type "list", data := .seq ([] : List Value).toArray } }) hit1
  have h1 : Builtin.List.listSameRef (.ref s.heap.objs.size) (.ref it) = false := by simp [Builtin.List.listSameRef, hSi]
  have e0 : ((items.size : Nat) : Int) - 1 - ((0 : Nat) : Int) = (items.size : Int) - 1 := by omega
  show wpAny _ A.in1 (Builtin.List.listExtendWith (.ref s.heap.objs.size) (.ref it) (.ref s.heap.objs.size)) _ _ _
  unfold Builtin.List.listExtendWith
  refine wpAny_bind (wpAny_typeOf hT ?_)
  rw [if_neg (by rw [h1]; decide)]
  refine wpAny_bind (iter_rt (s := { s with heap := s.heap.push { cls := .type "list", data := .seq ([] : List Value).toArray } }) hit1 ?_)
  refine wpAny_bind (wpAny_holding ?_)
  refine len_hint_rt (s := { s with heap := s.heap.push { cls := .type "list", data := .seq ([] : List Value).toArray } }) hit1 hl1 hn fun tk' => ?_
  have fin : ∀ (h2 : Heap) (tk c : Nat), h2.get? s.heap.objs.size = some { cls := .type "list", data := .seq (#[] : Array Value) c } → (∀ b o, b ≠ s.heap.objs.size → s.heap.get? b = some o → h2.get? b = some o) →
      codeAny (model prog w) A (.builtin "list.extend.loop" ⟨[.ref s.heap.objs.size, .ref it, .ref s.heap.objs.size], []⟩) (fun r s' => match r with
        | .ok (.ret v) => wpAny (model prog w) A (match v with
          | .ref a => do
            let o ← load a
            match o.data with
            | .seq xs _ => pure xs.toList
            | _ => unsupported "internal:collect"
          | _ => unsupported "internal:collect") Q E s'
        | .ok _ => False
        | .error e => E e s') { s with heap := h2, toks := tk } := fun h2 tk c hS hk => by
    have hst : IsRt h2 it t ((items.size : Int) - 1 - ((0 : Nat) : Int)) ∧ IsTup h2 t items := ⟨by rw [e0]; exact hit.at fun o e => hk it o (Ne.symm hSi) e, tup_at hl fun o e => hk t o (Ne.symm hSl) e⟩
    refine codeAny_extend_loopS W hn _ hSf _ items.size 0 { s with heap := h2, toks := tk } _ _ rfl (Nat.zero_le _) ⟨Nat.zero_le _, hst.1, hst.2⟩ hS (ItemsOf.nil _) fun s' acc' c' hm hS' hacc => ?_
    show wpAny _ A (load s.heap.objs.size >>= _) _ _ s'
    refine wpAny_bind (wpAny_load hS' ?_)
    refine wpAny_pure ?_
    rw [Moved.eq_with hm]
    refine hQ s'.heap s'.toks acc' (fun b o hb e => hm.heap b o (fun hmem => ?_) (hk b o (Nat.ne_of_lt (Heap.lt_size e)) e)) hacc
    rcases List.mem_cons.mp hmem with e' | hmem
    · exact absurd (Heap.lt_size e) (by rw [e']; exact Nat.lt_irrefl _)
    · exact hb (List.mem_singleton.mp hmem)
  have old : ∀ b o, b ≠ s.heap.objs.size → s.heap.get? b = some o → (s.heap.push { cls := .type "list", data := .seq ([] : List Value).toArray }).get? b = some o := fun b o _ e => Heap.get?_push_of_some _ e
  by_cases hk : items.size = 0
  · have e : (((items.size : Nat) : Int) != 0) = false := by rw [hk]; rfl
    rw [e]
    dsimp only
    rw [if_neg (by decide +kernel)]
    exact wpAny_pure ⟨plainId_quiet F.plain_extend_loop _, fin _ tk' _ hS₁ old⟩
  · have e : (((items.size : Nat) : Int) != 0) = true := by simp [hk]
    rw [e]
    dsimp only
    rw [if_pos (by rw [Bool.true_or])]
    refine wpAny_bind (wpAny_rule ?_)
    refine wpAny_bind ?_
    unfold Builtin.List.listTouch
    show wpAny _ A.in1 (updateSeq s.heap.objs.size (·.push .none) >>= fun _ => updateSeq s.heap.objs.size (·.pop)) _ _ _
    refine wpAny_bind (wpAny_updateSeq hS₁ rfl ?_ (by decide) (by decide))
    have h2 := Heap.get?_update_self (Obj.mapSeq fun x => x.push Value.none) hS₁ rfl
    refine wpAny_updateSeq h2 rfl ?_ (by decide) (by decide)
    have h3 := Heap.get?_update_self (Obj.mapSeq fun x => x.pop) h2 rfl
    refine wpAny_pure ⟨plainId_quiet F.plain_extend_loop _, fin _ tk' _ h3 fun b o hb e => ?_⟩
    rw [Heap.get?_update_other _ _ (Ne.symm hb), Heap.get?_update_other _ _ (Ne.symm hb)]
    exact old b o hb e
theorem code_tuple_new_rt {it t : Addr} {items : Array Value} {Q₁ : Value → Shared → Prop} (hh : A.handled = none) (hit : IsRt s.heap it t ((items.size : Int) - 1)) (hl : IsTup s.heap t items) (hne : t ≠ it) (hn : items.size ≤ sizeLine)
    (h : ∀ (h' : Heap) (tk : Nat) (acc : Array Value), (∀ b o, b ≠ it → s.heap.get? b = some o → h'.get? b = some o) → ItemsOf (fun i v => items[items.size - 1 - i]? = some v) acc items.size →
      Q₁ (.ref h'.objs.size) { s with heap := h'.push { cls := .type "tuple", data := .seq acc }, toks := tk }) :
    codeAny (model prog w) A (.call (.builtin "tuple.__new__") ⟨[.type "tuple", .ref it], []⟩) (wants Q₁ E) s := by
  refine codeAny_of_tree ?_
  show wpAny _ A.in1 (do checkBuiltinCall "tuple.__new__" ⟨[.type "tuple", .ref it], []⟩; again (.builtin "tuple.__new__" ⟨[.type "tuple", .ref it], []⟩)) _ _ s
  refine wpAny_bind (wpAny_of_eq (F.newCall_tuple_1 _) (wpAny_pure ⟨plainId_quiet F.plain_tuple_new _, codeAny_builtin F.entry_tuple_new ?_⟩))
  rw [Around.under_plainId F.plain_tuple_new _]
  have hsub := sub_tuple_self
  have hinit := init_tuple_lookup
  have hmh := madeHere_tuple
  have hTI : s.TypeIs (.ref it) "reversed" := hit.typeIs
  have hh1 : A.in1.handled = none := hh
  wp_walk using wpAny_typeOf hTI, collect_rt (A := A.in1) hh1 hit hl hne hn
  intro h' tk acc hk hacc
  show wpAny _ _ (Builtin.Tuple.tupleExact acc.toList.toArray >>= fun v => ret v) _ _ _
  unfold Builtin.Tuple.tupleExact
  refine wpAny_bind (wpAny_newObj_type ?_ (by show acc.toList.toArray.size ≤ sizeLine; simp only [Array.toArray_toList]; rw [hacc.1]; exact hn))
  refine wpAny_pure ?_
  have e : acc.toList.toArray = acc := by simp
  rw [e]
  exact h h' tk acc hk hacc
theorem call_tuple_rt {it t : Addr} {items : Array Value} {Q : Value → Shared → Prop} (hh : A.handled = none) (hit : IsRt s.heap it t ((items.size : Int) - 1)) (hl : IsTup s.heap t items) (hne : t ≠ it) (hn : items.size ≤ sizeLine)
    (hQ : ∀ (h' : Heap) (tk : Nat) (acc : Array Value), (∀ b o, b ≠ it → s.heap.get? b = some o → h'.get? b = some o) → ItemsOf (fun i v => items[items.size - 1 - i]? = some v) acc items.size →
      Q (.ref h'.objs.size) { s with heap := h'.push { cls := .type "tuple", data := .seq acc }, toks := tk }) :
    wpAny (model prog w) A (call (.type "tuple") [.ref it]) Q E s := by
  refine callType_codes (Q₁ := fun obj s₁ => s₁.TypeIs obj "tuple" ∧ Q obj s₁) F.called_tuple (F.typeCall_tuple_1 _) F.entry_object_init
    (code_tuple_new_rt (A := A.in1) hh hit hl hne hn fun h' tk acc hk hacc => ⟨⟨_, Heap.get?_push_size _ rfl, rfl⟩, hQ h' tk acc hk hacc⟩) fun obj s₁ h₁ => ?_
  exact ⟨h₁.1, F.args_object_init_2 obj _, object_init_meets F.called_tuple.init.lookup F.called_tuple.made (by decide) prog w A.in1 _ s₁ ⟨h₁.1, rfl, h₁.2⟩⟩
end
end RT

namespace RT
open PySem PySem.Spec PyProof.Rows L2
section
variable {X : Cx}
/-- tuple(reversed(x)), x a tuple: a new tuple -/
def tTupRevT (K : PySem.W.Frag) (te : TE) : TE := fun σ H Q => te σ H fun v H1 => ∃ (a : Addr) (xs : List V), v = .ref a ∧ SqT K H1 a xs ∧ ∀ q, H1 q = none → Q (.ref q) (upd H1 q (.tup xs.reverse))
theorem pe_tupRevT {e : Expr} {te : TE} {p p2 pos pos2 : Pos} (hc : X.calm = true) (hg : Gl X "tuple") (hm : X.mg "tuple" = none) (hg2 : Gl X "reversed") (hm2 : X.mg "reversed" = none) (he : PE X e te)
    (hs : starEach [e] X.env = (false, eval e X.env) :: starEach [] X.env := by rfl)
    (hs2 : starEach [.Call (.Name "reversed" p2) [e] [] pos2] X.env = (false, eval (.Call (.Name "reversed" p2) [e] [] pos2) X.env) :: starEach [] X.env := by rfl) :
    PE X (.Call (.Name "tuple" p) [.Call (.Name "reversed" p2) [e] [] pos2] [] pos) (tTupRevT X.K te) := by
  refine ⟨fun pins s σ H Q I h => ?_⟩
  refine Call_ (ld_blt I hg hm boot_tuple (PyProof.Rows.callWith_type1 (args_cons (Call_ (ld_blt I hg2 hm2 PyProof.Rows.boot_reversed (PyProof.Rows.callWith_type1 (args_cons (thn (he.run pins s σ H _ I h) fun u s1 ⟨v, H1, I1, r1, q1⟩ => args_nil ?_) hs) hs rfl))) hs2) hs2 rfl))
  obtain ⟨a, xs, ev, hq, q⟩ := q1
  subst ev
  obtain rfl : u = Value.ref a := r1
  obtain ⟨its, rv, p', hz⟩ := I1.tuple hq
  have hn := line63
  have hn0 : its.toArray.size ≤ sizeLine := by rw [List.size_toArray, ← rv.length]; exact hz
  refine call_reversed_tup p' (fun A E Q k => len_tuple p' (by omega) k) (args_nil ?_)
  have k0 : ∀ b o, s1.heap.get? b = some o → (s1.heap.push (rtObj a ((its.toArray.size : Int) - 1))).get? b = some o := fun b o e => Heap.get?_push_of_some _ e
  have I2 : Inv X pins σ H1 { s1 with heap := s1.heap.push (rtObj a ((its.toArray.size : Int) - 1)), toks := s1.toks + 1 + 1 } := I1.kept (t' := s1.toks + 1 + 1) k0
  obtain ⟨f0, f1, f2, f3, f4, f5⟩ := I1.fpOk (H' := H1) (b := s1.heap.objs.size) (Nat.le_refl _) (I1.hok.fresh (Nat.le_refl _))
  obtain ⟨ol, hol, _⟩ := id p'
  have hne : a ≠ s1.heap.objs.size := Nat.ne_of_lt (Heap.lt_size hol)
  refine call_tuple_rt (s := { s1 with heap := s1.heap.push (rtObj a ((its.toArray.size : Int) - 1)), toks := s1.toks + 1 + 1 }) (I1.ok.hd hc) ⟨_, Heap.get?_push_size _ rfl, rfl, rfl⟩ (tup_at p' fun o e => k0 a o e) hne hn0 fun h' tk acc hk hi => ?_
  have I3 : Inv X pins σ H1 { s1 with heap := h', toks := tk } := I2.turned (t' := tk) (fun b o hb e => hk b o hb e) f0 f1 f3 f4 f5
  refine ⟨.ref h'.objs.size, upd H1 h'.objs.size (.tup xs.reverse), I3.laid (t' := tk) (fun c o e => Heap.get?_push_of_some _ e) (Nat.le_refl _) (show ObjOk X.prog X.w _ _ _ (.tup xs.reverse) from ⟨by rw [List.length_reverse]; exact hz, acc.toList, vals_rev rv hi, ?_⟩), rfl, q _ (I3.hok.fresh (Nat.le_refl _))⟩
  rw [Array.toArray_toList]
  exact IsTup.new _ _
end
end RT

set_option Elab.async false
set_option linter.all false
set_option maxRecDepth 100000
set_option maxHeartbeats 2000000
namespace L2
open PySem PySem.Spec PyProof.Rows
section
variable {X : Cx}
/-- d.update(e), both dicts of ints and texts -/
def tDUpd (td te : TE) : TE := fun σ H Q => td σ H fun x H1 => (∃ a kvs, x = .ref a ∧ H1 a = some (.dK kvs)) ∧ te σ H1 fun y H2 => ∃ a b kvs more, x = .ref a ∧ y = .ref b ∧ a ≠ b ∧ H2 a = some (.dK kvs) ∧ H2 b = some (.dK more) ∧ kvs.length + more.length ≤ sizeLine ∧ Q .non (upd H2 a (.dK (mergeK kvs more)))
theorem pe_dupd {o e : Expr} {td te : TE} {apos cpos : Pos} (ho : PE X o td) (he : PE X e te)
    (hs : starEach [e] X.env = [(false, eval e X.env)] := by rfl) (hbase : attributeBase o "update" X.env (eval o X.env) = eval o X.env := by rfl) (hline : (apos.endLine == cpos.line) = true := by rfl) :
    PE X (.Call (.Attribute o "update" apos) [e] [] cpos) (tDUpd td te) := by
  refine ⟨fun pins s σ H Q I h => ?_⟩
  refine PySem.Call_method1 hbase hs hline (thn (ho.run pins s σ H _ I h) fun u s1 ⟨x, H1, I1, rx, ⟨a, kvs, ex, e1⟩, q1⟩ => ?_)
  subst ex
  obtain rfl : u = Value.ref a := rx
  obtain ⟨t1, t2, _⟩ := isD_at I1 (.inl ⟨kvs, .inl e1⟩)
  refine ⟨"dict", _, PySem.F.plainAttrs_dict, PySem.F.slot_dict_update, PySem.F.type_dict_update, t1, t2, Calls.callWith_builtin rfl (Calls.evalArgs_plain (Calls.spliced_cons (thn (he.run pins s1 σ H1 _ I1 q1) fun iv s2 ⟨y, H2, I2, ry, q2⟩ => Calls.spliced_nil ?_)))⟩
  obtain ⟨a', b, kvs', more, ea, rfl, hab, e2, e3, hl, q2⟩ := q2
  cases ea
  obtain rfl : iv = Value.ref b := ry
  obtain ⟨z, hd, vs, rel, dd⟩ := dk_of I2.hok e2
  obtain ⟨z2, hd2, ws, rel2, dd2⟩ := dk_of I2.hok e3
  refine call_meetsIn PySem.F.slot_dict_update dd.typeIs PySem.F.entry_dict_update (PySem.F.args_dict_update_2 _ _) (meets_dict_update (mixKind X.prog X.w) a b hab hd2)
    ⟨vs, ws, dd, dd2, by rw [← rel.length, ← rel2.length]; exact hl, fun h' dd' _ hs => ?_⟩
  have he : ∃ q, h'.get? a = some q := let ⟨q, _, _, hq, _⟩ := dd'; ⟨q, hq⟩
  exact ⟨.non, _, d_write (t' := s2.toks) I2 (by rw [e2]; exact True.intro) hs he (dk_new (Nat.le_trans (length_mergeK more kvs') hl) hd (KV.merge rel2 rel) dd'), rfl, q2⟩
end
end L2
namespace DL
open PySem L2 PyProof.Rows
section
variable {K : PySem.W.Frag} {H : Hp}
theorem dps_app : ∀ {vs ws : List V} {ds es : List PyData}, DpAll K H vs ds → DpAll K H ws es → DpAll K H (vs ++ ws) (ds ++ es)
  | [], _, _, _, .nil, h => h
  | _ :: _, _, _, _, .cons a b, h => .cons a (dps_app b h)
theorem dps_rev : ∀ {vs : List V} {ds : List PyData}, DpAll K H vs ds → DpAll K H vs.reverse ds.reverse
  | [], _, .nil => .nil
  | _ :: _, _, .cons a b => by
    rw [List.reverse_cons, List.reverse_cons]
    exact dps_app (dps_rev b) (.cons a .nil)
end
def revD : PyData → Option PyData
  | .tuple xs => some (.tuple xs.reverse)
  | _ => none
def lookS (kvs : List (PyData × PyData)) (x : Str) : Option PyData := (kvs.find? fun p => match p.1 with
  | .str y => decide (y = x)
  | _ => false).map (·.2)
def getD2 (kvs : List (PyData × PyData)) : PyData → PyData → Option PyData
  | .str x, d => some ((lookS kvs x).getD d)
  | _, _ => none
def eGet2 (f g h : SE) : SE := fun ρ => (f ρ).bind fun x => match x with
  | .dict kvs => (g ρ).bind fun y => (h ρ).bind fun z => Res.of (getD2 kvs y z)
  | _ => .bad
@[simp] theorem eGet2_ap {f g h : SE} {ρ : PEnv} : eGet2 f g h ρ = (f ρ).bind fun x => match x with
  | .dict kvs => (g ρ).bind fun y => (h ρ).bind fun z => Res.of (getD2 kvs y z)
  | _ => .bad := nrfl rfl
theorem lookS_kv (x : Str) : ∀ kvs : List (Key × V), lookS (kvD kvs) x = (valV kvs (.inr x)).map fun v => (scaD v).getD .none
  | [] => rfl
  | (k, v) :: r => by
    have ih := lookS_kv x r
    simp only [lookS, kvD, valV, List.map_cons, List.find?_cons] at ih ⊢
    cases k with
    | inl i => simpa [keyD] using ih
    | inr y =>
      by_cases h : y = x
      · subst h; simp [keyD]
      · simpa [keyD, h] using ih
section
variable {X : Cx} {W : Wis} {a b c : Expr} {pos : Pos}
theorem ed_tupRev {p p2 pos pos2 : Pos} {f : SE} (hc : X.calm = true) (hm : X.mg "tuple" = none) (hm2 : X.mg "reversed" = none) (he : PE X a (tD X.K W f)) (hg : Gl X "tuple" := by rfl) (hg2 : Gl X "reversed" := by rfl)
    (hs : starEach [a] X.env = (false, eval a X.env) :: starEach [] X.env := by rfl)
    (hs2 : starEach [.Call (.Name "reversed" p2) [a] [] pos2] X.env = (false, eval (.Call (.Name "reversed" p2) [a] [] pos2) X.env) :: starEach [] X.env := by rfl) :
    PE X (.Call (.Name "tuple" p) [.Call (.Name "reversed" p2) [a] [] pos2] [] pos) (tD X.K W (eUn revD f)) :=
  pe_weak (RT.pe_tupRevT hc hg hm hg2 hm2 he hs hs2) fun σ H Q q => by
    obtain ⟨ρ, hE, q⟩ := q
    refine tD_mono (tD_then hE q) fun x H1 ⟨d, hx, s1, hE1, q1⟩ => ?_
    obtain ⟨r, hr, q2⟩ := Res.post_of q1
    obtain ⟨p, xs, ds, rfl, rfl, h1, h2⟩ : ∃ p xs ds, x = .ref p ∧ d = .tuple ds ∧ SqT X.K H1 p xs ∧ DpAll X.K H1 xs ds := by
      cases hx with
      | tup h1 h2 => exact ⟨_, _, _, rfl, rfl, h1, h2⟩
      | _ => simp [revD] at hr
    simp only [revD, Option.some.injEq] at hr
    subst hr
    exact ⟨_, _, rfl, h1, fun p hp => q2 _ (same_new hp _) _ (.tup (SqT.of upd_same) (dps_mono (same_new hp _) _ _ (dps_rev h2)))⟩
theorem ed_get2 {apos : Pos} {f g h : SE} (hu : X.A.units + 1 < cLine) (ho : PE X a (tD X.K W f)) (he : PE X b (tD X.K W g)) (hf : PE X c (tD X.K W h)) (m : M2 X a "get" apos b c pos := by exact ⟨rfl, rfl, rfl, rfl⟩) :
    PE X (.Call (.Attribute a "get" apos) [b, c] [] pos) (tD X.K W (eGet2 f g h)) := by
  refine pe_weak (pe_dget2 hu ho he hf m) fun σ H Q q => ?_
  obtain ⟨ρ, hE, q⟩ := q
  refine tD_mono (tD_then hE q) fun x H1 ⟨d, hx, s1, hE1, q1⟩ => ?_
  obtain ⟨p, kvs, rfl, rfl, h1, h2⟩ : ∃ p kvs, x = .ref p ∧ d = .dict (kvD kvs) ∧ H1 p = some (.dK kvs) ∧ ∀ q ∈ kvs, (scaD q.2).isSome = true := by
    cases hx with
    | dct h1 h2 => exact ⟨_, _, rfl, rfl, h1, h2⟩
    | _ => exact q1.elim
  refine ⟨p, rfl, .inl ⟨kvs, .inl h1⟩, tD_mono (tD_then hE1 q1) fun y H2 ⟨e, hy, s2, hE2, q2⟩ => ?_⟩
  refine tD_mono (tD_then hE2 q2) fun z H3 ⟨e2, hz, s3, hE3, q3⟩ => ?_
  obtain ⟨r, hr, q4⟩ := Res.post_of q3
  obtain ⟨k, rfl, rfl⟩ : ∃ k, e = .str k ∧ y = .str k := by
    cases hy with
    | str z => exact ⟨z, rfl, rfl⟩
    | _ => simp [getD2] at hr
  simp only [getD2, lookS_kv, Option.some.injEq] at hr
  refine ⟨valV kvs (.inr k), DGet.k (k := .inr k) (s3 _ _ (s2 _ _ h1)), ?_⟩
  cases hv : valV kvs (.inr k) with
  | none =>
    rw [hv] at hr
    subst hr
    exact q4.now _ hz
  | some v =>
    rw [hv] at hr
    subst hr
    have hm : (scaD v).isSome = true := by
      simp only [valV, Option.map_eq_some_iff] at hv
      obtain ⟨kv, h3, rfl⟩ := hv
      exact h2 _ (List.mem_of_find?_eq_some h3)
    obtain ⟨dv, hd⟩ := Option.isSome_iff_exists.mp hm
    refine q4.now _ ?_
    show Dp X.K H3 v ((scaD v).getD .none)
    rw [hd]
    exact dp_sca hd
/-- a place that is there gets a written thing -/
def sPut (i : Nat) (d : PyData) : SS := fun ρ => if i < ρ.length then .ok (.nx (ρ.set i (some d))) else .bad
@[simp] theorem sPut_ap {i : Nat} {d : PyData} {ρ : PEnv} : sPut i d ρ = if i < ρ.length then .ok (.nx (ρ.set i (some d))) else .bad := nrfl rfl
/-- x = {..}; x.update({..}): written texts and numbers -/
theorem pssd_dict2 {i : Nat} {x : Str} {keys keys2 : List (Option Expr)} {vals vals2 : List Expr} {px px2 p2 p3 pos apos cpos epos : Pos} {rest : List Stmt} {G : SS} (A B : List (Key × V)) (hN : X.N.Nodup)
    (hp : PPs X p2 keys vals (A.map fun p => (tC (kV p.1), tC p.2))) (hp2 : PPs X p3 keys2 vals2 (B.map fun p => (tC (kV p.1), tC p.2))) (hr : PSs X rest (tsD X.K W G))
    (hi : X.N[i]? = some x := by rfl) (hx : Loc X.env.scope x := by first | exact Or.inl rfl | exact Or.inr rfl) (hv : Vis X.env.scope x := by first | exact Or.inl rfl | exact Or.inr rfl | rfl)
    (hall : keys.all (·.isSome) = true := by rfl) (hl : keys.length = vals.length := by rfl) (h0 : keys ≠ [] := by exact List.cons_ne_nil _ _) (h15 : keys.length ≤ 15 := by decide) (hk : A.length ≤ 15 := by decide)
    (hall2 : keys2.all (·.isSome) = true := by rfl) (hl2 : keys2.length = vals2.length := by rfl) (h02 : keys2 ≠ [] := by exact List.cons_ne_nil _ _) (h152 : keys2.length ≤ 15 := by decide) (hk2 : B.length ≤ 15 := by decide)
    (hsc : ∀ p ∈ mergeK (mergeK [] A) (mergeK [] B), (scaD p.2).isSome = true := by decide)
    (hs : swapsWith (.Dict keys vals p2) (some (.Name x px)) pos.line X.env = pure false := by rfl)
    (hs2 : swapsWith (.Call (.Attribute (.Name x px2) "update" apos) [.Dict keys2 vals2 p3] [] cpos) none epos.line X.env = pure false := by rfl)
    (hf : X.fn x = true ∨ X.env.scope.names.lookup x = some .local := by first | exact .inl rfl | exact .inr rfl | assumption)
    (hst : starEach [Expr.Dict keys2 vals2 p3] X.env = [(false, eval (Expr.Dict keys2 vals2 p3) X.env)] := by rfl) (hbase : attributeBase (.Name x px2) "update" X.env (eval (.Name x px2) X.env) = eval (.Name x px2) X.env := by rfl) (hline : (apos.endLine == cpos.line) = true := by rfl)
    (hd : (x == ("__debug__" : Str)) = false := by decide) (hcd : (x == ("__classdict__" : Str)) = false := by decide) :
    PSs X (.Assign [.Name x px] (.Dict keys vals p2) pos :: .Expr (.Call (.Attribute (.Name x px2) "update" apos) [.Dict keys2 vals2 p3] [] cpos) epos :: rest) (tsD X.K W (sSeq (sPut i (.dict (kvD (mergeK (mergeK [] A) (mergeK [] B))))) G)) := by
  have t1 := ps_set hN hi hx (pe_disp hp hall hl h0 h15) hs hf
  have t2 := ps_expr (pe_dupd (pe_var (X := X) (i := i) hi hv hd hcd) (pe_disp hp2 hall2 hl2 h02 h152) hst hbase hline) hs2
  refine pss_weak (pss_cons t1 (pss_cons t2 hr)) fun D σ H ⟨ρ, hE, q⟩ => ?_
  unfold sSeq sPut at q
  split at q
  case isFalse => exact q.elim
  rename_i hlt
  intro p hpn
  refine pairs_then ⟨upd_same, A, rfl, hk, ?_⟩
  rw [upd_upd]
  refine ⟨.ref p, ?_, ⟨p, _, rfl, upd_same⟩, ?_⟩
  · rw [List.getElem?_set_self (by rw [← hE.1]; exact hlt)]
  intro q2 hq2
  have hpq : p ≠ q2 := fun e => by
    subst e
    rw [upd_same] at hq2
    cases hq2
  refine pairs_then ⟨upd_same, B, rfl, hk2, ?_⟩
  rw [upd_upd]
  have hA := length_mergeK A []
  have hB := length_mergeK B []
  rw [List.length_nil] at hA hB
  refine ⟨p, q2, mergeK [] A, mergeK [] B, rfl, rfl, hpq, by rw [upd_ne hpq, upd_same], upd_same, by rw [sizeLine_eq]; omega, ?_⟩
  have s0 : Same H (upd (upd (upd H p (.dK (mergeK [] A))) q2 (.dK (mergeK [] B))) p (.dK (mergeK (mergeK [] A) (mergeK [] B)))) := fun b u e => by
    have hb : b ≠ p := ne_of_none e hpn
    have hb2 : b ≠ q2 := fun e2 => by
      subst e2
      rw [upd_ne hb, e] at hq2
      cases hq2
    rw [upd_ne hb, upd_ne hb2, upd_ne hb]
    exact e
  exact ⟨_, (hE.mono s0).set (.dct upd_same hsc), Res.post.mono q (fun d r => r.on s0) fun n r => r.on s0⟩
end
end DL

set_option Elab.async false
set_option linter.all false
set_option maxRecDepth 100000
set_option maxHeartbeats 2000000
namespace DL
open PySem L2 PyProof.Rows
def sEx (n : Nat) : SS := fun _ => .ex n
@[simp] theorem sEx_ap {n : Nat} {ρ : PEnv} : sEx n ρ = .ex n := rfl
section
variable {P : Program} {w : World} {K : PySem.W.Frag} {mg : Str → Option Value} {base : Heap}
/-- a def that may be left by a raise -/
theorem callee_ofX {cls : Nat → Value} {x qual : Str} {st : Stmt} {f : Addr} {fd : FuncData} {N ps : List Str} {k : Nat} {F : SS} (D : L2.Fun K x qual st f fd) (S : FnScope N ps (defScope st)) (hm : mg x = some (.ref f)) (hb : Binds K fd ps [])
    (body : ∀ (cdv : Value) (A : Around) (outer : List Env) (s : Shared) (H : Hp) (E : XK), Room k (A.deeper (envOfC qual (defScope st) s.heap.objs.size f cdv)) →
      Takes (cxOf (L2.CX P w) P w K mg base N qual (defScope st) f cdv A outer s H E) (fun c d _ H => E c d H) → PassesOwn (model P w) (A.deeper (envOfC qual (defScope st) s.heap.objs.size f cdv)) (envOfC qual (defScope st) s.heap.objs.size f cdv) (cxOf (L2.CX P w) P w K mg base N qual (defScope st) f cdv A outer s H E).xe →
      PSs (cxOf (L2.CX P w) P w K mg base N qual (defScope st) f cdv A outer s H E) (defBody st) (tsD K (fun m H' => E (cls m) none H') F)) : Callee P w K mg base (L2.CX P w) cls x (k + 1) ps (bodyD N.length F) := by
  refine ⟨f, fd, D.okX S (fun vs H Q E h => h.1) (fun cdv A outer s H vs Q E hr h => ⟨_, body cdv A outer s H E hr (takes_of rfl rfl rfl rfl) (passes_of rfl), body_then h⟩), hm, D.kp, hb, ?_⟩
  obtain ⟨oc, od, kV, doc, pm, an, cdv, ct, osl, rfl, lk, hcd⟩ := D.ex
  exact ⟨oc, od, osl, lk⟩
end
section
variable {X : Cx} {pos : Pos}
theorem passX {cls : Nat → Value} {E : XK} (tk : Takes X (fun c d _ H => E c d H)) : Passes (L2.CX X.prog X.w) X (wishE cls fun m H => E (cls m) none H) :=
  passes_call tk fun c d σ H ⟨m, h1, h2, h3⟩ => by subst h1 h2; exact h3
/-- a class of errors without an own __init__, over ValueError -/
structure ErrAt (K : PySem.W.Frag) (mg : Str → Option Value) (x : Str) (C : Addr) : Prop where
  gC : mg x = some (.ref C)
  kC : PySem.W.keepIn K (.ref C) = true
  q : PySem.W.excIn K C [.type "ValueError", .type "Exception", .type "BaseException", .type "object"] "ValueError.__new__" = true
  ex : PySem.W.subIn K (.ref C) (.type "BaseException") = some true
  ty : PySem.W.typeIn K (.ref C) = some (.type "type")
theorem psd_raise {cls : Nat → Value} {E : XK} {n : Nat} {C : Addr} {x m : Str} {j : Nat} {p p2 pos' : Pos} (T : ErrAt X.K X.mg x C) (hcl : cls n = .ref C) (hc : X.calm = true) (tk : Takes X (fun c d _ H => E c d H)) (hg : Gl X x := by rfl) (hdb : (x == ("__debug__" : Str)) = false := by decide) :
    PS X (.Raise (some (.Call (.Name x p) [.Constant (.str m) j p2] [] pos)) none pos') (tsD X.K (fun m H => E (cls m) none H) (sEx n)) :=
  ps_weak (ps_raise hc tk (pmk_own PySem.F.excBase_ValueError T.q T.gC T.kC (raises_own T.ex T.ty) hg hdb)) fun D σ H ⟨ρ, hE, q⟩ => by
    have q1 : E (cls n) none H := q H (Same.refl H)
    rw [hcl] at q1
    exact q1
/-- a place in a list of texts -/
def lindexD : PyData → PyData → Option PyData
  | .list ds, .str z => (strsOf ds).bind fun ys => if z ∈ ys then some (.int (ys.idxOf z : Nat)) else none
  | _, _ => none
/-- a method of a list, of one argument -/
def eML (g : PyData → PyData → Option PyData) (f h : SE) : SE := fun ρ => (f ρ).bind fun x => match x with
  | .list ds => (h ρ).bind fun y => Res.of (g (.list ds) y)
  | _ => .bad
@[simp] theorem eML_ap {g : PyData → PyData → Option PyData} {f h : SE} {ρ : PEnv} : eML g f h ρ = (f ρ).bind fun x => match x with
  | .list ds => (h ρ).bind fun y => Res.of (g (.list ds) y)
  | _ => .bad := nrfl rfl
theorem ed_lindex {W : Wis} {a b : Expr} {apos : Pos} {f h : SE} (ho : PE X a (tD X.K W f)) (he : PE X b (tD X.K W h)) (hs : starEach [b] X.env = [(false, eval b X.env)] := by rfl)
    (hbase : attributeBase a "index" X.env (eval a X.env) = eval a X.env := by rfl) (hline : (apos.endLine == pos.line) = true := by rfl) :
    PE X (.Call (.Attribute a "index" apos) [b] [] pos) (tD X.K W (eML lindexD f h)) := by
  refine ⟨fun pins s σ H Q I hh => ?_⟩
  obtain ⟨ρ, hE, q⟩ := hh
  refine PySem.Call_method1 hbase hs hline (thn (ho.run pins s σ H _ I (tD_then hE q)) fun v s1 ⟨x, H1, I1, r1, q1⟩ => ?_)
  obtain ⟨d, hx, sm1, hE1, q1⟩ := q1
  obtain ⟨p, xs, ds, rfl, rfl, h1, h2⟩ : ∃ p xs ds, x = .ref p ∧ d = .list ds ∧ SqL X.K H1 p xs ∧ DpAll X.K H1 xs ds := by
    cases hx with
    | lst h1 h2 => exact ⟨_, _, _, rfl, rfl, h1, h2⟩
    | _ => exact q1.elim
  obtain rfl : v = Value.ref p := r1
  obtain ⟨its, rv, ⟨o, n, ho', hc, hdn, hd⟩, hz⟩ := I1.list h1
  refine ⟨"list", _, PySem.F.plainAttrs_list, PySem.F.slot_list_index, PySem.F.type_list_index, ⟨o, ho', hc⟩, (fun c e => by cases e; exact ⟨o, ho', hdn⟩), Calls.callWith_builtin rfl (Calls.evalArgs_plain (Calls.spliced_cons ?_))⟩
  refine thn (he.run pins s1 σ H1 _ I1 (tD_then hE1 q1)) fun u s2 ⟨y, H2, I2, r2, q2⟩ => Calls.spliced_nil ?_
  obtain ⟨e, hy, sm2, hE2, q2⟩ := q2
  obtain ⟨r, hr, q3⟩ := Res.post_of q2
  obtain ⟨z, rfl, rfl⟩ : ∃ z, e = .str z ∧ y = .str z := by
    cases hy with
    | str z => exact ⟨z, rfl, rfl⟩
    | _ => simp [lindexD] at hr
  simp only [lindexD, Option.bind_eq_some_iff] at hr
  obtain ⟨ys, hys, hr⟩ := hr
  split at hr <;> cases hr
  rename_i hzm
  rw [strsOf_map hys] at h2
  rw [dps_strs_of h2] at h1
  have hl := List.idxOf_lt_length_of_mem hzm
  refine mt_index pins s2 σ H2 (.ref p) [.str z] _ [u] Q I2 rfl (.cons r2 .nil) ⟨p, ys.map V.str, .str z, ys.idxOf z, .str z, rfl, rfl, sm2.seq h1, rfl, flat_strs ys, ?_, ?_, ?_, q3.now _ (.int _)⟩
  · rw [List.getElem?_map, List.getElem?_eq_getElem hl]
    simp
  · show (z == z) = true
    exact beq_self_eq_true z
  · intro m z' hmj e
    rw [List.getElem?_map] at e
    obtain ⟨w, hw, rfl⟩ := Option.map_eq_some_iff.mp e
    have := List.not_of_lt_findIdx (p := (· == z)) (xs := ys) (i := m) hmj
    obtain ⟨h1, h2⟩ := List.getElem?_eq_some_iff.mp hw
    rw [h2] at this
    show (w == z) = false
    simpa using this
theorem kit_ref {K : PySem.W.Frag} {U C : Addr} {b : Bool} (h : PySem.W.subIn K (.ref U) (.ref C) = some b) (hs : PySem.W.subIn K (.ref U) (.ref U) = some true) (hd : PySem.W.hasDictIn K C = true) (ty : PySem.W.typeIn K (.ref C) = some (.type "type")) : PySem.W.kitOne K (.ref U) (.ref C) = some b := by
  unfold PySem.W.kitOne
  split
  · rename_i e
    have e2 : Value.ref U = Value.ref C := eq_of_beq e
    cases e2
    rw [h] at hs
    exact hs.symm
  · obtain ⟨cd, hc, _⟩ := PySem.W.any_some hd
    have e2 : ((PySem.W.clsIn K C).isSome && PySem.W.typeIn K (.ref C) == some (.type "type")) = true := by rw [hc, ty] <;> rfl
    show (if ((PySem.W.clsIn K C).isSome && PySem.W.typeIn K (.ref C) == some (.type "type")) = true then PySem.W.subIn K (.ref U) (.ref C) else none) = some b
    rw [if_pos e2]
    exact h
theorem kit_val {K : PySem.W.Frag} {U : Addr} {b : Bool} (h : PySem.W.subIn K (.ref U) (.type "ValueError") = some b) : PySem.W.kitOne K (.ref U) (.type "ValueError") = some b := by
  unfold PySem.W.kitOne
  rw [if_neg (by intro e; cases eq_of_beq e)]
  show (if PySem.W.kitMeta "ValueError" = true then PySem.W.subIn K (.ref U) (.type "ValueError") else none) = some b
  rw [if_pos (by decide +kernel)]
  exact h
end
end DL

set_option Elab.async false
set_option linter.all false
set_option maxRecDepth 100000
set_option maxHeartbeats 2000000
/-! the functions that bodies are read as, applied: for simp -/
namespace DL
open PySem L2 PyProof.Rows
section
variable {f g h : SE} {t u : ST} {F G : SS} {ρ : PEnv} {i n : Nat} {d : PyData} {a b : SA}
@[simp] theorem eVar_ap : eVar i ρ = match ρ[i]? with
  | some (some d) => .ok d
  | _ => .bad := nrfl rfl
@[simp] theorem eC_ap : eC d ρ = .ok d := nrfl rfl
@[simp] theorem eOp_ap {o : PyData → PyData → Option PyData} : eOp o f g ρ = (f ρ).bind fun x => (g ρ).bind fun y => Res.of (o x y) := nrfl rfl
@[simp] theorem eUn_ap {o : PyData → Option PyData} : eUn o f ρ = (f ρ).bind fun x => Res.of (o x) := nrfl rfl
@[simp] theorem eArgs_ap {o : List PyData → Option PyData} : eArgs o a ρ = (a ρ).bind fun xs => Res.of (o xs) := nrfl rfl
@[simp] theorem eCall_ap {o : List PyData → Res PyData} : eCall o a ρ = (a ρ).bind o := nrfl rfl
@[simp] theorem asT_ap : asT f ρ = (f ρ).bind fun x => Res.of (truth x) := nrfl rfl
@[simp] theorem asTru_ap : asTru f ρ = (f ρ).bind fun x => Res.of (DL.truthy x) := nrfl rfl
@[simp] theorem tAnd_ap : DL.tAnd t u ρ = (t ρ).bind fun b => if b then u ρ else .ok false := nrfl rfl
@[simp] theorem tOr_ap : DL.tOr t u ρ = (t ρ).bind fun b => if b then .ok true else u ρ := nrfl rfl
@[simp] theorem tNot_ap : DL.tNot t ρ = (t ρ).bind fun b => .ok (!b) := nrfl rfl
@[simp] theorem eAnd_ap : eAnd f g ρ = (f ρ).bind fun x => (Res.of (truth x)).bind fun b => if b then g ρ else .ok (.bool false) := nrfl rfl
@[simp] theorem eOr_ap : eOr f g ρ = (f ρ).bind fun x => (Res.of (truth x)).bind fun b => if b then .ok (.bool true) else g ρ := nrfl rfl
@[simp] theorem eNot_ap : eNot f ρ = (f ρ).bind fun x => (Res.of (truth x)).bind fun b => .ok (.bool (!b)) := nrfl rfl
@[simp] theorem eChain_ap {o p : PyData → PyData → Option PyData} : eChain o p f g h ρ = (f ρ).bind fun x => (g ρ).bind fun y => (Res.of (o x y)).bind fun z => (Res.of (truth z)).bind fun k =>
  if k then (h ρ).bind fun w => Res.of (p y w) else .ok (.bool false) := nrfl rfl
@[simp] theorem aNil_ap : aNil ρ = .ok [] := nrfl rfl
@[simp] theorem aCons_ap : aCons f a ρ = (f ρ).bind fun x => (a ρ).bind fun xs => .ok (x :: xs) := nrfl rfl
@[simp] theorem eTup_ap : eTup a ρ = (a ρ).bind fun xs => if xs.length ≤ big then .ok (.tuple xs) else .bad := nrfl rfl
@[simp] theorem eLst_ap : eLst a ρ = (a ρ).bind fun xs => if xs.length ≤ big then .ok (.list xs) else .bad := nrfl rfl
@[simp] theorem oNone_ap : oNone ρ = .ok none := nrfl rfl
@[simp] theorem oSome_ap : oSome f ρ = (f ρ).bind fun x => match x with
  | .int i => .ok (some i)
  | _ => .bad := nrfl rfl
@[simp] theorem eCut_ap {l r : PEnv → Res (Option Int)} : eCut f l r ρ = (f ρ).bind fun x => (l ρ).bind fun lo => (r ρ).bind fun hi => Res.of (cutD lo hi x) := nrfl rfl
@[simp] theorem eM1_ap {o : Str → PyData → Option PyData} : eM1 o f g ρ = (f ρ).bind fun x => match x with
  | .str z => (g ρ).bind fun y => Res.of (o z y)
  | _ => .bad := nrfl rfl
@[simp] theorem eM0_ap {o : Str → Option PyData} : eM0 o f ρ = (f ρ).bind fun x => match x with
  | .str z => Res.of (o z)
  | _ => .bad := nrfl rfl
@[simp] theorem eMenu_ap {kvs : List (Key × V)} : eMenu kvs f ρ = (f ρ).bind fun x => Res.of (menuD kvs x) := nrfl rfl
@[simp] theorem sList_ap : sList f ρ = (f ρ).bind fun x => match x with
  | .list xs => .ok xs
  | _ => .bad := nrfl rfl
@[simp] theorem sTup_ap : sTup f ρ = (f ρ).bind fun x => match x with
  | .tuple xs => .ok xs
  | _ => .bad := nrfl rfl
@[simp] theorem sStr_ap : sStr f ρ = (f ρ).bind fun x => match x with
  | .str z => .ok (z.cps.toList.map fun c => .str ⟨#[c]⟩)
  | _ => .bad := nrfl rfl
@[simp] theorem sRng1_ap : sRng1 a ρ = (a ρ).bind fun xs => match xs with
  | [.int j] => if -big ≤ j ∧ j ≤ big then .ok (upTo 0 j.toNat) else .bad
  | _ => .bad := nrfl rfl
@[simp] theorem sRng2_ap : sRng2 a ρ = (a ρ).bind fun xs => match xs with
  | [.int i, .int j] => if -big ≤ i ∧ i ≤ big ∧ -big ≤ j ∧ j ≤ big then .ok (upTo i (j - i).toNat) else .bad
  | _ => .bad := nrfl rfl
@[simp] theorem tTrue_ap : tTrue ρ = .ok true := nrfl rfl
theorem eLc_ap : eLc i a t f ρ = (a ρ).bind fun xs => if xs.length ≤ big then (Res.calm (lcGo (fun d => (ρ.set i none).set i (some d)) t f xs)).bind fun ys => .ok (.list ys) else .bad := nrfl rfl
@[simp] theorem sNext_ap : sNext ρ = .ok (.nx ρ) := nrfl rfl
@[simp] theorem sSeq_ap : sSeq F G ρ = (F ρ).bind fun o => match o with
  | .nx ρ' => G ρ'
  | .rt d => .ok (.rt d)
  | .bk ρ' => .ok (.bk ρ')
  | .ct ρ' => .ok (.ct ρ') := nrfl rfl
@[simp] theorem sSet_ap : sSet i f ρ = (f ρ).bind fun d => .ok (.nx (ρ.set i (some d))) := nrfl rfl
@[simp] theorem sDrop_ap : sDrop f ρ = (f ρ).bind fun _ => .ok (.nx ρ) := nrfl rfl
@[simp] theorem sRet_ap : sRet f ρ = (f ρ).bind fun d => .ok (.rt d) := nrfl rfl
@[simp] theorem sRetN_ap : sRetN ρ = .ok (.rt .none) := nrfl rfl
@[simp] theorem sIf_ap : sIf t F G ρ = (t ρ).bind fun b => if b then F ρ else G ρ := nrfl rfl
@[simp] theorem sBreak_ap : sBreak ρ = .ok (.bk ρ) := nrfl rfl
@[simp] theorem sCont_ap : sCont ρ = .ok (.ct ρ) := nrfl rfl
theorem sFor_ap {k : SG} : sFor a k F ρ = (a ρ).bind fun ds => forGo k F ds ρ := nrfl rfl
theorem sWh_ap : sWh n t F ρ = whGo t F n ρ := nrfl rfl
@[simp] theorem gN_ap : gN i d ρ = some (ρ.set i (some d)) := nrfl rfl
@[simp] theorem gsNil_ap : gsNil [] ρ = some ρ := nrfl rfl
@[simp] theorem gsCons_ap {k : SG} {ks : SGs} {ds : List PyData} : gsCons k ks (d :: ds) ρ = (k d ρ).bind fun ρ' => ks ds ρ' := nrfl rfl
@[simp] theorem gT_ap {ks : SGs} {ds : List PyData} : gT n ks (.tuple ds) ρ = if ds.length = n then ks ds ρ else none := nrfl rfl
@[simp] theorem sAsg_ap {k : SG} : sAsg f k ρ = (f ρ).bind fun d => (Res.of (k d ρ)).bind fun ρ' => .ok (.nx ρ') := nrfl rfl
@[simp] theorem truth_bool {b : Bool} : truth (.bool b) = some b := nrfl rfl
@[simp] theorem addD_int {i j : Int} : addD (.int i) (.int j) = some (.int (i + j)) := nrfl rfl
@[simp] theorem subD_int {i j : Int} : subD (.int i) (.int j) = some (.int (i - j)) := nrfl rfl
@[simp] theorem negD_int {i : Int} : negD (.int i) = some (.int (-i)) := nrfl rfl
@[simp] theorem eqD_int {i j : Int} : eqD (.int i) (.int j) = some (.bool (i == j)) := nrfl rfl
@[simp] theorem eqD_str {i j : Str} : eqD (.str i) (.str j) = some (.bool (i == j)) := nrfl rfl
@[simp] theorem neD_int {i j : Int} : neD (.int i) (.int j) = some (.bool (!(i == j))) := nrfl rfl
@[simp] theorem ltD_int {i j : Int} : ltD (.int i) (.int j) = some (.bool (decide (i < j))) := nrfl rfl
@[simp] theorem leD_int {i j : Int} : leD (.int i) (.int j) = some (.bool (decide (i ≤ j))) := nrfl rfl
@[simp] theorem gtD_int {i j : Int} : gtD (.int i) (.int j) = some (.bool (decide (j < i))) := nrfl rfl
@[simp] theorem geD_int {i j : Int} : geD (.int i) (.int j) = some (.bool (decide (j ≤ i))) := nrfl rfl
@[simp] theorem lenD_list {xs : List PyData} : lenD [.list xs] = some (.int xs.length) := nrfl rfl
@[simp] theorem lenD_tuple {xs : List PyData} : lenD [.tuple xs] = some (.int xs.length) := nrfl rfl
@[simp] theorem ixD_list {xs : List PyData} {i : Int} : ixD (.list xs) (.int i) = atI xs i := nrfl rfl
@[simp] theorem ixD_tuple {xs : List PyData} {i : Int} : ixD (.tuple xs) (.int i) = atI xs i := nrfl rfl
@[simp] theorem divD_pos {i j : Int} (h1 : 0 < j) (h2 : j < 1073741824) : divD (.int i) (.int j) = some (.int (i / j)) := if_pos ⟨h1, h2⟩
@[simp] theorem modD_pos {i j : Int} (h : 0 < j) : modD (.int i) (.int j) = some (.int (i % j)) := if_pos h
theorem mulD_l {i j : Int} (h : small64 i = true) : mulD (.int i) (.int j) = some (.int (i * j)) := by simp [mulD, h]
theorem mulD_r {i j : Int} (h : small64 j = true) : mulD (.int i) (.int j) = some (.int (i * j)) := by simp [mulD, h]
theorem small64_of {i : Int} (h1 : -1000000 ≤ i) (h2 : i ≤ 1000000) : small64 i = true := by
  simp only [small64, decide_eq_true_eq]
  omega
@[simp] theorem ite_bind {α β : Type} {c : Prop} [Decidable c] {x y : Res α} {k : α → Res β} : (if c then x else y).bind k = if c then x.bind k else y.bind k := by split <;> rfl
theorem bind_assoc {α β γ : Type} {x : Res α} {k : α → Res β} {l : β → Res γ} : (x.bind k).bind l = x.bind fun a => (k a).bind l := by cases x <;> rfl
/-! comprehensions, loops -/
theorem lcGo_map {env : PyData → PEnv} {t : ST} {f : SE} {v : PyData → PyData} : ∀ {xs : List PyData}, (∀ d ∈ xs, t (env d) = .ok true ∧ f (env d) = .ok (v d) ∧ frz (v d) = true) → lcGo env t f xs = .ok (xs.map v)
  | [], _ => rfl
  | d :: ds, h => by
    obtain ⟨h1, h2, h3⟩ := h d List.mem_cons_self
    unfold lcGo
    rw [h1, h2, lcGo_map fun e he => h e (List.mem_cons_of_mem _ he)]
    simp [Res.calm, h3]
theorem lcGo_filter {env : PyData → PEnv} {t : ST} {f : SE} {p : PyData → Bool} {v : PyData → PyData} : ∀ {xs : List PyData}, (∀ d ∈ xs, t (env d) = .ok (p d) ∧ (p d = true → f (env d) = .ok (v d) ∧ frz (v d) = true)) → lcGo env t f xs = .ok ((xs.filter p).map v)
  | [], _ => rfl
  | d :: ds, h => by
    obtain ⟨h1, h2⟩ := h d List.mem_cons_self
    unfold lcGo
    rw [h1, lcGo_filter fun e he => h e (List.mem_cons_of_mem _ he)]
    cases hp : p d with
    | false => simp [Res.calm, hp]
    | true =>
      obtain ⟨h3, h4⟩ := h2 hp
      simp [Res.calm, hp, h3, h4]
theorem upTo_len {lo : Int} {n : Nat} : (upTo lo n).length = n := by simp [upTo]
theorem mem_upTo {lo : Int} {n : Nat} {d : PyData} : d ∈ upTo lo n ↔ ∃ i : Nat, i < n ∧ d = .int (lo + i) := by
  simp only [upTo, List.mem_map, List.mem_range]
  exact ⟨fun ⟨i, h1, h2⟩ => ⟨i, h1, h2.symm⟩, fun ⟨i, h1, h2⟩ => ⟨i, h1, h2.symm⟩⟩
/-- a loop that runs through, by what holds between the turns -/
theorem forGo_inv {k : SG} {F : SS} (I : Nat → PEnv → Prop) : ∀ {xs : List PyData} {i : Nat} {ρ : PEnv}, I i ρ → (∀ (j : Nat) (d : PyData) (ρ : PEnv), xs[j]? = some d → I (i + j) ρ → ∃ ρ1 ρ2, k d ρ = some ρ1 ∧ (F ρ1 = .ok (.nx ρ2) ∨ F ρ1 = .ok (.ct ρ2)) ∧ I (i + j + 1) ρ2) →
    ∃ ρ', forGo k F xs ρ = .ok (.nx ρ') ∧ I (i + xs.length) ρ'
  | [], i, ρ, h, _ => ⟨ρ, rfl, h⟩
  | d :: ds, i, ρ, h, hs => by
    obtain ⟨ρ1, ρ2, h1, h2, h3⟩ := hs 0 d ρ rfl h
    obtain ⟨ρ', h4, h5⟩ := forGo_inv I (xs := ds) (i := i + 1) (ρ := ρ2) (by simpa using h3) fun j e ρ he hi => by
      obtain ⟨ρ1, ρ2, a, b, c⟩ := hs (j + 1) e ρ (by simpa using he) (by rw [show i + (j + 1) = i + 1 + j by omega]; exact hi)
      exact ⟨ρ1, ρ2, a, b, by rw [show i + 1 + j + 1 = i + (j + 1) + 1 by omega]; exact c⟩
    refine ⟨ρ', ?_, by rw [List.length_cons, show i + (ds.length + 1) = i + 1 + ds.length by omega]; exact h5⟩
    unfold forGo
    rw [h1]
    rcases h2 with h2 | h2 <;> simp [h2, h4]
/-- a while that runs through, by what holds between the turns and a measure -/
theorem whGo_inv {t : ST} {F : SS} (I : Nat → PEnv → Prop) (Z : PEnv → Prop) (hz : ∀ m ρ, I m ρ → (∃ b, t ρ = .ok b ∧ (b = false → Z ρ) ∧ (b = true → ∃ m' ρ2, m' < m ∧ (F ρ = .ok (.nx ρ2) ∨ F ρ = .ok (.ct ρ2)) ∧ I m' ρ2))) :
    ∀ (n m : Nat) (ρ : PEnv), m < n → I m ρ → ∃ ρ', whGo t F n ρ = .ok (.nx ρ') ∧ Z ρ'
  | 0, m, ρ, h, _ => absurd h (Nat.not_lt_zero _)
  | n + 1, m, ρ, h, hi => by
    obtain ⟨b, h1, h2, h3⟩ := hz m ρ hi
    unfold whGo
    rw [h1]
    cases b with
    | false => exact ⟨ρ, rfl, h2 rfl⟩
    | true =>
      obtain ⟨m', ρ2, h4, h5, h6⟩ := h3 rfl
      obtain ⟨ρ', h7, h8⟩ := whGo_inv I Z hz n m' ρ2 (by omega) h6
      refine ⟨ρ', ?_, h8⟩
      rcases h5 with h5 | h5 <;> simp [h5, h7]
end
end DL

set_option Elab.async false
set_option linter.all false
set_option maxRecDepth 100000
set_option maxHeartbeats 4000000
namespace My
open PySem L2 DL PyProof.Rows
def top (i : Nat) : Stmt := PySem.Challenge.pw_showtree_k04_texts_refused.main.body.getD i (.Pass ⟨0, 0, 0, 0⟩)
def gl_DEEPEST : PyData := (.int 30)
def gl_LETTERS : PyData := (.str "abcdefghijklmnopqrstuvwxyz")
def gl_LONGEST : PyData := (.int 8)
def gl_SIGNS : PyData := (.str "&|>")
def gl_WORDS : PyData := (.tuple [(.str "and"), (.str "or"), (.str "then")])
abbrev s_is_name : Stmt := top 9
abbrev N_is_name : List Str := ["thing", "sign"]
abbrev s_past : Stmt := top 13
abbrev N_past : List Str := ["text", "at", "signs"]
abbrev s_name_at : Stmt := top 14
abbrev N_name_at : List Str := ["text", "at", "end"]
abbrev s_pair_at : Stmt := top 15
abbrev N_pair_at : List Str := ["text", "at", "room", "end", "place", "one", "other"]
abbrev s_one_at : Stmt := top 16
abbrev N_one_at : List Str := ["text", "at", "room"]
abbrev s_read : Stmt := top 17
abbrev N_read : List Str := ["text", "statement", "end"]
abbrev s_law_cell_at : Stmt := top 19
abbrev N_law_cell_at : List Str := ["_law_script", "_law_k"]
abbrev s_law_name_by : Stmt := top 20
abbrev N_law_name_by : List Str := ["_law_seed", "_law_k", "_law_letters", "_law_size", "_law_word", "_law_spot", "_law_sign", "_law_j"]
abbrev s_law_joined : Stmt := top 21
abbrev N_law_joined : List Str := ["_law_way", "_law_one", "_law_other"]
abbrev s_law_step : Stmt := top 22
abbrev N_law_step : List Str := ["_law_pile", "_law_cell", "_law_seed", "_law_way", "_law_rest"]
abbrev s_law_statement_by : Stmt := top 23
abbrev N_law_statement_by : List Str := ["_law_cells", "_law_seed", "_law_pile", "_law_cell"]
abbrev s_law_written : Stmt := top 24
abbrev N_law_written : List Str := ["_law_statement", "_law_sign"]
abbrev s_law_read_at : Stmt := top 25
abbrev N_law_read_at : List Str := ["_law_text", "_law_at", "_law_room", "_law_one", "_law_word", "_law_other", "_law_end"]
abbrev s_law_mended : Stmt := top 26
abbrev N_law_mended : List Str := ["_law_text", "_law_cell", "_law_signs", "_law_sign", "_law_at"]
abbrev s_law_odd : Stmt := top 27
abbrev N_law_odd : List Str := ["_law_cell", "_law_texts"]
abbrev s_law_deep : Stmt := top 28
abbrev N_law_deep : List Str := ["_law_cell", "_law_text", "_law_many", "_law_k"]
abbrev s_law_text_by : Stmt := top 29
abbrev N_law_text_by : List Str := ["_law_script", "_law_cell", "_law_text", "_law_k"]
abbrev s_law_told : Stmt := top 30
abbrev N_law_told : List Str := ["_law_text", "e"]
abbrev s_law : Stmt := top 31
abbrev N_law : List Str := ["_law_script", "_law_text", "_law_due", "_law_turn", "_law_found"]
/-- what the top has left -/
structure Txt (K : PySem.W.Frag) (mg : Str → Option Value) (CU : Addr) : Prop where
  err_Unread : ErrAt K mg "Unread" CU
  told : ∃ CS CT CN : Addr, mg "ShowError" = some (.ref CS) ∧ mg "TooLarge" = some (.ref CT) ∧ mg "NoWorld" = some (.ref CN) ∧ PySem.W.exmOne K (.ref CU) (.ref CS) = some true ∧ ExcC K CU ∧ PySem.W.kitOne K (.ref CU) (.ref CU) = some true ∧ PySem.W.kitOne K (.ref CU) (.ref CT) = some false ∧ PySem.W.kitOne K (.ref CU) (.ref CN) = some false ∧ PySem.W.kitOne K (.ref CU) (.type "ValueError") = some true
  d_is_name : DefAt K mg "is_name" s_is_name ["thing"]
  d_past : DefAt K mg "past" s_past ["text", "at", "signs"]
  d_name_at : DefAt K mg "name_at" s_name_at ["text", "at"]
  d_pair_at : DefAt K mg "pair_at" s_pair_at ["text", "at", "room"]
  d_one_at : DefAt K mg "one_at" s_one_at ["text", "at", "room"]
  d_read : DefAt K mg "read" s_read ["text"]
  d_law_cell_at : DefAt K mg "_law_cell_at" s_law_cell_at ["_law_script", "_law_k"]
  d_law_name_by : DefAt K mg "_law_name_by" s_law_name_by ["_law_seed", "_law_k"]
  d_law_joined : DefAt K mg "_law_joined" s_law_joined ["_law_way", "_law_one", "_law_other"]
  d_law_step : DefAt K mg "_law_step" s_law_step ["_law_pile", "_law_cell", "_law_seed"]
  d_law_statement_by : DefAt K mg "_law_statement_by" s_law_statement_by ["_law_cells", "_law_seed"]
  d_law_written : DefAt K mg "_law_written" s_law_written ["_law_statement"]
  d_law_read_at : DefAt K mg "_law_read_at" s_law_read_at ["_law_text", "_law_at", "_law_room"]
  d_law_mended : DefAt K mg "_law_mended" s_law_mended ["_law_text", "_law_cell"]
  d_law_odd : DefAt K mg "_law_odd" s_law_odd ["_law_cell"]
  d_law_deep : DefAt K mg "_law_deep" s_law_deep ["_law_cell"]
  d_law_text_by : DefAt K mg "_law_text_by" s_law_text_by ["_law_script"]
  d_law_told : DefAt K mg "_law_told" s_law_told ["_law_text"]
  d_law : DefAt K mg "law" s_law ["_law_script"]
  z_ValueError : mg "ValueError" = none
  z_all : mg "all" = none
  z_isinstance : mg "isinstance" = none
  z_len : mg "len" = none
  z_range : mg "range" = none
  z_str : mg "str" = none
  z_tuple : mg "tuple" = none
  gl_DEEPEST : GlD K mg "DEEPEST" gl_DEEPEST
  gl_LETTERS : GlD K mg "LETTERS" gl_LETTERS
  gl_LONGEST : GlD K mg "LONGEST" gl_LONGEST
  gl_SIGNS : GlD K mg "SIGNS" gl_SIGNS
  gl_WORDS : GlD K mg "WORDS" gl_WORDS
/-! what the bodies are read as -/
def F_is_name : SS :=
  (sSeq (sIf (DL.tOr (DL.tNot (asT (eUn (isiD "str") (eVar 0)))) (DL.tNot (asT (eChain leD leD (eC (.int 1)) (eArgs lenD (aCons (eVar 0) aNil)) (eC gl_LONGEST))))) (sRet (eC (.bool false))) sNext)
    (sRet (eArgs allD (aCons (eLc 1 (sStr (eVar 0)) tTrue (eOp inD (eVar 1) (eC gl_LETTERS))) aNil))))
def sem_is_name : List PyData → Res PyData := bodyD 2 F_is_name
def F_past : SS :=
  (sSeq (sIf (asT (eOp neD (eCut (eVar 0) (oSome (eVar 1)) (oSome (eOp addD (eVar 1) (eArgs lenD (aCons (eVar 2) aNil))))) (eVar 2))) (sEx 0) sNext)
    (sRet (eOp addD (eVar 1) (eArgs lenD (aCons (eVar 2) aNil)))))
def sem_past : List PyData → Res PyData := bodyD 3 F_past
def F_name_at : SS :=
  (sSeq (sSet 2 (eVar 1))
    (sSeq (sWh 1000000 (DL.tAnd (asT (eOp ltD (eVar 2) (eArgs lenD (aCons (eVar 0) aNil)))) (asT (eCall sem_is_name (aCons (eOp ixD (eVar 0) (eVar 2)) aNil)))) (sSet 2 (eOp addD (eVar 2) (eC (.int 1)))))
    (sSeq (sIf (DL.tNot (asT (eCall sem_is_name (aCons (eCut (eVar 0) (oSome (eVar 1)) (oSome (eVar 2))) aNil)))) (sEx 0) sNext)
    (sRet (eTup (aCons (eTup (aCons (eC (.str "name")) (aCons (eCut (eVar 0) (oSome (eVar 1)) (oSome (eVar 2))) aNil))) (aCons (eVar 2) aNil)))))))
def sem_name_at : List PyData → Res PyData := bodyD 3 F_name_at
def F_pair_at (self : List PyData → Res PyData) : SS :=
  (sSeq (sAsg (eCall self (aCons (eVar 0) (aCons (eOp addD (eVar 1) (eC (.int 1))) (aCons (eOp subD (eVar 2) (eC (.int 1))) aNil)))) (gT 2 (gsCons (gN 5) (gsCons (gN 3) gsNil))))
    (sSeq (sSet 3 (eCall sem_past (aCons (eVar 0) (aCons (eVar 3) (aCons (eC (.str " ")) aNil)))))
    (sSeq (sSet 4 (eM1 findD (eC gl_SIGNS) (eCut (eVar 0) (oSome (eVar 3)) (oSome (eOp addD (eVar 3) (eC (.int 1)))))))
    (sSeq (sIf (DL.tOr (asT (eOp eqD (eCut (eVar 0) (oSome (eVar 3)) (oSome (eOp addD (eVar 3) (eC (.int 1))))) (eC (.str "")))) (asT (eOp ltD (eVar 4) (eC (.int 0))))) (sEx 0) sNext)
    (sSeq (sAsg (eCall self (aCons (eVar 0) (aCons (eCall sem_past (aCons (eVar 0) (aCons (eOp addD (eVar 3) (eC (.int 1))) (aCons (eC (.str " ")) aNil)))) (aCons (eOp subD (eVar 2) (eC (.int 1))) aNil)))) (gT 2 (gsCons (gN 6) (gsCons (gN 3) gsNil))))
    (sRet (eTup (aCons (eTup (aCons (eOp ixD (eC gl_WORDS) (eVar 4)) (aCons (eVar 5) (aCons (eVar 6) aNil)))) (aCons (eCall sem_past (aCons (eVar 0) (aCons (eVar 3) (aCons (eC (.str ")")) aNil)))) aNil)))))))))
def F_one_at (self : List PyData → Res PyData) : SS :=
  (sSeq (sIf (asT (eOp eqD (eVar 2) (eC (.int 0)))) (sEx 0) sNext)
    (sSeq (sIf (asT (eOp eqD (eCut (eVar 0) (oSome (eVar 1)) (oSome (eOp addD (eVar 1) (eC (.int 1))))) (eC (.str "#")))) (sRet (eTup (aCons (eTup (aCons (eC (.str "false")) aNil)) (aCons (eOp addD (eVar 1) (eC (.int 1))) aNil)))) sNext)
    (sSeq (sIf (asT (eOp eqD (eCut (eVar 0) (oSome (eVar 1)) (oSome (eOp addD (eVar 1) (eC (.int 1))))) (eC (.str "(")))) (sRet (eCall (bodyD 7 (F_pair_at self)) (aCons (eVar 0) (aCons (eVar 1) (aCons (eVar 2) aNil))))) sNext)
    (sRet (eCall sem_name_at (aCons (eVar 0) (aCons (eVar 1) aNil)))))))
def sem_one_at : Nat → List PyData → Res PyData
  | 0 => fun _ => .bad
  | n + 1 => bodyD 3 (F_one_at (sem_one_at n))
def F_read : SS :=
  (sSeq (sAsg (eCall (sem_one_at 31) (aCons (eVar 0) (aCons (eC (.int 0)) (aCons (eC gl_DEEPEST) aNil)))) (gT 2 (gsCons (gN 1) (gsCons (gN 2) gsNil))))
    (sSeq (sIf (asT (eOp neD (eVar 2) (eArgs lenD (aCons (eVar 0) aNil)))) (sEx 0) sNext)
    (sRet (eVar 1))))
def sem_read : List PyData → Res PyData := bodyD 3 F_read
def F_law_cell_at : SS :=
  (sSeq (sIf (asT (eOp ltD (eVar 1) (eArgs lenD (aCons (eVar 0) aNil)))) (sRet (eOp ixD (eVar 0) (eVar 1))) sNext)
    (sRet (eC (.int 0))))
def sem_law_cell_at : List PyData → Res PyData := bodyD 2 F_law_cell_at
def F_law_name_by : SS :=
  (sSeq (sSet 2 (eC (.str "abcdefghijklmnopqrstuvwxyz")))
    (sSeq (sSet 3 (eOp addD (eC (.int 1)) (eOp modD (eVar 0) (eC (.int 8)))))
    (sSeq (sSet 4 (eM1 joinD (eC (.str "")) (eLc 7 (sRng1 (aCons (eVar 3) aNil)) tTrue (eOp ixD (eVar 2) (eOp modD (eOp addD (eOp addD (eOp divD (eVar 0) (eC (.int 8))) (eOp mulD (eC (.int 5)) (eVar 7))) (eOp mulD (eVar 7) (eVar 7))) (eC (.int 26)))))))
    (sSeq (sSet 5 (eOp modD (eOp divD (eVar 0) (eC (.int 208))) (eVar 3)))
    (sSeq (sSet 6 (eOp ixD (eVar 2) (eOp modD (eOp addD (eM1 indexD (eVar 2) (eOp ixD (eVar 4) (eVar 5))) (eOp mulD (eVar 1) (eOp addD (eC (.int 1)) (eOp modD (eOp divD (eVar 0) (eC (.int 1664))) (eC (.int 8)))))) (eC (.int 26)))))
    (sSeq (sIf (DL.tAnd (asT (eOp eqD (eVar 1) (eC (.int 2)))) (DL.tAnd (asT (eOp eqD (eOp modD (eOp divD (eVar 0) (eC (.int 13312))) (eC (.int 2))) (eC (.int 1)))) (asT (eOp ltD (eVar 3) (eC (.int 8)))))) (sRet (eOp addD (eVar 4) (eVar 6))) sNext)
    (sRet (eOp addD (eOp addD (eCut (eVar 4) oNone (oSome (eVar 5))) (eVar 6)) (eCut (eVar 4) (oSome (eOp addD (eVar 5) (eC (.int 1)))) oNone)))))))))
def sem_law_name_by : List PyData → Res PyData := bodyD 8 F_law_name_by
def F_law_joined : SS :=
  (sSeq (sIf (asT (eOp eqD (eOp modD (eOp divD (eVar 0) (eC (.int 4))) (eC (.int 2))) (eC (.int 1)))) (sRet (eTup (aCons (eOp ixD (eLst (aCons (eC (.str "and")) (aCons (eC (.str "or")) (aCons (eC (.str "then")) (aCons (eC (.str "then")) aNil))))) (eOp modD (eVar 0) (eC (.int 4)))) (aCons (eVar 2) (aCons (eVar 1) aNil))))) sNext)
    (sRet (eTup (aCons (eOp ixD (eLst (aCons (eC (.str "and")) (aCons (eC (.str "or")) (aCons (eC (.str "then")) (aCons (eC (.str "then")) aNil))))) (eOp modD (eVar 0) (eC (.int 4)))) (aCons (eVar 1) (aCons (eVar 2) aNil))))))
def sem_law_joined : List PyData → Res PyData := bodyD 3 F_law_joined
def F_law_step : SS :=
  (sSeq (sSet 3 (eOp modD (eVar 1) (eC (.int 10))))
    (sSeq (sSet 4 (eOp divD (eVar 1) (eC (.int 10))))
    (sSeq (sIf (asT (eOp eqD (eVar 3) (eC (.int 4)))) (sRet (eOp addD (eVar 0) (eLst (aCons (eTup (aCons (eC (.str "false")) aNil)) aNil)))) sNext)
    (sSeq (sIf (DL.tAnd (asT (eOp eqD (eVar 3) (eC (.int 5)))) (asT (eOp gtD (eArgs lenD (aCons (eVar 0) aNil)) (eC (.int 0))))) (sRet (eOp addD (eVar 0) (eLst (aCons (eOp ixD (eVar 0) (eOp modD (eVar 4) (eArgs lenD (aCons (eVar 0) aNil)))) aNil)))) sNext)
    (sSeq (sIf (DL.tAnd (asT (eOp eqD (eVar 3) (eC (.int 6)))) (asT (eOp gtD (eArgs lenD (aCons (eVar 0) aNil)) (eC (.int 0))))) (sRet (eOp addD (eCut (eVar 0) oNone (oSome (eUn negD (eC (.int 1))))) (eLst (aCons (eTup (aCons (eC (.str "then")) (aCons (eOp ixD (eVar 0) (eUn negD (eC (.int 1)))) (aCons (eTup (aCons (eC (.str "false")) aNil)) aNil)))) aNil)))) sNext)
    (sSeq (sIf (DL.tAnd (asT (eOp gtD (eVar 3) (eC (.int 6)))) (asT (eOp gtD (eArgs lenD (aCons (eVar 0) aNil)) (eC (.int 1))))) (sRet (eOp addD (eCut (eVar 0) oNone (oSome (eUn negD (eC (.int 2))))) (eLst (aCons (eCall sem_law_joined (aCons (eVar 4) (aCons (eOp ixD (eVar 0) (eUn negD (eC (.int 2)))) (aCons (eOp ixD (eVar 0) (eUn negD (eC (.int 1)))) aNil)))) aNil)))) sNext)
    (sRet (eOp addD (eVar 0) (eLst (aCons (eTup (aCons (eC (.str "name")) (aCons (eCall sem_law_name_by (aCons (eVar 2) (aCons (eOp modD (eVar 4) (eC (.int 4))) aNil))) aNil))) aNil))))))))))
def sem_law_step : List PyData → Res PyData := bodyD 5 F_law_step
def F_law_statement_by : SS :=
  (sSeq (sSet 2 (eLst aNil))
    (sSeq (sFor (sList (eVar 0)) (gN 3) (sSet 2 (eCall sem_law_step (aCons (eVar 2) (aCons (eVar 3) (aCons (eVar 1) aNil))))))
    (sSeq (sWh 64 (asT (eOp gtD (eArgs lenD (aCons (eVar 2) aNil)) (eC (.int 1)))) (sSet 2 (eOp addD (eCut (eVar 2) oNone (oSome (eUn negD (eC (.int 2))))) (eLst (aCons (eTup (aCons (eC (.str "then")) (aCons (eOp ixD (eVar 2) (eUn negD (eC (.int 2)))) (aCons (eOp ixD (eVar 2) (eUn negD (eC (.int 1)))) aNil)))) aNil)))))
    (sSeq (sIf (asT (eOp eqD (eVar 2) (eLst aNil))) (sRet (eTup (aCons (eC (.str "name")) (aCons (eCall sem_law_name_by (aCons (eVar 1) (aCons (eC (.int 0)) aNil))) aNil)))) sNext)
    (sRet (eOp ixD (eVar 2) (eC (.int 0))))))))
def sem_law_statement_by : List PyData → Res PyData := bodyD 4 F_law_statement_by
def F_law_written (self : List PyData → Res PyData) : SS :=
  (sSeq (sIf (asT (eOp eqD (eOp ixD (eVar 0) (eC (.int 0))) (eC (.str "name")))) (sRet (eOp ixD (eVar 0) (eC (.int 1)))) sNext)
    (sSeq (sIf (asT (eOp eqD (eOp ixD (eVar 0) (eC (.int 0))) (eC (.str "false")))) (sRet (eC (.str "#"))) sNext)
    (sSeq (sSet 1 (eMenu [(Sum.inr "and", V.str "&"), (Sum.inr "or", V.str "|"), (Sum.inr "then", V.str ">")] (eOp ixD (eVar 0) (eC (.int 0)))))
    (sRet (eOp addD (eOp addD (eOp addD (eOp addD (eOp addD (eOp addD (eC (.str "(")) (eCall self (aCons (eOp ixD (eVar 0) (eC (.int 1))) aNil))) (eC (.str " "))) (eVar 1)) (eC (.str " "))) (eCall self (aCons (eOp ixD (eVar 0) (eC (.int 2))) aNil))) (eC (.str ")")))))))
def sem_law_written : Nat → List PyData → Res PyData
  | 0 => fun _ => .bad
  | n + 1 => bodyD 2 (F_law_written (sem_law_written n))
def F_law_read_at (self : List PyData → Res PyData) : SS :=
  (sSeq (sIf (asT (eOp ltD (eVar 2) (eC (.int 1)))) (sRet (eTup aNil)) sNext)
    (sSeq (sIf (asT (eOp eqD (eCut (eVar 0) (oSome (eVar 1)) (oSome (eOp addD (eVar 1) (eC (.int 1))))) (eC (.str "#")))) (sRet (eTup (aCons (eTup (aCons (eC (.str "false")) aNil)) (aCons (eOp addD (eVar 1) (eC (.int 1))) aNil)))) sNext)
    (sSeq (sIf (asT (eOp neD (eCut (eVar 0) (oSome (eVar 1)) (oSome (eOp addD (eVar 1) (eC (.int 1))))) (eC (.str "(")))) (sSeq (sSet 6 (eVar 1))
    (sSeq (sWh 1000000 (DL.tAnd (asT (eOp ltD (eVar 6) (eArgs lenD (aCons (eVar 0) aNil)))) (asT (eOp inD (eOp ixD (eVar 0) (eVar 6)) (eC (.str "abcdefghijklmnopqrstuvwxyz"))))) (sSet 6 (eOp addD (eVar 6) (eC (.int 1)))))
    (sSeq (sIf (DL.tOr (asT (eOp eqD (eVar 6) (eVar 1))) (asT (eOp gtD (eVar 6) (eOp addD (eVar 1) (eC (.int 8)))))) (sRet (eTup aNil)) sNext)
    (sRet (eTup (aCons (eTup (aCons (eC (.str "name")) (aCons (eCut (eVar 0) (oSome (eVar 1)) (oSome (eVar 6))) aNil))) (aCons (eVar 6) aNil))))))) sNext)
    (sSeq (sSet 3 (eCall self (aCons (eVar 0) (aCons (eOp addD (eVar 1) (eC (.int 1))) (aCons (eOp subD (eVar 2) (eC (.int 1))) aNil)))))
    (sSeq (sIf (asT (eOp eqD (eVar 3) (eTup aNil))) (sRet (eTup aNil)) sNext)
    (sSeq (sSet 4 (eCut (eVar 0) (oSome (eOp ixD (eVar 3) (eC (.int 1)))) (oSome (eOp addD (eOp ixD (eVar 3) (eC (.int 1))) (eC (.int 3))))))
    (sSeq (sIf (asT (eOp notInD (eVar 4) (eLst (aCons (eC (.str " & ")) (aCons (eC (.str " | ")) (aCons (eC (.str " > ")) aNil)))))) (sRet (eTup aNil)) sNext)
    (sSeq (sSet 5 (eCall self (aCons (eVar 0) (aCons (eOp addD (eOp ixD (eVar 3) (eC (.int 1))) (eC (.int 3))) (aCons (eOp subD (eVar 2) (eC (.int 1))) aNil)))))
    (sSeq (sIf (DL.tOr (asT (eOp eqD (eVar 5) (eTup aNil))) (asT (eOp neD (eCut (eVar 0) (oSome (eOp ixD (eVar 5) (eC (.int 1)))) (oSome (eOp addD (eOp ixD (eVar 5) (eC (.int 1))) (eC (.int 1))))) (eC (.str ")"))))) (sRet (eTup aNil)) sNext)
    (sRet (eTup (aCons (eTup (aCons (eOp ixD (eLst (aCons (eC (.str "and")) (aCons (eC (.str "or")) (aCons (eC (.str "then")) aNil)))) (eML lindexD (eLst (aCons (eC (.str " & ")) (aCons (eC (.str " | ")) (aCons (eC (.str " > ")) aNil)))) (eVar 4))) (aCons (eOp ixD (eVar 3) (eC (.int 0))) (aCons (eOp ixD (eVar 5) (eC (.int 0))) aNil)))) (aCons (eOp addD (eOp ixD (eVar 5) (eC (.int 1))) (eC (.int 1))) aNil)))))))))))))
def sem_law_read_at : Nat → List PyData → Res PyData
  | 0 => fun _ => .bad
  | n + 1 => bodyD 7 (F_law_read_at (sem_law_read_at n))
def F_law_mended : SS :=
  (sSeq (sSet 2 (eC (.str " !\"#$&'()*+,-./0123456789:;<=>?@ABCDEFGHIJKLMNOPQRSTUVWXYZ[\\]^_`")))
    (sSeq (sSet 2 (eOp addD (eVar 2) (eC (.str "abcdefghijklmnopqrstuvwxyz{|}~\n\t"))))
    (sSeq (sSet 3 (eOp ixD (eVar 2) (eOp modD (eOp divD (eVar 1) (eC (.int 6))) (eC (.int 96)))))
    (sSeq (sIf (asT (eOp eqD (eOp modD (eOp divD (eVar 1) (eC (.int 3))) (eC (.int 2))) (eC (.int 0)))) (sSet 3 (eOp ixD (eC (.str " ()&|>#abxyz\n\t")) (eOp modD (eOp divD (eVar 1) (eC (.int 6))) (eC (.int 14))))) sNext)
    (sSeq (sSet 4 (eOp modD (eOp divD (eVar 1) (eC (.int 600))) (eOp addD (eArgs lenD (aCons (eVar 0) aNil)) (eC (.int 1)))))
    (sSeq (sIf (asT (eOp eqD (eOp modD (eVar 1) (eC (.int 3))) (eC (.int 0)))) (sRet (eOp addD (eOp addD (eCut (eVar 0) oNone (oSome (eVar 4))) (eVar 3)) (eCut (eVar 0) (oSome (eVar 4)) oNone))) sNext)
    (sSeq (sIf (asT (eOp eqD (eOp modD (eVar 1) (eC (.int 3))) (eC (.int 1)))) (sRet (eOp addD (eCut (eVar 0) oNone (oSome (eVar 4))) (eCut (eVar 0) (oSome (eOp addD (eVar 4) (eC (.int 1)))) oNone))) sNext)
    (sRet (eOp addD (eOp addD (eCut (eVar 0) oNone (oSome (eVar 4))) (eVar 3)) (eCut (eVar 0) (oSome (eOp addD (eVar 4) (eC (.int 1)))) oNone))))))))))
def sem_law_mended : List PyData → Res PyData := bodyD 5 F_law_mended
def F_law_odd : SS :=
  (sSeq (sSet 1 (eLst (aCons (eC (.str "")) (aCons (eC (.str " ")) (aCons (eC (.str "#")) (aCons (eC (.str "##")) (aCons (eC (.str "()")) (aCons (eC (.str "(a)")) (aCons (eC (.str "(a & b")) (aCons (eC (.str "(a & b))")) (aCons (eC (.str "a & b")) (aCons (eC (.str "(a &b)")) (aCons (eC (.str "(a& b)")) (aCons (eC (.str "(a && b)")) (aCons (eC (.str "(a & )")) aNil)))))))))))))))
    (sSeq (sSet 1 (eOp addD (eVar 1) (eLst (aCons (eC (.str "( a & b)")) (aCons (eC (.str "(a & b )")) (aCons (eC (.str "(a  & b)")) (aCons (eC (.str "(a & b & c)")) (aCons (eC (.str "(a - b)")) (aCons (eC (.str "abcdefgh")) (aCons (eC (.str "abcdefghi")) (aCons (eC (.str "A")) (aCons (eC (.str "a1")) aNil))))))))))))
    (sSeq (sSet 1 (eOp addD (eVar 1) (eLst (aCons (eC (.str "false")) (aCons (eC (.str "(a and b)")) (aCons (eC (.str "(a > b) ")) (aCons (eC (.str " a")) (aCons (eC (.str "a\n")) (aCons (eC (.str "(a\t& b)")) (aCons (eC (.str "((a) & b)")) aNil))))))))))
    (sSeq (sSet 1 (eOp addD (eVar 1) (eLst (aCons (eC (.str "(a &\nb)")) (aCons (eC (.str "(> a b)")) (aCons (eC (.str "~a")) aNil))))))
    (sRet (eOp ixD (eVar 1) (eOp modD (eVar 0) (eC (.int 32)))))))))
def sem_law_odd : List PyData → Res PyData := bodyD 2 F_law_odd
def F_law_deep : SS :=
  (sSeq (sSet 1 (eOp ixD (eLst (aCons (eC (.str "a")) (aCons (eC (.str "#")) (aCons (eC (.str "(a & b)")) aNil)))) (eOp modD (eVar 0) (eC (.int 3)))))
    (sSeq (sSet 2 (eOp addD (eC (.int 27)) (eOp modD (eOp divD (eVar 0) (eC (.int 3))) (eC (.int 5)))))
    (sSeq (sIf (asT (eOp eqD (eOp modD (eOp divD (eVar 0) (eC (.int 15))) (eC (.int 4))) (eC (.int 1)))) (sSet 2 (eOp addD (eC (.int 31)) (eOp modD (eOp divD (eVar 0) (eC (.int 60))) (eC (.int 170))))) sNext)
    (sSeq (sFor (sRng1 (aCons (eVar 2) aNil)) (gN 3) (sSet 1 (eOp addD (eOp addD (eOp addD (eC (.str "(")) (eOp ixD (eLst (aCons (eC (.str "# | ")) (aCons (eC (.str "")) aNil))) (eOp modD (eOp addD (eVar 0) (eVar 3)) (eC (.int 2))))) (eVar 1)) (eOp ixD (eLst (aCons (eC (.str ")")) (aCons (eC (.str " > b)")) aNil))) (eOp modD (eOp addD (eVar 0) (eVar 3)) (eC (.int 2)))))))
    (sRet (eVar 1))))))
def sem_law_deep : List PyData → Res PyData := bodyD 4 F_law_deep
def F_law_text_by : SS :=
  (sSeq (sSet 1 (eCall sem_law_cell_at (aCons (eVar 0) (aCons (eC (.int 1)) aNil))))
    (sSeq (sIf (asT (eOp eqD (eOp modD (eVar 1) (eC (.int 4))) (eC (.int 1)))) (sRet (eCall sem_law_odd (aCons (eOp divD (eVar 1) (eC (.int 4))) aNil))) sNext)
    (sSeq (sIf (asT (eOp eqD (eOp modD (eVar 1) (eC (.int 6))) (eC (.int 2)))) (sRet (eCall sem_law_deep (aCons (eOp divD (eVar 1) (eC (.int 12))) aNil))) sNext)
    (sSeq (sSet 2 (eCall (sem_law_written 40) (aCons (eCall sem_law_statement_by (aCons (eCut (eVar 0) (oSome (eC (.int 6))) (oSome (eC (.int 18)))) (aCons (eCall sem_law_cell_at (aCons (eVar 0) (aCons (eC (.int 0)) aNil))) aNil))) aNil)))
    (sSeq (sFor (sRng1 (aCons (eOp modD (eOp divD (eVar 1) (eC (.int 12))) (eC (.int 4))) aNil)) (gN 3) (sSet 2 (eCall sem_law_mended (aCons (eVar 2) (aCons (eCall sem_law_cell_at (aCons (eVar 0) (aCons (eOp addD (eC (.int 2)) (eVar 3)) aNil))) aNil)))))
    (sRet (eVar 2)))))))
def sem_law_text_by : List PyData → Res PyData := bodyD 4 F_law_text_by
def sem_law_told (ds : List PyData) : Res PyData := match sem_read ds with
  | .ok d => .ok (.tuple [d])
  | .ex _ => .ok (.list [.bool true, .bool false, .bool false, .bool true])
  | .bad => .bad
def F_law : SS :=
  (sSeq (sSet 1 (eCall sem_law_text_by (aCons (eVar 0) aNil)))
    (sSeq (sSet 2 (eCall (sem_law_read_at 32) (aCons (eVar 1) (aCons (eC (.int 0)) (aCons (eC (.int 30)) aNil)))))
    (sSeq (sIf (DL.tAnd (asT (eOp neD (eVar 2) (eTup aNil))) (asT (eOp neD (eOp ixD (eVar 2) (eC (.int 1))) (eArgs lenD (aCons (eVar 1) aNil))))) (sSet 2 (eTup aNil)) sNext)
    (sSeq (sFor (sRng1 (aCons (eC (.int 2)) aNil)) (gN 3) (sSeq (sSet 4 (eCall sem_law_told (aCons (eVar 1) aNil)))
    (sSeq (sIf (asT (eOp eqD (eVar 2) (eTup aNil))) (sIf (asT (eOp neD (eVar 4) (eLst (aCons (eC (.bool true)) (aCons (eC (.bool false)) (aCons (eC (.bool false)) (aCons (eC (.bool true)) aNil))))))) (sRet (eC (.bool false))) sNext) (sIf (DL.tOr (DL.tNot (asT (eUn (isiD "tuple") (eVar 4)))) (asT (eOp neD (eOp ixD (eVar 4) (eC (.int 0))) (eOp ixD (eVar 2) (eC (.int 0)))))) (sRet (eC (.bool false))) sNext))
    (sIf (asT (eOp neD (eCall sem_law_told (aCons (eC (.str "(a > (# | bc))")) aNil)) (eTup (aCons (eTup (aCons (eC (.str "then")) (aCons (eTup (aCons (eC (.str "name")) (aCons (eC (.str "a")) aNil))) (aCons (eTup (aCons (eC (.str "or")) (aCons (eTup (aCons (eC (.str "false")) aNil)) (aCons (eTup (aCons (eC (.str "name")) (aCons (eC (.str "bc")) aNil))) aNil)))) aNil)))) aNil)))) (sRet (eC (.bool false))) sNext))))
    (sRet (eC (.bool true)))))))
def sem_law : List PyData → Res PyData := bodyD 5 F_law
end My

set_option maxRecDepth 100000
set_option maxHeartbeats 4000000
namespace My
open PySem L2 DL PyProof.Rows
/-! ### names -/
def NameOk (w : Str) : Prop := 1 ≤ w.length ∧ w.length ≤ 8 ∧ ∀ c ∈ w.cps.toList, 97 ≤ c ∧ c ≤ 122
theorem len_list (z : Str) : z.length = z.cps.toList.length := by simp [Str.length]
theorem letters_list : ("abcdefghijklmnopqrstuvwxyz" : Str).cps.toList = (List.range 26).map (97 + ·) := by decide +kernel
theorem letters_len : ("abcdefghijklmnopqrstuvwxyz" : Str).length = 26 := by decide +kernel
theorem ix_letters {i : Int} (h0 : 0 ≤ i) (h1 : i < 26) : ixD (.str "abcdefghijklmnopqrstuvwxyz") (.int i) = some (.str ⟨#[97 + i.toNat]⟩) := by
  have h : ∀ n : Nat, n < 26 → atI ("abcdefghijklmnopqrstuvwxyz" : Str).cps.toList (n : Int) = some (97 + n) := by decide +kernel
  have q := h i.toNat (by omega)
  rw [Int.toNat_of_nonneg h0] at q
  simp only [ixD, letters_len, q]
  rfl
theorem index_letters {c : Nat} (h0 : 97 ≤ c) (h1 : c ≤ 122) : indexD "abcdefghijklmnopqrstuvwxyz" (.str ⟨#[c]⟩) = some (.int ((c : Int) - 97)) := by
  have h : ∀ n : Nat, n < 26 → (Builtin.Str.occurrences "abcdefghijklmnopqrstuvwxyz" ⟨#[97 + n]⟩ 0 26 1).head? = some n := by decide +kernel
  have q := h (c - 97) (by omega)
  rw [show 97 + (c - 97) = c by omega] at q
  simp only [indexD, letters_len, q, Option.map_some]
  congr 2
  omega
theorem joinL_nil : ∀ xs : List (List Nat), TL.joinL [] xs = xs.flatten
  | [] => rfl
  | [a] => by simp [TL.joinL]
  | a :: b :: r => by
    have ih := joinL_nil (b :: r)
    simp only [TL.joinL, List.flatten_cons] at ih ⊢
    rw [ih]
    simp
theorem join_signs (cs : List Nat) : Str.join "" (cs.map fun c => (⟨#[c]⟩ : Str)) = ⟨cs.toArray⟩ := by
  refine TL.ext_tl ?_
  rw [TL.tl_join, List.map_map]
  have e : TL.tl "" = [] := by decide +kernel
  rw [e, joinL_nil, TL.tl_mk]
  induction cs with
  | nil => rfl
  | cons c cs ih => simp only [List.map_cons, List.flatten_cons, ih]; rfl
theorem strsOf_strs : ∀ (xs : List Str), strsOf (xs.map PyData.str) = some xs
  | [] => rfl
  | x :: xs => by simp [strsOf, strsOf_strs xs]
theorem joinD_signs (cs : List Nat) (h : cs.length ≤ big) : joinD "" (.list (cs.map fun c => .str ⟨#[c]⟩)) = some (.str ⟨cs.toArray⟩) := by
  have e : (cs.map fun c => PyData.str ⟨#[c]⟩) = (cs.map fun c => (⟨#[c]⟩ : Str)).map PyData.str := by rw [List.map_map]; rfl
  have l : ((cs.map fun c => (⟨#[c]⟩ : Str)).map (·.length)).sum + (cs.map fun c => (⟨#[c]⟩ : Str)).length * ("" : Str).length ≤ big := by
    have e2 : ("" : Str).length = 0 := by decide +kernel
    have e3 : ((cs.map fun c => (⟨#[c]⟩ : Str)).map (·.length)).sum = cs.length := by
      rw [List.map_map]
      induction cs with
      | nil => rfl
      | cons c cs ih =>
        have := ih (by simp at h; omega) (by rw [List.map_map]; rfl)
        simp only [List.map_cons, List.sum_cons, List.length_cons, this]
        show 1 + _ = _
        omega
    rw [e2, e3]
    omega
  simp only [joinD, e, strsOf_strs, Option.bind_some]
  rw [if_pos l, join_signs]
theorem ix_str {z : Str} {i : Int} (h0 : 0 ≤ i) (h1 : i < z.length) (hz : z.length ≤ big) : ∃ c, ixD (.str z) (.int i) = some (.str ⟨#[c]⟩) ∧ c ∈ z.cps.toList := by
  have hl := len_list z
  have hi : i.toNat < z.cps.toList.length := by omega
  have q : atI z.cps.toList ((i.toNat : Nat) : Int) = some z.cps.toList[i.toNat] := atI_nat (List.getElem?_eq_getElem hi)
  rw [Int.toNat_of_nonneg h0] at q
  refine ⟨_, ?_, List.getElem_mem hi⟩
  simp only [ixD, if_pos hz, q]
  rfl
theorem cutS_toList (z : Str) (lo hi : Option Int) : (cutS z lo hi).cps.toList = cutP z.cps.toList lo hi := by
  simp [cutS, cutP, len_list]
theorem sIx_pos {n d : Nat} {i : Int} (h : 0 ≤ i) : HT.sIx n d (some i) = min i.toNat n := by
  have q := HT.sIx_nat n d i.toNat
  rw [Int.toNat_of_nonneg h] at q
  exact q
def nameSign (s : Int) (d : PyData) : Nat := match d with
  | .int j => 97 + ((s / 8 + 5 * j + j * j) % 26).toNat
  | _ => 0
theorem upTo_signs (s : Int) (n : Nat) : (upTo 0 n).map (fun d => PyData.str ⟨#[nameSign s d]⟩) = ((upTo 0 n).map (nameSign s)).map fun c => PyData.str ⟨#[c]⟩ := by
  rw [List.map_map]; rfl
theorem addD_str {a b : Str} (h : a.length + b.length ≤ big) : addD (.str a) (.str b) = some (.str (a ++ b)) := if_pos h
theorem cutD_str {z : Str} {lo hi : Option Int} (h : z.length ≤ big) : cutD lo hi (.str z) = some (.str (cutS z lo hi)) := if_pos h
theorem app_list (a b : Str) : (a ++ b).cps.toList = a.cps.toList ++ b.cps.toList := TL.tl_append a b
theorem app_len (a b : Str) : (a ++ b).length = a.length + b.length := by
  rw [len_list, len_list, len_list, app_list, List.length_append]
@[simp] theorem sign_len (c : Nat) : (⟨#[c]⟩ : Str).length = 1 := rfl
theorem name_by (s k : Int) : ∃ w, sem_law_name_by [.int s, .int k] = .ok (.str w) ∧ NameOk w := by
  have h1 : 1 ≤ 1 + s % 8 ∧ 1 + s % 8 ≤ 8 := by omega
  have hbig : big = 1000000 := rfl
  have hb1 : -(big : Int) ≤ 1 + s % 8 ∧ 1 + s % 8 ≤ (big : Int) := by simp only [big]; omega
  have hb2 : (1 + s % 8).toNat ≤ big := by simp only [big]; omega
  simp only [sem_law_name_by, bodyD, F_law_name_by, startD]
  generalize hcs : (upTo 0 (1 + s % 8).toNat).map (nameSign s) = cs
  have hcl : cs.length = (1 + s % 8).toNat := by rw [← hcs, List.length_map, upTo_len]
  have hcr : ∀ c ∈ cs, 97 ≤ c ∧ c ≤ 122 := by
    intro c hc
    rw [← hcs] at hc
    obtain ⟨d, hd, rfl⟩ := List.mem_map.mp hc
    obtain ⟨j, _, rfl⟩ := mem_upTo.mp hd
    simp only [nameSign]
    omega
  have hjoin := joinD_signs cs (by omega)
  simp [eLc_ap, hb1, hb2, upTo_len]
  rw [lcGo_map (v := fun d => .str ⟨#[nameSign s d]⟩) (by
    intro d hd
    obtain ⟨j, hj, rfl⟩ := mem_upTo.mp hd
    have hj1 : -1000000 ≤ (0 : Int) + j ∧ (0 : Int) + j ≤ 1000000 := by omega
    have m1 : mulD (.int 5) (.int (0 + (j : Int))) = some (.int (5 * (0 + (j : Int)))) := mulD_l (small64_of (by decide) (by decide))
    have m2 : mulD (.int (0 + (j : Int))) (.int (0 + (j : Int))) = some (.int ((0 + (j : Int)) * (0 + (j : Int)))) := mulD_l (small64_of hj1.1 hj1.2)
    refine ⟨rfl, ?_, rfl⟩
    simp only [Int.zero_add] at m1 m2
    simp [m1, m2]
    rw [ix_letters (by omega) (by omega)]
    simp [nameSign]), upTo_signs, hcs]
  simp only [Res.calm, Res.ok_bind, hjoin, Res.of_some]
  generalize hz : (⟨cs.toArray⟩ : Str) = z
  have hzl : z.cps.toList = cs := by rw [← hz]
  have hlen : z.length = (1 + s % 8).toNat := by rw [len_list, hzl, hcl]
  generalize hsize : 1 + s % 8 = size at *
  generalize hspot : s / 208 % size = spot
  have hsp : 0 ≤ spot ∧ spot < size := by
    rw [← hspot]
    exact ⟨Int.emod_nonneg _ (by omega), Int.emod_lt_of_pos _ (by omega)⟩
  obtain ⟨c, hc1, hc2⟩ := ix_str (z := z) (i := spot) hsp.1 (by omega) (by omega)
  have hc3 := hcr c (by rw [← hzl]; exact hc2)
  have hidx := index_letters hc3.1 hc3.2
  have m3 : mulD (.int k) (.int (1 + s / 1664 % 8)) = some (.int (k * (1 + s / 1664 % 8))) := mulD_r (small64_of (by omega) (by omega))
  generalize hj : ((c : Int) - 97 + k * (1 + s / 1664 % 8)) % 26 = j
  have hjr : 0 ≤ j ∧ j < 26 := by rw [← hj]; omega
  have hsg := ix_letters hjr.1 hjr.2
  generalize hg : (⟨#[97 + j.toNat]⟩ : Str) = g at hsg
  have hgl : g.length = 1 := by rw [← hg]; rfl
  have hgs : g.cps.toList = [97 + j.toNat] := by rw [← hg]
  have hp : (0 : Int) < size := by omega
  have hk1 : addD (.str z) (.str g) = some (.str (z ++ g)) := addD_str (by omega)
  have hk2 : cutD none (some spot) (.str z) = some (.str (cutS z none (some spot))) := cutD_str (by omega)
  have hk3 : cutD (some (spot + 1)) none (.str z) = some (.str (cutS z (some (spot + 1)) none)) := cutD_str (by omega)
  have hl1 : (cutS z none (some spot)).cps.toList = cs.take spot.toNat := by
    rw [cutS_toList, hzl]
    simp only [cutP, HT.sIx_none, List.drop_zero, Nat.sub_zero]
    rw [sIx_pos hsp.1]
    rw [Nat.min_eq_left (by omega)]
  have hl2 : (cutS z (some (spot + 1)) none).cps.toList = cs.drop (spot.toNat + 1) := by
    rw [cutS_toList, hzl]
    simp only [cutP, HT.sIx_none]
    rw [sIx_pos (by omega), Nat.min_eq_left (by omega), show (spot + 1).toNat = spot.toNat + 1 by omega]
    exact List.take_of_length_le (by rw [List.length_drop]; omega)
  have hL1 : (cutS z none (some spot)).length = spot.toNat := by rw [len_list, hl1, List.length_take]; omega
  have hL2 : (cutS z (some (spot + 1)) none).length = cs.length - (spot.toNat + 1) := by rw [len_list, hl2, List.length_drop]
  have hk4 : addD (.str (cutS z none (some spot))) (.str g) = some (.str (cutS z none (some spot) ++ g)) := addD_str (by omega)
  have hk5 : addD (.str (cutS z none (some spot) ++ g)) (.str (cutS z (some (spot + 1)) none)) = some (.str (cutS z none (some spot) ++ g ++ cutS z (some (spot + 1)) none)) := addD_str (by rw [app_len]; omega)
  simp [hp, hspot, hc1, hidx, m3, hj, hsg, hk1, hk2, hk3, hk4, hk5]
  have ok1 : size < 8 → NameOk (z ++ g) := fun h => by
    refine ⟨by rw [app_len]; omega, by rw [app_len]; omega, fun x hx => ?_⟩
    rw [app_list, hzl, hgs] at hx
    rcases List.mem_append.mp hx with hx | hx
    · exact hcr x hx
    · rw [List.mem_singleton] at hx
      omega
  have ok2 : NameOk (cutS z none (some spot) ++ g ++ cutS z (some (spot + 1)) none) := by
    refine ⟨by rw [app_len, app_len]; omega, by rw [app_len, app_len]; omega, fun x hx => ?_⟩
    rw [app_list, app_list, hl1, hl2, hgs] at hx
    rcases List.mem_append.mp hx with hx | hx
    · rcases List.mem_append.mp hx with hx | hx
      · exact hcr x (List.mem_of_mem_take hx)
      · rw [List.mem_singleton] at hx
        omega
    · exact hcr x (List.mem_of_mem_drop hx)
  split
  · split
    · split
      · rename_i h
        exact ⟨_, rfl, ok1 h⟩
      · exact ⟨_, rfl, ok2⟩
    · exact ⟨_, rfl, ok2⟩
  · exact ⟨_, rfl, ok2⟩

/-! ### statements -/
inductive W3 where
  | an | orr | th
def W3.word : W3 → Str
  | .an => "and"
  | .orr => "or"
  | .th => "then"
inductive Stm where
  | nm (w : Str)
  | fl
  | bin (o : W3) (a b : Stm)
namespace Stm
def enc : Stm → PyData
  | nm w => .tuple [.str "name", .str w]
  | fl => .tuple [.str "false"]
  | bin o a b => .tuple [.str o.word, enc a, enc b]
def depth : Stm → Nat
  | nm _ => 1
  | fl => 1
  | bin _ a b => max a.depth b.depth + 1
def Ok : Stm → Prop
  | nm w => NameOk w
  | fl => True
  | bin _ a b => a.Ok ∧ b.Ok
theorem depth_pos : ∀ s : Stm, 1 ≤ s.depth
  | nm _ => Nat.le_refl _
  | fl => Nat.le_refl _
  | bin _ a b => by simp only [depth]; omega
end Stm
/-! the script's cells -/
theorem cell_at (ns : List Int) (k : Nat) (hk : ns.length ≤ 63) : sem_law_cell_at [.list (ns.map PyData.int), .int k] = .ok (.int (ns.getD k 0)) := by
  simp [sem_law_cell_at, bodyD, F_law_cell_at, startD]
  by_cases h : k < ns.length
  · have q : atI (ns.map PyData.int) (k : Int) = some (.int ns[k]) := atI_nat (by rw [List.getElem?_map, List.getElem?_eq_getElem h]; rfl)
    simp [h, q, List.getElem?_eq_getElem h]
  · simp [h, List.getElem?_eq_none (Nat.le_of_not_lt h)]
@[simp] theorem big_ge {n : Nat} (h : n ≤ 1000) : n ≤ big := Nat.le_trans h (by decide)
theorem four_words (w : Int) : ∃ o : W3, ixD (.list [.str "and", .str "or", .str "then", .str "then"]) (.int (w % 4)) = some (.str o.word) := by
  have h : w % 4 = 0 ∨ w % 4 = 1 ∨ w % 4 = 2 ∨ w % 4 = 3 := by omega
  rcases h with h | h | h | h <;> rw [h]
  · exact ⟨.an, rfl⟩
  · exact ⟨.orr, rfl⟩
  · exact ⟨.th, rfl⟩
  · exact ⟨.th, rfl⟩
theorem joined (w : Int) (a b : Stm) : ∃ o, sem_law_joined [.int w, a.enc, b.enc] = .ok (Stm.bin o a b).enc ∨ sem_law_joined [.int w, a.enc, b.enc] = .ok (Stm.bin o b a).enc := by
  obtain ⟨o, ho⟩ := four_words w
  refine ⟨o, ?_⟩
  by_cases h : w / 4 % 2 = 1
  · refine .inr ?_
    simp only [sem_law_joined, bodyD, F_law_joined, startD]
    simp [h, ho, Stm.enc]
  · refine .inl ?_
    simp only [sem_law_joined, bodyD, F_law_joined, startD]
    simp [h, ho, Stm.enc]
end My

set_option maxRecDepth 100000
set_option maxHeartbeats 4000000
set_option linter.all false
namespace My
open PySem L2 DL PyProof.Rows
/-! ### the pile -/
def Stm.leaves : Stm → Nat
  | .nm _ => 1
  | .fl => 1
  | .bin _ a b => a.leaves + b.leaves
def grow : Nat → Nat
  | 0 => 1
  | 1 => 2
  | k + 2 => 2 * grow k + 1
theorem grow_up : ∀ k, grow k + 1 ≤ grow (k + 1)
  | 0 => by decide
  | 1 => by decide
  | k + 2 => by
    have := grow_up k
    have e1 : grow (k + 2) = 2 * grow k + 1 := rfl
    have e2 : grow (k + 2 + 1) = 2 * grow (k + 1) + 1 := rfl
    omega
theorem grow_mono {j k : Nat} (h : j ≤ k) : grow j ≤ grow k := by
  induction h with
  | refl => exact Nat.le_refl _
  | step _ ih =>
    rename_i m _
    have := grow_up m
    exact Nat.le_trans ih (by show grow m ≤ grow (m + 1); omega)
theorem grow_pos (k : Nat) : 1 ≤ grow k := grow_mono (j := 0) (Nat.zero_le k)
def Pot (ps : List Stm) (n : Nat) : Prop := ps.length ≤ n ∧ ∀ s ∈ ps, s.Ok ∧ s.depth + ps.length ≤ n + 1 ∧ s.leaves ≤ grow (n - ps.length)
def encs (ps : List Stm) : List PyData := ps.map Stm.enc
@[simp] theorem encs_len (ps : List Stm) : (encs ps).length = ps.length := List.length_map _
theorem encs_app (ps qs : List Stm) : encs (ps ++ qs) = encs ps ++ encs qs := List.map_append
theorem at_back {α : Type} (xs : List α) (v : α) : atI (xs ++ [v]) (-1) = some v := atI_last xs v
theorem at_back2 {α : Type} (xs : List α) (u v : α) : atI (xs ++ [u, v]) (-2) = some u := by
  have e : ixN (xs ++ [u, v]).length (-2) = some xs.length := by
    simp only [ixN, List.length_append, List.length_cons, List.length_nil]
    rw [if_neg (by omega), if_pos (by omega)]
    congr 1
    omega
  unfold atI
  rw [e]
  simp
theorem cut_back {α : Type} (xs : List α) (v : α) : cutP (xs ++ [v]) none (some (-1)) = xs := by
  have e : HT.sIx (xs ++ [v]).length (xs ++ [v]).length (some (-1)) = xs.length := by
    simp only [HT.sIx, List.length_append, List.length_cons, List.length_nil]
    simp
    try omega
  rw [cutP, e]
  simp [HT.sIx_none]
theorem cut_back2 {α : Type} (xs : List α) (u v : α) : cutP (xs ++ [u, v]) none (some (-2)) = xs := by
  have e : HT.sIx (xs ++ [u, v]).length (xs ++ [u, v]).length (some (-2)) = xs.length := by
    simp only [HT.sIx, List.length_append, List.length_cons, List.length_nil]
    simp
    try omega
  rw [cutP, e]
  simp [HT.sIx_none]
theorem back1 {α : Type} {xs : List α} (h : 0 < xs.length) : ∃ ys v, xs = ys ++ [v] := by
  rcases List.eq_nil_or_concat xs with e | ⟨ys, v, e⟩
  · rw [e] at h; exact absurd h (Nat.lt_irrefl _)
  · exact ⟨ys, v, by rw [e, List.concat_eq_append]⟩
theorem back2 {α : Type} {xs : List α} (h : 1 < xs.length) : ∃ ys u v, xs = ys ++ [u, v] := by
  obtain ⟨ys, v, e⟩ := back1 (xs := xs) (by omega)
  subst e
  obtain ⟨zs, u, e⟩ := back1 (xs := ys) (by rw [List.length_append] at h; simp at h; omega)
  subst e
  exact ⟨zs, u, v, by simp⟩
theorem addD_list {a b : List PyData} (h : a.length + b.length ≤ big) : addD (.list a) (.list b) = some (.list (a ++ b)) := if_pos h
@[simp] theorem cutD_list {xs : List PyData} {lo hi : Option Int} : DL.cutD lo hi (.list xs) = some (.list (cutP xs lo hi)) := nrfl rfl
@[simp] theorem cutD_tuple {xs : List PyData} {lo hi : Option Int} : DL.cutD lo hi (.tuple xs) = some (.tuple (cutP xs lo hi)) := nrfl rfl
theorem pot_push {ps : List Stm} {n : Nat} {s : Stm} (h : Pot ps n) (ho : s.Ok) (hd : s.depth + ps.length ≤ n + 1) (hl : s.leaves ≤ grow (n - ps.length)) : Pot (ps ++ [s]) (n + 1) := by
  have he : n + 1 - (ps.length + 1) = n - ps.length := by omega
  refine ⟨by rw [List.length_append]; exact Nat.succ_le_succ h.1, fun t ht => ?_⟩
  rw [List.length_append, List.length_singleton]
  rcases List.mem_append.mp ht with ht | ht
  · have := h.2 t ht
    exact ⟨this.1, by omega, by rw [he]; exact this.2.2⟩
  · rw [List.mem_singleton] at ht
    subst ht
    exact ⟨ho, by omega, by rw [he]; exact hl⟩
theorem step (ps : List Stm) (n : Nat) (c s : Int) (h : Pot ps n) (hn : n ≤ 100) : ∃ qs, sem_law_step [.list (encs ps), .int c, .int s] = .ok (.list (encs qs)) ∧ Pot qs (n + 1) := by
  obtain ⟨w, hw, hwo⟩ := name_by s (c / 10 % 4)
  have hlen := h.1
  have push : ∀ t : Stm, addD (.list (encs ps)) (.list [t.enc]) = some (.list (encs (ps ++ [t]))) := fun t => by
    rw [addD_list (by rw [encs_len]; exact big_ge (by simp; omega)), encs_app]; rfl
  have hname : ∃ qs, addD (.list (encs ps)) (.list [.tuple [.str "name", .str w]]) = some (.list (encs qs)) ∧ Pot qs (n + 1) :=
    ⟨_, push (.nm w), pot_push h hwo (by simp only [Stm.depth]; omega) (grow_pos _)⟩
  obtain ⟨q1, hq1, hq1p⟩ := hname
  simp only [sem_law_step, bodyD, F_law_step, startD]
  by_cases h4 : c % 10 = 4
  · have hf := push .fl
    simp only [Stm.enc] at hf
    simp [h4, hf]
    exact ⟨_, rfl, pot_push h trivial (by simp only [Stm.depth]; omega) (grow_pos _)⟩
  by_cases h5 : c % 10 = 5 ∧ 0 < ps.length
  · have hp : (0 : Int) < (ps.length : Int) := by omega
    have hr1 : 0 ≤ c / 10 % (ps.length : Int) := Int.emod_nonneg _ (by omega)
    have hr2 : c / 10 % (ps.length : Int) < ps.length := Int.emod_lt_of_pos _ hp
    generalize hj : c / 10 % (ps.length : Int) = j at *
    have hjl : j.toNat < ps.length := by omega
    have hat : atI (encs ps) ((j.toNat : Nat) : Int) = some (ps[j.toNat]).enc := atI_nat (by unfold encs; rw [List.getElem?_map, List.getElem?_eq_getElem hjl]; rfl)
    rw [Int.toNat_of_nonneg hr1] at hat
    have hb := push ps[j.toNat]
    simp [h5.1, h5.2, hp, hj, hat, hb]
    have hm := h.2 _ (List.getElem_mem hjl)
    exact ⟨_, rfl, pot_push h hm.1 hm.2.1 hm.2.2⟩
  by_cases h6 : c % 10 = 6 ∧ 0 < ps.length
  · obtain ⟨ys, v, e⟩ := back1 h6.2
    subst e
    have hb : addD (.list (encs ys)) (.list [(Stm.bin .th v .fl).enc]) = some (.list (encs (ys ++ [.bin .th v .fl]))) := by
      rw [addD_list (by rw [encs_len]; exact big_ge (by simp at hlen ⊢; omega)), encs_app]; rfl
    have hx1 : atI (encs (ys ++ [v])) (-1) = some v.enc := by rw [encs_app]; exact at_back _ _
    have hx2 : cutP (encs (ys ++ [v])) none (some (-1)) = encs ys := by rw [encs_app]; exact cut_back _ _
    simp only [Stm.enc, W3.word] at hb
    have hp : (0 : Int) < ((ys ++ [v]).length : Int) := by omega
    simp at hp
    simp [h6.1, hp, hx1, hx2, hb]
    refine ⟨_, rfl, ?_⟩
    have hd := Stm.depth_pos v
    have hv := h.2 v (by simp)
    refine ⟨by simp at hlen ⊢; omega, fun t ht => ?_⟩
    rcases List.mem_append.mp ht with ht | ht
    · have := h.2 t (List.mem_append_left _ ht)
      simp at this hlen ⊢
      exact ⟨this.1, by omega, Nat.le_trans this.2.2 (grow_mono (by omega))⟩
    · rw [List.mem_singleton] at ht
      subst ht
      simp at hv hlen ⊢
      refine ⟨⟨hv.1, trivial⟩, ?_, ?_⟩
      · simp only [Stm.depth]
        omega
      · have g := grow_up (n - (ys.length + 1))
        rw [show n - (ys.length + 1) + 1 = n - ys.length by omega] at g
        simp only [Stm.leaves]
        omega
  by_cases h7 : 6 < c % 10 ∧ 1 < ps.length
  · obtain ⟨ys, u, v, e⟩ := back2 h7.2
    subst e
    have hx1 : atI (encs (ys ++ [u, v])) (-1) = some v.enc := by
      have : ys ++ [u, v] = (ys ++ [u]) ++ [v] := by simp
      rw [this, encs_app]; exact at_back _ _
    have hx2 : atI (encs (ys ++ [u, v])) (-2) = some u.enc := by rw [encs_app]; exact at_back2 _ _ _
    have hx3 : cutP (encs (ys ++ [u, v])) none (some (-2)) = encs ys := by rw [encs_app]; exact cut_back2 _ _ _
    have hu := h.2 u (by simp)
    have hv := h.2 v (by simp)
    have fin : ∀ t : Stm, t.Ok → t.depth = max u.depth v.depth + 1 → t.leaves = u.leaves + v.leaves → ∃ qs, addD (.list (encs ys)) (.list [t.enc]) = some (.list (encs qs)) ∧ Pot qs (n + 1) := fun t h1 h2 h3 => by
      refine ⟨ys ++ [t], ?_, ?_⟩
      · rw [addD_list (by rw [encs_len]; exact big_ge (by simp at hlen ⊢; omega)), encs_app]; rfl
      · refine ⟨by simp at hlen ⊢; omega, fun x hx => ?_⟩
        rcases List.mem_append.mp hx with hx | hx
        · have := h.2 x (List.mem_append_left _ hx)
          simp at this hlen ⊢
          exact ⟨this.1, by omega, Nat.le_trans this.2.2 (grow_mono (by omega))⟩
        · rw [List.mem_singleton] at hx
          subst hx
          simp at hu hv hlen ⊢
          refine ⟨h1, by omega, ?_⟩
          have g : grow (n - (ys.length + 2) + 2) = 2 * grow (n - (ys.length + 2)) + 1 := rfl
          rw [show n - (ys.length + 2) + 2 = n - ys.length by omega] at g
          omega
    have hp : (1 : Int) < ((ys ++ [u, v]).length : Int) := by omega
    simp at hp
    have n4 : ¬ (c % 10 = 4) := h4
    have n5 : ¬ (c % 10 = 5) := by omega
    have n6 : ¬ (c % 10 = 6) := by omega
    obtain ⟨o, hj | hj⟩ := joined (c / 10) u v
    · obtain ⟨qs, h1, h2⟩ := fin (.bin o u v) ⟨hu.1, hv.1⟩ rfl rfl
      simp [n4, n5, n6, h7.1, hp, hx1, hx2, hx3, hj, h1]
      exact ⟨_, rfl, h2⟩
    · obtain ⟨qs, h1, h2⟩ := fin (.bin o v u) ⟨hv.1, hu.1⟩ (by simp only [Stm.depth]; omega) (by simp only [Stm.leaves]; omega)
      simp [n4, n5, n6, h7.1, hp, hx1, hx2, hx3, hj, h1]
      exact ⟨_, rfl, h2⟩
  · have e5 : c % 10 = 5 → ps.length = 0 := fun a => by
      have := mt (fun b => h5 ⟨a, b⟩)
      omega
    have e6 : c % 10 = 6 → ps.length = 0 := fun a => by
      have := mt (fun b => h6 ⟨a, b⟩)
      omega
    have e7 : 6 < c % 10 → ps.length ≤ 1 := fun a => by
      have := mt (fun b => h7 ⟨a, b⟩)
      omega
    by_cases a5 : c % 10 = 5
    · have l := e5 a5
      simp [a5, l, hw, hq1]
      exact ⟨_, rfl, hq1p⟩
    by_cases a6 : c % 10 = 6
    · have l := e6 a6
      simp [a6, l, hw, hq1]
      exact ⟨_, rfl, hq1p⟩
    by_cases a7 : 6 < c % 10
    · have l := e7 a7
      have l2 : ¬ (1 : Int) < (ps.length : Int) := by omega
      simp [h4, a5, a6, a7, l2, hw, hq1]
      exact ⟨_, rfl, hq1p⟩
    · simp [h4, a5, a6, a7, hw, hq1]
      exact ⟨_, rfl, hq1p⟩
theorem ints_get (ns : List Int) (j : Nat) (d : PyData) (h : (ns.map PyData.int)[j]? = some d) : ∃ c, d = .int c := by
  rw [List.getElem?_map] at h
  cases e : ns[j]? with
  | none => rw [e] at h; cases h
  | some c => rw [e] at h; cases h; exact ⟨c, rfl⟩
theorem shaped_list0 (xs : List PyData) (h : SeqAt.shaped (.list xs) = true) : eqD (.list xs) (.list []) = some (.bool xs.isEmpty) := by
  have e : SeqAt.shaped (.list []) = true := by decide
  have e2 : eqD (.list xs) (.list []) = if SeqAt.shaped (.list xs) && SeqAt.shaped (.list []) then some (.bool (PyData.eqv (.list xs) (.list []))) else none := rfl
  rw [e2, h, e]
  cases xs <;> rfl
theorem name_shaped {w : Str} (h : NameOk w) : (PyData.str w).canLay0 = true := by
  simp only [PyData.canLay0, PyData.strOk, Array.all_eq_true, decide_eq_true_eq]
  intro i hi
  have := h.2.2 _ (Array.mem_toList_iff.mpr (Array.getElem_mem hi))
  omega
theorem stm_lay : ∀ s : Stm, s.Ok → s.enc.canLay0 = true
  | .nm w, h => by
    have q := name_shaped h
    simp only [Stm.enc, PyData.canLay0, PyData.canLayAll0, Bool.and_true, Bool.and_eq_true]
    exact ⟨by decide +kernel, q⟩
  | .fl, _ => by decide +kernel
  | .bin o a b, h => by
    have q1 := stm_lay a h.1
    have q2 := stm_lay b h.2
    simp only [Stm.enc, PyData.canLay0, PyData.canLayAll0, Bool.and_true, Bool.and_eq_true]
    exact ⟨by cases o <;> decide +kernel, q1, q2⟩
theorem stm_depth : ∀ s : Stm, s.enc.depth = s.depth
  | .nm w => by simp [Stm.enc, PyData.depth, PyData.depthAll, Stm.depth]
  | .fl => by simp [Stm.enc, PyData.depth, PyData.depthAll, Stm.depth]
  | .bin o a b => by
    simp only [Stm.enc, PyData.depth, PyData.depthAll, Stm.depth, stm_depth a, stm_depth b]
    omega
theorem stm_shaped {s : Stm} (h : s.Ok) (hd : s.depth ≤ 64) : SeqAt.shaped s.enc = true := by
  unfold SeqAt.shaped
  rw [stm_lay s h, stm_depth]
  simpa using hd
theorem encs_shaped : ∀ {ps : List Stm}, (∀ s ∈ ps, s.Ok ∧ s.depth ≤ 63) → SeqAt.shaped (.list (encs ps)) = true := by
  intro ps h
  have h1 : PyData.canLayAll0 (encs ps) = true ∧ PyData.depthAll (encs ps) ≤ 63 := by
    induction ps with
    | nil => exact ⟨rfl, Nat.zero_le _⟩
    | cons s ps ih =>
      have q := ih fun t ht => h t (List.mem_cons_of_mem _ ht)
      have q2 := h s List.mem_cons_self
      show PyData.canLayAll0 (s.enc :: encs ps) = true ∧ PyData.depthAll (s.enc :: encs ps) ≤ 63
      simp only [PyData.canLayAll0, PyData.depthAll, Bool.and_eq_true, stm_depth]
      exact ⟨⟨stm_lay s q2.1, q.1⟩, by omega⟩
  unfold SeqAt.shaped
  have h2 : PyData.depth (.list (encs ps)) ≤ 64 := by
    simp only [PyData.depth]
    omega
  simp only [PyData.canLay0, h1.1, Bool.true_and]
  exact decide_eq_true h2
def total (ps : List Stm) : Nat := (ps.map Stm.leaves).sum
theorem total_app (ps qs : List Stm) : total (ps ++ qs) = total ps + total qs := by simp [total]
theorem total_le {ps : List Stm} {b : Nat} (h : ∀ s ∈ ps, s.leaves ≤ b) : total ps ≤ ps.length * b := by
  induction ps with
  | nil => exact Nat.zero_le _
  | cons s ps ih =>
    have h1 := h s List.mem_cons_self
    have h2 := ih fun t ht => h t (List.mem_cons_of_mem _ ht)
    simp only [total, List.map_cons, List.sum_cons, List.length_cons] at h2 ⊢
    rw [Nat.add_mul]
    omega
theorem total_19 {ps : List Stm} {n : Nat} (h : Pot ps n) (hn : n ≤ 12) : total ps ≤ 2000 := by
  rcases Nat.eq_zero_or_pos ps.length with e | e
  · rw [List.length_eq_zero_iff.mp e]
    exact Nat.zero_le _
  have h1 := total_le fun s hs => (h.2 s hs).2.2
  have h2 : grow (n - ps.length) ≤ 95 := Nat.le_trans (grow_mono (k := 11) (by omega)) (by decide)
  have h3 := h.1
  have h4 : ps.length * grow (n - ps.length) ≤ 12 * 95 := Nat.mul_le_mul (by omega) h2
  omega
def Pot0 (ps : List Stm) (n : Nat) : Prop := ps.length ≤ n ∧ ∀ s ∈ ps, s.Ok ∧ s.depth + ps.length ≤ n + 1
theorem statement_by (cs : List Int) (s : Int) (hc : cs.length ≤ 12) : ∃ x : Stm, sem_law_statement_by [.list (cs.map PyData.int), .int s] = .ok x.enc ∧ x.Ok ∧ x.depth ≤ max 1 cs.length ∧ x.leaves ≤ 2000 := by
  simp only [sem_law_statement_by, bodyD, F_law_statement_by, startD]
  simp [sFor_ap, sWh_ap]
  obtain ⟨ρ1, h1, h2⟩ := forGo_inv (k := gN 3) (F := sSet 2 (eCall sem_law_step (aCons (eVar 2) (aCons (eVar 3) (aCons (eVar 1) aNil)))))
    (fun i ρ => ∃ ps x, ρ = [some (.list (cs.map PyData.int)), some (.int s), some (.list (encs ps)), x] ∧ Pot ps i) (xs := cs.map PyData.int) (i := 0)
    (ρ := [some (.list (cs.map PyData.int)), some (.int s), some (.list []), none]) ⟨[], none, rfl, Nat.le_refl _, fun s h => by cases h⟩ (by
      intro j d ρ hd ⟨ps, x, e, hp⟩
      subst e
      obtain ⟨c, rfl⟩ := ints_get cs j d hd
      have hj : j < cs.length := by simpa using (List.getElem?_eq_some_iff.mp hd).1
      obtain ⟨qs, q1, q2⟩ := step ps (0 + j) c s hp (by omega)
      exact ⟨_, [some (.list (cs.map PyData.int)), some (.int s), some (.list (encs qs)), some (.int c)], rfl, .inl (by simp [q1]), qs, _, rfl, q2⟩)
  rw [h1]
  obtain ⟨ps, x, e, hp⟩ := h2
  subst e
  simp only [List.length_map, Nat.zero_add] at hp
  have hb := hp.1
  have hp' : Pot0 ps cs.length ∧ total ps ≤ 2000 := ⟨⟨hp.1, fun s hs => ⟨(hp.2 s hs).1, (hp.2 s hs).2.1⟩⟩, total_19 hp hc⟩
  obtain ⟨ρ2, h3, h4⟩ := whGo_inv (t := asT (eOp gtD (eArgs lenD (aCons (eVar 2) aNil)) (eC (PyData.int 1))))
    (F := sSet 2 (eOp addD (eCut (eVar 2) oNone (oSome (eUn negD (eC (PyData.int 2))))) (eLst (aCons (eTup (aCons (eC (PyData.str "then")) (aCons (eOp ixD (eVar 2) (eUn negD (eC (PyData.int 2)))) (aCons (eOp ixD (eVar 2) (eUn negD (eC (PyData.int 1)))) aNil)))) aNil))))
    (fun m ρ => ∃ ps, ρ = [some (.list (cs.map PyData.int)), some (.int s), some (.list (encs ps)), x] ∧ (Pot0 ps cs.length ∧ total ps ≤ 2000) ∧ ps.length = m)
    (fun ρ => ∃ ps, ρ = [some (.list (cs.map PyData.int)), some (.int s), some (.list (encs ps)), x] ∧ (Pot0 ps cs.length ∧ total ps ≤ 2000) ∧ ps.length ≤ 1) (by
      rintro m ρ ⟨ps, rfl, ⟨hp, ht⟩, hm⟩
      have hlen := hp.1
      refine ⟨decide ((1 : Int) < (ps.length : Int)), by simp, fun e => ?_, fun e => ?_⟩
      · have e' := of_decide_eq_false e
        exact ⟨ps, rfl, ⟨hp, ht⟩, by omega⟩
      · have e' := of_decide_eq_true e
        obtain ⟨ys, u, v, hy⟩ := back2 (xs := ps) (by omega)
        subst hy
        have hx1 : atI (encs (ys ++ [u, v])) (-1) = some v.enc := by
          have : ys ++ [u, v] = (ys ++ [u]) ++ [v] := by simp
          rw [this, encs_app]; exact at_back _ _
        have hx2 : atI (encs (ys ++ [u, v])) (-2) = some u.enc := by rw [encs_app]; exact at_back2 _ _ _
        have hx3 : cutP (encs (ys ++ [u, v])) none (some (-2)) = encs ys := by rw [encs_app]; exact cut_back2 _ _ _
        have hu := hp.2 u (by simp)
        have hv := hp.2 v (by simp)
        have hb : addD (.list (encs ys)) (.list [(Stm.bin .th u v).enc]) = some (.list (encs (ys ++ [.bin .th u v]))) := by
          rw [addD_list (by rw [encs_len]; exact big_ge (by simp at hlen ⊢; omega)), encs_app]; rfl
        simp only [Stm.enc, W3.word] at hb
        refine ⟨m - 1, [some (.list (cs.map PyData.int)), some (.int s), some (.list (encs (ys ++ [.bin .th u v]))), x], by simp at hm; omega, .inl (by simp [hx1, hx2, hx3, hb]), _, rfl, ⟨?_, by rw [total_app] at ht ⊢; simp [total, Stm.leaves] at ht ⊢; omega⟩, by simp at hm ⊢; omega⟩
        refine ⟨by simp at hlen ⊢; omega, fun t ht => ?_⟩
        rcases List.mem_append.mp ht with ht | ht
        · have := hp.2 t (List.mem_append_left _ ht)
          simp at this ⊢
          exact ⟨this.1, by omega⟩
        · rw [List.mem_singleton] at ht
          subst ht
          simp at hu hv ⊢
          refine ⟨⟨hu.1, hv.1⟩, ?_⟩
          simp only [Stm.depth]
          omega) 64 ps.length _ (by omega) ⟨ps, rfl, hp', rfl⟩
  simp [h3]
  obtain ⟨qs, rfl, ⟨hq, hqt⟩, hq1⟩ := h4
  have hsh : SeqAt.shaped (.list (encs qs)) = true := encs_shaped fun t ht => ⟨(hq.2 t ht).1, by have := (hq.2 t ht).2; omega⟩
  have he := shaped_list0 _ hsh
  match qs, hq, hqt, hq1, he with
  | [], hq, _, _, he =>
    obtain ⟨w, hw, hwo⟩ := name_by s 0
    have he' : eqD (.list (encs [])) (.list []) = some (.bool true) := he
    simp [he', hw]
    exact ⟨.nm w, rfl, hwo, by simp only [Stm.depth]; omega, by show 1 ≤ 2000; decide⟩
  | [t], hq, hqt, _, he =>
    have he' : eqD (.list (encs [t])) (.list []) = some (.bool false) := he
    have hx : atI (encs [t]) 0 = some t.enc := rfl
    simp [he', hx]
    have := hq.2 t (by simp)
    simp at this
    exact ⟨t, rfl, this.1, by omega, by simpa [total] using hqt⟩
end My

set_option maxRecDepth 100000
set_option maxHeartbeats 4000000
set_option linter.all false
namespace My
open PySem L2 DL PyProof.Rows
/-! ### data of small depth -/
mutual
def strB : PyData → Bool
  | .none => true
  | .bool _ => true
  | .int _ => true
  | .str z => decide (z.length ≤ 1000)
  | .list ds => strBs ds
  | .tuple ds => strBs ds
  | .dict _ => false
def strBs : List PyData → Bool
  | [] => true
  | d :: ds => strB d && strBs ds
end
def Nice (d : PyData) (k : Nat) : Prop := d.canLay0 = true ∧ d.depth ≤ k ∧ strB d = true
def Nices (ds : List PyData) (k : Nat) : Prop := PyData.canLayAll0 ds = true ∧ PyData.depthAll ds ≤ k ∧ strBs ds = true
theorem nices_nil (k : Nat) : Nices [] k := ⟨rfl, Nat.zero_le _, rfl⟩
theorem nices_cons {d : PyData} {ds : List PyData} {k : Nat} : Nices (d :: ds) k ↔ Nice d k ∧ Nices ds k := by
  simp only [Nices, Nice, PyData.canLayAll0, PyData.depthAll, strBs, Bool.and_eq_true]
  constructor
  · rintro ⟨⟨a, b⟩, c, d, e⟩
    exact ⟨⟨a, by omega, d⟩, b, by omega, e⟩
  · rintro ⟨⟨a, b, c⟩, d, e, f⟩
    exact ⟨⟨a, d⟩, by omega, c, f⟩
theorem nices_mem {ds : List PyData} {k : Nat} : Nices ds k ↔ ∀ d ∈ ds, Nice d k := by
  induction ds with
  | nil => exact ⟨fun _ d h => (by cases h), fun _ => nices_nil k⟩
  | cons d ds ih =>
    rw [nices_cons, ih]
    exact ⟨fun h e he => by
      rcases List.mem_cons.mp he with rfl | he
      · exact h.1
      · exact h.2 e he, fun h => ⟨h d List.mem_cons_self, fun e he => h e (List.mem_cons_of_mem _ he)⟩⟩
theorem nice_tup {ds : List PyData} {k : Nat} : Nice (.tuple ds) (k + 1) ↔ Nices ds k := by
  simp only [Nice, Nices, PyData.canLay0, PyData.depth, strB]
  exact ⟨fun h => ⟨h.1, by omega, h.2.2⟩, fun h => ⟨h.1, by omega, h.2.2⟩⟩
theorem nice_lst {ds : List PyData} {k : Nat} : Nice (.list ds) (k + 1) ↔ Nices ds k := by
  simp only [Nice, Nices, PyData.canLay0, PyData.depth, strB]
  exact ⟨fun h => ⟨h.1, by omega, h.2.2⟩, fun h => ⟨h.1, by omega, h.2.2⟩⟩
theorem Nice.mono {d : PyData} {k j : Nat} (h : Nice d k) (hj : k ≤ j) : Nice d j := ⟨h.1, Nat.le_trans h.2.1 hj, h.2.2⟩
theorem nice_shaped {d : PyData} {k : Nat} (h : Nice d k) (hk : k ≤ 64) : SeqAt.shaped d = true := by
  unfold SeqAt.shaped
  rw [h.1]
  simpa using Nat.le_trans h.2.1 hk
theorem nice_str {z : Str} {k : Nat} (h1 : z.length ≤ 1000) (h2 : ∀ c ∈ z.cps.toList, c < 1114112) : Nice (.str z) k := by
  refine ⟨?_, by simp [PyData.depth], by simpa [strB] using h1⟩
  simp only [PyData.canLay0, PyData.strOk, Array.all_eq_true, decide_eq_true_eq]
  intro i hi
  exact h2 _ (Array.mem_toList_iff.mpr (Array.getElem_mem hi))
theorem str_nice {z : Str} {k : Nat} (h : Nice (.str z) k) : z.length ≤ 1000 ∧ ∀ c ∈ z.cps.toList, c < 1114112 := by
  obtain ⟨a, _, b⟩ := h
  refine ⟨by simpa [strB] using b, fun c hc => ?_⟩
  simp only [PyData.canLay0, PyData.strOk, Array.all_eq_true, decide_eq_true_eq] at a
  obtain ⟨i, hi, e⟩ := Array.mem_iff_getElem.mp (Array.mem_toList_iff.mp hc)
  rw [← e]
  exact a i hi
theorem name_nice {w : Str} (h : NameOk w) (k : Nat) : Nice (.str w) k := nice_str (Nat.le_trans h.2.1 (by decide)) fun c hc => Nat.lt_of_le_of_lt (h.2.2 c hc).2 (by decide)
theorem word_nice (o : W3) (k : Nat) : Nice (.str o.word) k := ⟨by cases o <;> decide +kernel, by simp [PyData.depth], by cases o <;> decide +kernel⟩
theorem stm_nice : ∀ s : Stm, s.Ok → Nice s.enc s.depth
  | .nm w, h => nice_tup.mpr (nices_cons.mpr ⟨⟨by decide +kernel, by simp [PyData.depth], by decide +kernel⟩, nices_cons.mpr ⟨name_nice h 0, nices_nil 0⟩⟩)
  | .fl, _ => nice_tup.mpr (nices_cons.mpr ⟨⟨by decide +kernel, by simp [PyData.depth], by decide +kernel⟩, nices_nil 0⟩)
  | .bin o a b, h => nice_tup.mpr (nices_cons.mpr ⟨word_nice o _, nices_cons.mpr ⟨(stm_nice a h.1).mono (Nat.le_max_left _ _), nices_cons.mpr ⟨(stm_nice b h.2).mono (Nat.le_max_right _ _), nices_nil _⟩⟩⟩)

/-! ### is it a name -/
def nameB : PyData → Bool
  | .str z => decide (1 ≤ z.length) && decide (z.length ≤ 8) && z.cps.toList.all fun c => decide (97 ≤ c ∧ c ≤ 122)
  | _ => false
theorem mem_letters (c : Nat) : c ∈ ("abcdefghijklmnopqrstuvwxyz" : Str).cps.toList ↔ 97 ≤ c ∧ c ≤ 122 := by
  rw [letters_list]
  simp only [List.mem_map, List.mem_range]
  exact ⟨fun ⟨i, h, e⟩ => by omega, fun h => ⟨c - 97, by omega, by omega⟩⟩
theorem in_letters (c : Nat) : inD (.str ⟨#[c]⟩) (.str "abcdefghijklmnopqrstuvwxyz") = some (.bool (decide (97 ≤ c ∧ c ≤ 122))) := by
  have e : inD (.str ⟨#[c]⟩) (.str "abcdefghijklmnopqrstuvwxyz") = some (.bool (decide (c ∈ ("abcdefghijklmnopqrstuvwxyz" : Str).cps.toList))) := rfl
  rw [e]
  congr 2
  exact decide_eq_decide.mpr (mem_letters c)
theorem notin_letters (c : Nat) : notInD (.str ⟨#[c]⟩) (.str "abcdefghijklmnopqrstuvwxyz") = some (.bool (!decide (97 ≤ c ∧ c ≤ 122))) := by
  simp only [notInD, in_letters]
def signOf : PyData → Nat
  | .str z => z.cps.toList.headD 0
  | _ => 0
theorem bools_bl : ∀ (bs : List Bool), bools (bs.map PyData.bool) = some bs
  | [] => rfl
  | b :: bs => by simp [bools, bools_bl bs]
theorem lenD_str {z : Str} (h : z.length ≤ big) : lenD [.str z] = some (.int z.length) := if_pos h
theorem is_name {d : PyData} {k : Nat} (h : Nice d k) : sem_is_name [d] = .ok (.bool (nameB d)) := by
  simp only [sem_is_name, bodyD, F_is_name, startD, gl_LONGEST, gl_LETTERS]
  cases d with
  | str z =>
    have hz := str_nice h
    have hl := lenD_str (z := z) (big_ge hz.1)
    have hlen := len_list z
    simp [isiD, hl, eLc_ap]
    by_cases c1 : 1 ≤ z.length
    · by_cases c2 : z.length ≤ 8
      · have c1' : (1 : Int) ≤ (z.length : Int) := by omega
        have c2' : (z.length : Int) ≤ 8 := by omega
        have c3 : z.length ≤ big := big_ge hz.1
        have c4 : z.cps.toList.length ≤ big := by omega
        simp only [Array.length_toList] at c4
        simp [c1', c2', c4]
        rw [lcGo_map (v := fun d => .bool (decide (97 ≤ signOf d ∧ signOf d ≤ 122))) (by
          intro d hd
          obtain ⟨c, hc, rfl⟩ := List.mem_map.mp hd
          refine ⟨rfl, ?_, rfl⟩
          simp [in_letters, signOf])]
        simp only [Res.calm, Res.ok_bind, List.map_map]
        have e : List.map ((fun d => PyData.bool (decide (97 ≤ signOf d ∧ signOf d ≤ 122))) ∘ fun c => PyData.str ⟨#[c]⟩) z.cps.toList = (z.cps.toList.map fun c => decide (97 ≤ c ∧ c ≤ 122)).map PyData.bool := by
          rw [List.map_map]; rfl
        simp only [e, allD, bools_bl]
        simp [nameB, c1, c2, List.all_map]
        intro h8
        exact absurd h8 (by omega)
      · have c2' : ¬ (z.length : Int) ≤ 8 := by omega
        have c1' : (1 : Int) ≤ (z.length : Int) := by omega
        simp [c1', c2', nameB, c2]
    · have c1' : ¬ (1 : Int) ≤ (z.length : Int) := by omega
      simp [c1', nameB, c1]
  | dict _ => simp [Nice, strB] at h
  | _ => simp [isiD, nameB]
theorem signs_nice {z : Str} {k : Nat} (h : ∀ c ∈ z.cps.toList, c < 1114112) : ∀ cs : List Nat, (∀ c ∈ cs, c ∈ z.cps.toList) → Nices (cs.map fun c => .str ⟨#[c]⟩) k
  | [], _ => nices_nil k
  | c :: cs, hc => nices_cons.mpr ⟨nice_str (by rw [sign_len]; decide) (by
      intro x hx
      rw [show (⟨#[c]⟩ : Str).cps.toList = [c] from rfl, List.mem_singleton] at hx
      subst hx
      exact h x (hc x List.mem_cons_self)), signs_nice h cs fun x hx => hc x (List.mem_cons_of_mem _ hx)⟩
end My

set_option maxRecDepth 100000
set_option maxHeartbeats 4000000
set_option linter.all false
namespace My
open PySem L2 DL PyProof.Rows
/-! ### texts as lists of signs -/
def T (l : List Nat) : Str := ⟨l.toArray⟩
theorem T_list (l : List Nat) : (T l).cps.toList = l := rfl
theorem T_len (l : List Nat) : (T l).length = l.length := by rw [len_list, T_list]
theorem str_ext {a b : Str} (h : a.cps.toList = b.cps.toList) : a = b := by
  cases a; cases b
  simp only [Str.mk.injEq]
  exact Array.toList_inj.mp h
theorem T_of (z : Str) : T z.cps.toList = z := str_ext rfl
theorem T_app (a b : List Nat) : T a ++ T b = T (a ++ b) := str_ext (by rw [app_list]; rfl)
def W3.sg : W3 → Nat
  | .an => 38
  | .orr => 124
  | .th => 62
def wr : Stm → List Nat
  | .nm w => w.cps.toList
  | .fl => [35]
  | .bin o a b => 40 :: (wr a ++ 32 :: o.sg :: 32 :: (wr b ++ [41]))
theorem wr_len : ∀ {s : Stm}, s.Ok → (wr s).length + 5 ≤ 13 * s.leaves
  | .nm w, h => by
    have := h.2.1
    rw [len_list] at this
    simp only [wr, Stm.leaves]
    omega
  | .fl, _ => by simp [wr, Stm.leaves]
  | .bin o a b, h => by
    have h1 := wr_len h.1
    have h2 := wr_len h.2
    simp only [wr, Stm.leaves, List.length_cons, List.length_append, List.length_nil]
    omega
theorem lit_T (z : String) (l : List Nat) (h : (Str.ofString z).cps.toList = l) : (Str.ofString z) = T l := str_ext h
theorem ne_false (o : W3) : (o.word = Str.ofString "false") = False := eq_false (by cases o <;> decide +kernel)
theorem ne_word (o : W3) : (o.word = Str.ofString "name") = False := eq_false (by cases o <;> decide +kernel)
theorem ne_fl : (Str.ofString "false" = Str.ofString "name") = False := eq_false (by decide +kernel)
theorem at3_0 {p q r : PyData} : atI [p, q, r] 0 = some p := rfl
theorem at3_1 {p q r : PyData} : atI [p, q, r] 1 = some q := rfl
theorem at3_2 {p q r : PyData} : atI [p, q, r] 2 = some r := rfl
theorem at2_0 {p q : PyData} : atI [p, q] 0 = some p := rfl
theorem at2_1 {p q : PyData} : atI [p, q] 1 = some q := rfl
theorem at1_0 {p : PyData} : atI [p] 0 = some p := rfl
theorem addT {a b : List Nat} (h : a.length + b.length ≤ big) : addD (.str (T a)) (.str (T b)) = some (.str (T (a ++ b))) := by
  rw [addD_str (by rw [T_len, T_len]; exact h), T_app]
theorem l_op : Str.ofString "(" = T [40] := lit_T _ _ (by decide +kernel)
theorem l_cl : Str.ofString ")" = T [41] := lit_T _ _ (by decide +kernel)
theorem l_sp : Str.ofString " " = T [32] := lit_T _ _ (by decide +kernel)
theorem l_hash : Str.ofString "#" = T [35] := lit_T _ _ (by decide +kernel)
theorem l_nil : Str.ofString "" = T [] := lit_T _ _ (by decide +kernel)
theorem menu_sg (o : W3) : menuD [(Sum.inr "and", V.str "&"), (Sum.inr "or", V.str "|"), (Sum.inr "then", V.str ">")] (.str o.word) = some (.str (T [o.sg])) := by cases o <;> rfl
/-- the seven parts put together -/
theorem parts (o : W3) (a b : Stm) (h : (wr (.bin o a b)).length ≤ big) :
    ∃ t1 t2 t3 t4 t5 : Str, addD (.str (T [40])) (.str (T (wr a))) = some (.str t1) ∧ addD (.str t1) (.str (T [32])) = some (.str t2) ∧ addD (.str t2) (.str (T [o.sg])) = some (.str t3) ∧
      addD (.str t3) (.str (T [32])) = some (.str t4) ∧ addD (.str t4) (.str (T (wr b))) = some (.str t5) ∧ addD (.str t5) (.str (T [41])) = some (.str (T (wr (.bin o a b)))) := by
  simp only [wr, List.length_cons, List.length_append, List.length_nil] at h
  have e : wr (.bin o a b) = [40] ++ wr a ++ [32] ++ [o.sg] ++ [32] ++ wr b ++ [41] := by simp [wr]
  rw [e]
  refine ⟨_, _, _, _, _, addT ?_, addT ?_, addT ?_, addT ?_, addT ?_, addT ?_⟩ <;> simp <;> omega
theorem written : ∀ (n : Nat) (s : Stm), s.depth ≤ n → (wr s).length ≤ big → sem_law_written n [s.enc] = .ok (.str (T (wr s)))
  | 0, s, hd, _ => absurd (Stm.depth_pos s) (by omega)
  | n + 1, .nm w, _, _ => by
    simp [sem_law_written, bodyD, F_law_written, startD, Stm.enc, at2_0, at2_1, wr, T_of]
  | n + 1, .fl, _, _ => by
    simp [sem_law_written, bodyD, F_law_written, startD, Stm.enc, at1_0, wr, ne_fl, l_hash]
  | n + 1, .bin o a b, hd, hl => by
    simp only [Stm.depth] at hd
    obtain ⟨t1, t2, t3, t4, t5, p1, p2, p3, p4, p5, p6⟩ := parts o a b hl
    simp only [wr, List.length_cons, List.length_append, List.length_nil] at hl
    have ha := written n a (by omega) (by omega)
    have hb := written n b (by omega) (by omega)
    simp only [sem_law_written, bodyD, F_law_written, startD, Stm.enc]
    simp [at3_0, at3_1, at3_2, ne_word, ne_false, menu_sg, l_op, l_cl, l_sp, ha, hb, p1, p2, p3, p4, p5, p6]
end My

set_option maxRecDepth 100000
set_option maxHeartbeats 4000000
set_option linter.all false
namespace My
open PySem L2 DL PyProof.Rows
/-! ### reading -/
theorem cut_T {p m q : List Nat} {i j : Int} (hi : i = p.length) (hj : j = (p.length + m.length : Nat)) : cutS (T (p ++ m ++ q)) (some i) (some j) = T m := by
  subst hi hj
  refine str_ext ?_
  rw [cutS_toList, T_list, T_list]
  simp only [cutP, HT.sIx_nat, List.length_append]
  rw [Nat.min_eq_left (by omega), Nat.min_eq_left (by omega)]
  simp
theorem cutD_T {p m q : List Nat} {i j : Int} (hz : (p ++ m ++ q).length ≤ big) (hi : i = p.length) (hj : j = (p.length + m.length : Nat)) : cutD (some i) (some j) (.str (T (p ++ m ++ q))) = some (.str (T m)) := by
  rw [cutD_str (by rw [T_len]; exact hz), cut_T hi hj]
theorem ix_T {p q : List Nat} {c : Nat} (hz : (p ++ c :: q).length ≤ big) : ixD (.str (T (p ++ c :: q))) (.int (p.length : Nat)) = some (.str (T [c])) := by
  have q : atI (p ++ c :: q) ((p.length : Nat) : Int) = some c := atI_nat (by simp)
  simp only [ixD, T_len, if_pos hz, T_list, q]
  rfl
theorem len_T {l : List Nat} (h : l.length ≤ big) : lenD [.str (T l)] = some (.int l.length) := by
  rw [lenD_str (by rw [T_len]; exact h), T_len]
theorem eqT (a b : List Nat) : eqD (.str (T a)) (.str (T b)) = some (.bool (decide (a = b))) := by
  rw [eqD_str]
  congr 2
  by_cases h : a = b
  · subst h; simp
  · simp only [h, decide_false, beq_eq_false_iff_ne, ne_eq]
    intro e
    exact h (by rw [← T_list a, ← T_list b, e])
theorem neT (a b : List Nat) : neD (.str (T a)) (.str (T b)) = some (.bool (!decide (a = b))) := by
  simp only [neD, eqT]
def Low (c : Nat) : Prop := 97 ≤ c ∧ c ≤ 122
instance (c : Nat) : Decidable (Low c) := by unfold Low; infer_instance
theorem name_one (c : Nat) (h : c < 1114112) : sem_is_name [.str (T [c])] = .ok (.bool (decide (Low c))) := by
  have hn : Nice (.str (T [c])) 1 := nice_str (by rw [T_len]; show 1 ≤ 1000; decide) (by
    intro x hx
    rw [T_list, List.mem_singleton] at hx
    omega)
  rw [is_name hn]
  congr 2
  simp [nameB, T_len, T_list, Low]
  by_cases h1 : 97 ≤ c <;> by_cases h2 : c ≤ 122 <;> simp [h1, h2]
theorem name_word {w : Str} (h : NameOk w) : sem_is_name [.str w] = .ok (.bool true) := by
  rw [is_name (name_nice h 1)]
  congr 2
  simp only [nameB, Bool.and_eq_true, decide_eq_true_eq, List.all_eq_true]
  exact ⟨⟨h.1, h.2.1⟩, h.2.2⟩
end My

set_option Elab.async false
set_option maxRecDepth 100000
set_option maxHeartbeats 4000000
set_option linter.all false
namespace My
open PySem L2 DL PyProof.Rows
/-! ### a reader of sign lists -/
theorem cut_gen {l : List Nat} {p q : Nat} (hpq : p ≤ q) : cutS (T l) (some (p : Nat)) (some (q : Nat)) = T ((l.drop p).take (q - p)) := by
  refine str_ext ?_
  rw [cutS_toList, T_list, T_list]
  simp only [cutP, HT.sIx_nat]
  by_cases h : p ≤ l.length
  · rw [Nat.min_eq_left h]
    by_cases h2 : q ≤ l.length
    · rw [Nat.min_eq_left h2]
    · rw [Nat.min_eq_right (by omega), List.take_of_length_le (by rw [List.length_drop]; omega), List.take_of_length_le (by rw [List.length_drop]; omega)]
  · rw [Nat.min_eq_right (by omega), Nat.min_eq_right (by omega), List.drop_of_length_le (by omega), List.drop_of_length_le (by omega)]
    simp
theorem cutD_gen {l : List Nat} {p q : Nat} (hz : l.length ≤ big) (hpq : p ≤ q) : cutD (some (p : Nat)) (some (q : Nat)) (.str (T l)) = some (.str (T ((l.drop p).take (q - p)))) := by
  rw [cutD_str (by rw [T_len]; exact hz), cut_gen hpq]
def run : List Nat → Nat
  | [] => 0
  | c :: r => if Low c then run r + 1 else 0
theorem run_in : ∀ {l : List Nat} {j : Nat}, j < run l → ∃ c, l[j]? = some c ∧ Low c
  | [], j, h => absurd h (Nat.not_lt_zero _)
  | c :: r, j, h => by
    unfold run at h
    split at h
    · rename_i hc
      cases j with
      | zero => exact ⟨c, rfl, hc⟩
      | succ j => exact run_in (l := r) (by omega)
    · exact absurd h (Nat.not_lt_zero _)
theorem run_end : ∀ {l : List Nat}, l[run l]? = none ∨ ∃ c, l[run l]? = some c ∧ ¬ Low c
  | [] => .inl rfl
  | c :: r => by
    unfold run
    split
    · simpa using run_end (l := r)
    · rename_i hc
      exact .inr ⟨c, rfl, hc⟩
theorem run_le : ∀ {l : List Nat}, run l ≤ l.length
  | [] => Nat.le_refl _
  | c :: r => by
    unfold run
    split
    · exact Nat.succ_le_succ run_le
    · exact Nat.zero_le _
theorem run_all : ∀ {l : List Nat}, ∀ c ∈ l.take (run l), Low c
  | [], c, h => by simp at h
  | d :: r, c, h => by
    unfold run at h
    split at h
    · rename_i hd
      rw [List.take_succ_cons] at h
      rcases List.mem_cons.mp h with rfl | h
      · exact hd
      · exact run_all c h
    · simp at h
def nameR (l : List Nat) (p : Nat) : Option (Stm × Nat) :=
  let k := run (l.drop p)
  if 1 ≤ k ∧ k ≤ 8 then some (.nm (T ((l.drop p).take k)), p + k) else none
def wordOf (l : List Nat) : Option W3 := if l = [32, 38, 32] then some .an else if l = [32, 124, 32] then some .orr else if l = [32, 62, 32] then some .th else none
def rd : Nat → List Nat → Nat → Option (Stm × Nat)
  | 0, _, _ => none
  | r + 1, l, p => if l[p]? = some 35 then some (.fl, p + 1) else if l[p]? = some 40 then
      (rd r l (p + 1)).bind fun (a, e) => (wordOf ((l.drop e).take 3)).bind fun o => (rd r l (e + 3)).bind fun (b, f) => if l[f]? = some 41 then some (.bin o a b, f + 1) else none
    else nameR l p
end My

set_option Elab.async false
set_option maxRecDepth 100000
set_option maxHeartbeats 4000000
set_option linter.all false
namespace My
open PySem L2 DL PyProof.Rows
theorem is_nameS {z : Str} (hz : z.length ≤ big) : sem_is_name [.str z] = .ok (.bool (nameB (.str z))) := by
  simp only [sem_is_name, bodyD, F_is_name, startD, gl_LONGEST, gl_LETTERS]
  have hl := lenD_str (z := z) hz
  have hlen := len_list z
  simp [isiD, hl, eLc_ap]
  by_cases c1 : 1 ≤ z.length
  · by_cases c2 : z.length ≤ 8
    · have c1' : (1 : Int) ≤ (z.length : Int) := by omega
      have c2' : (z.length : Int) ≤ 8 := by omega
      have c4 : z.cps.toList.length ≤ big := by omega
      simp only [Array.length_toList] at c4
      simp [c1', c2', c4]
      rw [lcGo_map (v := fun d => .bool (decide (97 ≤ signOf d ∧ signOf d ≤ 122))) (by
        intro d hd
        obtain ⟨c, hc, rfl⟩ := List.mem_map.mp hd
        refine ⟨rfl, ?_, rfl⟩
        simp [in_letters, signOf])]
      simp only [Res.calm, Res.ok_bind, List.map_map]
      have e : List.map ((fun d => PyData.bool (decide (97 ≤ signOf d ∧ signOf d ≤ 122))) ∘ fun c => PyData.str ⟨#[c]⟩) z.cps.toList = (z.cps.toList.map fun c => decide (97 ≤ c ∧ c ≤ 122)).map PyData.bool := by
        rw [List.map_map]; rfl
      simp only [e, allD, bools_bl]
      simp [nameB, c1, c2, List.all_map]
      intro h8
      exact absurd h8 (by omega)
    · have c2' : ¬ (z.length : Int) ≤ 8 := by omega
      have c1' : (1 : Int) ≤ (z.length : Int) := by omega
      simp [c1', c2', nameB, c2]
  · have c1' : ¬ (1 : Int) ≤ (z.length : Int) := by omega
    simp [c1', nameB, c1]
def Ok (l : List Nat) : Prop := l.length ≤ 500000 ∧ ∀ c ∈ l, c < 1114112
theorem ok_big {l : List Nat} (h : Ok l) : l.length ≤ big := Nat.le_trans h.1 (by decide)
theorem ix_gen {l : List Nat} (h : Ok l) {p c : Nat} (hc : l[p]? = some c) : ixD (.str (T l)) (.int (p : Nat)) = some (.str (T [c])) := by
  have q : atI l ((p : Nat) : Int) = some c := atI_nat hc
  simp only [ixD, T_len, if_pos (ok_big h), T_list, q]
  rfl
def nameA (x : Option (Stm × Nat)) : Res PyData := match x with
  | some (s, e) => .ok (.tuple [s.enc, .int (e : Nat)])
  | none => .ex 0
theorem name_at {l : List Nat} (h : Ok l) (p : Nat) : sem_name_at [.str (T l), .int (p : Nat)] = nameA (nameR l p) := by
  have hl := len_T (ok_big h)
  generalize hk : run (l.drop p) = k
  have hkl : k ≤ l.length := by
    have := run_le (l := l.drop p)
    rw [hk, List.length_drop] at this
    omega
  simp only [sem_name_at, bodyD, F_name_at, startD]
  simp [sWh_ap]
  obtain ⟨ρ, h1, h2⟩ := whGo_inv (t := DL.tAnd (asT (eOp ltD (eVar 2) (eArgs lenD (aCons (eVar 0) aNil)))) (asT (eCall sem_is_name (aCons (eOp ixD (eVar 0) (eVar 2)) aNil)))) (F := sSet 2 (eOp addD (eVar 2) (eC (.int 1))))
    (fun m ρ => ∃ j : Nat, j + m = k ∧ ρ = [some (.str (T l)), some (.int (p : Nat)), some (.int ((p : Int) + j))])
    (fun ρ => ρ = [some (.str (T l)), some (.int (p : Nat)), some (.int ((p : Int) + k))]) (by
      rintro m ρ ⟨j, hj, rfl⟩
      rcases Nat.eq_zero_or_pos m with hm | hm
      · subst hm
        have hj' : j = k := by omega
        subst hj'
        refine ⟨false, ?_, (fun _ => rfl), (fun e => by cases e)⟩
        have he := run_end (l := l.drop p)
        rw [hk, List.getElem?_drop] at he
        rcases he with he | ⟨c, he, hc⟩
        · have hlt : ¬ ((p : Int) + j < l.length) := by
            have := List.getElem?_eq_none_iff.mp he
            omega
          simp [hl, hlt]
        · have hx := ix_gen h he
          have hn := name_one c (h.2 c (List.mem_of_getElem? he))
          rw [decide_eq_false hc] at hn
          simp at hx
          by_cases hlt : (p : Int) + j < l.length
          · simp [hl, hlt, hx, hn]
          · simp [hl, hlt]
      · obtain ⟨c, he, hc⟩ := run_in (l := l.drop p) (j := j) (by rw [hk]; omega)
        rw [List.getElem?_drop] at he
        refine ⟨true, ?_, (fun e => by cases e), fun _ => ⟨m - 1, [some (.str (T l)), some (.int (p : Nat)), some (.int ((p : Int) + (j + 1 : Nat)))], by omega, .inl (by simp; omega), j + 1, by omega, rfl⟩⟩
        have hx := ix_gen h he
        have hn := name_one c (h.2 c (List.mem_of_getElem? he))
        rw [decide_eq_true hc] at hn
        simp at hx
        have hlt : (p : Int) + j < l.length := by
          have := (List.getElem?_eq_some_iff.mp he).1
          omega
        simp [hl, hlt, hx, hn]) 1000000 k [some (.str (T l)), some (.int (p : Nat)), some (.int (p : Nat))] (by have := h.1; omega) ⟨0, by omega, by simp⟩
  subst h2
  rw [h1]
  have hc := cutD_gen (l := l) (p := p) (q := p + k) (ok_big h) (by omega)
  rw [show p + k - p = k by omega] at hc
  have hsl : ((l.drop p).take k).length = k := by
    have := run_le (l := l.drop p)
    rw [hk] at this
    rw [List.length_take, Nat.min_eq_left this]
  have hn := is_nameS (z := T ((l.drop p).take k)) (by rw [T_len, hsl]; exact Nat.le_trans hkl (ok_big h))
  have hall : ∀ c ∈ (l.drop p).take k, Low c := by rw [← hk]; exact run_all
  have hB : nameB (.str (T ((l.drop p).take k))) = (decide (1 ≤ k) && decide (k ≤ 8)) := by
    have : ((T ((l.drop p).take k)).cps.toList.all fun c => decide (97 ≤ c ∧ c ≤ 122)) = true := by
      rw [T_list]
      exact List.all_eq_true.mpr fun c hc => decide_eq_true (hall c hc)
    simp only [nameB, this, T_len, hsl, Bool.and_true]
  rw [hB] at hn
  simp at hc
  simp only [nameR, hk]
  by_cases h1 : 1 ≤ k <;> by_cases h8 : k ≤ 8 <;> simp [hc, hn, h1, h8, nameA, Stm.enc]
end My

set_option Elab.async false
set_option maxRecDepth 100000
set_option maxHeartbeats 4000000
set_option linter.all false
namespace My
open PySem L2 DL PyProof.Rows
theorem nameR_ok {l : List Nat} {p e : Nat} {s : Stm} (h : nameR l p = some (s, e)) : s.Ok ∧ s.depth = 1 ∧ p ≤ e := by
  simp only [nameR] at h
  split at h
  · rename_i hk
    cases h
    have hsl : ((l.drop p).take (run (l.drop p))).length = run (l.drop p) := by rw [List.length_take, Nat.min_eq_left run_le]
    exact ⟨⟨by rw [T_len, hsl]; exact hk.1, by rw [T_len, hsl]; exact hk.2, fun c hc => run_all c hc⟩, rfl, by omega⟩
  · cases h
theorem rd_ok : ∀ {r : Nat} {l : List Nat} {p e : Nat} {s : Stm}, rd r l p = some (s, e) → s.Ok ∧ s.depth ≤ r
  | 0, l, p, e, s, h => by cases h
  | r + 1, l, p, e, s, h => by
    unfold rd at h
    split at h
    · cases h
      exact ⟨trivial, by simp only [Stm.depth]; omega⟩
    split at h
    · simp only [Option.bind_eq_some_iff] at h
      obtain ⟨⟨a, e1⟩, ha, o, ho, ⟨b, f⟩, hb, h⟩ := h
      split at h
      · cases h
        obtain ⟨a1, a2⟩ := rd_ok ha
        obtain ⟨b1, b2⟩ := rd_ok hb
        exact ⟨⟨a1, b1⟩, by simp only [Stm.depth]; omega⟩
      · cases h
    · obtain ⟨h1, h2, _⟩ := nameR_ok h
      exact ⟨h1, by omega⟩
theorem take1 (l : List Nat) (p : Nat) : (l.drop p).take 1 = match l[p]? with
    | some c => [c]
    | none => [] := by
  cases h : l[p]? with
  | none => rw [List.drop_of_length_le (List.getElem?_eq_none_iff.mp h)]; rfl
  | some c =>
    obtain ⟨hl, e⟩ := List.getElem?_eq_some_iff.mp h
    rw [List.drop_eq_getElem_cons hl, e]
    rfl
theorem cut1 {l : List Nat} (h : Ok l) (p : Nat) : cutD (some (p : Nat)) (some ((p : Int) + 1)) (.str (T l)) = some (.str (T (match l[p]? with
    | some c => [c]
    | none => []))) := by
  have q := cutD_gen (l := l) (p := p) (q := p + 1) (ok_big h) (by omega)
  rw [show p + 1 - p = 1 by omega, take1] at q
  simpa using q
theorem is_sign (l : List Nat) (p c : Nat) : decide ((match l[p]? with
    | some c => [c]
    | none => []) = [c]) = decide (l[p]? = some c) := by
  cases l[p]? <;> simp
end My

set_option Elab.async false
set_option maxRecDepth 100000
set_option maxHeartbeats 4000000
set_option linter.all false
namespace My
open PySem L2 DL PyProof.Rows
theorem past_gen {l : List Nat} (h : Ok l) (p : Nat) {m : List Nat} (hm : m.length ≤ 10) : sem_past [.str (T l), .int (p : Nat), .str (T m)] = if (l.drop p).take m.length = m then .ok (.int ((p : Int) + m.length)) else .ex 0 := by
  have hml : m.length ≤ big := Nat.le_trans hm (by decide)
  have hc := cutD_gen (l := l) (p := p) (q := p + m.length) (ok_big h) (by omega)
  rw [show p + m.length - p = m.length by omega] at hc
  simp at hc
  simp only [sem_past, bodyD, F_past, startD]
  simp [len_T hml, hc, neT]

theorem find_gen (c : Nat) : findD "&|>" (.str (T [c])) = some (.int (if c = 38 then 0 else if c = 124 then 1 else if c = 62 then 2 else -1)) := by
  show some (PyData.int (Txt.find _ _)) = _
  congr 2
  by_cases h1 : c = 38
  · subst h1; decide +kernel
  by_cases h2 : c = 124
  · subst h2; decide +kernel
  by_cases h3 : c = 62
  · subst h3; decide +kernel
  simp only [h1, h2, h3, if_false]
  have e3 : (Str.ofString "&|>").cps = #[38, 124, 62] := by decide +kernel
  have sub : ∀ i d, (#[38, 124, 62] : Array Nat).extract i (i + 1) = #[d] → d ≠ c → Builtin.Str.subAt (Str.ofString "&|>") (T [c]) i = false := fun i d h hd => by
    unfold Builtin.Str.subAt
    rw [T_len, e3]
    show ((#[38, 124, 62] : Array Nat).extract i (i + 1) == #[c]) = false
    rw [h]
    simp [hd]
  have s0 := sub 0 38 rfl (fun e => h1 e.symm)
  have s1 := sub 1 124 rfl (fun e => h2 e.symm)
  have s2 := sub 2 62 rfl (fun e => h3 e.symm)
  have hl : (Str.ofString "&|>").length = 3 := by decide +kernel
  have occ : Builtin.Str.occurrences (Str.ofString "&|>") (T [c]) 0 (Str.ofString "&|>").length 1 = [] := by
    rw [hl, StrLaws.occ_eq]
    simp [StrLaws.occBody, T_len, s0, s1, s2, List.range', forIn, ForIn.forIn]
  unfold Txt.find
  rw [occ]
end My

set_option Elab.async false
set_option maxRecDepth 100000
set_option maxHeartbeats 4000000
set_option linter.all false
namespace My
open PySem L2 DL PyProof.Rows
theorem get3 (l : List Nat) (e j : Nat) (h : j < 3) : ((l.drop e).take 3)[j]? = l[e + j]? := by
  rw [List.getElem?_take_of_lt h, List.getElem?_drop]
theorem word_some {l : List Nat} {e c : Nat} (h0 : l[e]? = some 32) (h1 : l[e + 1]? = some c) (h2 : l[e + 2]? = some 32) : (l.drop e).take 3 = [32, c, 32] := by
  obtain ⟨a0, b0⟩ := List.getElem?_eq_some_iff.mp h0
  obtain ⟨a1, b1⟩ := List.getElem?_eq_some_iff.mp h1
  obtain ⟨a2, b2⟩ := List.getElem?_eq_some_iff.mp h2
  rw [List.drop_eq_getElem_cons a0, List.drop_eq_getElem_cons a1, List.drop_eq_getElem_cons a2, b0, b1, b2]
  rfl
theorem word_not {l : List Nat} {e : Nat} (h : l[e]? ≠ some 32 ∨ l[e + 1]? = none ∨ l[e + 2]? ≠ some 32 ∨ ∃ c, l[e + 1]? = some c ∧ c ≠ 38 ∧ c ≠ 124 ∧ c ≠ 62) : wordOf ((l.drop e).take 3) = none := by
  have g0 := get3 l e 0 (by decide)
  have g1 := get3 l e 1 (by decide)
  have g2 := get3 l e 2 (by decide)
  unfold wordOf
  generalize (l.drop e).take 3 = x at *
  have no : ∀ c, (c = 38 ∨ c = 124 ∨ c = 62) → x ≠ [32, c, 32] := fun c hc e' => by
    subst e'
    simp at g0 g1 g2
    rcases h with h | h | h | ⟨d, h, hd⟩
    · exact h g0.symm
    · rw [h] at g1; cases g1
    · exact h g2.symm
    · rw [h] at g1; cases g1; omega
  rw [if_neg (no 38 (.inl rfl)), if_neg (no 124 (.inr (.inl rfl))), if_neg (no 62 (.inr (.inr rfl)))]
theorem one_sign (l : List Nat) (p c : Nat) : ((l.drop p).take ([c] : List Nat).length = [c]) ↔ l[p]? = some c := by
  show (l.drop p).take 1 = [c] ↔ _
  rw [take1]
  cases l[p]? <;> simp
end My

set_option Elab.async false
set_option maxRecDepth 100000
set_option maxHeartbeats 4000000
set_option linter.all false
namespace My
open PySem L2 DL PyProof.Rows
theorem signs_str : gl_SIGNS = .str "&|>" := rfl
theorem find_none : findD "&|>" (.str (T [])) = some (.int 0) := by
  show some (PyData.int (Txt.find _ _)) = _
  have e : Txt.find "&|>" (T []) = 0 := by decide +kernel
  rw [e]
theorem words0 : ixD gl_WORDS (.int 0) = some (.str W3.an.word) := rfl
theorem words1 : ixD gl_WORDS (.int 1) = some (.str W3.orr.word) := rfl
theorem words2 : ixD gl_WORDS (.int 2) = some (.str W3.th.word) := rfl
@[simp] theorem gN2 {i j : Nat} {a b : PyData} {ρ : PEnv} : gT 2 (gsCons (gN i) (gsCons (gN j) gsNil)) (.tuple [a, b]) ρ = some ((ρ.set i (some a)).set j (some b)) := nrfl rfl
def fin41 (l : List Nat) (o : W3) (a b : Stm) (f : Nat) : Option (Stm × Nat) := if l[f]? = some 41 then some (.bin o a b, f + 1) else none
/-- the two parts -/
theorem pair_at {l : List Nat} (h : Ok l) (n r p : Nat) (ih : ∀ q : Nat, sem_one_at n [.str (T l), .int (q : Nat), .int (r : Nat)] = nameA (rd r l q)) :
    bodyD 7 (F_pair_at (sem_one_at n)) [.str (T l), .int (p : Nat), .int ((r : Int) + 1)] = nameA ((rd r l (p + 1)).bind fun (a, e) => (wordOf ((l.drop e).take 3)).bind fun o => (rd r l (e + 3)).bind fun (b, f) => if l[f]? = some 41 then some (.bin o a b, f + 1) else none) := by
  have h1 := ih (p + 1)
  simp only [bodyD, F_pair_at, startD]
  cases hA : rd r l (p + 1) with
  | none =>
    rw [hA] at h1
    simp at h1
    simp [h1, nameA]
  | some ae =>
    obtain ⟨a, e⟩ := ae
    rw [hA] at h1
    simp at h1
    have p1 := past_gen h e (m := [32]) (by decide)
    simp only [one_sign] at p1
    by_cases c0 : l[e]? = some 32
    · have hc1 := cut1 h (e + 1)
      have p2 := past_gen h (e + 2) (m := [32]) (by decide)
      simp only [one_sign] at p2
      simp [c0] at p1
      simp at hc1 p2
      cases c1 : l[e + 1]? with
      | none =>
        have hw := word_not (l := l) (e := e) (.inr (.inl c1))
        rw [c1] at hc1
        simp at hc1
        simp [h1, nameA, l_sp, p1, signs_str, hc1, find_none, l_nil, eqT, hw, -eqD_str]
      | some c =>
        rw [c1] at hc1
        simp at hc1
        have hf := find_gen c
        by_cases hany : c = 38 ∨ c = 124 ∨ c = 62
        · obtain ⟨o, ix, e1, e2, e3, e4⟩ : ∃ (o : W3) (ix : Int), findD "&|>" (.str (T [c])) = some (.int ix) ∧ ¬ ix < 0 ∧ ixD gl_WORDS (.int ix) = some (.str o.word) ∧ wordOf [32, c, 32] = some o := by
            rcases hany with rfl | rfl | rfl
            · exact ⟨.an, 0, hf, by decide, words0, rfl⟩
            · exact ⟨.orr, 1, hf, by decide, words1, rfl⟩
            · exact ⟨.th, 2, hf, by decide, words2, rfl⟩
          clear hf
          rw [show (e : Int) + 2 = (e : Int) + 1 + 1 by omega] at p2
          by_cases c2 : l[e + 2]? = some 32
          · have hw : wordOf ((l.drop e).take 3) = some o := by rw [word_some c0 c1 c2]; exact e4
            have h3 := ih (e + 3)
            simp [c2] at p2
            simp at h3
            rw [show (e : Int) + 3 = (e : Int) + 1 + 1 + 1 by omega] at h3
            cases hB : rd r l (e + 3) with
            | none =>
              rw [hB] at h3
              simp [h1, nameA, l_sp, l_nil, p1, p2, signs_str, hc1, e1, e2, eqT, hw, h3, hB, -eqD_str]
            | some bf =>
              obtain ⟨b, f⟩ := bf
              rw [hB] at h3
              have p3 := past_gen h f (m := [41]) (by decide)
              simp only [one_sign] at p3
              by_cases c4 : l[f]? = some 41
              · simp [c4] at p3
                simp [h1, nameA, l_sp, l_nil, l_cl, p1, p2, p3, signs_str, hc1, e1, e2, e3, eqT, hw, h3, hB, c4, Stm.enc, -eqD_str]
              · simp [c4] at p3
                simp [h1, nameA, l_sp, l_nil, l_cl, p1, p2, p3, signs_str, hc1, e1, e2, e3, eqT, hw, h3, hB, c4, -eqD_str]
          · have hw := word_not (l := l) (e := e) (.inr (.inr (.inl c2)))
            simp [c2] at p2
            simp [h1, nameA, l_sp, l_nil, p1, p2, signs_str, hc1, e1, e2, eqT, hw, -eqD_str]
        · have hn : c ≠ 38 ∧ c ≠ 124 ∧ c ≠ 62 := by omega
          have hw := word_not (l := l) (e := e) (.inr (.inr (.inr ⟨c, c1, hn⟩)))
          rw [if_neg hn.1, if_neg hn.2.1, if_neg hn.2.2] at hf
          simp [h1, nameA, l_sp, l_nil, p1, signs_str, hc1, hf, eqT, hw, -eqD_str]
    · have hw := word_not (l := l) (e := e) (.inl c0)
      simp [c0] at p1
      simp [h1, nameA, l_sp, p1, hw]
end My

set_option Elab.async false
set_option maxRecDepth 100000
set_option maxHeartbeats 4000000
set_option linter.all false
namespace My
open PySem L2 DL PyProof.Rows
def sig : Option Nat → List Nat
  | some c => [c]
  | none => []
theorem cut_sig {l : List Nat} (h : Ok l) (p : Nat) : cutD (some (p : Nat)) (some ((p : Int) + 1)) (.str (T l)) = some (.str (T (sig l[p]?))) := by
  have q := cut1 h p
  cases hx : l[p]? with
  | none => rw [hx] at q; exact q
  | some c => rw [hx] at q; exact q
theorem sign_eq (l : List Nat) (p c : Nat) : eqD (.str (T (sig l[p]?))) (.str (T [c])) = some (.bool (decide (l[p]? = some c))) := by
  rw [eqT]
  cases l[p]? <;> simp [sig]
theorem one_at {l : List Nat} (h : Ok l) : ∀ (n r p : Nat), r < n → sem_one_at n [.str (T l), .int (p : Nat), .int (r : Nat)] = nameA (rd r l p)
  | 0, r, p, hr => absurd hr (Nat.not_lt_zero _)
  | n + 1, 0, p, _ => by
    simp [sem_one_at, bodyD, F_one_at, startD, rd, nameA]
  | n + 1, r + 1, p, hr => by
    have hp := pair_at h n r p fun q => one_at h n r q (by omega)
    have hn := name_at h p
    have hc := cut_sig h p
    have e35 := sign_eq l p 35
    have e40 := sign_eq l p 40
    generalize T (sig l[p]?) = z at *
    have hr0 : ¬ ((r : Int) + 1 = 0) := by omega
    simp only [sem_one_at, bodyD, F_one_at, startD]
    unfold rd
    by_cases c35 : l[p]? = some 35
    · simp [hr0, hc, l_hash, e35, c35, nameA, Stm.enc, -eqD_str]
    · by_cases c40 : l[p]? = some 40
      · simp [hr0, hc, l_hash, l_op, e35, e40, c40, hp, -eqD_str]
        cases ((rd r l (p + 1)).bind fun x => (wordOf ((l.drop x.2).take 3)).bind fun o => (rd r l (x.2 + 3)).bind fun y => if l[y.2]? = some 41 then some (Stm.bin o x.1 y.1, y.2 + 1) else none) <;> rfl
      · simp [hr0, hc, l_hash, l_op, e35, e40, c35, c40, hn, -eqD_str]
        cases nameR l p <;> rfl
def readA (l : List Nat) : Res PyData := match rd 30 l 0 with
  | some (s, e) => if e = l.length then .ok s.enc else .ex 0
  | none => .ex 0
theorem read {l : List Nat} (h : Ok l) : sem_read [.str (T l)] = readA l := by
  have h1 := one_at h 31 30 0 (by decide)
  have hl := len_T (ok_big h)
  simp only [show ((0 : Nat) : Int) = 0 from rfl, show ((30 : Nat) : Int) = 30 from rfl] at h1
  simp only [sem_read, bodyD, F_read, startD, show gl_DEEPEST = .int 30 from rfl, readA]
  cases hr : rd 30 l 0 with
  | none =>
    rw [hr] at h1
    simp [h1, nameA]
  | some se =>
    obtain ⟨s, e⟩ := se
    rw [hr] at h1
    by_cases he : e = l.length
    · simp [h1, nameA, hl, he]
    · have he' : ¬ (e : Int) = l.length := by omega
      simp [h1, nameA, hl, he, he']
end My

set_option Elab.async false
set_option maxRecDepth 100000
set_option maxHeartbeats 4000000
set_option linter.all false
namespace My
open PySem L2 DL PyProof.Rows
def lawA (x : Option (Stm × Nat)) : Res PyData := match x with
  | some (s, e) => .ok (.tuple [s.enc, .int (e : Nat)])
  | none => .ok (.tuple [])
theorem eq_nil0 : eqD (.tuple []) (.tuple []) = some (.bool true) := rfl
theorem stm_nice2 {s : Stm} (h : s.Ok) (hd : s.depth ≤ 40) : Nice s.enc 40 := (stm_nice s h).mono hd
theorem eq_nil1 {s : Stm} {e : Int} (h : s.Ok) (hd : s.depth ≤ 40) : eqD (.tuple [s.enc, .int e]) (.tuple []) = some (.bool false) := by
  have e1 : SeqAt.shaped (.tuple [s.enc, .int e]) = true := nice_shaped (k := 41) (nice_tup.mpr (nices_cons.mpr ⟨stm_nice2 h hd, nices_cons.mpr ⟨⟨rfl, Nat.zero_le _, rfl⟩, nices_nil _⟩⟩)) (by decide)
  have e2 : SeqAt.shaped (.tuple []) = true := by decide
  have e3 : eqD (.tuple [s.enc, .int e]) (.tuple []) = if SeqAt.shaped (.tuple [s.enc, .int e]) && SeqAt.shaped (.tuple []) then some (.bool (PyData.eqv (.tuple [s.enc, .int e]) (.tuple []))) else none := rfl
  rw [e3, e1, e2]
  rfl
theorem l_w1 : Str.ofString " & " = T [32, 38, 32] := lit_T _ _ (by decide +kernel)
theorem l_w2 : Str.ofString " | " = T [32, 124, 32] := lit_T _ _ (by decide +kernel)
theorem l_w3 : Str.ofString " > " = T [32, 62, 32] := lit_T _ _ (by decide +kernel)
theorem T_inj {a b : List Nat} : (T a = T b) ↔ a = b := ⟨fun h => by rw [← T_list a, ← T_list b, h], fun h => by rw [h]⟩
theorem notin_w {x : List Nat} (hx : x.length ≤ 3) (hs : ∀ c ∈ x, c < 1114112) : notInD (.str (T x)) (.list [.str (T [32, 38, 32]), .str (T [32, 124, 32]), .str (T [32, 62, 32])]) = some (.bool (wordOf x).isNone) := by
  have e1 : SeqAt.shaped (.str (T x)) = true := nice_shaped (k := 1) (nice_str (by rw [T_len]; omega) hs) (by decide)
  have e2 : SeqAt.shaped (.list [.str (T [32, 38, 32]), .str (T [32, 124, 32]), .str (T [32, 62, 32])]) = true := by decide +kernel
  have e3 : inD (.str (T x)) (.list [.str (T [32, 38, 32]), .str (T [32, 124, 32]), .str (T [32, 62, 32])]) = if SeqAt.shaped (.str (T x)) && SeqAt.shaped (.list [.str (T [32, 38, 32]), .str (T [32, 124, 32]), .str (T [32, 62, 32])]) then some (.bool ([PyData.str (T [32, 38, 32]), .str (T [32, 124, 32]), .str (T [32, 62, 32])].any fun z => PyData.eqv z (.str (T x)))) else none := rfl
  simp only [notInD, e3, e1, e2, Bool.and_self, if_true, List.any_cons, List.any_nil, PyData.eqv, Bool.or_false]
  congr 2
  unfold wordOf
  have b : ∀ y : List Nat, (T y == T x) = decide (x = y) := fun y => by
    by_cases h : x = y
    · subst h; simp
    · have : ¬ T y = T x := fun e => h (T_inj.mp e).symm
      simp [h, this]
  rw [b, b, b]
  by_cases h1 : x = [32, 38, 32] <;> by_cases h2 : x = [32, 124, 32] <;> by_cases h3 : x = [32, 62, 32] <;> simp [h1, h2, h3]
theorem lindex_w {x : List Nat} {o : W3} (h : wordOf x = some o) : ∃ ix : Int, lindexD (.list [.str (T [32, 38, 32]), .str (T [32, 124, 32]), .str (T [32, 62, 32])]) (.str (T x)) = some (.int ix) ∧ atI [PyData.str "and", .str "or", .str "then"] ix = some (.str o.word) := by
  unfold wordOf at h
  split at h
  · rename_i e; subst e; cases h; exact ⟨0, rfl, rfl⟩
  split at h
  · rename_i e; subst e; cases h; exact ⟨1, rfl, rfl⟩
  split at h
  · rename_i e; subst e; cases h; exact ⟨2, rfl, rfl⟩
  · cases h
end My

set_option Elab.async false
set_option maxRecDepth 100000
set_option maxHeartbeats 4000000
set_option linter.all false
namespace My
open PySem L2 DL PyProof.Rows
theorem wh_name {l : List Nat} (h : Ok l) (p : Nat) (r : PyData) : ∃ ρ, whGo (DL.tAnd (asT (eOp ltD (eVar 6) (eArgs lenD (aCons (eVar 0) aNil)))) (asT (eOp inD (eOp ixD (eVar 0) (eVar 6)) (eC (.str "abcdefghijklmnopqrstuvwxyz"))))) (sSet 6 (eOp addD (eVar 6) (eC (.int 1)))) 1000000
    [some (.str (T l)), some (.int (p : Nat)), some r, none, none, none, some (.int (p : Nat))] = .ok (.nx ρ) ∧ ρ = [some (.str (T l)), some (.int (p : Nat)), some r, none, none, none, some (.int ((p : Int) + run (l.drop p)))] := by
  have hl := len_T (ok_big h)
  generalize hk : run (l.drop p) = k
  have hkl : k ≤ l.length := by
    have := run_le (l := l.drop p)
    rw [hk, List.length_drop] at this
    omega
  have hin : ∀ c, inD (.str (T [c])) (.str "abcdefghijklmnopqrstuvwxyz") = some (.bool (decide (Low c))) := fun c => in_letters c
  exact whGo_inv (fun m ρ => ∃ j : Nat, j + m = k ∧ ρ = [some (.str (T l)), some (.int (p : Nat)), some r, none, none, none, some (.int ((p : Int) + j))])
    (fun ρ => ρ = [some (.str (T l)), some (.int (p : Nat)), some r, none, none, none, some (.int ((p : Int) + k))]) (by
      rintro m ρ ⟨j, hj, rfl⟩
      rcases Nat.eq_zero_or_pos m with hm | hm
      · subst hm
        have hj' : j = k := by omega
        subst hj'
        refine ⟨false, ?_, (fun _ => rfl), (fun e => by cases e)⟩
        have he := run_end (l := l.drop p)
        rw [hk, List.getElem?_drop] at he
        rcases he with he | ⟨c, he, hc⟩
        · have hlt : ¬ ((p : Int) + j < l.length) := by
            have := List.getElem?_eq_none_iff.mp he
            omega
          simp [hl, hlt]
        · have hx := ix_gen h he
          have hn := hin c
          rw [decide_eq_false hc] at hn
          simp at hx
          by_cases hlt : (p : Int) + j < l.length
          · simp [hl, hlt, hx, hn]
          · simp [hl, hlt]
      · obtain ⟨c, he, hc⟩ := run_in (l := l.drop p) (j := j) (by rw [hk]; omega)
        rw [List.getElem?_drop] at he
        refine ⟨true, ?_, (fun e => by cases e), fun _ => ⟨m - 1, [some (.str (T l)), some (.int (p : Nat)), some r, none, none, none, some (.int ((p : Int) + (j + 1 : Nat)))], by omega, .inl (by simp; omega), j + 1, by omega, rfl⟩⟩
        have hx := ix_gen h he
        have hn := hin c
        rw [decide_eq_true hc] at hn
        simp at hx
        have hlt : (p : Int) + j < l.length := by
          have := (List.getElem?_eq_some_iff.mp he).1
          omega
        simp [hl, hlt, hx, hn]) 1000000 k [some (.str (T l)), some (.int (p : Nat)), some r, none, none, none, some (.int (p : Nat))] (by have := h.1; omega) ⟨0, by omega, by simp⟩
end My

set_option Elab.async false
set_option maxRecDepth 100000
set_option maxHeartbeats 4000000
set_option linter.all false
namespace My
open PySem L2 DL PyProof.Rows
theorem sign_ne (l : List Nat) (p c : Nat) : neD (.str (T (sig l[p]?))) (.str (T [c])) = some (.bool (!decide (l[p]? = some c))) := by simp only [neD, sign_eq]
theorem law_read_at {l : List Nat} (h : Ok l) : ∀ (n r p : Nat), r < n → r ≤ 40 → sem_law_read_at n [.str (T l), .int (p : Nat), .int (r : Nat)] = lawA (rd r l p)
  | 0, r, p, hr, _ => absurd hr (Nat.not_lt_zero _)
  | n + 1, 0, p, _, _ => by
    simp [sem_law_read_at, bodyD, F_law_read_at, startD, rd, lawA]
  | n + 1, r + 1, p, hr, h40 => by
    have hc := cut_sig h p
    have e35 := sign_eq l p 35
    have e40 := sign_ne l p 40
    have hr1 : ¬ ((r : Int) + 1 < 1) := by omega
    simp only [sem_law_read_at, bodyD, F_law_read_at, startD]
    unfold rd
    by_cases c35 : l[p]? = some 35
    · generalize T (sig l[p]?) = z at *
      simp [hr1, hc, l_hash, e35, c35, lawA, Stm.enc, -eqD_str]
    · by_cases c40 : l[p]? = some 40
      · generalize T (sig l[p]?) = z at *
        have h1 := law_read_at h n r (p + 1) (by omega) (by omega)
        simp at h1
        cases hA : rd r l (p + 1) with
        | none =>
          rw [hA] at h1
          simp [hr1, hc, l_hash, l_op, e35, e40, c40, h1, lawA, eq_nil0, -eqD_str]
        | some ae =>
          obtain ⟨a, e⟩ := ae
          rw [hA] at h1
          obtain ⟨ao, ad⟩ := rd_ok hA
          have en := eq_nil1 (e := (e : Int)) ao (by omega)
          have hc3 := cutD_gen (l := l) (p := e) (q := e + 3) (ok_big h) (by omega)
          rw [show e + 3 - e = 3 by omega] at hc3
          simp at hc3
          have hx3 : ((l.drop e).take 3).length ≤ 3 := by rw [List.length_take]; omega
          have hxs : ∀ c ∈ (l.drop e).take 3, c < 1114112 := fun c hc => h.2 c (List.mem_of_mem_drop (List.mem_of_mem_take hc))
          have hni := notin_w hx3 hxs
          have hli := fun o => lindex_w (x := (l.drop e).take 3) (o := o)
          generalize hx : (l.drop e).take 3 = x at *
          cases hw : wordOf x with
          | none =>
            rw [hw] at hni
            simp at hni
            simp [hr1, hc, l_hash, l_op, e35, e40, c40, h1, lawA, en, at2_0, at2_1, hc3, l_w1, l_w2, l_w3, hni, hx, hw, -eqD_str]
          | some o =>
            obtain ⟨ix, hi1, hi2⟩ := hli o hw
            rw [hw] at hni
            simp at hni
            have h3 := law_read_at h n r (e + 3) (by omega) (by omega)
            simp at h3
            cases hB : rd r l (e + 3) with
            | none =>
              rw [hB] at h3
              simp [hr1, hc, l_hash, l_op, e35, e40, c40, h1, lawA, en, eq_nil0, at2_0, at2_1, hc3, l_w1, l_w2, l_w3, hni, hx, hw, h3, hB, -eqD_str]
            | some bf =>
              obtain ⟨b, f⟩ := bf
              rw [hB] at h3
              obtain ⟨bo, bd⟩ := rd_ok hB
              have en2 := eq_nil1 (e := (f : Int)) bo (by omega)
              have hcf := cut_sig h f
              have ef := sign_ne l f 41
              generalize T (sig l[f]?) = y at *
              by_cases c4 : l[f]? = some 41
              · simp [hr1, hc, l_hash, l_op, l_cl, e35, e40, c40, h1, lawA, en, en2, at2_0, at2_1, hc3, l_w1, l_w2, l_w3, hni, hx, hw, h3, hB, hcf, ef, c4, hi1, hi2, Stm.enc, -eqD_str]
              · simp [hr1, hc, l_hash, l_op, l_cl, e35, e40, c40, h1, lawA, en, en2, at2_0, at2_1, hc3, l_w1, l_w2, l_w3, hni, hx, hw, h3, hB, hcf, ef, c4, -eqD_str]
      · obtain ⟨ρ, w1, w2⟩ := wh_name h p (.int ((r : Int) + 1))
        subst w2
        generalize T (sig l[p]?) = z at *
        have hcn := cutD_gen (l := l) (p := p) (q := p + run (l.drop p)) (ok_big h) (by omega)
        rw [show p + run (l.drop p) - p = run (l.drop p) by omega] at hcn
        simp at hcn
        simp only [nameR]
        generalize run (l.drop p) = k at *
        simp [sWh_ap, hr1, hc, l_hash, l_op, e35, e40, c35, c40, w1, -eqD_str]
        by_cases k1 : 1 ≤ k <;> by_cases k8 : k ≤ 8
        · have a1 : ¬ ((p : Int) + k = p) := by omega
          have a2 : ¬ ((p : Int) + 8 < (p : Int) + k) := by omega
          simp [k1, k8, hcn, lawA, Stm.enc]
          rw [if_neg a1, if_neg (by omega)]
        · simp [k1, k8, lawA]
          try omega
        · simp [k1, k8, lawA]
          try omega
        · exfalso; omega
end My

set_option Elab.async false
set_option maxRecDepth 100000
set_option maxHeartbeats 4000000
set_option linter.all false
namespace My
open PySem L2 DL PyProof.Rows
/-- a text of few signs, each a sign -/
def Tx (n : Nat) (z : Str) : Prop := z.length ≤ n ∧ ∀ c ∈ z.cps.toList, c < 1114112
theorem tx_ok {n : Nat} {z : Str} (h : Tx n z) (hn : n ≤ 500000) : ∃ l, z = T l ∧ Ok l := ⟨z.cps.toList, (T_of z).symm, by rw [← len_list]; exact Nat.le_trans h.1 hn, h.2⟩
theorem tx_mono {m n : Nat} {z : Str} (h : Tx m z) (hn : m ≤ n) : Tx n z := ⟨Nat.le_trans h.1 hn, h.2⟩
theorem tx_app {a b : Str} {m n : Nat} (h1 : Tx m a) (h2 : Tx n b) : Tx (m + n) (a ++ b) := by
  refine ⟨by rw [app_len]; have := h1.1; have := h2.1; omega, fun c hc => ?_⟩
  rw [app_list] at hc
  rcases List.mem_append.mp hc with hc | hc
  · exact h1.2 c hc
  · exact h2.2 c hc
theorem tx_cut {z : Str} {n : Nat} (h : Tx n z) (lo hi : Option Int) : Tx n (cutS z lo hi) := by
  refine ⟨Nat.le_trans (cutS_length z lo hi) h.1, fun c hc => h.2 c ?_⟩
  rw [cutS_toList] at hc
  exact List.mem_of_mem_drop (List.mem_of_mem_take hc)
theorem tx_lit (z : Str) (n : Nat) (h : (decide (z.length ≤ n) && z.cps.toList.all fun c => decide (c < 1114112)) = true) : Tx n z := by
  simp only [Bool.and_eq_true, decide_eq_true_eq, List.all_eq_true] at h
  exact h
theorem menu {P : PyData → Prop} {xs : List PyData} {i : Int} (h0 : 0 ≤ i) (h1 : i < xs.length) (hp : ∀ d ∈ xs, P d) : ∃ d, atI xs i = some d ∧ P d := by
  have hi : i.toNat < xs.length := by omega
  have q : atI xs ((i.toNat : Nat) : Int) = some xs[i.toNat] := atI_nat (List.getElem?_eq_getElem hi)
  rw [Int.toNat_of_nonneg h0] at q
  exact ⟨_, q, hp _ (List.getElem_mem hi)⟩
theorem told {l : List Nat} (h : Ok l) : sem_law_told [.str (T l)] = match rd 30 l 0 with
    | some (s, e) => if e = l.length then .ok (.tuple [s.enc]) else .ok (.list [.bool true, .bool false, .bool false, .bool true])
    | none => .ok (.list [.bool true, .bool false, .bool false, .bool true]) := by
  simp only [sem_law_told, read h, readA]
  cases rd 30 l 0 with
  | none => rfl
  | some se =>
    obtain ⟨s, e⟩ := se
    by_cases he : e = l.length <;> simp [he]
theorem odd (c : Int) : ∃ z, sem_law_odd [.int c] = .ok (.str z) ∧ Tx 100 z := by
  simp only [sem_law_odd, bodyD, F_law_odd, startD]
  simp [addD_list]
  have key : ∀ (xs : List PyData) (m : Option PyData), atI xs (c % 32) = m → xs.length = 32 → (∀ d ∈ xs, ∃ z, d = .str z ∧ Tx 100 z) → ∃ z, m = some (.str z) ∧ Tx 100 z := fun xs m e hl hn => by
    obtain ⟨d, h1, z, rfl, h2⟩ := menu (xs := xs) (i := c % 32) (by omega) (by omega) hn
    exact ⟨z, by rw [← e, h1], h2⟩
  generalize hm : atI _ (c % 32) = m
  obtain ⟨z, rfl, hn⟩ := key _ _ hm rfl (by
    intro d hd
    simp only [List.mem_cons, List.not_mem_nil, or_false] at hd
    rcases hd with rfl | rfl | rfl | rfl | rfl | rfl | rfl | rfl | rfl | rfl | rfl | rfl | rfl | rfl | rfl | rfl | rfl | rfl | rfl | rfl | rfl | rfl | rfl | rfl | rfl | rfl | rfl | rfl | rfl | rfl | rfl | rfl <;> exact ⟨_, rfl, tx_lit _ _ (by decide +kernel)⟩)
  simp [hn]
end My

set_option Elab.async false
set_option maxRecDepth 100000
set_option maxHeartbeats 4000000
set_option linter.all false
namespace My
open PySem L2 DL PyProof.Rows
theorem tx_big {n : Nat} {z : Str} (h : Tx n z) (hn : n ≤ 500000) : z.length ≤ big := Nat.le_trans (Nat.le_trans h.1 hn) (by decide)
theorem mended {n : Nat} {z : Str} (c : Int) (h : Tx n z) (hn : n ≤ 400000) : ∃ y, sem_law_mended [.str z, .int c] = .ok (.str y) ∧ Tx (2 * n + 1) y := by
  have hzb := tx_big h (by omega)
  have hl := lenD_str hzb
  have hl1 : (0 : Int) < (z.length : Int) + 1 := by omega
  have a1 := Int.emod_nonneg (c / 600) (show ((z.length : Int) + 1) ≠ 0 by omega)
  have hm : modD (.int (c / 600)) (.int ((z.length : Int) + 1)) = some (.int (c / 600 % ((z.length : Int) + 1))) := modD_pos hl1
  generalize c / 600 % ((z.length : Int) + 1) = at_ at *
  have k1 := cutD_str (lo := none) (hi := some at_) hzb
  have k2 := cutD_str (lo := some at_) (hi := none) hzb
  have k3 := cutD_str (lo := some (at_ + 1)) (hi := none) hzb
  have w1 := tx_cut h none (some at_)
  have w2 := tx_cut h (some at_) none
  have w3 := tx_cut h (some (at_ + 1)) none
  have sgn : ∀ (x : Str) (i : Int) (m : Nat), x.length = m → m ≤ 1000 → (∀ c ∈ x.cps.toList, c < 1114112) → 0 ≤ i → i < m → ∃ s, ixD (.str x) (.int i) = some (.str ⟨#[s]⟩) ∧ Tx 1 ⟨#[s]⟩ := fun x i m hx hm1 hs h0 h1 => by
    obtain ⟨s, e1, e2⟩ := ix_str (z := x) (i := i) h0 (by omega) (by rw [hx]; exact big_ge hm1)
    refine ⟨s, e1, Nat.le_refl _, fun c hc => ?_⟩
    rw [show (⟨#[s]⟩ : Str).cps.toList = [s] from rfl, List.mem_singleton] at hc
    rw [hc]
    exact hs _ e2
  have q1 : addD (.str " !\"#$&'()*+,-./0123456789:;<=>?@ABCDEFGHIJKLMNOPQRSTUVWXYZ[\\]^_`") (.str "abcdefghijklmnopqrstuvwxyz{|}~\n\t") = some (.str (Str.ofString " !\"#$&'()*+,-./0123456789:;<=>?@ABCDEFGHIJKLMNOPQRSTUVWXYZ[\\]^_`" ++ Str.ofString "abcdefghijklmnopqrstuvwxyz{|}~\n\t")) := addD_str (by decide +kernel)
  obtain ⟨s1, i1, t1⟩ := sgn (Str.ofString " !\"#$&'()*+,-./0123456789:;<=>?@ABCDEFGHIJKLMNOPQRSTUVWXYZ[\\]^_`" ++ Str.ofString "abcdefghijklmnopqrstuvwxyz{|}~\n\t") (c / 6 % 96) 96 (by decide +kernel) (by decide) (by decide +kernel) (by omega) (by omega)
  obtain ⟨s2, i2, t2⟩ := sgn (Str.ofString " ()&|>#abxyz\n\t") (c / 6 % 14) 14 (by decide +kernel) (by decide) (by decide +kernel) (by omega) (by omega)
  have ad : ∀ {a b : Str} {m k : Nat}, Tx m a → Tx k b → m + k ≤ 900000 → addD (.str a) (.str b) = some (.str (a ++ b)) := fun h1 h2 h3 => addD_str (by have := h1.1; have := h2.1; simp only [big]; omega)
  simp only [sem_law_mended, bodyD, F_law_mended, startD]
  generalize (Str.ofString " !\"#$&'()*+,-./0123456789:;<=>?@ABCDEFGHIJKLMNOPQRSTUVWXYZ[\\]^_`" ++ Str.ofString "abcdefghijklmnopqrstuvwxyz{|}~\n\t") = S at *
  have fin : ∀ (s : Nat), Tx 1 ⟨#[s]⟩ → addD (.str (cutS z none (some at_))) (.str ⟨#[s]⟩) = some (.str (cutS z none (some at_) ++ ⟨#[s]⟩)) ∧ addD (.str (cutS z none (some at_) ++ ⟨#[s]⟩)) (.str (cutS z (some at_) none)) = some (.str (cutS z none (some at_) ++ ⟨#[s]⟩ ++ cutS z (some at_) none)) ∧
      addD (.str (cutS z none (some at_) ++ ⟨#[s]⟩)) (.str (cutS z (some (at_ + 1)) none)) = some (.str (cutS z none (some at_) ++ ⟨#[s]⟩ ++ cutS z (some (at_ + 1)) none)) ∧ Tx (2 * n + 1) (cutS z none (some at_) ++ ⟨#[s]⟩ ++ cutS z (some at_) none) ∧ Tx (2 * n + 1) (cutS z none (some at_) ++ ⟨#[s]⟩ ++ cutS z (some (at_ + 1)) none) := fun s ts =>
    ⟨ad w1 ts (by omega), ad (tx_app w1 ts) w2 (by omega), ad (tx_app w1 ts) w3 (by omega), tx_mono (tx_app (tx_app w1 ts) w2) (by omega), tx_mono (tx_app (tx_app w1 ts) w3) (by omega)⟩
  have f3 := ad w1 w3 (by omega)
  have t3 := tx_mono (tx_app w1 w3) (show n + n ≤ 2 * n + 1 by omega)
  by_cases c2 : c / 3 % 2 = 0
  · obtain ⟨g1, g2, g3, g4, g5⟩ := fin s2 t2
    by_cases d0 : c % 3 = 0
    · simp [q1, i1, i2, c2, hl, hm, k1, k2, k3, d0, g1, g2, g4]
    · by_cases d1 : c % 3 = 1
      · simp [q1, i1, i2, c2, hl, hm, k1, k2, k3, d1, f3, t3]
      · simp [q1, i1, i2, c2, hl, hm, k1, k2, k3, d0, d1, g1, g3, g5]
  · obtain ⟨g1, g2, g3, g4, g5⟩ := fin s1 t1
    by_cases d0 : c % 3 = 0
    · simp [q1, i1, c2, hl, hm, k1, k2, k3, d0, g1, g2, g4]
    · by_cases d1 : c % 3 = 1
      · simp [q1, i1, c2, hl, hm, k1, k2, k3, d1, f3, t3]
      · simp [q1, i1, c2, hl, hm, k1, k2, k3, d0, d1, g1, g3, g5]
end My

set_option Elab.async false
set_option maxRecDepth 100000
set_option maxHeartbeats 4000000
set_option linter.all false
namespace My
open PySem L2 DL PyProof.Rows
theorem deep_step (c k : Int) (z : Str) (n : Nat) (h : Tx n z) (hn : n ≤ 100000) : ∃ y, Tx (n + 20) y ∧ (sSet 1 (eOp addD (eOp addD (eOp addD (eC (.str "(")) (eOp ixD (eLst (aCons (eC (.str "# | ")) (aCons (eC (.str "")) aNil))) (eOp modD (eOp addD (eVar 0) (eVar 3)) (eC (.int 2))))) (eVar 1)) (eOp ixD (eLst (aCons (eC (.str ")")) (aCons (eC (.str " > b)")) aNil))) (eOp modD (eOp addD (eVar 0) (eVar 3)) (eC (.int 2)))))) [some (.int c), some (.str z), m, some (.int k)] = .ok (.nx [some (.int c), some (.str y), m, some (.int k)]) := by
  have ad : ∀ {a b : Str} {m k : Nat}, Tx m a → Tx k b → m + k ≤ 900000 → addD (.str a) (.str b) = some (.str (a ++ b)) := fun h1 h2 h3 => addD_str (by have := h1.1; have := h2.1; simp only [big]; omega)
  have t0 : Tx 1 (Str.ofString "(") := tx_lit _ _ (by decide +kernel)
  have a0 : Tx 4 (Str.ofString "# | ") := tx_lit _ _ (by decide +kernel)
  have a1 : Tx 0 (Str.ofString "") := tx_lit _ _ (by decide +kernel)
  have b0 : Tx 1 (Str.ofString ")") := tx_lit _ _ (by decide +kernel)
  have b1 : Tx 5 (Str.ofString " > b)") := tx_lit _ _ (by decide +kernel)
  rcases Int.emod_two_eq (c + k) with e | e
  · have x1 := ad t0 a0 (by omega)
    have x2 := ad (tx_app t0 a0) h (by omega)
    have x3 := ad (tx_app (tx_app t0 a0) h) b0 (by omega)
    exact ⟨_, tx_mono (tx_app (tx_app (tx_app t0 a0) h) b0) (by omega), by simp [e, at2_0, x1, x2, x3]⟩
  · have x1 := ad t0 a1 (by omega)
    have x2 := ad (tx_app t0 a1) h (by omega)
    have x3 := ad (tx_app (tx_app t0 a1) h) b1 (by omega)
    exact ⟨_, tx_mono (tx_app (tx_app (tx_app t0 a1) h) b1) (by omega), by simp [e, at2_1, x1, x2, x3]⟩
theorem deep (c : Int) : ∃ z, sem_law_deep [.int c] = .ok (.str z) ∧ Tx 5000 z := by
  obtain ⟨z0, hz0, ht0⟩ : ∃ z, atI [PyData.str "a", .str "#", .str "(a & b)"] (c % 3) = some (.str z) ∧ Tx 10 z := by
    have h : c % 3 = 0 ∨ c % 3 = 1 ∨ c % 3 = 2 := by omega
    rcases h with h | h | h <;> rw [h]
    · exact ⟨_, rfl, tx_lit _ _ (by decide +kernel)⟩
    · exact ⟨_, rfl, tx_lit _ _ (by decide +kernel)⟩
    · exact ⟨_, rfl, tx_lit _ _ (by decide +kernel)⟩
  have loop : ∀ n : Nat, n ≤ 200 → ∃ z ρ3, forGo (gN 3) (sSet 1 (eOp addD (eOp addD (eOp addD (eC (.str "(")) (eOp ixD (eLst (aCons (eC (.str "# | ")) (aCons (eC (.str "")) aNil))) (eOp modD (eOp addD (eVar 0) (eVar 3)) (eC (.int 2))))) (eVar 1)) (eOp ixD (eLst (aCons (eC (.str ")")) (aCons (eC (.str " > b)")) aNil))) (eOp modD (eOp addD (eVar 0) (eVar 3)) (eC (.int 2)))))) (DL.upTo 0 n) [some (.int c), some (.str z0), some (.int (n : Nat)), none] = .ok (.nx [some (.int c), some (.str z), some (.int (n : Nat)), ρ3]) ∧ Tx 5000 z := fun n hn => by
    obtain ⟨ρ, h1, h2⟩ := forGo_inv (k := gN 3) (F := (sSet 1 (eOp addD (eOp addD (eOp addD (eC (.str "(")) (eOp ixD (eLst (aCons (eC (.str "# | ")) (aCons (eC (.str "")) aNil))) (eOp modD (eOp addD (eVar 0) (eVar 3)) (eC (.int 2))))) (eVar 1)) (eOp ixD (eLst (aCons (eC (.str ")")) (aCons (eC (.str " > b)")) aNil))) (eOp modD (eOp addD (eVar 0) (eVar 3)) (eC (.int 2)))))))
      (fun i ρ => ∃ z x, ρ = [some (.int c), some (.str z), some (.int (n : Nat)), x] ∧ Tx (10 + 20 * i) z) (xs := DL.upTo 0 n) (i := 0) (ρ := [some (.int c), some (.str z0), some (.int (n : Nat)), none]) ⟨z0, none, rfl, ht0⟩ (by
        rintro j d ρ hd ⟨z, x, rfl, ht⟩
        obtain ⟨i, hi, rfl⟩ := mem_upTo.mp (List.mem_of_getElem? hd)
        have hj : j < n := by
          have := (List.getElem?_eq_some_iff.mp hd).1
          rwa [upTo_len] at this
        obtain ⟨y, hy1, hy2⟩ := deep_step (m := some (.int (n : Nat))) c (0 + (i : Int)) z _ ht (by omega)
        exact ⟨_, _, rfl, .inl hy2, y, _, rfl, tx_mono hy1 (by omega)⟩)
    obtain ⟨z, x, rfl, ht⟩ := h2
    exact ⟨z, x, h1, tx_mono ht (by rw [upTo_len]; omega)⟩
  simp only [sem_law_deep, bodyD, F_law_deep, startD]
  by_cases h : c / 15 % 4 = 1
  · obtain ⟨n, hn⟩ : ∃ n : Nat, 31 + c / 60 % 170 = n := ⟨(31 + c / 60 % 170).toNat, by omega⟩
    have hb : -(big : Int) ≤ (n : Int) ∧ (n : Int) ≤ big := by simp only [big]; omega
    obtain ⟨z, x, h1, h2⟩ := loop n (by omega)
    simp [hz0, h, hn, sFor_ap, hb, upTo_len, big_ge (show n ≤ 1000 by omega), h1, h2]
  · obtain ⟨n, hn⟩ : ∃ n : Nat, 27 + c / 3 % 5 = n := ⟨(27 + c / 3 % 5).toNat, by omega⟩
    have hb : -(big : Int) ≤ (n : Int) ∧ (n : Int) ≤ big := by simp only [big]; omega
    obtain ⟨z, x, h1, h2⟩ := loop n (by omega)
    simp [hz0, h, hn, sFor_ap, hb, upTo_len, big_ge (show n ≤ 1000 by omega), h1, h2]
end My

set_option Elab.async false
set_option maxRecDepth 100000
set_option maxHeartbeats 4000000
set_option linter.all false
namespace My
open PySem L2 DL PyProof.Rows
theorem wr_signs : ∀ {s : Stm}, s.Ok → ∀ c ∈ wr s, c < 1114112
  | .nm w, h, c, hc => by have := h.2.2 c hc; omega
  | .fl, _, c, hc => by simp [wr] at hc; omega
  | .bin o a b, h, c, hc => by
    simp only [wr, List.mem_cons, List.mem_append, List.not_mem_nil, or_false] at hc
    rcases hc with rfl | hc | rfl | rfl | rfl | hc | rfl
    · decide
    · exact wr_signs h.1 c hc
    · decide
    · cases o <;> decide
    · decide
    · exact wr_signs h.2 c hc
    · decide
theorem tx_wr {s : Stm} (h : s.Ok) (hl : s.leaves ≤ 2000) : Tx 26000 (T (wr s)) := by
  have := wr_len h
  exact ⟨by rw [T_len]; omega, fun c hc => wr_signs h c hc⟩
end My

set_option Elab.async false
set_option maxRecDepth 100000
set_option maxHeartbeats 4000000
set_option linter.all false
namespace My
open PySem L2 DL PyProof.Rows
theorem cut_ints (ns : List Int) (lo hi : Option Int) : cutP (ns.map PyData.int) lo hi = (cutP ns lo hi).map PyData.int := by
  simp [cutP, List.map_take, List.map_drop]
theorem cut_len {α : Type} (xs : List α) (a b : Nat) (h : a ≤ b) : (cutP xs (some a) (some b)).length ≤ b - a := by
  simp only [cutP, List.length_take, HT.sIx_nat]
  omega
theorem text_by (ns : List Int) (hns : ns.length ≤ 63) : ∃ z, sem_law_text_by [.list (ns.map .int)] = .ok (.str z) ∧ Tx 400000 z := by
  have g0 : sem_law_cell_at [.list (ns.map .int), .int 0] = .ok (.int (ns.getD 0 0)) := cell_at ns 0 hns
  have g1 : sem_law_cell_at [.list (ns.map .int), .int 1] = .ok (.int (ns.getD 1 0)) := cell_at ns 1 hns
  have g2 : sem_law_cell_at [.list (ns.map .int), .int 2] = .ok (.int (ns.getD 2 0)) := cell_at ns 2 hns
  have g3 : sem_law_cell_at [.list (ns.map .int), .int 3] = .ok (.int (ns.getD 3 0)) := cell_at ns 3 hns
  have g4 : sem_law_cell_at [.list (ns.map .int), .int 4] = .ok (.int (ns.getD 4 0)) := cell_at ns 4 hns
  generalize ns.getD 0 0 = a0 at g0
  generalize ns.getD 1 0 = a1 at g1
  generalize ns.getD 2 0 = a2 at g2
  generalize ns.getD 3 0 = a3 at g3
  generalize ns.getD 4 0 = a4 at g4
  have hcl := cut_len ns 6 18 (by decide)
  simp only [show ((6 : Nat) : Int) = 6 from rfl, show ((18 : Nat) : Int) = 18 from rfl] at hcl
  obtain ⟨x, hx, hxo, hxd, hxl⟩ := statement_by (cutP ns (some 6) (some 18)) a0 (Nat.le_trans hcl (by decide))
  rw [← cut_ints] at hx
  have tw := tx_wr hxo hxl
  have hw := written 40 x (by omega) (by have := tw.1; rw [T_len] at this; exact Nat.le_trans this (by decide))
  obtain ⟨z1, m1, t1⟩ := mended a2 tw (by decide)
  obtain ⟨z2, m2, t2⟩ := mended a3 t1 (by decide)
  obtain ⟨z3, m3, t3⟩ := mended a4 t2 (by decide)
  obtain ⟨o1, o2, o3⟩ := odd (a1 / 4)
  obtain ⟨d1, d2, d3⟩ := deep (a1 / 12)
  have bb : ∀ i : Int, 0 ≤ i → i ≤ 3 → -(big : Int) ≤ i ∧ i ≤ (big : Int) := fun i h1 h2 => by simp only [big]; omega
  have u0 : DL.upTo 0 0 = [] := rfl
  have u1 : DL.upTo 0 1 = [.int 0] := rfl
  have u2 : DL.upTo 0 2 = [.int 0, .int 1] := rfl
  have u3 : DL.upTo 0 3 = [.int 0, .int 1, .int 2] := rfl
  simp only [sem_law_text_by, bodyD, F_law_text_by, startD]
  by_cases c1 : a1 % 4 = 1
  · simp [g1, c1, o2]
    exact tx_mono o3 (by decide)
  by_cases c2 : a1 % 6 = 2
  · simp [g1, c1, c2, d2]
    exact tx_mono d3 (by decide)
  have h : a1 / 12 % 4 = 0 ∨ a1 / 12 % 4 = 1 ∨ a1 / 12 % 4 = 2 ∨ a1 / 12 % 4 = 3 := by omega
  rcases h with h | h | h | h
  · simp [g0, g1, c1, c2, hx, hw, h, sFor_ap, bb 0 (by decide) (by decide), u0, forGo]
    exact tx_mono tw (by decide)
  · simp [g0, g1, g2, c1, c2, hx, hw, h, sFor_ap, bb 1 (by decide) (by decide), u1, forGo, m1]
    exact tx_mono t1 (by decide)
  · simp [g0, g1, g2, g3, c1, c2, hx, hw, h, sFor_ap, bb 2 (by decide) (by decide), u2, forGo, m1, m2]
    exact tx_mono t2 (by decide)
  · simp [g0, g1, g2, g3, g4, c1, c2, hx, hw, h, sFor_ap, bb 3 (by decide) (by decide), u3, forGo, m1, m2, m3]
    exact tx_mono t3 (by decide)
end My

set_option Elab.async false
set_option maxRecDepth 100000
set_option maxHeartbeats 4000000
set_option linter.all false
namespace My
open PySem L2 DL PyProof.Rows
theorem isi_tup {z : List PyData} : isiD "tuple" (.tuple z) = some (.bool true) := nrfl rfl
theorem known : sem_law_told [.str "(a > (# | bc))"] = .ok (.tuple [.tuple [.str "then", .tuple [.str "name", .str "a"], .tuple [.str "or", .tuple [.str "false"], .tuple [.str "name", .str "bc"]]]]) := by
  have h := told (l := (Str.ofString "(a > (# | bc))").cps.toList) ⟨by decide +kernel, by decide +kernel⟩
  rw [T_of] at h
  rw [h]
  rfl
theorem ne_self {xs : List PyData} (h : SeqAt.shaped (.tuple xs) = true) (hc : (PyData.tuple xs).canLay0 = true) : neD (.tuple xs) (.tuple xs) = some (.bool false) := by
  have e2 : eqD (.tuple xs) (.tuple xs) = if SeqAt.shaped (.tuple xs) && SeqAt.shaped (.tuple xs) then some (.bool (PyData.eqv (.tuple xs) (.tuple xs))) else none := rfl
  simp only [neD, e2, h, PySem.SeqAt.eqv_refl _ hc]
  rfl
theorem plain (ns : List Int) (hns : ns.length ≤ 63) : sem_law [.list (ns.map .int)] = .ok (.bool true) := by
  obtain ⟨z, hz, ht⟩ := text_by ns hns
  obtain ⟨l, rfl, hl⟩ := tx_ok ht (by decide)
  have hr := law_read_at hl 32 30 0 (by decide) (by decide)
  have hto := told hl
  have hk := known
  have hlen := len_T (ok_big hl)
  simp only [show ((0 : Nat) : Int) = 0 from rfl, show ((30 : Nat) : Int) = 30 from rfl] at hr
  have e2 : DL.upTo 0 2 = [.int 0, .int 1] := rfl
  have bb : -(big : Int) ≤ 2 ∧ (2 : Int) ≤ big := by decide
  have nl : neD (.list [.bool true, .bool false, .bool false, .bool true]) (.list [.bool true, .bool false, .bool false, .bool true]) = some (.bool false) := rfl
  have nk : neD (.tuple [.tuple [.str "then", .tuple [.str "name", .str "a"], .tuple [.str "or", .tuple [.str "false"], .tuple [.str "name", .str "bc"]]]]) (.tuple [.tuple [.str "then", .tuple [.str "name", .str "a"], .tuple [.str "or", .tuple [.str "false"], .tuple [.str "name", .str "bc"]]]]) = some (.bool false) := ne_self (by decide +kernel) (by decide +kernel)
  have n0 : neD (.tuple []) (.tuple []) = some (.bool false) := rfl
  simp only [sem_law, bodyD, F_law, startD]
  cases hrd : rd 30 l 0 with
  | none =>
    rw [hrd] at hr hto
    simp [hz, hr, lawA, n0, eq_nil0, sFor_ap, bb, e2, forGo, hto, nl, hk, nk]
  | some se =>
    obtain ⟨s, e⟩ := se
    obtain ⟨so, sd⟩ := rd_ok hrd
    rw [hrd] at hr hto
    have en := eq_nil1 (e := (e : Int)) so (by omega)
    have ne : neD (.tuple [s.enc, .int (e : Int)]) (.tuple []) = some (.bool true) := by simp only [neD, en]; rfl
    have es : neD s.enc s.enc = some (.bool false) := by
      have e1 : SeqAt.shaped s.enc = true := nice_shaped (stm_nice2 so (by omega)) (by decide)
      have e3 : PyData.eqv s.enc s.enc = true := PySem.SeqAt.eqv_refl _ (stm_nice2 so (by omega)).1
      have e2 : eqD s.enc s.enc = some (.bool true) := by
        cases s <;> (show (if _ then _ else _) = _; rw [e1, e3]; rfl)
      simp only [neD, e2]; rfl
    by_cases he : e = l.length
    · simp [he] at hto hr en ne
      simp [hz, hr, lawA, ne, at2_0, at2_1, at1_0, hlen, he, en, sFor_ap, bb, e2, forGo, hto, isi_tup, es, hk, nk]
    · have he' : ¬ (e : Int) = l.length := by omega
      simp [he] at hto
      simp [hz, hr, lawA, ne, at2_0, at2_1, hlen, he', eq_nil0, sFor_ap, bb, e2, forGo, hto, nl, hk, nk]
end My

set_option Elab.async false
set_option linter.all false
set_option maxRecDepth 100000
set_option maxHeartbeats 4000000
namespace My
open PySem L2 DL PyProof.Rows
/-! the walks -/
section
variable {P : Program} {w : World} {K : PySem.W.Frag} {mg : Str → Option Value} {base : Heap}
abbrev Cal (P : Program) (w : World) (K : PySem.W.Frag) (mg : Str → Option Value) (base : Heap) (x : Str) (k : Nat) (ps : List Str) (g : List PyData → Res PyData) : Prop := Callee P w K mg base CX0 (fun _ => .none) x k ps g
variable {CU : Addr}
abbrev CalX (P : Program) (w : World) (K : PySem.W.Frag) (mg : Str → Option Value) (base : Heap) (CU : Addr) (x : Str) (k : Nat) (ps : List Str) (g : List PyData → Res PyData) : Prop := Callee P w K mg base (L2.CX P w) (fun _ => .ref CU) x k ps g
theorem sc_is_name : FnScope N_is_name ["thing"] (defScope s_is_name) := ⟨rfl, rfl, rfl, by decide +kernel, rfl, by decide +kernel, by decide +kernel⟩
theorem w_is_name {k : Nat} (T : Txt K mg CU) : Cal P w K mg base "is_name" (k + 1) ["thing"] (bodyD 2 F_is_name) := by
  obtain ⟨f, fd, D, hm, hb⟩ := T.d_is_name.ex
  have sc := sc_is_name
  refine callee_of (N := N_is_name) D sc hm hb fun cdv A outer s H E W hr => ?_
  exact (pssd_cons (psd_if (PW.pt (td_or (td_not (td_val (ed_isi T.z_isinstance T.z_str (by decide) (ed_var (i := 0))))) (td_or1 (td_not (td_chain od_le od_le ed_int (ed_callB cd_len T.z_len (ad_cons (ed_var (i := 0)) ad_nil)) (ed_glob T.gl_LONGEST)))))) (pssd_one (psd_ret ed_bl)) pssd_nil)
    (pssd_one (psd_ret (ed_callB (cd_all rfl) T.z_all (ad_cons (ed_lc (x := "sign") (i := 1) rfl sc.nd (id_str (ed_var (i := 0))) (blkOk_by (own := [("sign", 1)]) (N := N_is_name) (sc := defScope s_is_name) (by decide +kernel)) (fun _ _ _ _ _ => pg_name (i := 1) sc.nd rfl (Or.inl rfl)) (fun _ _ _ _ _ => tds_nil) (fun _ _ _ _ _ => (ed_cmp (od_in (units65 hr)) (ed_var (i := 1)) (ed_glob T.gl_LETTERS)))) ad_nil)))))
theorem sc_past : FnScope N_past ["text", "at", "signs"] (defScope s_past) := ⟨rfl, rfl, rfl, by decide +kernel, rfl, by decide +kernel, by decide +kernel⟩
theorem w_past {k : Nat} (T : Txt K mg CU) : CalX P w K mg base CU "past" (k + 1) ["text", "at", "signs"] (bodyD 3 F_past) := by
  obtain ⟨f, fd, D, hm, hb⟩ := T.d_past.ex
  have sc := sc_past
  refine callee_ofX (N := N_past) D sc hm hb fun cdv A outer s H E hr tk po => ?_
  exact (pssd_cons (psd_if (td_cmp (od_ne hr.units) (ed_cut (ed_var (i := 0)) (od_some (ed_var (i := 1))) (od_some (ed_op od_add (ed_var (i := 1)) (ed_callB cd_len T.z_len (ad_cons (ed_var (i := 2)) ad_nil))))) (ed_var (i := 2))) (pssd_one (psd_raise T.err_Unread rfl rfl tk)) pssd_nil)
    (pssd_one (psd_ret (ed_op od_add (ed_var (i := 1)) (ed_callB cd_len T.z_len (ad_cons (ed_var (i := 2)) ad_nil))))))
theorem sc_name_at : FnScope N_name_at ["text", "at"] (defScope s_name_at) := ⟨rfl, rfl, rfl, by decide +kernel, rfl, by decide +kernel, by decide +kernel⟩
theorem w_name_at {k : Nat} (T : Txt K mg CU) (c_is_name : Cal P w K mg base "is_name" k ["thing"] sem_is_name) : CalX P w K mg base CU "name_at" (k + 1) ["text", "at"] (bodyD 3 F_name_at) := by
  obtain ⟨f, fd, D, hm, hb⟩ := T.d_name_at.ex
  have sc := sc_name_at
  refine callee_ofX (N := N_name_at) D sc hm hb fun cdv A outer s H E hr tk po => ?_
  exact (pssd_cons (psd_set (i := 2) sc.nd (ed_var (i := 1)))
    (pssd_cons (psd_while 1000000 po (PW.pt (td_and (td_cmp od_lt (ed_var (i := 2)) (ed_callB cd_len T.z_len (ad_cons (ed_var (i := 0)) ad_nil))) (td_and1 (td_val (ed_call c_is_name hr passD (ad_cons (ed_ix (ed_var (i := 0)) (ed_var (i := 2))) ad_nil) (an_cons an_nil)))))) (pssd_one (psd_set (i := 2) sc.nd (ed_op od_add (ed_var (i := 2)) ed_int))))
    (pssd_cons (psd_if (td_not (td_val (ed_call c_is_name hr passD (ad_cons (ed_cut (ed_var (i := 0)) (od_some (ed_var (i := 1))) (od_some (ed_var (i := 2)))) ad_nil) (an_cons an_nil)))) (pssd_one (psd_raise T.err_Unread rfl rfl tk)) pssd_nil)
    (pssd_one (psd_ret (ed_tup (ad_cons (ed_tup (ad_cons ed_str (ad_cons (ed_cut (ed_var (i := 0)) (od_some (ed_var (i := 1))) (od_some (ed_var (i := 2)))) ad_nil))) (ad_cons (ed_var (i := 2)) ad_nil))))))))
theorem sc_pair_at : FnScope N_pair_at ["text", "at", "room"] (defScope s_pair_at) := ⟨rfl, rfl, rfl, by decide +kernel, rfl, by decide +kernel, by decide +kernel⟩
theorem w_pair_at {k : Nat} (T : Txt K mg CU) (c_past : CalX P w K mg base CU "past" k ["text", "at", "signs"] sem_past) {self : List PyData → Res PyData} (c_self : CalX P w K mg base CU "one_at" k ["text", "at", "room"] self) : CalX P w K mg base CU "pair_at" (k + 1) ["text", "at", "room"] (bodyD 7 (F_pair_at self)) := by
  obtain ⟨f, fd, D, hm, hb⟩ := T.d_pair_at.ex
  have sc := sc_pair_at
  refine callee_ofX (N := N_pair_at) D sc hm hb fun cdv A outer s H E hr tk po => ?_
  exact (pssd_cons (psd_asg (ed_call c_self hr (passX tk) (ad_cons (ed_var (i := 0)) (ad_cons (ed_op od_add (ed_var (i := 1)) ed_int) (ad_cons (ed_op od_sub (ed_var (i := 2)) ed_int) ad_nil))) (an_cons (an_cons (an_cons an_nil)))) (gd_tup rfl (gds_cons (gd_name (i := 5) sc.nd) (gds_cons (gd_name (i := 3) sc.nd) gds_nil))))
    (pssd_cons (psd_set (i := 3) sc.nd (ed_call c_past hr (passX tk) (ad_cons (ed_var (i := 0)) (ad_cons (ed_var (i := 3)) (ad_cons ed_str ad_nil))) (an_cons (an_cons (an_cons an_nil)))))
    (pssd_cons (psd_set (i := 4) sc.nd (ed_find (ed_glob T.gl_SIGNS) (ed_cut (ed_var (i := 0)) (od_some (ed_var (i := 3))) (od_some (ed_op od_add (ed_var (i := 3)) ed_int)))))
    (pssd_cons (psd_if (PW.pt (td_or (td_cmp (od_eq hr.units) (ed_cut (ed_var (i := 0)) (od_some (ed_var (i := 3))) (od_some (ed_op od_add (ed_var (i := 3)) ed_int))) ed_str) (td_or1 (td_cmp od_lt (ed_var (i := 4)) ed_int)))) (pssd_one (psd_raise T.err_Unread rfl rfl tk)) pssd_nil)
    (pssd_cons (psd_asg (ed_call c_self hr (passX tk) (ad_cons (ed_var (i := 0)) (ad_cons (ed_call c_past hr (passX tk) (ad_cons (ed_var (i := 0)) (ad_cons (ed_op od_add (ed_var (i := 3)) ed_int) (ad_cons ed_str ad_nil))) (an_cons (an_cons (an_cons an_nil)))) (ad_cons (ed_op od_sub (ed_var (i := 2)) ed_int) ad_nil))) (an_cons (an_cons (an_cons an_nil)))) (gd_tup rfl (gds_cons (gd_name (i := 6) sc.nd) (gds_cons (gd_name (i := 3) sc.nd) gds_nil))))
    (pssd_one (psd_ret (ed_tup (ad_cons (ed_tup (ad_cons (ed_ix (ed_glob T.gl_WORDS) (ed_var (i := 4))) (ad_cons (ed_var (i := 5)) (ad_cons (ed_var (i := 6)) ad_nil)))) (ad_cons (ed_call c_past hr (passX tk) (ad_cons (ed_var (i := 0)) (ad_cons (ed_var (i := 3)) (ad_cons ed_str ad_nil))) (an_cons (an_cons (an_cons an_nil)))) ad_nil))))))))))
theorem sc_one_at : FnScope N_one_at ["text", "at", "room"] (defScope s_one_at) := ⟨rfl, rfl, rfl, by decide +kernel, rfl, by decide +kernel, by decide +kernel⟩
theorem w_one_at {k : Nat} (T : Txt K mg CU) (c_name_at : CalX P w K mg base CU "name_at" k ["text", "at"] sem_name_at) {self : List PyData → Res PyData} (c_pair_at : CalX P w K mg base CU "pair_at" k ["text", "at", "room"] (bodyD 7 (F_pair_at self))) : CalX P w K mg base CU "one_at" (k + 1) ["text", "at", "room"] (bodyD 3 (F_one_at self)) := by
  obtain ⟨f, fd, D, hm, hb⟩ := T.d_one_at.ex
  have sc := sc_one_at
  refine callee_ofX (N := N_one_at) D sc hm hb fun cdv A outer s H E hr tk po => ?_
  exact (pssd_cons (psd_if (td_cmp (od_eq hr.units) (ed_var (i := 2)) ed_int) (pssd_one (psd_raise T.err_Unread rfl rfl tk)) pssd_nil)
    (pssd_cons (psd_if (td_cmp (od_eq hr.units) (ed_cut (ed_var (i := 0)) (od_some (ed_var (i := 1))) (od_some (ed_op od_add (ed_var (i := 1)) ed_int))) ed_str) (pssd_one (psd_ret (ed_tup (ad_cons (ed_tup (ad_cons ed_str ad_nil)) (ad_cons (ed_op od_add (ed_var (i := 1)) ed_int) ad_nil))))) pssd_nil)
    (pssd_cons (psd_if (td_cmp (od_eq hr.units) (ed_cut (ed_var (i := 0)) (od_some (ed_var (i := 1))) (od_some (ed_op od_add (ed_var (i := 1)) ed_int))) ed_str) (pssd_one (psd_ret (ed_call c_pair_at hr (passX tk) (ad_cons (ed_var (i := 0)) (ad_cons (ed_var (i := 1)) (ad_cons (ed_var (i := 2)) ad_nil))) (an_cons (an_cons (an_cons an_nil)))))) pssd_nil)
    (pssd_one (psd_ret (ed_call c_name_at hr (passX tk) (ad_cons (ed_var (i := 0)) (ad_cons (ed_var (i := 1)) ad_nil)) (an_cons (an_cons an_nil))))))))
theorem sc_read : FnScope N_read ["text"] (defScope s_read) := ⟨rfl, rfl, rfl, by decide +kernel, rfl, by decide +kernel, by decide +kernel⟩
theorem w_read {k : Nat} (T : Txt K mg CU) (c_one_at : CalX P w K mg base CU "one_at" k ["text", "at", "room"] (sem_one_at 31)) : CalX P w K mg base CU "read" (k + 1) ["text"] (bodyD 3 F_read) := by
  obtain ⟨f, fd, D, hm, hb⟩ := T.d_read.ex
  have sc := sc_read
  refine callee_ofX (N := N_read) D sc hm hb fun cdv A outer s H E hr tk po => ?_
  exact (pssd_cons (psd_asg (ed_call c_one_at hr (passX tk) (ad_cons (ed_var (i := 0)) (ad_cons ed_int (ad_cons (ed_glob T.gl_DEEPEST) ad_nil))) (an_cons (an_cons (an_cons an_nil)))) (gd_tup rfl (gds_cons (gd_name (i := 1) sc.nd) (gds_cons (gd_name (i := 2) sc.nd) gds_nil))))
    (pssd_cons (psd_if (td_cmp (od_ne hr.units) (ed_var (i := 2)) (ed_callB cd_len T.z_len (ad_cons (ed_var (i := 0)) ad_nil))) (pssd_one (psd_raise T.err_Unread rfl rfl tk)) pssd_nil)
    (pssd_one (psd_ret (ed_var (i := 1))))))
theorem sc_law_cell_at : FnScope N_law_cell_at ["_law_script", "_law_k"] (defScope s_law_cell_at) := ⟨rfl, rfl, rfl, by decide +kernel, rfl, by decide +kernel, by decide +kernel⟩
theorem w_law_cell_at {k : Nat} (T : Txt K mg CU) : Cal P w K mg base "_law_cell_at" (k + 1) ["_law_script", "_law_k"] (bodyD 2 F_law_cell_at) := by
  obtain ⟨f, fd, D, hm, hb⟩ := T.d_law_cell_at.ex
  have sc := sc_law_cell_at
  refine callee_of (N := N_law_cell_at) D sc hm hb fun cdv A outer s H E W hr => ?_
  exact (pssd_cons (psd_if (td_cmp od_lt (ed_var (i := 1)) (ed_callB cd_len T.z_len (ad_cons (ed_var (i := 0)) ad_nil))) (pssd_one (psd_ret (ed_ix (ed_var (i := 0)) (ed_var (i := 1))))) pssd_nil)
    (pssd_one (psd_ret ed_int)))
theorem sc_law_name_by : FnScope N_law_name_by ["_law_seed", "_law_k"] (defScope s_law_name_by) := ⟨rfl, rfl, rfl, by decide +kernel, rfl, by decide +kernel, by decide +kernel⟩
theorem w_law_name_by {k : Nat} (T : Txt K mg CU) : Cal P w K mg base "_law_name_by" (k + 1) ["_law_seed", "_law_k"] (bodyD 8 F_law_name_by) := by
  obtain ⟨f, fd, D, hm, hb⟩ := T.d_law_name_by.ex
  have sc := sc_law_name_by
  refine callee_of (N := N_law_name_by) D sc hm hb fun cdv A outer s H E W hr => ?_
  exact (pssd_cons (psd_set (i := 2) sc.nd ed_str)
    (pssd_cons (psd_set (i := 3) sc.nd (ed_op od_add ed_int (ed_op od_mod (ed_var (i := 0)) ed_int)))
    (pssd_cons (psd_set (i := 4) sc.nd (ed_join ed_str (ed_lc (x := "_law_j") (i := 7) rfl sc.nd (id_rng1 T.z_range (ad_cons (ed_var (i := 3)) ad_nil)) (blkOk_by (own := [("_law_j", 7)]) (N := N_law_name_by) (sc := defScope s_law_name_by) (by decide +kernel)) (fun _ _ _ _ _ => pg_name (i := 7) sc.nd rfl (Or.inl rfl)) (fun _ _ _ _ _ => tds_nil) (fun _ _ _ _ _ => (ed_ix (ed_var (i := 2)) (ed_op od_mod (ed_op od_add (ed_op od_add (ed_op od_div (ed_var (i := 0)) ed_int) (ed_op od_mul ed_int (ed_var (i := 7)))) (ed_op od_mul (ed_var (i := 7)) (ed_var (i := 7)))) ed_int))))))
    (pssd_cons (psd_set (i := 5) sc.nd (ed_op od_mod (ed_op od_div (ed_var (i := 0)) ed_int) (ed_var (i := 3))))
    (pssd_cons (psd_set (i := 6) sc.nd (ed_ix (ed_var (i := 2)) (ed_op od_mod (ed_op od_add (ed_sindex (ed_var (i := 2)) (ed_ix (ed_var (i := 4)) (ed_var (i := 5)))) (ed_op od_mul (ed_var (i := 1)) (ed_op od_add ed_int (ed_op od_mod (ed_op od_div (ed_var (i := 0)) ed_int) ed_int)))) ed_int)))
    (pssd_cons (psd_if (PW.pt (td_and (td_cmp (od_eq hr.units) (ed_var (i := 1)) ed_int) (td_and (td_cmp (od_eq hr.units) (ed_op od_mod (ed_op od_div (ed_var (i := 0)) ed_int) ed_int) ed_int) (td_and1 (td_cmp od_lt (ed_var (i := 3)) ed_int))))) (pssd_one (psd_ret (ed_op od_add (ed_var (i := 4)) (ed_var (i := 6))))) pssd_nil)
    (pssd_one (psd_ret (ed_op od_add (ed_op od_add (ed_cut (ed_var (i := 4)) od_none (od_some (ed_var (i := 5)))) (ed_var (i := 6))) (ed_cut (ed_var (i := 4)) (od_some (ed_op od_add (ed_var (i := 5)) ed_int)) od_none))))))))))
theorem sc_law_joined : FnScope N_law_joined ["_law_way", "_law_one", "_law_other"] (defScope s_law_joined) := ⟨rfl, rfl, rfl, by decide +kernel, rfl, by decide +kernel, by decide +kernel⟩
theorem w_law_joined {k : Nat} (T : Txt K mg CU) : Cal P w K mg base "_law_joined" (k + 1) ["_law_way", "_law_one", "_law_other"] (bodyD 3 F_law_joined) := by
  obtain ⟨f, fd, D, hm, hb⟩ := T.d_law_joined.ex
  have sc := sc_law_joined
  refine callee_of (N := N_law_joined) D sc hm hb fun cdv A outer s H E W hr => ?_
  exact (pssd_cons (psd_if (td_cmp (od_eq hr.units) (ed_op od_mod (ed_op od_div (ed_var (i := 0)) ed_int) ed_int) ed_int) (pssd_one (psd_ret (ed_tup (ad_cons (ed_ix (ed_lst (ad_cons ed_str (ad_cons ed_str (ad_cons ed_str (ad_cons ed_str ad_nil))))) (ed_op od_mod (ed_var (i := 0)) ed_int)) (ad_cons (ed_var (i := 2)) (ad_cons (ed_var (i := 1)) ad_nil)))))) pssd_nil)
    (pssd_one (psd_ret (ed_tup (ad_cons (ed_ix (ed_lst (ad_cons ed_str (ad_cons ed_str (ad_cons ed_str (ad_cons ed_str ad_nil))))) (ed_op od_mod (ed_var (i := 0)) ed_int)) (ad_cons (ed_var (i := 1)) (ad_cons (ed_var (i := 2)) ad_nil)))))))
theorem sc_law_step : FnScope N_law_step ["_law_pile", "_law_cell", "_law_seed"] (defScope s_law_step) := ⟨rfl, rfl, rfl, by decide +kernel, rfl, by decide +kernel, by decide +kernel⟩
theorem w_law_step {k : Nat} (T : Txt K mg CU) (c_law_joined : Cal P w K mg base "_law_joined" k ["_law_way", "_law_one", "_law_other"] sem_law_joined) (c_law_name_by : Cal P w K mg base "_law_name_by" k ["_law_seed", "_law_k"] sem_law_name_by) : Cal P w K mg base "_law_step" (k + 1) ["_law_pile", "_law_cell", "_law_seed"] (bodyD 5 F_law_step) := by
  obtain ⟨f, fd, D, hm, hb⟩ := T.d_law_step.ex
  have sc := sc_law_step
  refine callee_of (N := N_law_step) D sc hm hb fun cdv A outer s H E W hr => ?_
  exact (pssd_cons (psd_set (i := 3) sc.nd (ed_op od_mod (ed_var (i := 1)) ed_int))
    (pssd_cons (psd_set (i := 4) sc.nd (ed_op od_div (ed_var (i := 1)) ed_int))
    (pssd_cons (psd_if (td_cmp (od_eq hr.units) (ed_var (i := 3)) ed_int) (pssd_one (psd_ret (ed_op od_add (ed_var (i := 0)) (ed_lst (ad_cons (ed_tup (ad_cons ed_str ad_nil)) ad_nil))))) pssd_nil)
    (pssd_cons (psd_if (PW.pt (td_and (td_cmp (od_eq hr.units) (ed_var (i := 3)) ed_int) (td_and1 (td_cmp od_gt (ed_callB cd_len T.z_len (ad_cons (ed_var (i := 0)) ad_nil)) ed_int)))) (pssd_one (psd_ret (ed_op od_add (ed_var (i := 0)) (ed_lst (ad_cons (ed_ix (ed_var (i := 0)) (ed_op od_mod (ed_var (i := 4)) (ed_callB cd_len T.z_len (ad_cons (ed_var (i := 0)) ad_nil)))) ad_nil))))) pssd_nil)
    (pssd_cons (psd_if (PW.pt (td_and (td_cmp (od_eq hr.units) (ed_var (i := 3)) ed_int) (td_and1 (td_cmp od_gt (ed_callB cd_len T.z_len (ad_cons (ed_var (i := 0)) ad_nil)) ed_int)))) (pssd_one (psd_ret (ed_op od_add (ed_cut (ed_var (i := 0)) od_none (od_some (ed_neg ed_int))) (ed_lst (ad_cons (ed_tup (ad_cons ed_str (ad_cons (ed_ix (ed_var (i := 0)) (ed_neg ed_int)) (ad_cons (ed_tup (ad_cons ed_str ad_nil)) ad_nil)))) ad_nil))))) pssd_nil)
    (pssd_cons (psd_if (PW.pt (td_and (td_cmp od_gt (ed_var (i := 3)) ed_int) (td_and1 (td_cmp od_gt (ed_callB cd_len T.z_len (ad_cons (ed_var (i := 0)) ad_nil)) ed_int)))) (pssd_one (psd_ret (ed_op od_add (ed_cut (ed_var (i := 0)) od_none (od_some (ed_neg ed_int))) (ed_lst (ad_cons (ed_call c_law_joined hr passD (ad_cons (ed_var (i := 4)) (ad_cons (ed_ix (ed_var (i := 0)) (ed_neg ed_int)) (ad_cons (ed_ix (ed_var (i := 0)) (ed_neg ed_int)) ad_nil))) (an_cons (an_cons (an_cons an_nil)))) ad_nil))))) pssd_nil)
    (pssd_one (psd_ret (ed_op od_add (ed_var (i := 0)) (ed_lst (ad_cons (ed_tup (ad_cons ed_str (ad_cons (ed_call c_law_name_by hr passD (ad_cons (ed_var (i := 2)) (ad_cons (ed_op od_mod (ed_var (i := 4)) ed_int) ad_nil)) (an_cons (an_cons an_nil))) ad_nil))) ad_nil)))))))))))
theorem sc_law_statement_by : FnScope N_law_statement_by ["_law_cells", "_law_seed"] (defScope s_law_statement_by) := ⟨rfl, rfl, rfl, by decide +kernel, rfl, by decide +kernel, by decide +kernel⟩
theorem w_law_statement_by {k : Nat} (T : Txt K mg CU) (c_law_name_by : Cal P w K mg base "_law_name_by" k ["_law_seed", "_law_k"] sem_law_name_by) (c_law_step : Cal P w K mg base "_law_step" k ["_law_pile", "_law_cell", "_law_seed"] sem_law_step) : Cal P w K mg base "_law_statement_by" (k + 1) ["_law_cells", "_law_seed"] (bodyD 4 F_law_statement_by) := by
  obtain ⟨f, fd, D, hm, hb⟩ := T.d_law_statement_by.ex
  have sc := sc_law_statement_by
  refine callee_of (N := N_law_statement_by) D sc hm hb fun cdv A outer s H E W hr => ?_
  exact (pssd_cons (psd_set (i := 2) sc.nd (ed_lst ad_nil))
    (pssd_cons (psd_for PassesOwn.never rfl (id_list (ed_var (i := 0))) (gd_name (i := 3) sc.nd) (pssd_one (psd_set (i := 2) sc.nd (ed_call c_law_step hr passD (ad_cons (ed_var (i := 2)) (ad_cons (ed_var (i := 3)) (ad_cons (ed_var (i := 1)) ad_nil))) (an_cons (an_cons (an_cons an_nil)))))))
    (pssd_cons (psd_while 64 PassesOwn.never (td_cmp od_gt (ed_callB cd_len T.z_len (ad_cons (ed_var (i := 2)) ad_nil)) ed_int) (pssd_one (psd_set (i := 2) sc.nd (ed_op od_add (ed_cut (ed_var (i := 2)) od_none (od_some (ed_neg ed_int))) (ed_lst (ad_cons (ed_tup (ad_cons ed_str (ad_cons (ed_ix (ed_var (i := 2)) (ed_neg ed_int)) (ad_cons (ed_ix (ed_var (i := 2)) (ed_neg ed_int)) ad_nil)))) ad_nil))))))
    (pssd_cons (psd_if (td_cmp (od_eq hr.units) (ed_var (i := 2)) (ed_lst ad_nil)) (pssd_one (psd_ret (ed_tup (ad_cons ed_str (ad_cons (ed_call c_law_name_by hr passD (ad_cons (ed_var (i := 1)) (ad_cons ed_int ad_nil)) (an_cons (an_cons an_nil))) ad_nil))))) pssd_nil)
    (pssd_one (psd_ret (ed_ix (ed_var (i := 2)) ed_int)))))))
theorem sc_law_written : FnScope N_law_written ["_law_statement"] (defScope s_law_written) := ⟨rfl, rfl, rfl, by decide +kernel, rfl, by decide +kernel, by decide +kernel⟩
theorem w_law_written {k : Nat} (T : Txt K mg CU) {self : List PyData → Res PyData} (c_self : Cal P w K mg base "_law_written" k ["_law_statement"] self) : Cal P w K mg base "_law_written" (k + 1) ["_law_statement"] (bodyD 2 (F_law_written self)) := by
  obtain ⟨f, fd, D, hm, hb⟩ := T.d_law_written.ex
  have sc := sc_law_written
  refine callee_of (N := N_law_written) D sc hm hb fun cdv A outer s H E W hr => ?_
  exact (pssd_cons (psd_if (td_cmp (od_eq hr.units) (ed_ix (ed_var (i := 0)) ed_int) ed_str) (pssd_one (psd_ret (ed_ix (ed_var (i := 0)) ed_int))) pssd_nil)
    (pssd_cons (psd_if (td_cmp (od_eq hr.units) (ed_ix (ed_var (i := 0)) ed_int) ed_str) (pssd_one (psd_ret ed_str)) pssd_nil)
    (pssd_cons (psd_set (i := 1) sc.nd (ed_menu [(Sum.inr "and", V.str "&"), (Sum.inr "or", V.str "|"), (Sum.inr "then", V.str ">")] (hu_of hr) (pps_cons pe_str pe_str (pps_cons pe_str pe_str (pps_cons pe_str pe_str pps_nil))) (fun _ _ => rfl) (ed_ix (ed_var (i := 0)) ed_int)))
    (pssd_one (psd_ret (ed_op od_add (ed_op od_add (ed_op od_add (ed_op od_add (ed_op od_add (ed_op od_add ed_str (ed_call c_self hr passD (ad_cons (ed_ix (ed_var (i := 0)) ed_int) ad_nil) (an_cons an_nil))) ed_str) (ed_var (i := 1))) ed_str) (ed_call c_self hr passD (ad_cons (ed_ix (ed_var (i := 0)) ed_int) ad_nil) (an_cons an_nil))) ed_str))))))
theorem sc_law_read_at : FnScope N_law_read_at ["_law_text", "_law_at", "_law_room"] (defScope s_law_read_at) := ⟨rfl, rfl, rfl, by decide +kernel, rfl, by decide +kernel, by decide +kernel⟩
theorem w_law_read_at {k : Nat} (T : Txt K mg CU) {self : List PyData → Res PyData} (c_self : Cal P w K mg base "_law_read_at" k ["_law_text", "_law_at", "_law_room"] self) : Cal P w K mg base "_law_read_at" (k + 1) ["_law_text", "_law_at", "_law_room"] (bodyD 7 (F_law_read_at self)) := by
  obtain ⟨f, fd, D, hm, hb⟩ := T.d_law_read_at.ex
  have sc := sc_law_read_at
  refine callee_of (N := N_law_read_at) D sc hm hb fun cdv A outer s H E W hr => ?_
  exact (pssd_cons (psd_if (td_cmp od_lt (ed_var (i := 2)) ed_int) (pssd_one (psd_ret (ed_tup ad_nil))) pssd_nil)
    (pssd_cons (psd_if (td_cmp (od_eq hr.units) (ed_cut (ed_var (i := 0)) (od_some (ed_var (i := 1))) (od_some (ed_op od_add (ed_var (i := 1)) ed_int))) ed_str) (pssd_one (psd_ret (ed_tup (ad_cons (ed_tup (ad_cons ed_str ad_nil)) (ad_cons (ed_op od_add (ed_var (i := 1)) ed_int) ad_nil))))) pssd_nil)
    (pssd_cons (psd_if (td_cmp (od_ne hr.units) (ed_cut (ed_var (i := 0)) (od_some (ed_var (i := 1))) (od_some (ed_op od_add (ed_var (i := 1)) ed_int))) ed_str) (pssd_cons (psd_set (i := 6) sc.nd (ed_var (i := 1)))
    (pssd_cons (psd_while 1000000 PassesOwn.never (PW.pt (td_and (td_cmp od_lt (ed_var (i := 6)) (ed_callB cd_len T.z_len (ad_cons (ed_var (i := 0)) ad_nil))) (td_and1 (td_cmp (od_in (units65 hr)) (ed_ix (ed_var (i := 0)) (ed_var (i := 6))) ed_str)))) (pssd_one (psd_set (i := 6) sc.nd (ed_op od_add (ed_var (i := 6)) ed_int))))
    (pssd_cons (psd_if (PW.pt (td_or (td_cmp (od_eq hr.units) (ed_var (i := 6)) (ed_var (i := 1))) (td_or1 (td_cmp od_gt (ed_var (i := 6)) (ed_op od_add (ed_var (i := 1)) ed_int))))) (pssd_one (psd_ret (ed_tup ad_nil))) pssd_nil)
    (pssd_one (psd_ret (ed_tup (ad_cons (ed_tup (ad_cons ed_str (ad_cons (ed_cut (ed_var (i := 0)) (od_some (ed_var (i := 1))) (od_some (ed_var (i := 6)))) ad_nil))) (ad_cons (ed_var (i := 6)) ad_nil)))))))) pssd_nil)
    (pssd_cons (psd_set (i := 3) sc.nd (ed_call c_self hr passD (ad_cons (ed_var (i := 0)) (ad_cons (ed_op od_add (ed_var (i := 1)) ed_int) (ad_cons (ed_op od_sub (ed_var (i := 2)) ed_int) ad_nil))) (an_cons (an_cons (an_cons an_nil)))))
    (pssd_cons (psd_if (td_cmp (od_eq hr.units) (ed_var (i := 3)) (ed_tup ad_nil)) (pssd_one (psd_ret (ed_tup ad_nil))) pssd_nil)
    (pssd_cons (psd_set (i := 4) sc.nd (ed_cut (ed_var (i := 0)) (od_some (ed_ix (ed_var (i := 3)) ed_int)) (od_some (ed_op od_add (ed_ix (ed_var (i := 3)) ed_int) ed_int))))
    (pssd_cons (psd_if (td_cmp (od_notIn (units65 hr)) (ed_var (i := 4)) (ed_lst (ad_cons ed_str (ad_cons ed_str (ad_cons ed_str ad_nil))))) (pssd_one (psd_ret (ed_tup ad_nil))) pssd_nil)
    (pssd_cons (psd_set (i := 5) sc.nd (ed_call c_self hr passD (ad_cons (ed_var (i := 0)) (ad_cons (ed_op od_add (ed_ix (ed_var (i := 3)) ed_int) ed_int) (ad_cons (ed_op od_sub (ed_var (i := 2)) ed_int) ad_nil))) (an_cons (an_cons (an_cons an_nil)))))
    (pssd_cons (psd_if (PW.pt (td_or (td_cmp (od_eq hr.units) (ed_var (i := 5)) (ed_tup ad_nil)) (td_or1 (td_cmp (od_ne hr.units) (ed_cut (ed_var (i := 0)) (od_some (ed_ix (ed_var (i := 5)) ed_int)) (od_some (ed_op od_add (ed_ix (ed_var (i := 5)) ed_int) ed_int))) ed_str)))) (pssd_one (psd_ret (ed_tup ad_nil))) pssd_nil)
    (pssd_one (psd_ret (ed_tup (ad_cons (ed_tup (ad_cons (ed_ix (ed_lst (ad_cons ed_str (ad_cons ed_str (ad_cons ed_str ad_nil)))) (ed_lindex (ed_lst (ad_cons ed_str (ad_cons ed_str (ad_cons ed_str ad_nil)))) (ed_var (i := 4)))) (ad_cons (ed_ix (ed_var (i := 3)) ed_int) (ad_cons (ed_ix (ed_var (i := 5)) ed_int) ad_nil)))) (ad_cons (ed_op od_add (ed_ix (ed_var (i := 5)) ed_int) ed_int) ad_nil))))))))))))))
theorem sc_law_mended : FnScope N_law_mended ["_law_text", "_law_cell"] (defScope s_law_mended) := ⟨rfl, rfl, rfl, by decide +kernel, rfl, by decide +kernel, by decide +kernel⟩
theorem w_law_mended {k : Nat} (T : Txt K mg CU) : Cal P w K mg base "_law_mended" (k + 1) ["_law_text", "_law_cell"] (bodyD 5 F_law_mended) := by
  obtain ⟨f, fd, D, hm, hb⟩ := T.d_law_mended.ex
  have sc := sc_law_mended
  refine callee_of (N := N_law_mended) D sc hm hb fun cdv A outer s H E W hr => ?_
  exact (pssd_cons (psd_set (i := 2) sc.nd ed_str)
    (pssd_cons (psd_set (i := 2) sc.nd (ed_op od_add (ed_var (i := 2)) ed_str))
    (pssd_cons (psd_set (i := 3) sc.nd (ed_ix (ed_var (i := 2)) (ed_op od_mod (ed_op od_div (ed_var (i := 1)) ed_int) ed_int)))
    (pssd_cons (psd_if (td_cmp (od_eq hr.units) (ed_op od_mod (ed_op od_div (ed_var (i := 1)) ed_int) ed_int) ed_int) (pssd_one (psd_set (i := 3) sc.nd (ed_ix ed_str (ed_op od_mod (ed_op od_div (ed_var (i := 1)) ed_int) ed_int)))) pssd_nil)
    (pssd_cons (psd_set (i := 4) sc.nd (ed_op od_mod (ed_op od_div (ed_var (i := 1)) ed_int) (ed_op od_add (ed_callB cd_len T.z_len (ad_cons (ed_var (i := 0)) ad_nil)) ed_int)))
    (pssd_cons (psd_if (td_cmp (od_eq hr.units) (ed_op od_mod (ed_var (i := 1)) ed_int) ed_int) (pssd_one (psd_ret (ed_op od_add (ed_op od_add (ed_cut (ed_var (i := 0)) od_none (od_some (ed_var (i := 4)))) (ed_var (i := 3))) (ed_cut (ed_var (i := 0)) (od_some (ed_var (i := 4))) od_none)))) pssd_nil)
    (pssd_cons (psd_if (td_cmp (od_eq hr.units) (ed_op od_mod (ed_var (i := 1)) ed_int) ed_int) (pssd_one (psd_ret (ed_op od_add (ed_cut (ed_var (i := 0)) od_none (od_some (ed_var (i := 4)))) (ed_cut (ed_var (i := 0)) (od_some (ed_op od_add (ed_var (i := 4)) ed_int)) od_none)))) pssd_nil)
    (pssd_one (psd_ret (ed_op od_add (ed_op od_add (ed_cut (ed_var (i := 0)) od_none (od_some (ed_var (i := 4)))) (ed_var (i := 3))) (ed_cut (ed_var (i := 0)) (od_some (ed_op od_add (ed_var (i := 4)) ed_int)) od_none)))))))))))
theorem sc_law_odd : FnScope N_law_odd ["_law_cell"] (defScope s_law_odd) := ⟨rfl, rfl, rfl, by decide +kernel, rfl, by decide +kernel, by decide +kernel⟩
theorem w_law_odd {k : Nat} (T : Txt K mg CU) : Cal P w K mg base "_law_odd" (k + 1) ["_law_cell"] (bodyD 2 F_law_odd) := by
  obtain ⟨f, fd, D, hm, hb⟩ := T.d_law_odd.ex
  have sc := sc_law_odd
  refine callee_of (N := N_law_odd) D sc hm hb fun cdv A outer s H E W hr => ?_
  exact (pssd_cons (psd_set (i := 1) sc.nd (ed_lst (ad_cons ed_str (ad_cons ed_str (ad_cons ed_str (ad_cons ed_str (ad_cons ed_str (ad_cons ed_str (ad_cons ed_str (ad_cons ed_str (ad_cons ed_str (ad_cons ed_str (ad_cons ed_str (ad_cons ed_str (ad_cons ed_str ad_nil)))))))))))))))
    (pssd_cons (psd_set (i := 1) sc.nd (ed_op od_add (ed_var (i := 1)) (ed_lst (ad_cons ed_str (ad_cons ed_str (ad_cons ed_str (ad_cons ed_str (ad_cons ed_str (ad_cons ed_str (ad_cons ed_str (ad_cons ed_str (ad_cons ed_str ad_nil))))))))))))
    (pssd_cons (psd_set (i := 1) sc.nd (ed_op od_add (ed_var (i := 1)) (ed_lst (ad_cons ed_str (ad_cons ed_str (ad_cons ed_str (ad_cons ed_str (ad_cons ed_str (ad_cons ed_str (ad_cons ed_str ad_nil))))))))))
    (pssd_cons (psd_set (i := 1) sc.nd (ed_op od_add (ed_var (i := 1)) (ed_lst (ad_cons ed_str (ad_cons ed_str (ad_cons ed_str ad_nil))))))
    (pssd_one (psd_ret (ed_ix (ed_var (i := 1)) (ed_op od_mod (ed_var (i := 0)) ed_int))))))))
theorem sc_law_deep : FnScope N_law_deep ["_law_cell"] (defScope s_law_deep) := ⟨rfl, rfl, rfl, by decide +kernel, rfl, by decide +kernel, by decide +kernel⟩
theorem w_law_deep {k : Nat} (T : Txt K mg CU) : Cal P w K mg base "_law_deep" (k + 1) ["_law_cell"] (bodyD 4 F_law_deep) := by
  obtain ⟨f, fd, D, hm, hb⟩ := T.d_law_deep.ex
  have sc := sc_law_deep
  refine callee_of (N := N_law_deep) D sc hm hb fun cdv A outer s H E W hr => ?_
  exact (pssd_cons (psd_set (i := 1) sc.nd (ed_ix (ed_lst (ad_cons ed_str (ad_cons ed_str (ad_cons ed_str ad_nil)))) (ed_op od_mod (ed_var (i := 0)) ed_int)))
    (pssd_cons (psd_set (i := 2) sc.nd (ed_op od_add ed_int (ed_op od_mod (ed_op od_div (ed_var (i := 0)) ed_int) ed_int)))
    (pssd_cons (psd_if (td_cmp (od_eq hr.units) (ed_op od_mod (ed_op od_div (ed_var (i := 0)) ed_int) ed_int) ed_int) (pssd_one (psd_set (i := 2) sc.nd (ed_op od_add ed_int (ed_op od_mod (ed_op od_div (ed_var (i := 0)) ed_int) ed_int)))) pssd_nil)
    (pssd_cons (psd_for PassesOwn.never rfl (id_rng1 T.z_range (ad_cons (ed_var (i := 2)) ad_nil)) (gd_name (i := 3) sc.nd) (pssd_one (psd_set (i := 1) sc.nd (ed_op od_add (ed_op od_add (ed_op od_add ed_str (ed_ix (ed_lst (ad_cons ed_str (ad_cons ed_str ad_nil))) (ed_op od_mod (ed_op od_add (ed_var (i := 0)) (ed_var (i := 3))) ed_int))) (ed_var (i := 1))) (ed_ix (ed_lst (ad_cons ed_str (ad_cons ed_str ad_nil))) (ed_op od_mod (ed_op od_add (ed_var (i := 0)) (ed_var (i := 3))) ed_int))))))
    (pssd_one (psd_ret (ed_var (i := 1))))))))
theorem sc_law_text_by : FnScope N_law_text_by ["_law_script"] (defScope s_law_text_by) := ⟨rfl, rfl, rfl, by decide +kernel, rfl, by decide +kernel, by decide +kernel⟩
theorem w_law_text_by {k : Nat} (T : Txt K mg CU) (c_law_cell_at : Cal P w K mg base "_law_cell_at" k ["_law_script", "_law_k"] sem_law_cell_at) (c_law_deep : Cal P w K mg base "_law_deep" k ["_law_cell"] sem_law_deep) (c_law_mended : Cal P w K mg base "_law_mended" k ["_law_text", "_law_cell"] sem_law_mended) (c_law_odd : Cal P w K mg base "_law_odd" k ["_law_cell"] sem_law_odd) (c_law_statement_by : Cal P w K mg base "_law_statement_by" k ["_law_cells", "_law_seed"] sem_law_statement_by) (c_law_written : Cal P w K mg base "_law_written" k ["_law_statement"] (sem_law_written 40)) : Cal P w K mg base "_law_text_by" (k + 1) ["_law_script"] (bodyD 4 F_law_text_by) := by
  obtain ⟨f, fd, D, hm, hb⟩ := T.d_law_text_by.ex
  have sc := sc_law_text_by
  refine callee_of (N := N_law_text_by) D sc hm hb fun cdv A outer s H E W hr => ?_
  exact (pssd_cons (psd_set (i := 1) sc.nd (ed_call c_law_cell_at hr passD (ad_cons (ed_var (i := 0)) (ad_cons ed_int ad_nil)) (an_cons (an_cons an_nil))))
    (pssd_cons (psd_if (td_cmp (od_eq hr.units) (ed_op od_mod (ed_var (i := 1)) ed_int) ed_int) (pssd_one (psd_ret (ed_call c_law_odd hr passD (ad_cons (ed_op od_div (ed_var (i := 1)) ed_int) ad_nil) (an_cons an_nil)))) pssd_nil)
    (pssd_cons (psd_if (td_cmp (od_eq hr.units) (ed_op od_mod (ed_var (i := 1)) ed_int) ed_int) (pssd_one (psd_ret (ed_call c_law_deep hr passD (ad_cons (ed_op od_div (ed_var (i := 1)) ed_int) ad_nil) (an_cons an_nil)))) pssd_nil)
    (pssd_cons (psd_set (i := 2) sc.nd (ed_call c_law_written hr passD (ad_cons (ed_call c_law_statement_by hr passD (ad_cons (ed_cut (ed_var (i := 0)) (od_some ed_int) (od_some ed_int)) (ad_cons (ed_call c_law_cell_at hr passD (ad_cons (ed_var (i := 0)) (ad_cons ed_int ad_nil)) (an_cons (an_cons an_nil))) ad_nil)) (an_cons (an_cons an_nil))) ad_nil) (an_cons an_nil)))
    (pssd_cons (psd_for PassesOwn.never rfl (id_rng1 T.z_range (ad_cons (ed_op od_mod (ed_op od_div (ed_var (i := 1)) ed_int) ed_int) ad_nil)) (gd_name (i := 3) sc.nd) (pssd_one (psd_set (i := 2) sc.nd (ed_call c_law_mended hr passD (ad_cons (ed_var (i := 2)) (ad_cons (ed_call c_law_cell_at hr passD (ad_cons (ed_var (i := 0)) (ad_cons (ed_op od_add ed_int (ed_var (i := 3))) ad_nil)) (an_cons (an_cons an_nil))) ad_nil)) (an_cons (an_cons an_nil))))))
    (pssd_one (psd_ret (ed_var (i := 2)))))))))
theorem sc_law_told : FnScope N_law_told ["_law_text"] (defScope s_law_told) := ⟨rfl, rfl, rfl, by decide +kernel, rfl, by decide +kernel, by decide +kernel⟩
theorem w_law_told {k : Nat} (T : Txt K mg CU) (c_read : CalX P w K mg base CU "read" k ["text"] sem_read) : Cal P w K mg base "_law_told" (k + 1) ["_law_text"] sem_law_told := by
  obtain ⟨f, fd, D, hm, hb⟩ := T.d_law_told.ex
  have sc := sc_law_told
  obtain ⟨CS, CT, CN, tS, tT, tN, te, ec, kU, kT, kN, kV⟩ := T.told
  obtain ⟨fr, frd, FR, hmr, hkr, hbr, _⟩ := c_read.ex
  have gU := T.err_Unread.gC
  have D2 := D
  obtain ⟨oc, od, kV', doc, pm, an, cdv', ct, osl, efd, lk, hcd⟩ := D2.ex
  refine ⟨f, fd, D.ok sc (fun vs H Q E h => h.1) (fun cdv A outer s H vs Q E hr h => ⟨_, pss_one (ps_try_as (i := 1) (c := .ref CS) (tb := fun W => tRet (tTup (tCons (tCallS (spD K (fun _ => .ref CU) 1 sem_read) (WE W) (tCons (tVar 0) tNil)) tNil)))
    (ts := fun a cls d D σ H => (cls = .ref CU ∧ d = none) ∧ tRet (tLst (tCons (tCB (rIsE K CU a) (tCons (tVar 1) (tCons (tC (.ref CU)) tNil))) (tCons (tCB (rIsE K CU a) (tCons (tVar 1) (tCons (tC (.ref CT)) tNil))) (tCons (tCB (rIsE K CU a) (tCons (tVar 1) (tCons (tC (.ref CN)) tNil))) (tCons (tCB (rIsE K CU a) (tCons (tVar 1) (tCons (tC (.ty "ValueError")) tNil))) tNil))))) D σ H)
    (Wout := fun _ _ _ _ => False) rfl rfl sc.nd rfl rfl ⟨rfl, by decide, Or.inl tS⟩ takes0
    (fun W pn xe tk _ => pss_one (ps_ret (pe_tup (pa_cons (pe_callS FR hr rfl hmr hkr hbr (fun σ => passAt tk σ) (pa_cons (pv 0) pa_nil)) pa_nil))))
    (fun a oe cls d pn hz hf => ⟨fun pins s σ H D I q => ?_⟩)), ?_⟩), hm, D.kp, hb, ⟨oc, od, osl, lk⟩⟩
  · obtain ⟨⟨rfl, rfl⟩, q⟩ := q
    refine PSs.run (t := tRet _) ?_ pins s σ H D I q
    exact (pss_one (ps_ret (pe_lst (pa_cons (pe_callB (call_isE ec hz hf) rfl T.z_isinstance (by decide +kernel) (pa_cons (pv 1) (pa_cons (pe_glob rfl gU rfl) pa_nil)))
      (pa_cons (pe_callB (call_isE ec hz hf) rfl T.z_isinstance (by decide +kernel) (pa_cons (pv 1) (pa_cons (pe_glob rfl tT rfl) pa_nil)))
      (pa_cons (pe_callB (call_isE ec hz hf) rfl T.z_isinstance (by decide +kernel) (pa_cons (pv 1) (pa_cons (pe_glob rfl tN rfl) pa_nil)))
      (pa_cons (pe_callB (call_isE ec hz hf) rfl T.z_isinstance (by decide +kernel) (pa_cons (pv 1) (pa_cons (pe_bltn (v := .ty "ValueError") rfl T.z_ValueError (by decide +kernel) rfl) pa_nil))) pa_nil)))))))
  · obtain ⟨hl, ds, hd, q⟩ := h
    match vs, hl, hd with
    | [v], _, hd =>
      refine ⟨v, rfl, rfl, ds, hd, ?_⟩
      unfold sem_law_told at q
      cases hr : sem_read ds with
      | bad => rw [hr] at q; exact q.elim
      | ok d =>
        rw [hr] at q
        exact fun H' s' v' hv' => ⟨by show 1 ≤ sizeLine; rw [sizeLine_eq]; decide, fun p hp => q _ (s'.trans (same_new hp _)) _ (.tup (SqT.of upd_same) (.cons (dp_mono (same_new hp _) _ _ hv') .nil))⟩
      | ex n =>
        rw [hr] at q
        refine fun H' s' => ⟨true, te, fun _ a ha => ⟨⟨rfl, rfl⟩, ?_⟩, fun e => nomatch e⟩
        refine ⟨.ref a, rfl, .ref CU, .ref CU, true, rfl, (fun u r => r), kU, ?_⟩
        refine ⟨.ref a, rfl, .ref CT, .ref CT, false, rfl, (fun u r => r), kT, ?_⟩
        refine ⟨.ref a, rfl, .ref CN, .ref CN, false, rfl, (fun u r => r), kN, ?_⟩
        refine ⟨.ref a, rfl, .ty "ValueError", .type "ValueError", true, rfl, (fun u r => r), kV, ?_⟩
        refine ⟨by show 4 ≤ sizeLine; rw [sizeLine_eq]; decide, fun p hp => q _ (s'.trans (same_new hp _)) _ (.lst (SqL.of upd_same) (.cons (.bl _) (.cons (.bl _) (.cons (.bl _) (.cons (.bl _) .nil)))))⟩
theorem sc_law : FnScope N_law ["_law_script"] (defScope s_law) := ⟨rfl, rfl, rfl, by decide +kernel, rfl, by decide +kernel, by decide +kernel⟩
theorem w_law {k : Nat} (T : Txt K mg CU) (c_law_read_at : Cal P w K mg base "_law_read_at" k ["_law_text", "_law_at", "_law_room"] (sem_law_read_at 32)) (c_law_text_by : Cal P w K mg base "_law_text_by" k ["_law_script"] sem_law_text_by) (c_law_told : Cal P w K mg base "_law_told" k ["_law_text"] sem_law_told) : Cal P w K mg base "law" (k + 1) ["_law_script"] (bodyD 5 F_law) := by
  obtain ⟨f, fd, D, hm, hb⟩ := T.d_law.ex
  have sc := sc_law
  refine callee_of (N := N_law) D sc hm hb fun cdv A outer s H E W hr => ?_
  exact (pssd_cons (psd_set (i := 1) sc.nd (ed_call c_law_text_by hr passD (ad_cons (ed_var (i := 0)) ad_nil) (an_cons an_nil)))
    (pssd_cons (psd_set (i := 2) sc.nd (ed_call c_law_read_at hr passD (ad_cons (ed_var (i := 1)) (ad_cons ed_int (ad_cons ed_int ad_nil))) (an_cons (an_cons (an_cons an_nil)))))
    (pssd_cons (psd_if (PW.pt (td_and (td_cmp (od_ne hr.units) (ed_var (i := 2)) (ed_tup ad_nil)) (td_and1 (td_cmp (od_ne hr.units) (ed_ix (ed_var (i := 2)) ed_int) (ed_callB cd_len T.z_len (ad_cons (ed_var (i := 1)) ad_nil)))))) (pssd_one (psd_set (i := 2) sc.nd (ed_tup ad_nil))) pssd_nil)
    (pssd_cons (psd_for PassesOwn.never rfl (id_rng1 T.z_range (ad_cons ed_int ad_nil)) (gd_name (i := 3) sc.nd) (pssd_cons (psd_set (i := 4) sc.nd (ed_call c_law_told hr passD (ad_cons (ed_var (i := 1)) ad_nil) (an_cons an_nil)))
    (pssd_cons (psd_if (td_cmp (od_eq hr.units) (ed_var (i := 2)) (ed_tup ad_nil)) (pssd_one (psd_if (td_cmp (od_ne hr.units) (ed_var (i := 4)) (ed_lst (ad_cons ed_bl (ad_cons ed_bl (ad_cons ed_bl (ad_cons ed_bl ad_nil)))))) (pssd_one (psd_ret ed_bl)) pssd_nil)) (pssd_one (psd_if (PW.pt (td_or (td_not (td_val (ed_isi T.z_isinstance T.z_tuple (by decide) (ed_var (i := 4))))) (td_or1 (td_cmp (od_ne hr.units) (ed_ix (ed_var (i := 4)) ed_int) (ed_ix (ed_var (i := 2)) ed_int))))) (pssd_one (psd_ret ed_bl)) pssd_nil)))
    (pssd_one (psd_if (td_cmp (od_ne hr.units) (ed_call c_law_told hr passD (ad_cons ed_str ad_nil) (an_cons an_nil)) (ed_tup (ad_cons (ed_tup (ad_cons ed_str (ad_cons (ed_tup (ad_cons ed_str (ad_cons ed_str ad_nil))) (ad_cons (ed_tup (ad_cons ed_str (ad_cons (ed_tup (ad_cons ed_str ad_nil)) (ad_cons (ed_tup (ad_cons ed_str (ad_cons ed_str ad_nil))) ad_nil)))) ad_nil)))) ad_nil))) (pssd_one (psd_ret ed_bl)) pssd_nil)))))
    (pssd_one (psd_ret ed_bl))))))
theorem all_ok (T : Txt K mg CU) : Cal P w K mg base "law" 67 ["_law_script"] sem_law := by
  have c_is_name : Cal P w K mg base "is_name" 1 ["thing"] sem_is_name := w_is_name (k := 0) T 
  have c_past : CalX P w K mg base CU "past" 1 ["text", "at", "signs"] sem_past := w_past (k := 0) T 
  have c_name_at : CalX P w K mg base CU "name_at" 2 ["text", "at"] sem_name_at := w_name_at (k := 1) T (c_is_name.mono (by decide))
  have c_one_at : ∀ n, CalX P w K mg base CU "one_at" (2 + 2 * n) ["text", "at", "room"] (sem_one_at n) := fun n => by
    induction n with
    | zero => exact callee_bad T.d_one_at
    | succ n ih => exact w_one_at (k := 2 + 2 * n + 1) T (c_name_at.mono (by omega)) (w_pair_at (k := 2 + 2 * n) T (c_past.mono (by omega)) ih)
  have c_one_at := c_one_at 31
  have c_read : CalX P w K mg base CU "read" 65 ["text"] sem_read := w_read (k := 64) T (c_one_at.mono (by decide))
  have c_law_cell_at : Cal P w K mg base "_law_cell_at" 1 ["_law_script", "_law_k"] sem_law_cell_at := w_law_cell_at (k := 0) T 
  have c_law_name_by : Cal P w K mg base "_law_name_by" 1 ["_law_seed", "_law_k"] sem_law_name_by := w_law_name_by (k := 0) T 
  have c_law_joined : Cal P w K mg base "_law_joined" 1 ["_law_way", "_law_one", "_law_other"] sem_law_joined := w_law_joined (k := 0) T 
  have c_law_step : Cal P w K mg base "_law_step" 2 ["_law_pile", "_law_cell", "_law_seed"] sem_law_step := w_law_step (k := 1) T (c_law_joined.mono (by decide)) (c_law_name_by.mono (by decide))
  have c_law_statement_by : Cal P w K mg base "_law_statement_by" 3 ["_law_cells", "_law_seed"] sem_law_statement_by := w_law_statement_by (k := 2) T (c_law_name_by.mono (by decide)) (c_law_step.mono (by decide))
  have c_law_written : ∀ n, Cal P w K mg base "_law_written" (0 + n) ["_law_statement"] (sem_law_written n) := fun n => by
    induction n with
    | zero => exact callee_bad T.d_law_written
    | succ n ih => exact w_law_written (k := 0 + n) T  ih
  have c_law_written := c_law_written 40
  have c_law_read_at : ∀ n, Cal P w K mg base "_law_read_at" (0 + n) ["_law_text", "_law_at", "_law_room"] (sem_law_read_at n) := fun n => by
    induction n with
    | zero => exact callee_bad T.d_law_read_at
    | succ n ih => exact w_law_read_at (k := 0 + n) T  ih
  have c_law_read_at := c_law_read_at 32
  have c_law_mended : Cal P w K mg base "_law_mended" 1 ["_law_text", "_law_cell"] sem_law_mended := w_law_mended (k := 0) T 
  have c_law_odd : Cal P w K mg base "_law_odd" 1 ["_law_cell"] sem_law_odd := w_law_odd (k := 0) T 
  have c_law_deep : Cal P w K mg base "_law_deep" 1 ["_law_cell"] sem_law_deep := w_law_deep (k := 0) T 
  have c_law_text_by : Cal P w K mg base "_law_text_by" 41 ["_law_script"] sem_law_text_by := w_law_text_by (k := 40) T (c_law_cell_at.mono (by decide)) (c_law_deep.mono (by decide)) (c_law_mended.mono (by decide)) (c_law_odd.mono (by decide)) (c_law_statement_by.mono (by decide)) (c_law_written.mono (by decide))
  have c_law_told : Cal P w K mg base "_law_told" 66 ["_law_text"] sem_law_told := w_law_told (k := 65) T (c_read.mono (by decide))
  have c_law : Cal P w K mg base "law" 67 ["_law_script"] sem_law := w_law (k := 66) T (c_law_read_at.mono (by decide)) (c_law_text_by.mono (by decide)) (c_law_told.mono (by decide))
  exact c_law
end
end My

set_option Elab.async false
set_option linter.all false
set_option maxRecDepth 100000
set_option maxHeartbeats 4000000
namespace My
open PySem L2 DL PyProof.Rows
theorem txt_mk {K : PySem.W.Frag} {h : Heap} {mg : Str → Option Value} (X : K.In h) (G : h.Ns mainGlobals mg)
    {f1 : Addr} {od1 an1 : Option Addr} {sl1 : Array (Option Value)} {oc1 kV1 dc1 pm1 cd1 ct1 : Value}
    {f2 : Addr} {od2 an2 : Option Addr} {sl2 : Array (Option Value)} {oc2 kV2 dc2 pm2 cd2 ct2 : Value}
    {f3 : Addr} {od3 an3 : Option Addr} {sl3 : Array (Option Value)} {oc3 kV3 dc3 pm3 cd3 ct3 : Value}
    {f4 : Addr} {od4 an4 : Option Addr} {sl4 : Array (Option Value)} {oc4 kV4 dc4 pm4 cd4 ct4 : Value}
    {f5 : Addr} {od5 an5 : Option Addr} {sl5 : Array (Option Value)} {oc5 kV5 dc5 pm5 cd5 ct5 : Value}
    {f6 : Addr} {od6 an6 : Option Addr} {sl6 : Array (Option Value)} {oc6 kV6 dc6 pm6 cd6 ct6 : Value}
    {f7 : Addr} {od7 an7 : Option Addr} {sl7 : Array (Option Value)} {oc7 kV7 dc7 pm7 cd7 ct7 : Value}
    {f8 : Addr} {od8 an8 : Option Addr} {sl8 : Array (Option Value)} {oc8 kV8 dc8 pm8 cd8 ct8 : Value}
    {f9 : Addr} {od9 an9 : Option Addr} {sl9 : Array (Option Value)} {oc9 kV9 dc9 pm9 cd9 ct9 : Value}
    {f10 : Addr} {od10 an10 : Option Addr} {sl10 : Array (Option Value)} {oc10 kV10 dc10 pm10 cd10 ct10 : Value}
    {f11 : Addr} {od11 an11 : Option Addr} {sl11 : Array (Option Value)} {oc11 kV11 dc11 pm11 cd11 ct11 : Value}
    {f12 : Addr} {od12 an12 : Option Addr} {sl12 : Array (Option Value)} {oc12 kV12 dc12 pm12 cd12 ct12 : Value}
    {f13 : Addr} {od13 an13 : Option Addr} {sl13 : Array (Option Value)} {oc13 kV13 dc13 pm13 cd13 ct13 : Value}
    {f14 : Addr} {od14 an14 : Option Addr} {sl14 : Array (Option Value)} {oc14 kV14 dc14 pm14 cd14 ct14 : Value}
    {f15 : Addr} {od15 an15 : Option Addr} {sl15 : Array (Option Value)} {oc15 kV15 dc15 pm15 cd15 ct15 : Value}
    {f16 : Addr} {od16 an16 : Option Addr} {sl16 : Array (Option Value)} {oc16 kV16 dc16 pm16 cd16 ct16 : Value}
    {f17 : Addr} {od17 an17 : Option Addr} {sl17 : Array (Option Value)} {oc17 kV17 dc17 pm17 cd17 ct17 : Value}
    {f18 : Addr} {od18 an18 : Option Addr} {sl18 : Array (Option Value)} {oc18 kV18 dc18 pm18 cd18 ct18 : Value}
    {f19 : Addr} {od19 an19 : Option Addr} {sl19 : Array (Option Value)} {oc19 kV19 dc19 pm19 cd19 ct19 : Value}
    {aU aS aT aN : Addr}
    {t_DEEPEST : Tok}
    {t_LETTERS : Tok}
    {t_LONGEST : Tok}
    {t_SIGNS : Tok}
    {a_WORDS0 : Addr} {o_WORDS0 : Option Addr} {n_WORDS0 : Nat} {s_WORDS0 : Array (Option Value)} {u_WORDS0_0 u_WORDS0_1 u_WORDS0_2 : Tok}
    (a1 : PySem.W.nsIn K mainGlobals "is_name" = some (some (.ref f1)))
    (l1 : K.lookup f1 = some ⟨oc1, od1, .func (PySem.W.fnOf "is_name" "is_name" (defArgs s_is_name) (defBody s_is_name) (defScope s_is_name) .none kV1 dc1 pm1 an1 cd1 ct1), sl1⟩)
    (c1 : PySem.W.codeIn K cd1 "is_name" = true) (k1 : PySem.W.keepIn K (.ref f1) = true)
    (a2 : PySem.W.nsIn K mainGlobals "past" = some (some (.ref f2)))
    (l2 : K.lookup f2 = some ⟨oc2, od2, .func (PySem.W.fnOf "past" "past" (defArgs s_past) (defBody s_past) (defScope s_past) .none kV2 dc2 pm2 an2 cd2 ct2), sl2⟩)
    (c2 : PySem.W.codeIn K cd2 "past" = true) (k2 : PySem.W.keepIn K (.ref f2) = true)
    (a3 : PySem.W.nsIn K mainGlobals "name_at" = some (some (.ref f3)))
    (l3 : K.lookup f3 = some ⟨oc3, od3, .func (PySem.W.fnOf "name_at" "name_at" (defArgs s_name_at) (defBody s_name_at) (defScope s_name_at) .none kV3 dc3 pm3 an3 cd3 ct3), sl3⟩)
    (c3 : PySem.W.codeIn K cd3 "name_at" = true) (k3 : PySem.W.keepIn K (.ref f3) = true)
    (a4 : PySem.W.nsIn K mainGlobals "pair_at" = some (some (.ref f4)))
    (l4 : K.lookup f4 = some ⟨oc4, od4, .func (PySem.W.fnOf "pair_at" "pair_at" (defArgs s_pair_at) (defBody s_pair_at) (defScope s_pair_at) .none kV4 dc4 pm4 an4 cd4 ct4), sl4⟩)
    (c4 : PySem.W.codeIn K cd4 "pair_at" = true) (k4 : PySem.W.keepIn K (.ref f4) = true)
    (a5 : PySem.W.nsIn K mainGlobals "one_at" = some (some (.ref f5)))
    (l5 : K.lookup f5 = some ⟨oc5, od5, .func (PySem.W.fnOf "one_at" "one_at" (defArgs s_one_at) (defBody s_one_at) (defScope s_one_at) .none kV5 dc5 pm5 an5 cd5 ct5), sl5⟩)
    (c5 : PySem.W.codeIn K cd5 "one_at" = true) (k5 : PySem.W.keepIn K (.ref f5) = true)
    (a6 : PySem.W.nsIn K mainGlobals "read" = some (some (.ref f6)))
    (l6 : K.lookup f6 = some ⟨oc6, od6, .func (PySem.W.fnOf "read" "read" (defArgs s_read) (defBody s_read) (defScope s_read) .none kV6 dc6 pm6 an6 cd6 ct6), sl6⟩)
    (c6 : PySem.W.codeIn K cd6 "read" = true) (k6 : PySem.W.keepIn K (.ref f6) = true)
    (a7 : PySem.W.nsIn K mainGlobals "_law_cell_at" = some (some (.ref f7)))
    (l7 : K.lookup f7 = some ⟨oc7, od7, .func (PySem.W.fnOf "_law_cell_at" "_law_cell_at" (defArgs s_law_cell_at) (defBody s_law_cell_at) (defScope s_law_cell_at) .none kV7 dc7 pm7 an7 cd7 ct7), sl7⟩)
    (c7 : PySem.W.codeIn K cd7 "_law_cell_at" = true) (k7 : PySem.W.keepIn K (.ref f7) = true)
    (a8 : PySem.W.nsIn K mainGlobals "_law_name_by" = some (some (.ref f8)))
    (l8 : K.lookup f8 = some ⟨oc8, od8, .func (PySem.W.fnOf "_law_name_by" "_law_name_by" (defArgs s_law_name_by) (defBody s_law_name_by) (defScope s_law_name_by) .none kV8 dc8 pm8 an8 cd8 ct8), sl8⟩)
    (c8 : PySem.W.codeIn K cd8 "_law_name_by" = true) (k8 : PySem.W.keepIn K (.ref f8) = true)
    (a9 : PySem.W.nsIn K mainGlobals "_law_joined" = some (some (.ref f9)))
    (l9 : K.lookup f9 = some ⟨oc9, od9, .func (PySem.W.fnOf "_law_joined" "_law_joined" (defArgs s_law_joined) (defBody s_law_joined) (defScope s_law_joined) .none kV9 dc9 pm9 an9 cd9 ct9), sl9⟩)
    (c9 : PySem.W.codeIn K cd9 "_law_joined" = true) (k9 : PySem.W.keepIn K (.ref f9) = true)
    (a10 : PySem.W.nsIn K mainGlobals "_law_step" = some (some (.ref f10)))
    (l10 : K.lookup f10 = some ⟨oc10, od10, .func (PySem.W.fnOf "_law_step" "_law_step" (defArgs s_law_step) (defBody s_law_step) (defScope s_law_step) .none kV10 dc10 pm10 an10 cd10 ct10), sl10⟩)
    (c10 : PySem.W.codeIn K cd10 "_law_step" = true) (k10 : PySem.W.keepIn K (.ref f10) = true)
    (a11 : PySem.W.nsIn K mainGlobals "_law_statement_by" = some (some (.ref f11)))
    (l11 : K.lookup f11 = some ⟨oc11, od11, .func (PySem.W.fnOf "_law_statement_by" "_law_statement_by" (defArgs s_law_statement_by) (defBody s_law_statement_by) (defScope s_law_statement_by) .none kV11 dc11 pm11 an11 cd11 ct11), sl11⟩)
    (c11 : PySem.W.codeIn K cd11 "_law_statement_by" = true) (k11 : PySem.W.keepIn K (.ref f11) = true)
    (a12 : PySem.W.nsIn K mainGlobals "_law_written" = some (some (.ref f12)))
    (l12 : K.lookup f12 = some ⟨oc12, od12, .func (PySem.W.fnOf "_law_written" "_law_written" (defArgs s_law_written) (defBody s_law_written) (defScope s_law_written) .none kV12 dc12 pm12 an12 cd12 ct12), sl12⟩)
    (c12 : PySem.W.codeIn K cd12 "_law_written" = true) (k12 : PySem.W.keepIn K (.ref f12) = true)
    (a13 : PySem.W.nsIn K mainGlobals "_law_read_at" = some (some (.ref f13)))
    (l13 : K.lookup f13 = some ⟨oc13, od13, .func (PySem.W.fnOf "_law_read_at" "_law_read_at" (defArgs s_law_read_at) (defBody s_law_read_at) (defScope s_law_read_at) .none kV13 dc13 pm13 an13 cd13 ct13), sl13⟩)
    (c13 : PySem.W.codeIn K cd13 "_law_read_at" = true) (k13 : PySem.W.keepIn K (.ref f13) = true)
    (a14 : PySem.W.nsIn K mainGlobals "_law_mended" = some (some (.ref f14)))
    (l14 : K.lookup f14 = some ⟨oc14, od14, .func (PySem.W.fnOf "_law_mended" "_law_mended" (defArgs s_law_mended) (defBody s_law_mended) (defScope s_law_mended) .none kV14 dc14 pm14 an14 cd14 ct14), sl14⟩)
    (c14 : PySem.W.codeIn K cd14 "_law_mended" = true) (k14 : PySem.W.keepIn K (.ref f14) = true)
    (a15 : PySem.W.nsIn K mainGlobals "_law_odd" = some (some (.ref f15)))
    (l15 : K.lookup f15 = some ⟨oc15, od15, .func (PySem.W.fnOf "_law_odd" "_law_odd" (defArgs s_law_odd) (defBody s_law_odd) (defScope s_law_odd) .none kV15 dc15 pm15 an15 cd15 ct15), sl15⟩)
    (c15 : PySem.W.codeIn K cd15 "_law_odd" = true) (k15 : PySem.W.keepIn K (.ref f15) = true)
    (a16 : PySem.W.nsIn K mainGlobals "_law_deep" = some (some (.ref f16)))
    (l16 : K.lookup f16 = some ⟨oc16, od16, .func (PySem.W.fnOf "_law_deep" "_law_deep" (defArgs s_law_deep) (defBody s_law_deep) (defScope s_law_deep) .none kV16 dc16 pm16 an16 cd16 ct16), sl16⟩)
    (c16 : PySem.W.codeIn K cd16 "_law_deep" = true) (k16 : PySem.W.keepIn K (.ref f16) = true)
    (a17 : PySem.W.nsIn K mainGlobals "_law_text_by" = some (some (.ref f17)))
    (l17 : K.lookup f17 = some ⟨oc17, od17, .func (PySem.W.fnOf "_law_text_by" "_law_text_by" (defArgs s_law_text_by) (defBody s_law_text_by) (defScope s_law_text_by) .none kV17 dc17 pm17 an17 cd17 ct17), sl17⟩)
    (c17 : PySem.W.codeIn K cd17 "_law_text_by" = true) (k17 : PySem.W.keepIn K (.ref f17) = true)
    (a18 : PySem.W.nsIn K mainGlobals "_law_told" = some (some (.ref f18)))
    (l18 : K.lookup f18 = some ⟨oc18, od18, .func (PySem.W.fnOf "_law_told" "_law_told" (defArgs s_law_told) (defBody s_law_told) (defScope s_law_told) .none kV18 dc18 pm18 an18 cd18 ct18), sl18⟩)
    (c18 : PySem.W.codeIn K cd18 "_law_told" = true) (k18 : PySem.W.keepIn K (.ref f18) = true)
    (a19 : PySem.W.nsIn K mainGlobals "law" = some (some (.ref f19)))
    (l19 : K.lookup f19 = some ⟨oc19, od19, .func (PySem.W.fnOf "law" "law" (defArgs s_law) (defBody s_law) (defScope s_law) .none kV19 dc19 pm19 an19 cd19 ct19), sl19⟩)
    (c19 : PySem.W.codeIn K cd19 "law" = true) (k19 : PySem.W.keepIn K (.ref f19) = true)
    (gU : PySem.W.nsIn K mainGlobals "Unread" = some (some (.ref aU)))
    (gS : PySem.W.nsIn K mainGlobals "ShowError" = some (some (.ref aS)))
    (gT : PySem.W.nsIn K mainGlobals "TooLarge" = some (some (.ref aT)))
    (gN : PySem.W.nsIn K mainGlobals "NoWorld" = some (some (.ref aN)))
    (kU : PySem.W.keepIn K (.ref aU) = true)
    (qU : PySem.W.excIn K aU [.type "ValueError", .type "Exception", .type "BaseException", .type "object"] "ValueError.__new__" = true)
    (exU : PySem.W.subIn K (.ref aU) (.type "BaseException") = some true)
    (tyU : PySem.W.typeIn K (.ref aU) = some (.type "type"))
    (exS : PySem.W.subIn K (.ref aS) (.type "BaseException") = some true)
    (hdS : PySem.W.hasDictIn K aS = true)
    (tyS : PySem.W.typeIn K (.ref aS) = some (.type "type"))
    (sbS : PySem.W.subIn K (.ref aU) (.ref aS) = some true)
    (xg : PySem.W.findIn K (.ref aU) "__getattribute__" = some (some (.builtin "BaseException.__getattribute__")))
    (xk : PySem.W.findIn K (.ref aU) "__getattr__" = some none)
    (xd : PySem.W.hasDictIn K aU = true)
    (xa : PySem.W.findIn K (.ref aU) "__class__" = some (some (.builtin "object.__class__")))
    (xn : PySem.W.specialIn K (.builtin "object.__class__") "__get__" = some (some (.builtin "getset_descriptor.__get__")))
    (xt : PySem.W.takesIn K (.builtin "object.__class__") = some true)
    (xm : PySem.W.mroIn K aU (.type "object") = some true)
    (sT : PySem.W.subIn K (.ref aU) (.ref aT) = some false)
    (dT : PySem.W.hasDictIn K aT = true)
    (yT : PySem.W.typeIn K (.ref aT) = some (.type "type"))
    (sN : PySem.W.subIn K (.ref aU) (.ref aN) = some false)
    (dN : PySem.W.hasDictIn K aN = true)
    (yN : PySem.W.typeIn K (.ref aN) = some (.type "type"))
    (sV : PySem.W.subIn K (.ref aU) (.type "ValueError") = some true)
    (sU : PySem.W.subIn K (.ref aU) (.ref aU) = some true)
    (z_ValueError : PySem.W.nsIn K mainGlobals "ValueError" = some none)
    (z_all : PySem.W.nsIn K mainGlobals "all" = some none)
    (z_isinstance : PySem.W.nsIn K mainGlobals "isinstance" = some none)
    (z_len : PySem.W.nsIn K mainGlobals "len" = some none)
    (z_range : PySem.W.nsIn K mainGlobals "range" = some none)
    (z_str : PySem.W.nsIn K mainGlobals "str" = some none)
    (z_tuple : PySem.W.nsIn K mainGlobals "tuple" = some none)
    (g_DEEPEST : PySem.W.nsIn K mainGlobals "DEEPEST" = some (some (.int 30 t_DEEPEST)))
    (g_LETTERS : PySem.W.nsIn K mainGlobals "LETTERS" = some (some (.str "abcdefghijklmnopqrstuvwxyz" t_LETTERS)))
    (g_LONGEST : PySem.W.nsIn K mainGlobals "LONGEST" = some (some (.int 8 t_LONGEST)))
    (g_SIGNS : PySem.W.nsIn K mainGlobals "SIGNS" = some (some (.str "&|>" t_SIGNS)))
    (g_WORDS : PySem.W.nsIn K mainGlobals "WORDS" = some (some (.ref a_WORDS0)))
    (g_WORDS0 : K.lookup a_WORDS0 = some ⟨.type "tuple", o_WORDS0, .seq #[.str "and" u_WORDS0_0, .str "or" u_WORDS0_1, .str "then" u_WORDS0_2] n_WORDS0, s_WORDS0⟩) : Txt K mg aU where
    d_is_name := defAt_mk X G a1 l1 c1 k1 fun _ _ _ _ _ _ us hl => match us, hl with | [_], _ => rfl
    d_past := defAt_mk X G a2 l2 c2 k2 fun _ _ _ _ _ _ us hl => match us, hl with | [_, _, _], _ => rfl
    d_name_at := defAt_mk X G a3 l3 c3 k3 fun _ _ _ _ _ _ us hl => match us, hl with | [_, _], _ => rfl
    d_pair_at := defAt_mk X G a4 l4 c4 k4 fun _ _ _ _ _ _ us hl => match us, hl with | [_, _, _], _ => rfl
    d_one_at := defAt_mk X G a5 l5 c5 k5 fun _ _ _ _ _ _ us hl => match us, hl with | [_, _, _], _ => rfl
    d_read := defAt_mk X G a6 l6 c6 k6 fun _ _ _ _ _ _ us hl => match us, hl with | [_], _ => rfl
    d_law_cell_at := defAt_mk X G a7 l7 c7 k7 fun _ _ _ _ _ _ us hl => match us, hl with | [_, _], _ => rfl
    d_law_name_by := defAt_mk X G a8 l8 c8 k8 fun _ _ _ _ _ _ us hl => match us, hl with | [_, _], _ => rfl
    d_law_joined := defAt_mk X G a9 l9 c9 k9 fun _ _ _ _ _ _ us hl => match us, hl with | [_, _, _], _ => rfl
    d_law_step := defAt_mk X G a10 l10 c10 k10 fun _ _ _ _ _ _ us hl => match us, hl with | [_, _, _], _ => rfl
    d_law_statement_by := defAt_mk X G a11 l11 c11 k11 fun _ _ _ _ _ _ us hl => match us, hl with | [_, _], _ => rfl
    d_law_written := defAt_mk X G a12 l12 c12 k12 fun _ _ _ _ _ _ us hl => match us, hl with | [_], _ => rfl
    d_law_read_at := defAt_mk X G a13 l13 c13 k13 fun _ _ _ _ _ _ us hl => match us, hl with | [_, _, _], _ => rfl
    d_law_mended := defAt_mk X G a14 l14 c14 k14 fun _ _ _ _ _ _ us hl => match us, hl with | [_, _], _ => rfl
    d_law_odd := defAt_mk X G a15 l15 c15 k15 fun _ _ _ _ _ _ us hl => match us, hl with | [_], _ => rfl
    d_law_deep := defAt_mk X G a16 l16 c16 k16 fun _ _ _ _ _ _ us hl => match us, hl with | [_], _ => rfl
    d_law_text_by := defAt_mk X G a17 l17 c17 k17 fun _ _ _ _ _ _ us hl => match us, hl with | [_], _ => rfl
    d_law_told := defAt_mk X G a18 l18 c18 k18 fun _ _ _ _ _ _ us hl => match us, hl with | [_], _ => rfl
    d_law := defAt_mk X G a19 l19 c19 k19 fun _ _ _ _ _ _ us hl => match us, hl with | [_], _ => rfl
    err_Unread := ⟨PySem.W.mg_of X G gU, kU, qU, exU, tyU⟩
    told := ⟨aS, aT, aN, PySem.W.mg_of X G gS, PySem.W.mg_of X G gT, PySem.W.mg_of X G gN, PySem.W.exm_ref exS hdS tyS sbS, ⟨xg, xk, exU, xd, xa, xn, xt, xm⟩, by unfold PySem.W.kitOne; rw [if_pos (beq_self_eq_true _)], kit_ref sT sU dT yT, kit_ref sN sU dN yN, kit_val sV⟩
    z_ValueError := PySem.W.mg_none_of X G z_ValueError
    z_all := PySem.W.mg_none_of X G z_all
    z_isinstance := PySem.W.mg_none_of X G z_isinstance
    z_len := PySem.W.mg_none_of X G z_len
    z_range := PySem.W.mg_none_of X G z_range
    z_str := PySem.W.mg_none_of X G z_str
    z_tuple := PySem.W.mg_none_of X G z_tuple
    gl_DEEPEST := gl_int X G g_DEEPEST
    gl_LETTERS := gl_str X G g_LETTERS
    gl_LONGEST := gl_int X G g_LONGEST
    gl_SIGNS := gl_str X G g_SIGNS
    gl_WORDS := gl_ref X G g_WORDS (kd_tup g_WORDS0 (kds_cons kd_str (kds_cons kd_str (kds_cons kd_str kds_nil))))
/-- the end: from the plain law -/
theorem walk {l : PySem.W.OpenLaw} {q : Program} {loose : List Str} {XP : (Str → Option Value) → Heap → Prop} {YP : World → Heap → Prop} {d : DefRec} {K : Params → PySem.W.Frag} (hn : l.most = some 63) (hd : d.params.defaults = []) (hd2 : d.name = "law")
    (plain : ∀ ns : List Int, ns.length ≤ 63 → sem_law [.list (ns.map PyData.int)] = .ok (.bool true)) (hY : ∀ (w : World) (h : Heap), YP w h → (K w.params).In h)
    (F : ∀ (w : World) (mg : Str → Option Value) (h : Heap), (K w.params).In h → h.Ns mainGlobals mg → ∃ CU, Txt (K w.params) mg CU) : PySem.W.WalkO q loose XP YP l.row.toRowW d [] (fun f vs => PySem.call f vs) :=
  walk_data (k := 67) (by decide +kernel) (by decide +kernel) (g := sem_law) (st := s_law) hn hd hd2 hY (fun w mg h X G => (F w mg h X G).elim fun _ T => T.d_law) (fun w mg h X G base => (F w mg h X G).elim fun _ T => all_ok T) (fun fd ⟨_, _, _, _, _, _, e⟩ s u => by subst e; exact .of_eq rfl) plain
end My
open PySem PySem.W PyProof.Rows
set_option maxRecDepth 100000 in
set_option maxHeartbeats 0 in
theorem PySem.Challenge.cw_showtree_k04_texts_refused_holds : PySem.Challenge.rw_showtree_k04_texts_refused.Holds := by
  w_on; o_law; k_head; (case hw => w_witness2)
  k_fill
  refine My.walk (l := PySem.Challenge.rw_showtree_k04_texts_refused) rfl rfl rfl My.plain (fun w h Y => PySem.W.kIn_of Y) ?F
  case F =>
    intro w mg h KX G
    refine' ⟨_, My.txt_mk KX G ?a1 ?l1 ?c1 ?k1 ?a2 ?l2 ?c2 ?k2 ?a3 ?l3 ?c3 ?k3 ?a4 ?l4 ?c4 ?k4 ?a5 ?l5 ?c5 ?k5 ?a6 ?l6 ?c6 ?k6 ?a7 ?l7 ?c7 ?k7 ?a8 ?l8 ?c8 ?k8 ?a9 ?l9 ?c9 ?k9 ?a10 ?l10 ?c10 ?k10 ?a11 ?l11 ?c11 ?k11 ?a12 ?l12 ?c12 ?k12 ?a13 ?l13 ?c13 ?k13 ?a14 ?l14 ?c14 ?k14 ?a15 ?l15 ?c15 ?k15 ?a16 ?l16 ?c16 ?k16 ?a17 ?l17 ?c17 ?k17 ?a18 ?l18 ?c18 ?k18 ?a19 ?l19 ?c19 ?k19 ?gU ?gS ?gT ?gN ?kU ?qU ?exU ?tyU ?exS ?hdS ?tyS ?sbS ?xg ?xk ?xd ?xa ?xn ?xt ?xm ?sT ?dT ?yT ?sN ?dN ?yN ?sV ?sU ?z_ValueError ?z_all ?z_isinstance ?z_len ?z_range ?z_str ?z_tuple ?g_DEEPEST ?g_LETTERS ?g_LONGEST ?g_SIGNS ?g_WORDS ?g_WORDS0⟩
    (case a1 => k_is)
    (case l1 => k_is)
    (case c1 => k_is)
    (case k1 => k_is)
    (case a2 => k_is)
    (case l2 => k_is)
    (case c2 => k_is)
    (case k2 => k_is)
    (case a3 => k_is)
    (case l3 => k_is)
    (case c3 => k_is)
    (case k3 => k_is)
    (case a4 => k_is)
    (case l4 => k_is)
    (case c4 => k_is)
    (case k4 => k_is)
    (case a5 => k_is)
    (case l5 => k_is)
    (case c5 => k_is)
    (case k5 => k_is)
    (case a6 => k_is)
    (case l6 => k_is)
    (case c6 => k_is)
    (case k6 => k_is)
    (case a7 => k_is)
    (case l7 => k_is)
    (case c7 => k_is)
    (case k7 => k_is)
    (case a8 => k_is)
    (case l8 => k_is)
    (case c8 => k_is)
    (case k8 => k_is)
    (case a9 => k_is)
    (case l9 => k_is)
    (case c9 => k_is)
    (case k9 => k_is)
    (case a10 => k_is)
    (case l10 => k_is)
    (case c10 => k_is)
    (case k10 => k_is)
    (case a11 => k_is)
    (case l11 => k_is)
    (case c11 => k_is)
    (case k11 => k_is)
    (case a12 => k_is)
    (case l12 => k_is)
    (case c12 => k_is)
    (case k12 => k_is)
    (case a13 => k_is)
    (case l13 => k_is)
    (case c13 => k_is)
    (case k13 => k_is)
    (case a14 => k_is)
    (case l14 => k_is)
    (case c14 => k_is)
    (case k14 => k_is)
    (case a15 => k_is)
    (case l15 => k_is)
    (case c15 => k_is)
    (case k15 => k_is)
    (case a16 => k_is)
    (case l16 => k_is)
    (case c16 => k_is)
    (case k16 => k_is)
    (case a17 => k_is)
    (case l17 => k_is)
    (case c17 => k_is)
    (case k17 => k_is)
    (case a18 => k_is)
    (case l18 => k_is)
    (case c18 => k_is)
    (case k18 => k_is)
    (case a19 => k_is)
    (case l19 => k_is)
    (case c19 => k_is)
    (case k19 => k_is)
    (case gU => k_is)
    (case gS => k_is)
    (case gT => k_is)
    (case gN => k_is)
    (case kU => k_is)
    (case qU => k_exc)
    (case exU => k_is)
    (case tyU => k_is)
    (case exS => k_is)
    (case hdS => k_is)
    (case tyS => k_is)
    (case sbS => k_is)
    (case xg => k_is)
    (case xk => k_is)
    (case xd => k_is)
    (case xa => k_is)
    (case xn => k_is)
    (case xt => k_is)
    (case xm => k_is)
    (case sT => k_is)
    (case dT => k_is)
    (case yT => k_is)
    (case sN => k_is)
    (case dN => k_is)
    (case yN => k_is)
    (case sV => k_is)
    (case sU => first | rfl | k_is)
    (case z_ValueError => k_is)
    (case z_all => k_is)
    (case z_isinstance => k_is)
    (case z_len => k_is)
    (case z_range => k_is)
    (case z_str => k_is)
    (case z_tuple => k_is)
    (case g_DEEPEST => k_is)
    (case g_LETTERS => k_is)
    (case g_LONGEST => k_is)
    (case g_SIGNS => k_is)
    (case g_WORDS => k_is)
    (case g_WORDS0 => k_is)
