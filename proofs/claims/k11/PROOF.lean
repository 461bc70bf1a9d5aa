import PyProof.Rows.All
import Wide.All
import OpenK.AllK
import Wide.FinOn
import HandS.ForMost
import HandS.ForExc
import HandS.Deep
import HandS.IsInst
import HandS.TupAny
import HandS.TupMul
import HandS.TupLe
import HandS.Rev
import HandS.StrMore
import HandS.Replace
import HandS.Strs
import HandS.Iter
import HandS.RevTup
import HandS.WordsExc
import HandS.ExcIs
import KE.DataMinMax
import HandS.NoneIn
import HandS.Dict
import KE.KDictKeyed
import HandS.Conv
import HandS.WordsDict
import HandS.SortInts
import PySem.Challenge.RW_showtree_k11_whole_double_denial
import HandS.More
set_option Elab.async false
set_option linter.all false
set_option maxRecDepth 100000
set_option maxHeartbeats 2000000
/-! THE DATA LAYER: a reading as a plain function over PyData. A def's body is read as a function from the values of its slots (as data) to what it answers. -/
namespace DL
open PySem L2 PyProof.Rows

/-- an equation that simp is not to take for one by unfolding -/
theorem nrfl {α : Sort u} {a b : α} (h : a = b) : a = b := h
/-! ### results -/
inductive Res (α : Type) where
  | ok (a : α) | ex (n : Nat) | bad
namespace Res
variable {α β : Type}
def bind (r : Res α) (f : α → Res β) : Res β := match r with
  | .ok a => f a
  | .ex n => .ex n
  | .bad => .bad
def of (o : Option α) : Res α := match o with
  | some a => .ok a
  | none => .bad
def post (r : Res α) (p : α → Prop) (e : Nat → Prop) : Prop := match r with
  | .ok a => p a
  | .ex n => e n
  | .bad => False
@[simp] theorem ok_bind (a : α) (f : α → Res β) : (Res.ok a).bind f = f a := nrfl rfl
@[simp] theorem ex_bind (n : Nat) (f : α → Res β) : (Res.ex n : Res α).bind f = .ex n := nrfl rfl
@[simp] theorem bad_bind (f : α → Res β) : (Res.bad : Res α).bind f = .bad := nrfl rfl
@[simp] theorem of_some (a : α) : Res.of (some a) = .ok a := nrfl rfl
@[simp] theorem of_none : Res.of (none : Option α) = .bad := nrfl rfl
theorem post_bind {r : Res α} {f : α → Res β} {p : β → Prop} {e : Nat → Prop} : (r.bind f).post p e ↔ r.post (fun a => (f a).post p e) e := by cases r <;> exact Iff.rfl
theorem post.mono {r : Res α} {p q : α → Prop} {e g : Nat → Prop} (h : r.post p e) (h1 : ∀ a, p a → q a) (h2 : ∀ n, e n → g n) : r.post q g := by
  cases r with
  | ok a => exact h1 a h
  | ex n => exact h2 n h
  | bad => exact h.elim
theorem post_of {o : Option α} {p : α → Prop} {e : Nat → Prop} (h : (Res.of o).post p e) : ∃ a, o = some a ∧ p a := by
  cases o with
  | none => exact h.elim
  | some a => exact ⟨a, rfl, h⟩
end Res

abbrev PEnv := List (Option PyData)
abbrev SE := PEnv → Res PyData
abbrev SA := PEnv → Res (List PyData)
abbrev ST := PEnv → Res Bool
inductive Out where
  | nx (ρ : PEnv) | rt (d : PyData) | bk (ρ : PEnv) | ct (ρ : PEnv)
abbrev SS := PEnv → Res Out
abbrev Wis := Nat → Hp → Prop

/-! ### data over a heap -/
/-- a key, a scalar, as data -/
def keyD : Key → PyData
  | .inl i => .int i
  | .inr x => .str x
def scaD : V → Option PyData
  | .non => some .none
  | .bl b => some (.bool b)
  | .int i => some (.int i)
  | .str x => some (.str x)
  | _ => none
def kvD (kvs : List (Key × V)) : List (PyData × PyData) := kvs.map fun p => (keyD p.1, (scaD p.2).getD .none)
mutual
inductive Dp (K : PySem.W.Frag) (H : Hp) : V → PyData → Prop
  | non : Dp K H .non .none
  | bl (b : Bool) : Dp K H (.bl b) (.bool b)
  | int (i : Int) : Dp K H (.int i) (.int i)
  | str (x : Str) : Dp K H (.str x) (.str x)
  | lst {a : Addr} {xs : List V} {ds : List PyData} : SqL K H a xs → DpAll K H xs ds → Dp K H (.ref a) (.list ds)
  | tup {a : Addr} {xs : List V} {ds : List PyData} : SqT K H a xs → DpAll K H xs ds → Dp K H (.ref a) (.tuple ds)
  | dct {a : Addr} {kvs : List (Key × V)} : H a = some (.dK kvs) → (∀ p ∈ kvs, (scaD p.2).isSome = true) → Dp K H (.ref a) (.dict (kvD kvs))
inductive DpAll (K : PySem.W.Frag) (H : Hp) : List V → List PyData → Prop
  | nil : DpAll K H [] []
  | cons {v : V} {vs : List V} {d : PyData} {ds : List PyData} : Dp K H v d → DpAll K H vs ds → DpAll K H (v :: vs) (d :: ds)
end
theorem dp_sca {K : PySem.W.Frag} {H : Hp} {v : V} {d : PyData} (h : scaD v = some d) : Dp K H v d := by
  cases v <;> simp only [scaD, reduceCtorEq, Option.some.injEq] at h <;> subst h
  · exact .non
  · exact .bl _
  · exact .int _
  · exact .str _
section
variable {K : PySem.W.Frag} {H H' : Hp}
theorem sqT_same {a : Addr} {xs : List V} (e : Same H H') (h : SqT K H a xs) : SqT K H' a xs := by
  rcases h with (h | ⟨o, h⟩) | h
  · exact .inl (.inl (e _ _ h))
  · exact .inl (.inr ⟨o, e _ _ h⟩)
  · exact .inr h
mutual
theorem dp_mono (e : Same H H') : ∀ (d : PyData) (v : V), Dp K H v d → Dp K H' v d
  | .none, _, h => by cases h; exact .non
  | .bool b, _, h => by cases h; exact .bl b
  | .int i, _, h => by cases h; exact .int i
  | .str x, _, h => by cases h; exact .str x
  | .list ds, _, h => by
    cases h with
    | lst h1 h2 => exact .lst (e.seq h1) (dps_mono e ds _ h2)
  | .tuple ds, _, h => by
    cases h with
    | tup h1 h2 => exact .tup (sqT_same e h1) (dps_mono e ds _ h2)
  | .dict kvs, _, h => by
    cases h with
    | dct h1 h2 => exact .dct (e _ _ h1) h2
theorem dps_mono (e : Same H H') : ∀ (ds : List PyData) (vs : List V), DpAll K H vs ds → DpAll K H' vs ds
  | [], _, h => by cases h; exact .nil
  | d :: ds, _, h => by
    cases h with
    | cons h1 h2 => exact .cons (dp_mono e d _ h1) (dps_mono e ds _ h2)
end
/-! data without a list -/
mutual
def frz : PyData → Bool
  | .none => true
  | .bool _ => true
  | .int _ => true
  | .str _ => true
  | .list _ => false
  | .tuple ds => frzs ds
  | .dict _ => false
def frzs : List PyData → Bool
  | [] => true
  | d :: ds => frz d && frzs ds
end
mutual
theorem frz_mono (e : ∀ a xs, SqT K H a xs → SqT K H' a xs) : ∀ (d : PyData) (v : V), frz d = true → Dp K H v d → Dp K H' v d
  | .none, _, _, h => by cases h; exact .non
  | .bool b, _, _, h => by cases h; exact .bl b
  | .int i, _, _, h => by cases h; exact .int i
  | .str x, _, _, h => by cases h; exact .str x
  | .list ds, _, z, h => by simp [frz] at z
  | .tuple ds, _, z, h => by
    cases h with
    | tup h1 h2 => exact .tup (e _ _ h1) (frzs_mono e ds _ (by simpa [frz] using z) h2)
  | .dict kvs, _, z, h => by simp [frz] at z
theorem frzs_mono (e : ∀ a xs, SqT K H a xs → SqT K H' a xs) : ∀ (ds : List PyData) (vs : List V), frzs ds = true → DpAll K H vs ds → DpAll K H' vs ds
  | [], _, _, h => by cases h; exact .nil
  | d :: ds, _, z, h => by
    simp only [frzs, Bool.and_eq_true] at z
    cases h with
    | cons h1 h2 => exact .cons (frz_mono e d _ z.1 h1) (frzs_mono e ds _ z.2 h2)
end
mutual
theorem dp_l2 : ∀ (d : PyData) (v : V), d.canLay0 = true → Dp K H v d → L2.Dp K H v d
  | .none, _, _, h => by cases h; exact .non
  | .bool b, _, _, h => by cases h; exact .bl b
  | .int i, _, _, h => by cases h; exact .int i
  | .str x, _, _, h => by cases h; exact .str x
  | .list ds, _, z, h => by
    cases h with
    | lst h1 h2 => exact .lst h1 (dps_l2 ds _ (by simpa [PyData.canLay0] using z) h2)
  | .tuple ds, _, z, h => by
    cases h with
    | tup h1 h2 => exact .tup h1 (dps_l2 ds _ (by simpa [PyData.canLay0] using z) h2)
  | .dict kvs, _, z, h => by simp [PyData.canLay0] at z
theorem dps_l2 : ∀ (ds : List PyData) (vs : List V), PyData.canLayAll0 ds = true → DpAll K H vs ds → L2.DpAll K H vs ds
  | [], _, _, h => by cases h; exact .nil
  | d :: ds, _, z, h => by
    simp only [PyData.canLayAll0, Bool.and_eq_true] at z
    cases h with
    | cons h1 h2 => exact .cons (dp_l2 d _ z.1 h1) (dps_l2 ds _ z.2 h2)
end
theorem dp_sh {d : PyData} {v : V} (z : SeqAt.shaped d = true) (h : Dp K H v d) : L2.Dp K H v d := dp_l2 d v (SeqAt.canLay_of_shaped z) h
/-- a list that H tracks is changed: the tuples stand -/
theorem sqT_lst {l : Addr} {ys zs : List V} (h : H l = some (.lst ys)) : ∀ a xs, SqT K H a xs → SqT K (upd H l (.lst zs)) a xs := fun a xs q => by
  rcases q with (q | ⟨o, q⟩) | q
  · exact .inl (.inl (by rw [upd_ne (ne_of q h (by intro z; cases z))]; exact q))
  · exact .inl (.inr ⟨o, by rw [upd_ne (ne_of q h (by intro z; cases z))]; exact q⟩)
  · exact .inr q
theorem dps_len : ∀ {vs : List V} {ds : List PyData}, DpAll K H vs ds → vs.length = ds.length
  | _, _, .nil => rfl
  | _, _, .cons _ h => congrArg (· + 1) (dps_len h)
theorem dps_get : ∀ {vs : List V} {ds : List PyData} {i : Nat} {d : PyData}, DpAll K H vs ds → ds[i]? = some d → ∃ v, vs[i]? = some v ∧ Dp K H v d
  | _, _, _, _, .nil, e => by simp at e
  | _, _, 0, _, .cons h _, e => by simp at e; subst e; exact ⟨_, rfl, h⟩
  | _, _, i + 1, d, .cons _ h, e => by
    obtain ⟨v, h1, h2⟩ := dps_get (i := i) (d := d) h (by simpa using e)
    exact ⟨v, by simpa using h1, h2⟩
theorem dps_getv : ∀ {vs : List V} {ds : List PyData} {i : Nat} {v : V}, DpAll K H vs ds → vs[i]? = some v → ∃ d, ds[i]? = some d ∧ Dp K H v d
  | _, _, _, _, .nil, e => by simp at e
  | _, _, 0, _, .cons h _, e => by simp at e; subst e; exact ⟨_, rfl, h⟩
  | _, _, i + 1, d, .cons _ h, e => by
    obtain ⟨v, h1, h2⟩ := dps_getv (i := i) (v := d) h (by simpa using e)
    exact ⟨v, by simpa using h1, h2⟩
theorem dps_append : ∀ {vs us : List V} {ds es : List PyData}, DpAll K H vs ds → DpAll K H us es → DpAll K H (vs ++ us) (ds ++ es)
  | _, _, _, _, .nil, h => h
  | _, _, _, _, .cons h t, s => .cons h (dps_append t s)
theorem dps_take : ∀ {vs : List V} {ds : List PyData} (n : Nat), DpAll K H vs ds → DpAll K H (vs.take n) (ds.take n)
  | _, _, 0, _ => .nil
  | _, _, _ + 1, .nil => .nil
  | _, _, n + 1, .cons h t => .cons h (dps_take n t)
theorem dps_drop : ∀ {vs : List V} {ds : List PyData} (n : Nat), DpAll K H vs ds → DpAll K H (vs.drop n) (ds.drop n)
  | _, _, 0, h => h
  | _, _, _ + 1, .nil => .nil
  | _, _, n + 1, .cons _ t => dps_drop n t
theorem dps_set : ∀ {vs : List V} {ds : List PyData} {v : V} {d : PyData} (i : Nat), Dp K H v d → DpAll K H vs ds → DpAll K H (vs.set i v) (ds.set i d)
  | _, _, _, _, _, _, .nil => .nil
  | _, _, _, _, 0, h, .cons _ t => .cons h t
  | _, _, _, _, i + 1, h, .cons q t => .cons q (dps_set i h t)
theorem dps_ints : ∀ (ns : List Int), DpAll K H (ns.map V.int) (ns.map PyData.int)
  | [] => .nil
  | n :: ns => .cons (.int n) (dps_ints ns)
theorem dps_strs_of : ∀ {vs : List V} {xs : List Str}, DpAll K H vs (xs.map PyData.str) → vs = xs.map V.str
  | [], [], _ => rfl
  | _ :: _, [], h => by cases h
  | [], _ :: _, h => by cases h
  | v :: vs, x :: xs, h => by
    cases h with
    | cons h1 h2 =>
      cases h1
      rw [dps_strs_of h2]
      rfl
theorem dps_strs : ∀ (xs : List Str), DpAll K H (xs.map V.str) (xs.map PyData.str)
  | [] => .nil
  | n :: ns => .cons (.str n) (dps_strs ns)
theorem dps_bls_of : ∀ {vs : List V} {xs : List Bool}, DpAll K H vs (xs.map PyData.bool) → vs = xs.map V.bl
  | [], [], _ => rfl
  | _ :: _, [], h => by cases h
  | [], _ :: _, h => by cases h
  | v :: vs, x :: xs, h => by
    cases h with
    | cons h1 h2 =>
      cases h1
      rw [dps_bls_of h2]
      rfl
end
theorem same_new {H : Hp} {p : Addr} (h : H p = none) (o : HO) : Same H (upd H p o) := fun b u q => by rw [upd_ne (ne_of_none q h)]; exact q

/-! ### the values of the slots -/
def EnvR (K : PySem.W.Frag) (H : Hp) (σ : L2.St) (ρ : PEnv) : Prop := ρ.length = σ.length ∧ ∀ (i : Nat) (d : PyData), ρ[i]? = some (some d) → ∃ v, σ[i]? = some (some v) ∧ Dp K H v d
section
variable {K : PySem.W.Frag} {H H' : Hp} {σ : L2.St} {ρ : PEnv}
theorem EnvR.mono (e : Same H H') (h : EnvR K H σ ρ) : EnvR K H' σ ρ := ⟨h.1, fun i d q => by
  obtain ⟨v, a, b⟩ := h.2 i d q
  exact ⟨v, a, dp_mono e d v b⟩⟩
theorem EnvR.set {i : Nat} {v : V} {d : PyData} (h : EnvR K H σ ρ) (hv : Dp K H v d) : EnvR K H (σ.set i (some v)) (ρ.set i (some d)) := by
  refine ⟨by rw [List.length_set, List.length_set]; exact h.1, fun j e q => ?_⟩
  by_cases hj : i = j
  · subst hj
    have hl : i < ρ.length := by
      have z := (List.getElem?_eq_some_iff.mp q).1
      rw [List.length_set] at z
      exact z
    rw [List.getElem?_set_self hl] at q
    cases q
    exact ⟨v, List.getElem?_set_self (by rw [← h.1]; exact hl), hv⟩
  · rw [List.getElem?_set_ne hj] at q
    obtain ⟨u, a, b⟩ := h.2 j e q
    exact ⟨u, by rw [List.getElem?_set_ne hj]; exact a, b⟩
theorem EnvR.forget {i : Nat} (h : EnvR K H σ ρ) : EnvR K H (σ.set i none) (ρ.set i none) := by
  refine ⟨by rw [List.length_set, List.length_set]; exact h.1, fun j e q => ?_⟩
  by_cases hj : i = j
  · subst hj
    have hl : i < ρ.length := by
      have z := (List.getElem?_eq_some_iff.mp q).1
      rw [List.length_set] at z
      exact z
    rw [List.getElem?_set_self hl] at q
    cases q
  · rw [List.getElem?_set_ne hj] at q
    obtain ⟨u, a, b⟩ := h.2 j e q
    exact ⟨u, by rw [List.getElem?_set_ne hj]; exact a, b⟩
end
def startD (n : Nat) (ds : List PyData) : PEnv := ds.map some ++ List.replicate (n - ds.length) none
theorem envR_start {K : PySem.W.Frag} {H : Hp} {N : List Str} {vs : List V} {ds : List PyData} (h : DpAll K H vs ds) : EnvR K H (L2.start N vs) (startD N.length ds) := by
  have hl := dps_len h
  refine ⟨by simp [startD, L2.start, hl], fun i d q => ?_⟩
  unfold startD at q
  by_cases hi : i < ds.length
  · rw [List.getElem?_append_left (by simpa using hi), List.getElem?_map] at q
    cases e : ds[i]? with
    | none => rw [e] at q; cases q
    | some d' =>
      rw [e] at q
      cases q
      obtain ⟨v, a, b⟩ := dps_get h e
      refine ⟨v, ?_, b⟩
      unfold L2.start
      rw [List.getElem?_append_left (by simpa [hl] using hi), List.getElem?_map, a]
      rfl
  · rw [List.getElem?_append_right (by simpa using hi)] at q
    have z := List.mem_of_getElem? q
    have z2 := (List.mem_replicate.mp z).2
    cases z2

/-! ### readings -/
/-- at every later heap -/
abbrev fut (H : Hp) (p : Hp → Prop) : Prop := ∀ H', Same H H' → p H'
theorem fut.on {H H1 : Hp} {p : Hp → Prop} (h : fut H p) (s : Same H H1) : fut H1 p := fun H' s' => h H' (s.trans s')
def tD (K : PySem.W.Frag) (W : Wis) (f : SE) : TE := fun σ H Q => ∃ ρ, EnvR K H σ ρ ∧ (f ρ).post (fun d => fut H fun H' => ∀ v, Dp K H' v d → Q v H') fun n => fut H (W n)
def ttD (K : PySem.W.Frag) (W : Wis) (f : ST) : TT := fun σ H Q => ∃ ρ, EnvR K H σ ρ ∧ (f ρ).post (fun b => fut H fun H' => Q b H') fun n => fut H (W n)
def taD (K : PySem.W.Frag) (W : Wis) (f : SA) : TA := fun σ H Q => ∃ ρ, EnvR K H σ ρ ∧ (f ρ).post (fun ds => fut H fun H' => ∀ vs, DpAll K H' vs ds → Q vs H') fun n => fut H (W n)
def outP (K : PySem.W.Frag) (D : Ends) : Out → Hp → Prop
  | .nx ρ', H' => ∀ σ', EnvR K H' σ' ρ' → D.nx σ' H'
  | .rt d, H' => ∀ v, Dp K H' v d → D.rt v H'
  | .bk ρ', H' => ∀ σ', EnvR K H' σ' ρ' → D.bk σ' H'
  | .ct ρ', H' => ∀ σ', EnvR K H' σ' ρ' → D.ct σ' H'
def tsD (K : PySem.W.Frag) (W : Wis) (F : SS) : TS := fun D σ H => ∃ ρ, EnvR K H σ ρ ∧ (F ρ).post (fun o => fut H (outP K D o)) fun n => fut H (W n)

theorem pe_weak {X : Cx} {e : Expr} {t t' : TE} (h : PE X e t) (w : ∀ σ H Q, t' σ H Q → t σ H Q) : PE X e t' := ⟨fun pins s σ H Q I q => h.run pins s σ H Q I (w σ H Q q)⟩
theorem pt_weak {X : Cx} {e : Expr} {t t' : TT} (h : PT X e t) (w : ∀ σ H Q, t' σ H Q → t σ H Q) : PT X e t' := ⟨fun pins s σ H Q I q => h.run pins s σ H Q I (w σ H Q q)⟩
theorem pw_weak {X : Cx} {e : Expr} {t t' : TT} (h : PW X e t) (w : ∀ σ H Q, t' σ H Q → t σ H Q) : PW X e t' := ⟨fun wh pins s σ H Q I q => h.run wh pins s σ H Q I (w σ H Q q)⟩
theorem pa_weak {X : Cx} {es : List Expr} {t t' : TA} (h : PA X es t) (w : ∀ σ H Q, t' σ H Q → t σ H Q) : PA X es t' := ⟨fun pos pins s σ H Q I q => h.run pos pins s σ H Q I (w σ H Q q)⟩
theorem ps_weak {X : Cx} {st : Stmt} {t t' : TS} (h : PS X st t) (w : ∀ D σ H, t' D σ H → t D σ H) : PS X st t' := ⟨fun pins s σ H D I q => h.run pins s σ H D I (w D σ H q)⟩
theorem pss_weak {X : Cx} {st : List Stmt} {t t' : TS} (h : PSs X st t) (w : ∀ D σ H, t' D σ H → t D σ H) : PSs X st t' := ⟨fun pins s σ H D I q => h.run pins s σ H D I (w D σ H q)⟩

section
variable {K : PySem.W.Frag} {W : Wis} {σ : L2.St} {H : Hp} {ρ : PEnv} {β : Type} {p : β → Hp → Prop}
/-- what a part's reading asks, where more follows -/
theorem tD_then {f : SE} {g : PyData → Res β} (hE : EnvR K H σ ρ) (h : ((f ρ).bind g).post (fun b => fut H (p b)) fun n => fut H (W n)) :
    tD K W f σ H fun v H1 => ∃ d, Dp K H1 v d ∧ Same H H1 ∧ EnvR K H1 σ ρ ∧ (g d).post (fun b => fut H1 (p b)) fun n => fut H1 (W n) :=
  ⟨ρ, hE, (Res.post_bind.mp h).mono (fun d q H1 s v dv => ⟨d, dv, s, hE.mono s, q.mono (fun b r => r.on s) fun n r => r.on s⟩) fun n r => r⟩
theorem ttD_then {f : ST} {g : Bool → Res β} (hE : EnvR K H σ ρ) (h : ((f ρ).bind g).post (fun b => fut H (p b)) fun n => fut H (W n)) :
    ttD K W f σ H fun c H1 => Same H H1 ∧ EnvR K H1 σ ρ ∧ (g c).post (fun b => fut H1 (p b)) fun n => fut H1 (W n) :=
  ⟨ρ, hE, (Res.post_bind.mp h).mono (fun d q H1 s => ⟨s, hE.mono s, q.mono (fun b r => r.on s) fun n r => r.on s⟩) fun n r => r⟩
theorem taD_then {f : SA} {g : List PyData → Res β} (hE : EnvR K H σ ρ) (h : ((f ρ).bind g).post (fun b => fut H (p b)) fun n => fut H (W n)) :
    taD K W f σ H fun vs H1 => ∃ ds, DpAll K H1 vs ds ∧ Same H H1 ∧ EnvR K H1 σ ρ ∧ (g ds).post (fun b => fut H1 (p b)) fun n => fut H1 (W n) :=
  ⟨ρ, hE, (Res.post_bind.mp h).mono (fun d q H1 s v dv => ⟨d, dv, s, hE.mono s, q.mono (fun b r => r.on s) fun n r => r.on s⟩) fun n r => r⟩
theorem ttD_mono {f : ST} {Q Q' : Bool → Hp → Prop} (h : ttD K W f σ H Q) (w : ∀ v H', Q v H' → Q' v H') : ttD K W f σ H Q' := by
  obtain ⟨ρ, hE, q⟩ := h
  exact ⟨ρ, hE, q.mono (fun d r H' s => w _ _ (r H' s)) fun n r => r⟩
theorem taD_mono {f : SA} {Q Q' : List V → Hp → Prop} (h : taD K W f σ H Q) (w : ∀ v H', Q v H' → Q' v H') : taD K W f σ H Q' := by
  obtain ⟨ρ, hE, q⟩ := h
  exact ⟨ρ, hE, q.mono (fun d r H' s v dv => w _ _ (r H' s v dv)) fun n r => r⟩
/-- a reading's wish may be weakened -/
theorem tD_mono {f : SE} {Q Q' : VK} (h : tD K W f σ H Q) (w : ∀ v H', Q v H' → Q' v H') : tD K W f σ H Q' := by
  obtain ⟨ρ, hE, q⟩ := h
  exact ⟨ρ, hE, q.mono (fun d r H' s v dv => w _ _ (r H' s v dv)) fun n r => r⟩
end
end DL

set_option Elab.async false
set_option linter.all false
set_option maxRecDepth 100000
set_option maxHeartbeats 2000000
namespace DL
open PySem L2 PyProof.Rows

/-! ### operations on data -/
/-- the greatest length that is asked anywhere -/
def big : Nat := 1000000
theorem big_line : big ≤ sizeLine := by rw [sizeLine_eq]; decide
def addD : PyData → PyData → Option PyData
  | .int i, .int j => some (.int (i + j))
  | .str a, .str b => if a.length + b.length ≤ big then some (.str (a ++ b)) else none
  | .list a, .list b => if a.length + b.length ≤ big then some (.list (a ++ b)) else none
  | .tuple a, .tuple b => if a.length + b.length ≤ big then some (.tuple (a ++ b)) else none
  | _, _ => none
def subD : PyData → PyData → Option PyData
  | .int i, .int j => some (.int (i - j))
  | _, _ => none
def small64 (i : Int) : Bool := decide (i.natAbs < 18446744073709551616)
def mulD : PyData → PyData → Option PyData
  | .int i, .int j => if small64 i || small64 j then some (.int (i * j)) else none
  | _, _ => none
def divD : PyData → PyData → Option PyData
  | .int i, .int j => if 0 < j ∧ j < 1073741824 then some (.int (i / j)) else none
  | _, _ => none
def modD : PyData → PyData → Option PyData
  | .int i, .int j => if 0 < j then some (.int (i % j)) else none
  | _, _ => none
def powD : PyData → PyData → Option PyData
  | .int i, .int j => if 0 ≤ j ∧ j ≤ 1000000 ∧ i.natAbs < 2 ^ 64 then some (.int (i ^ j.toNat)) else none
  | _, _ => none
def eqD : PyData → PyData → Option PyData
  | .int i, .int j => some (.bool (i == j))
  | .str i, .str j => some (.bool (i == j))
  | d, e => if SeqAt.shaped d && SeqAt.shaped e then some (.bool (PyData.eqv d e)) else none
def neD (d e : PyData) : Option PyData := match eqD d e with
  | some (.bool b) => some (.bool (!b))
  | _ => none
def ltD : PyData → PyData → Option PyData
  | .int i, .int j => some (.bool (decide (i < j)))
  | .str i, .str j => some (.bool (decide (i.cps.toList < j.cps.toList)))
  | _, _ => none
def leD : PyData → PyData → Option PyData
  | .int i, .int j => some (.bool (decide (i ≤ j)))
  | _, _ => none
def gtD : PyData → PyData → Option PyData
  | .int i, .int j => some (.bool (decide (j < i)))
  | _, _ => none
def geD : PyData → PyData → Option PyData
  | .int i, .int j => some (.bool (decide (j ≤ i)))
  | _, _ => none
def inD : PyData → PyData → Option PyData
  | d, .list ds => if SeqAt.shaped d && SeqAt.shaped (.list ds) then some (.bool (ds.any fun z => PyData.eqv z d)) else none
  | d, .tuple ds => if SeqAt.shaped d && SeqAt.shaped (.tuple ds) then some (.bool (ds.any fun z => PyData.eqv z d)) else none
  | .str c, .str z => if c.length = 1 then some (.bool (decide (c.cps.toList.headD 0 ∈ z.cps.toList))) else none
  | _, _ => none
def notInD (d e : PyData) : Option PyData := match inD d e with
  | some (.bool b) => some (.bool (!b))
  | _ => none
def isNon : PyData → Bool
  | .none => true
  | _ => false
/-- is None, is True, is False -/
def isD : PyData → PyData → Option PyData
  | d, .none => some (.bool (isNon d))
  | .bool a, .bool b => some (.bool (a == b))
  | _, _ => none
def isNotD (d e : PyData) : Option PyData := match isD d e with
  | some (.bool b) => some (.bool (!b))
  | _ => none

/-- a two-place operation, by data -/
def rD (K : PySem.W.Frag) (g : PyData → PyData → Option PyData) : R2 := fun x y H Q => ∃ d e r, Dp K H x d ∧ Dp K H y e ∧ g d e = some r ∧ fut H fun H' => ∀ v, Dp K H' v r → Q v H'
section
variable {X : Cx}
theorem opR_flat {f : Value → Value → Sem Value} {g : PyData → PyData → Option PyData} (h : ∀ (pins : List (Addr × Obj)) (s : Shared) (σ : L2.St) (H : Hp) (x y : V) (v u : Value) (Q : VK) (d e r : PyData), Inv X pins σ H s → RelV x v → RelV y u →
    Dp X.K H x d → Dp X.K H y e → g d e = some r → (fut H fun H' => ∀ v, Dp X.K H' v r → Q v H') → wpAny (model X.prog X.w) X.A (f v u) (EP X pins σ Q) X.xe s) : OpR X f (rD X.K g) := by
  intro pins s σ H x y v u Q I rx ry ⟨d, e, r, hd, he, hg, q⟩
  exact h pins s σ H x y v u Q d e r I rx ry hd he hg q
theorem fut.now {H : Hp} {p : Hp → Prop} (h : fut H p) : p H := h H (Same.refl H)

theorem od_add : OpR X (binaryOp .Add) (rD X.K addD) := opR_flat fun pins s σ H x y v u Q d e r I rx ry hd he hg q => by
  cases d <;> cases e <;> simp only [addD, reduceCtorEq] at hg
  case int.int i j =>
    cases hg; cases hd; cases he
    exact op_add pins s σ H _ _ v u Q I rx ry ⟨i, j, rfl, rfl, q.now _ (.int _)⟩
  case str.str a b =>
    split at hg <;> cases hg
    cases hd; cases he
    exact op_add_str pins s σ H _ _ v u Q I rx ry ⟨a, b, rfl, rfl, Nat.le_trans (by assumption) big_line, q.now _ (.str _)⟩
  case tuple.tuple a b =>
    split at hg <;> cases hg
    rename_i hz
    cases hd with
    | tup h1 h2 =>
      cases he with
      | tup h3 h4 =>
        refine op_catA pins s σ H _ _ v u Q I rx ry ⟨_, _, _, _, rfl, rfl, h1, h3, by rw [dps_len h2, dps_len h4]; exact Nat.le_trans hz big_line, fun e => ?_, fun _ e => ?_, fun _ _ p hp => ?_⟩
        · subst e
          cases h2
          exact q.now _ (.tup h3 h4)
        · subst e
          cases h4
          rw [List.append_nil] at q
          exact q.now _ (.tup h1 h2)
        · exact q _ (same_new hp _) _ (.tup (SqT.of upd_same) (dps_mono (same_new hp _) _ _ (dps_append h2 h4)))
  case list.list a b =>
    split at hg <;> cases hg
    rename_i hz
    cases hd with
    | lst h1 h2 =>
      cases he with
      | lst h3 h4 =>
        cases rx
        cases ry
        obtain ⟨its, r1, ⟨⟨cls, dd, data, sl⟩, n, e1, hc, hdn, hdt⟩, z1⟩ := I.list h1
        obtain ⟨its2, r2, ⟨⟨cls2, dd2, data2, sl2⟩, n2, e2, hc2, hdn2, hdt2⟩, z2⟩ := I.list h3
        simp only at hc hdt hc2 hdt2 hdn hdn2
        subst hc hdt hc2 hdt2 hdn hdn2
        have hl1 := r1.length
        have hl2 := r2.length
        have hb := big_line
        have hd1 := dps_len h2
        have hd2 := dps_len h4
        have ea : its.toArray ++ its2.toArray = (its ++ its2).toArray := by simp
        refine concat_meets ⟨_, e1, rfl⟩ ⟨_, e2, rfl⟩ noFill_list_add seq_list_add PySem.F.slot_list_add PySem.F.entry_list_add (PySem.F.args_list_add_2 _ _)
          (list_addW _ _ its.toArray its2.toArray n n2 none none sl sl2 (by rw [List.size_toArray, List.size_toArray]; omega)) ⟨e1, e2, ?_⟩
        rw [ea]
        refine ⟨.ref _, _, I.lnew (t' := s.toks) (r1.append r2) (by rw [List.length_append]; omega), rfl, ?_⟩
        exact q _ (same_new I.fresh _) _ (.lst (SqL.of upd_same) (dps_mono (same_new I.fresh _) _ _ (dps_append h2 h4)))
theorem od_sub : OpR X (binaryOp .Sub) (rD X.K subD) := opR_flat fun pins s σ H x y v u Q d e r I rx ry hd he hg q => by
  cases d <;> cases e <;> simp only [subD, reduceCtorEq] at hg
  case int.int i j =>
    cases hg; cases hd; cases he
    exact op_sub pins s σ H _ _ v u Q I rx ry ⟨i, j, rfl, rfl, q.now _ (.int _)⟩
theorem od_mul : OpR X (binaryOp .Mult) (rD X.K mulD) := opR_flat fun pins s σ H x y v u Q d e r I rx ry hd he hg q => by
  cases d <;> cases e <;> simp only [mulD, reduceCtorEq] at hg
  case int.int i j =>
    split at hg <;> cases hg
    rename_i hz
    cases hd; cases he
    refine op_mul pins s σ H _ _ v u Q I rx ry ⟨i, j, rfl, rfl, ?_, q.now _ (.int _)⟩
    simp only [small64, Bool.or_eq_true, decide_eq_true_eq] at hz
    rcases hz with hz | hz
    · exact .inl (by omega)
    · exact .inr (by omega)
theorem od_div : OpR X (binaryOp .FloorDiv) (rD X.K divD) := opR_flat fun pins s σ H x y v u Q d e r I rx ry hd he hg q => by
  cases d <;> cases e <;> simp only [divD, reduceCtorEq] at hg
  case int.int i j =>
    split at hg <;> cases hg
    rename_i hz
    cases hd; cases he
    exact op_fdiv pins s σ H _ _ v u Q I rx ry ⟨i, j, rfl, rfl, hz, q.now _ (.int _)⟩
theorem od_mod : OpR X (binaryOp .Mod) (rD X.K modD) := opR_flat fun pins s σ H x y v u Q d e r I rx ry hd he hg q => by
  cases d <;> cases e <;> simp only [modD, reduceCtorEq] at hg
  case int.int i j =>
    split at hg <;> cases hg
    rename_i hz
    cases hd; cases he
    exact op_mod pins s σ H _ _ v u Q I rx ry ⟨i, j, rfl, rfl, hz, q.now _ (.int _)⟩
theorem od_pow : OpR X (binaryOp .Pow) (rD X.K powD) := opR_flat fun pins s σ H x y v u Q d e r I rx ry hd he hg q => by
  cases d <;> cases e <;> simp only [powD, reduceCtorEq] at hg
  case int.int i j =>
    split at hg <;> cases hg
    rename_i hz
    cases hd; cases he
    exact op_pow pins s σ H _ _ v u Q I rx ry ⟨i, j, rfl, rfl, hz, q.now _ (.int _)⟩
theorem od_eq (hu : X.A.units + 64 < cLine) : OpR X (compareOp .Eq) (rD X.K eqD) := opR_flat fun pins s σ H x y v u Q d e r I rx ry hd he hg q => by
  have gen : (if SeqAt.shaped d && SeqAt.shaped e then some (PyData.bool (PyData.eqv d e)) else none) = some r → wpAny (model X.prog X.w) X.A (compareOp .Eq v u) (EP X pins σ Q) X.xe s := fun hg => by
    split at hg <;> cases hg
    rename_i hz
    rw [Bool.and_eq_true] at hz
    exact op_eqD hu pins s σ H _ _ v u Q I rx ry ⟨d, e, dp_sh hz.1 hd, dp_sh hz.2 he, hz.1, hz.2, q.now _ (.bl _)⟩
  cases d <;> cases e <;> first | exact gen hg | skip
  case str.str i j =>
    simp only [eqD] at hg
    cases hg; cases hd; cases he
    exact op_eq pins s σ H _ _ v u Q I rx ry ⟨rfl, by rw [dec_str]; exact q.now _ (.bl _)⟩
theorem od_ne (hu : X.A.units + 64 < cLine) : OpR X (compareOp .NotEq) (rD X.K neD) := opR_flat fun pins s σ H x y v u Q d e r I rx ry hd he hg q => by
  have gen : neD d e = (match (if SeqAt.shaped d && SeqAt.shaped e then some (PyData.bool (PyData.eqv d e)) else none) with | some (.bool b) => some (.bool (!b)) | _ => none) → wpAny (model X.prog X.w) X.A (compareOp .NotEq v u) (EP X pins σ Q) X.xe s := fun hh => by
    rw [hh] at hg
    split at hg
    · rename_i b hb
      cases hg
      split at hb <;> cases hb
      rename_i hz
      rw [Bool.and_eq_true] at hz
      exact op_neD hu pins s σ H _ _ v u Q I rx ry ⟨d, e, dp_sh hz.1 hd, dp_sh hz.2 he, hz.1, hz.2, q.now _ (.bl _)⟩
    · cases hg
  cases d <;> cases e <;> first | exact gen rfl | skip
  case str.str i j =>
    simp only [neD, eqD] at hg
    cases hg; cases hd; cases he
    exact op_ne pins s σ H _ _ v u Q I rx ry ⟨rfl, by rw [dec_str]; exact q.now _ (.bl _)⟩
theorem od_lt : OpR X (compareOp .Lt) (rD X.K ltD) := opR_flat fun pins s σ H x y v u Q d e r I rx ry hd he hg q => by
  cases d <;> cases e <;> simp only [ltD, reduceCtorEq] at hg
  case int.int i j =>
    cases hg; cases hd; cases he
    exact op_lt pins s σ H _ _ v u Q I rx ry ⟨i, j, rfl, rfl, q.now _ (.bl _)⟩
  case str.str i j =>
    cases hg; cases hd; cases he
    exact op_lt_str pins s σ H _ _ v u Q I rx ry ⟨i, j, rfl, rfl, q.now _ (.bl _)⟩
theorem od_le : OpR X (compareOp .LtE) (rD X.K leD) := opR_flat fun pins s σ H x y v u Q d e r I rx ry hd he hg q => by
  cases d <;> cases e <;> simp only [leD, reduceCtorEq] at hg
  case int.int i j =>
    cases hg; cases hd; cases he
    exact op_le pins s σ H _ _ v u Q I rx ry ⟨i, j, rfl, rfl, q.now _ (.bl _)⟩
theorem od_gt : OpR X (compareOp .Gt) (rD X.K gtD) := opR_flat fun pins s σ H x y v u Q d e r I rx ry hd he hg q => by
  cases d <;> cases e <;> simp only [gtD, reduceCtorEq] at hg
  case int.int i j =>
    cases hg; cases hd; cases he
    exact op_gt pins s σ H _ _ v u Q I rx ry ⟨i, j, rfl, rfl, q.now _ (.bl _)⟩
theorem od_ge : OpR X (compareOp .GtE) (rD X.K geD) := opR_flat fun pins s σ H x y v u Q d e r I rx ry hd he hg q => by
  cases d <;> cases e <;> simp only [geD, reduceCtorEq] at hg
  case int.int i j =>
    cases hg; cases hd; cases he
    exact op_ge pins s σ H _ _ v u Q I rx ry ⟨i, j, rfl, rfl, q.now _ (.bl _)⟩
theorem in_core (hu : X.A.units + 65 < cLine) (neg : Bool) {pins : List (Addr × Obj)} {s : Shared} {σ : L2.St} {H : Hp} {x y : V} {v u : Value} {Q : VK} {d e : PyData} {b : Bool} (I : Inv X pins σ H s) (rx : RelV x v) (ry : RelV y u)
    (hd : Dp X.K H x d) (he : Dp X.K H y e) (hg : inD d e = some (.bool b)) (q : Q (.bl (if neg then !b else b)) H) : wpAny (model X.prog X.w) X.A (compareOp (if neg then .NotIn else .In) v u) (EP X pins σ Q) X.xe s := by
  unfold inD at hg
  split at hg
  · split at hg <;> cases hg
    rename_i hz
    rw [Bool.and_eq_true] at hz
    cases neg
    · exact op_inD hu pins s σ H _ _ v u Q I rx ry ⟨_, _, dp_sh hz.1 hd, dp_sh hz.2 he, hz.1, hz.2, q⟩
    · exact op_notInD hu pins s σ H _ _ v u Q I rx ry ⟨_, _, dp_sh hz.1 hd, dp_sh hz.2 he, hz.1, hz.2, q⟩
  · split at hg <;> cases hg
    rename_i hz
    rw [Bool.and_eq_true] at hz
    obtain ⟨as, r1⟩ := L2.Dp.reads I _ x v (dp_sh hz.1 hd) rx
    obtain ⟨bs, r2⟩ := L2.Dp.reads I _ y u (dp_sh hz.2 he) ry
    cases neg
    · exact SeqAt.in_tuple_reads r2 r1 (SeqAt.canLay_of_shaped hz.2) (SeqAt.canLay_of_shaped hz.1) (room_in_shaped hz.1 hu) ⟨.bl _, H, I, rfl, q⟩
    · exact SeqAt.notIn_tuple_reads r2 r1 (SeqAt.canLay_of_shaped hz.2) (SeqAt.canLay_of_shaped hz.1) (room_in_shaped hz.1 hu) ⟨.bl _, H, I, rfl, q⟩
  · split at hg <;> cases hg
    rename_i c z hz
    cases hd; cases he
    obtain ⟨⟨l⟩⟩ := c
    match l, hz with
    | [k], _ =>
      cases neg
      · exact op_in_sign pins s σ H _ _ v u Q I rx ry ⟨k, z, rfl, rfl, q⟩
      · exact op_notIn_sign pins s σ H _ _ v u Q I rx ry ⟨k, z, rfl, rfl, q⟩
  · cases hg
theorem inD_bool {d e r : PyData} (h : inD d e = some r) : ∃ b, r = .bool b := by
  unfold inD at h
  split at h
  · split at h <;> cases h; exact ⟨_, rfl⟩
  · split at h <;> cases h; exact ⟨_, rfl⟩
  · split at h <;> cases h; exact ⟨_, rfl⟩
  · cases h
theorem od_in (hu : X.A.units + 65 < cLine) : OpR X (compareOp .In) (rD X.K inD) := opR_flat fun pins s σ H x y v u Q d e r I rx ry hd he hg q => by
  obtain ⟨b, rfl⟩ := inD_bool hg
  exact in_core hu false I rx ry hd he hg (q.now _ (.bl _))
theorem od_notIn (hu : X.A.units + 65 < cLine) : OpR X (compareOp .NotIn) (rD X.K notInD) := opR_flat fun pins s σ H x y v u Q d e r I rx ry hd he hg q => by
  unfold notInD at hg
  split at hg
  · rename_i b hb
    cases hg
    exact in_core hu true I rx ry hd he hb (q.now _ (.bl _))
  · cases hg
theorem dp_non_iff {K : PySem.W.Frag} {H : Hp} {v : V} {d : PyData} (h : Dp K H v d) : decide (v = .non) = isNon d := by
  cases h <;> rfl
theorem od_is : OpR X (compareOp .Is) (rD X.K isD) := opR_flat fun pins s σ H x y v u Q d e r I rx ry hd he hg q => by
  unfold isD at hg
  split at hg
  · cases hg; cases he
    exact op_isN pins s σ H _ _ v u Q I rx ry ⟨rfl, by rw [dp_non_iff hd]; exact q.now _ (.bl _)⟩
  · cases hg; cases hd; cases he
    exact op_is_bl pins s σ H _ _ v u Q I rx ry ⟨_, _, rfl, rfl, by rw [← Bool.beq_eq_decide_eq]; exact q.now _ (.bl _)⟩
  · cases hg
theorem od_isNot : OpR X (compareOp .IsNot) (rD X.K isNotD) := opR_flat fun pins s σ H x y v u Q d e r I rx ry hd he hg q => by
  unfold isNotD isD at hg
  split at hg
  · rename_i b hb
    cases hg
    split at hb
    · cases hb; cases he
      exact op_notN pins s σ H _ _ v u Q I rx ry ⟨rfl, by rw [dp_non_iff hd]; exact q.now _ (.bl _)⟩
    · cases hb; cases hd; cases he
      exact op_isnot_bl pins s σ H _ _ v u Q I rx ry ⟨_, _, rfl, rfl, by rw [← Bool.beq_eq_decide_eq]; exact q.now _ (.bl _)⟩
    · cases hb
  · cases hg
end
end DL

set_option Elab.async false
set_option linter.all false
set_option maxRecDepth 100000
set_option maxHeartbeats 2000000
namespace DL
open PySem L2 PyProof.Rows

/-! ### the functions that expressions are read as -/
def eVar (i : Nat) : SE := fun ρ => match ρ[i]? with
  | some (some d) => .ok d
  | _ => .bad
def eC (d : PyData) : SE := fun _ => .ok d
def eOp (g : PyData → PyData → Option PyData) (f h : SE) : SE := fun ρ => (f ρ).bind fun x => (h ρ).bind fun y => Res.of (g x y)
/-- of one value -/
def eUn (g : PyData → Option PyData) (f : SE) : SE := fun ρ => (f ρ).bind fun x => Res.of (g x)
/-- of an argument list -/
def eArgs (g : List PyData → Option PyData) (f : SA) : SE := fun ρ => (f ρ).bind fun xs => Res.of (g xs)
def eCall (g : List PyData → Res PyData) (f : SA) : SE := fun ρ => (f ρ).bind g
def truth : PyData → Option Bool
  | .bool b => some b
  | _ => none
def asT (f : SE) : ST := fun ρ => (f ρ).bind fun x => Res.of (truth x)
/-- the truth of any value -/
def truthy : PyData → Option Bool
  | .none => some false
  | .bool b => some b
  | .int i => some (i != 0)
  | .str s => if s.length ≤ big then some ((s.length : Int) != 0) else none
  | .list xs => some (!xs.isEmpty)
  | .tuple xs => some (!xs.isEmpty)
  | .dict _ => none
def asTru (f : SE) : ST := fun ρ => (f ρ).bind fun x => Res.of (truthy x)
def tAnd (t u : ST) : ST := fun ρ => (t ρ).bind fun b => if b then u ρ else .ok false
def tOr (t u : ST) : ST := fun ρ => (t ρ).bind fun b => if b then .ok true else u ρ
def tNot (t : ST) : ST := fun ρ => (t ρ).bind fun b => .ok (!b)
def eAnd (f g : SE) : SE := fun ρ => (f ρ).bind fun x => (Res.of (truth x)).bind fun b => if b then g ρ else .ok (.bool false)
def eOr (f g : SE) : SE := fun ρ => (f ρ).bind fun x => (Res.of (truth x)).bind fun b => if b then .ok (.bool true) else g ρ
def eNot (f : SE) : SE := fun ρ => (f ρ).bind fun x => (Res.of (truth x)).bind fun b => .ok (.bool (!b))
def eChain (g h : PyData → PyData → Option PyData) (a b c : SE) : SE := fun ρ => (a ρ).bind fun x => (b ρ).bind fun y => (Res.of (g x y)).bind fun z => (Res.of (truth z)).bind fun k =>
  if k then (c ρ).bind fun w => Res.of (h y w) else .ok (.bool false)
def aNil : SA := fun _ => .ok []
def aCons (f : SE) (g : SA) : SA := fun ρ => (f ρ).bind fun x => (g ρ).bind fun xs => .ok (x :: xs)
def eTup (f : SA) : SE := fun ρ => (f ρ).bind fun xs => if xs.length ≤ big then .ok (.tuple xs) else .bad
def eLst (f : SA) : SE := fun ρ => (f ρ).bind fun xs => if xs.length ≤ big then .ok (.list xs) else .bad
def oNone : PEnv → Res (Option Int) := fun _ => .ok none
def oSome (f : SE) : PEnv → Res (Option Int) := fun ρ => (f ρ).bind fun x => match x with
  | .int i => .ok (some i)
  | _ => .bad
def cutP {α : Type} (xs : List α) (lo hi : Option Int) : List α := (xs.drop (HT.sIx xs.length 0 lo)).take (HT.sIx xs.length xs.length hi - HT.sIx xs.length 0 lo)
def cutD (lo hi : Option Int) : PyData → Option PyData
  | .list xs => some (.list (cutP xs lo hi))
  | .tuple xs => some (.tuple (cutP xs lo hi))
  | .str z => if z.length ≤ big then some (.str (cutS z lo hi)) else none
  | _ => none
def eCut (f : SE) (l u : PEnv → Res (Option Int)) : SE := fun ρ => (f ρ).bind fun x => (l ρ).bind fun lo => (u ρ).bind fun hi => Res.of (cutD lo hi x)
def ixD : PyData → PyData → Option PyData
  | .list xs, .int i => atI xs i
  | .tuple xs, .int i => atI xs i
  | .str z, .int i => if z.length ≤ big then (atI z.cps.toList i).map fun c => .str ⟨#[c]⟩ else none
  | _, _ => none
def lenD : List PyData → Option PyData
  | [.list xs] => some (.int xs.length)
  | [.tuple xs] => some (.int xs.length)
  | [.str z] => if z.length ≤ big then some (.int z.length) else none
  | _ => none
def listD : List PyData → Option PyData
  | [.list xs] => some (.list xs)
  | [.tuple xs] => some (.list xs)
  | _ => none
def tupleD : List PyData → Option PyData
  | [.list xs] => some (.tuple xs)
  | [.tuple xs] => some (.tuple xs)
  | _ => none
def intD : List PyData → Option PyData
  | [.int i] => some (.int i)
  | [.bool b] => some (.int (if b then 1 else 0))
  | _ => none
def max2D : List PyData → Option PyData
  | [.int i, .int j] => some (.int (if j > i then j else i))
  | _ => none
def min2D : List PyData → Option PyData
  | [.int i, .int j] => some (.int (if j < i then j else i))
  | _ => none
def bools : List PyData → Option (List Bool)
  | [] => some []
  | .bool b :: r => (bools r).map (b :: ·)
  | _ :: _ => none
def strsOf : List PyData → Option (List Str)
  | [] => some []
  | .str b :: r => (strsOf r).map (b :: ·)
  | _ :: _ => none
def allD : List PyData → Option PyData
  | [.list xs] => (bools xs).map fun bs => .bool (bs.all id)
  | _ => none
def tyN : PyData → String
  | .none => "NoneType"
  | .bool _ => "bool"
  | .int _ => "int"
  | .str _ => "str"
  | .list _ => "list"
  | .tuple _ => "tuple"
  | .dict _ => "dict"
/-- isinstance(x, T) -/
def isiD (T : String) : PyData → Option PyData
  | .none => some (.bool false)
  | .bool _ => some (.bool (T == "bool" || T == "int"))
  | .int _ => some (.bool (T == "int"))
  | .str _ => some (.bool (T == "str"))
  | .list _ => some (.bool (T == "list"))
  | .tuple _ => some (.bool (T == "tuple"))
  | .dict _ => none

section
variable {X : Cx} {W : Wis} {a b c : Expr} {pos : Pos}
theorem ed_var {i : Nat} {x : Str} (hN : X.N[i]? = some x := by rfl) (hv : Vis X.env.scope x := by first | exact Or.inl rfl | exact Or.inr (Or.inl rfl) | exact Or.inr (Or.inr rfl)) (hd : (x == ("__debug__" : Str)) = false := by decide)
    (hcd : (x == ("__classdict__" : Str)) = false := by decide) : PE X (.Name x pos) (tD X.K W (eVar i)) := pe_weak (pe_var (i := i) hN hv hd hcd) fun σ H Q h => by
  obtain ⟨ρ, hE, q⟩ := h
  unfold eVar at q
  split at q
  · rename_i d e
    obtain ⟨v, h1, h2⟩ := hE.2 i d e
    exact ⟨v, h1, q _ (Same.refl H) v h2⟩
  · exact q.elim
theorem ed_int {i j} : PE X (.Constant (.int i) j pos) (tD X.K W (eC (.int i))) := pe_weak pe_int fun σ H Q ⟨ρ, hE, q⟩ => q _ (Same.refl H) _ (.int i)
theorem ed_bl {i j} : PE X (.Constant (.bool i) j pos) (tD X.K W (eC (.bool i))) := pe_weak pe_bl fun σ H Q ⟨ρ, hE, q⟩ => q _ (Same.refl H) _ (.bl i)
theorem ed_non {j} : PE X (.Constant .none j pos) (tD X.K W (eC .none)) := pe_weak pe_non fun σ H Q ⟨ρ, hE, q⟩ => q _ (Same.refl H) _ .non
theorem ed_str {i j} : PE X (.Constant (.str i) j pos) (tD X.K W (eC (.str i))) := pe_weak pe_str fun σ H Q ⟨ρ, hE, q⟩ => q _ (Same.refl H) _ (.str i)
/-- a constant of the module -/
structure GlD (K : PySem.W.Frag) (mg : Str → Option Value) (x : Str) (d : PyData) : Prop where
  at_ : ∃ v u, mg x = some u ∧ RelV v u ∧ ∀ H, Dp K H v d
theorem ed_glob {x : Str} {d : PyData} (g : GlD X.K X.mg x d) (hg : Gl X x := by rfl) (hd : (x == ("__debug__" : Str)) = false := by decide) : PE X (.Name x pos) (tD X.K W (eC d)) := by
  obtain ⟨v, u, hm, r, hD⟩ := g.at_
  exact pe_weak (pe_glob hg hm r hd) fun σ H Q ⟨ρ, hE, q⟩ => q _ (Same.refl H) _ (hD H)
/-- a two-place operation -/
theorem op_then {K : PySem.W.Frag} {g : PyData → PyData → Option PyData} {fa fb : SE} {σ : L2.St} {H : Hp} {Q : VK} (h : tD K W (eOp g fa fb) σ H Q) : tOp (rD K g) (tD K W fa) (tD K W fb) σ H Q := by
  obtain ⟨ρ, hE, q⟩ := h
  refine tD_mono (tD_then hE q) fun x H1 ⟨d, hx, s1, hE1, q1⟩ => ?_
  refine tD_mono (tD_then hE1 q1) fun y H2 ⟨e, hy, s2, hE2, q2⟩ => ?_
  obtain ⟨r, hr, q3⟩ := Res.post_of q2
  exact ⟨d, e, r, dp_mono s2 _ _ hx, hy, hr, q3⟩
theorem ed_op {op : Operator} {g : PyData → PyData → Option PyData} {fa fb : SE} (ho : OpR X (binaryOp op) (rD X.K g)) (ha : PE X a (tD X.K W fa)) (hb : PE X b (tD X.K W fb)) : PE X (.BinOp a op b pos) (tD X.K W (eOp g fa fb)) :=
  pe_weak (pe_op ho ha hb) fun σ H Q h => op_then h
theorem ed_cmp {op : CmpOp} {g : PyData → PyData → Option PyData} {fa fb : SE} (ho : OpR X (compareOp op) (rD X.K g)) (ha : PE X a (tD X.K W fa)) (hb : PE X b (tD X.K W fb)) (hm : behindInMarks op b = false := by first | exact nomark _ | rfl) :
    PE X (.Compare a [op] [b] pos) (tD X.K W (eOp g fa fb)) := pe_weak (pe_cmpR ho ha hb hm) fun σ H Q h => op_then h
/-- a value that is a truth -/
theorem asT_then {K : PySem.W.Frag} {f : SE} {σ : L2.St} {H : Hp} {Q : Bool → Hp → Prop} (h : ttD K W (asT f) σ H Q) : tD K W f σ H fun x H' => ∃ k, x = .bl k ∧ Q k H' := by
  obtain ⟨ρ, hE, q⟩ := h
  refine tD_mono (tD_then hE q) fun x H1 ⟨d, hx, s1, hE1, q1⟩ => ?_
  obtain ⟨k, hk, q2⟩ := Res.post_of q1
  cases d <;> simp only [truth, reduceCtorEq] at hk
  cases hk
  cases hx
  exact ⟨_, rfl, q2.now⟩
theorem td_cmp {op : CmpOp} {g : PyData → PyData → Option PyData} {fa fb : SE} (ho : OpR X (compareOp op) (rD X.K g)) (ha : PE X a (tD X.K W fa)) (hb : PE X b (tD X.K W fb)) (hm : behindInMarks op b = false := by first | exact nomark _ | rfl) :
    PT X (.Compare a [op] [b] pos) (ttD X.K W (asT (eOp g fa fb))) := by
  refine pt_weak (pt_cmpR ho ha hb hm) fun σ H Q h => ?_
  have h1 := asT_then h
  exact op_then h1
/-- a truth that an expression gives, not a comparison -/
theorem td_val {f : SE} (ha : PE X a (tD X.K W f)) (he : ∀ whole, isTrue a X.env whole = (do let v ← whole; standAt a.pos; holding [v] (PySem.truthy v)) := by intro _; rfl) : PT X a (ttD X.K W (asT f)) :=
  pt_weak (pt_val ha he) fun σ H Q h => asT_then h
theorem td_tru {f : SE} (ha : PE X a (tD X.K W f)) (he : ∀ whole, isTrue a X.env whole = (do let v ← whole; standAt a.pos; holding [v] (PySem.truthy v)) := by intro _; rfl) : PT X a (ttD X.K W (asTru f)) := by
  refine pt_weak (pt_truth ha he) fun σ H Q h => ?_
  obtain ⟨ρ, hE, q⟩ := h
  refine tD_mono (tD_then hE q) fun x H1 ⟨d, hx, s1, hE1, q1⟩ => ?_
  obtain ⟨k, hk, q2⟩ := Res.post_of q1
  refine ⟨k, ?_, q2.now⟩
  cases hx with
  | non => simp only [DL.truthy, Option.some.injEq] at hk; exact hk.symm
  | bl _ => simp only [DL.truthy, Option.some.injEq] at hk; exact hk.symm
  | int _ => simp only [DL.truthy, Option.some.injEq] at hk; exact hk.symm
  | str _ =>
    simp only [DL.truthy] at hk
    split at hk <;> cases hk
    rename_i hz
    exact ⟨Nat.le_trans hz big_line, rfl⟩
  | lst h1 h2 =>
    simp only [DL.truthy, Option.some.injEq] at hk
    subst hk
    refine .inl ⟨_, h1, ?_⟩
    cases h2 <;> rfl
  | tup h1 h2 =>
    simp only [DL.truthy, Option.some.injEq] at hk
    subst hk
    refine .inr (.inl ⟨_, h1, ?_⟩)
    cases h2 <;> rfl
  | dct h1 h2 => simp only [DL.truthy, reduceCtorEq] at hk
theorem td_and1 {t : ST} (ha : PT X a (ttD X.K W t)) : PW X (.BoolOp .And [a] pos) (ttD X.K W t) := pw_and1 ha
theorem td_or1 {t : ST} (ha : PT X a (ttD X.K W t)) : PW X (.BoolOp .Or [a] pos) (ttD X.K W t) := pw_or1 ha
theorem td_and {rest : List Expr} {t u : ST} (ha : PT X a (ttD X.K W t)) (hb : PW X (.BoolOp .And (b :: rest) pos) (ttD X.K W u)) : PW X (.BoolOp .And (a :: b :: rest) pos) (ttD X.K W (tAnd t u)) := by
  refine pw_weak (pw_and ha hb) fun σ H Q h => ?_
  obtain ⟨ρ, hE, q⟩ := h
  refine ttD_mono (ttD_then hE q) fun k H1 ⟨s1, hE1, q1⟩ => ?_
  cases k with
  | true => exact ⟨ρ, hE1, q1⟩
  | false => exact q1.now
theorem td_or {rest : List Expr} {t u : ST} (ha : PT X a (ttD X.K W t)) (hb : PW X (.BoolOp .Or (b :: rest) pos) (ttD X.K W u)) : PW X (.BoolOp .Or (a :: b :: rest) pos) (ttD X.K W (tOr t u)) := by
  refine pw_weak (pw_or ha hb) fun σ H Q h => ?_
  obtain ⟨ρ, hE, q⟩ := h
  refine ttD_mono (ttD_then hE q) fun k H1 ⟨s1, hE1, q1⟩ => ?_
  cases k with
  | true => exact q1.now
  | false => exact ⟨ρ, hE1, q1⟩
theorem td_not {t : ST} (ha : PT X a (ttD X.K W t)) : PT X (.UnaryOp .Not a pos) (ttD X.K W (DL.tNot t)) := by
  refine pt_weak (pt_not ha) fun σ H Q h => ?_
  obtain ⟨ρ, hE, q⟩ := h
  exact ttD_mono (ttD_then hE q) fun k H1 ⟨s1, hE1, q1⟩ => q1.now
theorem ed_one {op} {t : SE} (h : PE X a (tD X.K W t)) : PE X (.BoolOp op [a] pos) (tD X.K W t) := pe_one h
theorem ed_and {rest : List Expr} {f g : SE} (ha : PE X a (tD X.K W f)) (hb : PE X (.BoolOp .And (b :: rest) pos) (tD X.K W g)) : PE X (.BoolOp .And (a :: b :: rest) pos) (tD X.K W (eAnd f g)) := by
  refine pe_weak (pe_and ha hb) fun σ H Q h => ?_
  obtain ⟨ρ, hE, q⟩ := h
  refine tD_mono (tD_then hE q) fun x H1 ⟨d, hx, s1, hE1, q1⟩ => ?_
  obtain ⟨k, hk, q2⟩ := Res.post_of (Res.post_bind.mp q1)
  cases d <;> simp only [truth, reduceCtorEq] at hk
  cases hk
  cases hx
  refine ⟨_, rfl, ?_⟩
  cases k with
  | true => exact ⟨ρ, hE1, q2⟩
  | false => exact q2.now _ (.bl _)
theorem ed_or {rest : List Expr} {f g : SE} (ha : PE X a (tD X.K W f)) (hb : PE X (.BoolOp .Or (b :: rest) pos) (tD X.K W g)) : PE X (.BoolOp .Or (a :: b :: rest) pos) (tD X.K W (eOr f g)) := by
  refine pe_weak (pe_or ha hb) fun σ H Q h => ?_
  obtain ⟨ρ, hE, q⟩ := h
  refine tD_mono (tD_then hE q) fun x H1 ⟨d, hx, s1, hE1, q1⟩ => ?_
  obtain ⟨k, hk, q2⟩ := Res.post_of (Res.post_bind.mp q1)
  cases d <;> simp only [truth, reduceCtorEq] at hk
  cases hk
  cases hx
  refine ⟨_, rfl, ?_⟩
  cases k with
  | true => exact q2.now _ (.bl _)
  | false => exact ⟨ρ, hE1, q2⟩
theorem ed_not {f : SE} (ha : PE X a (tD X.K W f)) : PE X (.UnaryOp .Not a pos) (tD X.K W (eNot f)) := by
  refine pe_weak (pe_not ha) fun σ H Q h => ?_
  obtain ⟨ρ, hE, q⟩ := h
  refine tD_mono (tD_then hE q) fun x H1 ⟨d, hx, s1, hE1, q1⟩ => ?_
  obtain ⟨k, hk, q2⟩ := Res.post_of (Res.post_bind.mp q1)
  cases d <;> simp only [truth, reduceCtorEq] at hk
  cases hk
  cases hx
  exact ⟨_, rfl, q2.now _ (.bl _)⟩
/-! a op b op c -/
theorem chain_then {K : PySem.W.Frag} {g h : PyData → PyData → Option PyData} {fa fb fc : SE} {σ : L2.St} {H : Hp} {Q : VK} (q : tD K W (eChain g h fa fb fc) σ H Q) : tChain (rD K g) (rD K h) (tD K W fa) (tD K W fb) (tD K W fc) σ H Q := by
  obtain ⟨ρ, hE, q⟩ := q
  refine tD_mono (tD_then hE q) fun x H1 ⟨d, hx, s1, hE1, q1⟩ => ?_
  refine tD_mono (tD_then hE1 q1) fun y H2 ⟨e, hy, s2, hE2, q2⟩ => ?_
  obtain ⟨z, hz, q3⟩ := Res.post_of (Res.post_bind.mp q2)
  obtain ⟨k, hk, q4⟩ := Res.post_of (Res.post_bind.mp q3)
  cases z <;> simp only [truth, reduceCtorEq] at hk
  cases hk
  refine ⟨d, e, _, dp_mono s2 _ _ hx, hy, hz, fun H3 s3 v hv => ?_⟩
  cases hv
  refine ⟨k, rfl, ?_⟩
  cases k with
  | true =>
    have q5 := q4.mono (fun b r => r.on s3) (fun n r => r.on s3)
    refine iteT (tD_mono (tD_then (hE2.mono s3) q5) fun w H4 ⟨d4, hw, s4, hE4, q6⟩ => ?_)
    obtain ⟨r, hr, q7⟩ := Res.post_of q6
    exact ⟨e, d4, r, dp_mono (s3.trans s4) _ _ hy, hw, hr, q7⟩
  | false => exact iteF (q4 _ s3 _ (.bl _))
theorem ed_chain {op op' : CmpOp} {g h : PyData → PyData → Option PyData} {fa fb fc : SE} (ho : OpR X (compareOp op) (rD X.K g)) (ho' : OpR X (compareOp op') (rD X.K h)) (ha : PE X a (tD X.K W fa)) (hb : PE X b (tD X.K W fb)) (hc : PE X c (tD X.K W fc))
    (hm : lastMarks [op, op'] [b, c] = false := by with_unfolding_all rfl) : PE X (.Compare a [op, op'] [b, c] pos) (tD X.K W (eChain g h fa fb fc)) := pe_weak (pe_chain ho ho' ha hb hc hm) fun σ H Q q => chain_then q
theorem td_chain {op op' : CmpOp} {g h : PyData → PyData → Option PyData} {fa fb fc : SE} (ho : OpR X (compareOp op) (rD X.K g)) (ho' : OpR X (compareOp op') (rD X.K h)) (ha : PE X a (tD X.K W fa)) (hb : PE X b (tD X.K W fb)) (hc : PE X c (tD X.K W fc))
    (hm : lastMarks [op, op'] [b, c] = false := by with_unfolding_all rfl) : PT X (.Compare a [op, op'] [b, c] pos) (ttD X.K W (asT (eChain g h fa fb fc))) := pt_weak (pt_chain ho ho' ha hb hc hm) fun σ H Q q => chain_then (asT_then q)

/-! ### arguments, displays -/
theorem ad_nil : PA X [] (taD X.K W aNil) := pa_weak pa_nil fun σ H Q ⟨ρ, hE, q⟩ => q.now _ .nil
theorem ad_cons {es : List Expr} {f : SE} {g : SA} (ha : PE X a (tD X.K W f)) (hr : PA X es (taD X.K W g)) (hs : starEach (a :: es) X.env = (false, eval a X.env) :: starEach es X.env := by rfl) : PA X (a :: es) (taD X.K W (aCons f g)) := by
  refine pa_weak (pa_cons ha hr hs) fun σ H Q h => ?_
  obtain ⟨ρ, hE, q⟩ := h
  refine tD_mono (tD_then hE q) fun x H1 ⟨d, hx, s1, hE1, q1⟩ => ?_
  refine taD_mono (taD_then hE1 q1) fun xs H2 ⟨ds, hxs, s2, hE2, q2⟩ => ?_
  exact q2.now _ (.cons (dp_mono s2 _ _ hx) hxs)
theorem ed_tup {es : List Expr} {f : SA} {x1} (h : PA X es (taD X.K W f)) : PE X (.Tuple es x1 pos) (tD X.K W (eTup f)) := by
  refine pe_weak (pe_tup h) fun σ H Q h => ?_
  obtain ⟨ρ, hE, q⟩ := h
  refine taD_mono (taD_then hE q) fun xs H1 ⟨ds, hxs, s1, hE1, q1⟩ => ?_
  split at q1
  · rename_i hz
    exact ⟨by rw [dps_len hxs]; exact Nat.le_trans hz big_line, fun p hp => q1 _ (same_new hp _) _ (.tup (SqT.of upd_same) (dps_mono (same_new hp _) _ _ hxs))⟩
  · exact q1.elim
theorem ed_lst {es : List Expr} {f : SA} (h : PA X es (taD X.K W f)) : PE X (.List es pos) (tD X.K W (eLst f)) := by
  refine pe_weak (pe_lst h) fun σ H Q h => ?_
  obtain ⟨ρ, hE, q⟩ := h
  refine taD_mono (taD_then hE q) fun xs H1 ⟨ds, hxs, s1, hE1, q1⟩ => ?_
  split at q1
  · rename_i hz
    exact ⟨by rw [dps_len hxs]; exact Nat.le_trans hz big_line, fun p hp => q1 _ (same_new hp _) _ (.lst (SqL.of upd_same) (dps_mono (same_new hp _) _ _ hxs))⟩
  · exact q1.elim
theorem ed_ifExp {t : ST} {f g : SE} (hc : PT X c (ttD X.K W t)) (ha : PE X a (tD X.K W f)) (hb : PE X b (tD X.K W g)) : PE X (.IfExp c a b pos) (tD X.K W (fun ρ => (t ρ).bind fun k => if k then f ρ else g ρ)) := by
  refine pe_weak (pe_ifExp hc ha hb) fun σ H Q h => ?_
  obtain ⟨ρ, hE, q⟩ := h
  refine ttD_mono (ttD_then hE q) fun k H1 ⟨s1, hE1, q1⟩ => ?_
  cases k with
  | true => exact iteT ⟨ρ, hE1, q1⟩
  | false => exact iteF ⟨ρ, hE1, q1⟩

/-! ### subscripts, slices -/
theorem atI_dps {K : PySem.W.Frag} {H : Hp} {vs : List V} {ds : List PyData} {i : Int} {d : PyData} (h : DpAll K H vs ds) (e : atI ds i = some d) : ∃ v, atI vs i = some v ∧ Dp K H v d := by
  unfold atI at e ⊢
  rw [dps_len h]
  cases q : ixN ds.length i with
  | none => rw [q] at e; cases e
  | some j =>
    rw [q] at e
    exact dps_get h e
theorem ed_ix {fa fb : SE} (ha : PE X a (tD X.K W fa)) (hb : PE X b (tD X.K W fb)) (hs : PlainIx b := by exact fun _ _ => rfl) : PE X (.Subscript a b pos) (tD X.K W (eOp ixD fa fb)) := by
  refine pe_weak (pe_ix ix_seq ha hb hs) fun σ H Q h => ?_
  obtain ⟨ρ, hE, q⟩ := h
  refine tD_mono (tD_then hE q) fun x H1 ⟨d, hx, s1, hE1, q1⟩ => ?_
  refine tD_mono (tD_then hE1 q1) fun y H2 ⟨e, hy, s2, hE2, q2⟩ => ?_
  obtain ⟨r, hr, q3⟩ := Res.post_of q2
  have hx := dp_mono s2 _ _ hx
  rcases d with _ | dB | dI | z | dL | dT | dD <;> rcases e with _ | eB | i | eS | eL | eT | eD <;> simp only [ixD, reduceCtorEq] at hr
  case str.int =>
    split at hr
    · rename_i hz
      cases q : atI z.cps.toList i with
      | none => rw [q] at hr; cases hr
      | some k =>
        rw [q] at hr
        cases hr
        cases hx; cases hy
        exact .inr (.inr ⟨z, i, k, rfl, rfl, Nat.le_trans hz big_line, q, q3.now _ (.str _)⟩)
    · cases hr
  case list.int =>
    cases hy
    cases hx with
    | lst h1 h2 =>
      obtain ⟨v, hv, hd⟩ := atI_dps h2 hr
      exact .inl ⟨_, _, i, v, rfl, rfl, h1, hv, q3.now _ hd⟩
  case tuple.int =>
    cases hy
    cases hx with
    | tup h1 h2 =>
      obtain ⟨v, hv, hd⟩ := atI_dps h2 hr
      exact .inr (.inl ⟨_, _, i, v, rfl, rfl, h1, hv, q3.now _ hd⟩)
def toD (K : PySem.W.Frag) (W : Wis) (f : PEnv → Res (Option Int)) : TO := fun σ H Q => ∃ ρ, EnvR K H σ ρ ∧ (f ρ).post (fun o => fut H fun H' => Q o H') fun n => fut H (W n)
theorem toD_then {β : Type} {p : β → Hp → Prop} {K : PySem.W.Frag} {σ : L2.St} {H : Hp} {ρ : PEnv} {f : PEnv → Res (Option Int)} {g : Option Int → Res β} (hE : EnvR K H σ ρ) (h : ((f ρ).bind g).post (fun b => fut H (p b)) fun n => fut H (W n)) :
    toD K W f σ H fun c H1 => Same H H1 ∧ EnvR K H1 σ ρ ∧ (g c).post (fun b => fut H1 (p b)) fun n => fut H1 (W n) :=
  ⟨ρ, hE, (Res.post_bind.mp h).mono (fun d q H1 s => ⟨s, hE.mono s, q.mono (fun b r => r.on s) fun n r => r.on s⟩) fun n r => r⟩
theorem toD_mono {K : PySem.W.Frag} {σ : L2.St} {H : Hp} {f : PEnv → Res (Option Int)} {Q Q' : Option Int → Hp → Prop} (h : toD K W f σ H Q) (w : ∀ v H', Q v H' → Q' v H') : toD K W f σ H Q' := by
  obtain ⟨ρ, hE, q⟩ := h
  exact ⟨ρ, hE, q.mono (fun d r H' s => w _ _ (r H' s)) fun n r => r⟩
theorem po_weak {e : Option Expr} {t t' : TO} (h : PO X e t) (w : ∀ σ H Q, t' σ H Q → t σ H Q) : PO X e t' := ⟨fun pins s σ H Q I q => h.run pins s σ H Q I (w σ H Q q)⟩
theorem od_none : PO X none (toD X.K W oNone) := po_weak po_none fun σ H Q ⟨ρ, hE, q⟩ => q.now
theorem od_some {f : SE} (h : PE X a (tD X.K W f)) : PO X (some a) (toD X.K W (oSome f)) := by
  refine po_weak (po_some h) fun σ H Q h => ?_
  obtain ⟨ρ, hE, q⟩ := h
  refine tD_mono (tD_then hE q) fun x H1 ⟨d, hx, s1, hE1, q1⟩ => ?_
  cases hx <;> first | exact q1.elim | skip
  exact ⟨_, rfl, q1.now⟩
theorem sIx_bd (n d : Nat) (h : HT.sIx n 0 none = 0) : True := trivial
theorem dps_cut {K : PySem.W.Frag} {H : Hp} {vs : List V} {ds : List PyData} (lo hi : Option Int) (h : DpAll K H vs ds) : DpAll K H (cutV vs lo hi) (cutP ds lo hi) := by
  unfold cutV cutP
  rw [dps_len h]
  exact dps_take _ (dps_drop _ h)
theorem ed_cut {f : SE} {l u : PEnv → Res (Option Int)} {lo hi : Option Expr} {p2 : Pos} (ha : PE X a (tD X.K W f)) (hl : PO X lo (toD X.K W l)) (hu : PO X hi (toD X.K W u)) : PE X (.Subscript a (.Slice lo hi none p2) pos) (tD X.K W (eCut f l u)) := by
  refine pe_weak (pe_slice ((sl_list.or (sl_tupA.or sl_str))) ha hl hu) fun σ H Q h => ?_
  obtain ⟨ρ, hE, q⟩ := h
  refine tD_mono (tD_then hE q) fun x H1 ⟨d, hx, s1, hE1, q1⟩ => ?_
  refine toD_mono (toD_then hE1 q1) fun lo' H2 ⟨s2, hE2, q2⟩ => ?_
  refine toD_mono (toD_then hE2 q2) fun hi' H3 ⟨s3, hE3, q3⟩ => ?_
  obtain ⟨r, hr, q4⟩ := Res.post_of q3
  have hx := dp_mono (s2.trans s3) _ _ hx
  rcases d with _ | dB | dI | zS | zL | z | dD <;> simp only [cutD, reduceCtorEq] at hr
  case list =>
    cases hr
    cases hx with
    | lst h1 h2 => exact .inl ⟨_, _, rfl, h1, fun p hp => q4 _ (same_new hp _) _ (.lst (SqL.of upd_same) (dps_mono (same_new hp _) _ _ (dps_cut _ _ h2)))⟩
  case tuple =>
    cases hr
    cases hx with
    | @tup aa vs _ h1 h2 =>
      refine .inr (.inl ⟨_, _, rfl, h1, fun e => ?_, fun _ p hp => q4 _ (same_new hp _) _ (.tup (SqT.of upd_same) (dps_mono (same_new hp _) _ _ (dps_cut _ _ h2)))⟩)
      have e2 : cutP z lo' hi' = z := by
        unfold cutP
        rw [← dps_len h2, e.1, e.2, List.drop_zero, Nat.sub_zero, dps_len h2, List.take_length]
      rw [e2] at q4
      exact q4.now _ (.tup h1 h2)
  case str =>
    split at hr <;> cases hr
    rename_i hz
    cases hx
    exact .inr (.inr ⟨zS, rfl, Nat.le_trans hz big_line, q4.now _ (.str _)⟩)
end
end DL

set_option Elab.async false
set_option linter.all false
set_option maxRecDepth 100000
set_option maxHeartbeats 2000000
namespace DL
open PySem L2 PyProof.Rows

/-! ### calls of built-ins by name -/
def rCD (K : PySem.W.Frag) (g : List PyData → Option PyData) : List V → Hp → VK → Prop := fun vs H Q => ∃ ds r, DpAll K H vs ds ∧ g ds = some r ∧ fut H fun H' => ∀ v, Dp K H' v r → Q v H'
section
variable {X : Cx} {W : Wis} {a b c : Expr} {pos : Pos}
theorem callR_weak {f : Value} {r r' : List V → Hp → VK → Prop} (h : CallR X f r) (w : ∀ vs H Q, r' vs H Q → r vs H Q) : CallR X f r' := fun pins s σ H xs us Q I rv q => h pins s σ H xs us Q I rv (w _ _ _ q)
theorem cb_then {g : List PyData → Option PyData} {f : SA} {K : PySem.W.Frag} {σ : L2.St} {H : Hp} {Q : VK} (h : tD K W (eArgs g f) σ H Q) : tCB (rCD K g) (taD K W f) σ H Q := by
  obtain ⟨ρ, hE, q⟩ := h
  refine taD_mono (taD_then hE q) fun xs H1 ⟨ds, hx, s1, hE1, q1⟩ => ?_
  obtain ⟨r, hr, q2⟩ := Res.post_of q1
  exact ⟨ds, r, hx, hr, q2⟩
theorem ed_callB {x : Str} {id : String} {p : Pos} {es : List Expr} {g : List PyData → Option PyData} {f : SA} (hc : CallR X (.builtin id) (rCD X.K g)) (hm : X.mg x = none) (ha : PA X (a :: es) (taD X.K W f)) (hv : bootBuiltins x = some (.builtin id) := by decide +kernel) (hg : Gl X x := by rfl)
    (hn : x ≠ "__name__" := by decide) (hdb : (x == ("__debug__" : Str)) = false := by decide) (he : starEach (a :: es) X.env = (false, eval a X.env) :: starEach es X.env := by rfl) (hpl : (backTo pos (starEach es X.env)).any (·.1) = false := by rfl) :
    PE X (.Call (.Name x p) (a :: es) [] pos) (tD X.K W (eArgs g f)) := pe_weak (pe_callB hc hg hm hv ha hn hdb he hpl) fun σ H Q h => cb_then h
theorem ed_callT {x : Str} {T : String} {p : Pos} {es : List Expr} {g : List PyData → Option PyData} {f : SA} (hc : CallR X (.type T) (rCD X.K g)) (hm : X.mg x = none) (ha : PA X (a :: es) (taD X.K W f)) (hv : bootBuiltins x = some (.type T) := by decide +kernel) (hg : Gl X x := by rfl)
    (hn : x ≠ "__name__" := by decide) (hdb : (x == ("__debug__" : Str)) = false := by decide) (he : starEach (a :: es) X.env = (false, eval a X.env) :: starEach es X.env := by rfl) (hpl : (backTo pos (starEach es X.env)).any (·.1) = false := by rfl) :
    PE X (.Call (.Name x p) (a :: es) [] pos) (tD X.K W (eArgs g f)) := pe_weak (pe_callTy hc hg hm hv ha hn hdb he hpl) fun σ H Q h => cb_then h
/-! what each asks -/
theorem cd_len : CallR X (.builtin "len") (rCD X.K lenD) := callR_weak call_len fun vs H Q ⟨ds, r, hd, hg, q⟩ => by
  match ds, vs, hd, hg with
  | [.list xs], _, .cons (.lst h1 h2) .nil, hg =>
    simp only [lenD, Option.some.injEq] at hg
    subst hg
    exact ⟨_, _, rfl, .inl ⟨_, h1, rfl⟩, by rw [dps_len h2]; exact q.now _ (.int _)⟩
  | [.tuple xs], _, .cons (.tup h1 h2) .nil, hg =>
    simp only [lenD, Option.some.injEq] at hg
    subst hg
    exact ⟨_, _, rfl, .inr ⟨_, h1, rfl⟩, by rw [dps_len h2]; exact q.now _ (.int _)⟩
  | [.str z], _, .cons (.str _) .nil, hg =>
    simp only [lenD] at hg
    split at hg <;> cases hg
    rename_i hz
    exact ⟨_, _, rfl, ⟨Nat.le_trans hz big_line, rfl⟩, q.now _ (.int _)⟩
theorem cd_list : CallR X (.type "list") (rCD X.K listD) := callR_weak call_list_of fun vs H Q ⟨ds, r, hd, hg, q⟩ => by
  match ds, vs, hd, hg with
  | [.list xs], _, .cons (.lst h1 h2) .nil, hg =>
    simp only [listD, Option.some.injEq] at hg
    subst hg
    exact ⟨_, _, rfl, .inl h1, fun p hp => q _ (same_new hp _) _ (.lst (SqL.of upd_same) (dps_mono (same_new hp _) _ _ h2))⟩
  | [.tuple xs], _, .cons (.tup h1 h2) .nil, hg =>
    simp only [listD, Option.some.injEq] at hg
    subst hg
    exact ⟨_, _, rfl, .inr h1, fun p hp => q _ (same_new hp _) _ (.lst (SqL.of upd_same) (dps_mono (same_new hp _) _ _ h2))⟩
theorem cd_tuple : CallR X (.type "tuple") (rCD X.K tupleD) := callR_weak call_tuple_of fun vs H Q ⟨ds, r, hd, hg, q⟩ => by
  match ds, vs, hd, hg with
  | [.list xs], _, .cons (.lst h1 h2) .nil, hg =>
    simp only [tupleD, Option.some.injEq] at hg
    subst hg
    exact ⟨_, _, rfl, .inl ⟨h1, fun p hp => q _ (same_new hp _) _ (.tup (SqT.of upd_same) (dps_mono (same_new hp _) _ _ h2))⟩⟩
  | [.tuple xs], _, .cons (.tup h1 h2) .nil, hg =>
    simp only [tupleD, Option.some.injEq] at hg
    subst hg
    exact ⟨_, _, rfl, .inr ⟨h1, q.now _ (.tup h1 h2)⟩⟩
theorem cd_int : CallR X (.type "int") (rCD X.K intD) := callR_weak call_int1 fun vs H Q ⟨ds, r, hd, hg, q⟩ => by
  match ds, vs, hd, hg with
  | [.int i], _, .cons (.int _) .nil, hg =>
    simp only [intD, Option.some.injEq] at hg
    subst hg
    exact .inl ⟨_, rfl, q.now _ (.int _)⟩
  | [.bool k], _, .cons (.bl _) .nil, hg =>
    simp only [intD, Option.some.injEq] at hg
    subst hg
    exact .inr ⟨_, rfl, q.now _ (.int _)⟩
theorem cd_max2 (hc : X.calm = true) : CallR X (.builtin "max") (rCD X.K max2D) := callR_weak (call_max2 hc) fun vs H Q ⟨ds, r, hd, hg, q⟩ => by
  match ds, vs, hd, hg with
  | [.int i, .int j], _, .cons (.int _) (.cons (.int _) .nil), hg =>
    simp only [max2D, Option.some.injEq] at hg
    subst hg
    exact ⟨_, _, rfl, q.now _ (.int _)⟩
theorem cd_min2 (hc : X.calm = true) : CallR X (.builtin "min") (rCD X.K min2D) := callR_weak (call_min2 hc) fun vs H Q ⟨ds, r, hd, hg, q⟩ => by
  match ds, vs, hd, hg with
  | [.int i, .int j], _, .cons (.int _) (.cons (.int _) .nil), hg =>
    simp only [min2D, Option.some.injEq] at hg
    subst hg
    exact ⟨_, _, rfl, q.now _ (.int _)⟩
theorem bools_map : ∀ {xs : List PyData} {bs : List Bool}, bools xs = some bs → xs = bs.map PyData.bool
  | [], bs, h => by cases h; rfl
  | .bool b :: r, bs, h => by
    simp only [bools, Option.map_eq_some_iff] at h
    obtain ⟨cs, h1, rfl⟩ := h
    rw [bools_map h1]
    rfl
  | .none :: r, bs, h => by simp [bools] at h
  | .int _ :: r, bs, h => by simp [bools] at h
  | .str _ :: r, bs, h => by simp [bools] at h
  | .list _ :: r, bs, h => by simp [bools] at h
  | .tuple _ :: r, bs, h => by simp [bools] at h
  | .dict _ :: r, bs, h => by simp [bools] at h
theorem strsOf_map : ∀ {xs : List PyData} {bs : List Str}, strsOf xs = some bs → xs = bs.map PyData.str
  | [], bs, h => by cases h; rfl
  | .str b :: r, bs, h => by
    simp only [strsOf, Option.map_eq_some_iff] at h
    obtain ⟨cs, h1, rfl⟩ := h
    rw [strsOf_map h1]
    rfl
  | .none :: r, bs, h => by simp [strsOf] at h
  | .int _ :: r, bs, h => by simp [strsOf] at h
  | .bool _ :: r, bs, h => by simp [strsOf] at h
  | .list _ :: r, bs, h => by simp [strsOf] at h
  | .tuple _ :: r, bs, h => by simp [strsOf] at h
  | .dict _ :: r, bs, h => by simp [strsOf] at h
theorem cd_all (hc : X.calm = true) : CallR X (.builtin "all") (rCD X.K allD) := callR_weak (cr_all hc) fun vs H Q ⟨ds, r, hd, hg, q⟩ => by
  match ds, vs, hd, hg with
  | [.list xs], _, .cons (.lst h1 h2) .nil, hg =>
    simp only [allD, Option.map_eq_some_iff] at hg
    obtain ⟨bs, hb, rfl⟩ := hg
    rw [bools_map hb] at h2
    rw [dps_bls_of h2] at h1
    exact ⟨_, bs, rfl, h1, q.now _ (.bl _)⟩
/-! isinstance -/
theorem kit_all (t T : String) (ht : t ∈ ["NoneType", "bool", "int", "str", "list", "tuple"]) (hT : T ∈ ["bool", "int", "str", "list", "tuple"]) : kitB t T = some (t == T || (t == "bool" && T == "int")) := by
  simp only [List.mem_cons, List.not_mem_nil, or_false] at ht hT
  rcases ht with rfl | rfl | rfl | rfl | rfl | rfl <;> rcases hT with rfl | rfl | rfl | rfl | rfl <;> decide +kernel
theorem ty_of {K : PySem.W.Frag} {H : Hp} {v : V} {d : PyData} (h : Dp K H v d) : TyX K H v (.type (tyN d)) := by
  cases h with
  | non => exact .base .non
  | bl b => exact .base (.bl b)
  | int i => exact .base (.int i)
  | str x => exact .base (.str x)
  | lst h1 h2 =>
    rcases h1 with (h1 | ⟨o, h1⟩) | ⟨o, its, n, h1, h3, _⟩
    · exact .base (.lst h1)
    · exact .base (.frz h1)
    · exact .kList h1 h3
  | tup h1 h2 =>
    rcases h1 with (h1 | ⟨o, h1⟩) | ⟨o, its, n, h1, h3, _⟩
    · exact .base (.tup h1)
    · exact .fTuple h1
    · exact .kTuple h1 h3
  | dct h1 h2 => exact .base (.dK h1)
theorem ed_isi {T : String} {tn : Str} {p p2 : Pos} {f : SE} (hm : X.mg "isinstance" = none) (hmT : X.mg tn = none) (hT : T ∈ ["bool", "int", "str", "list", "tuple"]) (ha : PE X a (tD X.K W f)) (hvT : bootBuiltins tn = some (.type T) := by decide +kernel) (hgT : Gl X tn := by rfl) (hg : Gl X "isinstance" := by rfl)
    (hnT : tn ≠ "__name__" := by decide) (hdT : (tn == ("__debug__" : Str)) = false := by decide) (hs : starEach (a :: [.Name tn p2]) X.env = (false, eval a X.env) :: starEach [.Name tn p2] X.env := by rfl)
    (hs2 : starEach ((.Name tn p2) :: []) X.env = (false, eval (.Name tn p2) X.env) :: starEach [] X.env := by rfl) (hpl : (backTo pos (starEach [.Name tn p2] X.env)).any (·.1) = false := by rfl) :
    PE X (.Call (.Name "isinstance" p) [a, .Name tn p2] [] pos) (tD X.K W (eUn (isiD T) f)) := by
  refine pe_weak (pe_callB call_isi hg hm (by decide +kernel) (pa_cons ha (pa_cons (pe_bltn (v := .ty T) hgT hmT hvT rfl hnT hdT) pa_nil hs2) hs) (by decide) (by decide) hs hpl) fun σ H Q h => ?_
  obtain ⟨ρ, hE, q⟩ := h
  refine tD_mono (tD_then hE q) fun x H1 ⟨d, hx, s1, hE1, q1⟩ => ?_
  obtain ⟨r, hr, q2⟩ := Res.post_of q1
  have hk : ∃ b, r = .bool b ∧ kitB (tyN d) T = some b := by
    cases d <;> simp only [isiD, Option.some.injEq, reduceCtorEq] at hr
    all_goals
      subst hr
      refine ⟨_, rfl, ?_⟩
      rw [kit_all _ T (by simp [tyN]) hT]
      simp only [List.mem_cons, List.not_mem_nil, or_false] at hT
      simp only [tyN]
      rcases hT with rfl | rfl | rfl | rfl | rfl <;> decide
  obtain ⟨b, rfl, hb⟩ := hk
  exact ⟨_, _, _, _, b, rfl, .ty T, ty_of hx, kit_ty hb, q2.now _ (.bl _)⟩

/-! ### methods of texts -/
theorem mtR_weak {id : String} {r r' : V → List V → Hp → VK → Prop} (h : MtR X id r) (w : ∀ x vs H Q, r' x vs H Q → r x vs H Q) : MtR X id r' := fun pins s σ H x xs v us Q I rx rs q => h pins s σ H x xs v us Q I rx rs (w _ _ _ _ q)
def rMD (K : PySem.W.Frag) (g : Str → PyData → Option PyData) : V → List V → Hp → VK → Prop := fun x vs H Q => ∃ z y e r, x = .str z ∧ vs = [y] ∧ Dp K H y e ∧ g z e = some r ∧ fut H fun H' => ∀ v, Dp K H' v r → Q v H'
/-- a text's method of one argument, of none -/
def eM1 (g : Str → PyData → Option PyData) (f h : SE) : SE := fun ρ => (f ρ).bind fun x => match x with
  | .str z => (h ρ).bind fun y => Res.of (g z y)
  | _ => .bad
def eM0 (g : Str → Option PyData) (f : SE) : SE := fun ρ => (f ρ).bind fun x => match x with
  | .str z => Res.of (g z)
  | _ => .bad
theorem ed_m1 {id : String} {name : Str} {apos : Pos} {g : Str → PyData → Option PyData} {f h : SE} (slot : Slot "str" name id) (ty : typeOf (.builtin id) = pure (.type "method_descriptor")) (rule : MtR X id (rMD X.K g))
    (ho : PE X a (tD X.K W f)) (he : PE X b (tD X.K W h)) (hs : starEach [b] X.env = [(false, eval b X.env)] := by rfl) (hbase : attributeBase a name X.env (eval a X.env) = eval a X.env := by rfl) (hline : (apos.endLine == pos.line) = true := by rfl) :
    PE X (.Call (.Attribute a name apos) [b] [] pos) (tD X.K W (eM1 g f h)) := by
  refine pe_weak (pe_m1 slot ty rule ho he hs hbase hline) fun σ H Q q => ?_
  obtain ⟨ρ, hE, q⟩ := q
  refine tD_mono (tD_then hE q) fun x H1 ⟨d, hx, s1, hE1, q1⟩ => ?_
  obtain ⟨z, rfl, rfl⟩ : ∃ z, d = .str z ∧ x = .str z := by
    cases hx with
    | str z => exact ⟨z, rfl, rfl⟩
    | _ => exact q1.elim
  refine ⟨⟨z, rfl⟩, tD_mono (tD_then hE1 q1) fun y H2 ⟨e, hy, s2, hE2, q2⟩ => ?_⟩
  obtain ⟨r, hr, q3⟩ := Res.post_of q2
  exact ⟨z, y, e, r, rfl, rfl, hy, hr, q3⟩
theorem ed_m0 {id : String} {name : Str} {apos : Pos} {g : Str → Option PyData} {f : SE} (slot : Slot "str" name id) (ty : typeOf (.builtin id) = pure (.type "method_descriptor"))
    (rule : MtR X id (fun x vs H Q => ∃ z r, x = .str z ∧ vs = [] ∧ g z = some r ∧ fut H fun H' => ∀ v, Dp X.K H' v r → Q v H'))
    (ho : PE X a (tD X.K W f)) (hbase : attributeBase a name X.env (eval a X.env) = eval a X.env := by rfl) (hline : (apos.endLine == pos.line) = true := by rfl) :
    PE X (.Call (.Attribute a name apos) [] [] pos) (tD X.K W (eM0 g f)) := by
  refine pe_weak (pe_m0 slot ty rule ho hbase hline) fun σ H Q q => ?_
  obtain ⟨ρ, hE, q⟩ := q
  refine tD_mono (tD_then hE q) fun x H1 ⟨d, hx, s1, hE1, q1⟩ => ?_
  obtain ⟨z, rfl, rfl⟩ : ∃ z, d = .str z ∧ x = .str z := by
    cases hx with
    | str z => exact ⟨z, rfl, rfl⟩
    | _ => exact q1.elim
  obtain ⟨r, hr, q3⟩ := Res.post_of q1
  exact ⟨⟨z, rfl⟩, z, r, rfl, rfl, hr, q3⟩
def joinD (z : Str) : PyData → Option PyData
  | .list ds => (strsOf ds).bind fun ys => if (ys.map (·.length)).sum + ys.length * z.length ≤ big then some (.str (Str.join z ys)) else none
  | _ => none
def indexD (z : Str) : PyData → Option PyData
  | .str b => (Builtin.Str.occurrences z b 0 z.length 1).head?.map fun i => .int (i : Nat)
  | _ => none
def findD (z : Str) : PyData → Option PyData
  | .str b => some (.int (Txt.find z b))
  | _ => none
def upperD (z : Str) : Option PyData := if z.length ≤ big then some (.str (Txt.upper z)) else none
theorem md_join : MtR X "str.join" (rMD X.K joinD) := mtR_weak mt_join fun x vs H Q ⟨z, y, e, r, hx, hv, hy, hg, q⟩ => by
  subst hx hv
  obtain ⟨a, xs, ds, rfl, rfl, h1, h2⟩ : ∃ a xs ds, e = .list ds ∧ y = .ref a ∧ SqL X.K H a xs ∧ DpAll X.K H xs ds := by
    cases hy with
    | lst h1 h2 => exact ⟨_, _, _, rfl, rfl, h1, h2⟩
    | _ => simp [joinD] at hg
  simp only [joinD] at hg
  simp only [Option.bind_eq_some_iff] at hg
  obtain ⟨ys, hs, hg⟩ := hg
  split at hg <;> cases hg
  rename_i hz
  rw [strsOf_map hs] at h2
  rw [dps_strs_of h2] at h1
  refine ⟨z, _, ys, rfl, rfl, .inl h1, Nat.le_trans hz (by decide), ?_⟩
  rw [TL.join_eq]
  exact q.now _ (.str _)
theorem md_index : MtR X "str.index" (rMD X.K indexD) := mtR_weak mt_sindex fun x vs H Q ⟨z, y, e, r, hx, hv, hy, hg, q⟩ => by
  subst hx hv
  obtain ⟨b, rfl, rfl⟩ : ∃ b, e = .str b ∧ y = .str b := by
    cases hy with
    | str z => exact ⟨z, rfl, rfl⟩
    | _ => simp [indexD] at hg
  simp only [indexD] at hg
  cases ho : Builtin.Str.occurrences z b 0 z.length 1 with
  | nil => rw [ho] at hg; cases hg
  | cons i rest =>
    rw [ho] at hg
    cases hg
    exact ⟨z, b, i, rest, rfl, rfl, ho, q.now _ (.int _)⟩
theorem md_find : MtR X "str.find" (rMD X.K findD) := mtR_weak mt_find fun x vs H Q ⟨z, y, e, r, hx, hv, hy, hg, q⟩ => by
  subst hx hv
  cases hy <;> simp only [findD, reduceCtorEq] at hg
  cases hg
  exact ⟨z, _, rfl, rfl, q.now _ (.int _)⟩
theorem md_upper : MtR X "str.upper" (fun x vs H Q => ∃ z r, x = .str z ∧ vs = [] ∧ upperD z = some r ∧ fut H fun H' => ∀ v, Dp X.K H' v r → Q v H') := mtR_weak mt_upper fun x vs H Q ⟨z, r, hx, hv, hg, q⟩ => by
  subst hx hv
  unfold upperD at hg
  split at hg <;> cases hg
  rename_i hz
  exact ⟨z, rfl, rfl, Nat.le_trans hz (by decide), q.now _ (.str _)⟩
theorem ed_join {apos : Pos} {f h : SE} (ho : PE X a (tD X.K W f)) (he : PE X b (tD X.K W h)) (hs : starEach [b] X.env = [(false, eval b X.env)] := by rfl) (hbase : attributeBase a "join" X.env (eval a X.env) = eval a X.env := by rfl) (hline : (apos.endLine == pos.line) = true := by rfl) :
    PE X (.Call (.Attribute a "join" apos) [b] [] pos) (tD X.K W (eM1 joinD f h)) := ed_m1 F.slot_str_join F.type_str_join md_join ho he hs hbase hline
theorem ed_sindex {apos : Pos} {f h : SE} (ho : PE X a (tD X.K W f)) (he : PE X b (tD X.K W h)) (hs : starEach [b] X.env = [(false, eval b X.env)] := by rfl) (hbase : attributeBase a "index" X.env (eval a X.env) = eval a X.env := by rfl) (hline : (apos.endLine == pos.line) = true := by rfl) :
    PE X (.Call (.Attribute a "index" apos) [b] [] pos) (tD X.K W (eM1 indexD f h)) := ed_m1 F.slot_str_index F.type_str_index md_index ho he hs hbase hline
theorem ed_find {apos : Pos} {f h : SE} (ho : PE X a (tD X.K W f)) (he : PE X b (tD X.K W h)) (hs : starEach [b] X.env = [(false, eval b X.env)] := by rfl) (hbase : attributeBase a "find" X.env (eval a X.env) = eval a X.env := by rfl) (hline : (apos.endLine == pos.line) = true := by rfl) :
    PE X (.Call (.Attribute a "find" apos) [b] [] pos) (tD X.K W (eM1 findD f h)) := ed_m1 F.slot_str_find F.type_str_find md_find ho he hs hbase hline
theorem ed_upper {apos : Pos} {f : SE} (ho : PE X a (tD X.K W f)) (hbase : attributeBase a "upper" X.env (eval a X.env) = eval a X.env := by rfl) (hline : (apos.endLine == pos.line) = true := by rfl) :
    PE X (.Call (.Attribute a "upper" apos) [] [] pos) (tD X.K W (eM0 upperD f)) := ed_m0 F.slot_str_upper F.type_str_upper md_upper ho hbase hline

/-! ### calls of the text's defs -/
def spD (K : PySem.W.Frag) (cls : Nat → Value) (n : Nat) (g : List PyData → Res PyData) : Sp := fun vs H Q E => vs.length = n ∧ ∃ ds, DpAll K H vs ds ∧ (g ds).post (fun d => fut H fun H' => ∀ v, Dp K H' v d → Q v H') fun m => fut H fun H' => E (cls m) none H'
structure Callee (P : Program) (w : World) (K : PySem.W.Frag) (mg : Str → Option Value) (base : Heap) (CX : CXT) (cls : Nat → Value) (x : Str) (k : Nat) (ps : List Str) (g : List PyData → Res PyData) : Prop where
  ex : ∃ f fd, FnOk P w K mg base CX k f fd ps (spD K cls ps.length g) ∧ mg x = some (.ref f) ∧ PySem.W.keepIn K (.ref f) = true ∧ Binds K fd ps [] ∧ ∃ oc od osl, K.lookup f = some ⟨oc, od, .func fd, osl⟩
def wishE (cls : Nat → Value) (W : Wis) : XK := fun c d H => ∃ m, c = cls m ∧ d = none ∧ W m H
theorem sp_then {K : PySem.W.Frag} {cls : Nat → Value} {n : Nat} {g : List PyData → Res PyData} {f : SA} {σ : L2.St} {H : Hp} {Q : VK} (hn : ∀ ρ ds, f ρ = .ok ds → ds.length = n) (h : tD K W (eCall g f) σ H Q) :
    tCall (spD K cls n g) [] (wishE cls W) (taD K W f) σ H Q := by
  obtain ⟨ρ, hE, q⟩ := h
  unfold eCall at q
  cases hfr : f ρ with
  | bad => rw [hfr] at q; exact q.elim
  | ex m => rw [hfr] at q; exact ⟨ρ, hE, by rw [hfr]; exact q⟩
  | ok ds =>
    rw [hfr] at q
    refine ⟨ρ, hE, ?_⟩
    rw [hfr]
    intro H1 s1 vs hvs
    rw [List.append_nil]
    refine ⟨(dps_len hvs).trans (hn ρ ds hfr), ds, hvs, q.mono (fun d r => r.on s1) fun m r H' s' => ⟨m, rfl, rfl, r _ (s1.trans s')⟩⟩
theorem ed_call {CX : CXT} {cls : Nat → Value} {x : Str} {k : Nat} {ps : List Str} {g : List PyData → Res PyData} {p : Pos} {es : List Expr} {f : SA} (C : Callee X.prog X.w X.K X.mg X.base CX cls x k ps g) (hr : Room k X.A) (hx : Passes CX X (wishE cls W)) (ha : PA X (a :: es) (taD X.K W f))
    (hn : ∀ ρ ds, f ρ = .ok ds → ds.length = ps.length) (hg : Gl X x := by rfl) (hdb : (x == ("__debug__" : Str)) = false := by decide) (he : starEach (a :: es) X.env = (false, eval a X.env) :: starEach es X.env := by rfl) (hpl : (backTo pos (starEach es X.env)).any (·.1) = false := by rfl) :
    PE X (.Call (.Name x p) (a :: es) [] pos) (tD X.K W (eCall g f)) := by
  obtain ⟨fa, fd, F, hm, hk, hb, _⟩ := C.ex
  exact pe_weak (pe_call F hr hg hm hk hb .nil hx ha hdb he hpl) fun σ H Q h => sp_then hn h
theorem passD {cls : Nat → Value} : Passes CX0 X (wishE cls W) := fun _ _ _ _ _ _ _ h => h.elim
theorem an_nil (ρ : PEnv) (ds : List PyData) (h : aNil ρ = .ok ds) : ds.length = 0 := by cases h; rfl
theorem an_cons {n : Nat} {f : SE} {g : SA} (hg : ∀ ρ ds, g ρ = .ok ds → ds.length = n) (ρ : PEnv) (ds : List PyData) (h : aCons f g ρ = .ok ds) : ds.length = n + 1 := by
  unfold aCons at h
  cases h1 : f ρ with
  | ok d =>
    rw [h1] at h
    cases h2 : g ρ with
    | ok es =>
      rw [h2] at h
      cases h
      exact congrArg (· + 1) (hg ρ es h2)
    | ex m => rw [h2] at h; cases h
    | bad => rw [h2] at h; cases h
  | ex m => rw [h1] at h; cases h
  | bad => rw [h1] at h; cases h
end
end DL

set_option Elab.async false
set_option linter.all false
set_option maxRecDepth 100000
set_option maxHeartbeats 2000000
namespace DL
open PySem L2 PyProof.Rows

/-! ### what is walked -/
/-- the iterator J gives the data ds -/
def Walks (K : PySem.W.Frag) (J : It) (H : Hp) (ds : List PyData) : Prop := ∀ (i : Nat) (H' : Hp), Same H H' →
  (∀ d, ds[i]? = some d → J.go i H' ∧ ∀ x H2, J.yld i H' x H2 → H2 = H' ∧ Dp K H' x d) ∧ (ds.length ≤ i → J.stop i H')
theorem Walks.mono {K : PySem.W.Frag} {J : It} {H H' : Hp} {ds : List PyData} (h : Walks K J H ds) (s : Same H H') : Walks K J H' ds := fun i H2 s2 => h i H2 (s.trans s2)
def tiD (K : PySem.W.Frag) (W : Wis) (f : SA) : TI := fun σ H R => ∃ ρ, EnvR K H σ ρ ∧ (f ρ).post (fun ds => fut H fun H' => ∀ J, Walks K J H' ds → R J H') fun n => fut H (W n)
theorem pi_weak {X : Cx} {tg iter : Expr} {t t' : TI} (h : PI X tg iter t) (w : ∀ σ H R, t' σ H R → t σ H R) : PI X tg iter t' := ⟨fun pins s σ H R I q => h.run pins s σ H R I (w σ H R q)⟩
def sList (f : SE) : SA := fun ρ => (f ρ).bind fun x => match x with
  | .list xs => .ok xs
  | _ => .bad
def sTup (f : SE) : SA := fun ρ => (f ρ).bind fun x => match x with
  | .tuple xs => .ok xs
  | _ => .bad
def sStr (f : SE) : SA := fun ρ => (f ρ).bind fun x => match x with
  | .str z => .ok (z.cps.toList.map fun c => .str ⟨#[c]⟩)
  | _ => .bad
def upTo (lo : Int) (n : Nat) : List PyData := (List.range n).map fun i => .int (lo + (i : Nat))
def sRng1 (f : SA) : SA := fun ρ => (f ρ).bind fun xs => match xs with
  | [.int j] => if -big ≤ j ∧ j ≤ big then .ok (upTo 0 j.toNat) else .bad
  | _ => .bad
def sRng2 (f : SA) : SA := fun ρ => (f ρ).bind fun xs => match xs with
  | [.int i, .int j] => if -big ≤ i ∧ i ≤ big ∧ -big ≤ j ∧ j ≤ big then .ok (upTo i (j - i).toNat) else .bad
  | _ => .bad
theorem walks_lst {K : PySem.W.Frag} {H : Hp} {a : Addr} {xs : List V} {ds : List PyData} (h : SqL K H a xs) (hd : DpAll K H xs ds) : Walks K (Itl K a) H ds := fun i H' s => by
  have h' := s.seq h
  refine ⟨fun d e => ?_, fun e => ⟨xs, h', by rw [dps_len hd]; exact e⟩⟩
  obtain ⟨v, hv, hdv⟩ := dps_get (dps_mono s _ _ hd) e
  refine ⟨⟨xs, v, h', hv⟩, fun x H2 ⟨e2, y⟩ => ⟨e2, ?_⟩⟩
  have z := y xs h'
  rw [hv] at z
  cases z
  exact hdv
theorem walks_tup {K : PySem.W.Frag} {H : Hp} {a : Addr} {xs : List V} {ds : List PyData} (h : SqT K H a xs) (hd : DpAll K H xs ds) : Walks K (Itt K a) H ds := fun i H' s => by
  have h' := sqT_same s h
  refine ⟨fun d e => ?_, fun e => ⟨xs, h', by rw [dps_len hd]; exact e⟩⟩
  obtain ⟨v, hv, hdv⟩ := dps_get (dps_mono s _ _ hd) e
  refine ⟨⟨xs, v, h', hv⟩, fun x H2 ⟨e2, y⟩ => ⟨e2, ?_⟩⟩
  have z := y xs h'
  rw [hv] at z
  cases z
  exact hdv
theorem walks_rng {K : PySem.W.Frag} {H : Hp} {lo : Int} {n : Nat} : Walks K (Itr lo n) H (upTo lo n) := fun i H' s => by
  refine ⟨fun d e => ?_, fun e => ?_⟩
  · unfold upTo at e
    rw [List.getElem?_map] at e
    cases q : (List.range n)[i]? with
    | none => rw [q] at e; cases e
    | some j =>
      rw [q] at e
      cases e
      obtain ⟨h1, h2⟩ := List.getElem?_eq_some_iff.mp q
      rw [List.getElem_range] at h2
      subst h2
      rw [List.length_range] at h1
      exact ⟨h1, fun x H2 ⟨e2, y⟩ => ⟨e2, by rw [y]; exact .int _⟩⟩
  · unfold upTo at e
    rw [List.length_map, List.length_range] at e
    exact e
theorem walks_str {K : PySem.W.Frag} {H : Hp} {z : Str} : Walks K (Its z) H (z.cps.toList.map fun c => .str ⟨#[c]⟩) := fun i H' s => by
  refine ⟨fun d e => ?_, fun e => ?_⟩
  · rw [List.getElem?_map, Array.getElem?_toList] at e
    cases q : z.cps[i]? with
    | none => rw [q] at e; cases e
    | some c =>
      rw [q] at e
      cases e
      refine ⟨(Array.getElem?_eq_some_iff.mp q).1, fun x H2 ⟨e2, c2, y, e3⟩ => ⟨e2, ?_⟩⟩
      rw [q] at y
      cases y
      rw [e3]
      exact .str _
  · rw [List.length_map, Array.length_toList] at e
    exact e
section
variable {X : Cx} {W : Wis} {a b tg : Expr} {pos : Pos}
theorem id_list {f : SE} (h : PE X a (tD X.K W f)) : PI X tg a (tiD X.K W (sList f)) := pi_weak (pi_list h) fun σ H R q => by
  obtain ⟨ρ, hE, q⟩ := q
  refine tD_mono (tD_then hE q) fun x H1 ⟨d, hx, s1, hE1, q1⟩ => ?_
  cases hx with
  | lst h1 h2 => exact ⟨_, rfl, ⟨_, h1⟩, q1.now _ (walks_lst h1 h2)⟩
  | _ => exact q1.elim
theorem id_tup {f : SE} (h : PE X a (tD X.K W f)) : PI X tg a (tiD X.K W (sTup f)) := pi_weak (pi_tup h) fun σ H R q => by
  obtain ⟨ρ, hE, q⟩ := q
  refine tD_mono (tD_then hE q) fun x H1 ⟨d, hx, s1, hE1, q1⟩ => ?_
  cases hx with
  | tup h1 h2 => exact ⟨_, rfl, ⟨_, h1⟩, q1.now _ (walks_tup h1 h2)⟩
  | _ => exact q1.elim
theorem id_str {f : SE} (h : PE X a (tD X.K W f)) : PI X tg a (tiD X.K W (sStr f)) := pi_weak (pi_str h) fun σ H R q => by
  obtain ⟨ρ, hE, q⟩ := q
  refine tD_mono (tD_then hE q) fun x H1 ⟨d, hx, s1, hE1, q1⟩ => ?_
  cases hx with
  | str z => exact ⟨_, rfl, q1.now _ walks_str⟩
  | _ => exact q1.elim
theorem id_rng1 {f : SA} {p : Pos} (hm : X.mg "range" = none) (ha : PA X [a] (taD X.K W f)) (hg : Gl X "range" := by rfl) (hs : starEach [a] X.env = [(false, eval a X.env)] := by rfl) : PI X tg (.Call (.Name "range" p) [a] [] pos) (tiD X.K W (sRng1 f)) :=
  pi_weak (pi_range1 hg hm ha hs) fun σ H R q => by
  obtain ⟨ρ, hE, q⟩ := q
  refine taD_mono (taD_then hE q) fun x H1 ⟨d, hx, s1, hE1, q1⟩ => ?_
  split at q1
  · split at q1
    · rename_i j hj
      cases hx with
      | cons h1 h2 =>
        cases h1; cases h2
        simp only [big] at hj
        exact ⟨j, rfl, by omega, by omega, q1.now _ walks_rng⟩
    · exact q1.elim
  · exact q1.elim
theorem id_rng2 {f : SA} {p : Pos} (hm : X.mg "range" = none) (ha : PA X [a, b] (taD X.K W f)) (hg : Gl X "range" := by rfl) (hs : starEach [a, b] X.env = [(false, eval a X.env), (false, eval b X.env)] := by rfl) (hs2 : starEach [b] X.env = [(false, eval b X.env)] := by rfl) :
    PI X tg (.Call (.Name "range" p) [a, b] [] pos) (tiD X.K W (sRng2 f)) := pi_weak (pi_range2 hg hm ha hs hs2) fun σ H R q => by
  obtain ⟨ρ, hE, q⟩ := q
  refine taD_mono (taD_then hE q) fun x H1 ⟨d, hx, s1, hE1, q1⟩ => ?_
  split at q1
  · split at q1
    · rename_i i j hj
      cases hx with
      | cons h1 h2 =>
        cases h1
        cases h2 with
        | cons h1 h2 =>
        cases h1; cases h2
        simp only [big] at hj
        exact ⟨i, j, rfl, by omega, q1.now _ walks_rng⟩
    · exact q1.elim
  · exact q1.elim

/-! ### comprehensions -/
def Res.calm {α : Type} : Res α → Res α
  | .ok a => .ok a
  | _ => .bad
theorem Res.post_calm {α : Type} {r : Res α} {p : α → Prop} {e g : Nat → Prop} (h : (Res.calm r).post p e) : r.post p g := by
  cases r with
  | ok a => exact h
  | ex n => exact h.elim
  | bad => exact h.elim
def lcGo (env : PyData → PEnv) (t : ST) (f : SE) : List PyData → Res (List PyData)
  | [] => .ok []
  | d :: ds => (Res.calm (t (env d))).bind fun b => if b then (Res.calm (f (env d))).bind fun y => if frz y then (lcGo env t f ds).bind fun ys => .ok (y :: ys) else .bad else lcGo env t f ds
def eLc (i : Nat) (src : SA) (t : ST) (f : SE) : SE := fun ρ => (src ρ).bind fun xs => if xs.length ≤ big then (Res.calm (lcGo (fun d => (ρ.set i none).set i (some d)) t f xs)).bind fun ys => .ok (.list ys) else .bad
def tTrue : ST := fun _ => .ok true
theorem wipe_one {σ : L2.St} {i : Nat} {x : Option V} : wipe ((wipe σ [i]).set i x) [i] = wipe σ [i] := by
  simp [wipe]
theorem lcGo_le {env : PyData → PEnv} {t : ST} {f : SE} : ∀ {xs ys : List PyData}, lcGo env t f xs = .ok ys → ys.length ≤ xs.length
  | [], ys, h => by cases h; exact Nat.le_refl _
  | d :: ds, ys, h => by
    unfold lcGo at h
    cases h1 : Res.calm (t (env d)) with
    | ex n => rw [h1] at h; cases h
    | bad => rw [h1] at h; cases h
    | ok b =>
      rw [h1] at h
      cases b with
      | false => exact Nat.le_succ_of_le (lcGo_le h)
      | true =>
        simp only [Res.ok_bind, if_true] at h
        cases h2 : Res.calm (f (env d)) with
        | ex n => rw [h2] at h; cases h
        | bad => rw [h2] at h; cases h
        | ok y =>
          rw [h2] at h
          simp only [Res.ok_bind] at h
          split at h
          · cases h3 : lcGo env t f ds with
            | ex n => rw [h3] at h; cases h
            | bad => rw [h3] at h; cases h
            | ok zs =>
              rw [h3] at h
              cases h
              exact Nat.succ_le_succ (lcGo_le h3)
          · cases h
theorem lc_then {K : PySem.W.Frag} {i : Nat} {src : SA} {t : ST} {f : SE} {σ : L2.St} {H : Hp} {Q : VK} (q : tD K W (eLc i src t f) σ H Q) :
    tLc (tiD K W src) (gName i) (ttD K (fun _ _ => False) t) (tD K (fun _ _ => False) f) [i] σ H Q := by
  obtain ⟨ρ, hE, q⟩ := q
  unfold eLc at q
  refine ⟨ρ, hE, (Res.post_bind.mp q).mono (fun xs r H1 s1 J hJ D hD => ?_) fun n r => r⟩
  split at r
  · rename_i hz
    generalize hg : Res.calm (lcGo (fun d => (ρ.set i none).set i (some d)) t f xs) = g at r
    cases g with
    | bad => exact r.elim
    | ex n => cases hq : lcGo (fun d => (ρ.set i none).set i (some d)) t f xs <;> rw [hq] at hg <;> cases hg
    | ok tot =>
      have hg2 : lcGo (fun d => (ρ.set i none).set i (some d)) t f xs = .ok tot := by
        cases hq : lcGo (fun d => (ρ.set i none).set i (some d)) t f xs <;> rw [hq] at hg <;> cases hg
        rfl
      have htot := lcGo_le hg2
      refine ⟨fun k m H' => m = xs.length - k ∧ k ≤ xs.length ∧ Same H1 H' ∧ ∃ acc ys zs, H' D = some (.lst acc) ∧ DpAll K H' acc ys ∧ frzs ys = true ∧ lcGo (fun d => (ρ.set i none).set i (some d)) t f (xs.drop k) = .ok zs ∧ tot = ys ++ zs,
        ⟨xs.length, by simp, Nat.zero_le _, same_new hD _, [], [], tot, upd_same, .nil, rfl, by rw [List.drop_zero]; exact hg2, rfl⟩, ?_⟩
      rintro k m H' ⟨rfl, hk, s, acc, ys, zs, hacc, hys, hfr, hgo, htz⟩
      obtain ⟨w1, w2⟩ := hJ k H' s
      by_cases hlt : k < xs.length
      · have hx : xs[k]? = some xs[k] := List.getElem?_eq_getElem hlt
        obtain ⟨go, yl⟩ := w1 _ hx
        refine .inr ⟨go, fun H2 => Same H1 H2 ∧ ∃ acc ys zs, H2 D = some (.lst acc) ∧ DpAll K H2 acc ys ∧ frzs ys = true ∧ lcGo (fun d => (ρ.set i none).set i (some d)) t f (xs.drop (k + 1)) = .ok zs ∧ tot = ys ++ zs, fun H2 h2 => ⟨xs.length - (k + 1), by omega, rfl, hlt, h2⟩, fun x H2 y => ?_⟩
        obtain ⟨e2, hdx⟩ := yl x H2 y
        subst e2
        rw [List.drop_eq_getElem_cons hlt] at hgo
        unfold lcGo at hgo
        refine ⟨wipe_one, ?_⟩
        have hE2 : EnvR K H2 ((wipe σ [i]).set i (some x)) ((ρ.set i none).set i (some xs[k])) := by
          refine EnvR.set ?_ hdx
          exact (hE.mono (s1.trans s)).forget
        cases ht : t ((ρ.set i none).set i (some xs[k])) with
        | bad => rw [ht] at hgo; cases hgo
        | ex n => rw [ht] at hgo; cases hgo
        | ok b =>
          rw [ht] at hgo
          refine ⟨_, hE2, ?_⟩
          rw [ht]
          intro H3 s3
          cases b with
          | false =>
            exact iteF ⟨s.trans s3, acc, ys, zs, s3 _ _ hacc, dps_mono s3 _ _ hys, hfr, hgo, htz⟩
          | true =>
            refine iteT ?_
            simp only [Res.calm, Res.ok_bind, if_true] at hgo
            cases hf : f ((ρ.set i none).set i (some xs[k])) with
            | bad => rw [hf] at hgo; cases hgo
            | ex n => rw [hf] at hgo; cases hgo
            | ok y =>
              rw [hf] at hgo
              simp only [Res.calm, Res.ok_bind] at hgo
              split at hgo
              · rename_i hy
                refine ⟨_, hE2.mono s3, ?_⟩
                rw [hf]
                intro H4 s4 v hv
                cases hr : lcGo (fun d => (ρ.set i none).set i (some d)) t f (xs.drop (k + 1)) with
                | bad => rw [hr] at hgo; cases hgo
                | ex n => rw [hr] at hgo; cases hgo
                | ok zs' =>
                  rw [hr] at hgo
                  cases hgo
                  have hacc4 := s4 _ _ (s3 _ _ hacc)
                  have hla := dps_len hys
                  have hz2 := big_line
                  have h5 : acc.length < sizeLine := by
                    have h6 : tot.length = ys.length + (zs'.length + 1) := by rw [htz, List.length_append, List.length_cons]
                    omega
                  refine ⟨acc, hacc4, h5, fun b o q => ?_, acc ++ [v], ys ++ [y], zs', upd_same, dps_append (frzs_mono (sqT_lst hacc4) _ _ hfr (dps_mono (s3.trans s4) _ _ hys)) (.cons (frz_mono (sqT_lst hacc4) _ _ hy hv) .nil), ?_, rfl, by rw [htz, List.append_assoc]; rfl⟩
                  · rw [upd_ne (ne_of_none q hD)]
                    exact s4 _ _ (s3 _ _ (s _ _ q))
                  · have hfa : ∀ (as bs : List PyData), frzs (as ++ bs) = (frzs as && frzs bs) := by
                      intro as bs
                      induction as with
                      | nil => simp [frzs]
                      | cons a as ih => simp [frzs, ih, Bool.and_assoc]
                    rw [hfa, hfr]
                    simp [frzs, hy]
              · cases hgo
      · have e : k = xs.length := by omega
        subst e
        rw [List.drop_length] at hgo
        cases hgo
        refine .inl ⟨w2 (Nat.le_refl _), ?_⟩
        rw [List.append_nil] at htz
        subst htz
        exact r _ (s1.trans s) _ (.lst (SqL.of hacc) hys)
  · exact r.elim
theorem ed_lc {elt iter : Expr} {ifs : List Expr} {scope : Scope} {x : Str} {i : Nat} {src : SA} {t : ST} {f : SE} (hc : X.calm = true) (hN : X.N.Nodup) (hi : PI X tg iter (tiD X.K W src)) (ok : BlkOk X.N X.env.scope scope [(x, i)])
    (hg : ∀ (s : Shared) (H : Hp) (C : Addr) (cl : List (Str × Addr)) (fp : List Addr), PG (X.blk s H scope (compEnvC scope cl C X.env) fp) tg (gName i)) (ht : ∀ (s : Shared) (H : Hp) (C : Addr) (cl : List (Str × Addr)) (fp : List Addr), PTs (X.blk s H scope (compEnvC scope cl C X.env) fp) ifs (ttD X.K (fun _ _ => False) t))
    (he : ∀ (s : Shared) (H : Hp) (C : Addr) (cl : List (Str × Addr)) (fp : List Addr), PE (X.blk s H scope (compEnvC scope cl C X.env) fp) elt (tD X.K (fun _ _ => False) f)) (hs : ∀ x, foldedSetIterable iter X.env x = pure x := by intro _; rfl) :
    PE X (.ListComp elt [⟨tg, iter, ifs, 0⟩] scope pos) (tD X.K W (eLc i src t f)) :=
  pe_weak (pe_lc hc hN hi ok hg ht he hs) fun σ H Q q => lc_then q
theorem tds_nil : PTs X [] (ttD X.K W tTrue) := ⟨fun pins s σ H Q I h => pts_nil.run pins s σ H Q I (by
  obtain ⟨ρ, hE, q⟩ := h
  exact q.now)⟩
theorem tds_one {t : ST} (h : PT X a (ttD X.K W t)) : PTs X [a] (ttD X.K W t) := pts_one h
end
end DL

set_option Elab.async false
set_option linter.all false
set_option maxRecDepth 100000
set_option maxHeartbeats 2000000
namespace DL
open PySem L2 PyProof.Rows

/-! ### statements -/
def sNext : SS := fun ρ => .ok (.nx ρ)
def sSeq (F G : SS) : SS := fun ρ => (F ρ).bind fun o => match o with
  | .nx ρ' => G ρ'
  | .rt d => .ok (.rt d)
  | .bk ρ' => .ok (.bk ρ')
  | .ct ρ' => .ok (.ct ρ')
def sSet (i : Nat) (f : SE) : SS := fun ρ => (f ρ).bind fun d => .ok (.nx (ρ.set i (some d)))
def sDrop (f : SE) : SS := fun ρ => (f ρ).bind fun _ => .ok (.nx ρ)
def sRet (f : SE) : SS := fun ρ => (f ρ).bind fun d => .ok (.rt d)
def sRetN : SS := fun _ => .ok (.rt .none)
def sIf (t : ST) (F G : SS) : SS := fun ρ => (t ρ).bind fun b => if b then F ρ else G ρ
def sBreak : SS := fun ρ => .ok (.bk ρ)
def sCont : SS := fun ρ => .ok (.ct ρ)
/-- what a target does with a value -/
abbrev SG := PyData → PEnv → Option PEnv
abbrev SGs := List PyData → PEnv → Option PEnv
def gN (i : Nat) : SG := fun d ρ => some (ρ.set i (some d))
def gsNil : SGs := fun ds ρ => match ds with
  | [] => some ρ
  | _ => none
def gsCons (g : SG) (gs : SGs) : SGs := fun ds ρ => match ds with
  | d :: r => (g d ρ).bind fun ρ' => gs r ρ'
  | [] => none
def gT (n : Nat) (gs : SGs) : SG := fun d ρ => match d with
  | .tuple ds => if ds.length = n then gs ds ρ else none
  | _ => none
def sAsg (f : SE) (g : SG) : SS := fun ρ => (f ρ).bind fun d => (Res.of (g d ρ)).bind fun ρ' => .ok (.nx ρ')
def forGo (g : SG) (F : SS) : List PyData → PEnv → Res Out
  | [], ρ => .ok (.nx ρ)
  | d :: ds, ρ => (Res.of (g d ρ)).bind fun ρ1 => (F ρ1).bind fun o => match o with
    | .nx ρ' => forGo g F ds ρ'
    | .ct ρ' => forGo g F ds ρ'
    | .bk ρ' => .ok (.nx ρ')
    | .rt d => .ok (.rt d)
def sFor (src : SA) (g : SG) (F : SS) : SS := fun ρ => (src ρ).bind fun ds => forGo g F ds ρ
def whGo (t : ST) (F : SS) : Nat → PEnv → Res Out
  | 0, _ => .bad
  | n + 1, ρ => (t ρ).bind fun b => if b then (F ρ).bind fun o => match o with
      | .nx ρ' => whGo t F n ρ'
      | .ct ρ' => whGo t F n ρ'
      | .bk ρ' => .ok (.nx ρ')
      | .rt d => .ok (.rt d)
    else .ok (.nx ρ)
def sWh (n : Nat) (t : ST) (F : SS) : SS := whGo t F n
/-- reading of a target -/
def tgD (K : PySem.W.Frag) (g : SG) : TG := fun v σ H Q => ∃ d ρ, Dp K H v d ∧ EnvR K H σ ρ ∧ ∃ ρ', g d ρ = some ρ' ∧ ∀ σ', EnvR K H σ' ρ' → Q σ' H
def tgsD (K : PySem.W.Frag) (g : SGs) : TGs := fun vs σ H Q => ∃ ds ρ, DpAll K H vs ds ∧ EnvR K H σ ρ ∧ ∃ ρ', g ds ρ = some ρ' ∧ ∀ σ', EnvR K H σ' ρ' → Q σ' H
section
variable {X : Cx} {W : Wis} {a b tg : Expr} {pos : Pos} {st : Stmt} {rest : List Stmt} {F G : SS}
theorem pg_weak {t t' : TG} (h : PG X tg t) (w : ∀ v σ H Q, t' v σ H Q → t v σ H Q) : PG X tg t' := ⟨fun pins s σ H v u Q I r q => h.run pins s σ H v u Q I r (w v σ H Q q)⟩
theorem pgs_weak {ts : List Expr} {t t' : TGs} (h : PGs X ts t) (w : ∀ v σ H Q, t' v σ H Q → t v σ H Q) : PGs X ts t' := ⟨fun pins s σ H v u Q I r q => h.run pins s σ H v u Q I r (w v σ H Q q)⟩
theorem gd_name {i : Nat} {x : Str} (hN : X.N.Nodup) (hi : X.N[i]? = some x := by rfl) (hx : Loc X.env.scope x := by first | exact Or.inl rfl | exact Or.inr rfl) (hf : X.fn x = true ∨ X.env.scope.names.lookup x = some .local := by first | exact .inl rfl | exact .inr rfl | assumption) : PG X (.Name x pos) (tgD X.K (gN i)) :=
  pg_weak (pg_name hN hi hx hf) fun v σ H Q ⟨d, ρ, hv, hE, ρ', e, q⟩ => by
    cases e
    exact q _ (hE.set hv)
theorem gds_nil : PGs X [] (tgsD X.K gsNil) := pgs_weak pgs_nil fun v σ H Q ⟨ds, ρ, hv, hE, ρ', e, q⟩ => by
  cases hv with
  | nil => cases e; exact ⟨rfl, q _ hE⟩
  | cons _ _ => cases e
theorem gds_cons {e : Expr} {es : List Expr} {g : SG} {gs : SGs} (h1 : PG X e (tgD X.K g)) (h2 : PGs X es (tgsD X.K gs))
    (hs : (assignEach (e :: es) X.env).map (·.2) = assign e X.env :: (assignEach es X.env).map (·.2) := by rfl) : PGs X (e :: es) (tgsD X.K (gsCons g gs)) := pgs_weak (pgs_cons h1 h2 hs) fun v σ H Q ⟨ds, ρ, hv, hE, ρ', e, q⟩ => by
  cases hv with
  | nil => cases e
  | @cons v1 vs1 d1 ds1 h3 h4 =>
    simp only [gsCons, Option.bind_eq_some_iff] at e
    obtain ⟨ρ1, h5, e⟩ := e
    exact ⟨_, _, rfl, d1, ρ, h3, hE, ρ1, h5, fun σ1 hE1 => ⟨ds1, ρ1, h4, hE1, ρ', e, q⟩⟩
theorem gd_tup {es : List Expr} {k n : Nat} {gs : SGs} (hc : X.calm = true) (h : PGs X es (tgsD X.K gs)) (hn : (assignEach es X.env).length = n := by rfl) (hst : (assignEach es X.env).findIdx? (·.1) = none := by rfl) : PG X (.Tuple es k pos) (tgD X.K (gT n gs)) :=
  pg_weak (pg_tup hc h hn hst) fun v σ H Q ⟨d, ρ, hv, hE, ρ', e, q⟩ => by
    cases hv with
    | tup h1 h2 =>
      simp only [gT] at e
      split at e
      · rename_i hz
        exact ⟨_, _, rfl, h1, by rw [dps_len h2]; exact hz, _, ρ, h2, hE, ρ', e, q⟩
      · cases e
    | _ => cases e
theorem pssd_nil : PSs X [] (tsD X.K W sNext) := pss_weak pss_nil fun D σ H ⟨ρ, hE, q⟩ => q.now σ hE
theorem outP_seq {K : PySem.W.Frag} {D : Ends} {σ : L2.St} {H : Hp} {r : Res Out} (h : (r.bind fun o => match o with
    | .nx ρ' => G ρ'
    | .rt d => .ok (.rt d)
    | .bk ρ' => .ok (.bk ρ')
    | .ct ρ' => .ok (.ct ρ')).post (fun o => fut H (outP K D o)) fun n => fut H (W n)) :
    r.post (fun o => fut H (outP K { D with nx := tsD K W G D } o)) fun n => fut H (W n) :=
  (Res.post_bind.mp h).mono (fun o r => by
    cases o with
    | nx ρ' => exact fun H' s σ' hE => ⟨ρ', hE, r.mono (fun b q => q.on s) fun n q => q.on s⟩
    | rt d => exact r
    | bk ρ' => exact r
    | ct ρ' => exact r) fun n r => r
theorem pssd_cons (h1 : PS X st (tsD X.K W F)) (h2 : PSs X rest (tsD X.K W G)) : PSs X (st :: rest) (tsD X.K W (sSeq F G)) := pss_weak (pss_cons h1 h2) fun D σ H ⟨ρ, hE, q⟩ => ⟨ρ, hE, outP_seq (σ := σ) q⟩
theorem pssd_one (h1 : PS X st (tsD X.K W F)) : PSs X [st] (tsD X.K W F) := pss_one h1
theorem psd_ret {f : SE} (he : PE X a (tD X.K W f)) : PS X (.Return (some a) pos) (tsD X.K W (sRet f)) := ps_weak (ps_ret he) fun D σ H ⟨ρ, hE, q⟩ => tD_mono (tD_then hE q) fun x H1 ⟨d, hx, s1, hE1, q1⟩ => q1.now _ hx
theorem psd_retN : PS X (.Return none pos) (tsD X.K W sRetN) := ps_weak ps_retN fun D σ H ⟨ρ, hE, q⟩ => q.now _ .non
theorem psd_break : PS X (.Break pos) (tsD X.K W sBreak) := ps_weak ps_break fun D σ H ⟨ρ, hE, q⟩ => q.now σ hE
theorem psd_cont : PS X (.Continue pos) (tsD X.K W sCont) := ps_weak ps_continue fun D σ H ⟨ρ, hE, q⟩ => q.now σ hE
theorem psd_pass : PS X (.Pass pos) (tsD X.K W sNext) := ps_weak ps_pass fun D σ H ⟨ρ, hE, q⟩ => q.now σ hE
theorem psd_expr {f : SE} (he : PE X a (tD X.K W f)) (hs : swapsWith a none pos.line X.env = pure false := by rfl) : PS X (.Expr a pos) (tsD X.K W (sDrop f)) := ps_weak (ps_expr he hs) fun D σ H ⟨ρ, hE, q⟩ => tD_mono (tD_then hE q) fun x H1 ⟨d, hx, s1, hE1, q1⟩ => q1.now _ hE1
theorem psd_set {i : Nat} {x : Str} {f : SE} {pos' : Pos} (hN : X.N.Nodup) (he : PE X a (tD X.K W f)) (hi : X.N[i]? = some x := by rfl) (hx : Loc X.env.scope x := by first | exact Or.inl rfl | exact Or.inr rfl) (hs : swapsWith a (some (.Name x pos')) pos.line X.env = pure false := by rfl)
    (hf : X.fn x = true ∨ X.env.scope.names.lookup x = some .local := by first | exact .inl rfl | exact .inr rfl | assumption) : PS X (.Assign [.Name x pos'] a pos) (tsD X.K W (sSet i f)) :=
  ps_weak (ps_set hN hi hx he hs hf) fun D σ H ⟨ρ, hE, q⟩ => tD_mono (tD_then hE q) fun x H1 ⟨d, hx, s1, hE1, q1⟩ => q1.now _ (hE1.set hx)
theorem psd_setLc {i j : Nat} {y x : Str} {py : Pos} {elt iter : Expr} {ifs : List Expr} {scope : Scope} {pos spos : Pos} {src : SA} {t : ST} {f : SE} (hc : X.calm = true) (hN : X.N.Nodup) (hi : PI X tg iter (tiD X.K W src)) (ok : BlkOk X.N X.env.scope scope [(x, j)])
    (hg : ∀ (s : Shared) (H : Hp) (C : Addr) (cl : List (Str × Addr)) (fp : List Addr), PG (X.blk s H scope (compEnvC scope cl C X.env) fp) tg (gName j)) (ht : ∀ (s : Shared) (H : Hp) (C : Addr) (cl : List (Str × Addr)) (fp : List Addr), PTs (X.blk s H scope (compEnvC scope cl C X.env) fp) ifs (ttD X.K (fun _ _ => False) t))
    (he : ∀ (s : Shared) (H : Hp) (C : Addr) (cl : List (Str × Addr)) (fp : List Addr), PE (X.blk s H scope (compEnvC scope cl C X.env) fp) elt (tD X.K (fun _ _ => False) f))
    (hsw : swapsWith (.ListComp elt [⟨tg, iter, ifs, 0⟩] scope pos) (some (.Name y py)) spos.line X.env = pure true := by exact sw_true rfl rfl rfl (by decide +kernel))
    (hy : X.N[i]? = some y := by rfl) (hyl : X.env.scope.names.lookup y = some .local := by rfl) (hs : ∀ x, foldedSetIterable iter X.env x = pure x := by intro _; rfl) :
    PS X (.Assign [.Name y py] (.ListComp elt [⟨tg, iter, ifs, 0⟩] scope pos) spos) (tsD X.K W (sSet i (eLc j src t f))) :=
  ps_weak (ps_setLc hc hN hy hyl hsw hi ok hg ht he hs) fun D σ H ⟨ρ, hE, q⟩ => lc_then (tD_mono (tD_then hE q) fun x H1 ⟨d, hx, s1, hE1, q1⟩ => q1.now _ (hE1.set hx))
theorem psd_asg {f : SE} {g : SG} (he : PE X a (tD X.K W f)) (hg : PG X tg (tgD X.K g)) (hs : swapsWithSole [tg] a pos.line X.env = pure false := by rfl) (hw : swappedStores [tg] a X.env = pure none := by rfl)
    (h1 : (assignEach [tg] X.env).map (·.2) = [assign tg X.env] := by rfl) : PS X (.Assign [tg] a pos) (tsD X.K W (sAsg f g)) :=
  ps_weak (ps_asg he hg hs hw h1) fun D σ H ⟨ρ, hE, q⟩ => tD_mono (tD_then hE q) fun x H1 ⟨d, hx, s1, hE1, q1⟩ => by
    obtain ⟨ρ', h2, q2⟩ := Res.post_of (Res.post_bind.mp q1)
    exact ⟨d, ρ, hx, hE1, ρ', h2, fun σ' hE' => q2.now _ hE'⟩
theorem psd_if {t : ST} {c : Expr} {a b : List Stmt} (hc : PT X c (ttD X.K W t)) (ha : PSs X a (tsD X.K W F)) (hb : PSs X b (tsD X.K W G)) : PS X (.If c a b pos) (tsD X.K W (sIf t F G)) :=
  ps_weak (ps_if hc ha hb) fun D σ H ⟨ρ, hE, q⟩ => ttD_mono (ttD_then hE q) fun k H1 ⟨s1, hE1, q1⟩ => by
    cases k with
    | true => exact iteT ⟨ρ, hE1, q1⟩
    | false => exact iteF ⟨ρ, hE1, q1⟩
theorem psd_for {iter : Expr} {body : List Stmt} {src : SA} {g : SG} (hp : PassesOwn (model X.prog X.w) X.A X.env X.xe) (hc : X.calm = true) (hi : PI X tg iter (tiD X.K W src)) (hg : PG X tg (tgD X.K g)) (hb : PSs X body (tsD X.K W F))
    (hs : ∀ x, foldedSetIterable iter X.env x = pure x := by intro _; rfl) : PS X (.For tg iter body [] pos) (tsD X.K W (sFor src g F)) := by
  refine ps_weak (ps_for hp hc hi hg hb hs) fun D σ H ⟨ρ, hE, q⟩ => ?_
  refine ⟨ρ, hE, (Res.post_bind.mp q).mono (fun ds r H1 s1 J hJ => ?_) fun n r => r⟩
  refine ⟨fun k m σ' H' => m = ds.length - k ∧ k ≤ ds.length ∧ Same H H' ∧ Same H1 H' ∧ ∃ ρ', EnvR X.K H' σ' ρ' ∧ (forGo g F (ds.drop k) ρ').post (fun o => fut H' (outP X.K D o)) fun n => fut H' (W n),
    ⟨ds.length, by simp, Nat.zero_le _, s1, Same.refl _, ρ, hE.mono s1, by rw [List.drop_zero]; exact r.mono (fun o r => r.on s1) fun n r => r.on s1⟩, ?_⟩
  rintro k m σ' H' ⟨rfl, hk, s, s', ρ', hE', r'⟩
  obtain ⟨w1, w2⟩ := hJ k H' s'
  by_cases hlt : k < ds.length
  · have hx : ds[k]? = some ds[k] := List.getElem?_eq_getElem hlt
    obtain ⟨go, yl⟩ := w1 _ hx
    refine .inr ⟨go, fun σ2 H2 => Same H H2 ∧ Same H1 H2 ∧ ∃ ρ', EnvR X.K H2 σ2 ρ' ∧ (forGo g F (ds.drop (k + 1)) ρ').post (fun o => fut H2 (outP X.K D o)) fun n => fut H2 (W n), fun σ2 H2 ⟨a1, a2, a3⟩ => ⟨ds.length - (k + 1), by omega, rfl, hlt, a1, a2, a3⟩, fun x H2 y => ?_⟩
    obtain ⟨e2, hdx⟩ := yl x H2 y
    subst e2
    rw [List.drop_eq_getElem_cons hlt] at r'
    obtain ⟨ρ1, h1, r1⟩ := Res.post_of (Res.post_bind.mp r')
    refine ⟨ds[k], ρ', hdx, hE', ρ1, h1, fun σ2 hE2 => ⟨ρ1, hE2, (Res.post_bind.mp r1).mono (fun o ro H3 s3 => ?_) fun n r => r⟩⟩
    cases o with
    | nx ρ2 => exact fun σ3 hE3 => ⟨s.trans s3, s'.trans s3, ρ2, hE3, ro.mono (fun o q => q.on s3) fun n q => q.on s3⟩
    | ct ρ2 => exact fun σ3 hE3 => ⟨s.trans s3, s'.trans s3, ρ2, hE3, ro.mono (fun o q => q.on s3) fun n q => q.on s3⟩
    | bk ρ2 => exact ro _ s3
    | rt d => exact ro _ s3
  · have e : k = ds.length := by omega
    subst e
    rw [List.drop_length] at r'
    exact .inl ⟨w2 (Nat.le_refl _), r'.now σ' hE'⟩
theorem psd_while {c : Expr} {body : List Stmt} {t : ST} (n : Nat) (hp : PassesOwn (model X.prog X.w) X.A X.env X.xe) (hc : PT X c (ttD X.K W t)) (hb : PSs X body (tsD X.K W F)) : PS X (.While c body [] pos) (tsD X.K W (sWh n t F)) := by
  refine ps_weak (ps_while hp hc hb) fun D σ H ⟨ρ, hE, q⟩ => ?_
  refine ⟨fun m σ' H' => ∃ ρ', EnvR X.K H' σ' ρ' ∧ (whGo t F m ρ').post (fun o => fut H' (outP X.K D o)) fun n => fut H' (W n), ⟨n, ρ, hE, q⟩, ?_⟩
  rintro m σ' H' ⟨ρ', hE', r⟩
  cases m with
  | zero => exact r.elim
  | succ m =>
    refine ttD_mono (ttD_then hE' r) fun k H1 ⟨s1, hE1, r1⟩ => ?_
    cases k with
    | false => exact iteF (r1.now σ' hE1)
    | true =>
      refine iteT ⟨fun σ2 H2 => ∃ ρ', EnvR X.K H2 σ2 ρ' ∧ (whGo t F m ρ').post (fun o => fut H2 (outP X.K D o)) fun n => fut H2 (W n), fun σ2 H2 h2 => ⟨m, Nat.lt_succ_self _, h2⟩, ρ', hE1, (Res.post_bind.mp r1).mono (fun o ro H3 s3 => ?_) fun n r => r⟩
      cases o with
      | nx ρ2 => exact fun σ3 hE3 => ⟨ρ2, hE3, ro.mono (fun o q => q.on s3) fun n q => q.on s3⟩
      | ct ρ2 => exact fun σ3 hE3 => ⟨ρ2, hE3, ro.mono (fun o q => q.on s3) fun n q => q.on s3⟩
      | bk ρ2 => exact ro _ s3
      | rt d => exact ro _ s3
end

/-! ### defs -/
def bodyD (n : Nat) (F : SS) (ds : List PyData) : Res PyData := (F (startD n ds)).bind fun o => match o with
  | .nx _ => .ok .none
  | .rt d => .ok d
  | _ => .bad
section
variable {P : Program} {w : World} {K : PySem.W.Frag} {mg : Str → Option Value} {base : Heap}
theorem body_then {cls : Nat → Value} {N : List Str} {n : Nat} {F : SS} {vs : List V} {H : Hp} {Q : VK} {E : XK} (h : spD K cls n (bodyD N.length F) vs H Q E) :
    tsD K (fun m H' => E (cls m) none H') F { nx := fun _ H' => Q .non H', rt := Q } (start N vs) H := by
  obtain ⟨_, ds, hd, q⟩ := h
  refine ⟨startD N.length ds, envR_start hd, (Res.post_bind.mp q).mono (fun o r H1 s1 => ?_) fun n r => r⟩
  cases o with
  | nx ρ' => exact fun σ' hE => r _ s1 _ .non
  | rt d => exact fun v hv => r _ s1 _ hv
  | bk ρ' => exact r.elim
  | ct ρ' => exact r.elim
/-- a def that nothing leaves by a raise -/
theorem callee_of {cls : Nat → Value} {x qual : Str} {st : Stmt} {f : Addr} {fd : FuncData} {N ps : List Str} {k : Nat} {F : SS} (D : L2.Fun K x qual st f fd) (S : FnScope N ps (defScope st)) (hm : mg x = some (.ref f)) (hb : Binds K fd ps [])
    (body : ∀ (cdv : Value) (A : Around) (outer : List Env) (s : Shared) (H : Hp) (E : XK) (W : Wis), Room k (A.deeper (envOfC qual (defScope st) s.heap.objs.size f cdv)) →
      PSs (cxOf CX0 P w K mg base N qual (defScope st) f cdv A outer s H E).nox (defBody st) (tsD K W F)) : Callee P w K mg base CX0 cls x (k + 1) ps (bodyD N.length F) := by
  refine ⟨f, fd, D.ok S (fun vs H Q E h => h.1) (fun cdv A outer s H vs Q E hr h => ⟨_, body cdv A outer s H E _ hr, body_then h⟩), hm, D.kp, hb, ?_⟩
  obtain ⟨oc, od, kV, doc, pm, an, cdv, ct, osl, rfl, lk, hcd⟩ := D.ex
  exact ⟨oc, od, osl, lk⟩
theorem Callee.mono {CX : CXT} {cls : Nat → Value} {x : Str} {j k : Nat} {ps : List Str} {g : List PyData → Res PyData} (C : Callee P w K mg base CX cls x j ps g) (h : j ≤ k) : Callee P w K mg base CX cls x k ps g := by
  obtain ⟨f, fd, F, r⟩ := C.ex
  exact ⟨f, fd, F.mono h, r⟩
/-- told by another function that agrees where it answers -/
theorem Callee.imp {CX : CXT} {cls : Nat → Value} {x : Str} {k : Nat} {ps : List Str} {g g' : List PyData → Res PyData} (C : Callee P w K mg base CX cls x k ps g) (h : ∀ ds, ds.length = ps.length → g' ds ≠ .bad → g ds = g' ds) : Callee P w K mg base CX cls x k ps g' := by
  obtain ⟨f, fd, F, r⟩ := C.ex
  refine ⟨f, fd, F.imp fun vs H Q E ⟨hl, ds, hd, q⟩ => ⟨hl, ds, hd, ?_⟩, r⟩
  rw [h ds ((dps_len hd).symm.trans hl) fun e => by rw [e] at q; exact q]
  exact q
end
end DL

set_option Elab.async false
set_option linter.all false
set_option maxRecDepth 100000
set_option maxHeartbeats 2000000
namespace DL
open PySem L2 PyProof.Rows

theorem units65 {k : Nat} {A : Around} (hr : Room k A) : A.units + 65 < cLine := by
  have := hr.un
  omega
def negD : PyData → Option PyData
  | .int i => some (.int (-i))
  | _ => none
/-- {'a': 'b', ..}[x], the texts written -/
def menuD (kvs : List (Key × V)) : PyData → Option PyData
  | .str x => (valV (mergeK [] kvs) (.inr x)).bind scaD
  | _ => none
def eMenu (kvs : List (Key × V)) (f : SE) : SE := fun ρ => (f ρ).bind fun x => Res.of (menuD kvs x)
section
variable {X : Cx} {W : Wis} {a b : Expr} {pos : Pos}
theorem ed_neg {f : SE} (h : PE X a (tD X.K W f)) : PE X (.UnaryOp .USub a pos) (tD X.K W (eUn negD f)) := pe_weak (pe_un un_neg h) fun σ H Q q => by
  obtain ⟨ρ, hE, q⟩ := q
  refine tD_mono (tD_then hE q) fun x H1 ⟨d, hx, s1, hE1, q1⟩ => ?_
  obtain ⟨r, hr, q2⟩ := Res.post_of q1
  cases hx <;> simp only [negD, reduceCtorEq, Option.some.injEq] at hr
  subst hr
  exact ⟨_, rfl, q2.now _ (.int _)⟩
/-- the pairs of a display of written texts -/
theorem pairs_then {kvs : List (Key × V)} : ∀ {σ : L2.St} {H : Hp} {Q : List (V × V) → Hp → Prop}, Q (kvs.map fun p => (kV p.1, p.2)) H → tPairs (kvs.map fun p => (tC (kV p.1), tC p.2)) σ H Q := by
  induction kvs with
  | nil => intro σ H Q h; exact h
  | cons p r ih => intro σ H Q h; exact ih h
theorem ed_menu {keys : List (Option Expr)} {vals : List Expr} {p2 : Pos} {f : SE} (kvs : List (Key × V)) (hu : X.A.units + 1 < cLine) (hp : PPs X p2 keys vals (kvs.map fun p => (tC (kV p.1), tC p.2))) (hs : NoSl b) (hb : PE X b (tD X.K W f))
    (hall : keys.all (·.isSome) = true := by rfl) (hl : keys.length = vals.length := by rfl) (h0 : keys ≠ [] := by exact List.cons_ne_nil _ _) (h15 : keys.length ≤ 15 := by decide) (hk : kvs.length ≤ 15 := by decide) : PE X (.Subscript (.Dict keys vals p2) b pos) (tD X.K W (eMenu kvs f)) := by
  refine pe_weak (pe_dget hu (pe_disp hp hall hl h0 h15) hb hs) fun σ H Q h => ?_
  obtain ⟨ρ, hE, q⟩ := h
  intro p hp
  refine pairs_then ⟨upd_same, kvs, rfl, hk, ?_⟩
  rw [upd_upd]
  have s0 : Same H (upd H p (.dK (mergeK [] kvs))) := same_new hp _
  have q0 : (eMenu kvs f ρ).post (fun d => fut (upd H p (.dK (mergeK [] kvs))) fun H' => ∀ v, Dp X.K H' v d → Q v H') fun n => fut (upd H p (.dK (mergeK [] kvs))) (W n) := Res.post.mono q (fun d r => r.on s0) fun n r => r.on s0
  refine tD_mono (tD_then (hE.mono s0) q0) fun y H2 ⟨e, hy, s2, hE2, q2⟩ => ?_
  obtain ⟨r, hr, q3⟩ := Res.post_of q2
  cases hy <;> simp only [menuD, reduceCtorEq] at hr
  rename_i x _
  cases hv : valV (mergeK [] kvs) (.inr x) with
  | none => rw [hv] at hr; cases hr
  | some v =>
    rw [hv] at hr
    refine ⟨p, v, rfl, ?_, q3.now _ (dp_sca hr)⟩
    have z := DGet.k (k := .inr x) (s2 _ _ (upd_same (H := H) (a := p) (o := .dK (mergeK [] kvs))))
    rw [hv] at z
    exact z
end

/-! ### the text's defs and constants as they stand behind the top -/
structure DefAt (K : PySem.W.Frag) (mg : Str → Option Value) (x : Str) (st : Stmt) (ps : List Str) : Prop where
  ex : ∃ f fd, L2.Fun K x x st f fd ∧ mg x = some (.ref f) ∧ Binds K fd ps []
section
variable {K : PySem.W.Frag} {mg : Str → Option Value} {h : Heap}
theorem defAt_mk {x : Str} {st : Stmt} {ps : List Str} {f : Addr} {oc : Value} {od an : Option Addr} {osl : Array (Option Value)} {kV doc pm cdv ct : Value} (X : K.In h) (G : h.Ns mainGlobals mg) (a : PySem.W.nsIn K mainGlobals x = some (some (.ref f)))
    (l : K.lookup f = some ⟨oc, od, .func (PySem.W.fnOf x x (defArgs st) (defBody st) (defScope st) .none kV doc pm an cdv ct), osl⟩) (c : PySem.W.codeIn K cdv x = true) (k : PySem.W.keepIn K (.ref f) = true)
    (hb : ∀ (kV doc pm : Value) (an : Option Addr) (cdv ct : Value) (us : List Value), us.length = ps.length → bindArgs (PySem.W.fnOf x x (defArgs st) (defBody st) (defScope st) .none kV doc pm an cdv ct) ⟨us, []⟩ = pure (ps.zip us)) : DefAt K mg x st ps :=
  ⟨f, _, fun_mk l c k, PySem.W.mg_of X G a, (fun_mk (st := st) l c k).binds hb⟩
theorem gl_int {x : Str} {i : Int} {t : Tok} (X : K.In h) (G : h.Ns mainGlobals mg) (a : PySem.W.nsIn K mainGlobals x = some (some (.int i t))) : GlD K mg x (.int i) := ⟨.int i, _, PySem.W.mg_of X G a, ⟨t, rfl⟩, fun H => .int i⟩
theorem gl_str {x : Str} {i : Str} {t : Tok} (X : K.In h) (G : h.Ns mainGlobals mg) (a : PySem.W.nsIn K mainGlobals x = some (some (.str i t))) : GlD K mg x (.str i) := ⟨.str i, _, PySem.W.mg_of X G a, ⟨t, rfl⟩, fun H => .str i⟩
/-- a value of the written part, as data -/
def KD (K : PySem.W.Frag) (u : Value) (d : PyData) : Prop := ∃ v, RelV v u ∧ ∀ H, Dp K H v d
def KDs (K : PySem.W.Frag) (us : List Value) (ds : List PyData) : Prop := us.length ≤ 16777216 ∧ ∃ vs, Vals vs us ∧ ∀ H, DpAll K H vs ds
theorem kd_str {x : Str} {t : Tok} : KD K (.str x t) (.str x) := ⟨.str x, ⟨t, rfl⟩, fun H => .str x⟩
theorem kd_int {x : Int} {t : Tok} : KD K (.int x t) (.int x) := ⟨.int x, ⟨t, rfl⟩, fun H => .int x⟩
theorem kds_nil : KDs K [] [] := ⟨by decide, [], .nil, fun H => .nil⟩
theorem kds_cons {u : Value} {us : List Value} {d : PyData} {ds : List PyData} (h1 : KD K u d) (h2 : KDs K us ds) (hl : (u :: us).length ≤ 16777216 := by exact Nat.le_of_ble_eq_true rfl) : KDs K (u :: us) (d :: ds) := by
  obtain ⟨v, r, hv⟩ := h1
  obtain ⟨_, vs, rs, hvs⟩ := h2
  exact ⟨hl, v :: vs, .cons r rs, fun H => .cons (hv H) (hvs H)⟩
theorem kd_tup {a : Addr} {o : Option Addr} {n : Nat} {its : Array Value} {sl : Array (Option Value)} {ds : List PyData} (l : K.lookup a = some ⟨.type "tuple", o, .seq its n, sl⟩) (h : KDs K its.toList ds) : KD K (.ref a) (.tuple ds) := by
  obtain ⟨hz, vs, rs, hvs⟩ := h
  refine ⟨.ref a, rfl, fun H => .tup (.inr ⟨_, its, n, l, rfl, rfl, ?_, rs⟩) (hvs H)⟩
  rw [sizeLine_eq]
  simpa using hz
theorem gl_ref {x : Str} {a : Addr} {d : PyData} (X : K.In h) (G : h.Ns mainGlobals mg) (e : PySem.W.nsIn K mainGlobals x = some (some (.ref a))) (k : KD K (.ref a) d) : GlD K mg x d := by
  obtain ⟨v, r, hv⟩ := k
  exact ⟨v, _, PySem.W.mg_of X G e, r, hv⟩
theorem callee_bad {P : Program} {w : World} {base : Heap} {CX : CXT} {cls : Nat → Value} {x : Str} {st : Stmt} {ps : List Str} {k : Nat} (D : DefAt K mg x st ps) : Callee P w K mg base CX cls x k ps (fun _ => .bad) := by
  obtain ⟨f, fd, F, hm, hb⟩ := D.ex
  have no : ∀ vs H Q E, ¬ spD K cls ps.length (fun _ => .bad) vs H Q E := fun vs H Q E h => by
    obtain ⟨_, _, _, q⟩ := h
    exact q
  refine ⟨f, fd, ⟨fun vs H Q E h => absurd h (no vs H Q E), fun A outer s H args us vs Q E _ _ _ _ h => absurd h (no vs H Q E)⟩, hm, F.kp, hb, ?_⟩
  obtain ⟨oc, od, kV, doc, pm, an, cdv, ct, osl, rfl, lk, hcd⟩ := F.ex
  exact ⟨oc, od, osl, lk⟩
end
/-- the end of a law -/
theorem walk_data {l : PySem.W.OpenLaw} {k : Nat} {q : Program} {loose : List Str} {XP : (Str → Option Value) → Heap → Prop} {YP : World → Heap → Prop} {d : DefRec} {K : Params → PySem.W.Frag} {g : List PyData → Res PyData} {st : Stmt}
    (hr1 : 3 * k + 5 < recursionLimit - callerA.depth) (hr2 : 16 * k + 200 < cLine - callerA.units) (hn : l.most = some 63) (hd : d.params.defaults = []) (hd2 : d.name = "law")
    (hY : ∀ (w : World) (h : Heap), YP w h → (K w.params).In h)
    (D : ∀ (w : World) (mg : Str → Option Value) (h : Heap), (K w.params).In h → h.Ns mainGlobals mg → DefAt (K w.params) mg "law" st ["_law_script"])
    (F : ∀ (w : World) (mg : Str → Option Value) (h : Heap), (K w.params).In h → h.Ns mainGlobals mg → ∀ base : Heap, Callee l.prog w (K w.params) mg base CX0 (fun _ => .none) "law" k ["_law_script"] g)
    (hbind : ∀ fd : FuncData, (∃ kV doc pm an cdv ct, fd = PySem.W.fnOf "law" "law" (defArgs st) (defBody st) (defScope st) .none kV doc pm an cdv ct) → ∀ (s : Shared) (u : Value), BindsTo s fd ⟨[u], []⟩ [("_law_script", u)])
    (plain : ∀ ns : List Int, ns.length ≤ 63 → g [.list (ns.map PyData.int)] = .ok (.bool true)) : PySem.W.WalkO q loose XP YP l.row.toRowW d [] (fun f vs => PySem.call f vs) := by
  refine L2.walk_of (n := 63) (k := k) (x := "_law_script") (CX := fun _ => CX0) (K := K) (sp := fun w => spD (K w.params) (fun _ => .none) 1 g) hn (by decide) hd ⟨rfl, by omega, by omega⟩ hY (fun w mg fa h X G hmg => ?_) (fun w H a ns hl _ hS => ⟨rfl, _, .cons (.lst hS (dps_ints ns)) .nil, ?_⟩) fun _ _ _ _ _ z => z
  · rw [hd2] at hmg
    obtain ⟨f, fd, D1, hm1, hb1⟩ := (D w mg h X G).ex
    cases hmg.symm.trans hm1
    obtain ⟨oc, od, kV, doc, pm, an, cdv, ct, osl, e, lk, _⟩ := D1.ex
    refine ⟨fd, fun s u => ?_, fun base _ _ => ?_⟩
    · exact hbind fd ⟨kV, doc, pm, an, cdv, ct, e⟩ s u
    · obtain ⟨f2, fd2, C, hm2, _, _, oc2, od2, osl2, lk2⟩ := (F w mg h X G base).ex
      cases hm1.symm.trans hm2
      rw [lk] at lk2
      cases lk2
      exact C
  · rw [plain ns hl]
    intro H' s v hv
    cases hv
    rfl
end DL

set_option Elab.async false
set_option linter.all false
set_option maxRecDepth 100000
set_option maxHeartbeats 2000000
namespace DL
open PySem L2 PyProof.Rows
def sBad : SS := fun _ => .bad
section
variable {X : Cx} {W : Wis} {a b : Expr} {pos : Pos}
/-- what is not reached -/
theorem psd_bad {st : Stmt} : PS X st (tsD X.K W sBad) := ⟨fun pins s σ H D I q => by
  obtain ⟨ρ, hE, q⟩ := q
  exact q.elim⟩
/-! a place in a module's tuple of texts -/
structure GlT (K : PySem.W.Frag) (mg : Str → Option Value) (x : Str) (ys : List Str) : Prop where
  at_ : ∃ a o, mg x = some (.ref a) ∧ (∀ H, SqT K H a (ys.map V.str)) ∧ K.lookup a = some o ∧ o.dict = none ∧ o.cls = .type "tuple"
def gindexD (ys : List Str) : PyData → Option PyData
  | .str z => if z ∈ ys then some (.int (ys.idxOf z : Nat)) else none
  | _ => none
theorem ed_gindex {x : Str} {ys : List Str} {p apos : Pos} {h : SE} (g : GlT X.K X.mg x ys) (he : PE X b (tD X.K W h)) (hg : Gl X x := by rfl) (hs : starEach [b] X.env = [(false, eval b X.env)] := by rfl)
    (hbase : attributeBase (.Name x p) "index" X.env (eval (.Name x p) X.env) = eval (.Name x p) X.env := by rfl) (hline : (apos.endLine == pos.line) = true := by rfl) (hd : (x == ("__debug__" : Str)) = false := by decide) :
    PE X (.Call (.Attribute (.Name x p) "index" apos) [b] [] pos) (tD X.K W (eUn (gindexD ys) h)) := by
  obtain ⟨a, o, hm, hsq, hk, hdn, hcl⟩ := g.at_
  refine ⟨fun pins s σ H Q I hh => ?_⟩
  obtain ⟨ρ, hE, q⟩ := hh
  have q0 := tD_then (K := X.K) (W := W) (f := h) hE q
  refine PySem.Call_method1 hbase hs hline (ld_glob I hg hm ?_ hd)
  refine ⟨"tuple", _, F.plainAttrs_tuple, F.slot_tuple_index, F.type_tuple_index, ⟨o, I.kIn a o hk, hcl⟩, (fun c e => by cases e; exact ⟨o, I.kIn a o hk, hdn⟩), Calls.callWith_builtin rfl (Calls.evalArgs_plain (Calls.spliced_cons ?_))⟩
  refine thn (he.run pins s σ H _ I q0) fun u s2 ⟨y, H2, I2, r2, q2⟩ => Calls.spliced_nil ?_
  obtain ⟨d, hy, s1, hE1, q1⟩ := q2
  obtain ⟨r, hr, q3⟩ := Res.post_of q1
  obtain ⟨z, rfl, rfl⟩ : ∃ z, d = .str z ∧ y = .str z := by
    cases hy with
    | str z => exact ⟨z, rfl, rfl⟩
    | _ => simp [gindexD] at hr
  simp only [gindexD] at hr
  split at hr <;> cases hr
  rename_i hz
  have hl := List.idxOf_lt_length_of_mem hz
  refine mt_tup_index pins s2 σ H2 (.ref a) [.str z] _ [u] Q I2 rfl (.cons r2 .nil) ⟨a, ys, z, ys.idxOf z, rfl, rfl, hsq H2, ?_, ?_, q3.now _ (.int _)⟩
  · rw [List.getElem?_eq_getElem hl]
    simp
  · intro m hmj e
    have := List.not_of_lt_findIdx (p := (· == z)) (xs := ys) (i := m) hmj
    obtain ⟨h1, h2⟩ := List.getElem?_eq_some_iff.mp e
    rw [h2] at this
    simp at this
end
section
variable {K : PySem.W.Frag} {mg : Str → Option Value} {h : Heap}
theorem strs_vals : ∀ {us : List Value} {ys : List Str}, KDs K us (ys.map PyData.str) → ∃ vs, Vals vs us ∧ vs = ys.map V.str
  | [], [], _ => ⟨[], .nil, rfl⟩
  | _, _, h => by
    obtain ⟨hl, vs, rs, hvs⟩ := h
    have e := hvs (fun _ => none)
    exact ⟨vs, rs, dps_strs_of e⟩
theorem gt_ref {x : Str} {a : Addr} {n : Nat} {its : Array Value} {sl : Array (Option Value)} {ys : List Str} (X : K.In h) (G : h.Ns mainGlobals mg) (e : PySem.W.nsIn K mainGlobals x = some (some (.ref a)))
    (l : K.lookup a = some ⟨.type "tuple", none, .seq its n, sl⟩) (k : KDs K its.toList (ys.map PyData.str)) : GlT K mg x ys := by
  refine ⟨a, _, PySem.W.mg_of X G e, fun H => ?_, l, rfl, rfl⟩
  obtain ⟨vs, rs, rfl⟩ := strs_vals k
  refine .inr ⟨_, its, n, l, rfl, rfl, ?_, rs⟩
  rw [sizeLine_eq]
  simpa using k.1
end
@[simp] theorem sBad_ap {ρ : PEnv} : sBad ρ = .bad := rfl
end DL

set_option Elab.async false
set_option linter.all false
set_option maxRecDepth 100000
set_option maxHeartbeats 2000000
/-! tuple(reversed(a tuple)) -/
namespace RT
open PySem PySem.Spec PyProof.Rows
theorem nolen_rt : typeLookup (.type "reversed") "__len__" = pure none := by rw [typeLookup_type, builtinLookup_eq_fast]; kernel_rfl
theorem hint_rt : typeLookup (.type "reversed") "__length_hint__" = pure (some (.builtin "reversed.__length_hint__")) := by rw [typeLookup_type, builtinLookup_eq_fast]; kernel_rfl
theorem slot_rt_hint : Slot "reversed" "__length_hint__" "reversed.__length_hint__" :=
  .of (owner := "reversed") (n := "__length_hint__") (by rw [typeLookup_type, builtinLookup_eq_fast]; kernel_rfl) (by decide +kernel) (by decide +kernel) (by decide +kernel)
    (by first | exact .inl (by decide +kernel) | exact .inr (by decide +kernel)) (by rw [isSubtype_type]; kernel_rfl)
theorem entry_rt_hint : entryFor table "reversed.__length_hint__" = some Builtin.«reversed.__length_hint__» := entryFor_of_tree (by kernel_rfl)
theorem args_rt_hint (a : Value) : argsOk "reversed.__length_hint__" ⟨[a], []⟩ := by
  unfold argsOk; rw [signature?_of (id := "reversed.__length_hint__") (n := ['_', '_', 't', 'n', 'i', 'h', '_', 'h', 't', 'g', 'n', 'e', 'l', '_', '_']) (o := ['d', 'e', 's', 'r', 'e', 'v', 'e', 'r']) (by kernel_rfl) owner_rt]; kernel_rfl
section
variable {prog : Program} {w : World} {A : Around} {E : Value → Shared → Prop} {s : Shared}
theorem call_hint_rt {it t : Addr} {items : Array Value} {Q : Value → Shared → Prop} (hit : IsRt s.heap it t ((items.size : Int) - 1)) (ht : IsTup s.heap t items) (hn : items.size ≤ sizeLine)
    (h : ∀ tk tk', Q (.int items.size tk) { s with toks := tk' }) : wpAny (model prog w) A (call (.builtin "reversed.__length_hint__") [.ref it]) Q E s := by
  obtain ⟨o, ho, hc, hd⟩ := id hit
  rw [sizeLine_eq] at hn
  refine wpAny_call_entry slot_rt_hint hit.typeIs entry_rt_hint ?_ (args_rt_hint _)
  unfold Builtin.«reversed.__length_hint__»
  refine wpAny_bind (wpAny_of_eq (a := Value.ref it) rfl ?_)
  refine wpAny_bind (wpAny_field ho hd (x := .ref t) rfl ?_)
  try dsimp only
  rw [if_neg (by intro e; cases e)]
  refine wpAny_bind ?_
  refine len_tuple ht (by omega) ?_
  refine wpAny_bind (wpAny_of_eq (a := some ((items.size : Nat) : Int)) rfl ?_)
  try dsimp only
  refine wpAny_bind (wpAny_field ho hd (x := rawInt ((items.size : Int) - 1)) rfl ?_)
  show wpAny _ _ (if ((items.size : Nat) : Int) < (items.size : Int) - 1 + 1 then _ else _) _ _ _
  rw [if_neg (by omega)]
  refine wpAny_bind (wpAny_mkInt ?_)
  refine wpAny_pure ⟨_, rfl, ?_⟩
  rw [show (items.size : Int) - 1 + 1 = items.size by omega]
  exact h _ _
theorem tup_at {h h' : Heap} {t : Addr} {items : Array Value} (x : IsTup h t items) (e : ∀ o, h.get? t = some o → h'.get? t = some o) : IsTup h' t items := let ⟨o, ho, r⟩ := x; ⟨o, e _ ho, r⟩
theorem Walks.tupRev (hh : A.handled = none) (I t : Addr) (hne : t ≠ I) (items : Array Value) (hn : items.size ≤ sizeLine) :
    Walks prog w A I [I, t] [I] items.size (fun i v => items[items.size - 1 - i]? = some v) (fun i h => i ≤ items.size ∧ IsRt h I t ((items.size : Int) - 1 - (i : Int)) ∧ IsTup h t items) where
  sub := fun b hb => by simp at hb; simp [hb]
  frame := fun _ _ _ x hk => ⟨x.1, x.2.1.at fun o e => hk I (by simp) o e, tup_at x.2.2 fun o e => hk t (by simp) o e⟩
  item := fun i s Q E hi x hQ => by
    have e : (items.size : Int) - 1 - (i : Int) = ((items.size - 1 - i : Nat) : Int) := by omega
    have hit := x.2.1
    rw [e] at hit
    have hx : items[items.size - 1 - i]? = some (items[items.size - 1 - i]'(by omega)) := Array.getElem?_eq_getElem (by omega)
    refine next_rt_item hit x.2.2 hx hn fun h' hit' hs' => ?_
    have e2 : ((items.size - 1 - i : Nat) : Int) - 1 = (items.size : Int) - 1 - ((i + 1 : Nat) : Int) := by omega
    rw [e2] at hit'
    exact hQ _ h' (s.toks + 1) hx ⟨hi, hit', tup_at x.2.2 fun o eo => (hs'.2 t hne).trans eo⟩ fun b o hb eo => (hs'.2 b (fun h => hb (by simp [h]))).trans eo
  done := fun s Q E x hQ => by
    have e : (items.size : Int) - 1 - (items.size : Int) = -1 := by omega
    have hit := x.2.1
    rw [e] at hit
    exact next_rt_end hh hit fun h' he' => hQ h' s.toks fun b o hb eo => he' b o (fun h => hb (by simp [h])) eo
  self := fun _ _ _ _ x hQ => iter_rt x.2.1 hQ
theorem len_hint_rt {it t : Addr} {items : Array Value} {Q : Bool → Shared → Prop} (hit : IsRt s.heap it t ((items.size : Int) - 1)) (ht : IsTup s.heap t items) (hn : items.size ≤ sizeLine)
    (h : ∀ tk', Q (((items.size : Nat) : Int) != 0) { s with toks := tk' }) : wpAny (model prog w) A (Builtin.List.listLengthHint (.ref it)) Q E s := by
  have hT := hit.typeIs
  have hz := hn
  rw [sizeLine_eq] at hz
  have f1 : Builtin.List.listFitsIndex ((items.size : Nat) : Int) = true := by
    unfold Builtin.List.listFitsIndex
    rw [Bool.and_eq_true]
    exact ⟨decide_eq_true (by omega), decide_eq_true (by omega)⟩
  have f2 : Builtin.List.listTooLong (((items.size : Nat) : Int).toNat) = false := by
    unfold Builtin.List.listTooLong
    exact decide_eq_false (by rw [Int.toNat_natCast]; omega)
  unfold Builtin.List.listLengthHint
  refine wpAny_bind (wpAny_specialOf hT nolen_rt ?_)
  show wpAny _ A (specialOf (Value.ref it) (Str.ofString "__length_hint__") >>= _) _ _ _
  refine wpAny_bind (wpAny_specialOf hT hint_rt ?_)
  generalize hid : ("reversed.__length_hint__" : String) = id0
  wp_delta
  rw [show splitId id0 = some ("reversed", "__length_hint__") from by subst hid; decide +kernel]
  subst hid
  refine wpAny_bind (wpAny_isInstance (b := true) hT (by rw [isSubtype_type]; kernel_rfl) ?_)
  rw [if_neg (by decide)]
  dsimp only
  rw [if_neg (by decide +kernel)]
  refine wpAny_bind (wpAny_rule ?_)
  refine wpAny_bind (wpAny_of_eq (slot_rt_hint.bind _) ?_)
  dsimp only
  refine wpAny_bind (wpAny_attempt (call_hint_rt hit ht hn fun tk tk' => ?_))
  dsimp only
  generalize hk : ((items.size : Nat) : Int) = k at *
  have ea : asInt? (Value.int k tk) = pure (some k) := rfl
  rw [ea]
  refine wpAny_bind ?_
  refine wpAny_pure ?_
  dsimp only
  rw [f1, f2]
  rw [if_neg (by decide)]
  rw [if_neg (by omega)]
  rw [if_neg (by decide)]
  exact wpAny_pure (h tk')
theorem collect_rt {it t : Addr} {items : Array Value} {Q : List Value → Shared → Prop} (hh : A.handled = none) (hit : IsRt s.heap it t ((items.size : Int) - 1)) (hl : IsTup s.heap t items) (hne : t ≠ it) (hn : items.size ≤ sizeLine)
    (hQ : ∀ (h' : Heap) (tk : Nat) (acc : Array Value), (∀ b o, b ≠ it → s.heap.get? b = some o → h'.get? b = some o) → ItemsOf (fun i v => items[items.size - 1 - i]? = some v) acc items.size → Q acc.toList { s with heap := h', toks := tk }) :
    wpAny (model prog w) A (collect (.ref it)) Q E s := by
  have W := (Walks.tupRev (prog := prog) (w := w) (A := A.in1) hh it t hne items hn).toS
  obtain ⟨oi, hoi, _⟩ := id hit
  obtain ⟨ol, hol, _⟩ := id hl
  have hSi : s.heap.objs.size ≠ it := Nat.ne_of_gt (Heap.lt_size hoi)
  have hSl : s.heap.objs.size ≠ t := Nat.ne_of_gt (Heap.lt_size hol)
  have hSf : s.heap.objs.size ∉ [it, t] := by simp only [List.mem_cons, List.not_mem_nil, or_false, not_or]; exact ⟨hSi, hSl⟩
  unfold collect
  refine wpAny_bind (wpAny_runValue (codeAny_builtin F.entry_proto_collect ?_))
  rw [Around.under_plainId F.plain_proto_collect _]
  show wpAny _ A.in1 (newList [] >>= fun l' => again (.builtin "list.__iadd__" ⟨[l', .ref it], []⟩)) _ _ s
  refine wpAny_bind (wpAny_newObj_type ?_)
  refine wpAny_pure ⟨plainId_quiet F.plain_list_iadd _, codeAny_builtin F.entry_list_iadd ?_⟩
  rw [Around.under_plainId F.plain_list_iadd _]
  have hS₁ : (s.heap.push { cls := .type "list", data := .seq ([] : List Value).toArray }).get? s.heap.objs.size = some { cls := .type "list", data := .seq ([] : List Value).toArray } := Heap.get?_push_size _ rfl
  have hit1 : IsRt (s.heap.push { cls := .type "list", data := .seq ([] : List Value).toArray }) it t ((items.size : Int) - 1) := hit.at fun o e => Heap.get?_push_of_some _ e
  have hl1 : IsTup (s.heap.push { cls := .type "list", data := .seq ([] : List Value).toArray }) t items := tup_at hl fun o e => Heap.get?_push_of_some _ e
  have hT : ({ s with heap := s.heap.push { cls := .type "list", data := .seq ([] : List Value).toArray } } : Shared).TypeIs (.ref it) "reversed" := IsRt.typeIs (s := { s with heap := s.heap.push { cls := .type "list", data := .seq ([] : List Value).toArray } }) hit1
  have h1 : Builtin.List.listSameRef (.ref s.heap.objs.size) (.ref it) = false := by simp [Builtin.List.listSameRef, hSi]
  have e0 : ((items.size : Nat) : Int) - 1 - ((0 : Nat) : Int) = (items.size : Int) - 1 := by omega
  show wpAny _ A.in1 (Builtin.List.listExtendWith (.ref s.heap.objs.size) (.ref it) (.ref s.heap.objs.size)) _ _ _
  unfold Builtin.List.listExtendWith
  refine wpAny_bind (wpAny_typeOf hT ?_)
  rw [if_neg (by rw [h1]; decide)]
  refine wpAny_bind (iter_rt (s := { s with heap := s.heap.push { cls := .type "list", data := .seq ([] : List Value).toArray } }) hit1 ?_)
  refine wpAny_bind (wpAny_holding ?_)
  refine len_hint_rt (s := { s with heap := s.heap.push { cls := .type "list", data := .seq ([] : List Value).toArray } }) hit1 hl1 hn fun tk' => ?_
  have fin : ∀ (h2 : Heap) (tk c : Nat), h2.get? s.heap.objs.size = some { cls := .type "list", data := .seq (#[] : Array Value) c } → (∀ b o, b ≠ s.heap.objs.size → s.heap.get? b = some o → h2.get? b = some o) →
      codeAny (model prog w) A (.builtin "list.extend.loop" ⟨[.ref s.heap.objs.size, .ref it, .ref s.heap.objs.size], []⟩) (fun r s' => match r with
        | .ok (.ret v) => wpAny (model prog w) A (match v with
          | .ref a => do
            let o ← load a
            match o.data with
            | .seq xs _ => pure xs.toList
            | _ => unsupported "internal:collect"
          | _ => unsupported "internal:collect") Q E s'
        | .ok _ => False
        | .error e => E e s') { s with heap := h2, toks := tk } := fun h2 tk c hS hk => by
    have hst : IsRt h2 it t ((items.size : Int) - 1 - ((0 : Nat) : Int)) ∧ IsTup h2 t items := ⟨by rw [e0]; exact hit.at fun o e => hk it o (Ne.symm hSi) e, tup_at hl fun o e => hk t o (Ne.symm hSl) e⟩
    refine codeAny_extend_loopS W hn _ hSf _ items.size 0 { s with heap := h2, toks := tk } _ _ rfl (Nat.zero_le _) ⟨Nat.zero_le _, hst.1, hst.2⟩ hS (ItemsOf.nil _) fun s' acc' c' hm hS' hacc => ?_
    show wpAny _ A (load s.heap.objs.size >>= _) _ _ s'
    refine wpAny_bind (wpAny_load hS' ?_)
    refine wpAny_pure ?_
    rw [Moved.eq_with hm]
    refine hQ s'.heap s'.toks acc' (fun b o hb e => hm.heap b o (fun hmem => ?_) (hk b o (Nat.ne_of_lt (Heap.lt_size e)) e)) hacc
    rcases List.mem_cons.mp hmem with e' | hmem
    · exact absurd (Heap.lt_size e) (by rw [e']; exact Nat.lt_irrefl _)
    · exact hb (List.mem_singleton.mp hmem)
  have old : ∀ b o, b ≠ s.heap.objs.size → s.heap.get? b = some o → (s.heap.push { cls := .type "list", data := .seq ([] : List Value).toArray }).get? b = some o := fun b o _ e => Heap.get?_push_of_some _ e
  by_cases hk : items.size = 0
  · have e : (((items.size : Nat) : Int) != 0) = false := by rw [hk]; rfl
    rw [e]
    dsimp only
    rw [if_neg (by decide +kernel)]
    exact wpAny_pure ⟨plainId_quiet F.plain_extend_loop _, fin _ tk' _ hS₁ old⟩
  · have e : (((items.size : Nat) : Int) != 0) = true := by simp [hk]
    rw [e]
    dsimp only
    rw [if_pos (by rw [Bool.true_or])]
    refine wpAny_bind (wpAny_rule ?_)
    refine wpAny_bind ?_
    unfold Builtin.List.listTouch
    show wpAny _ A.in1 (updateSeq s.heap.objs.size (·.push .none) >>= fun _ => updateSeq s.heap.objs.size (·.pop)) _ _ _
    refine wpAny_bind (wpAny_updateSeq hS₁ rfl ?_ (by decide) (by decide))
    have h2 := Heap.get?_update_self (Obj.mapSeq fun x => x.push Value.none) hS₁ rfl
    refine wpAny_updateSeq h2 rfl ?_ (by decide) (by decide)
    have h3 := Heap.get?_update_self (Obj.mapSeq fun x => x.pop) h2 rfl
    refine wpAny_pure ⟨plainId_quiet F.plain_extend_loop _, fin _ tk' _ h3 fun b o hb e => ?_⟩
    rw [Heap.get?_update_other _ _ (Ne.symm hb), Heap.get?_update_other _ _ (Ne.symm hb)]
    exact old b o hb e
theorem code_tuple_new_rt {it t : Addr} {items : Array Value} {Q₁ : Value → Shared → Prop} (hh : A.handled = none) (hit : IsRt s.heap it t ((items.size : Int) - 1)) (hl : IsTup s.heap t items) (hne : t ≠ it) (hn : items.size ≤ sizeLine)
    (h : ∀ (h' : Heap) (tk : Nat) (acc : Array Value), (∀ b o, b ≠ it → s.heap.get? b = some o → h'.get? b = some o) → ItemsOf (fun i v => items[items.size - 1 - i]? = some v) acc items.size →
      Q₁ (.ref h'.objs.size) { s with heap := h'.push { cls := .type "tuple", data := .seq acc }, toks := tk }) :
    codeAny (model prog w) A (.call (.builtin "tuple.__new__") ⟨[.type "tuple", .ref it], []⟩) (wants Q₁ E) s := by
  refine codeAny_of_tree ?_
  show wpAny _ A.in1 (do checkBuiltinCall "tuple.__new__" ⟨[.type "tuple", .ref it], []⟩; again (.builtin "tuple.__new__" ⟨[.type "tuple", .ref it], []⟩)) _ _ s
  refine wpAny_bind (wpAny_of_eq (F.newCall_tuple_1 _) (wpAny_pure ⟨plainId_quiet F.plain_tuple_new _, codeAny_builtin F.entry_tuple_new ?_⟩))
  rw [Around.under_plainId F.plain_tuple_new _]
  have hsub := sub_tuple_self
  have hinit := init_tuple_lookup
  have hmh := madeHere_tuple
  have hTI : s.TypeIs (.ref it) "reversed" := hit.typeIs
  have hh1 : A.in1.handled = none := hh
  wp_walk using wpAny_typeOf hTI, collect_rt (A := A.in1) hh1 hit hl hne hn
  intro h' tk acc hk hacc
  show wpAny _ _ (Builtin.Tuple.tupleExact acc.toList.toArray >>= fun v => ret v) _ _ _
  unfold Builtin.Tuple.tupleExact
  refine wpAny_bind (wpAny_newObj_type ?_ (by show acc.toList.toArray.size ≤ sizeLine; simp only [Array.toArray_toList]; rw [hacc.1]; exact hn))
  refine wpAny_pure ?_
  have e : acc.toList.toArray = acc := by simp
  rw [e]
  exact h h' tk acc hk hacc
theorem call_tuple_rt {it t : Addr} {items : Array Value} {Q : Value → Shared → Prop} (hh : A.handled = none) (hit : IsRt s.heap it t ((items.size : Int) - 1)) (hl : IsTup s.heap t items) (hne : t ≠ it) (hn : items.size ≤ sizeLine)
    (hQ : ∀ (h' : Heap) (tk : Nat) (acc : Array Value), (∀ b o, b ≠ it → s.heap.get? b = some o → h'.get? b = some o) → ItemsOf (fun i v => items[items.size - 1 - i]? = some v) acc items.size →
      Q (.ref h'.objs.size) { s with heap := h'.push { cls := .type "tuple", data := .seq acc }, toks := tk }) :
    wpAny (model prog w) A (call (.type "tuple") [.ref it]) Q E s := by
  refine callType_codes (Q₁ := fun obj s₁ => s₁.TypeIs obj "tuple" ∧ Q obj s₁) F.called_tuple (F.typeCall_tuple_1 _) F.entry_object_init
    (code_tuple_new_rt (A := A.in1) hh hit hl hne hn fun h' tk acc hk hacc => ⟨⟨_, Heap.get?_push_size _ rfl, rfl⟩, hQ h' tk acc hk hacc⟩) fun obj s₁ h₁ => ?_
  exact ⟨h₁.1, F.args_object_init_2 obj _, object_init_meets F.called_tuple.init.lookup F.called_tuple.made (by decide) prog w A.in1 _ s₁ ⟨h₁.1, rfl, h₁.2⟩⟩
end
end RT

namespace RT
open PySem PySem.Spec PyProof.Rows L2
section
variable {X : Cx}
/-- tuple(reversed(x)), x a tuple: a new tuple -/
def tTupRevT (K : PySem.W.Frag) (te : TE) : TE := fun σ H Q => te σ H fun v H1 => ∃ (a : Addr) (xs : List V), v = .ref a ∧ SqT K H1 a xs ∧ ∀ q, H1 q = none → Q (.ref q) (upd H1 q (.tup xs.reverse))
theorem pe_tupRevT {e : Expr} {te : TE} {p p2 pos pos2 : Pos} (hc : X.calm = true) (hg : Gl X "tuple") (hm : X.mg "tuple" = none) (hg2 : Gl X "reversed") (hm2 : X.mg "reversed" = none) (he : PE X e te)
    (hs : starEach [e] X.env = (false, eval e X.env) :: starEach [] X.env := by rfl)
    (hs2 : starEach [.Call (.Name "reversed" p2) [e] [] pos2] X.env = (false, eval (.Call (.Name "reversed" p2) [e] [] pos2) X.env) :: starEach [] X.env := by rfl) :
    PE X (.Call (.Name "tuple" p) [.Call (.Name "reversed" p2) [e] [] pos2] [] pos) (tTupRevT X.K te) := by
  refine ⟨fun pins s σ H Q I h => ?_⟩
  refine Call_ (ld_blt I hg hm boot_tuple (PyProof.Rows.callWith_type1 (args_cons (Call_ (ld_blt I hg2 hm2 PyProof.Rows.boot_reversed (PyProof.Rows.callWith_type1 (args_cons (thn (he.run pins s σ H _ I h) fun u s1 ⟨v, H1, I1, r1, q1⟩ => args_nil ?_) hs) hs rfl))) hs2) hs2 rfl))
  obtain ⟨a, xs, ev, hq, q⟩ := q1
  subst ev
  obtain rfl : u = Value.ref a := r1
  obtain ⟨its, rv, p', hz⟩ := I1.tuple hq
  have hn := line63
  have hn0 : its.toArray.size ≤ sizeLine := by rw [List.size_toArray, ← rv.length]; exact hz
  refine call_reversed_tup p' (fun A E Q k => len_tuple p' (by omega) k) (args_nil ?_)
  have k0 : ∀ b o, s1.heap.get? b = some o → (s1.heap.push (rtObj a ((its.toArray.size : Int) - 1))).get? b = some o := fun b o e => Heap.get?_push_of_some _ e
  have I2 : Inv X pins σ H1 { s1 with heap := s1.heap.push (rtObj a ((its.toArray.size : Int) - 1)), toks := s1.toks + 1 + 1 } := I1.kept (t' := s1.toks + 1 + 1) k0
  obtain ⟨f0, f1, f2, f3, f4, f5⟩ := I1.fpOk (H' := H1) (b := s1.heap.objs.size) (Nat.le_refl _) (I1.hok.fresh (Nat.le_refl _))
  obtain ⟨ol, hol, _⟩ := id p'
  have hne : a ≠ s1.heap.objs.size := Nat.ne_of_lt (Heap.lt_size hol)
  refine call_tuple_rt (s := { s1 with heap := s1.heap.push (rtObj a ((its.toArray.size : Int) - 1)), toks := s1.toks + 1 + 1 }) (I1.ok.hd hc) ⟨_, Heap.get?_push_size _ rfl, rfl, rfl⟩ (tup_at p' fun o e => k0 a o e) hne hn0 fun h' tk acc hk hi => ?_
  have I3 : Inv X pins σ H1 { s1 with heap := h', toks := tk } := I2.turned (t' := tk) (fun b o hb e => hk b o hb e) f0 f1 f3 f4 f5
  refine ⟨.ref h'.objs.size, upd H1 h'.objs.size (.tup xs.reverse), I3.laid (t' := tk) (fun c o e => Heap.get?_push_of_some _ e) (Nat.le_refl _) (show ObjOk X.prog X.w _ _ _ (.tup xs.reverse) from ⟨by rw [List.length_reverse]; exact hz, acc.toList, vals_rev rv hi, ?_⟩), rfl, q _ (I3.hok.fresh (Nat.le_refl _))⟩
  rw [Array.toArray_toList]
  exact IsTup.new _ _
end
end RT

set_option Elab.async false
set_option linter.all false
set_option maxRecDepth 100000
set_option maxHeartbeats 2000000
namespace L2
open PySem PySem.Spec PyProof.Rows
section
variable {X : Cx}
/-- d.update(e), both dicts of ints and texts -/
def tDUpd (td te : TE) : TE := fun σ H Q => td σ H fun x H1 => (∃ a kvs, x = .ref a ∧ H1 a = some (.dK kvs)) ∧ te σ H1 fun y H2 => ∃ a b kvs more, x = .ref a ∧ y = .ref b ∧ a ≠ b ∧ H2 a = some (.dK kvs) ∧ H2 b = some (.dK more) ∧ kvs.length + more.length ≤ sizeLine ∧ Q .non (upd H2 a (.dK (mergeK kvs more)))
theorem pe_dupd {o e : Expr} {td te : TE} {apos cpos : Pos} (ho : PE X o td) (he : PE X e te)
    (hs : starEach [e] X.env = [(false, eval e X.env)] := by rfl) (hbase : attributeBase o "update" X.env (eval o X.env) = eval o X.env := by rfl) (hline : (apos.endLine == cpos.line) = true := by rfl) :
    PE X (.Call (.Attribute o "update" apos) [e] [] cpos) (tDUpd td te) := by
  refine ⟨fun pins s σ H Q I h => ?_⟩
  refine PySem.Call_method1 hbase hs hline (thn (ho.run pins s σ H _ I h) fun u s1 ⟨x, H1, I1, rx, ⟨a, kvs, ex, e1⟩, q1⟩ => ?_)
  subst ex
  obtain rfl : u = Value.ref a := rx
  obtain ⟨t1, t2, _⟩ := isD_at I1 (.inl ⟨kvs, .inl e1⟩)
  refine ⟨"dict", _, PySem.F.plainAttrs_dict, PySem.F.slot_dict_update, PySem.F.type_dict_update, t1, t2, Calls.callWith_builtin rfl (Calls.evalArgs_plain (Calls.spliced_cons (thn (he.run pins s1 σ H1 _ I1 q1) fun iv s2 ⟨y, H2, I2, ry, q2⟩ => Calls.spliced_nil ?_)))⟩
  obtain ⟨a', b, kvs', more, ea, rfl, hab, e2, e3, hl, q2⟩ := q2
  cases ea
  obtain rfl : iv = Value.ref b := ry
  obtain ⟨z, hd, vs, rel, dd⟩ := dk_of I2.hok e2
  obtain ⟨z2, hd2, ws, rel2, dd2⟩ := dk_of I2.hok e3
  refine call_meetsIn PySem.F.slot_dict_update dd.typeIs PySem.F.entry_dict_update (PySem.F.args_dict_update_2 _ _) (meets_dict_update (mixKind X.prog X.w) a b hab hd2)
    ⟨vs, ws, dd, dd2, by rw [← rel.length, ← rel2.length]; exact hl, fun h' dd' _ hs => ?_⟩
  have he : ∃ q, h'.get? a = some q := let ⟨q, _, _, hq, _⟩ := dd'; ⟨q, hq⟩
  exact ⟨.non, _, d_write (t' := s2.toks) I2 (by rw [e2]; exact True.intro) hs he (dk_new (Nat.le_trans (length_mergeK more kvs') hl) hd (KV.merge rel2 rel) dd'), rfl, q2⟩
end
end L2
namespace DL
open PySem L2 PyProof.Rows
section
variable {K : PySem.W.Frag} {H : Hp}
theorem dps_app : ∀ {vs ws : List V} {ds es : List PyData}, DpAll K H vs ds → DpAll K H ws es → DpAll K H (vs ++ ws) (ds ++ es)
  | [], _, _, _, .nil, h => h
  | _ :: _, _, _, _, .cons a b, h => .cons a (dps_app b h)
theorem dps_rev : ∀ {vs : List V} {ds : List PyData}, DpAll K H vs ds → DpAll K H vs.reverse ds.reverse
  | [], _, .nil => .nil
  | _ :: _, _, .cons a b => by
    rw [List.reverse_cons, List.reverse_cons]
    exact dps_app (dps_rev b) (.cons a .nil)
end
def revD : PyData → Option PyData
  | .tuple xs => some (.tuple xs.reverse)
  | _ => none
def lookS (kvs : List (PyData × PyData)) (x : Str) : Option PyData := (kvs.find? fun p => match p.1 with
  | .str y => decide (y = x)
  | _ => false).map (·.2)
def getD2 (kvs : List (PyData × PyData)) : PyData → PyData → Option PyData
  | .str x, d => some ((lookS kvs x).getD d)
  | _, _ => none
def eGet2 (f g h : SE) : SE := fun ρ => (f ρ).bind fun x => match x with
  | .dict kvs => (g ρ).bind fun y => (h ρ).bind fun z => Res.of (getD2 kvs y z)
  | _ => .bad
@[simp] theorem eGet2_ap {f g h : SE} {ρ : PEnv} : eGet2 f g h ρ = (f ρ).bind fun x => match x with
  | .dict kvs => (g ρ).bind fun y => (h ρ).bind fun z => Res.of (getD2 kvs y z)
  | _ => .bad := nrfl rfl
theorem lookS_kv (x : Str) : ∀ kvs : List (Key × V), lookS (kvD kvs) x = (valV kvs (.inr x)).map fun v => (scaD v).getD .none
  | [] => rfl
  | (k, v) :: r => by
    have ih := lookS_kv x r
    simp only [lookS, kvD, valV, List.map_cons, List.find?_cons] at ih ⊢
    cases k with
    | inl i => simpa [keyD] using ih
    | inr y =>
      by_cases h : y = x
      · subst h; simp [keyD]
      · simpa [keyD, h] using ih
section
variable {X : Cx} {W : Wis} {a b c : Expr} {pos : Pos}
theorem ed_tupRev {p p2 pos pos2 : Pos} {f : SE} (hc : X.calm = true) (hm : X.mg "tuple" = none) (hm2 : X.mg "reversed" = none) (he : PE X a (tD X.K W f)) (hg : Gl X "tuple" := by rfl) (hg2 : Gl X "reversed" := by rfl)
    (hs : starEach [a] X.env = (false, eval a X.env) :: starEach [] X.env := by rfl)
    (hs2 : starEach [.Call (.Name "reversed" p2) [a] [] pos2] X.env = (false, eval (.Call (.Name "reversed" p2) [a] [] pos2) X.env) :: starEach [] X.env := by rfl) :
    PE X (.Call (.Name "tuple" p) [.Call (.Name "reversed" p2) [a] [] pos2] [] pos) (tD X.K W (eUn revD f)) :=
  pe_weak (RT.pe_tupRevT hc hg hm hg2 hm2 he hs hs2) fun σ H Q q => by
    obtain ⟨ρ, hE, q⟩ := q
    refine tD_mono (tD_then hE q) fun x H1 ⟨d, hx, s1, hE1, q1⟩ => ?_
    obtain ⟨r, hr, q2⟩ := Res.post_of q1
    obtain ⟨p, xs, ds, rfl, rfl, h1, h2⟩ : ∃ p xs ds, x = .ref p ∧ d = .tuple ds ∧ SqT X.K H1 p xs ∧ DpAll X.K H1 xs ds := by
      cases hx with
      | tup h1 h2 => exact ⟨_, _, _, rfl, rfl, h1, h2⟩
      | _ => simp [revD] at hr
    simp only [revD, Option.some.injEq] at hr
    subst hr
    exact ⟨_, _, rfl, h1, fun p hp => q2 _ (same_new hp _) _ (.tup (SqT.of upd_same) (dps_mono (same_new hp _) _ _ (dps_rev h2)))⟩
theorem ed_get2 {apos : Pos} {f g h : SE} (hu : X.A.units + 1 < cLine) (ho : PE X a (tD X.K W f)) (he : PE X b (tD X.K W g)) (hf : PE X c (tD X.K W h)) (m : M2 X a "get" apos b c pos := by exact ⟨rfl, rfl, rfl, rfl⟩) :
    PE X (.Call (.Attribute a "get" apos) [b, c] [] pos) (tD X.K W (eGet2 f g h)) := by
  refine pe_weak (pe_dget2 hu ho he hf m) fun σ H Q q => ?_
  obtain ⟨ρ, hE, q⟩ := q
  refine tD_mono (tD_then hE q) fun x H1 ⟨d, hx, s1, hE1, q1⟩ => ?_
  obtain ⟨p, kvs, rfl, rfl, h1, h2⟩ : ∃ p kvs, x = .ref p ∧ d = .dict (kvD kvs) ∧ H1 p = some (.dK kvs) ∧ ∀ q ∈ kvs, (scaD q.2).isSome = true := by
    cases hx with
    | dct h1 h2 => exact ⟨_, _, rfl, rfl, h1, h2⟩
    | _ => exact q1.elim
  refine ⟨p, rfl, .inl ⟨kvs, .inl h1⟩, tD_mono (tD_then hE1 q1) fun y H2 ⟨e, hy, s2, hE2, q2⟩ => ?_⟩
  refine tD_mono (tD_then hE2 q2) fun z H3 ⟨e2, hz, s3, hE3, q3⟩ => ?_
  obtain ⟨r, hr, q4⟩ := Res.post_of q3
  obtain ⟨k, rfl, rfl⟩ : ∃ k, e = .str k ∧ y = .str k := by
    cases hy with
    | str z => exact ⟨z, rfl, rfl⟩
    | _ => simp [getD2] at hr
  simp only [getD2, lookS_kv, Option.some.injEq] at hr
  refine ⟨valV kvs (.inr k), DGet.k (k := .inr k) (s3 _ _ (s2 _ _ h1)), ?_⟩
  cases hv : valV kvs (.inr k) with
  | none =>
    rw [hv] at hr
    subst hr
    exact q4.now _ hz
  | some v =>
    rw [hv] at hr
    subst hr
    have hm : (scaD v).isSome = true := by
      simp only [valV, Option.map_eq_some_iff] at hv
      obtain ⟨kv, h3, rfl⟩ := hv
      exact h2 _ (List.mem_of_find?_eq_some h3)
    obtain ⟨dv, hd⟩ := Option.isSome_iff_exists.mp hm
    refine q4.now _ ?_
    show Dp X.K H3 v ((scaD v).getD .none)
    rw [hd]
    exact dp_sca hd
/-- a place that is there gets a written thing -/
def sPut (i : Nat) (d : PyData) : SS := fun ρ => if i < ρ.length then .ok (.nx (ρ.set i (some d))) else .bad
@[simp] theorem sPut_ap {i : Nat} {d : PyData} {ρ : PEnv} : sPut i d ρ = if i < ρ.length then .ok (.nx (ρ.set i (some d))) else .bad := nrfl rfl
/-- x = {..}; x.update({..}): written texts and numbers -/
theorem pssd_dict2 {i : Nat} {x : Str} {keys keys2 : List (Option Expr)} {vals vals2 : List Expr} {px px2 p2 p3 pos apos cpos epos : Pos} {rest : List Stmt} {G : SS} (A B : List (Key × V)) (hN : X.N.Nodup)
    (hp : PPs X p2 keys vals (A.map fun p => (tC (kV p.1), tC p.2))) (hp2 : PPs X p3 keys2 vals2 (B.map fun p => (tC (kV p.1), tC p.2))) (hr : PSs X rest (tsD X.K W G))
    (hi : X.N[i]? = some x := by rfl) (hx : Loc X.env.scope x := by first | exact Or.inl rfl | exact Or.inr rfl) (hv : Vis X.env.scope x := by first | exact Or.inl rfl | exact Or.inr rfl | rfl)
    (hall : keys.all (·.isSome) = true := by rfl) (hl : keys.length = vals.length := by rfl) (h0 : keys ≠ [] := by exact List.cons_ne_nil _ _) (h15 : keys.length ≤ 15 := by decide) (hk : A.length ≤ 15 := by decide)
    (hall2 : keys2.all (·.isSome) = true := by rfl) (hl2 : keys2.length = vals2.length := by rfl) (h02 : keys2 ≠ [] := by exact List.cons_ne_nil _ _) (h152 : keys2.length ≤ 15 := by decide) (hk2 : B.length ≤ 15 := by decide)
    (hsc : ∀ p ∈ mergeK (mergeK [] A) (mergeK [] B), (scaD p.2).isSome = true := by decide)
    (hs : swapsWith (.Dict keys vals p2) (some (.Name x px)) pos.line X.env = pure false := by rfl)
    (hs2 : swapsWith (.Call (.Attribute (.Name x px2) "update" apos) [.Dict keys2 vals2 p3] [] cpos) none epos.line X.env = pure false := by rfl)
    (hf : X.fn x = true ∨ X.env.scope.names.lookup x = some .local := by first | exact .inl rfl | exact .inr rfl | assumption)
    (hst : starEach [Expr.Dict keys2 vals2 p3] X.env = [(false, eval (Expr.Dict keys2 vals2 p3) X.env)] := by rfl) (hbase : attributeBase (.Name x px2) "update" X.env (eval (.Name x px2) X.env) = eval (.Name x px2) X.env := by rfl) (hline : (apos.endLine == cpos.line) = true := by rfl)
    (hd : (x == ("__debug__" : Str)) = false := by decide) (hcd : (x == ("__classdict__" : Str)) = false := by decide) :
    PSs X (.Assign [.Name x px] (.Dict keys vals p2) pos :: .Expr (.Call (.Attribute (.Name x px2) "update" apos) [.Dict keys2 vals2 p3] [] cpos) epos :: rest) (tsD X.K W (sSeq (sPut i (.dict (kvD (mergeK (mergeK [] A) (mergeK [] B))))) G)) := by
  have t1 := ps_set hN hi hx (pe_disp hp hall hl h0 h15) hs hf
  have t2 := ps_expr (pe_dupd (pe_var (X := X) (i := i) hi hv hd hcd) (pe_disp hp2 hall2 hl2 h02 h152) hst hbase hline) hs2
  refine pss_weak (pss_cons t1 (pss_cons t2 hr)) fun D σ H ⟨ρ, hE, q⟩ => ?_
  unfold sSeq sPut at q
  split at q
  case isFalse => exact q.elim
  rename_i hlt
  intro p hpn
  refine pairs_then ⟨upd_same, A, rfl, hk, ?_⟩
  rw [upd_upd]
  refine ⟨.ref p, ?_, ⟨p, _, rfl, upd_same⟩, ?_⟩
  · rw [List.getElem?_set_self (by rw [← hE.1]; exact hlt)]
  intro q2 hq2
  have hpq : p ≠ q2 := fun e => by
    subst e
    rw [upd_same] at hq2
    cases hq2
  refine pairs_then ⟨upd_same, B, rfl, hk2, ?_⟩
  rw [upd_upd]
  have hA := length_mergeK A []
  have hB := length_mergeK B []
  rw [List.length_nil] at hA hB
  refine ⟨p, q2, mergeK [] A, mergeK [] B, rfl, rfl, hpq, by rw [upd_ne hpq, upd_same], upd_same, by rw [sizeLine_eq]; omega, ?_⟩
  have s0 : Same H (upd (upd (upd H p (.dK (mergeK [] A))) q2 (.dK (mergeK [] B))) p (.dK (mergeK (mergeK [] A) (mergeK [] B)))) := fun b u e => by
    have hb : b ≠ p := ne_of_none e hpn
    have hb2 : b ≠ q2 := fun e2 => by
      subst e2
      rw [upd_ne hb, e] at hq2
      cases hq2
    rw [upd_ne hb, upd_ne hb2, upd_ne hb]
    exact e
  exact ⟨_, (hE.mono s0).set (.dct upd_same hsc), Res.post.mono q (fun d r => r.on s0) fun n r => r.on s0⟩
end
end DL

set_option Elab.async false
set_option linter.all false
set_option maxRecDepth 100000
set_option maxHeartbeats 2000000
namespace DL
open PySem L2 PyProof.Rows
def sEx (n : Nat) : SS := fun _ => .ex n
@[simp] theorem sEx_ap {n : Nat} {ρ : PEnv} : sEx n ρ = .ex n := rfl
section
variable {P : Program} {w : World} {K : PySem.W.Frag} {mg : Str → Option Value} {base : Heap}
/-- a def that may be left by a raise -/
theorem callee_ofX {cls : Nat → Value} {x qual : Str} {st : Stmt} {f : Addr} {fd : FuncData} {N ps : List Str} {k : Nat} {F : SS} (D : L2.Fun K x qual st f fd) (S : FnScope N ps (defScope st)) (hm : mg x = some (.ref f)) (hb : Binds K fd ps [])
    (body : ∀ (cdv : Value) (A : Around) (outer : List Env) (s : Shared) (H : Hp) (E : XK), Room k (A.deeper (envOfC qual (defScope st) s.heap.objs.size f cdv)) →
      Takes (cxOf (L2.CX P w) P w K mg base N qual (defScope st) f cdv A outer s H E) (fun c d _ H => E c d H) → PassesOwn (model P w) (A.deeper (envOfC qual (defScope st) s.heap.objs.size f cdv)) (envOfC qual (defScope st) s.heap.objs.size f cdv) (cxOf (L2.CX P w) P w K mg base N qual (defScope st) f cdv A outer s H E).xe →
      PSs (cxOf (L2.CX P w) P w K mg base N qual (defScope st) f cdv A outer s H E) (defBody st) (tsD K (fun m H' => E (cls m) none H') F)) : Callee P w K mg base (L2.CX P w) cls x (k + 1) ps (bodyD N.length F) := by
  refine ⟨f, fd, D.okX S (fun vs H Q E h => h.1) (fun cdv A outer s H vs Q E hr h => ⟨_, body cdv A outer s H E hr (takes_of rfl rfl rfl rfl) (passes_of rfl), body_then h⟩), hm, D.kp, hb, ?_⟩
  obtain ⟨oc, od, kV, doc, pm, an, cdv, ct, osl, rfl, lk, hcd⟩ := D.ex
  exact ⟨oc, od, osl, lk⟩
end
section
variable {X : Cx} {pos : Pos}
theorem passX {cls : Nat → Value} {E : XK} (tk : Takes X (fun c d _ H => E c d H)) : Passes (L2.CX X.prog X.w) X (wishE cls fun m H => E (cls m) none H) :=
  passes_call tk fun c d σ H ⟨m, h1, h2, h3⟩ => by subst h1 h2; exact h3
/-- a class of errors without an own __init__, over ValueError -/
structure ErrAt (K : PySem.W.Frag) (mg : Str → Option Value) (x : Str) (C : Addr) : Prop where
  gC : mg x = some (.ref C)
  kC : PySem.W.keepIn K (.ref C) = true
  q : PySem.W.excIn K C [.type "ValueError", .type "Exception", .type "BaseException", .type "object"] "ValueError.__new__" = true
  ex : PySem.W.subIn K (.ref C) (.type "BaseException") = some true
  ty : PySem.W.typeIn K (.ref C) = some (.type "type")
theorem psd_raise {cls : Nat → Value} {E : XK} {n : Nat} {C : Addr} {x m : Str} {j : Nat} {p p2 pos' : Pos} (T : ErrAt X.K X.mg x C) (hcl : cls n = .ref C) (hc : X.calm = true) (tk : Takes X (fun c d _ H => E c d H)) (hg : Gl X x := by rfl) (hdb : (x == ("__debug__" : Str)) = false := by decide) :
    PS X (.Raise (some (.Call (.Name x p) [.Constant (.str m) j p2] [] pos)) none pos') (tsD X.K (fun m H => E (cls m) none H) (sEx n)) :=
  ps_weak (ps_raise hc tk (pmk_own PySem.F.excBase_ValueError T.q T.gC T.kC (raises_own T.ex T.ty) hg hdb)) fun D σ H ⟨ρ, hE, q⟩ => by
    have q1 : E (cls n) none H := q H (Same.refl H)
    rw [hcl] at q1
    exact q1
/-- a place in a list of texts -/
def lindexD : PyData → PyData → Option PyData
  | .list ds, .str z => (strsOf ds).bind fun ys => if z ∈ ys then some (.int (ys.idxOf z : Nat)) else none
  | _, _ => none
/-- a method of a list, of one argument -/
def eML (g : PyData → PyData → Option PyData) (f h : SE) : SE := fun ρ => (f ρ).bind fun x => match x with
  | .list ds => (h ρ).bind fun y => Res.of (g (.list ds) y)
  | _ => .bad
@[simp] theorem eML_ap {g : PyData → PyData → Option PyData} {f h : SE} {ρ : PEnv} : eML g f h ρ = (f ρ).bind fun x => match x with
  | .list ds => (h ρ).bind fun y => Res.of (g (.list ds) y)
  | _ => .bad := nrfl rfl
theorem ed_lindex {W : Wis} {a b : Expr} {apos : Pos} {f h : SE} (ho : PE X a (tD X.K W f)) (he : PE X b (tD X.K W h)) (hs : starEach [b] X.env = [(false, eval b X.env)] := by rfl)
    (hbase : attributeBase a "index" X.env (eval a X.env) = eval a X.env := by rfl) (hline : (apos.endLine == pos.line) = true := by rfl) :
    PE X (.Call (.Attribute a "index" apos) [b] [] pos) (tD X.K W (eML lindexD f h)) := by
  refine ⟨fun pins s σ H Q I hh => ?_⟩
  obtain ⟨ρ, hE, q⟩ := hh
  refine PySem.Call_method1 hbase hs hline (thn (ho.run pins s σ H _ I (tD_then hE q)) fun v s1 ⟨x, H1, I1, r1, q1⟩ => ?_)
  obtain ⟨d, hx, sm1, hE1, q1⟩ := q1
  obtain ⟨p, xs, ds, rfl, rfl, h1, h2⟩ : ∃ p xs ds, x = .ref p ∧ d = .list ds ∧ SqL X.K H1 p xs ∧ DpAll X.K H1 xs ds := by
    cases hx with
    | lst h1 h2 => exact ⟨_, _, _, rfl, rfl, h1, h2⟩
    | _ => exact q1.elim
  obtain rfl : v = Value.ref p := r1
  obtain ⟨its, rv, ⟨o, n, ho', hc, hdn, hd⟩, hz⟩ := I1.list h1
  refine ⟨"list", _, PySem.F.plainAttrs_list, PySem.F.slot_list_index, PySem.F.type_list_index, ⟨o, ho', hc⟩, (fun c e => by cases e; exact ⟨o, ho', hdn⟩), Calls.callWith_builtin rfl (Calls.evalArgs_plain (Calls.spliced_cons ?_))⟩
  refine thn (he.run pins s1 σ H1 _ I1 (tD_then hE1 q1)) fun u s2 ⟨y, H2, I2, r2, q2⟩ => Calls.spliced_nil ?_
  obtain ⟨e, hy, sm2, hE2, q2⟩ := q2
  obtain ⟨r, hr, q3⟩ := Res.post_of q2
  obtain ⟨z, rfl, rfl⟩ : ∃ z, e = .str z ∧ y = .str z := by
    cases hy with
    | str z => exact ⟨z, rfl, rfl⟩
    | _ => simp [lindexD] at hr
  simp only [lindexD, Option.bind_eq_some_iff] at hr
  obtain ⟨ys, hys, hr⟩ := hr
  split at hr <;> cases hr
  rename_i hzm
  rw [strsOf_map hys] at h2
  rw [dps_strs_of h2] at h1
  have hl := List.idxOf_lt_length_of_mem hzm
  refine mt_index pins s2 σ H2 (.ref p) [.str z] _ [u] Q I2 rfl (.cons r2 .nil) ⟨p, ys.map V.str, .str z, ys.idxOf z, .str z, rfl, rfl, sm2.seq h1, rfl, flat_strs ys, ?_, ?_, ?_, q3.now _ (.int _)⟩
  · rw [List.getElem?_map, List.getElem?_eq_getElem hl]
    simp
  · show (z == z) = true
    exact beq_self_eq_true z
  · intro m z' hmj e
    rw [List.getElem?_map] at e
    obtain ⟨w, hw, rfl⟩ := Option.map_eq_some_iff.mp e
    have := List.not_of_lt_findIdx (p := (· == z)) (xs := ys) (i := m) hmj
    obtain ⟨h1, h2⟩ := List.getElem?_eq_some_iff.mp hw
    rw [h2] at this
    show (w == z) = false
    simpa using this
theorem kit_ref {K : PySem.W.Frag} {U C : Addr} {b : Bool} (h : PySem.W.subIn K (.ref U) (.ref C) = some b) (hs : PySem.W.subIn K (.ref U) (.ref U) = some true) (hd : PySem.W.hasDictIn K C = true) (ty : PySem.W.typeIn K (.ref C) = some (.type "type")) : PySem.W.kitOne K (.ref U) (.ref C) = some b := by
  unfold PySem.W.kitOne
  split
  · rename_i e
    have e2 : Value.ref U = Value.ref C := eq_of_beq e
    cases e2
    rw [h] at hs
    exact hs.symm
  · obtain ⟨cd, hc, _⟩ := PySem.W.any_some hd
    have e2 : ((PySem.W.clsIn K C).isSome && PySem.W.typeIn K (.ref C) == some (.type "type")) = true := by rw [hc, ty] <;> rfl
    show (if ((PySem.W.clsIn K C).isSome && PySem.W.typeIn K (.ref C) == some (.type "type")) = true then PySem.W.subIn K (.ref U) (.ref C) else none) = some b
    rw [if_pos e2]
    exact h
theorem kit_val {K : PySem.W.Frag} {U : Addr} {b : Bool} (h : PySem.W.subIn K (.ref U) (.type "ValueError") = some b) : PySem.W.kitOne K (.ref U) (.type "ValueError") = some b := by
  unfold PySem.W.kitOne
  rw [if_neg (by intro e; cases eq_of_beq e)]
  show (if PySem.W.kitMeta "ValueError" = true then PySem.W.subIn K (.ref U) (.type "ValueError") else none) = some b
  rw [if_pos (by decide +kernel)]
  exact h
end
end DL

set_option Elab.async false
set_option linter.all false
set_option maxRecDepth 100000
set_option maxHeartbeats 2000000
/-! a list of one's own, changed in place; values that are told new -/
namespace DL
open PySem L2 PyProof.Rows
/-- a heap without a place -/
def wo (H : Hp) (p : Addr) : Hp := fun b => if b = p then none else H b
theorem wo_same {H H' : Hp} (e : Same H H') (p : Addr) : Same (wo H p) (wo H' p) := fun b o h => by
  unfold wo at h ⊢
  split at h
  · cases h
  · rename_i hb
    rw [if_neg hb]
    exact e b o h
theorem wo_le (H : Hp) (p : Addr) : Same (wo H p) H := fun b o h => by
  unfold wo at h
  split at h
  · cases h
  · exact h
theorem wo_ne {H : Hp} {p a : Addr} (h : a ≠ p) : wo H p a = H a := if_neg h
theorem wo_upd (H : Hp) (p : Addr) (o : HO) : wo (upd H p o) p = wo H p := by
  funext b
  unfold wo
  split
  · rfl
  · rename_i hb
    exact upd_ne hb
theorem none_on {B B' : Hp} {a : Addr} (e : Same B B') (h : B' a = none) : B a = none := by
  cases q : B a with
  | none => rfl
  | some o => rw [e _ _ q] at h; cases h
/-- below, without a place that was not there -/
theorem same_wo {B H : Hp} {p : Addr} (e : Same B H) (h : B p = none) : Same B (wo H p) := fun b o q => by
  rw [wo_ne (fun z => by subst z; rw [h] at q; cases q)]
  exact e b o q
theorem EnvR.blank {K : PySem.W.Frag} {H : Hp} {σ : L2.St} {ρ : PEnv} {i : Nat} {x : Option V} (h : EnvR K H σ ρ) : EnvR K H (σ.set i x) (ρ.set i none) := by
  refine ⟨by rw [List.length_set, List.length_set]; exact h.1, fun j e q => ?_⟩
  by_cases hj : i = j
  · subst hj
    have hl : i < ρ.length := by
      have z := (List.getElem?_eq_some_iff.mp q).1
      rw [List.length_set] at z
      exact z
    rw [List.getElem?_set_self hl] at q
    cases q
  · rw [List.getElem?_set_ne hj] at q
    obtain ⟨u, a, b⟩ := h.2 j e q
    exact ⟨u, by rw [List.getElem?_set_ne hj]; exact a, b⟩
/-- the own place -/
def OwnAt (K : PySem.W.Frag) (B H : Hp) (σ : L2.St) (ρ : PEnv) (i : Nat) : Prop := ∃ p xs ts, σ[i]? = some (some (.ref p)) ∧ B p = none ∧ H p = some (.lst xs) ∧ ρ[i]? = some (some (.list ts)) ∧ DpAll K H xs ts ∧ frzs ts = true ∧ EnvR K (wo H p) σ (ρ.set i none)
structure St (K : PySem.W.Frag) (B H : Hp) (σ : L2.St) (ρ : PEnv) (o : Option Nat) : Prop where
  base : Same B H
  env : EnvR K H σ ρ
  own : ∀ i, o = some i → OwnAt K B H σ ρ i
/-- what is told of a value: new: a list at a place that was not there -/
def told (K : PySem.W.Frag) (n : Bool) (B H' : Hp) (d : PyData) (v : V) : Prop := Dp K H' v d ∧ (n = true → ∃ a xs ts, v = .ref a ∧ d = .list ts ∧ B a = none ∧ H' a = some (.lst xs) ∧ DpAll K H' xs ts)
theorem told.on {K : PySem.W.Frag} {n : Bool} {B B' H' : Hp} {d : PyData} {v : V} (e : Same B B') (h : told K n B' H' d v) : told K n B H' d v := ⟨h.1, fun z => by
  obtain ⟨a, xs, ts, h1, h2, h3, h4, h5⟩ := h.2 z
  exact ⟨a, xs, ts, h1, h2, none_on e h3, h4, h5⟩⟩
theorem told_no {K : PySem.W.Frag} {B H' : Hp} {d : PyData} {v : V} (h : Dp K H' v d) : told K false B H' d v := ⟨h, fun z => by cases z⟩
theorem told_lst {K : PySem.W.Frag} {n : Bool} {B H' : Hp} {a : Addr} {xs : List V} {ts : List PyData} (h1 : B a = none) (h2 : H' a = some (.lst xs)) (h3 : DpAll K H' xs ts) : told K n B H' (.list ts) (.ref a) := ⟨.lst (SqL.of h2) h3, fun _ => ⟨a, xs, ts, rfl, rfl, h1, h2, h3⟩⟩
/-- frozen data reads without the list's place, too -/
theorem frz_wo {K : PySem.W.Frag} {H : Hp} {p : Addr} {xs : List V} (hp : H p = some (.lst xs)) : ∀ a ys, SqT K H a ys → SqT K (wo H p) a ys := fun a ys h => by
  rcases h with (h | ⟨o, h⟩) | h
  · refine .inl (.inl ?_)
    rw [wo_ne (fun e => by subst e; rw [hp] at h; cases h)]
    exact h
  · refine .inl (.inr ⟨o, ?_⟩)
    rw [wo_ne (fun e => by subst e; rw [hp] at h; cases h)]
    exact h
  · exact .inr h
section
variable {K : PySem.W.Frag} {B H H' : Hp} {σ : L2.St} {ρ : PEnv} {i j : Nat} {o : Option Nat}
theorem OwnAt.on (h : OwnAt K B H σ ρ i) (e : Same H H') : OwnAt K B H' σ ρ i := by
  obtain ⟨p, xs, ts, h1, h2, h3, h4, h5, h6, h7⟩ := h
  exact ⟨p, xs, ts, h1, h2, e _ _ h3, h4, dps_mono e _ _ h5, h6, h7.mono (wo_same e p)⟩
theorem St.on (h : St K B H σ ρ o) (e : Same H H') : St K B H' σ ρ o := ⟨h.base.trans e, h.env.mono e, fun i q => (h.own i q).on e⟩
theorem St.drop (h : St K B H σ ρ o) : St K B H σ ρ none := ⟨h.base, h.env, fun i q => by cases q⟩
theorem St.rebase {B' : Hp} (h : St K B' H σ ρ o) (e : Same B B') : St K B H σ ρ o := ⟨e.trans h.base, h.env, fun i q => by
  obtain ⟨p, xs, ts, h1, h2, h⟩ := h.own i q
  exact ⟨p, xs, ts, h1, none_on e h2, h⟩⟩
theorem st_none (e : Same B H) (h : EnvR K H σ ρ) : St K B H σ ρ none := ⟨e, h, fun i q => by cases q⟩
/-- another place gets a value that lies elsewhere -/
theorem St.put (h : St K B H σ ρ o) (hij : o ≠ some j) {v : V} {d : PyData} (hv : Dp K H v d) (hw : ∀ p xs, H p = some (.lst xs) → B p = none → (∃ i, o = some i ∧ σ[i]? = some (some (.ref p))) → Dp K (wo H p) v d) : St K B H (σ.set j (some v)) (ρ.set j (some d)) o := by
  refine ⟨h.base, h.env.set hv, fun i q => ?_⟩
  obtain ⟨p, xs, ts, h1, h2, h3, h4, h5, h6, h7⟩ := h.own i q
  have hj : i ≠ j := fun z => hij (by rw [q, z])
  refine ⟨p, xs, ts, by rw [List.getElem?_set_ne (Ne.symm hj)]; exact h1, h2, h3, by rw [List.getElem?_set_ne (Ne.symm hj)]; exact h4, h5, h6, ?_⟩
  rw [List.set_comm _ _ (Ne.symm hj)]
  exact h7.set (hw p xs h3 h2 ⟨i, q, h1⟩)
theorem St.putF (h : St K B H σ ρ o) (hij : o ≠ some j) {v : V} {d : PyData} (hz : frz d = true) (hv : Dp K H v d) : St K B H (σ.set j (some v)) (ρ.set j (some d)) o :=
  h.put hij hv fun p xs hp _ _ => frz_mono (frz_wo hp) d v hz hv
/-- another place gets a new list -/
theorem St.putN (h : St K B H σ ρ o) (hij : o ≠ some j) (e : Same H H') {v : V} {d : PyData} (hv : told K true H H' d v) (hz : ∀ ts, d = .list ts → frzs ts = true) : St K B H' (σ.set j (some v)) (ρ.set j (some d)) o := by
  obtain ⟨hd, hn⟩ := hv
  obtain ⟨a, xs, ts, rfl, rfl, h1, h2, h3⟩ := hn rfl
  refine (h.on e).put hij hd fun p ys hp hB ⟨i, hi, hs⟩ => ?_
  obtain ⟨p', xs', ts', g1, g2, g3, _⟩ := h.own i hi
  rw [g1] at hs
  cases hs
  have hap : a ≠ p := fun z => by subst z; rw [h1] at g3; cases g3
  exact .lst (SqL.of (by rw [wo_ne hap]; exact h2)) (frzs_mono (frz_wo hp) _ _ (hz ts rfl) h3)
/-- a place gets a new list as its own -/
theorem St.take (h : St K B H σ ρ o) (e : Same H H') {v : V} {ts : List PyData} (hv : told K true H H' (.list ts) v) (hz : frzs ts = true) (hi : i < ρ.length) : St K B H' (σ.set i (some v)) (ρ.set i (some (.list ts))) (some i) := by
  obtain ⟨hd, hn⟩ := hv
  obtain ⟨a, xs, ts', rfl, h0, h1, h2, h3⟩ := hn rfl
  cases h0
  refine ⟨h.base.trans e, (h.env.mono e).set hd, fun j q => ?_⟩
  cases q
  refine ⟨a, xs, ts, List.getElem?_set_self (by rw [← h.env.1]; exact hi), none_on h.base h1, h2, List.getElem?_set_self hi, h3, hz, ?_⟩
  rw [List.set_set]
  exact (h.env.mono (same_wo e h1)).blank
/-- the own list grows -/
theorem St.grow (h : St K B H σ ρ (some i)) {p : Addr} {xs ys : List V} {ts us : List PyData} (hs : σ[i]? = some (some (.ref p))) (hp : H p = some (.lst xs)) (hr : ρ[i]? = some (some (.list ts)))
    (hy : DpAll K (upd H p (.lst ys)) ys us) (hz : frzs us = true) : St K B (upd H p (.lst ys)) σ (ρ.set i (some (.list us))) (some i) := by
  obtain ⟨p', xs', ts', h1, h2, h3, h4, h5, h6, h7⟩ := h.own i rfl
  rw [h1] at hs
  cases hs
  have hB : Same B (upd H p (.lst ys)) := fun b o q => by
    rw [upd_ne (fun z => by subst z; rw [h2] at q; cases q)]
    exact h.base b o q
  have hil : i < ρ.length := (List.getElem?_eq_some_iff.mp hr).1
  have hw : EnvR K (wo (upd H p (.lst ys)) p) σ (ρ.set i none) := by rw [wo_upd]; exact h7
  have hd : Dp K (upd H p (.lst ys)) (.ref p) (.list us) := .lst (SqL.of upd_same) hy
  refine ⟨hB, ?_, fun j q => ?_⟩
  · refine ⟨by rw [List.length_set]; exact h.env.1, fun j e q => ?_⟩
    by_cases hj : i = j
    · subst hj
      rw [List.getElem?_set_self hil] at q
      cases q
      exact ⟨_, h1, hd⟩
    · rw [List.getElem?_set_ne hj] at q
      obtain ⟨v, a, b⟩ := (hw.mono (wo_le _ p)).2 j e (by rw [List.getElem?_set_ne hj]; exact q)
      exact ⟨v, a, b⟩
  · cases q
    exact ⟨p, ys, us, h1, h2, upd_same, List.getElem?_set_self hil, hy, hz, by rw [List.set_set]; exact hw⟩
end
theorem frzs_append : ∀ (as bs : List PyData), frzs (as ++ bs) = (frzs as && frzs bs)
  | [], bs => by simp [frzs]
  | a :: as, bs => by simp [frzs, frzs_append as bs, Bool.and_assoc]
theorem frzs_set : ∀ (as : List PyData) (k : Nat) (d : PyData), frzs as = true → frz d = true → frzs (as.set k d) = true
  | [], k, d, _, _ => rfl
  | a :: as, 0, d, h, hd => by
    simp only [frzs, Bool.and_eq_true] at h
    simp [frzs, hd, h.2]
  | a :: as, k + 1, d, h, hd => by
    simp only [frzs, Bool.and_eq_true] at h
    simp [frzs, h.1, frzs_set as k d h.2 hd]

/-! ### expressions that give what is new -/
def tE (K : PySem.W.Frag) (W : Wis) (n : Bool) (f : SE) : TE := fun σ H Q => ∃ ρ, EnvR K H σ ρ ∧ (f ρ).post (fun d => fut H fun H' => ∀ v, told K n H H' d v → Q v H') fun m => fut H (W m)
section
variable {X : Cx} {W : Wis} {a b c : Expr} {pos : Pos} {n : Bool}
theorem eN_D {f : SE} (h : PE X a (tE X.K W n f)) : PE X a (tD X.K W f) := pe_weak h fun σ H Q ⟨ρ, hE, q⟩ => ⟨ρ, hE, q.mono (fun d r H' s v hv => r H' s v hv.1) fun m r => r⟩
theorem eD_N {f : SE} (h : PE X a (tD X.K W f)) : PE X a (tE X.K W false f) := pe_weak h fun σ H Q ⟨ρ, hE, q⟩ => ⟨ρ, hE, q.mono (fun d r H' s v hv => r H' s v (told_no hv)) fun m r => r⟩
theorem en_lst {es : List Expr} {f : SA} (h : PA X es (taD X.K W f)) : PE X (.List es pos) (tE X.K W true (eLst f)) := by
  refine pe_weak (pe_lst h) fun σ H Q h => ?_
  obtain ⟨ρ, hE, q⟩ := h
  refine ⟨ρ, hE, (Res.post_bind.mp q).mono (fun ds q1 H1 s1 xs hxs => ?_) fun m r => r⟩
  split at q1
  · rename_i hz
    exact ⟨by rw [dps_len hxs]; exact Nat.le_trans hz big_line, fun p hp => q1 _ (s1.trans (same_new hp _)) _ (told_lst (none_on s1 hp) upd_same (dps_mono (same_new hp _) _ _ hxs))⟩
  · exact q1.elim
theorem en_list {p : Pos} {f : SA} (hm : X.mg "list" = none) (ha : PA X [a] (taD X.K W f)) (hg : Gl X "list" := by rfl) (he : starEach [a] X.env = (false, eval a X.env) :: starEach [] X.env := by rfl) (hpl : (backTo pos (starEach [] X.env)).any (·.1) = false := by rfl) :
    PE X (.Call (.Name "list" p) [a] [] pos) (tE X.K W true (eArgs listD f)) := by
  refine pe_weak (pe_callTy call_list_of hg hm (by decide +kernel) ha (by decide) (by decide) he hpl) fun σ H Q h => ?_
  obtain ⟨ρ, hE, q⟩ := h
  refine ⟨ρ, hE, (Res.post_bind.mp q).mono (fun ds q1 H1 s1 xs hxs => ?_) fun m r => r⟩
  obtain ⟨r, hr, q2⟩ := Res.post_of q1
  match ds, xs, hxs, hr with
  | [.list xs], _, .cons (.lst h1 h2) .nil, hg =>
    simp only [listD, Option.some.injEq] at hg
    subst hg
    exact ⟨_, _, rfl, .inl h1, fun p hp => q2 _ (s1.trans (same_new hp _)) _ (told_lst (none_on s1 hp) upd_same (dps_mono (same_new hp _) _ _ h2))⟩
  | [.tuple xs], _, .cons (.tup h1 h2) .nil, hg =>
    simp only [listD, Option.some.injEq] at hg
    subst hg
    exact ⟨_, _, rfl, .inr h1, fun p hp => q2 _ (s1.trans (same_new hp _)) _ (told_lst (none_on s1 hp) upd_same (dps_mono (same_new hp _) _ _ h2))⟩
end

/-! ### statements -/
def outG (K : PySem.W.Frag) (n : Bool) (B : Hp) (o : Option Nat) (D : Ends) : Out → Prop
  | .nx ρ' => ∀ σ' H', St K B H' σ' ρ' o → D.nx σ' H'
  | .rt d => ∀ H', Same B H' → ∀ v, told K n B H' d v → D.rt v H'
  | .bk _ => False
  | .ct _ => False
def tsG (K : PySem.W.Frag) (W : Wis) (n : Bool) (o o' : Option Nat) (F : SS) : TS := fun D σ H => ∃ B ρ, St K B H σ ρ o ∧ (F ρ).post (outG K n B o' D) fun m => fut B (W m)
/-- no value is returned -/
def noRt (F : SS) : Prop := ∀ ρ d, F ρ ≠ .ok (.rt d)
section
variable {X : Cx} {W : Wis} {a b tg : Expr} {pos : Pos} {st : Stmt} {rest : List Stmt} {F G : SS} {n : Bool} {o o' m : Option Nat} {i j : Nat}
theorem g_of {K : PySem.W.Frag} {D : Ends} {σ : L2.St} {H : Hp} (hn : n = false ∨ noRt F) (q : tsG K W n o none F D σ H) : tsD K W F D σ H := by
  obtain ⟨B, ρ, hS, q⟩ := q
  refine ⟨ρ, hS.env, ?_⟩
  cases hF : F ρ with
  | bad => rw [hF] at q; exact q.elim
  | ex k => rw [hF] at q; exact fun H' s => q H' (hS.base.trans s)
  | ok r =>
    rw [hF] at q
    cases r with
    | nx ρ' => exact fun H' s σ' hE => q σ' H' (st_none (hS.base.trans s) hE)
    | rt d =>
      rcases hn with rfl | hn
      · exact fun H' s v hv => q H' (hS.base.trans s) v (told_no hv)
      · exact absurd hF (hn ρ d)
    | bk ρ' => exact q.elim
    | ct ρ' => exact q.elim
/-- what stands as data, among these; what was owned is let go -/
theorem psG_d (h : PS X st (tsD X.K W F)) (hn : n = false ∨ noRt F) : PS X st (tsG X.K W n o none F) := ps_weak h fun D σ H q => g_of hn q
theorem pssG_d {ss : List Stmt} (h : PSs X ss (tsD X.K W F)) (hn : n = false ∨ noRt F) : PSs X ss (tsG X.K W n o none F) := pss_weak h fun D σ H q => g_of hn q
theorem d_of {K : PySem.W.Frag} {D : Ends} {σ : L2.St} {H : Hp} (q : tsD K W F D σ H) (hb : ∀ ρ ρ', F ρ ≠ .ok (.bk ρ') ∧ F ρ ≠ .ok (.ct ρ')) : tsG K W n none o F D σ H := by
  obtain ⟨ρ, hE, q⟩ := q
  refine ⟨H, ρ, st_none (Same.refl H) hE, ?_⟩
  cases hF : F ρ with
  | bad => rw [hF] at q; exact q.elim
  | ex k => rw [hF] at q; exact q
  | ok r =>
    rw [hF] at q
    cases r with
    | nx ρ' => exact fun σ' H' hS => q H' hS.base σ' hS.env
    | rt d => exact fun H' s v hv => q H' s v hv.1
    | bk ρ' => exact absurd hF (hb ρ ρ').1
    | ct ρ' => exact absurd hF (hb ρ ρ').2
/-- a block with owned lists, as data: it breaks off nothing -/
def noBk (F : SS) : SS := fun ρ => (F ρ).bind fun r => match r with
  | .bk _ => .bad
  | .ct _ => .bad
  | r => .ok r
@[simp] theorem noBk_ap {ρ : PEnv} : noBk F ρ = (F ρ).bind fun r => match r with
  | .bk _ => .bad
  | .ct _ => .bad
  | r => .ok r := nrfl rfl
theorem d_noBk {K : PySem.W.Frag} {D : Ends} {σ : L2.St} {H : Hp} (q : tsD K W (noBk F) D σ H) : tsG K W n none o F D σ H := by
  obtain ⟨ρ, hE, q⟩ := q
  refine ⟨H, ρ, st_none (Same.refl H) hE, ?_⟩
  unfold noBk at q
  cases hF : F ρ with
  | bad => rw [hF] at q; exact q.elim
  | ex k => rw [hF] at q; exact q
  | ok r =>
    rw [hF] at q
    cases r with
    | nx ρ' => exact fun σ' H' hS => q H' hS.base σ' hS.env
    | rt d => exact fun H' s v hv => q H' s v hv.1
    | bk ρ' => exact q.elim
    | ct ρ' => exact q.elim
theorem pssD_g {ss : List Stmt} (h : PSs X ss (tsG X.K W n none o F)) : PSs X ss (tsD X.K W (noBk F)) := pss_weak h fun D σ H q => d_noBk q
theorem psD_g (h : PS X st (tsG X.K W n none o F)) : PS X st (tsD X.K W (noBk F)) := ps_weak h fun D σ H q => d_noBk q
/-- the own list is let go behind -/
theorem outG_drop {K : PySem.W.Frag} {B : Hp} {D : Ends} {r : Out} (h : outG K n B none D r) : outG K n B o D r := by
  cases r with
  | nx ρ' => exact fun σ' H' hS => h σ' H' hS.drop
  | rt d => exact h
  | bk ρ' => exact h
  | ct ρ' => exact h
theorem psG_drop (h : PS X st (tsG X.K W n m o F)) : PS X st (tsG X.K W n m none F) := ps_weak h fun D σ H ⟨B, ρ, hS, q⟩ => ⟨B, ρ, hS, q.mono (fun r z => outG_drop z) fun k z => z⟩
theorem pssG_drop {ss : List Stmt} (h : PSs X ss (tsG X.K W n m o F)) : PSs X ss (tsG X.K W n m none F) := pss_weak h fun D σ H ⟨B, ρ, hS, q⟩ => ⟨B, ρ, hS, q.mono (fun r z => outG_drop z) fun k z => z⟩
theorem pssG_nil : PSs X [] (tsG X.K W n o o sNext) := pss_weak pss_nil fun D σ H ⟨B, ρ, hS, q⟩ => q σ H hS
theorem pssG_cons (h1 : PS X st (tsG X.K W n o m F)) (h2 : PSs X rest (tsG X.K W n m o' G)) : PSs X (st :: rest) (tsG X.K W n o o' (sSeq F G)) := pss_weak (pss_cons h1 h2) fun D σ H ⟨B, ρ, hS, q⟩ => by
  refine ⟨B, ρ, hS, (Res.post_bind.mp q).mono (fun r z => ?_) fun k z => z⟩
  cases r with
  | nx ρ' => exact fun σ' H' hS' => ⟨B, ρ', hS', z⟩
  | rt d => exact z
  | bk ρ' => exact z.elim
  | ct ρ' => exact z.elim
theorem pssG_one (h1 : PS X st (tsG X.K W n o o' F)) : PSs X [st] (tsG X.K W n o o' F) := pss_one h1
/-- an expression's reading among these -/
theorem tE_then {K : PySem.W.Frag} {B H : Hp} {σ : L2.St} {ρ : PEnv} {f : SE} {g : PyData → Res Out} {D : Ends} {k : Bool} {r : Out → Prop} (hS : St K B H σ ρ o) (h : ((f ρ).bind g).post r fun m => fut B (W m)) {Q : VK}
    (w : ∀ d v H1, Same H H1 → told K k H H1 d v → St K B H1 σ ρ o → (g d).post r (fun m => fut B (W m)) → Q v H1) : tE K W k f σ H Q :=
  ⟨ρ, hS.env, (Res.post_bind.mp h).mono (fun d q H1 s v hv => w d v H1 s hv (hS.on s) q) fun m q => q.on hS.base⟩
theorem psG_bad : PS X st (tsG X.K W n o o sBad) := ⟨fun pins s σ H D I q => by
  obtain ⟨B, ρ, hS, q⟩ := q
  exact q.elim⟩
theorem psG_if {t : ST} {c : Expr} {a b : List Stmt} (hc : PT X c (ttD X.K W t)) (ha : PSs X a (tsG X.K W n o o' F)) (hb : PSs X b (tsG X.K W n o o' G)) : PS X (.If c a b pos) (tsG X.K W n o o' (sIf t F G)) :=
  ps_weak (ps_if hc ha hb) fun D σ H ⟨B, ρ, hS, q⟩ => by
    refine ⟨ρ, hS.env, (Res.post_bind.mp q).mono (fun k q1 H1 s => ?_) fun m q => q.on hS.base⟩
    cases k with
    | true => exact iteT ⟨B, ρ, hS.on s, q1⟩
    | false => exact iteF ⟨B, ρ, hS.on s, q1⟩
/-- a return: what is told of it -/
theorem psG_ret {f : SE} (he : PE X a (tE X.K W n f)) : PS X (.Return (some a) pos) (tsG X.K W n o o (sRet f)) := ps_weak (ps_ret he) fun D σ H ⟨B, ρ, hS, q⟩ =>
  tE_then (D := D) hS q fun d v H1 s hv hS1 q1 => q1 H1 hS1.base v (hv.on hS.base)
/-- the own list is returned -/
theorem psG_own {x : Str} {p : Pos} (hN : X.N[i]? = some x := by rfl) (hv : Vis X.env.scope x := by first | exact Or.inl rfl | exact Or.inr (Or.inl rfl) | exact Or.inr (Or.inr rfl)) (hd : (x == ("__debug__" : Str)) = false := by decide)
    (hcd : (x == ("__classdict__" : Str)) = false := by decide) : PS X (.Return (some (.Name x p)) pos) (tsG X.K W n (some i) (some i) (sRet (eVar i))) :=
  ps_weak (ps_ret (pe_var (i := i) hN hv hd hcd)) fun D σ H ⟨B, ρ, hS, q⟩ => by
    obtain ⟨p, xs, ts, h1, h2, h3, h4, h5, h6, h7⟩ := hS.own i rfl
    unfold sRet eVar at q
    rw [h4] at q
    exact ⟨_, h1, q H hS.base _ (told_lst h2 h3 h5)⟩
/-- another place gets frozen data -/
def sSetF (j : Nat) (f : SE) : SS := fun ρ => (f ρ).bind fun d => if frz d then .ok (.nx (ρ.set j (some d))) else .bad
@[simp] theorem sSetF_ap {j : Nat} {f : SE} {ρ : PEnv} : sSetF j f ρ = (f ρ).bind fun d => if frz d then .ok (.nx (ρ.set j (some d))) else .bad := nrfl rfl
theorem psG_set {j : Nat} {x : Str} {f : SE} {pos' : Pos} (hij : o ≠ some j) (hN : X.N.Nodup) (he : PE X a (tD X.K W f)) (hi : X.N[j]? = some x := by rfl) (hx : Loc X.env.scope x := by first | exact Or.inl rfl | exact Or.inr rfl) (hs : swapsWith a (some (.Name x pos')) pos.line X.env = pure false := by rfl)
    (hf : X.fn x = true ∨ X.env.scope.names.lookup x = some .local := by first | exact .inl rfl | exact .inr rfl | assumption) : PS X (.Assign [.Name x pos'] a pos) (tsG X.K W n o o (sSetF j f)) :=
  ps_weak (ps_set hN hi hx (eD_N he) hs hf) fun D σ H ⟨B, ρ, hS, q⟩ => tE_then (D := D) hS q fun d v H1 s hv hS1 q1 => by
    split at q1
    · rename_i hz
      exact q1 _ _ (hS1.putF hij hz hv.1)
    · exact q1.elim
/-- another place gets a new list of frozen data -/
def sSetN (j : Nat) (f : SE) : SS := fun ρ => (f ρ).bind fun d => match d with
  | .list ts => if frzs ts then .ok (.nx (ρ.set j (some (.list ts)))) else .bad
  | _ => .bad
@[simp] theorem sSetN_ap {j : Nat} {f : SE} {ρ : PEnv} : sSetN j f ρ = (f ρ).bind fun d => match d with
  | .list ts => if frzs ts then .ok (.nx (ρ.set j (some (.list ts)))) else .bad
  | _ => .bad := nrfl rfl
theorem putN_at {K : PySem.W.Frag} {B H H1 : Hp} {D : Ends} {σ : L2.St} {ρ : PEnv} {d : PyData} {v : V} (hij : o ≠ some j) (hS : St K B H σ ρ o) (s : Same H H1) (hv : told K true H H1 d v) (q1 : (match d with
  | .list ts => if frzs ts then Res.ok (Out.nx (ρ.set j (some (.list ts)))) else .bad
  | _ => .bad).post (outG K n B o D) fun m => fut B (W m)) : D.nx (σ.set j (some v)) H1 := by
  split at q1
  · split at q1
    · rename_i hz
      exact q1 _ _ (hS.putN hij s hv fun us e => by cases e; exact hz)
    · exact q1.elim
  · exact q1.elim
theorem psG_setN {j : Nat} {x : Str} {f : SE} {pos' : Pos} (hij : o ≠ some j) (hN : X.N.Nodup) (he : PE X a (tE X.K W true f)) (hi : X.N[j]? = some x := by rfl) (hx : Loc X.env.scope x := by first | exact Or.inl rfl | exact Or.inr rfl) (hs : swapsWith a (some (.Name x pos')) pos.line X.env = pure false := by rfl)
    (hf : X.fn x = true ∨ X.env.scope.names.lookup x = some .local := by first | exact .inl rfl | exact .inr rfl | assumption) : PS X (.Assign [.Name x pos'] a pos) (tsG X.K W n o o (sSetN j f)) :=
  ps_weak (ps_set hN hi hx he hs hf) fun D σ H ⟨B, ρ, hS, q⟩ => tE_then (D := D) hS q fun d v H1 s hv hS1 q1 => putN_at hij hS s hv q1
/-- a place gets a new list as its own -/
def sTake (i : Nat) (f : SE) : SS := fun ρ => (f ρ).bind fun d => match d with
  | .list ts => if frzs ts then if i < ρ.length then .ok (.nx (ρ.set i (some (.list ts)))) else .bad else .bad
  | _ => .bad
@[simp] theorem sTake_ap {j : Nat} {f : SE} {ρ : PEnv} : sTake j f ρ = (f ρ).bind fun d => match d with
  | .list ts => if frzs ts then if j < ρ.length then .ok (.nx (ρ.set j (some (.list ts)))) else .bad else .bad
  | _ => .bad := nrfl rfl
theorem psG_take {x : Str} {f : SE} {pos' : Pos} (hN : X.N.Nodup) (he : PE X a (tE X.K W true f)) (hi : X.N[i]? = some x := by rfl) (hx : Loc X.env.scope x := by first | exact Or.inl rfl | exact Or.inr rfl) (hs : swapsWith a (some (.Name x pos')) pos.line X.env = pure false := by rfl)
    (hf : X.fn x = true ∨ X.env.scope.names.lookup x = some .local := by first | exact .inl rfl | exact .inr rfl | assumption) : PS X (.Assign [.Name x pos'] a pos) (tsG X.K W n o (some i) (sTake i f)) :=
  ps_weak (ps_set hN hi hx he hs hf) fun D σ H ⟨B, ρ, hS, q⟩ => tE_then (D := D) hS q fun d v H1 s hv hS1 q1 => by
    split at q1
    · split at q1
      · rename_i hz
        split at q1
        · rename_i hl
          exact q1 _ _ (hS.take s hv hz hl)
        · exact q1.elim
      · exact q1.elim
    · exact q1.elim
/-- the own list, appended to -/
def sApp (i : Nat) (f : SE) : SS := fun ρ => (f ρ).bind fun d => match ρ[i]? with
  | some (some (.list ts)) => if frz d then if ts.length < big then .ok (.nx (ρ.set i (some (.list (ts ++ [d]))))) else .bad else .bad
  | _ => .bad
@[simp] theorem sApp_ap {j : Nat} {f : SE} {ρ : PEnv} : sApp j f ρ = (f ρ).bind fun d => match ρ[j]? with
  | some (some (.list ts)) => if frz d then if ts.length < big then .ok (.nx (ρ.set j (some (.list (ts ++ [d]))))) else .bad else .bad
  | _ => .bad := nrfl rfl
theorem psG_app {x : Str} {p apos cpos : Pos} {e : Expr} {f : SE} (he : PE X e (tD X.K W f)) (hN : X.N[i]? = some x := by rfl) (hv : Vis X.env.scope x := by first | exact Or.inl rfl | exact Or.inr (Or.inl rfl) | exact Or.inr (Or.inr rfl)) (hd : (x == ("__debug__" : Str)) = false := by decide)
    (hcd : (x == ("__classdict__" : Str)) = false := by decide) (hbase : attributeBase (.Name x p) "append" X.env (eval (.Name x p) X.env) = eval (.Name x p) X.env := by rfl)
    (hfew : ((backTo cpos (starEach [e] X.env)).all (fun x => !x.1) && (backToKw cpos (keywordEach [] X.env)).all (fun x => x.1.isSome) && decide (([e] : List Expr).length + ([] : List Keyword).length + (if ([] : List Keyword).isEmpty then 0 else 1) < 30)) = true := by rfl)
    (hline : (apos.endLine == cpos.line) = true := by rfl) (hs : starEach [e] X.env = (false, eval e X.env) :: starEach [] X.env := by rfl) (hplain : (backTo cpos (starEach [] X.env)).any (·.1) = false := by rfl)
    (hsw : swapsWith (.Call (.Attribute (.Name x p) "append" apos) [e] [] cpos) none pos.line X.env = pure false := by rfl) :
    PS X (.Expr (.Call (.Attribute (.Name x p) "append" apos) [e] [] cpos) pos) (tsG X.K W n (some i) (some i) (sApp i f)) :=
  ps_weak (ps_expr (pe_bm PySem.F.plainAttrs_list PySem.F.slot_list_append PySem.F.type_list_append mt_append (pe_var (i := i) hN hv hd hcd) (pa_cons (eD_N he) pa_nil hs) hbase hfew hline hs hplain) hsw) fun D σ H ⟨B, ρ, hS, q⟩ => by
    obtain ⟨p, xs, ts, h1, h2, h3, h4, h5, h6, h7⟩ := hS.own i rfl
    refine ⟨_, h1, .inl ⟨rfl, xs, SqL.of h3⟩, ?_⟩
    refine tE_then (D := D) hS q fun d v H1 s hv hS1 q1 => ?_
    rw [h4] at q1
    dsimp only at q1
    split at q1
    · rename_i hz
      split at q1
      · rename_i hl
        have hp1 := s _ _ h3
        have hlen := dps_len h5
        have hb := big_line
        refine ⟨p, xs, v, rfl, rfl, hp1, by omega, ?_⟩
        refine q1 _ _ (hS1.grow h1 hp1 h4 (dps_append (frzs_mono (sqT_lst hp1) _ _ h6 (dps_mono s _ _ h5)) (.cons (frz_mono (sqT_lst hp1) _ _ hz hv.1) .nil)) ?_)
        rw [frzs_append, h6]
        simp [frzs, hz]
      · exact q1.elim
    · exact q1.elim
/-- a loop over frozen data -/
def gF (j : Nat) : SG := fun d ρ => if frz d then some (ρ.set j (some d)) else none
@[simp] theorem gF_ap {j : Nat} {d : PyData} {ρ : PEnv} : gF j d ρ = if frz d then some (ρ.set j (some d)) else none := nrfl rfl
/-- what is walked lies not in a list of the start -/
def tiN (K : PySem.W.Frag) (W : Wis) (f : SA) : TI := fun σ H R => ∃ ρ, EnvR K H σ ρ ∧ (f ρ).post (fun ds => fut H fun H' => ∀ J, Walks K J H' ds → (∀ p ys, H p = some (.lst ys) → Walks K J (wo H' p) ds) → R J H') fun m => fut H (W m)
theorem St.loop {K : PySem.W.Frag} {B H H1 : Hp} {σ : L2.St} {ρ : PEnv} (h : St K B H σ ρ o) (s : Same H H1) {J : It} {ds : List PyData} (h1 : Walks K J H1 ds) (h2 : ∀ p ys, H p = some (.lst ys) → Walks K J (wo H1 p) ds) :
    ∃ B1, Same B B1 ∧ St K B1 H1 σ ρ o ∧ Walks K J B1 ds := by
  have hS := h.on s
  cases o with
  | none => exact ⟨H1, hS.base, ⟨Same.refl _, hS.env, fun i q => by cases q⟩, h1⟩
  | some i =>
    obtain ⟨p, xs, ts, g1, g2, g3, g4, g5, g6, g7⟩ := h.own i rfl
    refine ⟨wo H1 p, same_wo hS.base g2, ⟨wo_le _ _, hS.env, fun j q => ?_⟩, h2 p xs g3⟩
    cases q
    exact ⟨p, xs, ts, g1, if_pos rfl, s _ _ g3, g4, dps_mono s _ _ g5, g6, g7.mono (wo_same s p)⟩
theorem outG_on {K : PySem.W.Frag} {B B' : Hp} {D : Ends} {r : Out} (e : Same B B') (h : outG K n B o D r) : outG K n B' o D r := by
  cases r with
  | nx ρ' => exact fun σ' H' hS => h σ' H' (hS.rebase e)
  | rt d => exact fun H' s v hv => h H' (e.trans s) v (hv.on e)
  | bk ρ' => exact h
  | ct ρ' => exact h
theorem psG_for {x : Str} {tpos : Pos} {iter : Expr} {body : List Stmt} {src : SA} (hij : o ≠ some j) (hN : X.N.Nodup) (hp : PassesOwn (model X.prog X.w) X.A X.env X.xe) (hc : X.calm = true) (hi : PI X (.Name x tpos) iter (tiN X.K W src)) (hb : PSs X body (tsG X.K W n o o F))
    (hj : X.N[j]? = some x := by rfl) (hx : Loc X.env.scope x := by first | exact Or.inl rfl | exact Or.inr rfl) (hf : X.fn x = true ∨ X.env.scope.names.lookup x = some .local := by first | exact .inl rfl | exact .inr rfl | assumption)
    (hs : ∀ x, foldedSetIterable iter X.env x = pure x := by intro _; rfl) : PS X (.For (.Name x tpos) iter body [] pos) (tsG X.K W n o o (sFor src (gF j) (noBk F))) := by
  refine ps_weak (ps_for hp hc hi (pg_name hN hj hx hf) hb hs) fun D σ H ⟨B, ρ, hS, q⟩ => ?_
  refine ⟨ρ, hS.env, (Res.post_bind.mp q).mono (fun ds r H1 s1 J hJ hJ2 => ?_) fun m q => q.on hS.base⟩
  obtain ⟨B1, e1, hS1, hW⟩ := hS.loop s1 hJ hJ2
  have r1 : (forGo (gF j) (noBk F) ds ρ).post (outG X.K n B1 o D) fun m => fut B1 (W m) := r.mono (fun z q => outG_on e1 q) fun m q => q.on e1
  clear r
  refine ⟨fun k m σ' H' => m = ds.length - k ∧ k ≤ ds.length ∧ ∃ ρ', St X.K B1 H' σ' ρ' o ∧ (forGo (gF j) (noBk F) (ds.drop k) ρ').post (outG X.K n B1 o D) fun m => fut B1 (W m),
    ⟨ds.length, by simp, Nat.zero_le _, ρ, hS1, by rw [List.drop_zero]; exact r1⟩, ?_⟩
  rintro k m σ' H' ⟨rfl, hk, ρ', hS', r'⟩
  obtain ⟨w1, w2⟩ := hW k H' hS'.base
  by_cases hlt : k < ds.length
  · have hx : ds[k]? = some ds[k] := List.getElem?_eq_getElem hlt
    obtain ⟨go, yl⟩ := w1 _ hx
    refine .inr ⟨go, fun σ2 H2 => ∃ ρ', St X.K B1 H2 σ2 ρ' o ∧ (forGo (gF j) (noBk F) (ds.drop (k + 1)) ρ').post (outG X.K n B1 o D) fun m => fut B1 (W m), fun σ2 H2 h2 => ⟨ds.length - (k + 1), by omega, rfl, hlt, h2⟩, fun x H2 y => ?_⟩
    obtain ⟨e2, hdx⟩ := yl x H2 y
    subst e2
    rw [List.drop_eq_getElem_cons hlt] at r'
    obtain ⟨ρ1, h1, r1⟩ := Res.post_of (Res.post_bind.mp r')
    simp only [gF] at h1
    split at h1
    · rename_i hz
      cases h1
      refine ⟨B1, _, hS'.putF hij hz hdx, ?_⟩
      rw [noBk_ap] at r1
      cases hF : F (ρ'.set j (some ds[k])) with
      | bad => rw [hF] at r1; exact r1.elim
      | ex m => rw [hF] at r1; exact r1
      | ok z =>
        rw [hF] at r1
        cases z with
        | nx ρ2 => exact fun σ3 H3 hS3 => ⟨ρ2, hS3, r1⟩
        | rt d => exact r1
        | bk ρ2 => exact r1.elim
        | ct ρ2 => exact r1.elim
    · cases h1
  · have e : k = ds.length := by omega
    subst e
    rw [List.drop_length] at r'
    exact .inl ⟨w2 (Nat.le_refl _), r' σ' H' hS'⟩
/-! what is walked -/
theorem walks_wo {K : PySem.W.Frag} {J : It} {H : Hp} {p : Addr} {ds : List PyData} (h : ∀ H, Walks K J H ds) : Walks K J (wo H p) ds := h _
theorem in_rng1 {f : SA} {p : Pos} (hm : X.mg "range" = none) (ha : PA X [a] (taD X.K W f)) (hg : Gl X "range" := by rfl) (hs : starEach [a] X.env = [(false, eval a X.env)] := by rfl) : PI X tg (.Call (.Name "range" p) [a] [] pos) (tiN X.K W (sRng1 f)) :=
  pi_weak (pi_range1 hg hm ha hs) fun σ H R q => by
  obtain ⟨ρ, hE, q⟩ := q
  refine ⟨ρ, hE, (Res.post_bind.mp q).mono (fun d q1 H1 s1 x hx => ?_) fun m q => q⟩
  split at q1
  · split at q1
    · rename_i j hj
      cases hx with
      | cons h1 h2 =>
        cases h1; cases h2
        simp only [big] at hj
        exact ⟨j, rfl, by omega, by omega, q1 _ s1 _ walks_rng fun _ _ _ => walks_rng⟩
    · exact q1.elim
  · exact q1.elim
theorem in_rng2 {f : SA} {p : Pos} (hm : X.mg "range" = none) (ha : PA X [a, b] (taD X.K W f)) (hg : Gl X "range" := by rfl) (hs : starEach [a, b] X.env = [(false, eval a X.env), (false, eval b X.env)] := by rfl) (hs2 : starEach [b] X.env = [(false, eval b X.env)] := by rfl) :
    PI X tg (.Call (.Name "range" p) [a, b] [] pos) (tiN X.K W (sRng2 f)) := pi_weak (pi_range2 hg hm ha hs hs2) fun σ H R q => by
  obtain ⟨ρ, hE, q⟩ := q
  refine ⟨ρ, hE, (Res.post_bind.mp q).mono (fun d q1 H1 s1 x hx => ?_) fun m q => q⟩
  split at q1
  · split at q1
    · rename_i i j hj
      cases hx with
      | cons h1 h2 =>
        cases h1
        cases h2 with
        | cons h1 h2 =>
        cases h1; cases h2
        simp only [big] at hj
        exact ⟨i, j, rfl, by omega, q1 _ s1 _ walks_rng fun _ _ _ => walks_rng⟩
    · exact q1.elim
  · exact q1.elim
def sListF (f : SE) : SA := fun ρ => (f ρ).bind fun x => match x with
  | .list xs => if frzs xs then .ok xs else .bad
  | _ => .bad
@[simp] theorem sListF_ap {f : SE} {ρ : PEnv} : sListF f ρ = (f ρ).bind fun x => match x with
  | .list xs => if frzs xs then .ok xs else .bad
  | _ => .bad := nrfl rfl
theorem in_list {f : SE} (h : PE X a (tE X.K W true f)) : PI X tg a (tiN X.K W (sListF f)) := pi_weak (pi_list h) fun σ H R q => by
  obtain ⟨ρ, hE, q⟩ := q
  refine ⟨ρ, hE, (Res.post_bind.mp q).mono (fun d q1 H1 s1 x hx => ?_) fun m q => q⟩
  obtain ⟨hd, hn⟩ := hx
  obtain ⟨l, xs, ts, rfl, rfl, h1, h2, h3⟩ := hn rfl
  dsimp only at q1
  split at q1
  · rename_i hz
    refine ⟨_, rfl, ⟨_, SqL.of h2⟩, q1 _ s1 _ (walks_lst (SqL.of h2) h3) fun p ys hp => ?_⟩
    have hlp : l ≠ p := fun z => by subst z; rw [h1] at hp; cases hp
    exact walks_lst (SqL.of (by rw [wo_ne hlp]; exact h2)) (frzs_mono (frz_wo (s1 _ _ hp)) _ _ hz h3)
  · exact q1.elim
def eCutL (f : SE) (l u : PEnv → Res (Option Int)) : SE := fun ρ => (f ρ).bind fun x => (l ρ).bind fun lo => (u ρ).bind fun hi => match x with
  | .list xs => .ok (.list (cutP xs lo hi))
  | _ => .bad
@[simp] theorem eCutL_ap {f : SE} {l u : PEnv → Res (Option Int)} {ρ : PEnv} : eCutL f l u ρ = (f ρ).bind fun x => (l ρ).bind fun lo => (u ρ).bind fun hi => match x with
  | .list xs => .ok (.list (cutP xs lo hi))
  | _ => .bad := nrfl rfl
theorem en_cut {f : SE} {l u : PEnv → Res (Option Int)} {lo hi : Option Expr} {p2 : Pos} (ha : PE X a (tD X.K W f)) (hl : PO X lo (toD X.K W l)) (hu : PO X hi (toD X.K W u)) : PE X (.Subscript a (.Slice lo hi none p2) pos) (tE X.K W true (eCutL f l u)) := by
  refine pe_weak (pe_slice sl_list ha hl hu) fun σ H Q h => ?_
  obtain ⟨ρ, hE, q⟩ := h
  refine ⟨ρ, hE, (Res.post_bind.mp q).mono (fun d q1 H1 s1 x hx => ?_) fun m q => q⟩
  refine ⟨ρ, hE.mono s1, (Res.post_bind.mp q1).mono (fun lo' q2 H2 s2 => ?_) fun m q => q.on s1⟩
  refine ⟨ρ, (hE.mono s1).mono s2, (Res.post_bind.mp q2).mono (fun hi' q3 H3 s3 => ?_) fun m q => q.on (s1.trans s2)⟩
  have hx := dp_mono (s2.trans s3) _ _ hx
  have s := (s1.trans s2).trans s3
  cases hx with
  | lst h1 h2 => exact ⟨_, _, rfl, h1, fun p hp => q3 _ (s.trans (same_new hp _)) _ (told_lst (none_on s hp) upd_same (dps_mono (same_new hp _) _ _ (dps_cut _ _ h2)))⟩
  | _ => exact q3.elim
end
end DL

set_option Elab.async false
set_option linter.all false
set_option maxRecDepth 100000
set_option maxHeartbeats 2000000
/-! owned lists: comprehensions, loops, defs that tell what is new -/
namespace DL
open PySem L2 PyProof.Rows
theorem lcN_then {K : PySem.W.Frag} {i : Nat} {src : SA} {t : ST} {f : SE} {σ : L2.St} {H : Hp} {Q : VK} (q : tE K W true (eLc i src t f) σ H Q) :
    tLc (tiD K W src) (gName i) (ttD K (fun _ _ => False) t) (tD K (fun _ _ => False) f) [i] σ H Q := by
  obtain ⟨ρ, hE, q⟩ := q
  unfold eLc at q
  refine ⟨ρ, hE, (Res.post_bind.mp q).mono (fun xs r H1 s1 J hJ D hD => ?_) fun n r => r⟩
  split at r
  · rename_i hz
    generalize hg : Res.calm (lcGo (fun d => (ρ.set i none).set i (some d)) t f xs) = g at r
    cases g with
    | bad => exact r.elim
    | ex n => cases hq : lcGo (fun d => (ρ.set i none).set i (some d)) t f xs <;> rw [hq] at hg <;> cases hg
    | ok tot =>
      have hg2 : lcGo (fun d => (ρ.set i none).set i (some d)) t f xs = .ok tot := by
        cases hq : lcGo (fun d => (ρ.set i none).set i (some d)) t f xs <;> rw [hq] at hg <;> cases hg
        rfl
      have htot := lcGo_le hg2
      refine ⟨fun k m H' => m = xs.length - k ∧ k ≤ xs.length ∧ Same H1 H' ∧ ∃ acc ys zs, H' D = some (.lst acc) ∧ DpAll K H' acc ys ∧ frzs ys = true ∧ lcGo (fun d => (ρ.set i none).set i (some d)) t f (xs.drop k) = .ok zs ∧ tot = ys ++ zs,
        ⟨xs.length, by simp, Nat.zero_le _, same_new hD _, [], [], tot, upd_same, .nil, rfl, by rw [List.drop_zero]; exact hg2, rfl⟩, ?_⟩
      rintro k m H' ⟨rfl, hk, s, acc, ys, zs, hacc, hys, hfr, hgo, htz⟩
      obtain ⟨w1, w2⟩ := hJ k H' s
      by_cases hlt : k < xs.length
      · have hx : xs[k]? = some xs[k] := List.getElem?_eq_getElem hlt
        obtain ⟨go, yl⟩ := w1 _ hx
        refine .inr ⟨go, fun H2 => Same H1 H2 ∧ ∃ acc ys zs, H2 D = some (.lst acc) ∧ DpAll K H2 acc ys ∧ frzs ys = true ∧ lcGo (fun d => (ρ.set i none).set i (some d)) t f (xs.drop (k + 1)) = .ok zs ∧ tot = ys ++ zs, fun H2 h2 => ⟨xs.length - (k + 1), by omega, rfl, hlt, h2⟩, fun x H2 y => ?_⟩
        obtain ⟨e2, hdx⟩ := yl x H2 y
        subst e2
        rw [List.drop_eq_getElem_cons hlt] at hgo
        unfold lcGo at hgo
        refine ⟨wipe_one, ?_⟩
        have hE2 : EnvR K H2 ((wipe σ [i]).set i (some x)) ((ρ.set i none).set i (some xs[k])) := by
          refine EnvR.set ?_ hdx
          exact (hE.mono (s1.trans s)).forget
        cases ht : t ((ρ.set i none).set i (some xs[k])) with
        | bad => rw [ht] at hgo; cases hgo
        | ex n => rw [ht] at hgo; cases hgo
        | ok b =>
          rw [ht] at hgo
          refine ⟨_, hE2, ?_⟩
          rw [ht]
          intro H3 s3
          cases b with
          | false =>
            exact iteF ⟨s.trans s3, acc, ys, zs, s3 _ _ hacc, dps_mono s3 _ _ hys, hfr, hgo, htz⟩
          | true =>
            refine iteT ?_
            simp only [Res.calm, Res.ok_bind, if_true] at hgo
            cases hf : f ((ρ.set i none).set i (some xs[k])) with
            | bad => rw [hf] at hgo; cases hgo
            | ex n => rw [hf] at hgo; cases hgo
            | ok y =>
              rw [hf] at hgo
              simp only [Res.calm, Res.ok_bind] at hgo
              split at hgo
              · rename_i hy
                refine ⟨_, hE2.mono s3, ?_⟩
                rw [hf]
                intro H4 s4 v hv
                cases hr : lcGo (fun d => (ρ.set i none).set i (some d)) t f (xs.drop (k + 1)) with
                | bad => rw [hr] at hgo; cases hgo
                | ex n => rw [hr] at hgo; cases hgo
                | ok zs' =>
                  rw [hr] at hgo
                  cases hgo
                  have hacc4 := s4 _ _ (s3 _ _ hacc)
                  have hla := dps_len hys
                  have hz2 := big_line
                  have h5 : acc.length < sizeLine := by
                    have h6 : tot.length = ys.length + (zs'.length + 1) := by rw [htz, List.length_append, List.length_cons]
                    omega
                  refine ⟨acc, hacc4, h5, fun b o q => ?_, acc ++ [v], ys ++ [y], zs', upd_same, dps_append (frzs_mono (sqT_lst hacc4) _ _ hfr (dps_mono (s3.trans s4) _ _ hys)) (.cons (frz_mono (sqT_lst hacc4) _ _ hy hv) .nil), ?_, rfl, by rw [htz, List.append_assoc]; rfl⟩
                  · rw [upd_ne (ne_of_none q hD)]
                    exact s4 _ _ (s3 _ _ (s _ _ q))
                  · have hfa : ∀ (as bs : List PyData), frzs (as ++ bs) = (frzs as && frzs bs) := by
                      intro as bs
                      induction as with
                      | nil => simp [frzs]
                      | cons a as ih => simp [frzs, ih, Bool.and_assoc]
                    rw [hfa, hfr]
                    simp [frzs, hy]
              · cases hgo
      · have e : k = xs.length := by omega
        subst e
        rw [List.drop_length] at hgo
        cases hgo
        refine .inl ⟨w2 (Nat.le_refl _), ?_⟩
        rw [List.append_nil] at htz
        subst htz
        exact r _ (s1.trans s) _ (told_lst (none_on s1 hD) hacc hys)
  · exact r.elim
section
variable {X : Cx} {W : Wis} {a b tg : Expr} {pos : Pos}
theorem en_lc {elt iter : Expr} {ifs : List Expr} {scope : Scope} {x : Str} {i : Nat} {src : SA} {t : ST} {f : SE} (hc : X.calm = true) (hN : X.N.Nodup) (hi : PI X tg iter (tiD X.K W src)) (ok : BlkOk X.N X.env.scope scope [(x, i)])
    (hg : ∀ (s : Shared) (H : Hp) (C : Addr) (cl : List (Str × Addr)) (fp : List Addr), PG (X.blk s H scope (compEnvC scope cl C X.env) fp) tg (gName i)) (ht : ∀ (s : Shared) (H : Hp) (C : Addr) (cl : List (Str × Addr)) (fp : List Addr), PTs (X.blk s H scope (compEnvC scope cl C X.env) fp) ifs (ttD X.K (fun _ _ => False) t))
    (he : ∀ (s : Shared) (H : Hp) (C : Addr) (cl : List (Str × Addr)) (fp : List Addr), PE (X.blk s H scope (compEnvC scope cl C X.env) fp) elt (tD X.K (fun _ _ => False) f)) (hs : ∀ x, foldedSetIterable iter X.env x = pure x := by intro _; rfl) :
    PE X (.ListComp elt [⟨tg, iter, ifs, 0⟩] scope pos) (tE X.K W true (eLc i src t f)) :=
  pe_weak (pe_lc hc hN hi ok hg ht he hs) fun σ H Q q => lcN_then q
theorem psG_setLc {n : Bool} {o : Option Nat} {i j : Nat} {y x : Str} {py : Pos} {elt iter : Expr} {ifs : List Expr} {scope : Scope} {pos spos : Pos} {src : SA} {t : ST} {f : SE} (hij : o ≠ some i) (hc : X.calm = true) (hN : X.N.Nodup) (hi : PI X tg iter (tiD X.K W src)) (ok : BlkOk X.N X.env.scope scope [(x, j)])
    (hg : ∀ (s : Shared) (H : Hp) (C : Addr) (cl : List (Str × Addr)) (fp : List Addr), PG (X.blk s H scope (compEnvC scope cl C X.env) fp) tg (gName j)) (ht : ∀ (s : Shared) (H : Hp) (C : Addr) (cl : List (Str × Addr)) (fp : List Addr), PTs (X.blk s H scope (compEnvC scope cl C X.env) fp) ifs (ttD X.K (fun _ _ => False) t))
    (he : ∀ (s : Shared) (H : Hp) (C : Addr) (cl : List (Str × Addr)) (fp : List Addr), PE (X.blk s H scope (compEnvC scope cl C X.env) fp) elt (tD X.K (fun _ _ => False) f))
    (hsw : swapsWith (.ListComp elt [⟨tg, iter, ifs, 0⟩] scope pos) (some (.Name y py)) spos.line X.env = pure true := by exact sw_true rfl rfl rfl (by decide +kernel))
    (hy : X.N[i]? = some y := by rfl) (hyl : X.env.scope.names.lookup y = some .local := by rfl) (hs : ∀ x, foldedSetIterable iter X.env x = pure x := by intro _; rfl) :
    PS X (.Assign [.Name y py] (.ListComp elt [⟨tg, iter, ifs, 0⟩] scope pos) spos) (tsG X.K W n o o (sSetN i (eLc j src t f))) :=
  ps_weak (ps_setLc hc hN hy hyl hsw hi ok hg ht he hs) fun D σ H ⟨B, ρ, hS, q⟩ => lcN_then (tE_then (D := D) hS q fun d v H1 s hv hS1 q1 => putN_at hij hS s hv q1)
theorem psG_while {n : Bool} {o : Option Nat} {F : SS} {c : Expr} {body : List Stmt} {t : ST} (m : Nat) (hp : PassesOwn (model X.prog X.w) X.A X.env X.xe) (hc : PT X c (ttD X.K W t)) (hb : PSs X body (tsG X.K W n o o F)) : PS X (.While c body [] pos) (tsG X.K W n o o (sWh m t (noBk F))) := by
  refine ps_weak (ps_while hp hc hb) fun D σ H ⟨B, ρ, hS, q⟩ => ?_
  refine ⟨fun m σ' H' => ∃ ρ', St X.K B H' σ' ρ' o ∧ (whGo t (noBk F) m ρ').post (outG X.K n B o D) fun m => fut B (W m), ⟨m, ρ, hS, q⟩, ?_⟩
  rintro m σ' H' ⟨ρ', hS', r⟩
  cases m with
  | zero => exact r.elim
  | succ m =>
    refine ⟨ρ', hS'.env, (Res.post_bind.mp r).mono (fun k r1 H1 s => ?_) fun m q => q.on hS'.base⟩
    cases k with
    | false => exact iteF (r1 σ' H1 (hS'.on s))
    | true =>
      simp only [if_true] at r1
      refine iteT ⟨fun σ2 H2 => ∃ ρ', St X.K B H2 σ2 ρ' o ∧ (whGo t (noBk F) m ρ').post (outG X.K n B o D) fun m => fut B (W m), fun σ2 H2 h2 => ⟨m, Nat.lt_succ_self _, h2⟩, B, ρ', hS'.on s, ?_⟩
      rw [noBk_ap] at r1
      cases hF : F ρ' with
      | bad => rw [hF] at r1; exact r1.elim
      | ex m => rw [hF] at r1; exact r1
      | ok z =>
        rw [hF] at r1
        cases z with
        | nx ρ2 => exact fun σ3 H3 hS3 => ⟨ρ2, hS3, r1⟩
        | rt d => exact r1
        | bk ρ2 => exact r1.elim
        | ct ρ2 => exact r1.elim
theorem noRt_ex {k : Nat} : noRt (sEx k) := fun ρ d h => by cases h
theorem noRt_next : noRt sNext := fun ρ d h => by cases h
theorem noRt_bad : noRt sBad := fun ρ d h => by cases h
theorem noRt_set {i : Nat} {f : SE} : noRt (sSet i f) := fun ρ d h => by
  unfold sSet at h
  cases hf : f ρ <;> rw [hf] at h <;> cases h
theorem noRt_if {t : ST} {F G : SS} (h1 : noRt F) (h2 : noRt G) : noRt (sIf t F G) := fun ρ d h => by
  unfold sIf at h
  cases ht : t ρ with
  | bad => rw [ht] at h; cases h
  | ex k => rw [ht] at h; cases h
  | ok b =>
    rw [ht] at h
    cases b with
    | true => exact h1 ρ d h
    | false => exact h2 ρ d h
/-! defs that tell what is new -/
def spN (K : PySem.W.Frag) (cls : Nat → Value) (n : Nat) (g : List PyData → Res PyData) : Sp := fun vs H Q E => vs.length = n ∧ ∃ ds, DpAll K H vs ds ∧ (g ds).post (fun d => fut H fun H' => ∀ v, told K true H H' d v → Q v H') fun m => fut H fun H' => E (cls m) none H'
structure CalleeN (P : Program) (w : World) (K : PySem.W.Frag) (mg : Str → Option Value) (base : Heap) (CX : CXT) (cls : Nat → Value) (x : Str) (k : Nat) (ps : List Str) (g : List PyData → Res PyData) : Prop where
  ex : ∃ f fd, FnOk P w K mg base CX k f fd ps (spN K cls ps.length g) ∧ mg x = some (.ref f) ∧ PySem.W.keepIn K (.ref f) = true ∧ Binds K fd ps [] ∧ ∃ oc od osl, K.lookup f = some ⟨oc, od, .func fd, osl⟩
theorem CalleeN.mono {P : Program} {w : World} {K : PySem.W.Frag} {mg : Str → Option Value} {base : Heap} {CX : CXT} {cls : Nat → Value} {x : Str} {j k : Nat} {ps : List Str} {g : List PyData → Res PyData} (C : CalleeN P w K mg base CX cls x j ps g) (h : j ≤ k) : CalleeN P w K mg base CX cls x k ps g := by
  obtain ⟨f, fd, F, r⟩ := C.ex
  exact ⟨f, fd, F.mono h, r⟩
theorem CalleeN.toD {P : Program} {w : World} {K : PySem.W.Frag} {mg : Str → Option Value} {base : Heap} {CX : CXT} {cls : Nat → Value} {x : Str} {k : Nat} {ps : List Str} {g : List PyData → Res PyData} (C : CalleeN P w K mg base CX cls x k ps g) : Callee P w K mg base CX cls x k ps g := by
  obtain ⟨f, fd, F, r⟩ := C.ex
  exact ⟨f, fd, F.imp fun vs H Q E ⟨hl, ds, hd, q⟩ => ⟨hl, ds, hd, q.mono (fun d z H' s v hv => z H' s v hv.1) fun m z => z⟩, r⟩
theorem spN_then {K : PySem.W.Frag} {cls : Nat → Value} {n : Nat} {g : List PyData → Res PyData} {f : SA} {σ : L2.St} {H : Hp} {Q : VK} (hn : ∀ ρ ds, f ρ = .ok ds → ds.length = n) (h : tE K W true (eCall g f) σ H Q) :
    tCall (spN K cls n g) [] (wishE cls W) (taD K W f) σ H Q := by
  obtain ⟨ρ, hE, q⟩ := h
  unfold eCall at q
  cases hfr : f ρ with
  | bad => rw [hfr] at q; exact q.elim
  | ex m => rw [hfr] at q; exact ⟨ρ, hE, by rw [hfr]; exact q⟩
  | ok ds =>
    rw [hfr] at q
    refine ⟨ρ, hE, ?_⟩
    rw [hfr]
    intro H1 s1 vs hvs
    rw [List.append_nil]
    exact ⟨(dps_len hvs).trans (hn ρ ds hfr), ds, hvs, q.mono (fun d r H' s v hv => r H' (s1.trans s) v (hv.on s1)) fun m r H' s' => ⟨m, rfl, rfl, r _ (s1.trans s')⟩⟩
theorem en_call {CX : CXT} {cls : Nat → Value} {x : Str} {k : Nat} {ps : List Str} {g : List PyData → Res PyData} {p : Pos} {es : List Expr} {f : SA} (C : CalleeN X.prog X.w X.K X.mg X.base CX cls x k ps g) (hr : Room k X.A) (hx : Passes CX X (wishE cls W)) (ha : PA X (a :: es) (taD X.K W f))
    (hn : ∀ ρ ds, f ρ = .ok ds → ds.length = ps.length) (hg : Gl X x := by rfl) (hdb : (x == ("__debug__" : Str)) = false := by decide) (he : starEach (a :: es) X.env = (false, eval a X.env) :: starEach es X.env := by rfl) (hpl : (backTo pos (starEach es X.env)).any (·.1) = false := by rfl) :
    PE X (.Call (.Name x p) (a :: es) [] pos) (tE X.K W true (eCall g f)) := by
  obtain ⟨fa, fd, F, hm, hk, hb, _⟩ := C.ex
  exact pe_weak (pe_call F hr hg hm hk hb .nil hx ha hdb he hpl) fun σ H Q h => spN_then hn h
end
/-! a def that may raise, called where it does not -/
def calmF (g : List PyData → Res PyData) : List PyData → Res PyData := fun ds => Res.calm (g ds)
@[simp] theorem calmF_ap {g : List PyData → Res PyData} {ds : List PyData} : calmF g ds = Res.calm (g ds) := nrfl rfl
@[simp] theorem calm_ok {d : PyData} : Res.calm (Res.ok d) = .ok d := nrfl rfl
theorem fnOk_calm {P : Program} {w : World} {K : PySem.W.Frag} {mg : Str → Option Value} {base : Heap} {k : Nat} {f : Addr} {fd : FuncData} {ps : List Str} {sp sp' : Sp} (F : FnOk P w K mg base (L2.CX P w) k f fd ps sp)
    (h : ∀ vs H Q E, sp' vs H Q E → sp vs H Q (fun _ _ _ => False)) : FnOk P w K mg base CX0 k f fd ps sp' :=
  ⟨fun vs H Q E q => F.len _ _ _ _ (h _ _ _ _ q), fun A outer s H args us vs Q E hr he hb hv hs => codeAny_mono (F.run A outer s H args us vs Q (fun _ _ _ => False) hr he hb hv (h _ _ _ _ hs)) fun r s' hq => by
    cases r with
    | error e =>
      obtain ⟨_, _, _, _, _, _, _, _, _, _, _, _, z⟩ := hq
      exact z.elim
    | ok fl => cases fl <;> exact hq⟩
theorem CalleeN.calm {P : Program} {w : World} {K : PySem.W.Frag} {mg : Str → Option Value} {base : Heap} {cls cls' : Nat → Value} {x : Str} {k : Nat} {ps : List Str} {g : List PyData → Res PyData} (C : CalleeN P w K mg base (L2.CX P w) cls x k ps g) : CalleeN P w K mg base CX0 cls' x k ps (calmF g) := by
  obtain ⟨f, fd, F, r⟩ := C.ex
  exact ⟨f, fd, fnOk_calm F fun vs H Q E ⟨hl, ds, hd, q⟩ => ⟨hl, ds, hd, Res.post_calm q⟩, r⟩
theorem Callee.calm {P : Program} {w : World} {K : PySem.W.Frag} {mg : Str → Option Value} {base : Heap} {cls cls' : Nat → Value} {x : Str} {k : Nat} {ps : List Str} {g : List PyData → Res PyData} (C : Callee P w K mg base (L2.CX P w) cls x k ps g) : Callee P w K mg base CX0 cls' x k ps (calmF g) := by
  obtain ⟨f, fd, F, r⟩ := C.ex
  exact ⟨f, fd, fnOk_calm F fun vs H Q E ⟨hl, ds, hd, q⟩ => ⟨hl, ds, hd, Res.post_calm q⟩, r⟩
def bodyN (n : Nat) (F : SS) (ds : List PyData) : Res PyData := (F (startD n ds)).bind fun o => match o with
  | .rt d => .ok d
  | _ => .bad
section
variable {P : Program} {w : World} {K : PySem.W.Frag} {mg : Str → Option Value} {base : Heap}
theorem bodyN_then {cls : Nat → Value} {N : List Str} {n : Nat} {o : Option Nat} {F : SS} {vs : List V} {H : Hp} {Q : VK} {E : XK} (h : spN K cls n (bodyN N.length F) vs H Q E) :
    tsG K (fun m H' => E (cls m) none H') true none o F { nx := fun _ H' => Q .non H', rt := Q } (start N vs) H := by
  obtain ⟨_, ds, hd, q⟩ := h
  refine ⟨H, startD N.length ds, st_none (Same.refl H) (envR_start hd), (Res.post_bind.mp q).mono (fun r z => ?_) fun n r => r⟩
  cases r with
  | rt d => exact fun H' s v hv => z H' s v hv
  | nx ρ' => exact z.elim
  | bk ρ' => exact z.elim
  | ct ρ' => exact z.elim
theorem callee_ofN {cls : Nat → Value} {x qual : Str} {st : Stmt} {f : Addr} {fd : FuncData} {N ps : List Str} {k : Nat} {o : Option Nat} {F : SS} (D : L2.Fun K x qual st f fd) (S : FnScope N ps (defScope st)) (hm : mg x = some (.ref f)) (hb : Binds K fd ps [])
    (body : ∀ (cdv : Value) (A : Around) (outer : List Env) (s : Shared) (H : Hp) (E : XK) (W : Wis), Room k (A.deeper (envOfC qual (defScope st) s.heap.objs.size f cdv)) →
      PSs (cxOf CX0 P w K mg base N qual (defScope st) f cdv A outer s H E).nox (defBody st) (tsG K W true none o F)) : CalleeN P w K mg base CX0 cls x (k + 1) ps (bodyN N.length F) := by
  refine ⟨f, fd, D.ok S (fun vs H Q E h => h.1) (fun cdv A outer s H vs Q E hr h => ⟨_, body cdv A outer s H E _ hr, bodyN_then h⟩), hm, D.kp, hb, ?_⟩
  obtain ⟨oc, od, kV, doc, pm, an, cdv, ct, osl, rfl, lk, hcd⟩ := D.ex
  exact ⟨oc, od, osl, lk⟩
theorem callee_ofNX {cls : Nat → Value} {x qual : Str} {st : Stmt} {f : Addr} {fd : FuncData} {N ps : List Str} {k : Nat} {o : Option Nat} {F : SS} (D : L2.Fun K x qual st f fd) (S : FnScope N ps (defScope st)) (hm : mg x = some (.ref f)) (hb : Binds K fd ps [])
    (body : ∀ (cdv : Value) (A : Around) (outer : List Env) (s : Shared) (H : Hp) (E : XK), Room k (A.deeper (envOfC qual (defScope st) s.heap.objs.size f cdv)) →
      Takes (cxOf (L2.CX P w) P w K mg base N qual (defScope st) f cdv A outer s H E) (fun c d _ H => E c d H) → PassesOwn (model P w) (A.deeper (envOfC qual (defScope st) s.heap.objs.size f cdv)) (envOfC qual (defScope st) s.heap.objs.size f cdv) (cxOf (L2.CX P w) P w K mg base N qual (defScope st) f cdv A outer s H E).xe →
      PSs (cxOf (L2.CX P w) P w K mg base N qual (defScope st) f cdv A outer s H E) (defBody st) (tsG K (fun m H' => E (cls m) none H') true none o F)) : CalleeN P w K mg base (L2.CX P w) cls x (k + 1) ps (bodyN N.length F) := by
  refine ⟨f, fd, D.okX S (fun vs H Q E h => h.1) (fun cdv A outer s H vs Q E hr h => ⟨_, body cdv A outer s H E hr (takes_of rfl rfl rfl rfl) (passes_of rfl), bodyN_then h⟩), hm, D.kp, hb, ?_⟩
  obtain ⟨oc, od, kV, doc, pm, an, cdv, ct, osl, rfl, lk, hcd⟩ := D.ex
  exact ⟨oc, od, osl, lk⟩
end
end DL

set_option Elab.async false
set_option linter.all false
set_option maxRecDepth 100000
set_option maxHeartbeats 2000000
/-! sorted and min of texts -/
namespace DL
open PySem L2 PyProof.Rows
open PySem.W (minD AlikeAll str_of_cps)
def leS (a b : Str) : Bool := decide (¬ b.cps.toList < a.cps.toList)
theorem leS_iff {a b : Str} : leS a b = true ↔ a.cps.toList ≤ b.cps.toList := by
  unfold leS
  rw [decide_eq_true_eq, List.not_lt]
theorem leS_trans (a b c : Str) (h1 : leS a b = true) (h2 : leS b c = true) : leS a c = true := by
  rw [leS_iff] at h1 h2 ⊢
  exact List.le_trans h1 h2
theorem leS_total (a b : Str) : (leS a b || leS b a) = true := by
  rw [Bool.or_eq_true, leS_iff, leS_iff]
  exact List.le_total _ _
theorem leS_antisymm {a b : Str} (h1 : leS a b = true) (h2 : leS b a = true) : a = b := by
  rw [leS_iff] at h1 h2
  exact str_of_cps (List.le_antisymm h1 h2)
def sortS (ys : List Str) : List Str := ys.mergeSort leS
theorem sortS_perm (ys : List Str) : (sortS ys).Perm ys := List.mergeSort_perm ys leS
theorem sortS_pw (ys : List Str) : (sortS ys).Pairwise fun a b => leS a b = true := List.pairwise_mergeSort leS_trans leS_total ys
theorem risingS_pw : ∀ (l : List Str) (p : Str), risingS p l = true → (p :: l).Pairwise fun a b => leS a b = true
  | [], p, _ => List.pairwise_singleton ..
  | x :: r, p, h => by
    unfold risingS at h
    rw [Bool.and_eq_true] at h
    have h1 : leS p x = true := by
      have := h.1
      rw [ltCps_eq] at this
      unfold leS
      simpa using this
    have h2 := risingS_pw r x h.2
    refine List.pairwise_cons.mpr ⟨fun y hy => ?_, h2⟩
    rcases List.mem_cons.mp hy with rfl | hy
    · exact h1
    · exact leS_trans _ _ _ h1 ((List.pairwise_cons.mp h2).1 y hy)
theorem sortedS_pw : ∀ (l : List Str), sortedS l = true → l.Pairwise fun a b => leS a b = true
  | [], _ => .nil
  | x :: r, h => risingS_pw r x h
theorem sortS_uniq {xs ys : List Str} (hp : ys.Perm xs) (hs : sortedS ys = true) : ys = sortS xs :=
  (hp.trans (sortS_perm xs).symm).eq_of_pairwise (fun a b _ _ h1 h2 => leS_antisymm h1 h2) (sortedS_pw ys hs) (sortS_pw xs)
def sortedD : List PyData → Option PyData
  | [.list ds] => (strsOf ds).bind fun ys => if ys.length < 64 then some (.list ((sortS ys).map .str)) else none
  | _ => none
def minSD : PyData → Option PyData
  | .list (x :: xs) => (strsOf (x :: xs)).bind fun _ => some (minD x xs)
  | _ => none
def minSD1 : List PyData → Option PyData
  | [d] => minSD d
  | _ => none
theorem minD_mem : ∀ (xs : List PyData) (x : PyData), minD x xs ∈ x :: xs := by
  intro xs
  unfold minD
  induction xs with
  | nil => intro x; simp
  | cons y r ih =>
    intro x
    rw [List.foldl_cons]
    split
    · have := ih y
      exact List.mem_cons_of_mem _ this
    · have := ih x
      rcases List.mem_cons.mp this with h | h
      · exact List.mem_cons.mpr (.inl h)
      · exact List.mem_cons_of_mem _ (List.mem_cons_of_mem _ h)
theorem reads_strs {h : Heap} : ∀ {us : List Value} {zs : List Str}, Vals (zs.map V.str) us → ReadsAll h us (zs.map PyData.str) []
  | _, [], r => by cases r; exact .nil
  | _, z :: zs, r => by
    cases r with
    | cons r1 rs =>
      obtain ⟨t, rfl⟩ := r1
      exact .cons (.str z t) (reads_strs rs)
theorem depth_strs : ∀ (zs : List Str), PyData.depthAll (zs.map PyData.str) ≤ 1
  | [] => Nat.zero_le _
  | z :: zs => Nat.max_le.mpr ⟨by show PyData.depth (.str z) ≤ 1; simp [PyData.depth], depth_strs zs⟩
section
variable {X : Cx} {W : Wis} {a : Expr} {pos : Pos}
theorem cd_sorted : CallR X (.builtin "sorted") (rCD X.K sortedD) := callR_weak cr_sortedS fun vs H Q ⟨ds, r, hd, hg, q⟩ => by
  match ds, vs, hd, hg with
  | [.list xs], _, .cons (.lst h1 h2) .nil, hg =>
    simp only [sortedD, Option.bind_eq_some_iff] at hg
    obtain ⟨zs, hz, hg⟩ := hg
    split at hg <;> cases hg
    rename_i hl
    rw [strsOf_map hz] at h2
    rw [dps_strs_of h2] at h1
    refine ⟨_, zs, rfl, h1, hl, fun ys p hp hs hpn => ?_⟩
    rw [sortS_uniq hp hs]
    exact q _ (same_new hpn _) _ (.lst (SqL.of upd_same) (dps_strs _))
theorem cd_minS (hc : X.calm = true) (hu : X.A.units + 64 < cLine) : CallR X (.builtin "min") (rCD X.K minSD1) := by
  intro pins s σ H vs us Q I r h
  obtain ⟨ds, d, hd, hg, q⟩ := h
  obtain ⟨x, xs, rfl, hg⟩ : ∃ x xs, ds = [.list (x :: xs)] ∧ minSD (.list (x :: xs)) = some d := by
    unfold minSD1 at hg
    split at hg
    · unfold minSD at hg
      split at hg
      · exact ⟨_, _, rfl, hg⟩
      · cases hg
    · cases hg
  match vs, hd, hg with
  | _, .cons (.lst (a := p) h1 h2) .nil, hg =>
    replace hg : minSD (.list (x :: xs)) = some d := hg
    unfold minSD at hg
    simp only [Option.bind_eq_some_iff, Option.some.injEq] at hg
    obtain ⟨zs, hz, rfl⟩ := hg
    have e := strsOf_map hz
    rw [e] at h2
    rw [dps_strs_of h2] at h1
    obtain ⟨its, rv, hl, _⟩ := I.list h1
    rw [Vals.ref1 r]
    have hr : ReadsAll s.heap its.toArray.toList (x :: xs) [] := by rw [e]; exact reads_strs rv
    have hm : ∀ y ∈ x :: xs, ∃ z, y = .str z := fun y hy => by
      rw [e] at hy
      obtain ⟨z, _, rfl⟩ := List.mem_map.mp hy
      exact ⟨z, rfl⟩
    have ha : AlikeAll (x :: xs) := ⟨fun y hy y' hy' => by
      obtain ⟨z, rfl⟩ := hm y hy
      obtain ⟨z', rfl⟩ := hm y' hy'
      rfl, fun y hy => by
      obtain ⟨z, rfl⟩ := hm y hy
      simp⟩
    have hdp : PyData.depthAll (x :: xs) ≤ 1 := by rw [e]; exact depth_strs zs
    refine PySem.W.min_list_data (I.ok.hd hc) hl.isList hr ha (by omega) fun i v h' tk bs hv hrd hk => ?_
    obtain ⟨z, hz2⟩ := hm _ (minD_mem xs x)
    rw [hz2] at hrd q
    cases hrd with
    | str _ t => exact ⟨.str z, H, I.kept hk, ⟨_, rfl⟩, q.now _ (.str z)⟩
theorem ed_minS {p : Pos} {f : SE} (hc : X.calm = true) (hu : X.A.units + 64 < cLine) (hm : X.mg "min" = none) (ha : PE X a (tD X.K W f)) (hg : Gl X "min" := by rfl) (he : starEach [a] X.env = (false, eval a X.env) :: starEach [] X.env := by rfl) (hpl : (backTo pos (starEach [] X.env)).any (·.1) = false := by rfl) :
    PE X (.Call (.Name "min" p) [a] [] pos) (tD X.K W (eUn minSD f)) := by
  refine pe_weak (pe_callB (cd_minS hc hu) hg hm (by decide +kernel) (pa_cons ha pa_nil he) (by decide) (by decide) he hpl) fun σ H Q h => ?_
  obtain ⟨ρ, hE, q⟩ := h
  refine tD_mono (tD_then hE q) fun x H1 ⟨d, hx, s1, hE1, q1⟩ => ?_
  obtain ⟨r, hr, q2⟩ := Res.post_of q1
  exact ⟨[d], r, .cons hx .nil, hr, q2⟩
end
end DL

set_option Elab.async false
set_option linter.all false
set_option maxRecDepth 100000
set_option maxHeartbeats 2000000
/-! tuple * 0, tuple * 1; list + list; one dict display; xs[i] = v; a def that changes its first list -/
namespace DL
open PySem PySem.Spec L2 PyProof.Rows
theorem tuple_mul1 (l : Addr) (items : Array Value) (n : Nat) (dd : Option Addr) (sl : Array (Option Value)) (u : Tok) :
    Meets (Builtin.«tuple.__mul__» ⟨[.ref l, .int 1 u], []⟩) (fun _ R s => s.heap.get? l = some { cls := .type "tuple", dict := dd, data := .seq items n, slots := sl } ∧
      R (.ok (.ret (Value.ref l))) s) :=
  .of_wp fun prog w A R s h => by
    obtain ⟨hp, g, d, tk, os⟩ := s
    obtain ⟨hl, h⟩ := h
    have f1 := AutoSeq1.idx_int
    wp_walk using wpAny_loadPart' hl
    exact ⟨_, rfl, h⟩
theorem tuple_mul0 (l : Addr) (items : Array Value) (n : Nat) (dd : Option Addr) (sl : Array (Option Value)) (u : Tok) (he : items.isEmpty = false) :
    Meets (Builtin.«tuple.__mul__» ⟨[.ref l, .int 0 u], []⟩) (fun _ R s => s.heap.get? l = some { cls := .type "tuple", dict := dd, data := .seq items n, slots := sl } ∧
      R (.ok (.ret (Value.ref s.heap.objs.size))) { s with heap := s.heap.push { cls := Value.type "tuple", data := Data.seq (#[] : Array Value) } }) :=
  .of_wp fun prog w A R s h => by
    obtain ⟨hp, g, d, tk, os⟩ := s
    obtain ⟨hl, h⟩ := h
    have f1 := AutoSeq1.idx_int
    wp_walk using wpAny_loadPart' hl
    exact ⟨_, rfl, h⟩
section
variable {X : Cx}
/-- a tuple that holds something, 0 times or once -/
def rRep01 (K : PySem.W.Frag) : R2 := fun x y H Q => ∃ l k xs, x = .ref l ∧ y = .int k ∧ SqT K H l xs ∧ xs ≠ [] ∧ ((k = 1 ∧ Q (.ref l) H) ∨ (k = 0 ∧ ∀ p, H p = none → Q (.ref p) (upd H p (.tup []))))
theorem op_rep01 : OpR X (binaryOp .Mult) (rRep01 X.K) := by
  intro pins s σ H x y v u Q I rx ry h
  obtain ⟨l, k, xs, rfl, rfl, hT, hne, q⟩ := h
  cases rx
  obtain ⟨t, rfl⟩ := ry
  obtain ⟨its, r, ⟨⟨cls, dd, data, sl⟩, ho, hc, n, hd⟩, hs⟩ := I.tuple hT
  simp only at hc hd
  subst hc hd
  have hle : its.length = xs.length := r.length.symm
  have hn : its ≠ [] := fun e => hne (by
    rw [e] at hle
    exact List.eq_nil_of_length_eq_zero hle.symm)
  have hi : its.toArray.isEmpty = false := by
    cases its with
    | nil => exact absurd rfl hn
    | cons a b => rfl
  rcases q with ⟨rfl, q⟩ | ⟨rfl, q⟩
  · refine wpAny_binaryOp_repeat_ref (T := "tuple") (U := "int") (by decide) ⟨_, ho, rfl⟩ (fun s' => typeIs_int s' 1 t) noFill_tuple_mul F.fills_int_mul F.slot_int_rmul repeat_tuple F.slot_int_index.lookup
      (call_meets F.slot_int_rmul (typeIs_int s 1 t) F.entry_int_rmul (F.args_int_rmul_2 _ _) (int_rmul_tuple 1 t l its.toArray n dd sl)
        ⟨ho, rfl, ⟨_, ho, rfl⟩, call_meets F.slot_tuple_mul ⟨_, ho, rfl⟩ F.entry_tuple_mul (F.args_tuple_mul_2 _ _) (tuple_mul1 l its.toArray n dd sl t) ⟨ho, ?_⟩⟩)
    exact ⟨.ref l, H, I, rfl, q⟩
  · refine wpAny_binaryOp_repeat_ref (T := "tuple") (U := "int") (by decide) ⟨_, ho, rfl⟩ (fun s' => typeIs_int s' 0 t) noFill_tuple_mul F.fills_int_mul F.slot_int_rmul repeat_tuple F.slot_int_index.lookup
      (call_meets F.slot_int_rmul (typeIs_int s 0 t) F.entry_int_rmul (F.args_int_rmul_2 _ _) (int_rmul_tuple 0 t l its.toArray n dd sl)
        ⟨ho, rfl, ⟨_, ho, rfl⟩, call_meets F.slot_tuple_mul ⟨_, ho, rfl⟩ F.entry_tuple_mul (F.args_tuple_mul_2 _ _) (tuple_mul0 l its.toArray n dd sl t hi) ⟨ho, ?_⟩⟩)
    refine ⟨.ref s.heap.objs.size, _, I.laid (t' := s.toks) (o := .tup []) (fun b ob q => Heap.get?_push_of_some _ q) (Nat.le_refl _) ?_, rfl, q _ (I.hok.fresh (Nat.le_refl _))⟩
    exact ⟨by rw [sizeLine_eq]; decide, [], .nil, IsTup.new _ _⟩
/-- int * int, and such a tuple -/
def mulTD : PyData → PyData → Option PyData
  | .tuple (x :: xs), .int k => if k = 1 then some (.tuple (x :: xs)) else if k = 0 then some (.tuple []) else none
  | _, _ => none
theorem od_mulT : OpR X (binaryOp .Mult) (rD X.K mulTD) := by
  intro pins s σ H x y v u Q I rx ry h
  obtain ⟨d, e, r, hd, he, hg, q⟩ := h
  cases d <;> cases e <;> simp only [mulTD, reduceCtorEq] at hg
  rename_i ds k
  cases ds with
  | nil => simp [mulTD] at hg
  | cons d0 ds =>
  simp only [mulTD] at hg
  cases he
  cases hd with
  | @tup a xs _ h1 h2 =>
    have hne : xs ≠ [] := fun e => by subst e; cases h2
    split at hg
    · cases hg
      rename_i hk
      exact op_rep01 pins s σ H _ _ v u Q I rx ry ⟨a, k, xs, rfl, rfl, h1, hne, .inl ⟨hk, q.now _ (.tup h1 h2)⟩⟩
    · split at hg
      · cases hg
        rename_i hk
        exact op_rep01 pins s σ H _ _ v u Q I rx ry ⟨a, k, xs, rfl, rfl, h1, hne, .inr ⟨hk, fun p hp => q _ (same_new hp _) _ (.tup (SqT.of upd_same) .nil)⟩⟩
      · cases hg
/-- list + list: a new one -/
def rCatL (K : PySem.W.Frag) : R2 := fun x y H Q => ∃ a b xs ys, x = .ref a ∧ y = .ref b ∧ SqL K H a xs ∧ SqL K H b ys ∧ xs.length + ys.length ≤ sizeLine ∧ ∀ p, H p = none → Q (.ref p) (upd H p (.lst (xs ++ ys)))
theorem op_catL : OpR X (binaryOp .Add) (rCatL X.K) := by
  intro pins s σ H x y v u Q I rx ry h
  obtain ⟨a, b, xs, ys, rfl, rfl, h1, h3, hz, q⟩ := h
  cases rx
  cases ry
  obtain ⟨its, r1, ⟨⟨cls, dd, data, sl⟩, n, e1, hc, hdn, hdt⟩, z1⟩ := I.list h1
  obtain ⟨its2, r2, ⟨⟨cls2, dd2, data2, sl2⟩, n2, e2, hc2, hdn2, hdt2⟩, z2⟩ := I.list h3
  simp only at hc hdt hc2 hdt2 hdn hdn2
  subst hc hdt hc2 hdt2 hdn hdn2
  have hl1 := r1.length
  have hl2 := r2.length
  have ea : its.toArray ++ its2.toArray = (its ++ its2).toArray := by simp
  refine concat_meets ⟨_, e1, rfl⟩ ⟨_, e2, rfl⟩ noFill_list_add seq_list_add PySem.F.slot_list_add PySem.F.entry_list_add (PySem.F.args_list_add_2 _ _)
    (list_addW _ _ its.toArray its2.toArray n n2 none none sl sl2 (by rw [List.size_toArray, List.size_toArray]; omega)) ⟨e1, e2, ?_⟩
  rw [ea]
  exact ⟨.ref _, _, I.lnew (t' := s.toks) (r1.append r2) (by rw [List.length_append]; omega), rfl, q _ I.fresh⟩
def addLD : PyData → PyData → Option PyData
  | .list a, .list b => if a.length + b.length ≤ big then some (.list (a ++ b)) else none
  | _, _ => none
theorem en_add {W : Wis} {a b : Expr} {pos : Pos} {fa fb : SE} (ha : PE X a (tD X.K W fa)) (hb : PE X b (tD X.K W fb)) : PE X (.BinOp a .Add b pos) (tE X.K W true (eOp addLD fa fb)) :=
  pe_weak (pe_op op_catL ha hb) fun σ H Q ⟨ρ, hE, q⟩ => by
    refine ⟨ρ, hE, (Res.post_bind.mp q).mono (fun d q1 H1 s1 x hx => ?_) fun m q => q⟩
    refine ⟨ρ, hE.mono s1, (Res.post_bind.mp q1).mono (fun e q2 H2 s2 y hy => ?_) fun m q => q.on s1⟩
    obtain ⟨r, hr, q3⟩ := Res.post_of q2
    have hx := dp_mono s2 _ _ hx
    cases d <;> cases e <;> simp only [addLD, reduceCtorEq] at hr
    split at hr <;> cases hr
    rename_i hz
    have s := s1.trans s2
    cases hx with
    | lst h1 h2 =>
      cases hy with
      | lst h3 h4 =>
        refine ⟨_, _, _, _, rfl, rfl, h1, h3, by rw [dps_len h2, dps_len h4]; exact Nat.le_trans hz big_line, fun p hp => ?_⟩
        exact q3 _ (s.trans (same_new hp _)) _ (told_lst (none_on s hp) upd_same (dps_mono (same_new hp _) _ _ (dps_append h2 h4)))
/-! xs[j] = v in the own list -/
def sPutI (i : Nat) (a f : SE) : SS := fun ρ => (f ρ).bind fun d => (a ρ).bind fun k => match k, ρ[i]? with
  | .int z, some (some (.list ts)) => if frz d then (match ixN ts.length z with
    | some j => .ok (.nx (ρ.set i (some (.list (ts.set j d)))))
    | none => .bad) else .bad
  | _, _ => .bad
@[simp] theorem sPutI_ap {i : Nat} {a f : SE} {ρ : PEnv} : sPutI i a f ρ = (f ρ).bind fun d => (a ρ).bind fun k => match k, ρ[i]? with
  | .int z, some (some (.list ts)) => if frz d then (match ixN ts.length z with
    | some j => .ok (.nx (ρ.set i (some (.list (ts.set j d)))))
    | none => .bad) else .bad
  | _, _ => .bad := nrfl rfl
theorem psG_putI {W : Wis} {n : Bool} {i : Nat} {x : Str} {p tpos pos : Pos} {e ix : Expr} {a f : SE} (ha : PE X ix (tD X.K W a)) (he : PE X e (tD X.K W f)) (hN : X.N[i]? = some x := by rfl) (hv : Vis X.env.scope x := by first | exact Or.inl rfl | exact Or.inr (Or.inl rfl) | exact Or.inr (Or.inr rfl)) (hd : (x == ("__debug__" : Str)) = false := by decide)
    (hcd : (x == ("__classdict__" : Str)) = false := by decide)
    (has : ∀ v, assign (.Subscript (.Name x p) ix tpos) X.env v = (do
      let ov ← holding [v] (eval (.Name x p) X.env)
      let iv ← holding [v, ov] (eval ix X.env)
      standAt tpos
      holding [v, ov, iv] (setItem ov iv v)
      release [v, ov, iv] []) := by intro _; rfl) (hs : swapsWithSole [.Subscript (.Name x p) ix tpos] e pos.line X.env = pure false := by rfl) (hw : swappedStores [.Subscript (.Name x p) ix tpos] e X.env = pure none := by rfl)
    (h1 : (assignEach [.Subscript (.Name x p) ix tpos] X.env).map (·.2) = [assign (.Subscript (.Name x p) ix tpos) X.env] := by rfl) :
    PS X (.Assign [.Subscript (.Name x p) ix tpos] e pos) (tsG X.K W n (some i) (some i) (sPutI i a f)) :=
  ps_weak (ps_asg (eD_N he) (pg_sub (pe_var (i := i) hN hv hd hcd) (eD_N ha) set_list has) hs hw h1) fun D σ H ⟨B, ρ, hS, q⟩ => by
    refine tE_then (D := D) hS q fun d v H1 s hv hS1 q1 => ?_
    obtain ⟨p, xs, ts, g1, g2, g3, g4, g5, g6, g7⟩ := hS1.own i rfl
    refine ⟨_, g1, ?_⟩
    refine tE_then (D := D) hS1 q1 fun k u H2 s2 hu hS2 q2 => ?_
    rw [g4] at q2
    cases k <;> first | exact q2.elim | skip
    rename_i z
    dsimp only at q2
    split at q2
    · rename_i hz
      split at q2
      · rename_i j hj
        obtain ⟨hu1, _⟩ := hu
        cases hu1
        have hp2 := s2 _ _ g3
        refine ⟨p, xs, z, j, rfl, rfl, hp2, by rw [dps_len g5]; exact hj, ?_⟩
        refine q2 _ _ (hS2.grow g1 hp2 g4 (dps_set j (frz_mono (sqT_lst hp2) _ _ hz (dp_mono s2 _ _ hv.1)) (frzs_mono (sqT_lst hp2) _ _ g6 (dps_mono s2 _ _ g5))) (frzs_set _ _ _ g6 hz))
      · exact q2.elim
    · exact q2.elim
/-! one dict display -/
theorem psd_dict1 {W : Wis} {i : Nat} {x : Str} {px pos p2 : Pos} {keys : List (Option Expr)} {vals : List Expr} (kvs : List (Key × V)) (hN : X.N.Nodup) (hp : PPs X p2 keys vals (kvs.map fun p => (tC (kV p.1), tC p.2))) (hu : X.A.units + 1 < cLine)
    (hsc : ∀ p ∈ mergeK [] kvs, (scaD p.2).isSome = true := by decide +kernel)
    (hall : keys.all (·.isSome) = true := by rfl) (hl : keys.length = vals.length := by rfl) (h0 : keys ≠ [] := by exact List.cons_ne_nil _ _) (h15 : keys.length ≤ 15 := by decide) (hk : kvs.length ≤ 15 := by decide)
    (hi : X.N[i]? = some x := by rfl) (hx : Loc X.env.scope x := by first | exact Or.inl rfl | exact Or.inr rfl) (hs : swapsWith (.Dict keys vals p2) (some (.Name x px)) pos.line X.env = pure false := by rfl)
    (hf : X.fn x = true ∨ X.env.scope.names.lookup x = some .local := by first | exact .inl rfl | exact .inr rfl | assumption) :
    PS X (.Assign [.Name x px] (.Dict keys vals p2) pos) (tsD X.K W (sPut i (.dict (kvD (mergeK [] kvs))))) :=
  ps_weak (ps_set hN hi hx (pe_disp hp hall hl h0 h15) hs hf) fun D σ H ⟨ρ, hE, q⟩ => by
    intro p hp
    refine pairs_then ⟨upd_same, kvs, rfl, hk, ?_⟩
    rw [upd_upd]
    unfold sPut at q
    split at q
    · exact q _ (same_new hp _) _ ((hE.mono (same_new hp _)).set (.dct upd_same hsc))
    · exact q.elim
theorem noRt_asg {f : SE} {g : SG} : noRt (sAsg f g) := fun ρ d h => by
  unfold sAsg at h
  cases hf : f ρ with
  | ok x =>
    rw [hf] at h
    cases hg : g x ρ with
    | none => simp [hg, Res.bind, Res.of] at h
    | some r => simp [hg, Res.bind, Res.of] at h
  | ex m => rw [hf] at h; cases h
  | bad => rw [hf] at h; cases h
end
/-! a def that changes its first list, and tells it or a new one -/
def spM (K : PySem.W.Frag) (cls : Nat → Value) (n : Nat) (g : List PyData → Res PyData) : Sp := fun vs H Q E => vs.length = n ∧ ∃ p xs ts rest ds, vs = V.ref p :: rest ∧ H p = some (.lst xs) ∧ DpAll K H xs ts ∧ frzs ts = true ∧ DpAll K (wo H p) rest ds ∧
  (g (.list ts :: ds)).post (fun d => fut (wo H p) fun H' => ∀ v, told K true (wo H p) H' d v → Q v H') fun m => fut (wo H p) fun H' => E (cls m) none H'
structure CalleeM (P : Program) (w : World) (K : PySem.W.Frag) (mg : Str → Option Value) (base : Heap) (CX : CXT) (cls : Nat → Value) (x : Str) (k : Nat) (ps : List Str) (g : List PyData → Res PyData) : Prop where
  ex : ∃ f fd, FnOk P w K mg base CX k f fd ps (spM K cls ps.length g) ∧ mg x = some (.ref f) ∧ PySem.W.keepIn K (.ref f) = true ∧ Binds K fd ps [] ∧ ∃ oc od osl, K.lookup f = some ⟨oc, od, .func fd, osl⟩
theorem CalleeM.mono {P : Program} {w : World} {K : PySem.W.Frag} {mg : Str → Option Value} {base : Heap} {CX : CXT} {cls : Nat → Value} {x : Str} {j k : Nat} {ps : List Str} {g : List PyData → Res PyData} (C : CalleeM P w K mg base CX cls x j ps g) (h : j ≤ k) : CalleeM P w K mg base CX cls x k ps g := by
  obtain ⟨f, fd, F, r⟩ := C.ex
  exact ⟨f, fd, F.mono h, r⟩
theorem bodyM_then {K : PySem.W.Frag} {cls : Nat → Value} {N : List Str} {n : Nat} {o : Option Nat} {F : SS} {vs : List V} {H : Hp} {Q : VK} {E : XK} (h : spM K cls n (bodyN N.length F) vs H Q E) :
    tsG K (fun m H' => E (cls m) none H') true (some 0) o F { nx := fun _ H' => Q .non H', rt := Q } (L2.start N vs) H := by
  obtain ⟨_, p, xs, ts, rest, ds, rfl, hp, hxs, hz, hr, q⟩ := h
  have hd : Dp K H (.ref p) (.list ts) := .lst (SqL.of hp) hxs
  refine ⟨wo H p, startD N.length (.list ts :: ds), ⟨wo_le H p, envR_start (.cons hd (dps_mono (wo_le H p) _ _ hr)), fun i hi => ?_⟩, (Res.post_bind.mp q).mono (fun r z => ?_) fun n r => r⟩
  · cases hi
    refine ⟨p, xs, ts, rfl, if_pos rfl, hp, rfl, hxs, hz, ?_⟩
    have h0 : EnvR K (wo H p) (L2.start N (.non :: rest)) (startD N.length (.none :: ds)) := envR_start (.cons .non hr)
    exact h0.blank (i := 0) (x := some (.ref p))
  · cases r with
    | rt d => exact fun H' s v hv => z H' s v hv
    | nx ρ' => exact z.elim
    | bk ρ' => exact z.elim
    | ct ρ' => exact z.elim
theorem callee_ofM {P : Program} {w : World} {K : PySem.W.Frag} {mg : Str → Option Value} {base : Heap} {cls : Nat → Value} {x qual : Str} {st : Stmt} {f : Addr} {fd : FuncData} {N ps : List Str} {k : Nat} {o : Option Nat} {F : SS} (D : L2.Fun K x qual st f fd) (S : FnScope N ps (defScope st)) (hm : mg x = some (.ref f)) (hb : Binds K fd ps [])
    (body : ∀ (cdv : Value) (A : Around) (outer : List Env) (s : Shared) (H : Hp) (E : XK) (W : Wis), Room k (A.deeper (envOfC qual (defScope st) s.heap.objs.size f cdv)) →
      PSs (cxOf CX0 P w K mg base N qual (defScope st) f cdv A outer s H E).nox (defBody st) (tsG K W true (some 0) o F)) : CalleeM P w K mg base CX0 cls x (k + 1) ps (bodyN N.length F) := by
  refine ⟨f, fd, D.ok S (fun vs H Q E h => h.1) (fun cdv A outer s H vs Q E hr h => ⟨_, body cdv A outer s H E _ hr, bodyM_then h⟩), hm, D.kp, hb, ?_⟩
  obtain ⟨oc, od, kV, doc, pm, an, cdv, ct, osl, rfl, lk, hcd⟩ := D.ex
  exact ⟨oc, od, osl, lk⟩
def sCallM (i j k : Nat) (g : List PyData → Res PyData) : SS := fun ρ => match ρ[i]?, ρ[j]?, ρ[k]? with
  | some (some (.list ts)), some (some d), some (some e) => (g [.list ts, d, e]).bind fun r => match r with
    | .list us => if frzs us then .ok (.nx (ρ.set i (some (.list us)))) else .bad
    | _ => .bad
  | _, _, _ => .bad
@[simp] theorem sCallM_ap {i j k : Nat} {g : List PyData → Res PyData} {ρ : PEnv} : sCallM i j k g ρ = match ρ[i]?, ρ[j]?, ρ[k]? with
  | some (some (.list ts)), some (some d), some (some e) => (g [.list ts, d, e]).bind fun r => match r with
    | .list us => if frzs us then .ok (.nx (ρ.set i (some (.list us)))) else .bad
    | _ => .bad
  | _, _, _ => .bad := nrfl rfl
theorem psG_callM {X : Cx} {W : Wis} {n : Bool} {i j k m : Nat} {f x y z : Str} {px p p1 p2 p3 pos cpos : Pos} {cls : Nat → Value} {ps : List Str} {g : List PyData → Res PyData} (hij : i ≠ j) (hik : i ≠ k) (hN : X.N.Nodup) (C : CalleeM X.prog X.w X.K X.mg X.base CX0 cls f m ps g) (hr : Room m X.A) (hl3 : ps.length = 3)
    (hi : X.N[i]? = some x := by rfl) (hj : X.N[j]? = some y := by rfl) (hk : X.N[k]? = some z := by rfl)
    (hvx : Vis X.env.scope x := by first | exact Or.inl rfl | exact Or.inr (Or.inl rfl) | exact Or.inr (Or.inr rfl)) (hvy : Vis X.env.scope y := by first | exact Or.inl rfl | exact Or.inr (Or.inl rfl) | exact Or.inr (Or.inr rfl)) (hvz : Vis X.env.scope z := by first | exact Or.inl rfl | exact Or.inr (Or.inl rfl) | exact Or.inr (Or.inr rfl))
    (hdx : (x == ("__debug__" : Str)) = false := by decide) (hcx : (x == ("__classdict__" : Str)) = false := by decide) (hdy : (y == ("__debug__" : Str)) = false := by decide) (hcy : (y == ("__classdict__" : Str)) = false := by decide) (hdz : (z == ("__debug__" : Str)) = false := by decide) (hcz : (z == ("__classdict__" : Str)) = false := by decide)
    (hg : Gl X f := by rfl) (hdb : (f == ("__debug__" : Str)) = false := by decide)
    (he : starEach [.Name x p1, .Name y p2, .Name z p3] X.env = (false, eval (.Name x p1) X.env) :: starEach [.Name y p2, .Name z p3] X.env := by rfl) (he2 : starEach [.Name y p2, .Name z p3] X.env = (false, eval (.Name y p2) X.env) :: starEach [.Name z p3] X.env := by rfl) (he3 : starEach [.Name z p3] X.env = (false, eval (.Name z p3) X.env) :: starEach [] X.env := by rfl)
    (hpl : (backTo cpos (starEach [.Name y p2, .Name z p3] X.env)).any (·.1) = false := by rfl)
    (hx : Loc X.env.scope x := by first | exact Or.inl rfl | exact Or.inr rfl) (hs : swapsWith (.Call (.Name f p) [.Name x p1, .Name y p2, .Name z p3] [] cpos) (some (.Name x px)) pos.line X.env = pure false := by rfl)
    (hf : X.fn x = true ∨ X.env.scope.names.lookup x = some .local := by first | exact .inl rfl | exact .inr rfl | assumption) :
    PS X (.Assign [.Name x px] (.Call (.Name f p) [.Name x p1, .Name y p2, .Name z p3] [] cpos) pos) (tsG X.K W n (some i) (some i) (sCallM i j k g)) := by
  obtain ⟨fa, fd, F, hm, hkp, hb, _⟩ := C.ex
  refine ps_weak (ps_set hN hi hx (pe_call F hr hg hm hkp hb .nil (passD (cls := cls) (W := W)) (pa_cons (pe_var (i := i) hi hvx hdx hcx) (pa_cons (pe_var (i := j) hj hvy hdy hcy) (pa_cons (pe_var (i := k) hk hvz hdz hcz) pa_nil he3) he2) he) hdb he hpl) hs hf) fun D σ H ⟨B, ρ, hS, q⟩ => ?_
  obtain ⟨a0, xs, ts, h1, h2, h3, h4, h5, h6, h7⟩ := hS.own i rfl
  unfold sCallM at q
  rw [h4] at q
  split at q
  · rename_i ts' d e hq1 hq2 hq3
    cases hq1
    have hil : i < ρ.length := (List.getElem?_eq_some_iff.mp h4).1
    obtain ⟨vj, g1, g2⟩ := h7.2 j d (by rw [List.getElem?_set_ne hij]; exact hq2)
    obtain ⟨vk, g3, g4⟩ := h7.2 k e (by rw [List.getElem?_set_ne hik]; exact hq3)
    have hB : Same B (wo H a0) := same_wo hS.base h2
    refine ⟨_, h1, _, g1, _, g3, hl3.symm, a0, xs, ts, [vj, vk], [d, e], rfl, h3, h5, h6, .cons g2 (.cons g4 .nil), (Res.post_bind.mp q).mono (fun r z H' s v hv => ?_) fun m r H' s => ⟨m, rfl, rfl, r H' (hB.trans s)⟩⟩
    obtain ⟨hd, hn⟩ := hv
    obtain ⟨a, ys, us, rfl, rfl, k1, k2, k3⟩ := hn rfl
    dsimp only at z
    split at z
    · rename_i hz
      refine z _ _ ⟨hB.trans s, ?_, fun i' hi' => ?_⟩
      · have := (h7.mono s).set (i := i) hd
        rwa [List.set_set] at this
      · cases hi'
        refine ⟨a, ys, us, List.getElem?_set_self (by rw [← hS.env.1]; exact hil), none_on hB k1, k2, List.getElem?_set_self hil, k3, hz, ?_⟩
        have := (h7.mono (same_wo s k1)).blank (i := i) (x := some (.ref a))
        rw [List.set_set] at this ⊢
        exact this
    · exact z.elim
  · exact q.elim
end DL

set_option Elab.async false
set_option linter.all false
set_option maxRecDepth 100000
set_option maxHeartbeats 2000000
/-! the functions that bodies are read as, applied: for simp -/
namespace DL
open PySem L2 PyProof.Rows
section
variable {f g h : SE} {t u : ST} {F G : SS} {ρ : PEnv} {i n : Nat} {d : PyData} {a b : SA}
@[simp] theorem eVar_ap : eVar i ρ = match ρ[i]? with
  | some (some d) => .ok d
  | _ => .bad := nrfl rfl
@[simp] theorem eC_ap : eC d ρ = .ok d := nrfl rfl
@[simp] theorem eOp_ap {o : PyData → PyData → Option PyData} : eOp o f g ρ = (f ρ).bind fun x => (g ρ).bind fun y => Res.of (o x y) := nrfl rfl
@[simp] theorem eUn_ap {o : PyData → Option PyData} : eUn o f ρ = (f ρ).bind fun x => Res.of (o x) := nrfl rfl
@[simp] theorem eArgs_ap {o : List PyData → Option PyData} : eArgs o a ρ = (a ρ).bind fun xs => Res.of (o xs) := nrfl rfl
@[simp] theorem eCall_ap {o : List PyData → Res PyData} : eCall o a ρ = (a ρ).bind o := nrfl rfl
@[simp] theorem asT_ap : asT f ρ = (f ρ).bind fun x => Res.of (truth x) := nrfl rfl
@[simp] theorem asTru_ap : asTru f ρ = (f ρ).bind fun x => Res.of (DL.truthy x) := nrfl rfl
@[simp] theorem tAnd_ap : DL.tAnd t u ρ = (t ρ).bind fun b => if b then u ρ else .ok false := nrfl rfl
@[simp] theorem tOr_ap : DL.tOr t u ρ = (t ρ).bind fun b => if b then .ok true else u ρ := nrfl rfl
@[simp] theorem tNot_ap : DL.tNot t ρ = (t ρ).bind fun b => .ok (!b) := nrfl rfl
@[simp] theorem eAnd_ap : eAnd f g ρ = (f ρ).bind fun x => (Res.of (truth x)).bind fun b => if b then g ρ else .ok (.bool false) := nrfl rfl
@[simp] theorem eOr_ap : eOr f g ρ = (f ρ).bind fun x => (Res.of (truth x)).bind fun b => if b then .ok (.bool true) else g ρ := nrfl rfl
@[simp] theorem eNot_ap : eNot f ρ = (f ρ).bind fun x => (Res.of (truth x)).bind fun b => .ok (.bool (!b)) := nrfl rfl
@[simp] theorem eChain_ap {o p : PyData → PyData → Option PyData} : eChain o p f g h ρ = (f ρ).bind fun x => (g ρ).bind fun y => (Res.of (o x y)).bind fun z => (Res.of (truth z)).bind fun k =>
  if k then (h ρ).bind fun w => Res.of (p y w) else .ok (.bool false) := nrfl rfl
@[simp] theorem aNil_ap : aNil ρ = .ok [] := nrfl rfl
@[simp] theorem aCons_ap : aCons f a ρ = (f ρ).bind fun x => (a ρ).bind fun xs => .ok (x :: xs) := nrfl rfl
@[simp] theorem eTup_ap : eTup a ρ = (a ρ).bind fun xs => if xs.length ≤ big then .ok (.tuple xs) else .bad := nrfl rfl
@[simp] theorem eLst_ap : eLst a ρ = (a ρ).bind fun xs => if xs.length ≤ big then .ok (.list xs) else .bad := nrfl rfl
@[simp] theorem oNone_ap : oNone ρ = .ok none := nrfl rfl
@[simp] theorem oSome_ap : oSome f ρ = (f ρ).bind fun x => match x with
  | .int i => .ok (some i)
  | _ => .bad := nrfl rfl
@[simp] theorem eCut_ap {l r : PEnv → Res (Option Int)} : eCut f l r ρ = (f ρ).bind fun x => (l ρ).bind fun lo => (r ρ).bind fun hi => Res.of (cutD lo hi x) := nrfl rfl
@[simp] theorem eM1_ap {o : Str → PyData → Option PyData} : eM1 o f g ρ = (f ρ).bind fun x => match x with
  | .str z => (g ρ).bind fun y => Res.of (o z y)
  | _ => .bad := nrfl rfl
@[simp] theorem eM0_ap {o : Str → Option PyData} : eM0 o f ρ = (f ρ).bind fun x => match x with
  | .str z => Res.of (o z)
  | _ => .bad := nrfl rfl
@[simp] theorem eMenu_ap {kvs : List (Key × V)} : eMenu kvs f ρ = (f ρ).bind fun x => Res.of (menuD kvs x) := nrfl rfl
@[simp] theorem sList_ap : sList f ρ = (f ρ).bind fun x => match x with
  | .list xs => .ok xs
  | _ => .bad := nrfl rfl
@[simp] theorem sTup_ap : sTup f ρ = (f ρ).bind fun x => match x with
  | .tuple xs => .ok xs
  | _ => .bad := nrfl rfl
@[simp] theorem sStr_ap : sStr f ρ = (f ρ).bind fun x => match x with
  | .str z => .ok (z.cps.toList.map fun c => .str ⟨#[c]⟩)
  | _ => .bad := nrfl rfl
@[simp] theorem sRng1_ap : sRng1 a ρ = (a ρ).bind fun xs => match xs with
  | [.int j] => if -big ≤ j ∧ j ≤ big then .ok (upTo 0 j.toNat) else .bad
  | _ => .bad := nrfl rfl
@[simp] theorem sRng2_ap : sRng2 a ρ = (a ρ).bind fun xs => match xs with
  | [.int i, .int j] => if -big ≤ i ∧ i ≤ big ∧ -big ≤ j ∧ j ≤ big then .ok (upTo i (j - i).toNat) else .bad
  | _ => .bad := nrfl rfl
@[simp] theorem tTrue_ap : tTrue ρ = .ok true := nrfl rfl
theorem eLc_ap : eLc i a t f ρ = (a ρ).bind fun xs => if xs.length ≤ big then (Res.calm (lcGo (fun d => (ρ.set i none).set i (some d)) t f xs)).bind fun ys => .ok (.list ys) else .bad := nrfl rfl
@[simp] theorem sNext_ap : sNext ρ = .ok (.nx ρ) := nrfl rfl
@[simp] theorem sSeq_ap : sSeq F G ρ = (F ρ).bind fun o => match o with
  | .nx ρ' => G ρ'
  | .rt d => .ok (.rt d)
  | .bk ρ' => .ok (.bk ρ')
  | .ct ρ' => .ok (.ct ρ') := nrfl rfl
@[simp] theorem sSet_ap : sSet i f ρ = (f ρ).bind fun d => .ok (.nx (ρ.set i (some d))) := nrfl rfl
@[simp] theorem sDrop_ap : sDrop f ρ = (f ρ).bind fun _ => .ok (.nx ρ) := nrfl rfl
@[simp] theorem sRet_ap : sRet f ρ = (f ρ).bind fun d => .ok (.rt d) := nrfl rfl
@[simp] theorem sRetN_ap : sRetN ρ = .ok (.rt .none) := nrfl rfl
@[simp] theorem sIf_ap : sIf t F G ρ = (t ρ).bind fun b => if b then F ρ else G ρ := nrfl rfl
@[simp] theorem sBreak_ap : sBreak ρ = .ok (.bk ρ) := nrfl rfl
@[simp] theorem sCont_ap : sCont ρ = .ok (.ct ρ) := nrfl rfl
theorem sFor_ap {k : SG} : sFor a k F ρ = (a ρ).bind fun ds => forGo k F ds ρ := nrfl rfl
theorem sWh_ap : sWh n t F ρ = whGo t F n ρ := nrfl rfl
@[simp] theorem gN_ap : gN i d ρ = some (ρ.set i (some d)) := nrfl rfl
@[simp] theorem gsNil_ap : gsNil [] ρ = some ρ := nrfl rfl
@[simp] theorem gsCons_ap {k : SG} {ks : SGs} {ds : List PyData} : gsCons k ks (d :: ds) ρ = (k d ρ).bind fun ρ' => ks ds ρ' := nrfl rfl
@[simp] theorem gT_ap {ks : SGs} {ds : List PyData} : gT n ks (.tuple ds) ρ = if ds.length = n then ks ds ρ else none := nrfl rfl
@[simp] theorem sAsg_ap {k : SG} : sAsg f k ρ = (f ρ).bind fun d => (Res.of (k d ρ)).bind fun ρ' => .ok (.nx ρ') := nrfl rfl
@[simp] theorem truth_bool {b : Bool} : truth (.bool b) = some b := nrfl rfl
@[simp] theorem addD_int {i j : Int} : addD (.int i) (.int j) = some (.int (i + j)) := nrfl rfl
@[simp] theorem subD_int {i j : Int} : subD (.int i) (.int j) = some (.int (i - j)) := nrfl rfl
@[simp] theorem negD_int {i : Int} : negD (.int i) = some (.int (-i)) := nrfl rfl
@[simp] theorem eqD_int {i j : Int} : eqD (.int i) (.int j) = some (.bool (i == j)) := nrfl rfl
@[simp] theorem eqD_str {i j : Str} : eqD (.str i) (.str j) = some (.bool (i == j)) := nrfl rfl
@[simp] theorem neD_int {i j : Int} : neD (.int i) (.int j) = some (.bool (!(i == j))) := nrfl rfl
@[simp] theorem ltD_int {i j : Int} : ltD (.int i) (.int j) = some (.bool (decide (i < j))) := nrfl rfl
@[simp] theorem leD_int {i j : Int} : leD (.int i) (.int j) = some (.bool (decide (i ≤ j))) := nrfl rfl
@[simp] theorem gtD_int {i j : Int} : gtD (.int i) (.int j) = some (.bool (decide (j < i))) := nrfl rfl
@[simp] theorem geD_int {i j : Int} : geD (.int i) (.int j) = some (.bool (decide (j ≤ i))) := nrfl rfl
@[simp] theorem lenD_list {xs : List PyData} : lenD [.list xs] = some (.int xs.length) := nrfl rfl
@[simp] theorem lenD_tuple {xs : List PyData} : lenD [.tuple xs] = some (.int xs.length) := nrfl rfl
@[simp] theorem ixD_list {xs : List PyData} {i : Int} : ixD (.list xs) (.int i) = atI xs i := nrfl rfl
@[simp] theorem ixD_tuple {xs : List PyData} {i : Int} : ixD (.tuple xs) (.int i) = atI xs i := nrfl rfl
@[simp] theorem divD_pos {i j : Int} (h1 : 0 < j) (h2 : j < 1073741824) : divD (.int i) (.int j) = some (.int (i / j)) := if_pos ⟨h1, h2⟩
@[simp] theorem modD_pos {i j : Int} (h : 0 < j) : modD (.int i) (.int j) = some (.int (i % j)) := if_pos h
theorem mulD_l {i j : Int} (h : small64 i = true) : mulD (.int i) (.int j) = some (.int (i * j)) := by simp [mulD, h]
theorem mulD_r {i j : Int} (h : small64 j = true) : mulD (.int i) (.int j) = some (.int (i * j)) := by simp [mulD, h]
theorem small64_of {i : Int} (h1 : -1000000 ≤ i) (h2 : i ≤ 1000000) : small64 i = true := by
  simp only [small64, decide_eq_true_eq]
  omega
@[simp] theorem ite_bind {α β : Type} {c : Prop} [Decidable c] {x y : Res α} {k : α → Res β} : (if c then x else y).bind k = if c then x.bind k else y.bind k := by split <;> rfl
theorem bind_assoc {α β γ : Type} {x : Res α} {k : α → Res β} {l : β → Res γ} : (x.bind k).bind l = x.bind fun a => (k a).bind l := by cases x <;> rfl
/-! comprehensions, loops -/
theorem lcGo_map {env : PyData → PEnv} {t : ST} {f : SE} {v : PyData → PyData} : ∀ {xs : List PyData}, (∀ d ∈ xs, t (env d) = .ok true ∧ f (env d) = .ok (v d) ∧ frz (v d) = true) → lcGo env t f xs = .ok (xs.map v)
  | [], _ => rfl
  | d :: ds, h => by
    obtain ⟨h1, h2, h3⟩ := h d List.mem_cons_self
    unfold lcGo
    rw [h1, h2, lcGo_map fun e he => h e (List.mem_cons_of_mem _ he)]
    simp [Res.calm, h3]
theorem lcGo_filter {env : PyData → PEnv} {t : ST} {f : SE} {p : PyData → Bool} {v : PyData → PyData} : ∀ {xs : List PyData}, (∀ d ∈ xs, t (env d) = .ok (p d) ∧ (p d = true → f (env d) = .ok (v d) ∧ frz (v d) = true)) → lcGo env t f xs = .ok ((xs.filter p).map v)
  | [], _ => rfl
  | d :: ds, h => by
    obtain ⟨h1, h2⟩ := h d List.mem_cons_self
    unfold lcGo
    rw [h1, lcGo_filter fun e he => h e (List.mem_cons_of_mem _ he)]
    cases hp : p d with
    | false => simp [Res.calm, hp]
    | true =>
      obtain ⟨h3, h4⟩ := h2 hp
      simp [Res.calm, hp, h3, h4]
theorem upTo_len {lo : Int} {n : Nat} : (upTo lo n).length = n := by simp [upTo]
theorem mem_upTo {lo : Int} {n : Nat} {d : PyData} : d ∈ upTo lo n ↔ ∃ i : Nat, i < n ∧ d = .int (lo + i) := by
  simp only [upTo, List.mem_map, List.mem_range]
  exact ⟨fun ⟨i, h1, h2⟩ => ⟨i, h1, h2.symm⟩, fun ⟨i, h1, h2⟩ => ⟨i, h1, h2.symm⟩⟩
/-- a loop that runs through, by what holds between the turns -/
theorem forGo_inv {k : SG} {F : SS} (I : Nat → PEnv → Prop) : ∀ {xs : List PyData} {i : Nat} {ρ : PEnv}, I i ρ → (∀ (j : Nat) (d : PyData) (ρ : PEnv), xs[j]? = some d → I (i + j) ρ → ∃ ρ1 ρ2, k d ρ = some ρ1 ∧ (F ρ1 = .ok (.nx ρ2) ∨ F ρ1 = .ok (.ct ρ2)) ∧ I (i + j + 1) ρ2) →
    ∃ ρ', forGo k F xs ρ = .ok (.nx ρ') ∧ I (i + xs.length) ρ'
  | [], i, ρ, h, _ => ⟨ρ, rfl, h⟩
  | d :: ds, i, ρ, h, hs => by
    obtain ⟨ρ1, ρ2, h1, h2, h3⟩ := hs 0 d ρ rfl h
    obtain ⟨ρ', h4, h5⟩ := forGo_inv I (xs := ds) (i := i + 1) (ρ := ρ2) (by simpa using h3) fun j e ρ he hi => by
      obtain ⟨ρ1, ρ2, a, b, c⟩ := hs (j + 1) e ρ (by simpa using he) (by rw [show i + (j + 1) = i + 1 + j by omega]; exact hi)
      exact ⟨ρ1, ρ2, a, b, by rw [show i + 1 + j + 1 = i + (j + 1) + 1 by omega]; exact c⟩
    refine ⟨ρ', ?_, by rw [List.length_cons, show i + (ds.length + 1) = i + 1 + ds.length by omega]; exact h5⟩
    unfold forGo
    rw [h1]
    rcases h2 with h2 | h2 <;> simp [h2, h4]
/-- a while that runs through, by what holds between the turns and a measure -/
theorem whGo_inv {t : ST} {F : SS} (I : Nat → PEnv → Prop) (Z : PEnv → Prop) (hz : ∀ m ρ, I m ρ → (∃ b, t ρ = .ok b ∧ (b = false → Z ρ) ∧ (b = true → ∃ m' ρ2, m' < m ∧ (F ρ = .ok (.nx ρ2) ∨ F ρ = .ok (.ct ρ2)) ∧ I m' ρ2))) :
    ∀ (n m : Nat) (ρ : PEnv), m < n → I m ρ → ∃ ρ', whGo t F n ρ = .ok (.nx ρ') ∧ Z ρ'
  | 0, m, ρ, h, _ => absurd h (Nat.not_lt_zero _)
  | n + 1, m, ρ, h, hi => by
    obtain ⟨b, h1, h2, h3⟩ := hz m ρ hi
    unfold whGo
    rw [h1]
    cases b with
    | false => exact ⟨ρ, rfl, h2 rfl⟩
    | true =>
      obtain ⟨m', ρ2, h4, h5, h6⟩ := h3 rfl
      obtain ⟨ρ', h7, h8⟩ := whGo_inv I Z hz n m' ρ2 (by omega) h6
      refine ⟨ρ', ?_, h8⟩
      rcases h5 with h5 | h5 <;> simp [h5, h7]
end
end DL

set_option Elab.async false
set_option linter.all false
set_option maxRecDepth 100000
set_option maxHeartbeats 2000000
/-! a, b, c = a list -/
namespace DL
open PySem PySem.Spec L2 PyProof.Rows
def gTL (n : Nat) (gs : SGs) : SG := fun d ρ => match d with
  | .list ds => if ds.length = n then gs ds ρ else none
  | _ => none
section
variable {X : Cx} {W : Wis} {pos : Pos}
theorem gd_unl {es : List Expr} {k n : Nat} {gs : SGs} (hc : X.calm = true) (h : PGs X es (tgsD X.K gs)) (hn : (assignEach es X.env).length = n := by rfl) (hst : (assignEach es X.env).findIdx? (·.1) = none := by rfl) : PG X (.Tuple es k pos) (tgD X.K (gTL n gs)) :=
  pg_weak (pg_unl hc h hn hst) fun v σ H Q ⟨d, ρ, hv, hE, ρ', e, q⟩ => by
    cases hv with
    | lst h1 h2 =>
      simp only [gTL] at e
      split at e
      · rename_i hz
        exact ⟨_, _, rfl, h1, by rw [dps_len h2]; exact hz, _, ρ, h2, hE, ρ', e, q⟩
      · cases e
    | _ => cases e
theorem psG_takeLc {n : Bool} {o : Option Nat} {i j : Nat} {y x : Str} {py : Pos} {elt iter tg : Expr} {ifs : List Expr} {scope : Scope} {pos spos : Pos} {src : SA} {t : ST} {f : SE} (hc : X.calm = true) (hN : X.N.Nodup) (hi : PI X tg iter (tiD X.K W src)) (ok : BlkOk X.N X.env.scope scope [(x, j)])
    (hg : ∀ (s : Shared) (H : Hp) (C : Addr) (cl : List (Str × Addr)) (fp : List Addr), PG (X.blk s H scope (compEnvC scope cl C X.env) fp) tg (gName j)) (ht : ∀ (s : Shared) (H : Hp) (C : Addr) (cl : List (Str × Addr)) (fp : List Addr), PTs (X.blk s H scope (compEnvC scope cl C X.env) fp) ifs (ttD X.K (fun _ _ => False) t))
    (he : ∀ (s : Shared) (H : Hp) (C : Addr) (cl : List (Str × Addr)) (fp : List Addr), PE (X.blk s H scope (compEnvC scope cl C X.env) fp) elt (tD X.K (fun _ _ => False) f))
    (hsw : swapsWith (.ListComp elt [⟨tg, iter, ifs, 0⟩] scope pos) (some (.Name y py)) spos.line X.env = pure true := by exact sw_true rfl rfl rfl (by decide +kernel))
    (hy : X.N[i]? = some y := by rfl) (hyl : X.env.scope.names.lookup y = some .local := by rfl) (hs : ∀ x, foldedSetIterable iter X.env x = pure x := by intro _; rfl) :
    PS X (.Assign [.Name y py] (.ListComp elt [⟨tg, iter, ifs, 0⟩] scope pos) spos) (tsG X.K W n o (some i) (sTake i (eLc j src t f))) :=
  ps_weak (ps_setLc hc hN hy hyl hsw hi ok hg ht he hs) fun D σ H ⟨B, ρ, hS, q⟩ => lcN_then (tE_then (D := D) hS q fun d v H1 s hv hS1 q1 => by
    split at q1
    · split at q1
      · rename_i hz
        split at q1
        · rename_i hl
          exact q1 _ _ (hS.take s hv hz hl)
        · exact q1.elim
      · exact q1.elim
    · exact q1.elim)
end
@[simp] theorem gTL_ap {n : Nat} {gs : SGs} {ds : List PyData} {ρ : PEnv} : gTL n gs (.list ds) ρ = if ds.length = n then gs ds ρ else none := rfl
end DL

set_option Elab.async false
set_option linter.all false
set_option maxRecDepth 100000
set_option maxHeartbeats 2000000
/-! any; {k1: e1, k2: e2, k3: e3}[w], three truths -/
namespace DL
open PySem PySem.Spec L2 PyProof.Rows
def anyD : List PyData → Option PyData
  | [.list xs] => (bools xs).map fun bs => .bool (bs.any id)
  | _ => none
def eDict3 (k1 k2 k3 : Str) (f1 f2 f3 g : SE) : SE := fun ρ => (f1 ρ).bind fun d1 => (f2 ρ).bind fun d2 => (f3 ρ).bind fun d3 => (g ρ).bind fun w => match d1, d2, d3, w with
  | .bool b1, .bool b2, .bool b3, .str z => if z = k1 then .ok (.bool b1) else if z = k2 then .ok (.bool b2) else if z = k3 then .ok (.bool b3) else .bad
  | _, _, _, _ => .bad
section
variable {X : Cx} {W : Wis} {e1 e2 e3 e : Expr} {pos : Pos}
theorem cd_any (hc : X.calm = true) : CallR X (.builtin "any") (rCD X.K anyD) := callR_weak (cr_any hc) fun vs H Q ⟨ds, r, hd, hg, q⟩ => by
  match ds, vs, hd, hg with
  | [.list xs], _, .cons (.lst h1 h2) .nil, hg =>
    simp only [anyD, Option.map_eq_some_iff] at hg
    obtain ⟨bs, hb, rfl⟩ := hg
    rw [bools_map hb] at h2
    rw [dps_bls_of h2] at h1
    exact ⟨_, bs, rfl, h1, q.now _ (.bl _)⟩
theorem dict3_then {K : PySem.W.Frag} {k1 k2 k3 : Str} (n12 : k1 ≠ k2) (n13 : k1 ≠ k3) (n23 : k2 ≠ k3) {f1 f2 f3 g : SE} {σ : L2.St} {H : Hp} {Q : VK} (h : tD K W (eDict3 k1 k2 k3 f1 f2 f3 g) σ H Q) :
    tDGet (tDisp [(tC (.str k1), tD K W f1), (tC (.str k2), tD K W f2), (tC (.str k3), tD K W f3)]) (tD K W g) σ H Q := by
  obtain ⟨ρ, hE, q⟩ := h
  unfold eDict3 at q
  intro p hp
  have s0 : Same H (upd H p (.dK [])) := same_new hp _
  refine ⟨ρ, hE.mono s0, ?_⟩
  cases r1 : f1 ρ with
  | bad => rw [r1] at q; exact q.elim
  | ex m => rw [r1] at q; exact fun H' s => q H' (s0.trans s)
  | ok d1 =>
  rw [r1] at q
  intro H1 s1 v1 hv1
  refine ⟨ρ, hE.mono (s0.trans s1), ?_⟩
  cases r2 : f2 ρ with
  | bad => simp only [Res.ok_bind, r2] at q; exact q.elim
  | ex m => simp only [Res.ok_bind, r2] at q; exact fun H' s => q H' (s0.trans (s1.trans s))
  | ok d2 =>
  intro H2 s2 v2 hv2
  refine ⟨ρ, hE.mono (s0.trans (s1.trans s2)), ?_⟩
  cases r3 : f3 ρ with
  | bad => simp only [Res.ok_bind, r2, r3] at q; exact q.elim
  | ex m => simp only [Res.ok_bind, r2, r3] at q; exact fun H' s => q H' (s0.trans (s1.trans (s2.trans s)))
  | ok d3 =>
  intro H3 s3 v3 hv3
  have sp : Same (upd H p (.dK [])) H3 := s1.trans (s2.trans s3)
  refine ⟨sp _ _ upd_same, [(Sum.inr k1, v1), (Sum.inr k2, v2), (Sum.inr k3, v3)], rfl, by simp, ?_⟩
  have s4 : ∀ o, Same H (upd H3 p o) := fun o b u hb => by
    rw [upd_ne (ne_of_none hb hp)]
    exact sp _ _ (s0 _ _ hb)
  refine ⟨ρ, hE.mono (s4 _), ?_⟩
  cases r4 : g ρ with
  | bad => simp only [Res.ok_bind, r2, r3, r4] at q; exact q.elim
  | ex m => simp only [Res.ok_bind, r2, r3, r4] at q; exact fun H' s => q H' ((s4 _).trans s)
  | ok w =>
  simp only [Res.ok_bind, r2, r3, r4] at q
  intro H5 s5 vw hvw
  split at q
  · rename_i b1 b2 b3 z
    cases hv1
    cases hv2
    cases hv3
    cases hvw
    have n12' : ¬ (Sum.inr k1 : Key) = Sum.inr k2 := fun e => n12 (Sum.inr.inj e)
    have n13' : ¬ (Sum.inr k1 : Key) = Sum.inr k3 := fun e => n13 (Sum.inr.inj e)
    have n23' : ¬ (Sum.inr k2 : Key) = Sum.inr k3 := fun e => n23 (Sum.inr.inj e)
    have em : mergeK [] [((Sum.inr k1 : Key), V.bl b1), (Sum.inr k2, V.bl b2), (Sum.inr k3, V.bl b3)] = [(Sum.inr k1, V.bl b1), (Sum.inr k2, V.bl b2), (Sum.inr k3, V.bl b3)] := by
      simp [mergeK, putK, n12, n13, n23]
    rw [em] at s5 
    have hp5 := s5 _ _ (upd_same (H := H3) (a := p))
    have fin : ∀ (k : Str) (b : Bool), valV [((Sum.inr k1 : Key), V.bl b1), (Sum.inr k2, V.bl b2), (Sum.inr k3, V.bl b3)] (Sum.inr k) = some (.bl b) → DGet H5 p (.str k) (some (.bl b)) := fun k b e => by
      rw [← e]
      exact DGet.k (k := Sum.inr k) hp5
    split at q
    · rename_i c
      subst c
      exact ⟨p, _, rfl, fin _ b1 (valV_pos rfl), q H5 ((s4 _).trans s5) _ (.bl _)⟩
    · rename_i c1
      have d1 : ¬ (Sum.inr k1 : Key) = Sum.inr z := fun e => c1 (Sum.inr.inj e).symm
      split at q
      · rename_i c
        subst c
        exact ⟨p, _, rfl, fin _ b2 (by rw [valV_neg d1]; exact valV_pos rfl), q H5 ((s4 _).trans s5) _ (.bl _)⟩
      · rename_i c2
        have d2 : ¬ (Sum.inr k2 : Key) = Sum.inr z := fun e => c2 (Sum.inr.inj e).symm
        split at q
        · rename_i c
          subst c
          exact ⟨p, _, rfl, fin _ b3 (by rw [valV_neg d1, valV_neg d2]; exact valV_pos rfl), q H5 ((s4 _).trans s5) _ (.bl _)⟩
        · exact q.elim
  · exact q.elim
theorem ed_dict3 {k1 k2 k3 : Str} {p1 p2 p3 dp : Pos} {u1 u2 u3 : Nat} {f1 f2 f3 g : SE} (n12 : k1 ≠ k2) (n13 : k1 ≠ k3) (n23 : k2 ≠ k3) (hu : X.A.units + 1 < cLine) (h1 : PE X e1 (tD X.K W f1)) (h2 : PE X e2 (tD X.K W f2)) (h3 : PE X e3 (tD X.K W f3)) (hg : PE X e (tD X.K W g)) (hs : NoSl e) :
    PE X (.Subscript (.Dict [some (.Constant (.str k1) u1 p1), some (.Constant (.str k2) u2 p2), some (.Constant (.str k3) u3 p3)] [e1, e2, e3] dp) e pos) (tD X.K W (eDict3 k1 k2 k3 f1 f2 f3 g)) :=
  pe_weak (pe_dget hu (pe_disp (pps_cons pe_str h1 (pps_cons pe_str h2 (pps_cons pe_str h3 pps_nil))) rfl rfl (by simp) (by simp)) hg hs) fun σ H Q h => dict3_then n12 n13 n23 h
end
end DL

set_option Elab.async false
set_option linter.all false
set_option maxRecDepth 100000
/-! statements -/
namespace My
open PySem L2 DL PyProof.Rows
def NameOk (w : Str) : Prop := 1 ≤ w.length ∧ w.length ≤ 8 ∧ ∀ c ∈ w.cps.toList, 97 ≤ c ∧ c ≤ 122
inductive W3 where
  | an | orr | th
deriving DecidableEq
def W3.word : W3 → Str
  | .an => "and"
  | .orr => "or"
  | .th => "then"
inductive Stm where
  | nm (w : Str)
  | fl
  | bin (o : W3) (a b : Stm)
deriving DecidableEq
namespace Stm
def enc : Stm → PyData
  | nm w => .tuple [.str "name", .str w]
  | fl => .tuple [.str "false"]
  | bin o a b => .tuple [.str o.word, enc a, enc b]
def depth : Stm → Nat
  | nm _ => 1
  | fl => 1
  | bin _ a b => max a.depth b.depth + 1
def Ok : Stm → Prop
  | nm w => NameOk w
  | fl => True
  | bin _ a b => a.Ok ∧ b.Ok
theorem depth_pos : ∀ s : Stm, 1 ≤ s.depth
  | nm _ => Nat.le_refl _
  | fl => Nat.le_refl _
  | bin _ a b => by simp only [depth]; omega
end Stm
end My

set_option Elab.async false
set_option linter.all false
set_option maxRecDepth 100000
/-! what holds in each tree of worlds, and what can be shown -/
namespace My
open PySem
abbrev St_ := Stm → Prop
/-- worlds that grow -/
structure KM where
  Wd : Type
  le : Wd → Wd → Prop
  rfl_ : ∀ u, le u u
  trans : ∀ {u v w}, le u v → le v w → le u w
  at_ : Wd → Str → Prop
  mono : ∀ {u v p}, le u v → at_ u p → at_ v p
def force (M : KM) : M.Wd → Stm → Prop
  | w, .nm p => M.at_ w p
  | _, .fl => False
  | w, .bin .an a b => force M w a ∧ force M w b
  | w, .bin .orr a b => force M w a ∨ force M w b
  | w, .bin .th a b => ∀ v, M.le w v → force M v a → force M v b
theorem force_mono (M : KM) : ∀ (s : Stm) {u v : M.Wd}, M.le u v → force M u s → force M v s
  | .nm p, _, _, h, k => M.mono h k
  | .fl, _, _, _, k => k
  | .bin .an a b, _, _, h, k => ⟨force_mono M a h k.1, force_mono M b h k.2⟩
  | .bin .orr a b, _, _, h, k => k.elim (fun k => .inl (force_mono M a h k)) fun k => .inr (force_mono M b h k)
  | .bin .th a b, _, _, h, k => fun w h2 => k w (M.trans h h2)
def Valid (s : Stm) : Prop := ∀ (M : KM) (w : M.Wd), force M w s
def add1 (Γ : St_) (a : Stm) : St_ := fun x => Γ x ∨ x = a
/-- shown from these, by the rules, among the parts P -/
inductive D (P : St_) : St_ → Stm → Prop
  | given {Γ : St_} {a : Stm} : P a → Γ a → D P Γ a
  | any {Γ : St_} {a : Stm} : P a → D P Γ .fl → D P Γ a
  | left {Γ : St_} {a b : Stm} : D P Γ (.bin .an a b) → D P Γ a
  | right {Γ : St_} {a b : Stm} : D P Γ (.bin .an a b) → D P Γ b
  | onward {Γ : St_} {a b : Stm} : D P Γ (.bin .th a b) → D P Γ a → D P Γ b
  | both {Γ : St_} {a b : Stm} : P (.bin .an a b) → D P Γ a → D P Γ b → D P Γ (.bin .an a b)
  | one {Γ : St_} {a b : Stm} : P (.bin .orr a b) → D P Γ a → D P Γ (.bin .orr a b)
  | other {Γ : St_} {a b : Stm} : P (.bin .orr a b) → D P Γ b → D P Γ (.bin .orr a b)
  | suppose {Γ : St_} {a b : Stm} : P (.bin .th a b) → D P (add1 Γ a) b → D P Γ (.bin .th a b)
  | cases {Γ : St_} {a b c : Stm} : D P Γ (.bin .orr a b) → D P (add1 Γ a) c → D P (add1 Γ b) c → D P Γ c
/-- closed under parts -/
structure Cl (P : St_) : Prop where
  l : ∀ {o a b}, P (.bin o a b) → P a
  r : ∀ {o a b}, P (.bin o a b) → P b
theorem D.inP {P : St_} (cl : Cl P) {Γ : St_} {a : Stm} (h : D P Γ a) : P a := by
  induction h with
  | given h _ => exact h
  | any h _ _ => exact h
  | left _ ih => exact cl.l ih
  | right _ ih => exact cl.r ih
  | onward _ _ ih _ => exact cl.r ih
  | both h _ _ _ _ => exact h
  | one h _ _ => exact h
  | other h _ _ => exact h
  | suppose h _ _ => exact h
  | cases _ _ _ _ ih _ => exact ih
theorem D.mono {P : St_} {Γ : St_} {a : Stm} (h : D P Γ a) : ∀ {Δ : St_}, (∀ x, Γ x → Δ x) → D P Δ a := by
  have ext : ∀ {Γ Δ : St_} {a : Stm}, (∀ x, Γ x → Δ x) → ∀ x, add1 Γ a x → add1 Δ a x := fun h x k => k.elim (fun k => .inl (h x k)) .inr
  induction h with
  | given h k => exact fun s => .given h (s _ k)
  | any h _ ih => exact fun s => .any h (ih s)
  | left _ ih => exact fun s => .left (ih s)
  | right _ ih => exact fun s => .right (ih s)
  | onward _ _ ih1 ih2 => exact fun s => .onward (ih1 s) (ih2 s)
  | both h _ _ ih1 ih2 => exact fun s => .both h (ih1 s) (ih2 s)
  | one h _ ih => exact fun s => .one h (ih s)
  | other h _ ih => exact fun s => .other h (ih s)
  | suppose h _ ih => exact fun s => .suppose h (ih (ext s))
  | cases _ _ _ ih1 ih2 ih3 => exact fun s => .cases (ih1 s) (ih2 (ext s)) (ih3 (ext s))
/-- what is given is shown from others -/
theorem D.subst {P : St_} (cl : Cl P) {Γ : St_} {a : Stm} (h : D P Γ a) : ∀ {Δ : St_}, (∀ x, P x → Γ x → D P Δ x) → D P Δ a := by
  have ext : ∀ {Γ Δ : St_} {a : Stm}, (∀ x, P x → Γ x → D P Δ x) → ∀ x, P x → add1 Γ a x → D P (add1 Δ a) x := fun {Γ Δ a} h x px k => by
    rcases k with k | rfl
    · exact (h x px k).mono fun y q => .inl q
    · exact .given px (.inr rfl)
  induction h with
  | given h k => exact fun s => s _ h k
  | any h _ ih => exact fun s => .any h (ih s)
  | left _ ih => exact fun s => .left (ih s)
  | right _ ih => exact fun s => .right (ih s)
  | onward _ _ ih1 ih2 => exact fun s => .onward (ih1 s) (ih2 s)
  | both h _ _ ih1 ih2 => exact fun s => .both h (ih1 s) (ih2 s)
  | one h _ ih => exact fun s => .one h (ih s)
  | other h _ ih => exact fun s => .other h (ih s)
  | suppose h _ ih => exact fun s => .suppose h (ih (ext s))
  | cases _ _ _ ih1 ih2 ih3 => exact fun s => .cases (ih1 s) (ih2 (ext s)) (ih3 (ext s))
/-- what is shown holds -/
theorem D.sound {P : St_} {Γ : St_} {a : Stm} (h : D P Γ a) (M : KM) : ∀ w : M.Wd, (∀ x, Γ x → force M w x) → force M w a := by
  have ext : ∀ {Γ : St_} {a : Stm} {w v : M.Wd}, M.le w v → (∀ x, Γ x → force M w x) → force M v a → ∀ x, add1 Γ a x → force M v x := fun {Γ a w v} l h k x q => by
    rcases q with q | rfl
    · exact force_mono M x l (h x q)
    · exact k
  induction h with
  | given _ k => exact fun w s => s _ k
  | any _ _ ih => exact fun w s => (ih w s).elim
  | left _ ih => exact fun w s => (ih w s).1
  | right _ ih => exact fun w s => (ih w s).2
  | onward _ _ ih1 ih2 => exact fun w s => ih1 w s w (M.rfl_ w) (ih2 w s)
  | both _ _ _ ih1 ih2 => exact fun w s => ⟨ih1 w s, ih2 w s⟩
  | one _ _ ih => exact fun w s => .inl (ih w s)
  | other _ _ ih => exact fun w s => .inr (ih w s)
  | suppose _ _ ih => exact fun w s v l k => ih v (ext l s k)
  | cases _ _ _ ih1 ih2 ih3 => exact fun w s => (ih1 w s).elim (fun k => ih2 w (ext (M.rfl_ w) s k)) fun k => ih3 w (ext (M.rfl_ w) s k)
/-! the worlds of what is closed -/
structure Good (P : St_) (Γ : St_) : Prop where
  sub : ∀ x, Γ x → P x
  closed : ∀ x, D P Γ x → Γ x
  prime : ∀ a b, Γ (.bin .orr a b) → Γ a ∨ Γ b
  cons : ¬ Γ .fl
/-- the greatest set from which c is not shown -/
noncomputable def grow1 (P : St_) (c : Stm) (Γ : St_) (x : Stm) : St_ := fun y => Γ y ∨ (y = x ∧ ¬ D P (add1 Γ x) c)
noncomputable def growL (P : St_) (c : Stm) : List Stm → St_ → St_
  | [], Γ => Γ
  | x :: xs, Γ => growL P c xs (grow1 P c Γ x)
theorem grow1_le {P : St_} {c : Stm} {Γ : St_} {x y : Stm} (h : Γ y) : grow1 P c Γ x y := .inl h
theorem grow1_not {P : St_} {c : Stm} {Γ : St_} {x : Stm} (h : ¬ D P Γ c) : ¬ D P (grow1 P c Γ x) c := by
  by_cases k : D P (add1 Γ x) c
  · exact fun q => h (q.mono fun y z => z.elim id fun z => absurd k z.2)
  · exact fun q => k (q.mono fun y z => z.elim .inl fun z => .inr z.1)
theorem growL_le {P : St_} {c : Stm} : ∀ (L : List Stm) {Γ : St_} {y : Stm}, Γ y → growL P c L Γ y
  | [], _, _, h => h
  | x :: xs, _, _, h => growL_le xs (grow1_le h)
theorem growL_not {P : St_} {c : Stm} : ∀ (L : List Stm) {Γ : St_}, ¬ D P Γ c → ¬ D P (growL P c L Γ) c
  | [], _, h => h
  | x :: xs, _, h => growL_not xs (grow1_not h)
theorem growL_max {P : St_} {c : Stm} : ∀ (L : List Stm) {Γ : St_} {x : Stm}, x ∈ L → growL P c L Γ x ∨ D P (add1 (growL P c L Γ) x) c
  | y :: ys, Γ, x, h => by
    rcases List.mem_cons.mp h with rfl | h
    · by_cases k : D P (add1 Γ x) c
      · exact .inr (k.mono fun z q => q.elim (fun q => .inl (growL_le ys (grow1_le q))) .inr)
      · exact .inl (growL_le ys (.inr ⟨rfl, k⟩))
    · exact growL_max ys h
theorem growL_sub {P : St_} {c : Stm} : ∀ (L : List Stm) {Γ : St_}, (∀ x, Γ x → P x) → (∀ x ∈ L, P x) → ∀ x, growL P c L Γ x → P x
  | [], _, h, _ => h
  | y :: ys, Γ, h, k => growL_sub ys (fun x q => q.elim (h x) fun q => q.1 ▸ k y List.mem_cons_self) fun x q => k x (List.mem_cons_of_mem _ q)
theorem extend {P : St_} (cl : Cl P) {L : List Stm} (hL : ∀ x, P x ↔ x ∈ L) {Γ : St_} (hG : ∀ x, Γ x → P x) {c : Stm} (hc : P c) (h : ¬ D P Γ c) : ∃ Δ, (∀ x, Γ x → Δ x) ∧ Good P Δ ∧ ¬ Δ c := by
  have hn := growL_not L h
  have hs := growL_sub (c := c) L hG fun x q => (hL x).mpr q
  have hm := fun x (px : P x) => growL_max (P := P) (c := c) L (Γ := Γ) ((hL x).mp px)
  have hl := fun x (q : Γ x) => growL_le (P := P) (c := c) L q
  generalize growL P c L Γ = Δ at *
  have cut : ∀ x, D P Δ x → D P (add1 Δ x) c → D P Δ c := fun x hx q => q.subst cl fun y py z => z.elim (fun z => .given py z) fun z => z ▸ hx
  have closed : ∀ x, D P Δ x → Δ x := fun x hx => (hm x (hx.inP cl)).elim id fun q => absurd (cut x hx q) hn
  refine ⟨Δ, hl, ⟨hs, closed, fun a b q => ?_, fun q => hn (.any hc (.given (hs _ q) q))⟩, fun q => hn (.given hc q)⟩
  rcases hm a (cl.l (hs _ q)) with ha | ha
  · exact .inl ha
  · rcases hm b (cl.r (hs _ q)) with hb | hb
    · exact .inr hb
    · exact absurd (.cases (.given (hs _ q) q) ha hb) hn
def canon (P : St_) : KM where
  Wd := { Γ : St_ // Good P Γ }
  le := fun u v => ∀ x, u.1 x → v.1 x
  rfl_ := fun _ _ h => h
  trans := fun h k x q => k x (h x q)
  at_ := fun u p => u.1 (.nm p)
  mono := fun h q => h _ q
theorem truth_canon {P : St_} (cl : Cl P) {L : List Stm} (hL : ∀ x, P x ↔ x ∈ L) : ∀ (s : Stm), P s → ∀ u : (canon P).Wd, force (canon P) u s ↔ u.1 s
  | .nm p, _, u => Iff.rfl
  | .fl, _, u => ⟨fun h => h.elim, fun h => (u.2.cons h).elim⟩
  | .bin .an a b, ps, u => by
    have ha := truth_canon cl hL a (cl.l ps) u
    have hb := truth_canon cl hL b (cl.r ps) u
    refine ⟨fun h => u.2.closed _ (.both ps (.given (cl.l ps) (ha.mp h.1)) (.given (cl.r ps) (hb.mp h.2))), fun h => ⟨ha.mpr (u.2.closed _ (.left (.given ps h))), hb.mpr (u.2.closed _ (.right (.given ps h)))⟩⟩
  | .bin .orr a b, ps, u => by
    have ha := truth_canon cl hL a (cl.l ps) u
    have hb := truth_canon cl hL b (cl.r ps) u
    refine ⟨fun h => h.elim (fun h => u.2.closed _ (.one ps (.given (cl.l ps) (ha.mp h)))) fun h => u.2.closed _ (.other ps (.given (cl.r ps) (hb.mp h))), fun h => (u.2.prime a b h).elim (fun h => .inl (ha.mpr h)) fun h => .inr (hb.mpr h)⟩
  | .bin .th a b, ps, u => by
    have ha := truth_canon cl hL a (cl.l ps)
    have hb := truth_canon cl hL b (cl.r ps)
    refine ⟨fun h => ?_, fun h v l k => (hb v).mpr (v.2.closed _ (.onward (.given ps (l _ h)) (.given (cl.l ps) ((ha v).mp k))))⟩
    refine Classical.byContradiction fun hn => ?_
    have h1 : ¬ D P (add1 u.1 a) b := fun q => hn (u.2.closed _ (.suppose ps q))
    obtain ⟨Δ, h2, h3, h4⟩ := extend cl hL (fun x q => q.elim (u.2.sub x) fun q => q ▸ cl.l ps) (cl.r ps) h1
    exact h4 ((hb ⟨Δ, h3⟩).mp (h ⟨Δ, h3⟩ (fun x q => h2 x (.inl q)) ((ha ⟨Δ, h3⟩).mpr (h2 a (.inr rfl)))))
/-- what holds wherever these hold is shown from them -/
theorem D.complete {P : St_} (cl : Cl P) {L : List Stm} (hL : ∀ x, P x ↔ x ∈ L) {Γ : St_} (hG : ∀ x, Γ x → P x) {c : Stm} (hc : P c) (h : ∀ (M : KM) (w : M.Wd), (∀ x, Γ x → force M w x) → force M w c) : D P Γ c := by
  refine Classical.byContradiction fun hn => ?_
  obtain ⟨Δ, h2, h3, h4⟩ := extend cl hL hG hc hn
  exact h4 ((truth_canon cl hL c hc ⟨Δ, h3⟩).mp (h (canon P) ⟨Δ, h3⟩ fun x q => (truth_canon cl hL x (hG x q) ⟨Δ, h3⟩).mpr (h2 x q)))
theorem shown_valid {P : St_} (cl : Cl P) {L : List Stm} (hL : ∀ x, P x ↔ x ∈ L) {c : Stm} (hc : P c) : D P (fun _ => False) c ↔ Valid c :=
  ⟨fun h M w => h.sound M w fun x q => q.elim, fun h => D.complete cl hL (fun x q => q.elim) hc fun M w _ => h M w⟩
/-! what the search leaves when nothing is new -/
structure Sat (P : St_) (Γ X : St_) : Prop where
  giv : ∀ x, P x → Γ x → X x
  snd : ∀ x, X x → D P Γ x
  any : X .fl → ∀ a, P a → X a
  an : ∀ a b, X (.bin .an a b) → X a ∧ X b
  onward : ∀ a b, X (.bin .th a b) → X a → X b
  both : ∀ a b, P (.bin .an a b) → X a → X b → X (.bin .an a b)
  orr : ∀ a b, P (.bin .orr a b) → X a ∨ X b → X (.bin .orr a b)
  th : ∀ a b, P (.bin .th a b) → (X b ∨ (¬ X a ∧ D P (add1 Γ a) b)) → X (.bin .th a b)
  cases : ∀ a b c, X (.bin .orr a b) → ¬ X a → ¬ X b → P c → D P (add1 Γ a) c → D P (add1 Γ b) c → X c
theorem Sat.all {P : St_} (cl : Cl P) {Γ X : St_} (S : Sat P Γ X) {Δ : St_} {c : Stm} (h : D P Δ c) : (∀ x, P x → Δ x → X x) → X c := by
  have cut : ∀ {Δ : St_} {a b : Stm}, (∀ x, P x → Δ x → X x) → D P (add1 Δ a) b → D P (add1 Γ a) b := fun {Δ a b} s q => q.subst cl fun x px z => by
    rcases z with z | rfl
    · exact (S.snd x (s x px z)).mono fun y q => .inl q
    · exact .given px (.inr rfl)
  have ext : ∀ {Δ : St_} {a : Stm}, (∀ x, P x → Δ x → X x) → X a → ∀ x, P x → add1 Δ a x → X x := fun s k x px z => z.elim (s x px) fun z => z ▸ k
  induction h with
  | given p k => exact fun s => s _ p k
  | any p _ ih => exact fun s => S.any (ih s) _ p
  | left _ ih => exact fun s => (S.an _ _ (ih s)).1
  | right _ ih => exact fun s => (S.an _ _ (ih s)).2
  | onward _ _ ih1 ih2 => exact fun s => S.onward _ _ (ih1 s) (ih2 s)
  | both p _ _ ih1 ih2 => exact fun s => S.both _ _ p (ih1 s) (ih2 s)
  | one p _ ih => exact fun s => S.orr _ _ p (.inl (ih s))
  | other p _ ih => exact fun s => S.orr _ _ p (.inr (ih s))
  | @suppose Δ a b p h ih =>
    intro s
    refine S.th _ _ p ?_
    by_cases k : X a
    · exact .inl (ih (ext s k))
    · exact .inr ⟨k, cut s h⟩
  | @cases Δ a b c h1 h2 h3 ih1 ih2 ih3 =>
    intro s
    have k := ih1 s
    by_cases ka : X a
    · exact ih2 (ext s ka)
    · by_cases kb : X b
      · exact ih3 (ext s kb)
      · exact S.cases a b c k ka kb (h2.inP cl) (cut s h2) (cut s h3)
theorem Sat.iff {P : St_} (cl : Cl P) {Γ X : St_} (S : Sat P Γ X) (c : Stm) : X c ↔ D P Γ c := ⟨S.snd c, fun h => S.all cl h S.giv⟩
end My

set_option Elab.async false
set_option linter.all false
set_option maxRecDepth 100000
/-! laws of what holds everywhere -/
namespace My
open PySem
/-- two trees of worlds under a new root -/
def glue (M N : KM) : KM where
  Wd := Option (M.Wd ⊕ N.Wd)
  le := fun u v => match u, v with
    | none, _ => True
    | some (.inl a), some (.inl b) => M.le a b
    | some (.inr a), some (.inr b) => N.le a b
    | _, _ => False
  rfl_ := fun u => by
    match u with
    | none => trivial
    | some (.inl a) => exact M.rfl_ a
    | some (.inr a) => exact N.rfl_ a
  trans := fun {u v w} h k => by
    match u, v, w with
    | none, _, _ => trivial
    | some (.inl a), some (.inl b), some (.inl c) => exact M.trans h k
    | some (.inr a), some (.inr b), some (.inr c) => exact N.trans h k
    | some (.inl a), none, _ => exact h.elim
    | some (.inl a), some (.inr b), _ => exact h.elim
    | some (.inr a), none, _ => exact h.elim
    | some (.inr a), some (.inl b), _ => exact h.elim
    | some (.inl a), some (.inl b), none => exact k.elim
    | some (.inl a), some (.inl b), some (.inr c) => exact k.elim
    | some (.inr a), some (.inr b), none => exact k.elim
    | some (.inr a), some (.inr b), some (.inl c) => exact k.elim
  at_ := fun u p => match u with
    | none => False
    | some (.inl a) => M.at_ a p
    | some (.inr a) => N.at_ a p
  mono := fun {u v p} h k => by
    match u, v with
    | none, _ => exact k.elim
    | some (.inl a), some (.inl b) => exact M.mono h k
    | some (.inr a), some (.inr b) => exact N.mono h k
    | some (.inl a), none => exact h.elim
    | some (.inl a), some (.inr b) => exact h.elim
    | some (.inr a), none => exact h.elim
    | some (.inr a), some (.inl b) => exact h.elim
theorem glue_l (M N : KM) : ∀ (s : Stm) (a : M.Wd), force (glue M N) (some (.inl a)) s ↔ force M a s
  | .nm p, a => Iff.rfl
  | .fl, a => Iff.rfl
  | .bin .an x y, a => and_congr (glue_l M N x a) (glue_l M N y a)
  | .bin .orr x y, a => or_congr (glue_l M N x a) (glue_l M N y a)
  | .bin .th x y, a => by
    constructor
    · exact fun h b l k => (glue_l M N y b).mp (h (some (.inl b)) l ((glue_l M N x b).mpr k))
    · intro h v l k
      match v with
      | some (.inl b) => exact (glue_l M N y b).mpr (h b l ((glue_l M N x b).mp k))
      | some (.inr b) => exact l.elim
      | none => exact l.elim
theorem glue_r (M N : KM) : ∀ (s : Stm) (a : N.Wd), force (glue M N) (some (.inr a)) s ↔ force N a s
  | .nm p, a => Iff.rfl
  | .fl, a => Iff.rfl
  | .bin .an x y, a => and_congr (glue_r M N x a) (glue_r M N y a)
  | .bin .orr x y, a => or_congr (glue_r M N x a) (glue_r M N y a)
  | .bin .th x y, a => by
    constructor
    · exact fun h b l k => (glue_r M N y b).mp (h (some (.inr b)) l ((glue_r M N x b).mpr k))
    · intro h v l k
      match v with
      | some (.inr b) => exact (glue_r M N y b).mpr (h b l ((glue_r M N x b).mp k))
      | some (.inl b) => exact l.elim
      | none => exact l.elim
theorem valid_or (a b : Stm) : Valid (.bin .orr a b) ↔ Valid a ∨ Valid b := by
  constructor
  · intro h
    refine Classical.byContradiction fun n => ?_
    have n1 : ¬ Valid a := fun k => n (.inl k)
    have n2 : ¬ Valid b := fun k => n (.inr k)
    unfold Valid at n1 n2
    simp only [Classical.not_forall] at n1 n2
    obtain ⟨M, u, h1⟩ := n1
    obtain ⟨N, v, h2⟩ := n2
    rcases h (glue M N) none with k | k
    · exact h1 ((glue_l M N a u).mp (force_mono (glue M N) a (u := none) (v := some (.inl u)) trivial k))
    · exact h2 ((glue_r M N b v).mp (force_mono (glue M N) b (u := none) (v := some (.inr v)) trivial k))
  · rintro (h | h) M w
    · exact .inl (h M w)
    · exact .inr (h M w)
theorem valid_and (a b : Stm) : Valid (.bin .an a b) ↔ Valid a ∧ Valid b := ⟨fun h => ⟨fun M w => (h M w).1, fun M w => (h M w).2⟩, fun h M w => ⟨h.1 M w, h.2 M w⟩⟩
theorem valid_self (a : Stm) : Valid (.bin .th a a) := fun M w v _ k => k
theorem valid_other (a b : Stm) : Valid (.bin .th b (.bin .orr a b)) := fun M w v _ k => .inr k
theorem valid_any (a b : Stm) : Valid (.bin .th (.bin .an a (.bin .th a .fl)) b) := fun M w v _ k => (k.2 v (M.rfl_ v) k.1).elim
theorem valid_onward {a : Stm} (h : Valid a) (b : Stm) : Valid (.bin .th a b) ↔ Valid b := ⟨fun k M w => k M w w (M.rfl_ w) (h M w), fun k M w v _ _ => k M v⟩
end My

set_option Elab.async false
set_option linter.all false
set_option maxRecDepth 100000
/-! tables of truths -/
namespace My
open PySem
def tv (v : Str → Prop) : Stm → Prop
  | .nm p => v p
  | .fl => False
  | .bin .an a b => tv v a ∧ tv v b
  | .bin .orr a b => tv v a ∨ tv v b
  | .bin .th a b => tv v a → tv v b
/-- one world -/
def one (v : Str → Prop) : KM where
  Wd := Unit
  le := fun _ _ => True
  rfl_ := fun _ => trivial
  trans := fun _ _ => trivial
  at_ := fun _ p => v p
  mono := fun _ h => h
theorem one_tv (v : Str → Prop) : ∀ (s : Stm) (u : Unit), force (one v) u s ↔ tv v s
  | .nm p, _ => Iff.rfl
  | .fl, _ => Iff.rfl
  | .bin .an a b, u => and_congr (one_tv v a u) (one_tv v b u)
  | .bin .orr a b, u => or_congr (one_tv v a u) (one_tv v b u)
  | .bin .th a b, u => ⟨fun h k => (one_tv v b u).mp (h u trivial ((one_tv v a u).mpr k)), fun h w _ k => (one_tv v b w).mpr (h ((one_tv v a w).mp k))⟩
theorem valid_tv {s : Stm} (h : Valid s) (v : Str → Prop) : tv v s := (one_tv v s ()).mp (h (one v) ())
/-- what holds at a world is true in some table -/
theorem table_of {P : St_} (cl : Cl P) {L : List Stm} (hL : ∀ x, P x ↔ x ∈ L) (hfl : P .fl) (M : KM) (w : M.Wd) {s : Stm} (hs : P s) (h : force M w s) : ∃ v, tv v s := by
  have h0 : ¬ D P (fun x => P x ∧ force M w x) .fl := fun d => d.sound M w fun x k => k.2
  have hn := growL_not L h0
  have hsub := growL_sub (c := .fl) L (fun x (k : P x ∧ force M w x) => k.1) fun x q => (hL x).mpr q
  have hm := fun x (px : P x) => growL_max (P := P) (c := .fl) L (Γ := fun x => P x ∧ force M w x) ((hL x).mp px)
  have hl := fun x (q : P x ∧ force M w x) => growL_le (P := P) (c := .fl) L (Γ := fun x => P x ∧ force M w x) q
  generalize growL P .fl L (fun x => P x ∧ force M w x) = Δ at *
  have cut : ∀ x, D P Δ x → D P (add1 Δ x) .fl → D P Δ .fl := fun x hx q => q.subst cl fun y py z => z.elim (fun z => .given py z) fun z => z ▸ hx
  have closed : ∀ x, D P Δ x → Δ x := fun x hx => (hm x (hx.inP cl)).elim id fun q => absurd (cut x hx q) hn
  have key : ∀ x, P x → (tv (fun p => Δ (.nm p)) x ↔ Δ x) := by
    intro x
    induction x with
    | nm p => exact fun _ => Iff.rfl
    | fl => exact fun px => ⟨fun h => h.elim, fun h => hn (.given px h)⟩
    | bin z a b iha ihb =>
      intro px
      have ia := iha (cl.l px)
      have ib := ihb (cl.r px)
      cases z with
      | an => exact ⟨fun h => closed _ (.both px (.given (cl.l px) (ia.mp h.1)) (.given (cl.r px) (ib.mp h.2))), fun h => ⟨ia.mpr (closed _ (.left (.given px h))), ib.mpr (closed _ (.right (.given px h)))⟩⟩
      | orr =>
        refine ⟨fun h => h.elim (fun h => closed _ (.one px (.given (cl.l px) (ia.mp h)))) fun h => closed _ (.other px (.given (cl.r px) (ib.mp h))), fun h => ?_⟩
        rcases hm a (cl.l px) with ha | ha
        · exact .inl (ia.mpr ha)
        · rcases hm b (cl.r px) with hb | hb
          · exact .inr (ib.mpr hb)
          · exact absurd (.cases (.given px h) ha hb) hn
      | th =>
        refine ⟨fun h => ?_, fun h k => ib.mpr (closed _ (.onward (.given px h) (.given (cl.l px) (ia.mp k))))⟩
        rcases hm a (cl.l px) with ha | ha
        · exact closed _ (.suppose px (.given (cl.r px) (.inl (ib.mp (h (ia.mpr ha))))))
        · exact closed _ (.suppose px (.any (cl.r px) ha))
  exact ⟨_, (key s hs).mpr (hl s ⟨hs, h⟩)⟩
/-- a denial is shown just where it is true in none -/
theorem valid_not {P : St_} (cl : Cl P) {L : List Stm} (hL : ∀ x, P x ↔ x ∈ L) (hfl : P .fl) {s : Stm} (hs : P s) : Valid (.bin .th s .fl) ↔ ∀ v, ¬ tv v s := by
  constructor
  · exact fun h v k => valid_tv h v k
  · intro h M w u _ k
    obtain ⟨v, hv⟩ := table_of cl hL hfl M u hs k
    exact absurd hv (h v)
theorem valid_notnot {P : St_} (cl : Cl P) {L : List Stm} (hL : ∀ x, P x ↔ x ∈ L) (hfl : P .fl) {s : Stm} (hs : P (.bin .th s .fl)) : Valid (.bin .th (.bin .th s .fl) .fl) ↔ ∀ v, tv v s := by
  rw [valid_not cl hL hfl hs]
  exact forall_congr' fun v => Classical.not_not
end My

set_option Elab.async false
set_option linter.all false
set_option maxRecDepth 100000
set_option maxHeartbeats 2000000
/-! a dict whose keys are statements, their numbers -/
namespace My
open PySem PySem.Spec L2 PyProof.Rows
def keyOf : Stm → NestedKey
  | .nm w => .tup [.text "name", .text w]
  | .fl => .tup [.text "false"]
  | .bin o a b => .tup [.text o.word, keyOf a, keyOf b]
theorem keyOf_depth : ∀ s : Stm, (keyOf s).depth = s.depth
  | .nm w => rfl
  | .fl => rfl
  | .bin o a b => by
    have ha := keyOf_depth a
    have hb := keyOf_depth b
    simp only [keyOf, NestedKey.depth, NestedKey.depthAll, Stm.depth, ha, hb]
    omega
theorem word_inj : ∀ {o p : W3}, o.word = p.word → o = p := by
  intro o p h
  cases o <;> cases p <;> first | rfl | exact absurd h (by decide +kernel)
theorem keyOf_inj : ∀ {s t : Stm}, keyOf s = keyOf t → s = t
  | .nm a, .nm b, h => by simp [keyOf] at h; rw [h]
  | .fl, .fl, _ => rfl
  | .bin o a b, .bin p c d, h => by
    simp only [keyOf, NestedKey.tup.injEq, List.cons.injEq, NestedKey.text.injEq, and_true] at h
    rw [word_inj h.1, keyOf_inj h.2.1, keyOf_inj h.2.2]
  | .nm a, .fl, h => by simp [keyOf] at h
  | .nm a, .bin p c d, h => by simp [keyOf] at h
  | .fl, .nm b, h => by simp [keyOf] at h
  | .fl, .bin p c d, h => by simp [keyOf] at h
  | .bin o a b, .nm c, h => by simp [keyOf] at h
  | .bin o a b, .fl, h => by simp [keyOf] at h
mutual
def dk : PyData → NestedKey
  | .str x => .text x
  | .tuple ds => .tup (dks ds)
  | _ => .none
def dks : List PyData → List NestedKey
  | [] => []
  | d :: ds => dk d :: dks ds
end
mutual
def txt : PyData → Bool
  | .str _ => true
  | .tuple ds => txts ds
  | _ => false
def txts : List PyData → Bool
  | [] => true
  | d :: ds => txt d && txts ds
end
mutual
theorem reads_dk {h : Heap} : ∀ (d : PyData) (v : Value) (as : List Addr), txt d = true → Reads h v d as → NestedIs h (dk d) v
  | .str x, _, _, _, r => by
    cases r
    exact .text _ _
  | .tuple ds, _, _, z, r => by
    cases r with
    | tuple h1 h2 h3 h4 => exact .tup h1 h2 h3 (reads_dks ds _ _ (by simpa [txt] using z) h4)
  | .none, _, _, z, _ => by simp [txt] at z
  | .bool _, _, _, z, _ => by simp [txt] at z
  | .int _, _, _, z, _ => by simp [txt] at z
  | .list _, _, _, z, _ => by simp [txt] at z
  | .dict _, _, _, z, _ => by simp [txt] at z
theorem reads_dks {h : Heap} : ∀ (ds : List PyData) (vs : List Value) (as : List Addr), txts ds = true → ReadsAll h vs ds as → NestedAll h (dks ds) vs
  | [], _, _, _, r => by cases r; exact .nil
  | d :: ds, _, _, z, r => by
    simp only [txts, Bool.and_eq_true] at z
    cases r with
    | cons r1 r2 => exact .cons (reads_dk d _ _ z.1 r1) (reads_dks ds _ _ z.2 r2)
end
theorem dk_enc : ∀ s : Stm, dk s.enc = keyOf s ∧ txt s.enc = true
  | .nm w => ⟨rfl, rfl⟩
  | .fl => ⟨rfl, rfl⟩
  | .bin o a b => by
    obtain ⟨a1, a2⟩ := dk_enc a
    obtain ⟨b1, b2⟩ := dk_enc b
    simp [Stm.enc, dk, dks, txt, txts, keyOf, a1, a2, b1, b2]
theorem reads_key {h : Heap} (s : Stm) {v : Value} {as : List Addr} (r : Reads h v s.enc as) : NestedIs h (keyOf s) v := by
  have := reads_dk s.enc v as (dk_enc s).2 r
  rwa [(dk_enc s).1] at this
/-! statements as data are laid -/
def SL (s : Stm) : Prop := s.Ok ∧ s.depth ≤ 8
theorem nameOk_str {w : Str} (h : NameOk w) : PyData.canLay0 (.str w) = true := by
  simp only [PyData.canLay0, PyData.strOk, Array.all_eq_true, decide_eq_true_eq]
  intro i hi
  have := (h.2.2 _ (Array.mem_toList_iff.mpr (Array.getElem_mem hi))).2
  omega
theorem word_str (o : W3) : PyData.canLay0 (.str o.word) = true := by cases o <;> decide +kernel
theorem enc_lay : ∀ s : Stm, s.Ok → s.enc.canLay0 = true
  | .nm w, h => by
    have := nameOk_str h
    have e : PyData.canLay0 (.str "name") = true := by decide +kernel
    simp only [Stm.enc, PyData.canLay0, PyData.canLayAll0] at this e ⊢
    simp [this, e]
  | .fl, _ => by decide +kernel
  | .bin o a b, h => by
    have ha := enc_lay a h.1
    have hb := enc_lay b h.2
    have hw := word_str o
    simp only [Stm.enc, PyData.canLay0, PyData.canLayAll0] at hw ⊢
    simp [ha, hb, hw]
theorem stm_key {X : Cx} {pins : List (Addr × Obj)} {σ : L2.St} {H : Hp} {s : Shared} (I : Inv X pins σ H s) {t : Addr} {a : Stm} (ok : SL a) (h : DL.Dp X.K H (.ref t) a.enc) : (nestedKind X.prog X.w).is s.heap (keyOf a) t := by
  obtain ⟨as, r⟩ := L2.Dp.reads I _ _ _ (DL.dp_l2 _ _ (enc_lay a ok.1) h) (show RelV (.ref t) (.ref t) from rfl)
  exact ⟨reads_key a r, by rw [keyOf_depth]; exact ok.2⟩
/-! the dict -/
abbrev Ent := NestedKey × Addr × Value
structure NumOk (P : Program) (w : World) (a : Addr) (es : List (Stm × Addr)) (h : Heap) : Prop where
  sys : (a == sysModules) = false
  at_ : ∃ xs : List Ent, xs.map (fun x => (x.1, x.2.1)) = es.map (fun e => (keyOf e.1, e.2)) ∧ (∀ (i : Nat) (x : Ent), xs[i]? = some x → ∃ t, x.2.2 = .int (i : Nat) t) ∧
    ∃ o eds ep, h.get? a = some o ∧ o.ExactDict ∧ o.data = .dict eds ep ∧ eds.toList = xs.map (entryOfKey (nestedKind P w)) ∧ (xs.map (·.1)).Nodup
def numO (P : Program) (w : World) (a : Addr) (es : List (Stm × Addr)) : HO := .ext (NumOk P w a es)
theorem NumOk.stay {P : Program} {w : World} {a : Addr} {es : List (Stm × Addr)} (h1 h2 : Heap) (x : NumOk P w a es h1) (k : ∀ o, h1.get? a = some o → h2.get? a = some o) : NumOk P w a es h2 := by
  obtain ⟨xs, e1, e2, o, eds, ep, ho, r⟩ := x.at_
  exact ⟨x.sys, xs, e1, e2, o, eds, ep, k _ ho, r⟩
theorem num_obj {P : Program} {w : World} {H : Hp} {h : Heap} {a : Addr} {es : List (Stm × Addr)} (x : NumOk P w a es h) : ObjOk P w H h a (numO P w a es) := by
  obtain ⟨xs, e1, e2, o, eds, ep, ho, r⟩ := x.at_
  exact ⟨x, ⟨o, ho⟩, fun h1 h2 => NumOk.stay h1 h2⟩
/-- what is known of it: the dict, and that its keys are the statements -/
structure NumAt (P : Program) (w : World) (K : PySem.W.Frag) (H : Hp) (a : Addr) (es : List (Stm × Addr)) : Prop where
  at_ : H a = some (numO P w a es)
  key : ∀ e ∈ es, SL e.1 ∧ DL.Dp K H (.ref e.2) e.1.enc
theorem NumAt.mono {P : Program} {w : World} {K : PySem.W.Frag} {H H' : Hp} {a : Addr} {es : List (Stm × Addr)} (x : NumAt P w K H a es) (s : Same H H') : NumAt P w K H' a es := ⟨s _ _ x.at_, fun e he => ⟨(x.key e he).1, DL.dp_mono s _ _ (x.key e he).2⟩⟩
theorem NumAt.dict {X : Cx} {pins : List (Addr × Obj)} {σ : L2.St} {H : Hp} {s : Shared} (I : Inv X pins σ H s) {a : Addr} {es : List (Stm × Addr)} (x : NumAt X.prog X.w X.K H a es) :
    (a == sysModules) = false ∧ ∃ xs : List Ent, xs.map (fun x => (x.1, x.2.1)) = es.map (fun e => (keyOf e.1, e.2)) ∧ (∀ (i : Nat) (x : Ent), xs[i]? = some x → ∃ t, x.2.2 = .int (i : Nat) t) ∧ s.heap.DictOfH (nestedKind X.prog X.w) a xs := by
  obtain ⟨hx, _, _⟩ : ObjOk X.prog X.w H s.heap a (numO X.prog X.w a es) := I.hok a _ x.at_
  obtain ⟨xs, e1, e2, o, eds, ep, ho, hc, hd, he, hn⟩ := hx.at_
  refine ⟨hx.sys, xs, e1, e2, o, eds, ep, ho, hc, hd, he, fun y hy => ?_, hn⟩
  have hm : (y.1, y.2.1) ∈ es.map (fun e => (keyOf e.1, e.2)) := by
    rw [← e1]
    exact List.mem_map.mpr ⟨y, hy, rfl⟩
  obtain ⟨e, he2, e3⟩ := List.mem_map.mp hm
  obtain ⟨k1, k2⟩ := x.key e he2
  obtain ⟨e4, e5⟩ := Prod.mk.inj e3
  have := stm_key I k1 k2
  rwa [e4, e5] at this
theorem ents_len {xs : List Ent} {es : List (Stm × Addr)} (e : xs.map (fun x => (x.1, x.2.1)) = es.map (fun e => (keyOf e.1, e.2))) : xs.length = es.length := by
  have := congrArg List.length e
  simpa using this
theorem ents_at {xs : List Ent} {es : List (Stm × Addr)} (e : xs.map (fun x => (x.1, x.2.1)) = es.map (fun e => (keyOf e.1, e.2))) {i : Nat} {s : Stm} {a : Addr} (h : es[i]? = some (s, a)) : ∃ v, xs[i]? = some (keyOf s, a, v) := by
  have h1 : (xs.map fun x => (x.1, x.2.1))[i]? = some (keyOf s, a) := by rw [e, List.getElem?_map, h]; rfl
  rw [List.getElem?_map] at h1
  obtain ⟨x, h2, h3⟩ := Option.map_eq_some_iff.mp h1
  obtain ⟨k, a', v⟩ := x
  cases h3
  exact ⟨v, h2⟩
theorem ents_some {xs : List Ent} {es : List (Stm × Addr)} (e : xs.map (fun x => (x.1, x.2.1)) = es.map (fun e => (keyOf e.1, e.2))) (s : Stm) : (atKey xs (keyOf s)).isSome = decide (s ∈ es.map (·.1)) := by
  rw [Bool.eq_iff_iff, decide_eq_true_eq]
  unfold atKey
  rw [Option.isSome_map, List.find?_isSome]
  constructor
  · rintro ⟨x, hx, hk⟩
    have hm : (x.1, x.2.1) ∈ es.map (fun e => (keyOf e.1, e.2)) := by
      rw [← e]
      exact List.mem_map.mpr ⟨x, hx, rfl⟩
    obtain ⟨y, hy, h3⟩ := List.mem_map.mp hm
    obtain ⟨h4, _⟩ := Prod.mk.inj h3
    have h5 : x.1 = keyOf s := by simpa using hk
    have : y.1 = s := keyOf_inj (h4.trans h5)
    exact List.mem_map.mpr ⟨y, hy, this⟩
  · intro h
    obtain ⟨y, hy, rfl⟩ := List.mem_map.mp h
    have hm : (keyOf y.1, y.2) ∈ xs.map (fun x => (x.1, x.2.1)) := by
      rw [e]
      exact List.mem_map.mpr ⟨y, hy, rfl⟩
    obtain ⟨x, hx, h3⟩ := List.mem_map.mp hm
    obtain ⟨h4, _⟩ := Prod.mk.inj h3
    exact ⟨x, hx, by simpa using h4⟩
section
variable {X : Cx} {pos : Pos}
/-- {}, to be such a dict -/
theorem pe_numNew : PE X (.Dict [] [] pos) (fun _ H Q => ∀ p, H p = none → Q (.ref p) (upd H p (numO X.prog X.w p []))) := ⟨fun pins s σ H Q I h =>
  wpAny_Dict_empty ⟨.ref s.heap.objs.size, _, I.laid (a := s.heap.objs.size) (o := numO X.prog X.w s.heap.objs.size []) (t' := s.toks) (fun _ _ q => Heap.get?_push_of_some _ q) (Nat.le_refl _)
    (num_obj ⟨beq_eq_false_iff_ne.mpr (Ne.symm (Nat.ne_of_lt I.big)), [], rfl, (fun i x h => by simp at h), _, #[], 0, Heap.get?_push_size _ rfl, ⟨rfl, rfl, rfl⟩, rfl, rfl, List.nodup_nil⟩), rfl, h _ (I.hok.fresh (Nat.le_refl _))⟩⟩
def rNumIn (P : Program) (w : World) (K : PySem.W.Frag) : R2 := fun x y H Q => ∃ t d a es, x = .ref t ∧ y = .ref d ∧ NumAt P w K H d es ∧ SL a ∧ DL.Dp K H (.ref t) a.enc ∧ Q (.bl (decide (a ∈ es.map (·.1)))) H
theorem op_numIn (hu : X.A.units + 9 < cLine) : OpR X (compareOp .In) (rNumIn X.prog X.w X.K) := by
  intro pins s σ H x y v u Q I rx ry h
  obtain ⟨t, d, a, es, rfl, rfl, hN, ok, hd, q⟩ := h
  cases rx
  cases ry
  obtain ⟨sys, xs, e1, e2, hx⟩ := hN.dict I
  have hk := stm_key I ok hd
  refine wpAny_in_heap (show X.A.in1.units + 8 < cLine by show X.A.units + 1 + 8 < cLine; omega) hk sys hx ?_
  rw [ents_some e1]
  exact ⟨.bl _, H, I.tok _, rfl, q⟩
def tNumGet (P : Program) (w : World) (K : PySem.W.Frag) (td ty : TE) : TE := fun σ H Q => td σ H fun x H1 => ty σ H1 fun y H2 => ∃ t d a es i b, x = .ref d ∧ y = .ref t ∧ NumAt P w K H2 d es ∧ SL a ∧ DL.Dp K H2 (.ref t) a.enc ∧ es[i]? = some (a, b) ∧ Q (.int (i : Nat)) H2
theorem pe_numGet {o e : Expr} {td ty : TE} (hu : X.A.units + 9 < cLine) (ho : PE X o td) (hi : PE X e ty) (hs : NoSl e) : PE X (.Subscript o e pos) (tNumGet X.prog X.w X.K td ty) := by
  refine ⟨fun pins s σ H Q I h => ?_⟩
  refine subD_of PySem.F.slot_dict_getitem.lookup hs (thn (ho.run pins s σ H _ I h) fun u s1 ⟨x, H1, I1, rx, q1⟩ => thn (hi.run pins s1 σ H1 _ I1 q1) fun iv s2 ⟨y, H2, I2, ry, t, d, a, es, i, b, ex, ey, hN, ok, hd, hi, q⟩ => ?_)
  subst ex ey
  obtain rfl : u = Value.ref d := rx
  obtain rfl : iv = Value.ref t := ry
  obtain ⟨sys, xs, e1, e2, hx⟩ := hN.dict I2
  have hk := stm_key I2 ok hd
  obtain ⟨z, hz⟩ := ents_at e1 hi
  obtain ⟨tk, hz2⟩ := e2 i _ hz
  simp only at hz2
  subst hz2
  have hnd : (xs.map (·.1)).Nodup := by
    obtain ⟨_, _, _, _, _, _, _, _, hn⟩ := hx
    exact hn
  have hat := atKey_of_get hnd hz
  exact ⟨hx.typeIs, wpAny_getItem_heap (show X.A.in1.units + 8 < cLine by show X.A.units + 1 + 8 < cLine; omega) hk hx hat ⟨.int (i : Nat), H2, I2.tok _, ⟨_, rfl⟩, q⟩⟩
def rNumSet (P : Program) (w : World) (K : PySem.W.Frag) : TSet := fun o i v H Q => ∃ d t a es, o = .ref d ∧ i = .ref t ∧ v = .int (es.length : Nat) ∧ NumAt P w K H d es ∧ SL a ∧ DL.Dp K H (.ref t) a.enc ∧ ¬ a ∈ es.map (·.1) ∧ es.length < sizeLine ∧ Q (upd H d (numO P w d (es ++ [(a, t)])))
theorem set_num (hu : X.A.units + 9 < cLine) : PSet X (rNumSet X.prog X.w X.K) := by
  intro pins s σ H o i v ov iv u Q I ro ri rv h
  obtain ⟨d, t, a, es, rfl, rfl, rfl, hN, ok, hd, hni, hz, q⟩ := h
  cases ro
  cases ri
  obtain ⟨tk, rfl⟩ := rv
  obtain ⟨sys, xs, e1, e2, hx⟩ := hN.dict I
  have hk := stm_key I ok hd
  have hl := ents_len e1
  have hno : atKey xs (keyOf a) = none := by
    have := ents_some e1 a
    rw [decide_eq_false hni] at this
    cases h : atKey xs (keyOf a) with
    | none => rfl
    | some _ => rw [h] at this; cases this
  refine wpAny_setItem_heap (hsz := by omega) (show X.A.in1.units + 8 < cLine by show X.A.units + 1 + 8 < cLine; omega) hk hx fun h' hm' hs => ?_
  rw [storedH_new hno] at hm'
  obtain ⟨o', eds, ep, ho', hc', hd', he', his', hn'⟩ := hm'
  refine ⟨_, I.write (x := d) (e := d) (o := numO X.prog X.w d (es ++ [(a, t)])) (by rw [hN.at_]; trivial) (.inl rfl) (fun b ob hb e => (hs.2 b hb).trans e) ⟨_, ho'⟩
    (num_obj ⟨sys, xs ++ [(keyOf a, t, .int (es.length : Nat) tk)], by rw [List.map_append, List.map_append, e1]; rfl, fun i x hx => ?_, o', eds, ep, ho', hc', hd', he', hn'⟩), q⟩
  by_cases hi : i < xs.length
  · rw [List.getElem?_append_left hi] at hx
    exact e2 i x hx
  · rw [List.getElem?_append_right (by omega)] at hx
    have hlt := (List.getElem?_eq_some_iff.mp hx).1
    simp at hlt
    have : i - xs.length = 0 := by omega
    rw [this] at hx
    cases hx
    exact ⟨tk, by rw [show i = es.length by omega]⟩
def rNumLen (P : Program) (w : World) (K : PySem.W.Frag) : List V → Hp → VK → Prop := fun xs H Q => ∃ d es, xs = [.ref d] ∧ NumAt P w K H d es ∧ es.length ≤ sizeLine ∧ Q (.int (es.length : Nat)) H
theorem call_lenNum : CallR X (.builtin "len") (rNumLen X.prog X.w X.K) := by
  intro pins s σ H xs us Q I r h
  obtain ⟨d, es, rfl, hN, hz, q⟩ := h
  rw [Vals.ref1 r]
  obtain ⟨sys, xs, e1, e2, hx⟩ := hN.dict I
  have hl := ents_len e1
  obtain ⟨eds, ep, hr, hsz, _⟩ := hx.raw
  refine PyProof.Rows.call_len_slot (n := xs.length) hx.typeIs F.slot_dict_len (fun Q' hq => ?_) (by omega) (by rw [sizeLine_eq] at hz; omega) ?_
  · refine call_len_raw sys hr ?_
    rw [hsz]
    exact hq
  · rw [hl]
    exact ⟨.int (es.length : Nat), H, I.tok _, ⟨_, rfl⟩, q⟩
def rNumList (P : Program) (w : World) (K : PySem.W.Frag) : List V → Hp → VK → Prop := fun xs H Q => ∃ d es, xs = [.ref d] ∧ NumAt P w K H d es ∧ es.length ≤ sizeLine ∧ ∀ p, H p = none → Q (.ref p) (upd H p (.lst (es.map fun e => V.ref e.2)))
theorem call_listNum (hc : X.calm = true) : CallR X (.type "list") (rNumList X.prog X.w X.K) := by
  intro pins s σ H xs us Q I r h
  obtain ⟨d, es, rfl, hN, hz, q⟩ := h
  rw [Vals.ref1 r]
  obtain ⟨sys, xs, e1, e2, hx⟩ := hN.dict I
  have hl := ents_len e1
  obtain ⟨eds, ep, hr, hsz, hat⟩ := hx.raw
  refine PySem.W.kdl_call (KdlSrc.rawDict (es := eds) (ep := ep) sys) (I.ok.hd hc) hr (by omega) fun h' tk acc' c' hkeep hS hacc => ?_
  refine ⟨.ref s.heap.objs.size, upd H s.heap.objs.size (.lst (es.map fun e => V.ref e.2)), I.laid hkeep (Nat.le_refl _) (show ObjOk X.prog X.w _ _ _ (.lst (es.map fun e => V.ref e.2)) from ⟨?_, acc'.toList, c', ?_, ?_⟩), rfl, q _ (I.hok.fresh (Nat.le_refl _))⟩
  · rw [List.length_map]; exact hz
  · have el : acc'.toList.length = acc'.size := by simp
    refine vals_of_at (by rw [List.length_map, el, hacc.1]; omega) fun j x w h1 h2 => ?_
    obtain ⟨hi, hw⟩ := hacc.2 j w (by rw [← Array.getElem?_toList]; exact h2)
    obtain ⟨y, hy1, hy2, _⟩ := hat j hi
    rw [List.getElem?_map] at h1
    obtain ⟨e, he, rfl⟩ := Option.map_eq_some_iff.mp h1
    obtain ⟨z, hz2⟩ := ents_at e1 (i := j) (s := e.1) (a := e.2) he
    rw [hz2] at hy1
    cases hy1
    rw [hw, hy2]
    rfl
  · rw [Array.toArray_toList]; exact hS
end
end My

set_option Elab.async false
set_option linter.all false
set_option maxRecDepth 100000
set_option maxHeartbeats 4000000
/-! sorted of a tuple of ints -/
namespace SoT
open PySem PyProof.Rows Srt SrtO
section
variable {prog : Program} {w : World} {A : Around} {E : Value → Shared → Prop} {s : Shared}
theorem collect_tup {l : Addr} {vs : List Value} {Q : List Value → Shared → Prop} (hl : s.heap.IsTuple l vs.toArray)
    (h : Q vs { s with heap := (s.heap.push (seqObj "list" #[] 0)).update s.heap.objs.size (Obj.mapSeq (· ++ vs.toArray)) }) (hsz : vs.length ≤ sizeLine) :
    wpAny (model prog w) A (collect (.ref l)) Q E s := by
  obtain ⟨o, ho, hc, n, hd⟩ := id hl
  unfold collect
  refine wpAny_bind (wpAny_runValue (codeAny_builtin entry_proto_collect' ?_))
  show wpAny _ _ (do again (.builtin "list.__iadd__" ⟨[← newList [], .ref l], []⟩)) _ _ s
  refine wpAny_bind (wpAny_newList (wpAny_pure ⟨Code.quiet_builtin _ (by decide +kernel), codeAny_builtin entry_list_iadd' ?_⟩))
  show wpAny _ _ (Builtin.List.listExtendWith (.ref s.heap.objs.size) (.ref l) (.ref s.heap.objs.size)) _ _ { s with heap := s.heap.push (seqObj "list" #[] 0) }
  unfold Builtin.List.listExtendWith
  have ho' : (s.heap.push (seqObj "list" #[] 0)).get? l = some o := Heap.get?_push_of_some _ ho
  refine wpAny_bind (wpAny_typeOf (T := "tuple") ⟨o, ho', hc⟩ ?_)
  have ht : (Value.type "tuple" == Value.type "tuple") = true := by rfl
  rw [if_pos (by rw [ht]; simp)]
  refine wpAny_bind (listItems_at ho' hd ?_)
  refine wpAny_bind (listItems_at (xs := #[]) (n := 0) (Heap.get?_push_size _ rfl) rfl ?_)
  rw [if_neg (by simp)]
  refine wpAny_bind (listUpdate_at (xs := #[]) (n := 0) (Heap.get?_push_size _ rfl) rfl ?_ (Nat.zero_le _) (by show (#[] ++ vs.toArray).size ≤ sizeLine + 1; simp only [Array.size_append, List.size_toArray, List.length_nil]; omega))
  refine wpAny_pure ?_
  show wpAny (model prog w) A (do
      let o ← load s.heap.objs.size
      match o.data with
      | .seq xs _ => pure xs.toList
      | _ => unsupported "internal:collect") Q E { s with heap := (s.heap.push (seqObj "list" #[] 0)).update s.heap.objs.size (Obj.mapSeq (· ++ vs.toArray)) }
  refine wpAny_bind (wpAny_load (get?_update_seq (Heap.get?_push_size _ rfl) _) ?_)
  show wpAny _ _ (pure ((#[] : Array Value) ++ vs.toArray).toList) Q E _
  rw [show ((#[] : Array Value) ++ vs.toArray).toList = vs by simp]
  exact wpAny_pure h
theorem sorted_tup {l : Addr} {vs : List Value} {ltv : Value → Value → Bool} {Q : Value → Shared → Prop} (O : Swo ltv) (hl : s.heap.IsTuple l vs.toArray) (hz : vs.length ≤ sizeLine)
    (hS : 2 ≤ vs.length → ∀ (h₁ : Heap) (a : Addr), SortableO prog w A.in1.in1 { s with heap := h₁ } a vs ltv)
    (h : ∀ out : List Value, Srtd ltv out → Stb ltv out vs → Q (.ref (s.heap.objs.size + 1)) { s with heap := sortedAll s.heap vs out.toArray }) :
    wpAny (model prog w) A (call (.builtin "sorted") [.ref l]) Q E s := by
  refine Calls.call_function_entry kind_sorted plain_sorted entry_sorted (args_sorted1 _) ?_
  unfold Builtin.«sorted»
  refine wpAny_bind (m := checkCount "sorted" 1 1 _) (wpAny_pure ?_)
  refine wpAny_bind (collect_tup hl ?_ hz)
  refine wpAny_bind (wpAny_newList ?_ hz)
  have hsz : ((s.heap.push (seqObj "list" #[] 0)).update s.heap.objs.size (Obj.mapSeq (· ++ vs.toArray))).objs.size = s.heap.objs.size + 1 := by
    rw [Heap.size_update, size_push']
  have hoL : (((s.heap.push (seqObj "list" #[] 0)).update s.heap.objs.size (Obj.mapSeq (· ++ vs.toArray))).push (seqObj "list" vs.toArray 0)).get? (s.heap.objs.size + 1) = some (seqObj "list" vs.toArray 0) := by
    rw [← hsz]; exact Heap.get?_push_size _ rfl
  show wpAny _ _ _ _ _ { s with heap := ((s.heap.push (seqObj "list" #[] 0)).update s.heap.objs.size (Obj.mapSeq (· ++ vs.toArray))).push (seqObj "list" vs.toArray 0) }
  rw [hsz]
  refine wpAny_bind (wpAny_holding (wpAny_call_entry slot_list_sort ⟨_, hoL, rfl⟩ entry_list_sort (list_sort_ord O hoL hz (fun h2 => hS h2 _ _) fun out hs hb => ⟨_, rfl, ?_⟩) (args_list_sort _)))
  exact wpAny_pure ⟨_, rfl, h out hs hb⟩
end
end SoT
namespace My
open PySem PySem.Spec L2 PyProof.Rows
/-- sorted(t), a tuple of ints -/
def rSortedTI (K : PySem.W.Frag) : List V → Hp → VK → Prop := fun vs H Q => ∃ (a : Addr) (ns : List Int), vs = [V.ref a] ∧ SqT K H a (ns.map V.int) ∧
  ∀ (ns' : List Int) (p : Addr), ns'.Perm ns → ns'.Pairwise (· ≤ ·) → H p = none → Q (.ref p) (upd H p (.lst (ns'.map V.int)))
section
variable {X : Cx}
theorem cr_sortedTI : CallR X (.builtin "sorted") (rSortedTI X.K) := by
  intro pins s σ H vs us Q I r h
  obtain ⟨a, ns, rfl, hs, q⟩ := h
  obtain ⟨its, rv, hl, hz⟩ := I.tuple hs
  rw [Vals.ref1 r]
  have hi := rv.ints
  refine SoT.sorted_tup SrtO.swo_int hl (by rw [← rv.length]; exact hz) (fun h2 h₁ a' => SrtO.ints_sortable hi h2) fun out h1 h2 => ?_
  obtain ⟨k1, k2, k3⟩ := SrtO.ints_out hi h1 h2
  obtain ⟨ep, he'⟩ := PyProof.Rows.sortedAll_at s.heap its out.toArray
  have hlen : ((out.map SrtO.iv).map V.int).length ≤ sizeLine := by
    rw [List.length_map, k2.length_eq]
    rw [List.length_map] at hz
    exact hz
  exact ⟨.ref _, upd H (s.heap.objs.size + 1) (.lst ((out.map SrtO.iv).map V.int)), I.laid (t' := s.toks) (fun _ _ => PyProof.Rows.sortedAll_old) (Nat.le_succ _) ⟨hlen, out, ep, vals_of_ints k1, he'⟩, rfl, q _ _ k2 k3 (I.hok.fresh (Nat.le_succ _))⟩
end
end My

set_option Elab.async false
set_option linter.all false
set_option maxRecDepth 100000
set_option maxHeartbeats 2000000
/-! what a search holds -/
namespace My
open PySem PySem.Spec L2 PyProof.Rows
/-- what stays fixed: the heap before it, its places, the parts -/
structure Fx where
  H0 : Hp
  C : Addr
  p : Addr
  dx : Addr
  nd : Addr
  pl : Addr
  rw : Addr
  td : Addr
  es : List (Stm × Addr)
def Fx.n (F : Fx) : Nat := F.es.length
def Fx.P (F : Fx) : St_ := fun x => x ∈ F.es.map (·.1)
def Fx.part (F : Fx) (i : Nat) : Option Stm := F.es[i]?.map (·.1)
def Fx.Γ (F : Fx) (ks : List Nat) : St_ := fun x => ∃ i ∈ ks, F.part i = some x
/-- the parts that the numbers tell -/
def Fx.X (F : Fx) (L : List Nat) : St_ := fun x => ∃ i ∈ L, F.part i = some x
theorem Fx.part_P {F : Fx} {i : Nat} {x : Stm} (h : F.part i = some x) : F.P x := by
  obtain ⟨e, he, rfl⟩ := Option.map_eq_some_iff.mp h
  exact List.mem_map.mpr ⟨e, List.mem_of_getElem? he, rfl⟩
theorem Fx.P_part {F : Fx} {x : Stm} (h : F.P x) : ∃ i, F.part i = some x := by
  obtain ⟨e, he, rfl⟩ := List.mem_map.mp h
  obtain ⟨i, hi⟩ := List.getElem?_of_mem he
  exact ⟨i, by rw [Fx.part, hi]; rfl⟩
theorem Fx.part_lt {F : Fx} {i : Nat} {x : Stm} (h : F.part i = some x) : i < F.n := by
  obtain ⟨e, he, rfl⟩ := Option.map_eq_some_iff.mp h
  exact (List.getElem?_eq_some_iff.mp he).1
theorem Fx.lt_part {F : Fx} {i : Nat} (h : i < F.n) : ∃ x a, F.es[i]? = some (x, a) ∧ F.part i = some x := by
  have : F.es[i]? = some F.es[i] := List.getElem?_eq_getElem h
  exact ⟨F.es[i].1, F.es[i].2, this, by rw [Fx.part, this]; rfl⟩
def pf (n l r t : Addr) : List (Str × V) := putF "theories" (.ref t) (putF "rows" (.ref r) (putF "parts" (.ref l) (putF "numbers" (.ref n) [])))
theorem s_np : ¬ ("numbers" : Str) = "parts" := by decide +kernel
theorem s_nr : ¬ ("numbers" : Str) = "rows" := by decide +kernel
theorem s_nt : ¬ ("numbers" : Str) = "theories" := by decide +kernel
theorem s_pr : ¬ ("parts" : Str) = "rows" := by decide +kernel
theorem s_pt : ¬ ("parts" : Str) = "theories" := by decide +kernel
theorem s_rt : ¬ ("rows" : Str) = "theories" := by decide +kernel
theorem pf_n (n l r t : Addr) : (pf n l r t).lookup ("numbers" : Str) = some (.ref n) := by
  unfold pf
  rw [lookup_putF, if_neg s_nt, lookup_putF, if_neg s_nr, lookup_putF, if_neg s_np, lookup_putF, if_pos rfl]
theorem pf_l (n l r t : Addr) : (pf n l r t).lookup ("parts" : Str) = some (.ref l) := by
  unfold pf
  rw [lookup_putF, if_neg s_pt, lookup_putF, if_neg s_pr, lookup_putF, if_pos rfl]
theorem pf_r (n l r t : Addr) : (pf n l r t).lookup ("rows" : Str) = some (.ref r) := by
  unfold pf
  rw [lookup_putF, if_neg s_rt, lookup_putF, if_pos rfl]
theorem pf_t (n l r t : Addr) : (pf n l r t).lookup ("theories" : Str) = some (.ref t) := by
  unfold pf
  rw [lookup_putF, if_pos rfl]
theorem pf_no (n l r t : Addr) {m : Str} (h1 : ¬ m = "numbers") (h2 : ¬ m = "parts") (h3 : ¬ m = "rows") (h4 : ¬ m = "theories") : (pf n l r t).lookup m = none := by
  unfold pf
  rw [lookup_putF, if_neg h4, lookup_putF, if_neg h3, lookup_putF, if_neg h2, lookup_putF, if_neg h1]
  rfl
def Asc (F : Fx) (ks : List Nat) : Prop := ks.Pairwise (· < ·) ∧ ∀ i ∈ ks, i < F.n
/-- the keys of a dict of numbers -/
def Sh (H : Hp) (s : Addr) (L : List Nat) : Prop := ∃ kvs : List (Key × V), H s = some (.dK kvs) ∧ kvs.map (·.1) = L.map fun (i : Nat) => (Sum.inl (i : Int) : Key)
def Full (F : Fx) (ks L : List Nat) : Prop := ∀ i x, F.part i = some x → (i ∈ L ↔ D F.P (F.Γ ks) x)
def gK (ks : List Nat) : List Key := ks.map fun (i : Nat) => (Sum.inl (i : Int) : Key)
def gV (ks : List Nat) : List V := ks.map fun (i : Nat) => V.int (i : Int)
theorem gV_kV (ks : List Nat) : gV ks = (gK ks).map kV := by
  unfold gV gK
  rw [List.map_map]
  rfl
theorem gK_inj : ∀ {ks js : List Nat}, gK ks = gK js → ks = js
  | [], [], _ => rfl
  | [], _ :: _, h => by simp [gK] at h
  | _ :: _, [], h => by simp [gK] at h
  | k :: ks, j :: js, h => by
    have h2 := List.cons.inj h
    have h3 : (k : Int) = (j : Int) := Sum.inl.inj h2.1
    rw [gK_inj h2.2, show k = j by omega]
structure Th where
  ks : List Nat
  a : Addr
  L : List Nat
/-- a row: four things, the last the numbers of rows ahead of it -/
def RowOk (H : Hp) (j : Nat) (v : V) : Prop := ∃ (t : Addr) (x1 x2 x3 : V) (u : Addr) (us : List Nat), v = .ref t ∧ H t = some (.tup [x1, x2, x3, .ref u]) ∧ H u = some (.tup (gV us)) ∧ us.length ≤ 3 ∧ ∀ i ∈ us, i < j
/-- the values of a dict of numbers: numbers of rows -/
def ShV (H : Hp) (s : Addr) (r : Nat) : Prop := ∀ kvs : List (Key × V), H s = some (.dK kvs) → ∀ p ∈ kvs, ∃ k : Nat, p.2 = .int (k : Int) ∧ k < r
theorem RowOk.upd {H : Hp} {j : Nat} {v : V} {q : Addr} {o : HO} (h : RowOk H j v) (n : ∀ xs, H q ≠ some (.tup xs)) : RowOk (upd H q o) j v := by
  obtain ⟨t, x1, x2, x3, u, us, h1, h2, h3, h4⟩ := h
  refine ⟨t, x1, x2, x3, u, us, h1, ?_, ?_, h4⟩
  · rw [upd_ne (fun e => n _ (e ▸ h2))]; exact h2
  · rw [upd_ne (fun e => n _ (e ▸ h3))]; exact h3
theorem RowOk.same {H H' : Hp} {j : Nat} {v : V} (h : RowOk H j v) (e : Same H H') : RowOk H' j v := by
  obtain ⟨t, x1, x2, x3, u, us, h1, h2, h3, h4⟩ := h
  exact ⟨t, x1, x2, x3, u, us, h1, e _ _ h2, e _ _ h3, h4⟩
theorem ShV.upd {H : Hp} {s q : Addr} {r : Nat} {o : HO} (h : ShV H s r) (n : s ≠ q) : ShV (upd H q o) s r := fun kvs e => h kvs (by rwa [upd_ne n] at e)
theorem ShV.mono {H : Hp} {s : Addr} {r r' : Nat} (h : ShV H s r) (l : r ≤ r') : ShV H s r' := fun kvs e p hp => by
  obtain ⟨k, h1, h2⟩ := h kvs e p hp
  exact ⟨k, h1, by omega⟩
theorem ShV.at {H H' : Hp} {s : Addr} {r : Nat} {kvs : List (Key × V)} (h : ShV H s r) (e : H s = some (.dK kvs)) (e' : H' s = some (.dK kvs)) : ShV H' s r := fun ks k => by
  rw [e'] at k
  cases k
  exact h kvs e
structure FxOk (P : Program) (w : World) (K : PySem.W.Frag) (F : Fx) : Prop where
  hp : F.H0 F.p = none
  hn : F.H0 F.nd = none
  hl : F.H0 F.pl = none
  hr : F.H0 F.rw = none
  ht : F.H0 F.td = none
  plr : F.pl ≠ F.rw
  key : ∀ e ∈ F.es, SL e.1 ∧ DL.Dp K F.H0 (.ref e.2) e.1.enc
  nodup : (F.es.map (·.1)).Nodup
  cl : Cl F.P
  le : F.n ≤ 16
structure St (P : Program) (w : World) (F : Fx) (H : Hp) (T : List Th) (r : Nat) : Prop where
  same : Same F.H0 H
  ins : H F.p = some (.ins F.C F.dx (pf F.nd F.pl F.rw F.td))
  num : H F.nd = some (numO P w F.nd F.es)
  parts : H F.pl = some (.lst (F.es.map fun e => V.ref e.2))
  rows : ∃ rs, H F.rw = some (.lst rs) ∧ rs.length = r
  ths : H F.td = some (.dT (T.map fun t => (gK t.ks, V.ref t.a)))
  sh : ∀ t ∈ T, Sh H t.a t.L ∧ F.H0 t.a = none
  asc : ∀ t ∈ T, Asc F t.ks ∧ Full F t.ks t.L
  nd : (T.map (·.ks)).Nodup
  rok : ∀ rs, H F.rw = some (.lst rs) → ∀ j v, rs[j]? = some v → RowOk H j v
  shv : ∀ t ∈ T, ShV H t.a r
  ln : ∀ t ∈ T, t.L.Nodup ∧ ∀ i ∈ t.L, i < F.n
/-- one set of shown numbers is being made -/
structure Op0 (P : Program) (w : World) (F : Fx) (s g : Addr) (ks : List Nat) (ext : Nat) (H : Hp) (T : List Th) (r : Nat) (L : List Nat) : Prop where
  st : St P w F H T r
  sh : Sh H s L
  s0 : F.H0 s = none
  sT : ∀ t ∈ T, t.a ≠ s
  g : H g = some (.tup (gV ks))
  asc : Asc F ks
  nd : L.Nodup
  lt : ∀ i ∈ L, i < F.n
  snd : ∀ i ∈ L, ∀ x, F.part i = some x → D F.P (F.Γ ks) x
  bd : r ≤ 16 * T.length + ext + L.length
  be : ext ≤ 16 * ks.length
structure Op (P : Program) (w : World) (F : Fx) (s g : Addr) (ks : List Nat) (ext : Nat) (H : Hp) (T : List Th) (r : Nat) (L : List Nat) : Prop extends Op0 P w F s g ks ext H T r L where
  shv : ShV H s r
/-- what a step leaves -/
structure Nx (F : Fx) (X : List Addr) (m : Nat) (H : Hp) (T : List Th) (H' : Hp) (T' : List Th) : Prop where
  fr : ∀ b o, H b = some o → b ≠ F.rw → b ≠ F.td → b ∉ X → H' b = some o
  al : ∀ b, H' b = none → H b = none
  tt : ∀ t ∈ T, t ∈ T'
  nw : ∀ t ∈ T', t ∈ T ∨ (H t.a = none ∧ m ≤ t.ks.length)
  rl : ∀ rs, H F.rw = some (.lst rs) → ∃ rs', H' F.rw = some (.lst rs') ∧ rs.length ≤ rs'.length
theorem Nx.rfl' {F : Fx} {X : List Addr} {m : Nat} {H : Hp} {T : List Th} : Nx F X m H T H T := ⟨fun _ _ h _ _ _ => h, fun _ h => h, fun _ h => h, fun _ h => .inl h, fun rs h => ⟨rs, h, Nat.le_refl _⟩⟩
theorem Nx.le {F : Fx} {X Y : List Addr} {m k : Nat} {H H' : Hp} {T T' : List Th} (h : Nx F X m H T H' T') (hX : ∀ x ∈ X, x ∈ Y) (hk : k ≤ m) : Nx F Y k H T H' T' :=
  ⟨fun b o e h1 h2 h3 => h.fr b o e h1 h2 fun q => h3 (hX b q), h.al, h.tt, fun t ht => (h.nw t ht).imp id fun q => ⟨q.1, Nat.le_trans hk q.2⟩, h.rl⟩
theorem Nx.trans {F : Fx} {X : List Addr} {m : Nat} {H H1 H2 : Hp} {T T1 T2 : List Th} (h : Nx F X m H T H1 T1) (k : Nx F X m H1 T1 H2 T2) : Nx F X m H T H2 T2 :=
  ⟨fun b o e h1 h2 h3 => k.fr b o (h.fr b o e h1 h2 h3) h1 h2 h3, fun b e => h.al b (k.al b e), fun t ht => k.tt t (h.tt t ht), fun t ht => (k.nw t ht).elim (fun q => h.nw t q) fun q => .inr ⟨h.al _ q.1, q.2⟩, fun rs e => by
    obtain ⟨rs1, e1, l1⟩ := h.rl rs e
    obtain ⟨rs2, e2, l2⟩ := k.rl rs1 e1
    exact ⟨rs2, e2, by omega⟩⟩
/-- a new thing -/
theorem Nx.new {F : Fx} {X : List Addr} {m : Nat} {H : Hp} {T : List Th} {q : Addr} {o : HO} (hq : H q = none) : Nx F X m H T (upd H q o) T :=
  ⟨fun b u e _ _ _ => by rw [upd_ne (ne_of_none e hq)]; exact e, fun b e => by
    by_cases c : b = q
    · rw [c, upd_same] at e; cases e
    · rwa [upd_ne c] at e, fun _ h => h, fun _ h => .inl h, fun rs e => ⟨rs, by rw [upd_ne (ne_of_none e hq)]; exact e, Nat.le_refl _⟩⟩
/-- more rows -/
theorem Nx.more {P : Program} {w : World} {F : Fx} {X : List Addr} {m r r' : Nat} {H H' : Hp} {T T' : List Th} (h : Nx F X m H T H' T') (a : St P w F H T r) (b : St P w F H' T' r') : r ≤ r' := by
  obtain ⟨rs, e1, l1⟩ := a.rows
  obtain ⟨rs', e2, l2⟩ := b.rows
  obtain ⟨rs2, e3, l3⟩ := h.rl rs e1
  rw [e2] at e3
  cases e3
  omega
theorem Sh.upd {H : Hp} {s q : Addr} {L : List Nat} {o : HO} (h : Sh H s L) (hn : s ≠ q) : Sh (upd H q o) s L := by
  obtain ⟨kvs, h1, h2⟩ := h
  exact ⟨kvs, by rw [upd_ne hn]; exact h1, h2⟩
theorem Sh.is {H : Hp} {s : Addr} {L : List Nat} (h : Sh H s L) : ∃ kvs, H s = some (.dK kvs) := h.imp fun _ h => h.1
theorem St.new {P : Program} {w : World} {F : Fx} {H : Hp} {T : List Th} {r : Nat} (h : St P w F H T r) {q : Addr} {o : HO} (hq : H q = none) : St P w F (upd H q o) T r where
  same := fun b u e => by rw [upd_ne (ne_of_none (h.same b u e) hq)]; exact h.same b u e
  ins := by rw [upd_ne (ne_of_none h.ins hq)]; exact h.ins
  num := by rw [upd_ne (ne_of_none h.num hq)]; exact h.num
  parts := by rw [upd_ne (ne_of_none h.parts hq)]; exact h.parts
  rows := by
    obtain ⟨rs, h1, h2⟩ := h.rows
    exact ⟨rs, by rw [upd_ne (ne_of_none h1 hq)]; exact h1, h2⟩
  ths := by rw [upd_ne (ne_of_none h.ths hq)]; exact h.ths
  sh := fun t ht => ⟨(h.sh t ht).1.upd (by obtain ⟨_, e⟩ := (h.sh t ht).1.is; exact ne_of_none e hq), (h.sh t ht).2⟩
  asc := h.asc
  nd := h.nd
  rok := fun rs e j v hj => (h.rok rs (by
    obtain ⟨rs1, h1, _⟩ := h.rows
    rwa [upd_ne (ne_of_none h1 hq)] at e) j v hj).upd fun xs e => by rw [hq] at e; cases e
  shv := fun t ht => (h.shv t ht).upd (by obtain ⟨_, e⟩ := (h.sh t ht).1.is; exact ne_of_none e hq)
  ln := h.ln
theorem Op0.new {P : Program} {w : World} {F : Fx} {s g : Addr} {ks : List Nat} {ext : Nat} {H : Hp} {T : List Th} {r : Nat} {L : List Nat} (h : Op0 P w F s g ks ext H T r L) {q : Addr} {o : HO} (hq : H q = none) : Op0 P w F s g ks ext (upd H q o) T r L :=
  { h with
    st := h.st.new hq
    sh := h.sh.upd (by obtain ⟨_, e⟩ := h.sh.is; exact ne_of_none e hq)
    g := by rw [upd_ne (ne_of_none h.g hq)]; exact h.g }
theorem Op.new {P : Program} {w : World} {F : Fx} {s g : Addr} {ks : List Nat} {ext : Nat} {H : Hp} {T : List Th} {r : Nat} {L : List Nat} (h : Op P w F s g ks ext H T r L) {q : Addr} {o : HO} (hq : H q = none) : Op P w F s g ks ext (upd H q o) T r L :=
  ⟨h.toOp0.new hq, h.shv.upd (by obtain ⟨_, e⟩ := h.sh.is; exact ne_of_none e hq)⟩
/-- behind a search from other givens -/
theorem Op.after {P : Program} {w : World} {F : Fx} {s g : Addr} {ks : List Nat} {ext m : Nat} {H H' : Hp} {T T' : List Th} {r r' : Nat} {L : List Nat} (h : Op P w F s g ks ext H T r L) (k : St P w F H' T' r') (n : Nx F [] m H T H' T') (hr : r' ≤ 16 * T'.length + (ext + L.length)) : Op P w F s g ks ext H' T' r' L := by
  obtain ⟨rs, h1, h2⟩ := h.st.rows
  obtain ⟨kvs, h3, h4⟩ := h.sh
  refine { h with st := k, sh := ⟨kvs, n.fr _ _ h3 (ne_of h3 h1 (by intro q; cases q)) (ne_of h3 h.st.ths (by intro q; cases q)) (by simp), h4⟩, sT := fun t ht => ?sT, g := n.fr _ _ h.g (ne_of h.g h1 (by intro q; cases q)) (ne_of h.g h.st.ths (by intro q; cases q)) (by simp), bd := ?ext, shv := (h.shv.at h3 (n.fr _ _ h3 (ne_of h3 h1 (by intro q; cases q)) (ne_of h3 h.st.ths (by intro q; cases q)) (by simp))).mono (n.more h.st k) }
  · rcases n.nw t ht with q | q
    · exact h.sT t q
    · exact (ne_of_none h3 q.1).symm
  · have := h.bd
    omega
/-! what is asked of the numbers -/
theorem len_le : ∀ {α : Type} [DecidableEq α] (ys xs : List α), xs.Nodup → (∀ x ∈ xs, x ∈ ys) → xs.length ≤ ys.length
  | _, _, [], [], _, _ => Nat.le_refl _
  | _, _, [], x :: _, _, h => absurd (h x List.mem_cons_self) (by simp)
  | _, _, y :: ys, xs, hn, h => by
    have h1 : (xs.erase y).Nodup := hn.erase y
    have h2 : ∀ x ∈ xs.erase y, x ∈ ys := fun x hx => by
      have h3 := (List.Nodup.mem_erase_iff hn).mp hx
      exact (List.mem_cons.mp (h x h3.2)).resolve_left h3.1
    have h4 := len_le ys _ h1 h2
    have h5 : xs.length ≤ (xs.erase y).length + 1 := by
      rw [List.length_erase]
      split <;> omega
    simp only [List.length_cons]
    omega
def subs : Nat → List (List Nat)
  | 0 => [[]]
  | n + 1 => subs n ++ (subs n).map (· ++ [n])
theorem subs_len : ∀ n, (subs n).length = 2 ^ n
  | 0 => rfl
  | n + 1 => by
    rw [subs, List.length_append, List.length_map, subs_len n, Nat.pow_succ]
    omega
theorem mem_subs : ∀ (n : Nat) (ks : List Nat), ks.Pairwise (· < ·) → (∀ i ∈ ks, i < n) → ks ∈ subs n
  | 0, ks, _, h => by
    cases ks with
    | nil => simp [subs]
    | cons k _ => exact absurd (h k List.mem_cons_self) (by omega)
  | n + 1, ks, hp, h => by
    rw [subs]
    by_cases hn : n ∈ ks
    · refine List.mem_append_right _ ?_
      have hne : ks ≠ [] := fun e => by rw [e] at hn; cases hn
      have e := (List.dropLast_concat_getLast hne).symm
      generalize ks.dropLast = js at e
      generalize ks.getLast hne = l at e
      subst e
      have hp2 := List.pairwise_append.mp hp
      have hl : l = n := by
        rcases List.mem_append.mp hn with q | q
        · have := hp2.2.2 n q l (by simp)
          have := h l (by simp)
          omega
        · have q2 : n = l := by simpa using q
          exact q2.symm
      subst hl
      exact List.mem_map.mpr ⟨js, mem_subs l js hp2.1 fun i hi => hp2.2.2 i hi l (by simp), rfl⟩
    · refine List.mem_append_left _ (mem_subs n ks hp fun i hi => ?_)
      have := h i hi
      have : i ≠ n := fun e => hn (e ▸ hi)
      omega
theorem St.few {P : Program} {w : World} {K : PySem.W.Frag} {F : Fx} {H : Hp} {T : List Th} {r : Nat} (h : St P w F H T r) (o : FxOk P w K F) : T.length ≤ 65536 := by
  have h1 := len_le (subs F.n) (T.map (·.ks)) h.nd fun ks hk => by
    obtain ⟨t, ht, rfl⟩ := List.mem_map.mp hk
    exact mem_subs _ _ (h.asc t ht).1.1 (h.asc t ht).1.2
  rw [List.length_map, subs_len] at h1
  have : 2 ^ F.n ≤ 2 ^ 16 := Nat.pow_le_pow_right (by decide) o.le
  omega
theorem asc_nodup {F : Fx} {ks : List Nat} (h : Asc F ks) : ks.Nodup := h.1.imp fun h => Nat.ne_of_lt h
theorem few_of {n : Nat} {L : List Nat} (h : L.Nodup) (k : ∀ i ∈ L, i < n) : L.length ≤ n := by
  have := len_le (List.range n) L h fun x hx => List.mem_range.mpr (k x hx)
  rwa [List.length_range] at this
theorem Op0.few {P : Program} {w : World} {K : PySem.W.Frag} {F : Fx} {s g : Addr} {ks : List Nat} {ext : Nat} {H : Hp} {T : List Th} {r : Nat} {L : List Nat} (h : Op0 P w F s g ks ext H T r L) (o : FxOk P w K F) : L.length ≤ 16 ∧ ks.length ≤ 16 ∧ r ≤ 2000000 := by
  have h1 := few_of h.nd h.lt
  have h2 := few_of (asc_nodup h.asc) h.asc.2
  have h3 := h.st.few o
  have h4 := o.le
  have h5 := h.bd
  have h6 := h.be
  omega
theorem valV_mem {κ : Type} [DecidableEq κ] : ∀ (kvs : List (κ × V)) (k : κ), (valV kvs k).isSome = true ↔ k ∈ kvs.map (·.1)
  | [], k => by simp [valV]
  | p :: r, k => by
    by_cases e : p.1 = k
    · rw [valV_pos e]; simp [e]
    · rw [valV_neg e, valV_mem r k]
      simp [Ne.symm e]
theorem sh_mem {L : List Nat} {kvs : List (Key × V)} (h : kvs.map (·.1) = L.map fun (i : Nat) => (Sum.inl (i : Int) : Key)) (i : Nat) : (valV kvs (Sum.inl (i : Int) : Key)).isSome = decide (i ∈ L) := by
  rw [Bool.eq_iff_iff, valV_mem, h, decide_eq_true_eq]
  constructor
  · intro q
    obtain ⟨j, hj, e⟩ := List.mem_map.mp q
    have : (j : Int) = (i : Int) := Sum.inl.inj e
    rwa [show i = j by omega]
  · exact fun q => List.mem_map.mpr ⟨i, q, rfl⟩
theorem sh_val {L : List Nat} {kvs : List (Key × V)} (h : kvs.map (·.1) = L.map fun (i : Nat) => (Sum.inl (i : Int) : Key)) {i : Nat} (hi : i ∈ L) : ∃ v, valV kvs (Sum.inl (i : Int) : Key) = some v := by
  have := sh_mem h i
  rw [decide_eq_true hi] at this
  exact Option.isSome_iff_exists.mp this
theorem sh_put {L : List Nat} {kvs : List (Key × V)} (h : kvs.map (·.1) = L.map fun (i : Nat) => (Sum.inl (i : Int) : Key)) {i : Nat} (hi : i ∉ L) (v : V) : putK kvs (Sum.inl (i : Int) : Key) v = kvs ++ [(Sum.inl (i : Int), v)] := by
  have := sh_mem h i
  rw [decide_eq_false hi] at this
  unfold putK
  rw [valV_any, this]
  rfl
theorem Sh.len {L : List Nat} {kvs : List (Key × V)} (h : kvs.map (·.1) = L.map fun (i : Nat) => (Sum.inl (i : Int) : Key)) : kvs.length = L.length := by
  have := congrArg List.length h
  simpa using this
/-- dict in dict -/
theorem dget_sh {H : Hp} {s : Addr} {L : List Nat} (h : Sh H s L) (i : Nat) : ∃ o, DGet H s (.int (i : Int)) o ∧ o.isSome = decide (i ∈ L) := by
  obtain ⟨kvs, h1, h2⟩ := h
  exact ⟨_, DGet.k (k := Sum.inl (i : Int)) h1, sh_mem h2 i⟩
theorem dget_val {H : Hp} {s : Addr} {L : List Nat} (h : Sh H s L) {i : Nat} (hi : i ∈ L) : ∃ v, DGet H s (.int (i : Int)) (some v) := by
  obtain ⟨kvs, h1, h2⟩ := h
  obtain ⟨v, hv⟩ := sh_val h2 hi
  exact ⟨v, by rw [← hv]; exact DGet.k (k := Sum.inl (i : Int)) h1⟩
/-- a row's number -/
theorem dget_row {H : Hp} {s : Addr} {L : List Nat} {r : Nat} (h : Sh H s L) (v : ShV H s r) {i : Nat} (hi : i ∈ L) : ∃ k : Nat, k < r ∧ DGet H s (.int (i : Int)) (some (.int (k : Int))) := by
  obtain ⟨kvs, h1, h2⟩ := h
  obtain ⟨x, hx⟩ := sh_val h2 hi
  unfold valV at hx
  obtain ⟨p, hp, rfl⟩ := Option.map_eq_some_iff.mp hx
  obtain ⟨k, e, hk⟩ := v kvs h1 p (List.mem_of_find?_eq_some hp)
  refine ⟨k, hk, ?_⟩
  have e2 : valV kvs (Sum.inl (i : Int) : Key) = some (.int (k : Int)) := by
    unfold valV
    rw [hp]
    exact congrArg some e
  rw [← e2]
  exact DGet.k (k := Sum.inl (i : Int)) h1
end My

set_option Elab.async false
set_option linter.all false
set_option maxRecDepth 100000
set_option maxHeartbeats 2000000
/-! the search's methods: what each keeps; add -/
namespace My
open PySem PySem.Spec L2 PyProof.Rows
def topS (i : Nat) : Stmt := PySem.Challenge.pw_showtree_k11_whole_double_denial.main.body.getD i (.Pass ⟨0, 0, 0, 0⟩)
abbrev mInit : Stmt := inClass (topS 9) 0
abbrev mAdd : Stmt := inClass (topS 9) 1
abbrev mWith : Stmt := inClass (topS 9) 2
abbrev mFrom : Stmt := inClass (topS 9) 3
abbrev mGrown : Stmt := inClass (topS 9) 4
abbrev mNums : Stmt := inClass (topS 9) 5
abbrev mTaken : Stmt := inClass (topS 9) 6
abbrev mPut : Stmt := inClass (topS 9) 7
abbrev mCases : Stmt := inClass (topS 9) 8
abbrev mLead : Stmt := inClass (topS 9) 9
structure MethAt (K : PySem.W.Frag) (C : Addr) (m q : Str) (st : Stmt) (ps : List Str) : Prop where
  ex : ∃ f fd, L2.Fun K m q st f fd ∧ Meth K C m f ∧ Binds K fd ps []
structure TxS (K : PySem.W.Frag) (mg : Str → Option Value) (C : Addr) : Prop where
  cl : Cls K C
  nN : NoAttr K C "numbers"
  nP : NoAttr K C "parts"
  nR : NoAttr K C "rows"
  nT : NoAttr K C "theories"
  m_add : MethAt K C "add" "Search.add" mAdd ["self", "shown", "given", "number", "rule", "ups"]
  m_with : MethAt K C "with_one" "Search.with_one" mWith ["self", "given", "number"]
  m_from : MethAt K C "shown_from" "Search.shown_from" mFrom ["self", "given"]
  m_grown : MethAt K C "grown" "Search.grown" mGrown ["self", "shown", "given"]
  m_nums : MethAt K C "numbers_in" "Search.numbers_in" mNums ["self", "number"]
  m_taken : MethAt K C "taken_apart" "Search.taken_apart" mTaken ["self", "shown", "given", "number"]
  m_put : MethAt K C "put_together" "Search.put_together" mPut ["self", "shown", "given", "number"]
  m_cases : MethAt K C "by_cases" "Search.by_cases" mCases ["self", "shown", "given"]
  m_lead : MethAt K C "both_lead" "Search.both_lead" mLead ["self", "shown", "given", "number"]
  z_len : mg "len" = none
  z_list : mg "list" = none
  z_tuple : mg "tuple" = none
  z_range : mg "range" = none
  z_sorted : mg "sorted" = none
section
variable {P : Program} {w : World} {K : PySem.W.Frag} {mg : Str → Option Value} {base : Heap}
def IsFd (K : PySem.W.Frag) (f : Addr) (fd : FuncData) : Prop := ∃ (oc : Value) (od : Option Addr) (osl : Array (Option Value)), K.lookup f = some ⟨oc, od, .func fd, osl⟩
theorem fd_of {x q : Str} {st : Stmt} {f : Addr} {fd : FuncData} (D : L2.Fun K x q st f fd) : IsFd K f fd := by
  obtain ⟨oc, od, kV, doc, pm, an, cdv, ct, osl, _, h, _⟩ := D.ex
  exact ⟨oc, od, osl, h⟩
theorem IsFd.inj {f : Addr} {fd gd : FuncData} (h : IsFd K f fd) (k : IsFd K f gd) : fd = gd := by
  obtain ⟨oc, od, osl, h⟩ := h
  obtain ⟨oc', od', osl', k⟩ := k
  rw [h] at k
  cases k
  rfl
/-- a method with its promise -/
structure Cm (P : Program) (w : World) (K : PySem.W.Frag) (mg : Str → Option Value) (base : Heap) (C : Addr) (m : Str) (k : Nat) (ps : List Str) (sp : Sp) : Prop where
  ex : ∃ f fd, Meth K C m f ∧ FnOk P w K mg base CX0 k f fd ps sp ∧ Binds K fd ps [] ∧ IsFd K f fd
/-- behind add -/
def AddPost (P : Program) (w : World) (F : Fx) (s g : Addr) (ks : List Nat) (ext : Nat) (H : Hp) (T : List Th) (L : List Nat) (i : Nat) (Q : VK) : Prop :=
  ∀ b H' r' L', Op P w F s g ks ext H' T r' L' → Nx F [s] (ks.length + 1) H T H' T → (∀ j ∈ L, j ∈ L') → i ∈ L' → (b = false → L' = L) → (b = true → L.length < L'.length) → L.length ≤ L'.length → Q (.bl b) H'
/-- add(shown, given, number, rule, ups) -/
def spAdd (P : Program) (w : World) (F : Fx) : Sp := fun vs H Q _ => ∃ T r s g ks ext L i x ru u us, vs = [.ref F.p, .ref s, .ref g, .int (i : Nat), .str ru, .ref u] ∧ H u = some (.tup (gV us)) ∧ (us.length ≤ 3 ∧ ∀ k ∈ us, k < r) ∧ Op P w F s g ks ext H T r L ∧ F.part i = some x ∧ D F.P (F.Γ ks) x ∧ AddPost P w F s g ks ext H T L i Q
theorem same_new {H : Hp} {p : Addr} (h : H p = none) (o : HO) : Same H (upd H p o) := fun b u q => by rw [upd_ne (ne_of_none q h)]; exact q
theorem Op0.put {F : Fx} {s g : Addr} {ks : List Nat} {ext : Nat} {H : Hp} {T : List Th} {r : Nat} {L : List Nat} (h : Op0 P w F s g ks ext H T r L) {i : Nat} (hi : i < F.n) (hL : i ∉ L) (hd : ∀ x, F.part i = some x → D F.P (F.Γ ks) x) {kvs : List (Key × V)} (hk : kvs.map (·.1) = (L ++ [i]).map fun (i : Nat) => (Sum.inl (i : Int) : Key)) :
    Op0 P w F s g ks ext (upd H s (.dK kvs)) T r (L ++ [i]) := by
  obtain ⟨rs, h1, h2⟩ := h.st.rows
  obtain ⟨ks0, h3, h4⟩ := h.sh
  have nf : ∀ {b o}, H b = some o → (∀ z, o ≠ .dK z) → b ≠ s := fun e n => ne_of e h3 (n _)
  refine { h with
    st := { h.st with
      same := fun b u e => by rw [upd_ne (ne_of_none e h.s0)]; exact h.st.same b u e
      ins := by rw [upd_ne (nf h.st.ins (fun z q => by cases q))]; exact h.st.ins
      num := by rw [upd_ne (nf h.st.num (fun z q => by cases q))]; exact h.st.num
      parts := by rw [upd_ne (nf h.st.parts (fun z q => by cases q))]; exact h.st.parts
      rows := ⟨rs, by rw [upd_ne (nf h1 (fun z q => by cases q))]; exact h1, h2⟩
      ths := by rw [upd_ne (nf h.st.ths (fun z q => by cases q))]; exact h.st.ths
      sh := fun t ht => ⟨(h.st.sh t ht).1.upd (h.sT t ht), (h.st.sh t ht).2⟩
      rok := fun rs' e j v hj => (h.st.rok rs' (by rwa [upd_ne (nf h1 (fun z q => by cases q))] at e) j v hj).upd fun xs e => by rw [h3] at e; cases e
      shv := fun t ht => (h.st.shv t ht).upd (h.sT t ht) }
    sh := ⟨kvs, upd_same, hk⟩
    g := by rw [upd_ne (nf h.g (fun z q => by cases q))]; exact h.g
    nd := ?nd
    lt := fun j hj => (List.mem_append.mp hj).elim (h.lt j) fun q => by rw [List.mem_singleton.mp q]; exact hi
    snd := fun j hj => (List.mem_append.mp hj).elim (h.snd j) fun q => by rw [List.mem_singleton.mp q]; exact hd
    bd := ?bd }
  · refine List.nodup_append.mpr ⟨h.nd, by simp, fun a ha b hb => ?_⟩
    rw [List.mem_singleton.mp hb]
    exact fun e => hL (e ▸ ha)
  · have := h.bd
    rw [List.length_append]
    omega
theorem Op0.row {F : Fx} {s g : Addr} {ks : List Nat} {ext : Nat} {H : Hp} {T : List Th} {r : Nat} {L : List Nat} (h : Op0 P w F s g ks ext H T r L) (o : FxOk P w K F) {rs : List V} (hr : rs.length = r + 1) (hb : r + 1 ≤ 16 * T.length + ext + L.length) (hrow : ∀ j v, rs[j]? = some v → RowOk H j v) :
    Op0 P w F s g ks ext (upd H F.rw (.lst rs)) T (r + 1) L := by
  obtain ⟨rs0, h1, h2⟩ := h.st.rows
  have nf : ∀ {b o}, H b = some o → (∀ z, o ≠ .lst z) → b ≠ F.rw := fun e n => ne_of e h1 (n _)
  have sn : ∀ {a : Addr} {M : List Nat}, Sh H a M → a ≠ F.rw := fun q => by
    obtain ⟨_, e⟩ := q.is
    exact nf e (fun z q => by cases q)
  exact { h with
    st := { h.st with
      same := fun b u e => by rw [upd_ne (ne_of_none e o.hr)]; exact h.st.same b u e
      ins := by rw [upd_ne (nf h.st.ins (fun z q => by cases q))]; exact h.st.ins
      num := by rw [upd_ne (nf h.st.num (fun z q => by cases q))]; exact h.st.num
      parts := by rw [upd_ne o.plr]; exact h.st.parts
      rows := ⟨rs, upd_same, hr⟩
      ths := by rw [upd_ne (nf h.st.ths (fun z q => by cases q))]; exact h.st.ths
      sh := fun t ht => ⟨(h.st.sh t ht).1.upd (sn (h.st.sh t ht).1), (h.st.sh t ht).2⟩
      rok := fun rs' e j v hj => by
        rw [upd_same] at e
        cases e
        exact (hrow j v hj).upd fun xs e => by rw [h1] at e; cases e
      shv := fun t ht => ((h.st.shv t ht).upd (sn (h.st.sh t ht).1)).mono (Nat.le_succ _) }
    sh := h.sh.upd (sn h.sh)
    g := by rw [upd_ne (nf h.g (fun z q => by cases q))]; exact h.g
    bd := hb }
theorem Nx.put {F : Fx} {s : Addr} {X : List Addr} {m : Nat} {H : Hp} {T : List Th} {o u : HO} (h : H s = some u) (hs : s ∈ X ∨ s = F.rw) (hl : ∀ rs, H F.rw = some (.lst rs) → ∃ rs', upd H s o F.rw = some (.lst rs') ∧ rs.length ≤ rs'.length) : Nx F X m H T (upd H s o) T :=
  ⟨fun b u e h1 _ h3 => by
    have : b ≠ s := fun q => hs.elim (fun z => h3 (q ▸ z)) fun z => h1 (q.trans z)
    rw [upd_ne this]; exact e, fun b e => by
    by_cases c : b = s
    · rw [c, upd_same] at e; cases e
    · rwa [upd_ne c] at e, fun _ h => h, fun _ h => .inl h, hl⟩
theorem sc_add : FnScope ["self", "shown", "given", "number", "rule", "ups", "k"] ["self", "shown", "given", "number", "rule", "ups"] (defScope mAdd) := ⟨rfl, rfl, rfl, by decide +kernel, rfl, by decide +kernel, by decide +kernel⟩
theorem part_get {F : Fx} {i : Nat} (h : i < F.n) : ∃ a, (F.es.map fun e => V.ref e.2)[i]? = some (.ref a) := by
  obtain ⟨x, a, h1, _⟩ := Fx.lt_part h
  exact ⟨a, by rw [List.getElem?_map, h1]; rfl⟩
theorem gV_at {ks : List Nat} {j : Nat} {y : V} (h : (gV ks)[j]? = some y) : ∃ m, m ∈ ks ∧ y = .int (m : Int) := by
  rw [gV, List.getElem?_map] at h
  obtain ⟨m, hm, rfl⟩ := Option.map_eq_some_iff.mp h
  exact ⟨m, List.mem_of_getElem? hm, rfl⟩
theorem ok_add {F : Fx} (T : TxS K mg F.C) (o : FxOk P w K F) : Cm P w K mg base F.C "add" 1 ["self", "shown", "given", "number", "rule", "ups"] (spAdd P w F) := by
  obtain ⟨f, fd, D, hm, hb⟩ := T.m_add.ex
  refine ⟨f, fd, hm, ?_, hb, fd_of D⟩
  have sc := sc_add
  refine D.ok sc (fun vs H Q E h => ?_) (fun cdv A outer s0 H vs Q E hr h => ?_)
  · obtain ⟨_, _, _, _, _, _, _, _, _, _, _, _, rfl, _⟩ := h
    rfl
  obtain ⟨Ts, r, s, g, ks, ext, L, i, x, ru, u, us, rfl, hu0, hus, O, hx, hD, q0⟩ := h
  have q1 : i ∈ L → Q (.bl false) H := fun m => q0 false H r L O Nx.rfl' (fun _ h => h) m (fun _ => rfl) (fun e => (nomatch e)) (Nat.le_refl _)
  have q2 : i ∉ L → ∀ H' r', Op P w F s g ks ext H' Ts r' (L ++ [i]) → Nx F [s] (ks.length + 1) H Ts H' Ts → Q (.bl true) H' := fun _ H' r' O' N' => q0 true H' r' (L ++ [i]) O' N' (fun _ h => List.mem_append_left _ h) (by simp) (fun e => (nomatch e)) (fun _ => by rw [List.length_append, List.length_singleton]; omega) (by rw [List.length_append]; omega)
  have hu := hu_of hr
  refine ⟨_, pss_cons (ps_if (pt_cmp (pc_din hu (pv 3) (pv 1))) (pss_one (ps_ret pe_bl)) pss_nil)
    (pss_cons (ps_dput hu (pv 1) (pv 3) (pe_callB call_len_seq (by rfl) T.z_len PySem.boot_len (pa_cons (pe_fld (pv 0) rfl) pa_nil)) rfl)
    (pss_cons (ps_expr (pe_bm PySem.F.plainAttrs_list PySem.F.slot_list_append PySem.F.type_list_append mt_append (pe_fld (pv 0) rfl)
      (pa_cons (pe_tup (pa_cons (pe_tupleOf rfl T.z_tuple (pe_lc (own := [("k", 6)]) (g := gName 6) (tt := tYes) (te := tOp (rIxL K) (tFld K (tVar 0) "parts") (tVar 6)) rfl sc.nd (pi_tup (pv 2)) (blkOk_by (N := ["self", "shown", "given", "number", "rule", "ups", "k"]) (sc := defScope mAdd) (by decide +kernel)) (fun _ _ _ _ _ => pg_name (i := 6) sc.nd rfl (Or.inl rfl)) (fun _ _ _ _ _ => pts_nil) (fun _ _ _ _ _ => by exact pe_ix ix_list (pe_fld (pv 0) rfl) (pv 6) (fun _ _ => rfl))))
        (pa_cons (pe_ix ix_list (pe_fld (pv 0) rfl) (pv 3) (fun _ _ => rfl)) (pa_cons (pv 4) (pa_cons (pv 5) pa_nil))))) pa_nil)))
    (pss_one (ps_ret pe_bl)))), ?_⟩
  obtain ⟨od, hd, ho⟩ := dget_sh O.sh i
  refine ⟨_, rfl, _, rfl, s, od, rfl, hd, ?_⟩
  rw [ho]
  refine ⟨_, rfl, ite2 (fun c => ?_) (fun c => ?_)⟩
  · exact q1 (of_decide_eq_true c)
  have hL : i ∉ L := of_decide_eq_false (Bool.eq_false_iff.mpr c)
  have hi := Fx.part_lt hx
  obtain ⟨rs, hrs, hrl⟩ := O.st.rows
  obtain ⟨kvs, hs, hk⟩ := O.sh
  obtain ⟨f1, f2, f3⟩ := O.few o
  have hkl := Sh.len hk
  refine ⟨_, rfl, F.p, F.C, F.dx, _, _, rfl, O.st.ins, T.cl, T.nR, pf_r _ _ _ _, F.rw, _, rfl, .inl (SqL.of hrs), _, rfl, _, rfl, s, _, rfl, DPut.k (k := Sum.inl (i : Int)) hs (by rw [hkl, sizeLine_eq]; omega), ?_⟩
  rw [sh_put hk hL]
  have O1 := O.toOp0.put (kvs := kvs ++ [(Sum.inl (i : Int), .int rs.length)]) hi hL (fun y hy => by rw [hx] at hy; cases hy; exact hD) (by rw [List.map_append, List.map_append, hk]; rfl)
  have N1 : Nx F [s] (ks.length + 1) H Ts _ Ts := Nx.put (o := .dK (kvs ++ [(Sum.inl (i : Int), .int rs.length)])) hs (.inl (by simp)) fun rs' e => ⟨rs', by rw [upd_ne (ne_of e hs (by intro q; cases q))]; exact e, Nat.le_refl _⟩
  have hs1 : upd H s (.dK (kvs ++ [(Sum.inl (i : Int), .int rs.length)])) s = some (.dK (kvs ++ [(Sum.inl (i : Int), .int rs.length)])) := upd_same
  have hu1 : upd H s (.dK (kvs ++ [(Sum.inl (i : Int), .int rs.length)])) u = some (.tup (gV us)) := by rw [upd_ne (ne_of hu0 hs (by intro q; cases q))]; exact hu0
  generalize hH1 : upd H s (.dK (kvs ++ [(Sum.inl (i : Int), .int rs.length)])) = H1 at O1 N1 hs1 hu1 ⊢
  obtain ⟨rs1, hrs1, hrl1⟩ := O1.st.rows
  refine ⟨_, rfl, F.p, F.C, F.dx, _, _, rfl, O1.st.ins, T.cl, T.nR, pf_r _ _ _ _, .inl ⟨rfl, _, SqL.of hrs1⟩, _, rfl, g, rfl, ⟨_, SqT.of O1.g⟩, fun D hD => lc_tup (K := K) (xs := gV ks) (fun j H' => ∃ acc : List V, H' = upd H1 D (.lst acc) ∧ acc.length = j) ⟨[], rfl, rfl⟩ ?_ ?_ ?_⟩
  · rintro j H' _ ⟨acc, rfl, _⟩
    exact SqT.of ((O1.new hD).g)
  · rintro j y H' hj ⟨acc, rfl, ha⟩
    have O2 := O1.new (o := .lst acc) hD
    obtain ⟨m, hm, rfl⟩ := gV_at hj
    obtain ⟨a, ha2⟩ := part_get (O1.asc.2 m hm)
    refine ⟨rfl, ?_⟩
    refine ⟨_, rfl, F.p, F.C, F.dx, _, _, rfl, O2.st.ins, T.cl, T.nP, pf_l _ _ _ _, _, rfl, F.pl, _, _, _, rfl, rfl, SqL.of O2.st.parts, atI_nat ha2, acc, upd_same, ?_, _, upd_upd, ?_⟩
    · have := (List.getElem?_eq_some_iff.mp hj).1
      rw [gV, List.length_map] at this
      rw [sizeLine_eq]; omega
    · simp [ha]
  rintro H' ⟨acc, rfl, ha⟩
  rw [gV, List.length_map] at ha
  have O2 := O1.new (o := .lst acc) hD
  have N2 : Nx F [s] (ks.length + 1) H Ts _ Ts := N1.trans (Nx.new (o := .lst acc) hD)
  refine .inl ⟨D, acc, rfl, SqL.of upd_same, fun q hq => ?_⟩
  have hs2 := same_new hD (.lst acc) _ _ hs1
  have hu2 := same_new hD (.lst acc) _ _ hu1
  generalize hH2 : upd H1 D (.lst acc) = H2 at O2 N2 hq hs2 hu2 ⊢
  have O3 := O2.new (o := .tup acc) hq
  have N3 := N2.trans (Nx.new (o := .tup acc) hq)
  have hs3 := same_new hq (.tup acc) _ _ hs2
  have hu3 := same_new hq (.tup acc) _ _ hu2
  generalize hH3 : upd H2 q (.tup acc) = H3 at O3 N3 hs3 hu3 ⊢
  obtain ⟨a, ha2⟩ := part_get hi
  refine ⟨_, rfl, F.p, F.C, F.dx, _, _, rfl, O3.st.ins, T.cl, T.nP, pf_l _ _ _ _, _, rfl, F.pl, _, _, _, rfl, rfl, SqL.of O3.st.parts, atI_nat ha2, _, rfl, _, rfl, (by show 4 ≤ sizeLine; decide), fun t ht => ?_⟩
  have O4 := O3.new (o := .tup [.ref q, .ref a, .str ru, .ref u]) ht
  have N4 := N3.trans (Nx.new (o := .tup [.ref q, .ref a, .str ru, .ref u]) ht)
  obtain ⟨rs4, hrs4, hrl4⟩ := O4.st.rows
  refine ⟨F.rw, rs4, _, rfl, rfl, hrs4, by rw [hrl4, sizeLine_eq]; omega, ?_⟩
  have hs4 := same_new ht (.tup [.ref q, .ref a, .str ru, .ref u]) _ _ hs3
  have hu4 := same_new ht (.tup [.ref q, .ref a, .str ru, .ref u]) _ _ hu3
  have ht4 : upd H3 t (.tup [.ref q, .ref a, .str ru, .ref u]) t = some (.tup [.ref q, .ref a, .str ru, .ref u]) := upd_same
  generalize upd H3 t (.tup [.ref q, .ref a, .str ru, .ref u]) = H4 at O4 N4 hrs4 hs4 hu4 ht4 ⊢
  have hb : r + 1 ≤ 16 * Ts.length + ext + (L ++ [i]).length := by
    have := O.bd
    rw [List.length_append, List.length_singleton]
    omega
  have O5 := O4.row o (rs := rs4 ++ [.ref t]) (by rw [List.length_append, hrl4]; rfl) hb fun j v hj => by
    by_cases c : j < rs4.length
    · rw [List.getElem?_append_left c] at hj
      exact O4.st.rok rs4 hrs4 j v hj
    · rw [List.getElem?_append_right (by omega)] at hj
      have hlt := (List.getElem?_eq_some_iff.mp hj).1
      simp at hlt
      have e0 : j - rs4.length = 0 := by omega
      rw [e0] at hj
      cases hj
      exact ⟨t, _, _, _, u, us, rfl, ht4, hu4, hus.1, fun k hk => by have := hus.2 k hk; omega⟩
  refine q2 hL _ (r + 1) ⟨O5, ?_⟩ (N4.trans (Nx.put hrs4 (.inr rfl) fun rs' e => ⟨_, upd_same, ?_⟩))
  · have hs5 : upd H4 F.rw (.lst (rs4 ++ [.ref t])) s = some (.dK (kvs ++ [(Sum.inl (i : Int), .int rs.length)])) := by rw [upd_ne (ne_of hs4 hrs4 (by intro q; cases q))]; exact hs4
    intro ks' e p hp
    rw [hs5] at e
    cases e
    rcases List.mem_append.mp hp with h | h
    · obtain ⟨k, e1, e2⟩ := O.shv kvs hs p h
      exact ⟨k, e1, by omega⟩
    · rw [List.mem_singleton.mp h]
      exact ⟨rs.length, rfl, by omega⟩
  · rw [hrs4] at e
    cases e
    rw [List.length_append]
    omega
end
end My

set_option Elab.async false
set_option linter.all false
set_option maxRecDepth 100000
set_option maxHeartbeats 2000000
/-! with_one, numbers_in -/
namespace My
open PySem PySem.Spec L2 PyProof.Rows
section
variable {P : Program} {w : World} {K : PySem.W.Frag} {mg : Str → Option Value} {base : Heap}
theorem St.same' {F : Fx} {H H' : Hp} {T : List Th} {r : Nat} (h : St P w F H T r) (e : Same H H') : St P w F H' T r where
  same := fun b u q => e _ _ (h.same b u q)
  ins := e _ _ h.ins
  num := e _ _ h.num
  parts := e _ _ h.parts
  rows := by
    obtain ⟨rs, h1, h2⟩ := h.rows
    exact ⟨rs, e _ _ h1, h2⟩
  ths := e _ _ h.ths
  sh := fun t ht => by
    obtain ⟨⟨kvs, h1, h2⟩, h3⟩ := h.sh t ht
    exact ⟨⟨kvs, e _ _ h1, h2⟩, h3⟩
  asc := h.asc
  nd := h.nd
  rok := fun rs q j v hj => by
    obtain ⟨rs1, h1, _⟩ := h.rows
    rw [e _ _ h1] at q
    cases q
    exact (h.rok _ h1 j v hj).same e
  shv := fun t ht => by
    obtain ⟨⟨kvs, h1, h2⟩, h3⟩ := h.sh t ht
    exact (h.shv t ht).at h1 (e _ _ h1)
  ln := h.ln
theorem Op.same' {F : Fx} {s g : Addr} {ks : List Nat} {ext : Nat} {H H' : Hp} {T : List Th} {r : Nat} {L : List Nat} (h : Op P w F s g ks ext H T r L) (e : Same H H') : Op P w F s g ks ext H' T r L :=
  { h with
    st := h.st.same' e
    sh := by
      obtain ⟨kvs, h1, h2⟩ := h.sh
      exact ⟨kvs, e _ _ h1, h2⟩
    g := e _ _ h.g
    shv := by
      obtain ⟨kvs, h1, h2⟩ := h.sh
      exact h.shv.at h1 (e _ _ h1) }
theorem Nx.same' {F : Fx} {X : List Addr} {m : Nat} {H H' : Hp} {T : List Th} (e : Same H H') : Nx F X m H T H' T :=
  ⟨fun b o h _ _ _ => e _ _ h, fun b h => by
    cases q : H b with
    | none => rfl
    | some o => (rw [e _ _ q] at h; cases h), fun _ h => h, fun _ h => .inl h, fun rs h => ⟨rs, e _ _ h, Nat.le_refl _⟩⟩
/-- the given ones and one more -/
def spWith (F : Fx) : Sp := fun vs H Q _ => ∃ ks g i dx fs, vs = [.ref F.p, .ref g, .int (i : Nat)] ∧ H g = some (.tup (gV ks)) ∧ Asc F ks ∧ ks.length ≤ 100 ∧ i < F.n ∧ i ∉ ks ∧ H F.p = some (.ins F.C dx fs) ∧
  ∀ H' q js, Same H H' → H' q = some (.tup (gV js)) → Asc F js → js.length = ks.length + 1 → (∀ j, j ∈ js ↔ j ∈ ks ∨ j = i) → Q (.ref q) H'
theorem sc_with : FnScope ["self", "given", "number"] ["self", "given", "number"] (defScope mWith) := ⟨rfl, rfl, rfl, by decide +kernel, rfl, by decide +kernel, by decide +kernel⟩
theorem nat_of {js : List Nat} {ns : List Int} (h : ns.Perm (js.map fun (j : Nat) => (j : Int))) : ∃ is : List Nat, ns = is.map (fun (j : Nat) => (j : Int)) ∧ is.Perm js := by
  have e : (ns.map Int.toNat).map (fun (j : Nat) => (j : Int)) = ns := by
    rw [List.map_map]
    have : ∀ x ∈ ns, ((fun (j : Nat) => (j : Int)) ∘ Int.toNat) x = x := fun x hx => by
      obtain ⟨j, _, rfl⟩ := List.mem_map.mp (h.mem_iff.mp hx)
      rfl
    exact (List.map_congr_left this).trans (List.map_id _)
  refine ⟨ns.map Int.toNat, e.symm, ?_⟩
  have := h.map Int.toNat
  rw [List.map_map] at this
  have e2 : (js.map (Int.toNat ∘ fun (j : Nat) => (j : Int))) = js := by
    have : ∀ x ∈ js, (Int.toNat ∘ fun (j : Nat) => (j : Int)) x = x := fun x _ => rfl
    exact (List.map_congr_left this).trans (List.map_id _)
  rwa [e2] at this
theorem gV_map (ks : List Nat) : gV ks = (ks.map fun (j : Nat) => (j : Int)).map V.int := by
  rw [gV, List.map_map]; rfl
theorem ok_with {F : Fx} (T : TxS K mg F.C) : Cm P w K mg base F.C "with_one" 1 ["self", "given", "number"] (spWith F) := by
  obtain ⟨f, fd, D, hm, hb⟩ := T.m_with.ex
  refine ⟨f, fd, hm, ?_, hb, fd_of D⟩
  have sc := sc_with
  refine D.ok sc (fun vs H Q E h => ?_) (fun cdv A outer s0 H vs Q E hr h => ?_)
  · obtain ⟨_, _, _, _, _, rfl, _⟩ := h
    rfl
  obtain ⟨ks, g, i, dx, fs, rfl, hg, hA, hl, hi, hn, _, q⟩ := h
  have fin : ∀ t' H2, Same H H2 → SqT K H2 t' (((ks ++ [i]).map fun (j : Nat) => (j : Int)).map V.int) → rSortedTI K [V.ref t'] H2 (fun x H1 => kTup K x H1 Q) := fun t' H2 S h2 => by
    refine ⟨t', _, rfl, h2, fun ns' p hp hs hn2 => ?_⟩
    obtain ⟨js, rfl, hj⟩ := nat_of hp
    refine .inl ⟨p, _, rfl, SqL.of upd_same, fun q' hq => ?_⟩
    have hm : ∀ j, j ∈ js ↔ j ∈ ks ∨ j = i := fun j => by rw [hj.mem_iff]; simp
    have hnd : js.Nodup := hj.nodup_iff.mpr (List.nodup_append.mpr ⟨asc_nodup hA, by simp, fun a ha b hb => by rw [List.mem_singleton.mp hb]; exact fun e => hn (e ▸ ha)⟩)
    refine q _ q' js (S.trans ((same_new hn2 _).trans (same_new hq _))) (by rw [upd_same, gV_map]) ⟨?_, fun j h => ((hm j).mp h).elim (hA.2 j) fun e => e ▸ hi⟩ (by rw [hj.length_eq]; simp) hm
    have h1 := List.pairwise_map.mp hs
    exact (h1.and hnd).imp fun h => by omega
  refine ⟨_, pss_one (ps_ret (pe_tupleOf rfl T.z_tuple (pe_callB cr_sortedTI (by rfl) T.z_sorted (by rfl) (pa_cons (pe_op op_catA (pv 1) (pe_tup (pa_cons (pv 2) pa_nil))) pa_nil)))), ?_⟩
  refine ⟨_, rfl, _, rfl, (by show 1 ≤ sizeLine; decide), fun t ht => ?_⟩
  have S1 := same_new ht (.tup [.int (i : Nat)])
  refine ⟨g, t, gV ks, [.int (i : Nat)], rfl, rfl, SqT.of (S1 _ _ hg), SqT.of upd_same, ?_, fun e => ?_, fun _ e => absurd e (by simp), fun e _ p hp => ?_⟩
  · rw [gV, List.length_map, sizeLine_eq, List.length_singleton]; omega
  · have : ks = [] := by simpa [gV] using e
    subst this
    exact fin t _ S1 (SqT.of upd_same)
  · refine fin p _ (S1.trans (same_new hp _)) (SqT.of ?_)
    rw [upd_same, gV_map, List.map_append, List.map_append]
    rfl
end
end My

set_option Elab.async false
set_option linter.all false
set_option maxRecDepth 100000
set_option maxHeartbeats 2000000
/-! numbers_in -/
namespace My
open PySem PySem.Spec L2 PyProof.Rows
def Stm.word : Stm → Str
  | .nm _ => "name"
  | .fl => "false"
  | .bin o _ _ => o.word
section
variable {P : Program} {w : World} {K : PySem.W.Frag} {mg : Str → Option Value} {base : Heap}
theorem dp_word {H : Hp} {v : V} {x : Stm} (h : DL.Dp K H v x.enc) : ∃ t xs, v = .ref t ∧ SqT K H t xs ∧ atI xs 0 = some (.str x.word) := by
  cases x with
  | nm z =>
    cases h with
    | tup h1 h2 =>
      cases h2 with
      | cons h3 h4 => cases h3; exact ⟨_, _, rfl, h1, atI_nat (j := 0) rfl⟩
  | fl =>
    cases h with
    | tup h1 h2 =>
      cases h2 with
      | cons h3 h4 => cases h3; exact ⟨_, _, rfl, h1, atI_nat (j := 0) rfl⟩
  | bin o a b =>
    cases h with
    | tup h1 h2 =>
      cases h2 with
      | cons h3 h4 => cases h3; exact ⟨_, _, rfl, h1, atI_nat (j := 0) rfl⟩
theorem dp_ref {H : Hp} {v : V} {x : Stm} (h : DL.Dp K H v x.enc) : ∃ t, v = .ref t := (dp_word h).imp fun _ h => h.elim fun _ h => h.1
theorem dp_bin {H : Hp} {v : V} {o : W3} {a b : Stm} (h : DL.Dp K H v (Stm.bin o a b).enc) : ∃ t ta tb, v = .ref t ∧ SqT K H t [.str o.word, .ref ta, .ref tb] ∧ DL.Dp K H (.ref ta) a.enc ∧ DL.Dp K H (.ref tb) b.enc := by
  cases h with
  | tup h1 h2 =>
    cases h2 with
    | cons h3 h4 =>
      cases h3
      cases h4 with
      | cons h5 h6 =>
        cases h6 with
        | cons h7 h8 =>
          cases h8
          obtain ⟨ta, rfl⟩ := dp_ref h5
          obtain ⟨tb, rfl⟩ := dp_ref h7
          exact ⟨_, ta, tb, rfl, h1, h5, h7⟩
theorem St.numAt {F : Fx} {H : Hp} {T : List Th} {r : Nat} (h : St P w F H T r) (o : FxOk P w K F) : NumAt P w K H F.nd F.es := ⟨h.num, fun e he => ⟨(o.key e he).1, DL.dp_mono h.same _ _ (o.key e he).2⟩⟩
theorem St.part {F : Fx} {H : Hp} {T : List Th} {r : Nat} (h : St P w F H T r) (o : FxOk P w K F) {i : Nat} {x : Stm} (hx : F.part i = some x) : ∃ a, F.es[i]? = some (x, a) ∧ (F.es.map fun e => V.ref e.2)[i]? = some (.ref a) ∧ SL x ∧ DL.Dp K H (.ref a) x.enc := by
  obtain ⟨e, he, rfl⟩ := Option.map_eq_some_iff.mp hx
  have hm := List.mem_of_getElem? he
  exact ⟨e.2, he, by rw [List.getElem?_map, he]; rfl, (o.key e hm).1, DL.dp_mono h.same _ _ (o.key e hm).2⟩
theorem part_inj {F : Fx} (o : FxOk P w K F) {i j : Nat} {x : Stm} (hi : F.part i = some x) (hj : F.part j = some x) : i = j := by
  obtain ⟨e, he, rfl⟩ := Option.map_eq_some_iff.mp hi
  obtain ⟨e', he', h'⟩ := Option.map_eq_some_iff.mp hj
  obtain ⟨h1, h2⟩ := List.getElem?_eq_some_iff.mp he
  obtain ⟨h3, h4⟩ := List.getElem?_eq_some_iff.mp he'
  have h5 : (F.es.map (·.1))[i]'(by simpa using h1) = (F.es.map (·.1))[j]'(by simpa using h3) := by
    rw [List.getElem_map, List.getElem_map, h2, h4, h']
  exact (List.getElem_inj o.nodup).mp h5
/-- the numbers of the two parts of a part -/
def spNums (P : Program) (w : World) (F : Fx) : Sp := fun vs H Q _ => ∃ T r i z a b ia ib, vs = [.ref F.p, .int (i : Nat)] ∧ St P w F H T r ∧ F.part i = some (.bin z a b) ∧ F.part ia = some a ∧ F.part ib = some b ∧
  ∀ q, H q = none → Q (.ref q) (upd H q (.tup [.int (ia : Nat), .int (ib : Nat)]))
theorem sc_nums : FnScope ["self", "number", "part"] ["self", "number"] (defScope mNums) := ⟨rfl, rfl, rfl, by decide +kernel, rfl, by decide +kernel, by decide +kernel⟩
theorem units9 {k : Nat} {A : Around} (hr : Room k A) : A.units + 9 < cLine := Nat.lt_of_le_of_lt (Nat.add_le_add_left (by decide : 9 ≤ 64) _) hr.units
theorem ok_nums {F : Fx} (T : TxS K mg F.C) (o : FxOk P w K F) : Cm P w K mg base F.C "numbers_in" 1 ["self", "number"] (spNums P w F) := by
  obtain ⟨f, fd, D, hm, hb⟩ := T.m_nums.ex
  refine ⟨f, fd, hm, ?_, hb, fd_of D⟩
  have sc := sc_nums
  refine D.ok sc (fun vs H Q E h => ?_) (fun cdv A outer s0 H vs Q E hr h => ?_)
  · obtain ⟨_, _, _, _, _, _, _, _, rfl, _⟩ := h
    rfl
  obtain ⟨Ts, r, i, z, a, b, ia, ib, rfl, S, hi, ha, hb, q⟩ := h
  have hu9 := units9 hr
  refine ⟨_, pss_cons (ps_set (i := 2) sc.nd rfl (Or.inl rfl) (pe_ix ix_list (pe_fld (pv 0) rfl) (pv 1) (fun _ _ => rfl)))
    (pss_one (ps_ret (pe_tup (pa_cons (pe_numGet hu9 (pe_fld (pv 0) rfl) (pe_ix ix_tup (pv 2) pe_int (fun _ _ => rfl)) (fun _ _ => rfl)) (pa_cons (pe_numGet hu9 (pe_fld (pv 0) rfl) (pe_ix ix_tup (pv 2) pe_int (fun _ _ => rfl)) (fun _ _ => rfl)) pa_nil))))), ?_⟩
  obtain ⟨t, h1, h2, h3, h4⟩ := S.part o hi
  obtain ⟨t', ta, tb, e, h5, h6, h7⟩ := dp_bin h4
  cases e
  obtain ⟨da, hA, _, sa, _⟩ := S.part o ha
  obtain ⟨db, hB, _, sb, _⟩ := S.part o hb
  have hN := S.numAt (K := K) o
  refine ⟨_, rfl, F.p, F.C, F.dx, _, _, rfl, S.ins, T.cl, T.nP, pf_l _ _ _ _, _, rfl, F.pl, _, _, _, rfl, rfl, SqL.of S.parts, atI_nat h2, ?_⟩
  refine ⟨_, rfl, F.p, F.C, F.dx, _, _, rfl, S.ins, T.cl, T.nN, pf_n _ _ _ _, _, rfl, t, _, _, _, rfl, rfl, h5, atI_nat (j := 1) rfl, ta, F.nd, a, F.es, ia, da, rfl, rfl, hN, sa, h6, hA, ?_⟩
  refine ⟨_, rfl, F.p, F.C, F.dx, _, _, rfl, S.ins, T.cl, T.nN, pf_n _ _ _ _, _, rfl, t, _, _, _, rfl, rfl, h5, atI_nat (j := 2) rfl, tb, F.nd, b, F.es, ib, db, rfl, rfl, hN, sb, h7, hB, ?_⟩
  exact ⟨by show 2 ≤ sizeLine; decide, fun q' hq => q q' hq⟩
end
end My

set_option Elab.async false
set_option linter.all false
set_option maxRecDepth 100000
set_option maxHeartbeats 2000000
/-! taken_apart -/
namespace My
open PySem PySem.Spec L2 PyProof.Rows
/-- what a step tells: nothing new, and c holds; or more is shown -/
def Post (P : Program) (w : World) (F : Fx) (s g : Addr) (ks : List Nat) (ext : Nat) (H : Hp) (T : List Th) (L : List Nat) (c : Prop) (Q : VK) : Prop :=
  ∀ b H' T' r' L', Op P w F s g ks ext H' T' r' L' → Nx F [s] (ks.length + 1) H T H' T' → (∀ j ∈ L, j ∈ L') → (b = false → L' = L ∧ c) → (b = true → L.length < L'.length) → Q (.bl b) H'
/-- what a part brings is shown -/
def CTA (F : Fx) (L : List Nat) (x : Stm) : Prop := F.X L x → (x = .fl → ∀ a, F.P a → F.X L a) ∧ (∀ a b, x = .bin .an a b → F.X L a ∧ F.X L b) ∧ ∀ a b, x = .bin .th a b → F.X L a → F.X L b
def spTaken (P : Program) (w : World) (F : Fx) : Sp := fun vs H Q _ => ∃ T r s g ks ext L i x, vs = [.ref F.p, .ref s, .ref g, .int (i : Nat)] ∧ Op P w F s g ks ext H T r L ∧ F.part i = some x ∧ Post P w F s g ks ext H T L (CTA F L x) Q
section
variable {P : Program} {w : World} {K : PySem.W.Frag} {mg : Str → Option Value} {base : Heap}
theorem X_iff {F : Fx} (o : FxOk P w K F) {L : List Nat} {i : Nat} {x : Stm} (h : F.part i = some x) : F.X L x ↔ i ∈ L := by
  constructor
  · rintro ⟨j, hj, e⟩
    rwa [part_inj o h e]
  · exact fun k => ⟨i, k, h⟩
theorem Op.lst {F : Fx} {s g : Addr} {ks : List Nat} {ext : Nat} {H : Hp} {T : List Th} {r : Nat} {L : List Nat} (h : Op P w F s g ks ext H T r L) {D : Addr} {xs ys : List V} (hD : H D = some (.lst xs)) (h1 : D ≠ F.pl) (h2 : D ≠ F.rw) (h0 : F.H0 D = none) : Op P w F s g ks ext (upd H D (.lst ys)) T r L := by
  obtain ⟨rs, q1, q2⟩ := h.st.rows
  have nf : ∀ {b o}, H b = some o → (∀ z, o ≠ .lst z) → b ≠ D := fun e n => ne_of e hD (n _)
  have sn : ∀ {a : Addr} {M : List Nat}, Sh H a M → a ≠ D := fun q => by
    obtain ⟨_, e⟩ := q.is
    exact nf e (fun z q => by cases q)
  exact { h with
    st := { h.st with
      same := fun b u e => by rw [upd_ne (ne_of_none e h0)]; exact h.st.same b u e
      ins := by rw [upd_ne (nf h.st.ins (fun z q => by cases q))]; exact h.st.ins
      num := by rw [upd_ne (nf h.st.num (fun z q => by cases q))]; exact h.st.num
      parts := by rw [upd_ne h1.symm]; exact h.st.parts
      rows := ⟨rs, by rw [upd_ne h2.symm]; exact q1, q2⟩
      ths := by rw [upd_ne (nf h.st.ths (fun z q => by cases q))]; exact h.st.ths
      sh := fun t ht => ⟨(h.st.sh t ht).1.upd (sn (h.st.sh t ht).1), (h.st.sh t ht).2⟩
      rok := fun rs' e j v hj => (h.st.rok rs' (by rwa [upd_ne h2.symm] at e) j v hj).upd fun xs e => by rw [hD] at e; cases e
      shv := fun t ht => (h.st.shv t ht).upd (sn (h.st.sh t ht).1) }
    sh := h.sh.upd (sn h.sh)
    g := by rw [upd_ne (nf h.g (fun z q => by cases q))]; exact h.g
    shv := h.shv.upd (sn h.sh) }
theorem Nx.upd_new {F : Fx} {X : List Addr} {m : Nat} {H H' : Hp} {T T' : List Th} (h : Nx F X m H T H' T') {D : Addr} {o : HO} (hD : H D = none) : Nx F X m H T (upd H' D o) T' :=
  ⟨fun b u e h1 h2 h3 => by rw [upd_ne (ne_of_none e hD)]; exact h.fr b u e h1 h2 h3, fun b e => by
    by_cases c : b = D
    · rw [c]; exact hD
    · rw [upd_ne c] at e; exact h.al b e, h.tt, h.nw, fun rs e => by
    obtain ⟨rs', e', l⟩ := h.rl rs e
    exact ⟨rs', by rw [upd_ne (ne_of_none e hD)]; exact e', l⟩⟩
theorem inV_bl : ∀ bs : List Bool, inV (.bl true) (bs.map V.bl) = bs.any id
  | [] => rfl
  | b :: bs => by
    have := inV_bl bs
    unfold inV at this ⊢
    rw [List.map_cons, List.any_cons, List.any_cons, this]
    cases b <;> rfl
theorem flat_bl (bs : List Bool) : (bs.map V.bl).all flatV = true := by simp [flatV]
theorem w_nm {z t : Str} (h : ¬ ("name" : Str) = t) : ¬ V.str (Stm.nm z).word = V.str t := fun e => h (V.str.inj e)
theorem w_fl {t : Str} (h : ¬ ("false" : Str) = t) : ¬ V.str Stm.fl.word = V.str t := fun e => h (V.str.inj e)
theorem w_bin {o : W3} {a b : Stm} {t : Str} (h : ¬ o.word = t) : ¬ V.str (Stm.bin o a b).word = V.str t := fun e => h (V.str.inj e)
theorem X_part {F : Fx} {L : List Nat} (h : ∀ j, j < F.n → j ∈ L) {a : Stm} (pa : F.P a) : F.X L a := by
  obtain ⟨j, hj⟩ := Fx.P_part pa
  exact ⟨j, h j (Fx.part_lt hj), hj⟩
theorem str_dec {a b : Str} : decide (V.str a = V.str b) = decide (a = b) := by simp
abbrev Nt : List Str := ["self", "shown", "given", "number", "part", "up", "told", "other", "one", "is_left"]
theorem sc_taken : FnScope Nt ["self", "shown", "given", "number"] (defScope mTaken) := ⟨rfl, rfl, rfl, by decide +kernel, rfl, by decide +kernel, by decide +kernel⟩
theorem ok_taken {F : Fx} (T : TxS K mg F.C) (o : FxOk P w K F) (cA : Cm P w K mg base F.C "add" 1 ["self", "shown", "given", "number", "rule", "ups"] (spAdd P w F)) (cN : Cm P w K mg base F.C "numbers_in" 1 ["self", "number"] (spNums P w F)) :
    Cm P w K mg base F.C "taken_apart" 2 ["self", "shown", "given", "number"] (spTaken P w F) := by
  obtain ⟨f, fd, D, hm, hb⟩ := T.m_taken.ex
  obtain ⟨fA, fdA, mA, GA, bA, _⟩ := cA.ex
  obtain ⟨fN, fdN, mN, GN, bN, _⟩ := cN.ex
  refine ⟨f, fd, hm, ?_, hb, fd_of D⟩
  have sc := sc_taken
  refine D.ok sc (fun vs H Q E h => ?_) (fun cdv A outer s0 H vs Q E hr h => ?_)
  · obtain ⟨_, _, _, _, _, _, _, _, _, rfl, _⟩ := h
    rfl
  obtain ⟨Ts, r, s, g, ks, ext, L, i, x, rfl, O, hx, q⟩ := h
  have hu := hu_of hr
  have hr1 : Room 1 _ := hr
  refine ⟨_, pss_cons (ps_set (i := 4) sc.nd rfl (Or.inl rfl) (pe_ix ix_list (pe_fld (pv 0) rfl) (pv 3) (fun _ _ => rfl)))
    (pss_cons (ps_if (pt_cmp (pc_dnotin hu (pv 3) (pv 1))) (pss_one (ps_ret pe_bl)) pss_nil)
    (pss_cons (ps_set (i := 5) sc.nd rfl (Or.inr rfl) (pe_tup (pa_cons (pe_dget hu (pv 1) (pv 3) (fun _ _ => rfl)) pa_nil)))
    (pss_cons (ps_if (pt_cmpR op_eq (pe_ix ix_tup (pv 4) pe_int (fun _ _ => rfl)) pe_str (nomark _))
      (pss_cons (ps_setLc (i := 6) (own := [("other", 7)]) (g := gName 7) (tt := tYes) (te := tMeth F.C "add" (spAdd P w F) [] E0 (tVar 0) (tCons (tVar 1) (tCons (tVar 2) (tCons (tVar 7) (tCons (tC (.str "any")) (tCons (tVar 5) tNil)))))) rfl sc.nd rfl rfl (sw_true rfl rfl rfl (by decide +kernel)) (pi_range1 rfl T.z_range (pa_cons (pe_callB call_len_seq (by rfl) T.z_len PySem.boot_len (pa_cons (pe_fld (pv 0) rfl) pa_nil)) pa_nil)) (blkOk_by (N := Nt) (sc := defScope mTaken) (by decide +kernel)) (fun _ _ _ _ _ => pg_name (i := 7) sc.nd rfl (Or.inl rfl)) (fun _ _ _ _ _ => pts_nil)
          (fun _ _ _ _ _ => by exact pe_meth (pv 0) T.cl mA GA hr bA .nil pass0 (pa_cons (pv 1) (pa_cons (pv 2) (pa_cons (pv 7) (pa_cons pe_str (pa_cons (pv 5) pa_nil)))))))
        (pss_one (ps_ret (pe_cmpR op_in_seq pe_bl (pv 6) rfl)))) pss_nil)
    (pss_cons (ps_if (pt_cmpR op_eq (pe_ix ix_tup (pv 4) pe_int (fun _ _ => rfl)) pe_str (nomark _))
      (pss_cons (ps_asg (pe_meth (pv 0) T.cl mN GN hr bN .nil pass0 (pa_cons (pv 3) pa_nil)) (pg_tup rfl (pgs_cons (pg_name (i := 8) sc.nd rfl (Or.inl rfl)) (pgs_cons (pg_name (i := 7) sc.nd rfl (Or.inl rfl)) pgs_nil))))
      (pss_cons (ps_set (i := 9) sc.nd rfl (Or.inl rfl) (pe_meth (pv 0) T.cl mA GA hr bA .nil pass0 (pa_cons (pv 1) (pa_cons (pv 2) (pa_cons (pv 8) (pa_cons pe_str (pa_cons (pv 5) pa_nil)))))))
      (pss_one (ps_ret (pe_or (pe_meth (pv 0) T.cl mA GA hr bA .nil pass0 (pa_cons (pv 1) (pa_cons (pv 2) (pa_cons (pv 7) (pa_cons pe_str (pa_cons (pv 5) pa_nil)))))) (pe_one (pv 9))))))) pss_nil)
    (pss_cons (ps_if (pt_cmpR op_eq (pe_ix ix_tup (pv 4) pe_int (fun _ _ => rfl)) pe_str (nomark _))
      (pss_cons (ps_asg (pe_meth (pv 0) T.cl mN GN hr bN .nil pass0 (pa_cons (pv 3) pa_nil)) (pg_tup rfl (pgs_cons (pg_name (i := 8) sc.nd rfl (Or.inl rfl)) (pgs_cons (pg_name (i := 7) sc.nd rfl (Or.inl rfl)) pgs_nil))))
      (pss_one (ps_ret (pe_and (pe_cmp (pc_din hu (pv 8) (pv 1))) (pe_one (pe_meth (pv 0) T.cl mA GA hr bA .nil pass0 (pa_cons (pv 1) (pa_cons (pv 2) (pa_cons (pv 7) (pa_cons pe_str (pa_cons (pe_op op_catA (pv 5) (pe_tup (pa_cons (pe_dget hu (pv 1) (pv 8) (fun _ _ => rfl)) pa_nil))) pa_nil)))))))))))  pss_nil)
    (pss_one (ps_ret pe_bl))))))), ?_⟩
  obtain ⟨t, h1, h2, h3, h4⟩ := O.st.part o hx
  obtain ⟨t', xs, e, h5, h6⟩ := dp_word h4
  cases e
  obtain ⟨od, hd, ho⟩ := dget_sh O.sh i
  refine ⟨_, rfl, F.p, F.C, F.dx, _, _, rfl, O.st.ins, T.cl, T.nP, pf_l _ _ _ _, _, rfl, F.pl, _, _, _, rfl, rfl, SqL.of O.st.parts, atI_nat h2, ?_⟩
  refine ⟨_, rfl, _, rfl, s, od, rfl, hd, ?_⟩
  rw [ho]
  refine ⟨_, rfl, ite2 (fun c => ?_) (fun c => ?_)⟩
  · have hL : i ∉ L := by simpa using c
    exact q false H Ts r L O Nx.rfl' (fun _ h => h) (fun _ => ⟨rfl, fun k => absurd ((X_iff o hx).mp k) hL⟩) (fun e => by cases e)
  have hL : i ∈ L := by simpa using c
  obtain ⟨kv, hkv, hv⟩ := dget_row O.sh O.shv hL
  refine ⟨_, rfl, _, rfl, s, _, rfl, hv, (by show 1 ≤ sizeLine; decide), fun tu htu => ?_⟩
  have O1 := O.new (o := .tup [.int (kv : Nat)]) htu
  have N1 : Nx F [s] (ks.length + 1) H Ts _ Ts := Nx.new (o := .tup [.int (kv : Nat)]) htu
  have hup : upd H tu (.tup [.int (kv : Nat)]) tu = some (.tup [.int (kv : Nat)]) := upd_same
  have Sm := same_new htu (.tup [.int (kv : Nat)])
  have h5' := DL.sqT_same Sm h5
  have h4' := DL.dp_mono Sm _ _ h4
  generalize upd H tu (.tup [.int (kv : Nat)]) = H1 at O1 N1 hup h5' h4' ⊢
  refine ⟨_, rfl, t, _, _, _, rfl, rfl, h5', h6, ?_⟩
  refine ⟨rfl, ?_⟩
  have noA : (pf F.nd F.pl F.rw F.td).lookup ("add" : Str) = none := pf_no _ _ _ _ (by decide +kernel) (by decide +kernel) (by decide +kernel) (by decide +kernel)
  have noN : (pf F.nd F.pl F.rw F.td).lookup ("numbers_in" : Str) = none := pf_no _ _ _ _ (by decide +kernel) (by decide +kernel) (by decide +kernel) (by decide +kernel)
  cases x with
  | nm z =>
    refine ⟨false, congrArg V.bl (decide_eq_false (w_nm (by decide +kernel))), iteF ?_⟩
    refine ⟨_, rfl, t, _, _, _, rfl, rfl, h5', h6, rfl, false, congrArg V.bl (decide_eq_false (w_nm (by decide +kernel))), iteF ?_⟩
    refine ⟨_, rfl, t, _, _, _, rfl, rfl, h5', h6, rfl, false, congrArg V.bl (decide_eq_false (w_nm (by decide +kernel))), iteF ?_⟩
    exact q false H1 Ts r L O1 N1 (fun _ h => h) (fun _ => ⟨rfl, fun _ => ⟨fun e => (nomatch e), fun a b e => (nomatch e), fun a b e => (nomatch e)⟩⟩) (fun e => (nomatch e))
  | fl =>
    refine ⟨true, congrArg V.bl (decide_eq_true rfl), iteT ?_⟩
    refine ⟨_, rfl, F.p, F.C, F.dx, _, _, rfl, O1.st.ins, T.cl, T.nP, pf_l _ _ _ _, F.pl, _, rfl, .inl (SqL.of O1.st.parts), _, rfl, ?_, ?_, fun Dl hDl => ?_⟩
    · omega
    · have := o.le
      rw [List.length_map]
      have e : F.es.length = F.n := rfl
      omega
    have hn : ((F.es.map fun e => V.ref e.2).length : Int).toNat = F.n := by rw [List.length_map]; rfl
    have ds : Dl ≠ s := by
      obtain ⟨_, e⟩ := O1.sh.is
      exact (ne_of_none e hDl).symm
    obtain ⟨rs1, hrs1, _⟩ := O1.st.rows
    have dr : Dl ≠ F.rw := (ne_of_none hrs1 hDl).symm
    have dp : Dl ≠ F.pl := (ne_of_none O1.st.parts hDl).symm
    have dt : Dl ≠ F.td := (ne_of_none O1.st.ths hDl).symm
    have ts : tu ≠ s := by
      obtain ⟨_, e⟩ := O1.sh.is
      exact ne_of hup e (by intro q; cases q)
    have tr : tu ≠ F.rw := ne_of hup hrs1 (by intro q; cases q)
    have tt' : tu ≠ F.td := ne_of hup O1.st.ths (by intro q; cases q)
    have d0 : F.H0 Dl = none := O1.st.same.free hDl
    have dH : H Dl = none := N1.al _ hDl
    refine lc_range (fun j H' => ∃ (bs : List Bool) (r' : Nat) (L' : List Nat), H' Dl = some (.lst (bs.map V.bl)) ∧ bs.length = j ∧ H' tu = some (.tup [.int (kv : Nat)]) ∧ r ≤ r' ∧ Op P w F s g ks ext H' Ts r' L' ∧ Nx F [s] (ks.length + 1) H Ts H' Ts ∧ (∀ a ∈ L, a ∈ L') ∧ (bs.any id = false → L' = L) ∧ L.length ≤ L'.length ∧ (bs.any id = true → L.length < L'.length) ∧ ∀ a, a < j → a ∈ L')
      ⟨[], r, L, upd_same, rfl, same_new hDl _ _ _ hup, Nat.le_refl _, O1.new hDl, N1.upd_new dH, fun _ h => h, fun _ => rfl, Nat.le_refl _, fun e => by (cases e), fun a ha => absurd ha (Nat.not_lt_zero _)⟩ ?_ ?_
    · rintro j H' hj ⟨bs, r', L', k1, k2, ku, kr, k3, k4, k5, k6, k7, k8, k9⟩
      rw [hn] at hj
      obtain ⟨y, _, _, hy⟩ := Fx.lt_part hj
      refine ⟨rfl, ?_⟩
      refine ⟨_, rfl, F.p, F.dx, _, rfl, k3.st.ins, noA, _, rfl, _, rfl, _, rfl, _, rfl, ?_⟩
      have dy : My.D F.P (F.Γ ks) y := .any (Fx.part_P hy) (O.snd i hL _ hx)
      have sz : bs.length < sizeLine := by
        have := o.le
        rw [sizeLine_eq]; omega
      refine ⟨Ts, r', s, g, ks, ext, L', j, y, _, tu, [kv], by rw [Int.zero_add]; rfl, ku, ⟨by simp, fun k hk => by have := List.mem_singleton.mp hk; omega⟩, k3, hy, dy, fun b H4 r4 L4 O4 N4 s4 m4 f4 t4 l4 => ?_⟩
      have q4 := N4.fr _ _ k1 dr dt (by simpa using ds)
      refine ⟨_, q4, by rw [List.length_map]; exact sz, bs ++ [b], r4, L4, by rw [upd_same, List.map_append]; rfl, by simp [k2], by rw [upd_ne (ne_of k1 ku (by intro q; cases q)).symm]; exact N4.fr _ _ ku tr tt' (by simpa using ts), Nat.le_trans kr (N4.more k3.st O4.st), O4.lst q4 dp dr d0, (k4.trans N4).upd_new dH, fun a ha => s4 a (k5 a ha), fun e => ?_, Nat.le_trans k7 l4, fun e => ?_, fun a ha => ?_⟩
      · have e2 : bs.any id = false ∧ b = false := by
          rw [List.any_append] at e
          cases b <;> cases h : bs.any id <;> simp [h] at e ⊢
        rw [f4 e2.2, k6 e2.1]
      · have e2 : bs.any id = true ∨ b = true := by
          rw [List.any_append] at e
          cases b <;> cases h : bs.any id <;> simp [h] at e ⊢
        exact e2.elim (fun e => Nat.lt_of_lt_of_le (k8 e) l4) fun e => Nat.lt_of_le_of_lt k7 (t4 e)
      · by_cases c : a = j
        · rw [c]; exact m4
        · exact s4 a (k9 a (by omega))
    · rintro H' ⟨bs, r', L', k1, k2, ku, kr, k3, k4, k5, k6, k7, k8, k9⟩
      rw [hn] at k9
      refine ⟨_, rfl, Dl, _, rfl, .inl (SqL.of k1), rfl, flat_bl bs, ?_⟩
      show Q (.bl (inV (.bl true) (bs.map V.bl))) H'
      rw [inV_bl]
      refine q _ H' Ts r' L' k3 k4 k5 (fun e => ⟨k6 e, fun _ => ⟨fun _ a pa => ?_, fun a b e => by (cases e), fun a b e => by cases e⟩⟩) k8
      rw [k6 e] at k9
      exact X_part k9 pa
  | bin z a b =>
    have pz := Fx.part_P hx
    obtain ⟨ia, hia⟩ := Fx.P_part (o.cl.l pz)
    obtain ⟨ib, hib⟩ := Fx.P_part (o.cl.r pz)
    have dz := O.snd i hL _ hx
    cases z with
    | orr =>
      refine ⟨false, congrArg V.bl (decide_eq_false (w_bin (by decide +kernel))), iteF ?_⟩
      refine ⟨_, rfl, t, _, _, _, rfl, rfl, h5', h6, rfl, false, congrArg V.bl (decide_eq_false (w_bin (by decide +kernel))), iteF ?_⟩
      refine ⟨_, rfl, t, _, _, _, rfl, rfl, h5', h6, rfl, false, congrArg V.bl (decide_eq_false (w_bin (by decide +kernel))), iteF ?_⟩
      exact q false H1 Ts r L O1 N1 (fun _ h => h) (fun _ => ⟨rfl, fun _ => ⟨fun e => (nomatch e), fun a b e => (nomatch e), fun a b e => (nomatch e)⟩⟩) (fun e => (nomatch e))
    | an =>
      refine ⟨false, congrArg V.bl (decide_eq_false (w_bin (by decide +kernel))), iteF ?_⟩
      refine ⟨_, rfl, t, _, _, _, rfl, rfl, h5', h6, rfl, true, congrArg V.bl (decide_eq_true rfl), iteT ?_⟩
      refine ⟨_, rfl, F.p, F.dx, _, rfl, O1.st.ins, noN, _, rfl, Ts, r, i, .an, a, b, ia, ib, rfl, O1.st, hx, hia, hib, fun q' hq' => ?_⟩
      refine ⟨q', _, rfl, SqT.of upd_same, rfl, _, _, rfl, _, _, rfl, rfl, ?_⟩
      have O2 := O1.new (o := .tup [.int (ia : Nat), .int (ib : Nat)]) hq'
      have N2 := N1.trans (Nx.new (o := .tup [.int (ia : Nat), .int (ib : Nat)]) hq')
      have hup2 := same_new hq' (.tup [.int (ia : Nat), .int (ib : Nat)]) _ _ hup
      generalize upd H1 q' (.tup [.int (ia : Nat), .int (ib : Nat)]) = H2 at O2 N2 hup2 ⊢
      have hus : ∀ r', r ≤ r' → ([kv].length ≤ 3 ∧ ∀ k ∈ [kv], k < r') := fun r' l => ⟨by simp, fun k hk => by have := List.mem_singleton.mp hk; omega⟩
      refine ⟨_, rfl, F.p, F.dx, _, rfl, O2.st.ins, noA, _, rfl, _, rfl, _, rfl, _, rfl, Ts, r, s, g, ks, ext, L, ia, a, _, tu, [kv], rfl, hup2, hus r (Nat.le_refl _), O2, hia, .left dz, fun b3 H3 r3 L3 O3 N3 s3 m3 f3 t3 l3 => ?_⟩
      have hup3 : H3 tu = some (.tup [.int (kv : Nat)]) := by
        obtain ⟨rs2, hrs2, _⟩ := O2.st.rows
        obtain ⟨_, e2⟩ := O2.sh.is
        exact N3.fr _ _ hup2 (ne_of hup2 hrs2 (by intro q; cases q)) (ne_of hup2 O2.st.ths (by intro q; cases q)) (by simpa using ne_of hup2 e2 (by intro q; cases q))
      refine ⟨_, rfl, F.p, F.dx, _, rfl, O3.st.ins, noA, _, rfl, _, rfl, _, rfl, _, rfl, Ts, r3, s, g, ks, ext, L3, ib, b, _, tu, [kv], rfl, hup3, hus r3 (N3.more O2.st O3.st), O3, hib, .right dz, fun b4 H4 r4 L4 O4 N4 s4 m4 f4 t4 l4 => ⟨b4, rfl, ?_⟩⟩
      have N5 := (N2.trans N3).trans N4
      cases b4 with
      | true => exact iteT (q true H4 Ts r4 L4 O4 N5 (fun j h => s4 j (s3 j h)) (fun e => (nomatch e)) fun _ => Nat.lt_of_le_of_lt l3 (t4 rfl))
      | false =>
        refine iteF ⟨_, rfl, q b3 H4 Ts r4 L4 O4 N5 (fun j h => s4 j (s3 j h)) (fun e => ?_) fun e => Nat.lt_of_lt_of_le (t3 e) l4⟩
        have e1 := f4 rfl
        have e2 := f3 e
        rw [e1] at m4
        rw [e2] at m3 m4
        exact ⟨e1.trans e2, fun _ => ⟨fun e => (nomatch e), fun a' b' e => by cases e; exact ⟨⟨ia, m3, hia⟩, ⟨ib, m4, hib⟩⟩, fun a b e => (nomatch e)⟩⟩
    | th =>
      refine ⟨false, congrArg V.bl (decide_eq_false (w_bin (by decide +kernel))), iteF ?_⟩
      refine ⟨_, rfl, t, _, _, _, rfl, rfl, h5', h6, rfl, false, congrArg V.bl (decide_eq_false (w_bin (by decide +kernel))), iteF ?_⟩
      refine ⟨_, rfl, t, _, _, _, rfl, rfl, h5', h6, rfl, true, congrArg V.bl (decide_eq_true rfl), iteT ?_⟩
      refine ⟨_, rfl, F.p, F.dx, _, rfl, O1.st.ins, noN, _, rfl, Ts, r, i, .th, a, b, ia, ib, rfl, O1.st, hx, hia, hib, fun q' hq' => ?_⟩
      refine ⟨q', _, rfl, SqT.of upd_same, rfl, _, _, rfl, _, _, rfl, rfl, ?_⟩
      have O2 := O1.new (o := .tup [.int (ia : Nat), .int (ib : Nat)]) hq'
      have N2 := N1.trans (Nx.new (o := .tup [.int (ia : Nat), .int (ib : Nat)]) hq')
      have hup2 := same_new hq' (.tup [.int (ia : Nat), .int (ib : Nat)]) _ _ hup
      generalize upd H1 q' (.tup [.int (ia : Nat), .int (ib : Nat)]) = H2 at O2 N2 hup2 ⊢
      obtain ⟨oa, hda, hoa⟩ := dget_sh O2.sh ia
      refine ⟨_, rfl, _, rfl, s, oa, rfl, hda, _, rfl, ?_⟩
      rw [hoa]
      refine ite2 (fun c => ?_) (fun c => ?_)
      · have hLa : ia ∈ L := of_decide_eq_true c
        obtain ⟨ka, hka, hva⟩ := dget_row O2.sh O2.shv hLa
        refine ⟨_, rfl, F.p, F.dx, _, rfl, O2.st.ins, noA, _, rfl, _, rfl, _, rfl, _, rfl, _, rfl, _, rfl, s, _, rfl, hva, (by show 1 ≤ sizeLine; decide), fun t2 ht2 => ?_⟩
        have O3 := O2.new (o := .tup [.int (ka : Nat)]) ht2
        have N3 := N2.trans (Nx.new (o := .tup [.int (ka : Nat)]) ht2)
        have hup3 := same_new ht2 (.tup [.int (ka : Nat)]) _ _ hup2
        refine ⟨tu, t2, [.int (kv : Nat)], [.int (ka : Nat)], rfl, rfl, SqT.of hup3, SqT.of upd_same, (by show 2 ≤ sizeLine; decide), fun e => (nomatch e), fun _ e => (nomatch e), fun _ _ p hp => ?_⟩
        have O4 := O3.new (o := .tup ([.int (kv : Nat)] ++ [.int (ka : Nat)])) hp
        have N4 := N3.trans (Nx.new (o := .tup ([.int (kv : Nat)] ++ [.int (ka : Nat)])) hp)
        refine ⟨Ts, r, s, g, ks, ext, L, ib, b, _, p, [kv, ka], rfl, upd_same, ⟨by simp, fun k hk => by simp at hk; omega⟩, O4, hib, .onward dz (O.snd ia hLa _ hia), fun b5 H5 r5 L5 O5 N5 s5 m5 f5 t5 l5 => ?_⟩
        refine q b5 H5 Ts r5 L5 O5 (N4.trans N5) s5 (fun e => ?_) t5
        have e1 := f5 e
        rw [e1] at m5
        exact ⟨e1, fun _ => ⟨fun e => (nomatch e), fun a' b' e => (nomatch e), fun a' b' e _ => by cases e; exact ⟨ib, m5, hib⟩⟩⟩
      · have hLa : ia ∉ L := of_decide_eq_false (Bool.eq_false_iff.mpr c)
        exact q false H2 Ts r L O2 N2 (fun _ h => h) (fun _ => ⟨rfl, fun _ => ⟨fun e => (nomatch e), fun a' b' e => (nomatch e), fun a' b' e k => by cases e; exact absurd ((X_iff o hia).mp k) hLa⟩⟩) (fun e => (nomatch e))
end
end My

set_option Elab.async false
set_option linter.all false
set_option maxRecDepth 100000
set_option maxHeartbeats 2000000
/-! put_together -/
namespace My
open PySem PySem.Spec L2 PyProof.Rows
/-- shown_from(given), m more may be given -/
def spFrom (P : Program) (w : World) (F : Fx) (m : Nat) : Sp := fun vs H Q _ => ∃ T r g ks ext, vs = [.ref F.p, .ref g] ∧ St P w F H T r ∧ H g = some (.tup (gV ks)) ∧ Asc F ks ∧ ext ≤ 16 * ks.length ∧ r ≤ 16 * T.length + ext ∧ F.n < ks.length + m ∧
  ∀ s L H' T' r', St P w F H' T' r' → Nx F [] ks.length H T H' T' → ⟨ks, s, L⟩ ∈ T' → r' ≤ 16 * T'.length + ext → Q (.ref s) H'
def CPT (F : Fx) (ks L : List Nat) (x : Stm) : Prop := (∀ a b, x = .bin .an a b → F.X L a → F.X L b → F.X L x) ∧ (∀ a b, x = .bin .orr a b → F.X L a ∨ F.X L b → F.X L x) ∧ ∀ a b, x = .bin .th a b → (F.X L b ∨ (¬ F.X L a ∧ D F.P (add1 (F.Γ ks) a) b)) → F.X L x
def spPut (P : Program) (w : World) (F : Fx) (m : Nat) : Sp := fun vs H Q _ => ∃ T r s g ks ext L i x, vs = [.ref F.p, .ref s, .ref g, .int (i : Nat)] ∧ Op P w F s g ks ext H T r L ∧ F.part i = some x ∧ (∀ j ∈ ks, j ∈ L) ∧ F.n < ks.length + 1 + m ∧ Post P w F s g ks ext H T L (CPT F ks L x) Q
section
variable {P : Program} {w : World} {K : PySem.W.Frag} {mg : Str → Option Value} {base : Heap}
abbrev Np : List Str := ["self", "shown", "given", "number", "word", "one", "other", "more"]
theorem sc_put : FnScope Np ["self", "shown", "given", "number"] (defScope mPut) := ⟨rfl, rfl, rfl, by decide +kernel, rfl, by decide +kernel, by decide +kernel⟩
theorem inV2 (x : Str) : inV (.str x) [.str "name", .str "false"] = (("name" : Str) == x || ("false" : Str) == x) := by
  show ((("name" : Str) == x) || ((("false" : Str) == x) || false)) = _
  rw [Bool.or_false]
theorem gam_add {F : Fx} (o : FxOk P w K F) {ks js : List Nat} {i : Nat} {a : Stm} (hi : F.part i = some a) (mj : ∀ j, j ∈ js ↔ j ∈ ks ∨ j = i) (x : Stm) : F.Γ js x ↔ add1 (F.Γ ks) a x := by
  constructor
  · rintro ⟨j, hj, e⟩
    rcases (mj j).mp hj with h | h
    · exact .inl ⟨j, h, e⟩
    · rw [h, hi] at e
      exact .inr (Option.some.inj e).symm
  · rintro (⟨j, hj, e⟩ | e)
    · exact ⟨j, (mj j).mpr (.inl hj), e⟩
    · exact ⟨i, (mj i).mpr (.inr rfl), e ▸ hi⟩
theorem w_in {x : Str} {b : Bool} (h : (("name" : Str) == x || ("false" : Str) == x) = b) : V.bl (if false = true then !inV (.str x) [.str "name", .str "false"] else inV (.str x) [.str "name", .str "false"]) = V.bl b := by
  rw [if_neg (by decide), inV2, h]
theorem ok_put {F : Fx} (T : TxS K mg F.C) (o : FxOk P w K F) {k m : Nat} (cA : Cm P w K mg base F.C "add" 1 ["self", "shown", "given", "number", "rule", "ups"] (spAdd P w F)) (cN : Cm P w K mg base F.C "numbers_in" 1 ["self", "number"] (spNums P w F))
    (cW : Cm P w K mg base F.C "with_one" 1 ["self", "given", "number"] (spWith F)) (cF : Cm P w K mg base F.C "shown_from" (k + 1) ["self", "given"] (spFrom P w F m)) :
    Cm P w K mg base F.C "put_together" (k + 2) ["self", "shown", "given", "number"] (spPut P w F m) := by
  obtain ⟨f, fd, D, hm, hb⟩ := T.m_put.ex
  obtain ⟨fA, fdA, mA, GA, bA, _⟩ := cA.ex
  obtain ⟨fN, fdN, mN, GN, bN, _⟩ := cN.ex
  obtain ⟨fW, fdW, mW, GW, bW, _⟩ := cW.ex
  obtain ⟨fF, fdF, mF, GF, bF, _⟩ := cF.ex
  refine ⟨f, fd, hm, ?_, hb, fd_of D⟩
  have sc := sc_put
  refine D.ok sc (fun vs H Q E h => ?_) (fun cdv A outer s0 H vs Q E hr h => ?_)
  · obtain ⟨_, _, _, _, _, _, _, _, _, rfl, _⟩ := h
    rfl
  obtain ⟨Ts, r, s, g, ks, ext, L, i, x, rfl, O, hx, hk, hm', q⟩ := h
  have hu := hu_of hr
  have hr1 : Room 1 _ := hr.mono (by omega)
  refine ⟨_, pss_cons (ps_set (i := 4) sc.nd rfl (Or.inl rfl) (pe_ix ix_tup (pe_ix ix_list (pe_fld (pv 0) rfl) (pv 3) (fun _ _ => rfl)) pe_int (fun _ _ => rfl)))
    (pss_cons (ps_if (PW.pt (pw_or (pt_cmp (pc_din hu (pv 3) (pv 1))) (pw_or1 (pt_cmpR op_in_seq (pv 4) (pe_tup (pa_cons pe_str (pa_cons pe_str pa_nil))) rfl)))) (pss_one (ps_ret pe_bl)) pss_nil)
    (pss_cons (ps_asg (pe_meth (pv 0) T.cl mN GN hr1 bN .nil pass0 (pa_cons (pv 3) pa_nil)) (pg_tup rfl (pgs_cons (pg_name (i := 5) sc.nd rfl (Or.inl rfl)) (pgs_cons (pg_name (i := 6) sc.nd rfl (Or.inl rfl)) pgs_nil))))
    (pss_cons (ps_if (pt_cmpR op_eq (pv 4) pe_str (nomark _)) (pss_cons (ps_if (PW.pt (pw_or (pt_cmp (pc_dnotin hu (pv 5) (pv 1))) (pw_or1 (pt_cmp (pc_dnotin hu (pv 6) (pv 1)))))) (pss_one (ps_ret pe_bl)) pss_nil)
    (pss_one (ps_ret (pe_meth (pv 0) T.cl mA GA hr1 bA .nil pass0 (pa_cons (pv 1) (pa_cons (pv 2) (pa_cons (pv 3) (pa_cons pe_str (pa_cons (pe_tup (pa_cons (pe_dget hu (pv 1) (pv 5) (fun _ _ => rfl)) (pa_cons (pe_dget hu (pv 1) (pv 6) (fun _ _ => rfl)) pa_nil))) pa_nil))))))))) pss_nil)
    (pss_cons (ps_if (pt_cmpR op_eq (pv 4) pe_str (nomark _)) (pss_cons (ps_if (pt_cmp (pc_din hu (pv 5) (pv 1))) (pss_one (ps_ret (pe_meth (pv 0) T.cl mA GA hr1 bA .nil pass0 (pa_cons (pv 1) (pa_cons (pv 2) (pa_cons (pv 3) (pa_cons pe_str (pa_cons (pe_tup (pa_cons (pe_dget hu (pv 1) (pv 5) (fun _ _ => rfl)) pa_nil)) pa_nil)))))))) pss_nil)
    (pss_one (ps_ret (pe_and (pe_cmp (pc_din hu (pv 6) (pv 1))) (pe_one (pe_meth (pv 0) T.cl mA GA hr1 bA .nil pass0 (pa_cons (pv 1) (pa_cons (pv 2) (pa_cons (pv 3) (pa_cons pe_str (pa_cons (pe_tup (pa_cons (pe_dget hu (pv 1) (pv 6) (fun _ _ => rfl)) pa_nil)) pa_nil))))))))))) pss_nil)
    (pss_cons (ps_if (pt_cmp (pc_din hu (pv 6) (pv 1))) (pss_one (ps_ret (pe_meth (pv 0) T.cl mA GA hr1 bA .nil pass0 (pa_cons (pv 1) (pa_cons (pv 2) (pa_cons (pv 3) (pa_cons pe_str (pa_cons (pe_tup (pa_cons (pe_dget hu (pv 1) (pv 6) (fun _ _ => rfl)) pa_nil)) pa_nil)))))))) pss_nil)
    (pss_cons (ps_if (pt_cmp (pc_din hu (pv 5) (pv 1))) (pss_one (ps_ret pe_bl)) pss_nil)
    (pss_cons (ps_set (i := 7) sc.nd rfl (Or.inl rfl) (pe_meth (pv 0) T.cl mF GF hr bF .nil pass0 (pa_cons (pe_meth (pv 0) T.cl mW GW hr1 bW .nil pass0 (pa_cons (pv 2) (pa_cons (pv 5) pa_nil))) pa_nil)))
    (pss_one (ps_ret (pe_and (pe_cmp (pc_din hu (pv 6) (pv 7))) (pe_one (pe_meth (pv 0) T.cl mA GA hr1 bA .nil pass0 (pa_cons (pv 1) (pa_cons (pv 2) (pa_cons (pv 3) (pa_cons pe_str (pa_cons (pe_tup (pa_cons (pe_dget hu (pv 7) (pv 6) (fun _ _ => rfl)) pa_nil)) pa_nil))))))))))))))))), ?_⟩
  have noA : (pf F.nd F.pl F.rw F.td).lookup ("add" : Str) = none := pf_no _ _ _ _ (by decide +kernel) (by decide +kernel) (by decide +kernel) (by decide +kernel)
  have noN : (pf F.nd F.pl F.rw F.td).lookup ("numbers_in" : Str) = none := pf_no _ _ _ _ (by decide +kernel) (by decide +kernel) (by decide +kernel) (by decide +kernel)
  have noW : (pf F.nd F.pl F.rw F.td).lookup ("with_one" : Str) = none := pf_no _ _ _ _ (by decide +kernel) (by decide +kernel) (by decide +kernel) (by decide +kernel)
  have noF : (pf F.nd F.pl F.rw F.td).lookup ("shown_from" : Str) = none := pf_no _ _ _ _ (by decide +kernel) (by decide +kernel) (by decide +kernel) (by decide +kernel)
  obtain ⟨t, h1, h2, h3, h4⟩ := O.st.part o hx
  obtain ⟨t', xs, e, h5, h6⟩ := dp_word h4
  cases e
  obtain ⟨od, hd, ho⟩ := dget_sh O.sh i
  refine ⟨_, rfl, F.p, F.C, F.dx, _, _, rfl, O.st.ins, T.cl, T.nP, pf_l _ _ _ _, _, rfl, F.pl, _, _, _, rfl, rfl, SqL.of O.st.parts, atI_nat h2, t, xs, _, _, rfl, rfl, h5, h6, ?_⟩
  refine ⟨_, rfl, _, rfl, s, od, rfl, hd, _, rfl, ?_⟩
  by_cases hiL : i ∈ L
  · rw [ho, decide_eq_true hiL]
    refine iteT (iteT ?_)
    have hX := (X_iff o hx).mpr hiL
    exact q false H Ts r L O Nx.rfl' (fun _ h => h) (fun _ => ⟨rfl, fun _ _ _ _ _ => hX, fun _ _ _ _ => hX, fun _ _ _ _ => hX⟩) (fun e => (nomatch e))
  rw [ho, decide_eq_false hiL]
  refine iteF ⟨_, rfl, (by show 2 ≤ sizeLine; decide), fun t2 ht2 => ⟨t2, _, rfl, .inr (SqT.of upd_same), rfl, rfl, ?_⟩⟩
  have O1 := O.new (o := .tup [.str "name", .str "false"]) ht2
  have N1 : Nx F [s] (ks.length + 1) H Ts _ Ts := Nx.new (o := .tup [.str "name", .str "false"]) ht2
  generalize upd H t2 (.tup [.str "name", .str "false"]) = H1 at O1 N1 ⊢
  cases x with
  | nm z =>
    refine ⟨true, w_in (by show (("name" : Str) == "name" || ("false" : Str) == "name") = true; decide +kernel), iteT ?_⟩
    exact q false H1 Ts r L O1 N1 (fun _ h => h) (fun _ => ⟨rfl, fun a b e => (nomatch e), fun a b e => (nomatch e), fun a b e => (nomatch e)⟩) (fun e => (nomatch e))
  | fl =>
    refine ⟨true, w_in (by show (("name" : Str) == "false" || ("false" : Str) == "false") = true; decide +kernel), iteT ?_⟩
    exact q false H1 Ts r L O1 N1 (fun _ h => h) (fun _ => ⟨rfl, fun a b e => (nomatch e), fun a b e => (nomatch e), fun a b e => (nomatch e)⟩) (fun e => (nomatch e))
  | bin z a b =>
    have pz := Fx.part_P hx
    obtain ⟨ia, hia⟩ := Fx.P_part (o.cl.l pz)
    obtain ⟨ib, hib⟩ := Fx.P_part (o.cl.r pz)
    have hw : (("name" : Str) == z.word || ("false" : Str) == z.word) = false := by cases z <;> decide +kernel
    refine ⟨false, w_in hw, iteF ?_⟩
    refine ⟨_, rfl, F.p, F.dx, _, rfl, O1.st.ins, noN, _, rfl, Ts, r, i, z, a, b, ia, ib, rfl, O1.st, hx, hia, hib, fun q' hq' => ?_⟩
    refine ⟨q', _, rfl, SqT.of upd_same, rfl, _, _, rfl, _, _, rfl, rfl, ?_⟩
    have O2 := O1.new (o := .tup [.int (ia : Nat), .int (ib : Nat)]) hq'
    have N2 := N1.trans (Nx.new (o := .tup [.int (ia : Nat), .int (ib : Nat)]) hq')
    generalize upd H1 q' (.tup [.int (ia : Nat), .int (ib : Nat)]) = H2 at O2 N2 ⊢
    obtain ⟨oa, hda, hoa⟩ := dget_sh O2.sh ia
    obtain ⟨ob, hdb, hob⟩ := dget_sh O2.sh ib
    have va := fun h => dget_row O2.sh O2.shv (i := ia) h
    have vb := fun h => dget_row O2.sh O2.shv (i := ib) h
    have Xa := X_iff (L := L) o hia
    have Xb := X_iff (L := L) o hib
    cases z with
    | an =>
      refine ⟨_, rfl, rfl, true, congrArg V.bl (decide_eq_true rfl), iteT ?_⟩
      refine ⟨_, rfl, _, rfl, s, oa, rfl, hda, _, rfl, ?_⟩
      by_cases la : ia ∈ L
      · rw [hoa, decide_eq_true la]
        refine iteF ⟨_, rfl, _, rfl, s, ob, rfl, hdb, _, rfl, ?_⟩
        by_cases lb : ib ∈ L
        · rw [hob, decide_eq_true lb]
          obtain ⟨ka, hka, hva⟩ := va la
          obtain ⟨kb, hkb, hvb⟩ := vb lb
          refine iteF ⟨_, rfl, F.p, F.dx, _, rfl, O2.st.ins, noA, _, rfl, _, rfl, _, rfl, _, rfl, _, rfl, s, _, rfl, hva, _, rfl, _, rfl, s, _, rfl, hvb, (by show 2 ≤ sizeLine; decide), fun t3 ht3 => ?_⟩
          have O3 := O2.new (o := .tup [.int (ka : Nat), .int (kb : Nat)]) ht3
          have N3 := N2.trans (Nx.new (o := .tup [.int (ka : Nat), .int (kb : Nat)]) ht3)
          exact ⟨Ts, r, s, g, ks, ext, L, i, _, _, t3, [ka, kb], rfl, upd_same, ⟨by simp, fun k hk => by simp at hk; omega⟩, O3, hx, .both pz (O.snd ia la _ hia) (O.snd ib lb _ hib), fun b5 H5 r5 L5 O5 N5 s5 m5 f5 t5 l5 => q b5 H5 Ts r5 L5 O5 (N3.trans N5) s5 (fun e => absurd (f5 e ▸ m5) hiL) t5⟩
        · rw [hob, decide_eq_false lb]
          exact iteT (q false H2 Ts r L O2 N2 (fun _ h => h) (fun _ => ⟨rfl, fun a' b' e _ k => by cases e; exact absurd (Xb.mp k) lb, fun a' b' e => (nomatch e), fun a' b' e => (nomatch e)⟩) (fun e => (nomatch e)))
      · rw [hoa, decide_eq_false la]
        exact iteT (iteT (q false H2 Ts r L O2 N2 (fun _ h => h) (fun _ => ⟨rfl, fun a' b' e k => by cases e; exact absurd (Xa.mp k) la, fun a' b' e => (nomatch e), fun a' b' e => (nomatch e)⟩) (fun e => (nomatch e))))
    | orr =>
      refine ⟨_, rfl, rfl, false, congrArg V.bl (decide_eq_false (w_bin (by decide +kernel))), iteF ?_⟩
      refine ⟨_, rfl, rfl, true, congrArg V.bl (decide_eq_true rfl), iteT ?_⟩
      refine ⟨_, rfl, _, rfl, s, oa, rfl, hda, _, rfl, ?_⟩
      by_cases la : ia ∈ L
      · rw [hoa, decide_eq_true la]
        obtain ⟨ka, hka, hva⟩ := va la
        refine iteT ⟨_, rfl, F.p, F.dx, _, rfl, O2.st.ins, noA, _, rfl, _, rfl, _, rfl, _, rfl, _, rfl, s, _, rfl, hva, (by show 1 ≤ sizeLine; decide), fun t3 ht3 => ?_⟩
        have O3 := O2.new (o := .tup [.int (ka : Nat)]) ht3
        have N3 := N2.trans (Nx.new (o := .tup [.int (ka : Nat)]) ht3)
        exact ⟨Ts, r, s, g, ks, ext, L, i, _, _, t3, [ka], rfl, upd_same, ⟨by simp, fun k hk => by simp at hk; omega⟩, O3, hx, .one pz (O.snd ia la _ hia), fun b5 H5 r5 L5 O5 N5 s5 m5 f5 t5 l5 => q b5 H5 Ts r5 L5 O5 (N3.trans N5) s5 (fun e => absurd (f5 e ▸ m5) hiL) t5⟩
      · rw [hoa, decide_eq_false la]
        refine iteF ⟨_, rfl, _, rfl, s, ob, rfl, hdb, _, rfl, ?_⟩
        by_cases lb : ib ∈ L
        · rw [hob, decide_eq_true lb]
          obtain ⟨kb, hkb, hvb⟩ := vb lb
          refine iteT ⟨_, rfl, F.p, F.dx, _, rfl, O2.st.ins, noA, _, rfl, _, rfl, _, rfl, _, rfl, _, rfl, s, _, rfl, hvb, (by show 1 ≤ sizeLine; decide), fun t3 ht3 => ?_⟩
          have O3 := O2.new (o := .tup [.int (kb : Nat)]) ht3
          have N3 := N2.trans (Nx.new (o := .tup [.int (kb : Nat)]) ht3)
          exact ⟨Ts, r, s, g, ks, ext, L, i, _, _, t3, [kb], rfl, upd_same, ⟨by simp, fun k hk => by simp at hk; omega⟩, O3, hx, .other pz (O.snd ib lb _ hib), fun b5 H5 r5 L5 O5 N5 s5 m5 f5 t5 l5 => q b5 H5 Ts r5 L5 O5 (N3.trans N5) s5 (fun e => absurd (f5 e ▸ m5) hiL) t5⟩
        · rw [hob, decide_eq_false lb]
          exact iteF (q false H2 Ts r L O2 N2 (fun _ h => h) (fun _ => ⟨rfl, fun a' b' e => (nomatch e), fun a' b' e k => by cases e; exact k.elim (fun k => absurd (Xa.mp k) la) (fun k => absurd (Xb.mp k) lb), fun a' b' e => (nomatch e)⟩) (fun e => (nomatch e)))
    | th =>
      refine ⟨_, rfl, rfl, false, congrArg V.bl (decide_eq_false (w_bin (by decide +kernel))), iteF ?_⟩
      refine ⟨_, rfl, rfl, false, congrArg V.bl (decide_eq_false (w_bin (by decide +kernel))), iteF ?_⟩
      refine ⟨_, rfl, _, rfl, s, ob, rfl, hdb, _, rfl, ?_⟩
      by_cases lb : ib ∈ L
      · rw [hob, decide_eq_true lb]
        obtain ⟨kb, hkb, hvb⟩ := vb lb
        refine iteT ⟨_, rfl, F.p, F.dx, _, rfl, O2.st.ins, noA, _, rfl, _, rfl, _, rfl, _, rfl, _, rfl, s, _, rfl, hvb, (by show 1 ≤ sizeLine; decide), fun t3 ht3 => ?_⟩
        have O3 := O2.new (o := .tup [.int (kb : Nat)]) ht3
        have N3 := N2.trans (Nx.new (o := .tup [.int (kb : Nat)]) ht3)
        exact ⟨Ts, r, s, g, ks, ext, L, i, _, _, t3, [kb], rfl, upd_same, ⟨by simp, fun k hk => by simp at hk; omega⟩, O3, hx, .suppose pz ((O.snd ib lb _ hib).mono fun _ => .inl), fun b5 H5 r5 L5 O5 N5 s5 m5 f5 t5 l5 => q b5 H5 Ts r5 L5 O5 (N3.trans N5) s5 (fun e => absurd (f5 e ▸ m5) hiL) t5⟩
      rw [hob, decide_eq_false lb]
      refine iteF ⟨_, rfl, _, rfl, s, oa, rfl, hda, _, rfl, ?_⟩
      by_cases la : ia ∈ L
      · rw [hoa, decide_eq_true la]
        exact iteT (q false H2 Ts r L O2 N2 (fun _ h => h) (fun _ => ⟨rfl, fun a' b' e => (nomatch e), fun a' b' e => (nomatch e), fun a' b' e k => by cases e; exact k.elim (fun k => absurd (Xb.mp k) lb) (fun k => absurd (Xa.mpr la) k.1)⟩) (fun e => (nomatch e)))
      rw [hoa, decide_eq_false la]
      obtain ⟨f1, f2, f3⟩ := O2.few o
      refine iteF ⟨_, rfl, F.p, F.dx, _, rfl, O2.st.ins, noF, _, rfl, F.p, F.dx, _, rfl, O2.st.ins, noW, _, rfl, _, rfl, ks, g, ia, F.dx, _, rfl, O2.g, O2.asc, by omega, Fx.part_lt hia, fun h => la (hk _ h), O2.st.ins, fun H3 q3 js S3 hq3 aj lj mj => ?_⟩
      have O3 := O2.same' S3
      have N3 := N2.trans (Nx.same' S3)
      have gj := gam_add o hia mj
      have := O3.bd
      have := O3.be
      refine ⟨Ts, r, q3, js, ext + L.length, rfl, O3.st, hq3, aj, by omega, by omega, by omega, fun s4 L4 H4 T4 r4 St4 N4 mem4 b4 => ?_⟩
      have O4 := O3.after St4 N4 b4
      have N5 := N3.trans (N4.le (Y := [s]) (k := ks.length + 1) (fun _ h => (nomatch h)) (by omega))
      have sh4 := (St4.sh _ mem4).1
      have fu4 := (St4.asc _ mem4).2 ib b hib
      obtain ⟨om, hdm, hom⟩ := dget_sh sh4 ib
      refine ⟨_, rfl, _, rfl, s4, om, rfl, hdm, _, rfl, ?_⟩
      by_cases l4 : ib ∈ L4
      · rw [hom, decide_eq_true l4]
        obtain ⟨k4, hk4, hv4⟩ := dget_row sh4 (St4.shv _ mem4) l4
        refine iteT ⟨_, rfl, F.p, F.dx, _, rfl, O4.st.ins, noA, _, rfl, _, rfl, _, rfl, _, rfl, _, rfl, s4, _, rfl, hv4, (by show 1 ≤ sizeLine; decide), fun t5 ht5 => ?_⟩
        have O5 := O4.new (o := .tup [.int (k4 : Nat)]) ht5
        have N6 := N5.trans (Nx.new (o := .tup [.int (k4 : Nat)]) ht5)
        exact ⟨T4, r4, s, g, ks, ext, L, i, _, _, t5, [k4], rfl, upd_same, ⟨by simp, fun k hk => by simp at hk; omega⟩, O5, hx, .suppose pz ((fu4.mp l4).mono fun x => (gj x).mp), fun b6 H6 r6 L6 O6 N7 s6 m6 f6 t6 l6 => q b6 H6 T4 r6 L6 O6 (N6.trans N7) s6 (fun e => absurd (f6 e ▸ m6) hiL) t6⟩
      · rw [hom, decide_eq_false l4]
        exact iteF (q false H4 T4 r4 L O4 N5 (fun _ h => h) (fun _ => ⟨rfl, fun a' b' e => (nomatch e), fun a' b' e => (nomatch e), fun a' b' e k => by cases e; exact k.elim (fun k => absurd (Xb.mp k) lb) (fun k => absurd (fu4.mpr (k.2.mono fun x => (gj x).mpr)) l4)⟩) (fun e => (nomatch e)))
end
end My

set_option Elab.async false
set_option linter.all false
set_option maxRecDepth 100000
set_option maxHeartbeats 2000000
/-! both_lead -/
namespace My
open PySem PySem.Spec L2 PyProof.Rows
def spLead (P : Program) (w : World) (F : Fx) (m : Nat) : Sp := fun vs H Q _ => ∃ T r s g ks ext L i a b ia ib, vs = [.ref F.p, .ref s, .ref g, .int (i : Nat)] ∧ Op P w F s g ks ext H T r L ∧ F.part i = some (.bin .orr a b) ∧ F.part ia = some a ∧ F.part ib = some b ∧ i ∈ L ∧ (∀ j ∈ ks, j ∈ L) ∧ ia ∉ L ∧ ib ∉ L ∧ F.n < ks.length + 1 + m ∧
  Post P w F s g ks ext H T L (∀ c, F.P c → D F.P (add1 (F.Γ ks) a) c → D F.P (add1 (F.Γ ks) b) c → F.X L c) Q
section
variable {P : Program} {w : World} {K : PySem.W.Frag} {mg : Str → Option Value} {base : Heap}
abbrev Nl : List Str := ["self", "shown", "given", "number", "one", "other", "first", "second", "is_new", "part"]
theorem sc_lead : FnScope Nl ["self", "shown", "given", "number"] (defScope mLead) := ⟨rfl, rfl, rfl, by decide +kernel, rfl, by decide +kernel, by decide +kernel⟩
theorem ok_lead {F : Fx} (T : TxS K mg F.C) (o : FxOk P w K F) {k m : Nat} (cA : Cm P w K mg base F.C "add" 1 ["self", "shown", "given", "number", "rule", "ups"] (spAdd P w F)) (cN : Cm P w K mg base F.C "numbers_in" 1 ["self", "number"] (spNums P w F))
    (cW : Cm P w K mg base F.C "with_one" 1 ["self", "given", "number"] (spWith F)) (cF : Cm P w K mg base F.C "shown_from" (k + 1) ["self", "given"] (spFrom P w F m)) :
    Cm P w K mg base F.C "both_lead" (k + 2) ["self", "shown", "given", "number"] (spLead P w F m) := by
  obtain ⟨f, fd, D, hm, hb⟩ := T.m_lead.ex
  obtain ⟨fA, fdA, mA, GA, bA, _⟩ := cA.ex
  obtain ⟨fN, fdN, mN, GN, bN, _⟩ := cN.ex
  obtain ⟨fW, fdW, mW, GW, bW, _⟩ := cW.ex
  obtain ⟨fF, fdF, mF, GF, bF, _⟩ := cF.ex
  refine ⟨f, fd, hm, ?_, hb, fd_of D⟩
  have sc := sc_lead
  refine D.ok sc (fun vs H Q E h => ?_) (fun cdv A outer s0 H vs Q E hr h => ?_)
  · obtain ⟨_, _, _, _, _, _, _, _, _, _, _, _, rfl, _⟩ := h
    rfl
  obtain ⟨Ts, r, s, g, ks, ext, L, i, a, b, ia, ib, rfl, O, hx, hia, hib, hiL, hk, la, lb, hm', q⟩ := h
  have hu := hu_of hr
  have hr1 : Room 1 _ := hr.mono (by omega)
  refine ⟨_, pss_cons (ps_asg (pe_meth (pv 0) T.cl mN GN hr1 bN .nil pass0 (pa_cons (pv 3) pa_nil)) (pg_tup rfl (pgs_cons (pg_name (i := 4) sc.nd rfl (Or.inl rfl)) (pgs_cons (pg_name (i := 5) sc.nd rfl (Or.inl rfl)) pgs_nil))))
    (pss_cons (ps_set (i := 6) sc.nd rfl (Or.inl rfl) (pe_meth (pv 0) T.cl mF GF hr bF .nil pass0 (pa_cons (pe_meth (pv 0) T.cl mW GW hr1 bW .nil pass0 (pa_cons (pv 2) (pa_cons (pv 4) pa_nil))) pa_nil)))
    (pss_cons (ps_set (i := 7) sc.nd rfl (Or.inl rfl) (pe_meth (pv 0) T.cl mF GF hr bF .nil pass0 (pa_cons (pe_meth (pv 0) T.cl mW GW hr1 bW .nil pass0 (pa_cons (pv 2) (pa_cons (pv 5) pa_nil))) pa_nil)))
    (pss_cons (ps_set (i := 8) sc.nd rfl (Or.inl rfl) pe_bl)
    (pss_cons (ps_for PassesOwn.never rfl (pi_range1 rfl T.z_range (pa_cons (pe_callB call_len_seq (by rfl) T.z_len PySem.boot_len (pa_cons (pe_fld (pv 0) rfl) pa_nil)) pa_nil)) (pg_name (i := 9) sc.nd rfl (Or.inl rfl)) (pss_one (ps_if (PW.pt (pw_and (pt_cmp (pc_din hu (pv 9) (pv 6))) (pw_and1 (pt_cmp (pc_din hu (pv 9) (pv 7)))))) (pss_one (ps_if (pt_val (pe_meth (pv 0) T.cl mA GA hr1 bA .nil pass0 (pa_cons (pv 1) (pa_cons (pv 2) (pa_cons (pv 9) (pa_cons pe_str (pa_cons (pe_tup (pa_cons (pe_dget hu (pv 1) (pv 3) (fun _ _ => rfl)) (pa_cons (pe_dget hu (pv 6) (pv 9) (fun _ _ => rfl)) (pa_cons (pe_dget hu (pv 7) (pv 9) (fun _ _ => rfl)) pa_nil)))) pa_nil))))))) (pss_one (ps_set (i := 8) sc.nd rfl (Or.inl rfl) pe_bl)) pss_nil)) pss_nil)))
    (pss_one (ps_ret (pv 8))))))), ?_⟩
  have noA : (pf F.nd F.pl F.rw F.td).lookup ("add" : Str) = none := pf_no _ _ _ _ (by decide +kernel) (by decide +kernel) (by decide +kernel) (by decide +kernel)
  have noN : (pf F.nd F.pl F.rw F.td).lookup ("numbers_in" : Str) = none := pf_no _ _ _ _ (by decide +kernel) (by decide +kernel) (by decide +kernel) (by decide +kernel)
  have noW : (pf F.nd F.pl F.rw F.td).lookup ("with_one" : Str) = none := pf_no _ _ _ _ (by decide +kernel) (by decide +kernel) (by decide +kernel) (by decide +kernel)
  have noF : (pf F.nd F.pl F.rw F.td).lookup ("shown_from" : Str) = none := pf_no _ _ _ _ (by decide +kernel) (by decide +kernel) (by decide +kernel) (by decide +kernel)
  refine ⟨_, rfl, F.p, F.dx, _, rfl, O.st.ins, noN, _, rfl, Ts, r, i, .orr, a, b, ia, ib, rfl, O.st, hx, hia, hib, fun q' hq' => ?_⟩
  refine ⟨q', _, rfl, SqT.of upd_same, rfl, _, _, rfl, _, _, rfl, rfl, ?_⟩
  have O2 := O.new (o := .tup [.int (ia : Nat), .int (ib : Nat)]) hq'
  have N2 : Nx F [s] (ks.length + 1) H Ts _ Ts := Nx.new (o := .tup [.int (ia : Nat), .int (ib : Nat)]) hq'
  generalize upd H q' (.tup [.int (ia : Nat), .int (ib : Nat)]) = H2 at O2 N2 ⊢
  obtain ⟨f1, f2, f3⟩ := O2.few o
  refine ⟨_, rfl, F.p, F.dx, _, rfl, O2.st.ins, noF, _, rfl, F.p, F.dx, _, rfl, O2.st.ins, noW, _, rfl, _, rfl, ks, g, ia, F.dx, _, rfl, O2.g, O2.asc, by omega, Fx.part_lt hia, fun h => la (hk _ h), O2.st.ins, fun H3 q3 js S3 hq3 aj lj mj => ?_⟩
  have O3 := O2.same' S3
  have N3 := N2.trans (Nx.same' S3)
  have gj := gam_add o hia mj
  have b3 := O3.bd
  have e3 := O3.be
  refine ⟨Ts, r, q3, js, ext + L.length, rfl, O3.st, hq3, aj, by omega, by omega, by omega, fun s4 L4 H4 T4 r4 St4 N4 mem4 b4 => ?_⟩
  have O4 := O3.after St4 N4 b4
  have N5 := N3.trans (N4.le (Y := [s]) (k := ks.length + 1) (fun _ h => (nomatch h)) (by omega))
  refine ⟨_, rfl, F.p, F.dx, _, rfl, O4.st.ins, noF, _, rfl, F.p, F.dx, _, rfl, O4.st.ins, noW, _, rfl, _, rfl, ks, g, ib, F.dx, _, rfl, O4.g, O4.asc, by omega, Fx.part_lt hib, fun h => lb (hk _ h), O4.st.ins, fun H5 q5 js2 S5 hq5 aj2 lj2 mj2 => ?_⟩
  have O5 := O4.same' S5
  have N6 := N5.trans (Nx.same' S5)
  have gj2 := gam_add o hib mj2
  have b5 := O5.bd
  have e5 := O5.be
  refine ⟨T4, r4, q5, js2, ext + L.length, rfl, O5.st, hq5, aj2, by omega, by omega, by omega, fun s6 L6 H6 T6 r6 St6 N7 mem6 b6 => ?_⟩
  have O6 := O5.after St6 N7 b6
  have N8 := N6.trans (N7.le (Y := [s]) (k := ks.length + 1) (fun _ h => (nomatch h)) (by omega))
  have mem4' := N7.tt _ mem4
  have F4 := (St6.asc _ mem4').2
  have F6 := (St6.asc _ mem6).2
  refine ⟨_, rfl, F.p, F.C, F.dx, _, _, rfl, O6.st.ins, T.cl, T.nP, pf_l _ _ _ _, F.pl, _, rfl, .inl (SqL.of O6.st.parts), _, rfl, ?_, ?_, ?_⟩
  · omega
  · have := o.le
    rw [List.length_map]
    have e : F.es.length = F.n := rfl
    omega
  have hn : ((F.es.map fun e => V.ref e.2).length : Int).toNat = F.n := by rw [List.length_map]; rfl
  refine for_range (fun j σ H' => ∃ (c : Bool) (pv : Option V) (r' : Nat) (L' : List Nat), σ = [some (.ref F.p), some (.ref s), some (.ref g), some (.int (i : Nat)), some (.int (ia : Nat)), some (.int (ib : Nat)), some (.ref s4), some (.ref s6), some (.bl c), pv] ∧ Op P w F s g ks ext H' T6 r' L' ∧ Nx F [s] (ks.length + 1) H Ts H' T6 ∧ (∀ a ∈ L, a ∈ L') ∧ (c = false → L' = L) ∧ L.length ≤ L'.length ∧ (c = true → L.length < L'.length) ∧ ∀ a, a < j → a ∈ L4 → a ∈ L6 → a ∈ L')
    ⟨false, none, r6, L, rfl, O6, N8, fun _ h => h, fun _ => rfl, Nat.le_refl _, fun e => (nomatch e), fun a ha => absurd ha (Nat.not_lt_zero _)⟩ ?_ ?_
  · rintro j σ H' hj ⟨c, pv, r', L', rfl, k1, k2, k3, k4, k5, k6, k7⟩
    rw [hn] at hj
    obtain ⟨y, _, _, hy⟩ := Fx.lt_part hj
    have sh4 := (k1.st.sh _ mem4').1
    have sh6 := (k1.st.sh _ mem6).1
    obtain ⟨o4, hd4, ho4⟩ := dget_sh sh4 j
    obtain ⟨o6, hd6, ho6⟩ := dget_sh sh6 j
    rw [Int.zero_add]
    refine ⟨_, rfl, _, rfl, s4, o4, rfl, hd4, _, rfl, ?_⟩
    by_cases c4 : j ∈ L4
    · rw [ho4, decide_eq_true c4]
      refine iteT ⟨_, rfl, _, rfl, s6, o6, rfl, hd6, _, rfl, ?_⟩
      by_cases c6 : j ∈ L6
      · rw [ho6, decide_eq_true c6]
        obtain ⟨n1, hn1, hv1⟩ := dget_row k1.sh k1.shv (k3 _ hiL)
        obtain ⟨n4, hn4, hv4⟩ := dget_row sh4 (k1.st.shv _ mem4') c4
        obtain ⟨n6, hn6, hv6⟩ := dget_row sh6 (k1.st.shv _ mem6) c6
        refine iteT ⟨_, rfl, F.p, F.dx, _, rfl, k1.st.ins, noA, _, rfl, _, rfl, _, rfl, _, rfl, _, rfl, s, _, rfl, hv1, _, rfl, _, rfl, s4, _, rfl, hv4, _, rfl, _, rfl, s6, _, rfl, hv6, (by show 3 ≤ sizeLine; decide), fun t5 ht5 => ?_⟩
        have O7 := k1.new (o := .tup [.int (n1 : Nat), .int (n4 : Nat), .int (n6 : Nat)]) ht5
        have N9 := k2.trans (Nx.new (o := .tup [.int (n1 : Nat), .int (n4 : Nat), .int (n6 : Nat)]) ht5)
        have dy : My.D F.P (F.Γ ks) y := .cases (O.snd i hiL _ hx) (((F4 j y hy).mp c4).mono fun x => (gj x).mp) (((F6 j y hy).mp c6).mono fun x => (gj2 x).mp)
        refine ⟨T6, r', s, g, ks, ext, L', j, _, _, t5, [n1, n4, n6], rfl, upd_same, ⟨by simp, fun k hk => by simp at hk; omega⟩, O7, hy, dy, fun b8 H8 r8 L8 O8 N10 s8 m8 f8 t8 l8 => ⟨b8, rfl, ?_⟩⟩
        have fin : ∀ a, a < j + 1 → a ∈ L4 → a ∈ L6 → a ∈ L8 := fun a ha x4 x6 => by
          by_cases c : a = j
          · rw [c]; exact m8
          · exact s8 _ (k7 a (by omega) x4 x6)
        cases b8 with
        | true => exact iteT ⟨true, _, r8, L8, rfl, O8, N9.trans N10, fun a h => s8 _ (k3 a h), fun e => (nomatch e), by omega, fun _ => Nat.lt_of_le_of_lt k5 (t8 rfl), fin⟩
        | false => exact iteF ⟨c, _, r8, L8, rfl, O8, N9.trans N10, fun a h => s8 _ (k3 a h), fun e => (f8 rfl).trans (k4 e), by omega, fun e => Nat.lt_of_lt_of_le (k6 e) l8, fin⟩
      · rw [ho6, decide_eq_false c6]
        refine iteF ⟨c, _, r', L', rfl, k1, k2, k3, k4, k5, k6, fun a ha x4 x6 => ?_⟩
        by_cases c : a = j
        · exact absurd (c ▸ x6) c6
        · exact k7 a (by omega) x4 x6
    · rw [ho4, decide_eq_false c4]
      refine iteF (iteF ⟨c, _, r', L', rfl, k1, k2, k3, k4, k5, k6, fun a ha x4 x6 => ?_⟩)
      by_cases c : a = j
      · exact absurd (c ▸ x4) c4
      · exact k7 a (by omega) x4 x6
  · rintro σ H' ⟨c, pv, r', L', rfl, k1, k2, k3, k4, k5, k6, k7⟩
    rw [hn] at k7
    refine ⟨_, rfl, q c H' T6 r' L' k1 k2 k3 (fun e => ⟨k4 e, fun y py d1 d2 => ?_⟩) k6⟩
    obtain ⟨j, hj⟩ := Fx.P_part py
    have := k7 j (Fx.part_lt hj) ((F4 j y hj).mpr (d1.mono fun x => (gj x).mpr)) ((F6 j y hj).mpr (d2.mono fun x => (gj2 x).mpr))
    rw [k4 e] at this
    exact ⟨j, this, hj⟩
end
end My

set_option Elab.async false
set_option linter.all false
set_option maxRecDepth 100000
set_option maxHeartbeats 2000000
/-! by_cases, grown -/
namespace My
open PySem PySem.Spec L2 PyProof.Rows
def CBC (F : Fx) (ks L : List Nat) (x : Stm) : Prop := ∀ a b, x = .bin .orr a b → F.X L x → ¬ F.X L a → ¬ F.X L b → ∀ c, F.P c → D F.P (add1 (F.Γ ks) a) c → D F.P (add1 (F.Γ ks) b) c → F.X L c
def spCases (P : Program) (w : World) (F : Fx) (m : Nat) : Sp := fun vs H Q _ => ∃ T r s g ks ext L, vs = [.ref F.p, .ref s, .ref g] ∧ Op P w F s g ks ext H T r L ∧ (∀ j ∈ ks, j ∈ L) ∧ F.n < ks.length + 1 + m ∧ Post P w F s g ks ext H T L (∀ x, F.P x → CBC F ks L x) Q
section
variable {P : Program} {w : World} {K : PySem.W.Frag} {mg : Str → Option Value} {base : Heap}
abbrev Nc : List Str := ["self", "shown", "given", "number", "one", "other"]
theorem sc_cases : FnScope Nc ["self", "shown", "given"] (defScope mCases) := ⟨rfl, rfl, rfl, by decide +kernel, rfl, by decide +kernel, by decide +kernel⟩
theorem ok_cases {F : Fx} (T : TxS K mg F.C) (o : FxOk P w K F) {k m : Nat} (cN : Cm P w K mg base F.C "numbers_in" 1 ["self", "number"] (spNums P w F))
    (cB : Cm P w K mg base F.C "both_lead" (k + 1) ["self", "shown", "given", "number"] (spLead P w F m)) :
    Cm P w K mg base F.C "by_cases" (k + 2) ["self", "shown", "given"] (spCases P w F m) := by
  obtain ⟨f, fd, D, hm, hb⟩ := T.m_cases.ex
  obtain ⟨fN, fdN, mN, GN, bN, _⟩ := cN.ex
  obtain ⟨fB, fdB, mB, GB, bB, _⟩ := cB.ex
  refine ⟨f, fd, hm, ?_, hb, fd_of D⟩
  have sc := sc_cases
  refine D.ok sc (fun vs H Q E h => ?_) (fun cdv A outer s0 H vs Q E hr h => ?_)
  · obtain ⟨_, _, _, _, _, _, _, rfl, _⟩ := h
    rfl
  obtain ⟨Ts, r, s, g, ks, ext, L, rfl, O, hk, hm', q⟩ := h
  have hu := hu_of hr
  have hr1 : Room 1 _ := hr.mono (by omega)
  refine ⟨_, pss_cons (ps_for PassesOwn.never rfl (pi_range1 rfl T.z_range (pa_cons (pe_callB call_len_seq (by rfl) T.z_len PySem.boot_len (pa_cons (pe_fld (pv 0) rfl) pa_nil)) pa_nil)) (pg_name (i := 3) sc.nd rfl (Or.inl rfl)) (pss_one (ps_if (PW.pt (pw_and (pt_cmpR op_eq (pe_ix ix_tup (pe_ix ix_list (pe_fld (pv 0) rfl) (pv 3) (fun _ _ => rfl)) pe_int (fun _ _ => rfl)) pe_str (nomark _)) (pw_and1 (pt_cmp (pc_din hu (pv 3) (pv 1)))))) (pss_cons (ps_asg (pe_meth (pv 0) T.cl mN GN hr1 bN .nil pass0 (pa_cons (pv 3) pa_nil)) (pg_tup rfl (pgs_cons (pg_name (i := 4) sc.nd rfl (Or.inl rfl)) (pgs_cons (pg_name (i := 5) sc.nd rfl (Or.inl rfl)) pgs_nil))))
    (pss_one (ps_if (PW.pt (pw_and (pt_cmp (pc_dnotin hu (pv 4) (pv 1))) (pw_and (pt_cmp (pc_dnotin hu (pv 5) (pv 1))) (pw_and1 (pt_val (pe_meth (pv 0) T.cl mB GB hr bB .nil pass0 (pa_cons (pv 1) (pa_cons (pv 2) (pa_cons (pv 3) pa_nil))))))))) (pss_one (ps_ret pe_bl)) pss_nil))) pss_nil)))
    (pss_one (ps_ret pe_bl)), ?_⟩
  have noN : (pf F.nd F.pl F.rw F.td).lookup ("numbers_in" : Str) = none := pf_no _ _ _ _ (by decide +kernel) (by decide +kernel) (by decide +kernel) (by decide +kernel)
  have noB : (pf F.nd F.pl F.rw F.td).lookup ("both_lead" : Str) = none := pf_no _ _ _ _ (by decide +kernel) (by decide +kernel) (by decide +kernel) (by decide +kernel)
  refine ⟨_, rfl, F.p, F.C, F.dx, _, _, rfl, O.st.ins, T.cl, T.nP, pf_l _ _ _ _, F.pl, _, rfl, .inl (SqL.of O.st.parts), _, rfl, ?_, ?_, ?_⟩
  · omega
  · have := o.le
    rw [List.length_map]
    have e : F.es.length = F.n := rfl
    omega
  have hn : ((F.es.map fun e => V.ref e.2).length : Int).toNat = F.n := by rw [List.length_map]; rfl
  refine for_range (fun j σ H' => ∃ (p3 p4 p5 : Option V) (T' : List Th) (r' : Nat), σ = [some (.ref F.p), some (.ref s), some (.ref g), p3, p4, p5] ∧ Op P w F s g ks ext H' T' r' L ∧ Nx F [s] (ks.length + 1) H Ts H' T' ∧ ∀ a x, a < j → F.part a = some x → CBC F ks L x)
    ⟨none, none, none, Ts, r, rfl, O, Nx.rfl', fun a x ha => absurd ha (Nat.not_lt_zero _)⟩ ?_ ?_
  · rintro j σ H' hj ⟨p3, p4, p5, T', r', rfl, k1, k2, k3⟩
    rw [hn] at hj
    obtain ⟨y, _, _, hy⟩ := Fx.lt_part hj
    obtain ⟨t, h1, h2, h3, h4⟩ := k1.st.part o hy
    obtain ⟨t', xs, e, h5, h6⟩ := dp_word h4
    cases e
    obtain ⟨od, hd, ho⟩ := dget_sh k1.sh j
    rw [Int.zero_add]
    have stay : CBC F ks L y → ∀ a x, a < j + 1 → F.part a = some x → CBC F ks L x := fun h a x ha e => by
      by_cases c : a = j
      · rw [c, hy] at e
        exact Option.some.inj e ▸ h
      · exact k3 a x (by omega) e
    refine ⟨_, rfl, F.p, F.C, F.dx, _, _, rfl, k1.st.ins, T.cl, T.nP, pf_l _ _ _ _, _, rfl, F.pl, _, _, _, rfl, rfl, SqL.of k1.st.parts, atI_nat h2, t, xs, _, _, rfl, rfl, h5, h6, rfl, ?_⟩
    have other : (∀ a b, y ≠ .bin .orr a b) → ¬ V.str y.word = V.str "or" ∧ CBC F ks L y := fun h => ⟨fun e => by
      have e := V.str.inj e
      cases y with
      | nm z => exact absurd e (by show ¬ ("name" : Str) = "or"; decide +kernel)
      | fl => exact absurd e (by show ¬ ("false" : Str) = "or"; decide +kernel)
      | bin z a b =>
        cases z with
        | an => exact absurd e (by show ¬ ("and" : Str) = "or"; decide +kernel)
        | orr => exact h a b rfl
        | th => exact absurd e (by show ¬ ("then" : Str) = "or"; decide +kernel), fun a b e => absurd e (h a b)⟩
    by_cases isor : ∃ a b, y = .bin .orr a b
    · obtain ⟨a, b, rfl⟩ := isor
      refine ⟨true, congrArg V.bl (decide_eq_true rfl), iteT ⟨_, rfl, _, rfl, s, od, rfl, hd, _, rfl, ?_⟩⟩
      by_cases hiL : j ∈ L
      · rw [ho, decide_eq_true hiL]
        have pz := Fx.part_P hy
        obtain ⟨ia, hia⟩ := Fx.P_part (o.cl.l pz)
        obtain ⟨ib, hib⟩ := Fx.P_part (o.cl.r pz)
        refine iteT ⟨_, rfl, F.p, F.dx, _, rfl, k1.st.ins, noN, _, rfl, T', r', j, .orr, a, b, ia, ib, rfl, k1.st, hy, hia, hib, fun q' hq' => ?_⟩
        refine ⟨q', _, rfl, SqT.of upd_same, rfl, _, _, rfl, _, _, rfl, rfl, ?_⟩
        have O2 := k1.new (o := .tup [.int (ia : Nat), .int (ib : Nat)]) hq'
        have N2 := k2.trans (Nx.new (o := .tup [.int (ia : Nat), .int (ib : Nat)]) hq')
        generalize upd H' q' (.tup [.int (ia : Nat), .int (ib : Nat)]) = H2 at O2 N2 ⊢
        obtain ⟨oa, hda, hoa⟩ := dget_sh O2.sh ia
        obtain ⟨ob, hdb, hob⟩ := dget_sh O2.sh ib
        have Xa := X_iff (L := L) o hia
        have Xb := X_iff (L := L) o hib
        refine ⟨_, rfl, _, rfl, s, oa, rfl, hda, _, rfl, ?_⟩
        by_cases la : ia ∈ L
        · rw [hoa, decide_eq_true la]
          exact iteF (iteF ⟨_, _, _, T', r', rfl, O2, N2, stay fun a' b' e _ n1 _ => by cases e; exact absurd (Xa.mpr la) n1⟩)
        rw [hoa, decide_eq_false la]
        refine iteT ⟨_, rfl, _, rfl, s, ob, rfl, hdb, _, rfl, ?_⟩
        by_cases lb : ib ∈ L
        · rw [hob, decide_eq_true lb]
          exact iteF (iteF ⟨_, _, _, T', r', rfl, O2, N2, stay fun a' b' e _ _ n1 => by cases e; exact absurd (Xb.mpr lb) n1⟩)
        rw [hob, decide_eq_false lb]
        refine iteT ⟨_, rfl, F.p, F.dx, _, rfl, O2.st.ins, noB, _, rfl, _, rfl, _, rfl, T', r', s, g, ks, ext, L, j, a, b, ia, ib, rfl, O2, hy, hia, hib, hiL, hk, la, lb, hm', fun b8 H8 T8 r8 L8 O8 N8 s8 f8 t8 => ⟨b8, rfl, ?_⟩⟩
        cases b8 with
        | true => exact iteT (q true H8 T8 r8 L8 O8 (N2.trans N8) s8 (fun e => (nomatch e)) t8)
        | false =>
          obtain ⟨e8, c8⟩ := f8 rfl
          rw [e8] at O8
          exact iteF ⟨_, _, _, T8, r8, rfl, O8, N2.trans N8, stay fun a' b' e _ _ _ => by cases e; exact c8⟩
      · rw [ho, decide_eq_false hiL]
        exact iteF ⟨_, _, _, T', r', rfl, k1, k2, stay fun a' b' e k => absurd ((X_iff o hy).mp k) hiL⟩
    · obtain ⟨n1, n2⟩ := other fun a b e => isor ⟨a, b, e⟩
      exact ⟨false, congrArg V.bl (decide_eq_false n1), iteF (iteF ⟨_, _, _, T', r', rfl, k1, k2, stay n2⟩)⟩
  · rintro σ H' ⟨p3, p4, p5, T', r', rfl, k1, k2, k3⟩
    rw [hn] at k3
    refine q false H' T' r' L k1 k2 (fun _ h => h) (fun _ => ⟨rfl, fun x px => ?_⟩) (fun e => (nomatch e))
    obtain ⟨j, hj⟩ := Fx.P_part px
    exact k3 j x (Fx.part_lt hj) hj
end
end My

set_option Elab.async false
set_option linter.all false
set_option maxRecDepth 100000
set_option maxHeartbeats 2000000
/-! grown -/
namespace My
open PySem PySem.Spec L2 PyProof.Rows
def CAll (F : Fx) (ks L : List Nat) : Prop := ∀ x, F.P x → CTA F L x ∧ CPT F ks L x ∧ CBC F ks L x
def spGrown (P : Program) (w : World) (F : Fx) (m : Nat) : Sp := fun vs H Q _ => ∃ T r s g ks ext L, vs = [.ref F.p, .ref s, .ref g] ∧ Op P w F s g ks ext H T r L ∧ (∀ j ∈ ks, j ∈ L) ∧ F.n < ks.length + 1 + m ∧ Post P w F s g ks ext H T L (CAll F ks L) Q
section
variable {P : Program} {w : World} {K : PySem.W.Frag} {mg : Str → Option Value} {base : Heap}
abbrev Ng : List Str := ["self", "shown", "given", "is_new", "number"]
theorem sc_grown : FnScope Ng ["self", "shown", "given"] (defScope mGrown) := ⟨rfl, rfl, rfl, by decide +kernel, rfl, by decide +kernel, by decide +kernel⟩
theorem ok_grown {F : Fx} (T : TxS K mg F.C) (o : FxOk P w K F) {k m : Nat} (cK : Cm P w K mg base F.C "taken_apart" 2 ["self", "shown", "given", "number"] (spTaken P w F))
    (cU : Cm P w K mg base F.C "put_together" (k + 2) ["self", "shown", "given", "number"] (spPut P w F m)) (cC : Cm P w K mg base F.C "by_cases" (k + 3) ["self", "shown", "given"] (spCases P w F m)) :
    Cm P w K mg base F.C "grown" (k + 4) ["self", "shown", "given"] (spGrown P w F m) := by
  obtain ⟨f, fd, D, hm, hb⟩ := T.m_grown.ex
  obtain ⟨fK, fdK, mK, GK, bK, _⟩ := cK.ex
  obtain ⟨fU, fdU, mU, GU, bU, _⟩ := cU.ex
  obtain ⟨fC, fdC, mC, GC, bC, _⟩ := cC.ex
  refine ⟨f, fd, hm, ?_, hb, fd_of D⟩
  have sc := sc_grown
  refine D.ok sc (fun vs H Q E h => ?_) (fun cdv A outer s0 H vs Q E hr h => ?_)
  · obtain ⟨_, _, _, _, _, _, _, rfl, _⟩ := h
    rfl
  obtain ⟨Ts, r, s, g, ks, ext, L, rfl, O, hk, hm', q⟩ := h
  have hu := hu_of hr
  have hr2 : Room 2 _ := hr.mono (by omega)
  have hr3 : Room (k + 2) _ := hr.mono (by omega)
  refine ⟨_, pss_cons (ps_set (i := 3) sc.nd rfl (Or.inl rfl) pe_bl)
    (pss_cons (ps_for PassesOwn.never rfl (pi_range1 rfl T.z_range (pa_cons (pe_callB call_len_seq (by rfl) T.z_len PySem.boot_len (pa_cons (pe_fld (pv 0) rfl) pa_nil)) pa_nil)) (pg_name (i := 4) sc.nd rfl (Or.inl rfl)) (pss_one (ps_if (PW.pt (pw_or (pt_val (pe_meth (pv 0) T.cl mK GK hr2 bK .nil pass0 (pa_cons (pv 1) (pa_cons (pv 2) (pa_cons (pv 4) pa_nil))))) (pw_or1 (pt_val (pe_meth (pv 0) T.cl mU GU hr3 bU .nil pass0 (pa_cons (pv 1) (pa_cons (pv 2) (pa_cons (pv 4) pa_nil)))))))) (pss_one (ps_set (i := 3) sc.nd rfl (Or.inl rfl) pe_bl)) pss_nil)))
    (pss_cons (ps_if (pt_val (pv 3)) (pss_one (ps_ret pe_bl)) pss_nil)
    (pss_one (ps_ret (pe_meth (pv 0) T.cl mC GC hr bC .nil pass0 (pa_cons (pv 1) (pa_cons (pv 2) pa_nil))))))), ?_⟩
  have noK : (pf F.nd F.pl F.rw F.td).lookup ("taken_apart" : Str) = none := pf_no _ _ _ _ (by decide +kernel) (by decide +kernel) (by decide +kernel) (by decide +kernel)
  have noU : (pf F.nd F.pl F.rw F.td).lookup ("put_together" : Str) = none := pf_no _ _ _ _ (by decide +kernel) (by decide +kernel) (by decide +kernel) (by decide +kernel)
  have noC : (pf F.nd F.pl F.rw F.td).lookup ("by_cases" : Str) = none := pf_no _ _ _ _ (by decide +kernel) (by decide +kernel) (by decide +kernel) (by decide +kernel)
  refine ⟨_, rfl, F.p, F.C, F.dx, _, _, rfl, O.st.ins, T.cl, T.nP, pf_l _ _ _ _, F.pl, _, rfl, .inl (SqL.of O.st.parts), _, rfl, ?_, ?_, ?_⟩
  · omega
  · have := o.le
    rw [List.length_map]
    have e : F.es.length = F.n := rfl
    omega
  have hn : ((F.es.map fun e => V.ref e.2).length : Int).toNat = F.n := by rw [List.length_map]; rfl
  refine for_range (fun j σ H' => ∃ (c : Bool) (p4 : Option V) (T' : List Th) (r' : Nat) (L' : List Nat), σ = [some (.ref F.p), some (.ref s), some (.ref g), some (.bl c), p4] ∧ Op P w F s g ks ext H' T' r' L' ∧ Nx F [s] (ks.length + 1) H Ts H' T' ∧ (∀ a ∈ L, a ∈ L') ∧ (c = false → L' = L ∧ ∀ a x, a < j → F.part a = some x → CTA F L x ∧ CPT F ks L x) ∧ L.length ≤ L'.length ∧ (c = true → L.length < L'.length))
    ⟨false, none, Ts, r, L, rfl, O, Nx.rfl', fun _ h => h, fun _ => ⟨rfl, fun a x ha => absurd ha (Nat.not_lt_zero _)⟩, Nat.le_refl _, fun e => (nomatch e)⟩ ?_ ?_
  · rintro j σ H' hj ⟨c, p4, T', r', L', rfl, k1, k2, k3, k4, k5, k6⟩
    rw [hn] at hj
    obtain ⟨y, _, _, hy⟩ := Fx.lt_part hj
    rw [Int.zero_add]
    refine ⟨_, rfl, F.p, F.dx, _, rfl, k1.st.ins, noK, _, rfl, _, rfl, _, rfl, T', r', s, g, ks, ext, L', j, y, rfl, k1, hy, fun b8 H8 T8 r8 L8 O8 N8 s8 f8 t8 => ⟨b8, rfl, ?_⟩⟩
    cases b8 with
    | true =>
      have := t8 rfl
      exact iteT (iteT ⟨true, _, T8, r8, L8, rfl, O8, k2.trans N8, fun a h => s8 _ (k3 a h), fun e => (nomatch e), by omega, fun _ => by omega⟩)
    | false =>
      obtain ⟨e8, c8⟩ := f8 rfl
      subst e8
      refine iteF ⟨_, rfl, F.p, F.dx, _, rfl, O8.st.ins, noU, _, rfl, _, rfl, _, rfl, T8, r8, s, g, ks, ext, L8, j, y, rfl, O8, hy, fun i h => k3 _ (hk i h), hm', fun b9 H9 T9 r9 L9 O9 N9 s9 f9 t9 => ⟨b9, rfl, ?_⟩⟩
      cases b9 with
      | true =>
        have := t9 rfl
        exact iteT ⟨true, _, T9, r9, L9, rfl, O9, (k2.trans N8).trans N9, fun a h => s9 _ (k3 a h), fun e => (nomatch e), by omega, fun _ => by omega⟩
      | false =>
        obtain ⟨e9, c9⟩ := f9 rfl
        subst e9
        refine iteF ⟨c, _, T9, r9, L9, rfl, O9, (k2.trans N8).trans N9, k3, fun e => ⟨(k4 e).1, fun a x ha ex => ?_⟩, k5, k6⟩
        obtain ⟨e1, e2⟩ := k4 e
        by_cases ca : a = j
        · rw [ca, hy] at ex
          cases ex
          rw [← e1]
          exact ⟨c8, c9⟩
        · exact e2 a x (by omega) ex
  · rintro σ H' ⟨c, p4, T', r', L', rfl, k1, k2, k3, k4, k5, k6⟩
    rw [hn] at k4
    refine ⟨_, rfl, c, rfl, ?_⟩
    cases c with
    | true => exact iteT (q true H' T' r' L' k1 k2 k3 (fun e => (nomatch e)) k6)
    | false =>
      obtain ⟨e1, e2⟩ := k4 rfl
      subst e1
      refine iteF ⟨_, rfl, F.p, F.dx, _, rfl, k1.st.ins, noC, _, rfl, _, rfl, T', r', s, g, ks, ext, L', rfl, k1, hk, hm', fun b8 H8 T8 r8 L8 O8 N8 s8 f8 t8 => ?_⟩
      refine q b8 H8 T8 r8 L8 O8 (k2.trans N8) s8 (fun e => ⟨(f8 e).1, fun x px => ?_⟩) t8
      obtain ⟨j, hj⟩ := Fx.P_part px
      obtain ⟨a1, a2⟩ := e2 j x (Fx.part_lt hj) hj
      exact ⟨a1, a2, (f8 e).2 x px⟩
end
end My

set_option Elab.async false
set_option linter.all false
set_option maxRecDepth 100000
set_option maxHeartbeats 2000000
/-! shown_from -/
namespace My
open PySem PySem.Spec L2 PyProof.Rows
section
variable {P : Program} {w : World} {K : PySem.W.Frag} {mg : Str → Option Value} {base : Heap}
theorem th_some {T : List Th} {ks : List Nat} {v : V} (h : valV (T.map fun t => (gK t.ks, V.ref t.a)) (gK ks) = some v) : ∃ t ∈ T, t.ks = ks ∧ v = .ref t.a := by
  induction T with
  | nil => cases h
  | cons t T ih =>
    rw [List.map_cons] at h
    by_cases e : gK t.ks = gK ks
    · rw [valV_pos e] at h
      exact ⟨t, List.mem_cons_self, gK_inj e, (Option.some.inj h).symm⟩
    · rw [valV_neg e] at h
      obtain ⟨u, h1, h2⟩ := ih h
      exact ⟨u, List.mem_cons_of_mem _ h1, h2⟩
theorem th_none {T : List Th} {ks : List Nat} (h : ∀ t ∈ T, t.ks ≠ ks) : valV (T.map fun t => (gK t.ks, V.ref t.a)) (gK ks) = none := by
  cases q : valV (T.map fun t => (gK t.ks, V.ref t.a)) (gK ks) with
  | none => rfl
  | some v =>
    obtain ⟨t, h1, h2, _⟩ := th_some q
    exact absurd h2 (h t h1)
theorem th_put {T : List Th} {ks : List Nat} (h : ∀ t ∈ T, t.ks ≠ ks) (d : Addr) (L : List Nat) : putK (T.map fun t => (gK t.ks, V.ref t.a)) (gK ks) (.ref d) = (T ++ [(⟨ks, d, L⟩ : Th)]).map fun (t : Th) => (gK t.ks, V.ref t.a) := by
  unfold putK
  rw [valV_any, th_none h]
  simp
theorem full_of {F : Fx} (o : FxOk P w K F) {s g : Addr} {ks : List Nat} {ext : Nat} {H : Hp} {T : List Th} {r : Nat} {L : List Nat} (O : Op P w F s g ks ext H T r L) (hk : ∀ i ∈ ks, i ∈ L) (c : CAll F ks L) : Full F ks L := by
  have S : Sat F.P (F.Γ ks) (F.X L) := {
    giv := fun x _ ⟨i, hi, e⟩ => ⟨i, hk i hi, e⟩
    snd := fun x ⟨i, hi, e⟩ => O.snd i hi x e
    any := fun h a pa => ((c .fl (by obtain ⟨i, _, e⟩ := h; exact Fx.part_P e)).1 h).1 rfl a pa
    an := fun a b h => ((c _ (by obtain ⟨i, _, e⟩ := h; exact Fx.part_P e)).1 h).2.1 a b rfl
    onward := fun a b h k => ((c _ (by obtain ⟨i, _, e⟩ := h; exact Fx.part_P e)).1 h).2.2 a b rfl k
    both := fun a b p h k => (c _ p).2.1.1 a b rfl h k
    orr := fun a b p h => (c _ p).2.1.2.1 a b rfl h
    th := fun a b p h => (c _ p).2.1.2.2 a b rfl h
    cases := fun a b y h n1 n2 py d1 d2 => (c _ (by obtain ⟨i, _, e⟩ := h; exact Fx.part_P e)).2.2 a b rfl h n1 n2 y py d1 d2 }
  exact fun i x e => (X_iff o e).symm.trans (S.iff o.cl x)
abbrev Nf : List Str := ["self", "given", "shown", "number"]
theorem sc_from : FnScope Nf ["self", "given"] (defScope mFrom) := ⟨rfl, rfl, rfl, by decide +kernel, rfl, by decide +kernel, by decide +kernel⟩
theorem ok_from {F : Fx} (T : TxS K mg F.C) (o : FxOk P w K F) {k m : Nat} (cA : Cm P w K mg base F.C "add" 1 ["self", "shown", "given", "number", "rule", "ups"] (spAdd P w F))
    (cK : Cm P w K mg base F.C "grown" (k + 1) ["self", "shown", "given"] (spGrown P w F m)) :
    Cm P w K mg base F.C "shown_from" (k + 2) ["self", "given"] (spFrom P w F (m + 1)) := by
  obtain ⟨f, fd, D, hm, hb⟩ := T.m_from.ex
  obtain ⟨fA, fdA, mA, GA, bA, _⟩ := cA.ex
  obtain ⟨fK, fdK, mK, GK, bK, _⟩ := cK.ex
  refine ⟨f, fd, hm, ?_, hb, fd_of D⟩
  have sc := sc_from
  refine D.ok sc (fun vs H Q E h => ?_) (fun cdv A outer s0 H vs Q E hr h => ?_)
  · obtain ⟨_, _, _, _, _, rfl, _⟩ := h
    rfl
  obtain ⟨Ts, r, g, ks, ext, rfl, S, hg, hA, he, hrb, hm', q⟩ := h
  have hu := hu_of hr
  have hr1 : Room 1 _ := hr.mono (by omega)
  refine ⟨_, pss_cons (ps_if (pt_cmp (pc_din hu (pv 1) (pe_fld (pv 0) rfl))) (pss_one (ps_ret (pe_dget hu (pe_fld (pv 0) rfl) (pv 1) (fun _ _ => rfl)))) pss_nil)
    (pss_cons (ps_set (i := 2) sc.nd rfl (Or.inl rfl) pe_dnewK)
    (pss_cons (ps_for PassesOwn.never rfl (pi_tup (pv 1)) (pg_name (i := 3) sc.nd rfl (Or.inl rfl)) (pss_one (ps_expr (pe_meth (pv 0) T.cl mA GA hr1 bA .nil pass0 (pa_cons (pv 2) (pa_cons (pv 1) (pa_cons (pv 3) (pa_cons pe_str (pa_cons (pe_tup pa_nil) pa_nil)))))))))
    (pss_cons (ps_while PassesOwn.never (pt_val (pe_meth (pv 0) T.cl mK GK hr bK .nil pass0 (pa_cons (pv 2) (pa_cons (pv 1) pa_nil)))) (pss_one ps_pass))
    (pss_cons (ps_dput hu (pe_fld (pv 0) rfl) (pv 1) (pv 2) rfl)
    (pss_one (ps_ret (pv 2))))))), ?_⟩
  have noA : (pf F.nd F.pl F.rw F.td).lookup ("add" : Str) = none := pf_no _ _ _ _ (by decide +kernel) (by decide +kernel) (by decide +kernel) (by decide +kernel)
  have noK : (pf F.nd F.pl F.rw F.td).lookup ("grown" : Str) = none := pf_no _ _ _ _ (by decide +kernel) (by decide +kernel) (by decide +kernel) (by decide +kernel)
  have hg2 : H g = some (.tup ((gK ks).map kV)) := by rw [hg, gV_kV]
  have dg := DGet.t S.ths hg2
  refine ⟨_, rfl, _, rfl, F.p, F.C, F.dx, _, _, rfl, S.ins, T.cl, T.nT, pf_t _ _ _ _, F.td, _, rfl, dg, _, rfl, ?_⟩
  cases hv : valV (Ts.map fun t => (gK t.ks, V.ref t.a)) (gK ks) with
  | some v =>
    obtain ⟨t, h1, h2, h3⟩ := th_some hv
    refine iteT ⟨_, rfl, F.p, F.C, F.dx, _, _, rfl, S.ins, T.cl, T.nT, pf_t _ _ _ _, _, rfl, F.td, v, rfl, hv ▸ dg, ?_⟩
    rw [h3]
    exact q t.a t.L H Ts r S Nx.rfl' (by rw [← h2]; exact h1) hrb
  | none =>
  refine iteF ?_
  have hno : ∀ t ∈ Ts, t.ks ≠ ks := fun t ht e => by
    have : (valV (Ts.map fun t => (gK t.ks, V.ref t.a)) (gK ks)).isSome = true := (valV_mem _ _).mpr (List.mem_map.mpr ⟨(gK t.ks, V.ref t.a), List.mem_map.mpr ⟨t, ht, rfl⟩, by rw [e]⟩)
    rw [hv] at this
    cases this
  intro d hd
  have S1 := S.new (o := .dK []) hd
  have N1 : Nx F [] ks.length H Ts _ Ts := Nx.new (o := .dK []) hd
  have O1 : Op P w F d g ks ext (upd H d (.dK [])) Ts r [] := {
    st := S1
    sh := ⟨[], upd_same, rfl⟩
    s0 := S.same.free hd
    sT := fun t ht e => by
      obtain ⟨_, e2⟩ := (S.sh t ht).1.is
      rw [e, hd] at e2
      cases e2
    g := by rw [upd_ne (ne_of_none hg hd)]; exact hg
    asc := hA
    nd := List.nodup_nil
    lt := fun i hi => (nomatch hi)
    snd := fun i hi => (nomatch hi)
    bd := by simpa using hrb
    be := he
    shv := fun kvs e p hp => by
      rw [upd_same] at e
      cases e
      cases hp }
  generalize upd H d (.dK []) = H1 at S1 N1 O1 ⊢
  refine ⟨_, rfl, g, rfl, ⟨_, SqT.of O1.g⟩, for_tup (K := K) (xs := gV ks) (fun j σ H' => ∃ (p3 : Option V) (r' : Nat) (L' : List Nat), σ = [some (.ref F.p), some (.ref g), some (.ref d), p3] ∧ Op P w F d g ks ext H' Ts r' L' ∧ Nx F [d] (ks.length + 1) H1 Ts H' Ts ∧ ∀ a i, a < j → ks[a]? = some i → i ∈ L')
    ⟨none, r, [], rfl, O1, Nx.rfl', fun a i ha => absurd ha (Nat.not_lt_zero _)⟩ ?_ ?_ ?_⟩
  · rintro j σ H' _ ⟨p3, r', L', rfl, k1, _⟩
    exact SqT.of k1.g
  · rintro j y σ H' hj ⟨p3, r', L', rfl, k1, k2, k3⟩
    rw [gV, List.getElem?_map] at hj
    obtain ⟨i, hi, rfl⟩ := Option.map_eq_some_iff.mp hj
    have hik := List.mem_of_getElem? hi
    obtain ⟨y, _, _, hy⟩ := Fx.lt_part (hA.2 i hik)
    refine ⟨_, rfl, F.p, F.dx, _, rfl, k1.st.ins, noA, _, rfl, _, rfl, _, rfl, (by show 0 ≤ sizeLine; decide), fun t5 ht5 => ?_⟩
    have O5 := k1.new (o := .tup []) ht5
    have N5 := k2.trans (Nx.new (o := .tup []) ht5)
    refine ⟨Ts, r', d, g, ks, ext, L', i, y, _, t5, [], rfl, upd_same, ⟨by simp, fun k hk => (nomatch hk)⟩, O5, hy, .given (Fx.part_P hy) ⟨i, hik, hy⟩, fun b8 H8 r8 L8 O8 N8 s8 m8 f8 t8 l8 => ?_⟩
    refine ⟨_, r8, L8, rfl, O8, N5.trans N8, fun a z ha hz => ?_⟩
    by_cases c : a = j
    · rw [c, hi] at hz
      cases hz
      exact m8
    · exact s8 _ (k3 a z (by omega) hz)
  · rintro σ H' ⟨p3, r', L', rfl, k1, k2, k3⟩
    have hk0 : ∀ i ∈ ks, i ∈ L' := fun i hi => by
      obtain ⟨a, ha⟩ := List.getElem?_of_mem hi
      exact k3 a i (by rw [gV, List.length_map]; exact (List.getElem?_eq_some_iff.mp ha).1) ha
    refine ⟨fun μ σ H2 => ∃ (T2 : List Th) (r2 : Nat) (L2 : List Nat), μ = 16 - L2.length ∧ σ = [some (.ref F.p), some (.ref g), some (.ref d), p3] ∧ Op P w F d g ks ext H2 T2 r2 L2 ∧ Nx F [d] (ks.length + 1) H1 Ts H2 T2 ∧ ∀ i ∈ ks, i ∈ L2, ⟨_, Ts, r', L', rfl, rfl, k1, k2, hk0⟩, ?_⟩
    rintro μ σ H2 ⟨T2, r2, L2, rfl, rfl, O2, N2, hk2⟩
    refine ⟨_, rfl, F.p, F.dx, _, rfl, O2.st.ins, noK, _, rfl, _, rfl, T2, r2, d, g, ks, ext, L2, rfl, O2, hk2, by omega, fun b8 H8 T8 r8 L8 O8 N8 s8 f8 t8 => ⟨b8, rfl, ?_⟩⟩
    obtain ⟨q1, q2, q3⟩ := O8.few o
    have N9 := N2.trans N8
    cases b8 with
    | true =>
      have := t8 rfl
      exact iteT ⟨fun σ' H' => ∃ μ', μ' < 16 - L2.length ∧ ∃ (T2 : List Th) (r2 : Nat) (L2 : List Nat), μ' = 16 - L2.length ∧ σ' = [some (.ref F.p), some (.ref g), some (.ref d), p3] ∧ Op P w F d g ks ext H' T2 r2 L2 ∧ Nx F [d] (ks.length + 1) H1 Ts H' T2 ∧ ∀ i ∈ ks, i ∈ L2, fun σ' H' h => h, 16 - L8.length, by omega, T8, r8, L8, rfl, rfl, O8, N9, fun i hi => s8 _ (hk2 i hi)⟩
    | false =>
      obtain ⟨e8, c8⟩ := f8 rfl
      subst e8
      have hfull := full_of o O8 hk2 c8
      have hno8 : ∀ t ∈ T8, t.ks ≠ ks := fun t ht e => by
        rcases N9.nw t ht with h | h
        · exact hno t h e
        · rw [e] at h
          omega
      have hg8 : H8 g = some (.tup ((gK ks).map kV)) := by rw [O8.g, gV_kV]
      have fw := O8.st.few o
      refine iteF ⟨_, rfl, _, rfl, F.p, F.C, F.dx, _, _, rfl, O8.st.ins, T.cl, T.nT, pf_t _ _ _ _, _, rfl, F.td, _, rfl, DPut.t O8.st.ths hg8 (by rw [List.length_map, sizeLine_eq]; omega), _, rfl, ?_⟩
      rw [th_put hno8 d L8]
      have nf : ∀ {b o}, H8 b = some o → (∀ z, o ≠ .dT z) → b ≠ F.td := fun e n => ne_of e O8.st.ths (n _)
      have sn : ∀ {a : Addr} {M : List Nat}, Sh H8 a M → a ≠ F.td := fun q => by
        obtain ⟨_, e⟩ := q.is
        exact nf e (fun z q => by cases q)
      obtain ⟨rs, hrs, hrl⟩ := O8.st.rows
      refine q d L8 _ (T8 ++ [⟨ks, d, L8⟩]) r8 ?_ ⟨fun b u e h1 h2 _ => ?_, fun b e => ?_, fun t ht => ?_, fun t ht => ?_, fun rs0 e0 => ?_⟩ (by simp) ?_
      · exact {
          same := fun b u e => by rw [upd_ne (ne_of_none e o.ht)]; exact O8.st.same b u e
          ins := by rw [upd_ne (nf O8.st.ins (fun z q => by cases q))]; exact O8.st.ins
          num := by rw [upd_ne (nf O8.st.num (fun z q => by cases q))]; exact O8.st.num
          parts := by rw [upd_ne (nf O8.st.parts (fun z q => by cases q))]; exact O8.st.parts
          rows := ⟨rs, by rw [upd_ne (nf hrs (fun z q => by cases q))]; exact hrs, hrl⟩
          ths := upd_same
          sh := fun t ht => (List.mem_append.mp ht).elim (fun h => ⟨(O8.st.sh t h).1.upd (sn (O8.st.sh t h).1), (O8.st.sh t h).2⟩) fun h => by
            rw [List.mem_singleton.mp h]
            exact ⟨O8.sh.upd (sn O8.sh), O8.s0⟩
          asc := fun t ht => (List.mem_append.mp ht).elim (O8.st.asc t) fun h => by
            rw [List.mem_singleton.mp h]
            exact ⟨hA, hfull⟩
          rok := fun rs' e j v hj => (O8.st.rok rs' (by rwa [upd_ne (nf hrs (fun z q => by cases q))] at e) j v hj).upd fun xs e => by rw [O8.st.ths] at e; cases e
          shv := fun t ht => (List.mem_append.mp ht).elim (fun h => (O8.st.shv t h).upd (sn (O8.st.sh t h).1)) fun h => by
            rw [List.mem_singleton.mp h]
            exact O8.shv.upd (sn O8.sh)
          ln := fun t ht => (List.mem_append.mp ht).elim (O8.st.ln t) fun h => by
            rw [List.mem_singleton.mp h]
            exact ⟨O8.nd, O8.lt⟩
          nd := by
            rw [List.map_append]
            refine List.nodup_append.mpr ⟨O8.st.nd, by simp, fun a ha b hb => ?_⟩
            obtain ⟨t, ht, rfl⟩ := List.mem_map.mp ha
            have : b = ks := by simpa using hb
            rw [this]
            exact hno8 t ht }
      · rw [upd_ne h2]
        have hbd : b ≠ d := ne_of_none e hd
        exact N9.fr b u (N1.fr b u e h1 h2 (by simp)) h1 h2 (by simpa using hbd)
      · by_cases c : b = F.td
        · rw [c, upd_same] at e; cases e
        · rw [upd_ne c] at e
          exact N1.al b (N9.al b e)
      · exact List.mem_append_left _ (N9.tt t ht)
      · rcases List.mem_append.mp ht with h | h
        · exact (N9.nw t h).imp id fun z => ⟨N1.al _ z.1, by omega⟩
        · rw [List.mem_singleton.mp h]
          exact .inr ⟨hd, Nat.le_refl _⟩
      · obtain ⟨rs1, e1, l1⟩ := N1.rl rs0 e0
        obtain ⟨rs2, e2, l2⟩ := N9.rl rs1 e1
        exact ⟨rs2, by rw [upd_ne (nf e2 (fun z q => by cases q))]; exact e2, by omega⟩
      · have := O8.bd
        rw [List.length_append, List.length_singleton]
        omega
end
end My

set_option Elab.async false
set_option linter.all false
set_option maxRecDepth 100000
set_option maxHeartbeats 2000000
/-! shown_from at every depth; the parts gathered -/
namespace My
open PySem PySem.Spec L2 PyProof.Rows
section
variable {P : Program} {w : World} {K : PySem.W.Frag} {mg : Str → Option Value} {base : Heap}
theorem from_all {F : Fx} (T : TxS K mg F.C) (o : FxOk P w K F) : ∀ m, Cm P w K mg base F.C "shown_from" (4 * m + 1) ["self", "given"] (spFrom P w F m)
  | 0 => by
    obtain ⟨f, fd, D, hm, hb⟩ := T.m_from.ex
    have no : ∀ vs H Q E, ¬ spFrom P w F 0 vs H Q E := fun vs H Q E h => by
      obtain ⟨_, _, _, ks, _, _, _, _, hA, _, _, h1, _⟩ := h
      have := few_of (asc_nodup hA) hA.2
      omega
    exact ⟨f, fd, hm, ⟨fun vs H Q E h => absurd h (no vs H Q E), fun A outer s H args us vs Q E _ _ _ _ h => absurd h (no vs H Q E)⟩, hb, fd_of D⟩
  | m + 1 => by
    have ih := from_all T o m
    have cA := ok_add (P := P) (w := w) (base := base) T o
    have cN := ok_nums (P := P) (w := w) (base := base) T o
    have cW := ok_with (P := P) (w := w) (base := base) T
    have cU := ok_put (k := 4 * m) T o cA cN cW ih
    have cB := ok_lead (k := 4 * m) T o cA cN cW ih
    have cC := ok_cases (k := 4 * m + 1) T o cN cB
    have cK := ok_taken T o cA cN
    have cG := ok_grown (k := 4 * m) T o cK cU cC
    exact ok_from (k := 4 * m + 3) T o cA cG
theorem Cm.all {C : Addr} {m q : Str} {st : Stmt} {k : Nat} {ps : List Str} {sp : Fx → Sp} (D : MethAt K C m q st ps) (h : ∀ F, F.C = C → FxOk P w K F → Cm P w K mg base C m k ps (sp F)) : Cm P w K mg base C m k ps (fun vs H Q E => ∃ F, F.C = C ∧ FxOk P w K F ∧ sp F vs H Q E) := by
  obtain ⟨f, fd, Fn, hm, hb⟩ := D.ex
  have get : ∀ F, F.C = C → FxOk P w K F → FnOk P w K mg base CX0 k f fd ps (sp F) := fun F e o => by
    obtain ⟨f', fd', hm', G, _, hf⟩ := (h F e o).ex
    have e1 := hm.at_.symm.trans hm'.at_
    cases e1
    rw [(fd_of Fn).inj hf]
    exact G
  refine ⟨f, fd, hm, ⟨fun vs H Q E h => ?_, fun A outer s H args us vs Q E h1 h2 h3 h4 h => ?_⟩, hb, fd_of Fn⟩
  · obtain ⟨F, e, o, h⟩ := h
    exact (get F e o).len vs H Q E h
  · obtain ⟨F, e, o, h⟩ := h
    exact (get F e o).run A outer s H args us vs Q E h1 h2 h3 h4 h
/-! the parts, gathered -/
def gathS : Stm → List Stm → List Stm
  | .nm z, l => if .nm z ∈ l then l else l ++ [.nm z]
  | .fl, l => if .fl ∈ l then l else l ++ [.fl]
  | .bin o a b, l => if .bin o a b ∈ l then l else gathS b (gathS a l) ++ [.bin o a b]
theorem gathS_in : ∀ (x : Stm) (l : List Stm), x ∈ l → gathS x l = l
  | .nm z, l, h => by rw [gathS, if_pos h]
  | .fl, l, h => by rw [gathS, if_pos h]
  | .bin o a b, l, h => by rw [gathS, if_pos h]
theorem gathS_sub : ∀ (x : Stm) (l : List Stm) (y : Stm), y ∈ l → y ∈ gathS x l
  | .nm z, l, y, h => by rw [gathS]; split <;> simp [h]
  | .fl, l, y, h => by rw [gathS]; split <;> simp [h]
  | .bin o a b, l, y, h => by
    rw [gathS]
    split
    · exact h
    · exact List.mem_append_left _ (gathS_sub b _ y (gathS_sub a _ y h))
theorem gathS_self (x : Stm) (l : List Stm) : x ∈ gathS x l := by
  by_cases h : x ∈ l
  · rw [gathS_in x l h]; exact h
  · cases x <;> rw [gathS, if_neg h] <;> simp
theorem gathS_from : ∀ (x : Stm) (l : List Stm) (y : Stm), y ∈ gathS x l → y ∈ l ∨ y.depth ≤ x.depth
  | .nm z, l, y, h => by
    rw [gathS] at h
    split at h
    · exact .inl h
    · exact (List.mem_append.mp h).imp id fun h => by rw [List.mem_singleton.mp h]; exact Nat.le_refl _
  | .fl, l, y, h => by
    rw [gathS] at h
    split at h
    · exact .inl h
    · exact (List.mem_append.mp h).imp id fun h => by rw [List.mem_singleton.mp h]; exact Nat.le_refl _
  | .bin o a b, l, y, h => by
    rw [gathS] at h
    split at h
    · exact .inl h
    · rcases List.mem_append.mp h with h | h
      · rcases gathS_from b _ y h with h | h
        · rcases gathS_from a _ y h with h | h
          · exact .inl h
          · exact .inr (by simp only [Stm.depth]; omega)
        · exact .inr (by simp only [Stm.depth]; omega)
      · rw [List.mem_singleton.mp h]; exact .inr (Nat.le_refl _)
theorem gathS_not {o : W3} {a b : Stm} {l : List Stm} (h : .bin o a b ∉ l) : .bin o a b ∉ gathS b (gathS a l) := fun k => by
  rcases gathS_from b _ _ k with k | k
  · rcases gathS_from a _ _ k with k | k
    · exact h k
    · simp only [Stm.depth] at k; omega
  · simp only [Stm.depth] at k; omega
theorem nodup_snoc {α : Type} {l : List α} {x : α} (h : l.Nodup) (k : x ∉ l) : (l ++ [x]).Nodup := List.nodup_append.mpr ⟨h, by simp, fun a ha b hb => by rw [List.mem_singleton.mp hb]; exact fun e => k (e ▸ ha)⟩
theorem gathS_nodup : ∀ (x : Stm) (l : List Stm), l.Nodup → (gathS x l).Nodup
  | .nm z, l, h => by
    rw [gathS]; split
    · exact h
    · exact nodup_snoc h (by assumption)
  | .fl, l, h => by
    rw [gathS]; split
    · exact h
    · exact nodup_snoc h (by assumption)
  | .bin o a b, l, h => by
    rw [gathS]; split
    · exact h
    · exact nodup_snoc (gathS_nodup b _ (gathS_nodup a _ h)) (gathS_not (by assumption))
theorem gathS_len : ∀ (x : Stm) (l : List Stm), l.length ≤ (gathS x l).length
  | .nm z, l => by rw [gathS]; split <;> simp
  | .fl, l => by rw [gathS]; split <;> simp
  | .bin o a b, l => by
    have h1 := gathS_len a l
    have h2 := gathS_len b (gathS a l)
    rw [gathS]; split
    · exact Nat.le_refl _
    · rw [List.length_append]; omega
def ClL (l : List Stm) : Prop := ∀ o a b, .bin o a b ∈ l → a ∈ l ∧ b ∈ l
theorem gathS_cl : ∀ (x : Stm) (l : List Stm), ClL l → ClL (gathS x l)
  | .nm z, l, h => by
    rw [gathS]; split
    · exact h
    · intro o a b k
      rcases List.mem_append.mp k with k | k
      · exact ⟨List.mem_append_left _ (h o a b k).1, List.mem_append_left _ (h o a b k).2⟩
      · cases List.mem_singleton.mp k
  | .fl, l, h => by
    rw [gathS]; split
    · exact h
    · intro o a b k
      rcases List.mem_append.mp k with k | k
      · exact ⟨List.mem_append_left _ (h o a b k).1, List.mem_append_left _ (h o a b k).2⟩
      · cases List.mem_singleton.mp k
  | .bin o a b, l, h => by
    rw [gathS]; split
    · exact h
    · have h2 := gathS_cl b _ (gathS_cl a _ h)
      intro o' a' b' k
      rcases List.mem_append.mp k with k | k
      · exact ⟨List.mem_append_left _ (h2 o' a' b' k).1, List.mem_append_left _ (h2 o' a' b' k).2⟩
      · cases List.mem_singleton.mp k
        exact ⟨List.mem_append_left _ (gathS_sub b _ _ (gathS_self a l)), List.mem_append_left _ (gathS_self b _)⟩
theorem gathS_last (x : Stm) : ∃ l, gathS x [] = l ++ [x] := by
  cases x with
  | nm z => exact ⟨[], rfl⟩
  | fl => exact ⟨[], rfl⟩
  | bin o a b => exact ⟨_, by rw [gathS, if_neg (by simp)]⟩
/-- gathered(statement, found) -/
def Keys (K : PySem.W.Frag) (H0 : Hp) (es : List (Stm × Addr)) : Prop := ∀ e ∈ es, SL e.1 ∧ DL.Dp K H0 (.ref e.2) e.1.enc
def spGath (P : Program) (w : World) (K : PySem.W.Frag) (d : Nat) : Sp := fun vs H Q _ => ∃ (H0 : Hp) (t nd : Addr) (es : List (Stm × Addr)) (x : Stm), vs = [.ref t, .ref nd] ∧ Same H0 H ∧ H0 nd = none ∧ H nd = some (numO P w nd es) ∧ Keys K H0 es ∧ SL x ∧ x.depth ≤ d ∧ DL.Dp K H0 (.ref t) x.enc ∧ (gathS x (es.map (·.1))).length ≤ 1000 ∧
  ∀ es', Keys K H0 es' → es'.map (·.1) = gathS x (es.map (·.1)) → Q .non (upd H nd (numO P w nd es'))
abbrev sGath : Stmt := topS 5
theorem sc_gath : FnScope ["statement", "found"] ["statement", "found"] (defScope sGath) := ⟨rfl, rfl, rfl, by decide +kernel, rfl, by decide +kernel, by decide +kernel⟩
theorem same_upd {H0 H : Hp} {nd : Addr} {o : HO} (h : Same H0 H) (h0 : H0 nd = none) : Same H0 (upd H nd o) := fun b u e => by rw [upd_ne (ne_of_none e h0)]; exact h b u e
theorem inV3 (x : Str) : inV (.str x) ((["and", "or", "then"] : List Str).map V.str) = (("and" : Str) == x || (("or" : Str) == x || ("then" : Str) == x)) := by
  show ((("and" : Str) == x) || ((("or" : Str) == x) || ((("then" : Str) == x) || false))) = _
  rw [Bool.or_false]
theorem w_in3 {x : Str} {b : Bool} (h : (("and" : Str) == x || (("or" : Str) == x || ("then" : Str) == x)) = b) : V.bl (if false = true then !inV (.str x) ((["and", "or", "then"] : List Str).map V.str) else inV (.str x) ((["and", "or", "then"] : List Str).map V.str)) = V.bl b := by
  rw [if_neg (by decide), inV3, h]
theorem upd_self {H : Hp} {a : Addr} {o : HO} (h : H a = some o) : upd H a o = H := by
  funext b
  by_cases c : b = a
  · rw [c, upd_same, h]
  · rw [upd_ne c]
theorem numAt_of {H0 H : Hp} {nd : Addr} {es : List (Stm × Addr)} (S : Same H0 H) (h : H nd = some (numO P w nd es)) (k : Keys K H0 es) : NumAt P w K H nd es := ⟨h, fun e he => ⟨(k e he).1, DL.dp_mono S _ _ (k e he).2⟩⟩
theorem SL.l {o : W3} {a b : Stm} (h : SL (.bin o a b)) : SL a := ⟨h.1.1, by have := h.2; simp only [Stm.depth] at this; omega⟩
theorem SL.r {o : W3} {a b : Stm} (h : SL (.bin o a b)) : SL b := ⟨h.1.2, by have := h.2; simp only [Stm.depth] at this; omega⟩
theorem ok_gath {f : Addr} {fd : FuncData} (D : L2.Fun K "gathered" "gathered" sGath f fd) (hm : mg "gathered" = some (.ref f)) (hb : Binds K fd ["statement", "found"] []) (gP : DL.GlT K mg "PAIRS" ["and", "or", "then"]) (zl : mg "len" = none) :
    ∀ d, FnOk P w K mg base CX0 d f fd ["statement", "found"] (spGath P w K d)
  | 0 => by
    have no : ∀ vs H Q E, ¬ spGath P w K 0 vs H Q E := fun vs H Q E h => by
      obtain ⟨_, _, _, _, x, _, _, _, _, _, _, h1, _⟩ := h
      have := Stm.depth_pos x
      omega
    exact ⟨fun vs H Q E h => absurd h (no vs H Q E), fun A outer s H args us vs Q E _ _ _ _ h => absurd h (no vs H Q E)⟩
  | d + 1 => by
    have G := ok_gath D hm hb gP zl d
    obtain ⟨aP, _, mP, hP, _⟩ := gP.at_
    have sc := sc_gath
    refine D.ok sc (fun vs H Q E h => ?_) (fun cdv A outer s0 H vs Q E hr h => ?_)
    · obtain ⟨_, _, _, _, _, rfl, _⟩ := h
      rfl
    obtain ⟨H0, t, nd, es, x, rfl, S, n0, hN, hK, sx, dx, hx, hz, q⟩ := h
    have hu9 := units9 hr
    refine ⟨_, pss_cons (ps_if (pt_cmpR (op_numIn hu9) (pv 0) (pv 1) rfl) (pss_one ps_retN) pss_nil)
      (pss_cons (ps_if (pt_cmpR op_in_seq (pe_ix ix_tup (pv 0) pe_int (fun _ _ => rfl)) (pe_glob (v := .ref aP) rfl mP rfl) rfl)
        (pss_cons (ps_expr (pe_call G hr rfl hm D.kp hb .nil pass0 (pa_cons (pe_ix ix_tup (pv 0) pe_int (fun _ _ => rfl)) (pa_cons (pv 1) pa_nil))))
          (pss_one (ps_expr (pe_call G hr rfl hm D.kp hb .nil pass0 (pa_cons (pe_ix ix_tup (pv 0) pe_int (fun _ _ => rfl)) (pa_cons (pv 1) pa_nil)))))) pss_nil)
      (pss_one (ps_asg (pe_callB call_lenNum (by rfl) zl PySem.boot_len (pa_cons (pv 1) pa_nil)) (pg_sub (pv 1) (pv 0) (set_num hu9))))), ?_⟩
    have hNA := numAt_of S hN hK
    have hx' := DL.dp_mono S _ _ hx
    refine ⟨_, rfl, _, rfl, t, nd, x, es, rfl, rfl, hNA, sx, hx', _, rfl, ite2 (fun c => ?_) (fun c => ?_)⟩
    · have c := of_decide_eq_true c
      have := q es hK (gathS_in _ _ c).symm
      rw [upd_self hN] at this
      exact this
    have c : x ∉ es.map (·.1) := of_decide_eq_false (Bool.eq_false_iff.mpr c)
    obtain ⟨t', xs, e, h5, h6⟩ := dp_word hx'
    cases e
    have fin : ∀ (es1 : List (Stm × Addr)) (H1 : Hp), H1 = upd H nd (numO P w nd es1) → Keys K H0 es1 → x ∉ es1.map (·.1) → es1.length < 1000 → es1.map (·.1) ++ [x] = gathS x (es.map (·.1)) → Same H0 H1 ∧ NumAt P w K H1 nd es1 ∧ DL.Dp K H1 (.ref t) x.enc ∧ es1.length ≤ sizeLine ∧ es1.length < sizeLine ∧ Q .non (upd H1 nd (numO P w nd (es1 ++ [(x, t)]))) := fun es1 H1 e hK1 hn hl he => by
      subst e
      have S1 := same_upd (o := numO P w nd es1) S n0
      refine ⟨S1, numAt_of S1 upd_same hK1, DL.dp_mono S1 _ _ hx, by rw [sizeLine_eq]; omega, by rw [sizeLine_eq]; omega, ?_⟩
      rw [upd_upd]
      refine q _ (fun e' he' => ?_) (by rw [List.map_append]; exact he)
      rcases List.mem_append.mp he' with h | h
      · exact hK1 e' h
      · rw [List.mem_singleton.mp h]
        exact ⟨sx, hx⟩
    refine ⟨_, rfl, t, xs, _, _, rfl, rfl, h5, h6, aP, _, rfl, .inr (hP _), rfl, rfl, ?_⟩
    cases x with
    | nm z =>
      refine ⟨false, w_in3 (by show (("and" : Str) == "name" || (("or" : Str) == "name" || ("then" : Str) == "name")) = false; decide +kernel), iteF ?_⟩
      have e : es.map (·.1) ++ [.nm z] = gathS (.nm z) (es.map (·.1)) := by rw [gathS, if_neg c]
      rw [← e, List.length_append, List.length_map, List.length_singleton] at hz
      obtain ⟨S1, k1, k2, k3, k4, k5⟩ := fin es H (upd_self hN).symm hK c (by omega) e
      exact ⟨_, rfl, nd, es, rfl, k1, k3, _, rfl, _, rfl, nd, t, _, es, rfl, rfl, rfl, k1, sx, k2, c, k4, k5⟩
    | fl =>
      refine ⟨false, w_in3 (by show (("and" : Str) == "false" || (("or" : Str) == "false" || ("then" : Str) == "false")) = false; decide +kernel), iteF ?_⟩
      have e : es.map (·.1) ++ [.fl] = gathS .fl (es.map (·.1)) := by rw [gathS, if_neg c]
      rw [← e, List.length_append, List.length_map, List.length_singleton] at hz
      obtain ⟨S1, k1, k2, k3, k4, k5⟩ := fin es H (upd_self hN).symm hK c (by omega) e
      exact ⟨_, rfl, nd, es, rfl, k1, k3, _, rfl, _, rfl, nd, t, _, es, rfl, rfl, rfl, k1, sx, k2, c, k4, k5⟩
    | bin z a b =>
      have hw : (("and" : Str) == z.word || (("or" : Str) == z.word || ("then" : Str) == z.word)) = true := by cases z <;> decide +kernel
      obtain ⟨t', ta, tb, e, g5, g6, g7⟩ := dp_bin hx
      cases e
      have e : gathS b (gathS a (es.map (·.1))) ++ [.bin z a b] = gathS (.bin z a b) (es.map (·.1)) := by rw [gathS, if_neg c]
      have hz' := hz
      rw [← e, List.length_append, List.length_singleton] at hz'
      have hz2 := gathS_len b (gathS a (es.map (·.1)))
      refine ⟨true, w_in3 hw, iteT ?_⟩
      refine ⟨_, rfl, t, _, _, _, rfl, rfl, DL.sqT_same S g5, atI_nat (j := 1) rfl, _, rfl, H0, ta, nd, es, a, rfl, S, n0, hN, hK, sx.l, by simp only [Stm.depth] at dx; omega, g6, by omega, fun es1 hK1 e1 => ?_⟩
      have S1 := same_upd (o := numO P w nd es1) S n0
      refine ⟨_, rfl, t, _, _, _, rfl, rfl, DL.sqT_same S1 g5, atI_nat (j := 2) rfl, _, rfl, H0, tb, nd, es1, b, rfl, S1, n0, upd_same, hK1, sx.r, by simp only [Stm.depth] at dx; omega, g7, by rw [e1]; omega, fun es2 hK2 e2 => ?_⟩
      rw [e1] at e2
      rw [upd_upd]
      have c2 : .bin z a b ∉ es2.map (·.1) := by rw [e2]; exact gathS_not c
      obtain ⟨S2, k1, k2, k3, k4, k5⟩ := fin es2 _ rfl hK2 c2 (by rw [← List.length_map (f := (·.1)), e2]; omega) (by rw [e2]; exact e)
      exact ⟨_, rfl, nd, es2, rfl, k1, k3, _, rfl, _, rfl, nd, t, _, es2, rfl, rfl, rfl, k1, sx, k2, c2, k4, k5⟩
end
end My

set_option Elab.async false
set_option linter.all false
set_option maxRecDepth 100000
set_option maxHeartbeats 2000000
/-! numbered, Search.__init__, is_shown -/
namespace My
open PySem PySem.Spec L2 PyProof.Rows
abbrev sNumd : Stmt := topS 6
abbrev sShown : Stmt := topS 17
theorem sc_numd : FnScope ["statement", "found"] ["statement"] (defScope sNumd) := ⟨rfl, rfl, rfl, by decide +kernel, rfl, by decide +kernel, by decide +kernel⟩
theorem sc_init : FnScope ["self", "statement"] ["self", "statement"] (defScope mInit) := ⟨rfl, rfl, rfl, by decide +kernel, rfl, by decide +kernel, by decide +kernel⟩
theorem sc_shown : FnScope ["statement", "search"] ["statement"] (defScope sShown) := ⟨rfl, rfl, rfl, by decide +kernel, rfl, by decide +kernel, by decide +kernel⟩
section
variable {P : Program} {w : World} {K : PySem.W.Frag} {mg : Str → Option Value} {base : Heap}
theorem ps_never {X : Cx} {st : Stmt} : PS X st (fun _ _ _ => False) := ⟨fun pins s σ H D I q => q.elim⟩
def spNumd (P : Program) (w : World) (K : PySem.W.Frag) : Sp := fun vs H Q _ => ∃ H0 t x, vs = [.ref t] ∧ Same H0 H ∧ SL x ∧ DL.Dp K H0 (.ref t) x.enc ∧ (gathS x []).length ≤ 1000 ∧ ∀ nd es, H nd = none → Keys K H0 es → es.map (·.1) = gathS x [] → Q (.ref nd) (upd H nd (numO P w nd es))
theorem ok_numd {f g : Addr} {fd gd : FuncData} (D : L2.Fun K "numbered" "numbered" sNumd f fd) (DG : L2.Fun K "gathered" "gathered" sGath g gd) (hg : mg "gathered" = some (.ref g)) (bg : Binds K gd ["statement", "found"] []) (G : FnOk P w K mg base CX0 8 g gd ["statement", "found"] (spGath P w K 8)) :
    FnOk P w K mg base CX0 9 f fd ["statement"] (spNumd P w K) := by
  have sc := sc_numd
  refine D.ok sc (fun vs H Q E h => ?_) (fun cdv A outer s0 H vs Q E hr h => ?_)
  · obtain ⟨_, _, _, rfl, _⟩ := h
    rfl
  obtain ⟨H0, t, x, rfl, S, sx, hx, hz, q⟩ := h
  refine ⟨_, pss_cons (ps_set (i := 1) sc.nd rfl (Or.inl rfl) pe_numNew) (pss_cons (ps_expr (pe_call G hr rfl hg DG.kp bg .nil pass0 (pa_cons (pv 0) (pa_cons (pv 1) pa_nil)))) (pss_one (ps_ret (pv 1)))), ?_⟩
  intro nd hnd
  refine ⟨_, rfl, _, rfl, H0, t, nd, [], x, rfl, S.trans (same_new hnd _), S.free hnd, upd_same, fun e he => (nomatch he), sx, sx.2, hx, hz, fun es hK he => ?_⟩
  refine ⟨_, rfl, ?_⟩
  rw [upd_upd]
  exact q nd es hnd hK he
def spInit (P : Program) (w : World) (K : PySem.W.Frag) (C : Addr) : Sp := fun vs H Q _ => ∃ (H0 : Hp) (p dx t : Addr) (x : Stm), vs = [.ref p, .ref t] ∧ Same H0 H ∧ H0 p = none ∧ H p = some (.ins C dx []) ∧ SL x ∧ DL.Dp K H0 (.ref t) x.enc ∧ (gathS x []).length ≤ 16 ∧
  ∀ F H', F.C = C → F.H0 = H0 → F.p = p → FxOk P w K F → St P w F H' [] 0 → F.es.map (·.1) = gathS x [] → Q .non H'
theorem pf_put (n l r t : Addr) : putF "theories" (V.ref t) (putF "rows" (.ref r) (putF "parts" (.ref l) (putF "numbers" (.ref n) []))) = pf n l r t := rfl
theorem ok_init {C f g : Addr} {fd gd : FuncData} (T : TxS K mg C) (D : L2.Fun K "__init__" "Search.__init__" mInit f fd) (DN : L2.Fun K "numbered" "numbered" sNumd g gd) (hn : mg "numbered" = some (.ref g)) (bN : Binds K gd ["statement"] []) (GN : FnOk P w K mg base CX0 9 g gd ["statement"] (spNumd P w K))
    {tM : Tok} (hM : mg "MOST_PARTS" = some (.int 16 tM)) : FnOk P w K mg base CX0 10 f fd ["self", "statement"] (spInit P w K C) := by
  have sc := sc_init
  refine D.ok sc (fun vs H Q E h => ?_) (fun cdv A outer s0 H vs Q E hr h => ?_)
  · obtain ⟨_, _, _, _, _, rfl, _⟩ := h
    rfl
  obtain ⟨H0, p, dx, t, x, rfl, S, p0, hp, sx, hx, hz, q⟩ := h
  refine ⟨_, pss_cons (ps_fld (pv 0) (pe_call GN hr rfl hn DN.kp bN .nil pass0 (pa_cons (pv 1) pa_nil)) rfl)
    (pss_cons (ps_if (pt_cmpR op_gt (pe_callB call_lenNum (by rfl) T.z_len PySem.boot_len (pa_cons (pe_fld (pv 0) rfl) pa_nil)) (pe_glob (v := .int 16) rfl hM ⟨_, rfl⟩) (nomark _)) (pss_one ps_never) pss_nil)
    (pss_cons (ps_fld (pv 0) (pe_callTy (call_listNum rfl) (by rfl) T.z_list (by decide +kernel) (pa_cons (pe_fld (pv 0) rfl) pa_nil)) rfl)
    (pss_cons (ps_fld (pv 0) (pe_lst pa_nil) rfl)
    (pss_one (ps_fld (pv 0) pe_dnewT rfl))))), ?_⟩
  have hz' : (gathS x []).length ≤ 1000 := by omega
  refine ⟨_, rfl, H0, t, x, rfl, S, sx, hx, hz', fun nd es hnd hK he => ?_⟩
  have npd : p ≠ nd := ne_of_none hp hnd
  have hl : es.length ≤ 16 := by rw [← List.length_map (f := (·.1)), he]; exact hz
  refine ⟨_, rfl, p, C, dx, [], rfl, (by rw [upd_ne npd]; exact hp), T.cl, T.nN, (by show 0 < 1000; decide), ?_⟩
  have n0 : H0 nd = none := S.free hnd
  have S1 : Same H0 (upd (upd H nd (numO P w nd es)) p (.ins C dx (putF "numbers" (.ref nd) []))) := same_upd (same_upd S n0) p0
  have N1 : (upd (upd H nd (numO P w nd es)) p (.ins C dx (putF "numbers" (.ref nd) []))) nd = some (numO P w nd es) := by rw [upd_ne npd.symm, upd_same]
  have P1 : (upd (upd H nd (numO P w nd es)) p (.ins C dx (putF "numbers" (.ref nd) []))) p = some (.ins C dx (putF "numbers" (.ref nd) [])) := upd_same
  have L1 : (putF "numbers" (V.ref nd) []).lookup ("numbers" : Str) = some (.ref nd) := by rw [lookup_putF, if_pos rfl]
  generalize upd (upd H nd (numO P w nd es)) p (.ins C dx (putF "numbers" (.ref nd) [])) = H1 at S1 N1 P1 ⊢
  have A1 := numAt_of S1 N1 hK
  refine ⟨_, rfl, p, C, dx, _, _, rfl, P1, T.cl, T.nN, L1, nd, es, rfl, A1, by rw [sizeLine_eq]; omega, _, _, rfl, rfl, false, congrArg V.bl (decide_eq_false (by omega)), iteF ?_⟩
  refine ⟨_, rfl, p, C, dx, _, _, rfl, P1, T.cl, T.nN, L1, nd, es, rfl, A1, by rw [sizeLine_eq]; omega, fun pl hpl => ?_⟩
  have npl : p ≠ pl := ne_of_none P1 hpl
  have ndl : nd ≠ pl := ne_of_none N1 hpl
  have pl0 : H0 pl = none := S1.free hpl
  refine ⟨_, rfl, p, C, dx, _, rfl, (by rw [upd_ne npl]; exact P1), T.cl, T.nP, (by show 1 < 1000; decide), ?_⟩
  have S2 : Same H0 (upd (upd H1 pl (.lst (es.map fun e => V.ref e.2))) p (.ins C dx (putF "parts" (.ref pl) (putF "numbers" (.ref nd) [])))) := same_upd (same_upd S1 pl0) p0
  have N2 : (upd (upd H1 pl (.lst (es.map fun e => V.ref e.2))) p (.ins C dx (putF "parts" (.ref pl) (putF "numbers" (.ref nd) [])))) nd = some (numO P w nd es) := by rw [upd_ne npd.symm, upd_ne ndl]; exact N1
  have E2 : (upd (upd H1 pl (.lst (es.map fun e => V.ref e.2))) p (.ins C dx (putF "parts" (.ref pl) (putF "numbers" (.ref nd) [])))) pl = some (.lst (es.map fun e => V.ref e.2)) := by rw [upd_ne npl.symm, upd_same]
  have P2 : (upd (upd H1 pl (.lst (es.map fun e => V.ref e.2))) p (.ins C dx (putF "parts" (.ref pl) (putF "numbers" (.ref nd) [])))) p = some (.ins C dx (putF "parts" (.ref pl) (putF "numbers" (.ref nd) []))) := upd_same
  generalize upd (upd H1 pl (.lst (es.map fun e => V.ref e.2))) p (.ins C dx (putF "parts" (.ref pl) (putF "numbers" (.ref nd) []))) = H2 at S2 N2 E2 P2 ⊢
  refine ⟨(by show 0 ≤ sizeLine; decide), fun rw' hrw => ?_⟩
  have npr : p ≠ rw' := ne_of_none P2 hrw
  have ndr : nd ≠ rw' := ne_of_none N2 hrw
  have plr : pl ≠ rw' := ne_of_none E2 hrw
  have rw0 : H0 rw' = none := S2.free hrw
  refine ⟨_, rfl, p, C, dx, _, rfl, (by rw [upd_ne npr]; exact P2), T.cl, T.nR, (by show 2 < 1000; decide), ?_⟩
  have S3 : Same H0 (upd (upd H2 rw' (.lst [])) p (.ins C dx (putF "rows" (.ref rw') (putF "parts" (.ref pl) (putF "numbers" (.ref nd) []))))) := same_upd (same_upd S2 rw0) p0
  have N3 : (upd (upd H2 rw' (.lst [])) p (.ins C dx (putF "rows" (.ref rw') (putF "parts" (.ref pl) (putF "numbers" (.ref nd) []))))) nd = some (numO P w nd es) := by rw [upd_ne npd.symm, upd_ne ndr]; exact N2
  have E3 : (upd (upd H2 rw' (.lst [])) p (.ins C dx (putF "rows" (.ref rw') (putF "parts" (.ref pl) (putF "numbers" (.ref nd) []))))) pl = some (.lst (es.map fun e => V.ref e.2)) := by rw [upd_ne npl.symm, upd_ne plr]; exact E2
  have R3 : (upd (upd H2 rw' (.lst [])) p (.ins C dx (putF "rows" (.ref rw') (putF "parts" (.ref pl) (putF "numbers" (.ref nd) []))))) rw' = some (.lst []) := by rw [upd_ne npr.symm, upd_same]
  have P3 : (upd (upd H2 rw' (.lst [])) p (.ins C dx (putF "rows" (.ref rw') (putF "parts" (.ref pl) (putF "numbers" (.ref nd) []))))) p = some (.ins C dx (putF "rows" (.ref rw') (putF "parts" (.ref pl) (putF "numbers" (.ref nd) [])))) := upd_same
  generalize upd (upd H2 rw' (.lst [])) p (.ins C dx (putF "rows" (.ref rw') (putF "parts" (.ref pl) (putF "numbers" (.ref nd) [])))) = H3 at S3 N3 E3 R3 P3 ⊢
  intro td htd
  have npt : p ≠ td := ne_of_none P3 htd
  have ndt : nd ≠ td := ne_of_none N3 htd
  have plt : pl ≠ td := ne_of_none E3 htd
  have rwt : rw' ≠ td := ne_of_none R3 htd
  have td0 : H0 td = none := S3.free htd
  refine ⟨_, rfl, p, C, dx, _, rfl, (by rw [upd_ne npt]; exact P3), T.cl, T.nT, (by show 3 < 1000; decide), ?_⟩
  have hcl : ClL (gathS x []) := gathS_cl x [] fun o a b h => (nomatch h)
  refine q ⟨H0, C, p, dx, nd, pl, rw', td, es⟩ _ rfl rfl rfl ⟨p0, n0, pl0, rw0, td0, plr, hK, by show (es.map (·.1)).Nodup; rw [he]; exact gathS_nodup x [] List.nodup_nil, ⟨fun {o a b} h => ?_, fun {o a b} h => ?_⟩, hl⟩ ?_ he
  · have h : Stm.bin o a b ∈ es.map (·.1) := h
    show a ∈ es.map (·.1)
    rw [he] at h ⊢
    exact (hcl o a b h).1
  · have h : Stm.bin o a b ∈ es.map (·.1) := h
    show b ∈ es.map (·.1)
    rw [he] at h ⊢
    exact (hcl o a b h).2
  · exact {
      same := same_upd (same_upd S3 td0) p0
      ins := upd_same
      num := by show upd _ p _ nd = _; rw [upd_ne npd.symm, upd_ne ndt]; exact N3
      parts := by show upd _ p _ pl = _; rw [upd_ne npl.symm, upd_ne plt]; exact E3
      rows := ⟨[], by show upd _ p _ rw' = _; rw [upd_ne npr.symm, upd_ne rwt]; exact R3, rfl⟩
      ths := by show upd _ p _ td = _; rw [upd_ne npt.symm, upd_same]; rfl
      sh := fun t ht => (nomatch ht)
      asc := fun t ht => (nomatch ht)
      nd := List.nodup_nil
      rok := fun rs e j v hj => by
        have : upd (upd H3 td (.dT [])) p (.ins C dx (pf nd pl rw' td)) rw' = some (.lst []) := by rw [upd_ne npr.symm, upd_ne rwt]; exact R3
        have e2 := e.symm.trans this
        cases e2
        cases hj
      shv := fun t ht => (nomatch ht)
      ln := fun t ht => (nomatch ht) }
end
end My

set_option Elab.async false
set_option linter.all false
set_option maxRecDepth 100000
set_option maxHeartbeats 2000000
/-! is_shown -/
namespace My
open PySem PySem.Spec L2 PyProof.Rows
theorem enc_inj {x y : Stm} (h : x.enc = y.enc) : x = y := keyOf_inj ((dk_enc x).1.symm.trans ((congrArg dk h).trans (dk_enc y).1))
/-- what is_shown is read as -/
noncomputable def shownD (d : PyData) : DL.Res PyData := open Classical in if h : ∃ x : Stm, d = x.enc ∧ SL x ∧ (gathS x []).length ≤ 16 then .ok (.bool (decide (Valid h.choose))) else .bad
noncomputable def semShown : List PyData → DL.Res PyData
  | [d] => shownD d
  | _ => .bad
theorem semShown_at {x : Stm} (s : SL x) (h : (gathS x []).length ≤ 16) : semShown [x.enc] = .ok (.bool (open Classical in decide (Valid x))) := by
  have hx : ∃ y : Stm, x.enc = y.enc ∧ SL y ∧ (gathS y []).length ≤ 16 := ⟨x, rfl, s, h⟩
  show shownD x.enc = _
  unfold shownD
  rw [dif_pos hx]
  have e : hx.choose = x := (enc_inj hx.choose_spec.1).symm
  rw [e]
structure TxI (K : PySem.W.Frag) (mg : Str → Option Value) (C : Addr) : Prop where
  base : TxS K mg C
  d_gath : DL.DefAt K mg "gathered" sGath ["statement", "found"]
  d_numd : DL.DefAt K mg "numbered" sNumd ["statement"]
  d_shown : DL.DefAt K mg "is_shown" sShown ["statement"]
  m_init : MethAt K C "__init__" "Search.__init__" mInit ["self", "statement"]
  makes : PySem.W.makesIn K C = true
  kc : PySem.W.keepIn K (.ref C) = true
  hC : mg "Search" = some (.ref C)
  gP : DL.GlT K mg "PAIRS" ["and", "or", "then"]
  gM : ∃ t, mg "MOST_PARTS" = some (.int 16 t)
section
variable {P : Program} {w : World} {K : PySem.W.Frag} {mg : Str → Option Value} {base : Heap}
theorem ok_shown {C : Addr} {cls : Nat → Value} (TI : TxI K mg C) : DL.Callee P w K mg base CX0 cls "is_shown" 70 ["statement"] semShown := by
  have T := TI.base
  obtain ⟨f, fd, D, hm, hb⟩ := TI.d_shown.ex
  obtain ⟨fG, fdG, DG, hG, bG⟩ := TI.d_gath.ex
  obtain ⟨fN, fdN, DN, hN, bN⟩ := TI.d_numd.ex
  obtain ⟨fI, fdI, DI, mI, bI⟩ := TI.m_init.ex
  obtain ⟨tM, hM⟩ := TI.gM
  have GG := ok_gath (P := P) (w := w) (base := base) DG hG bG TI.gP T.z_len 8
  have GN := ok_numd DN DG hG bG GG
  have GI := ok_init T DI DN hN bN GN hM
  have M : Mk K C fI := ⟨TI.makes, mI.at_, mI.fn, TI.kc⟩
  obtain ⟨fF, fdF, mF, GF, bF, _⟩ := (Cm.all (P := P) (w := w) (base := base) (k := 69) (mg := mg) (sp := fun F => spFrom P w F 17) T.m_from fun F e o => by subst e; exact from_all T o 17).ex
  refine ⟨f, fd, ?_, hm, D.kp, hb, fd_of D⟩
  have sc := sc_shown
  refine D.ok sc (fun vs H Q E h => h.1) (fun cdv A outer s0 H vs Q E hr h => ?_)
  obtain ⟨hlen0, ds, hds, hpost⟩ := h
  clear hlen0
  cases hds with
  | nil => exact hpost.elim
  | cons hd ht =>
  cases ht with
  | cons _ _ => exact hpost.elim
  | nil =>
  rename_i v d
  by_cases hx : ∃ x : Stm, d = x.enc ∧ SL x ∧ (gathS x []).length ≤ 16
  case neg =>
    have e : semShown [d] = .bad := by
      show shownD d = _
      unfold shownD
      rw [dif_neg hx]
    rw [e] at hpost
    exact hpost.elim
  obtain ⟨x, rfl, sx, hz⟩ := hx
  rw [semShown_at sx hz] at hpost
  obtain ⟨t, rfl⟩ := dp_ref hd
  have hu := hu_of hr
  have hr1 : Room 11 _ := hr.mono (by decide)
  refine ⟨_, pss_cons (ps_set (i := 1) sc.nd rfl (Or.inl rfl) (pe_make M GI hr1 rfl TI.hC bI .nil pass0 (pa_cons (pv 0) pa_nil)))
    (pss_one (ps_ret (pe_cmp (pc_din hu (pe_op op_sub (pe_callB call_len_seq (by rfl) T.z_len PySem.boot_len (pa_cons (pe_fld (pv 1) rfl) pa_nil)) pe_int) (pe_meth (pv 1) T.cl mF GF hr bF .nil pass0 (pa_cons (pe_tup pa_nil) pa_nil)))))), ?_⟩
  refine ⟨_, rfl, fun p dxx np ndx nxp => ?_⟩
  have S0 : Same H (upd (upd H dxx (.own p)) p (.ins C dxx [])) := same_upd (same_new ndx _) np
  refine ⟨H, p, dxx, t, x, rfl, S0, np, upd_same, sx, hd, hz, fun F H1 eC eH ep o S1 es => ⟨rfl, ?_⟩⟩
  subst eC ep
  have noF : (pf F.nd F.pl F.rw F.td).lookup ("shown_from" : Str) = none := pf_no _ _ _ _ (by decide +kernel) (by decide +kernel) (by decide +kernel) (by decide +kernel)
  obtain ⟨l, hl⟩ := gathS_last x
  rw [hl] at es
  have hlen : F.n = l.length + 1 := by
    have := congrArg List.length es
    simp only [List.length_map, List.length_append, List.length_singleton] at this
    exact this
  have hpart : F.part (F.n - 1) = some x := by
    have h1 : (F.es.map (·.1))[F.n - 1]? = some x := by
      rw [es, hlen]
      simp
    rw [List.getElem?_map] at h1
    exact h1
  refine ⟨_, rfl, F.p, F.C, F.dx, _, _, rfl, S1.ins, T.cl, T.nP, pf_l _ _ _ _, F.pl, _, rfl, .inl (SqL.of S1.parts), _, _, rfl, rfl, ?_⟩
  refine ⟨_, rfl, F.p, F.dx, _, rfl, S1.ins, noF, (by show 0 ≤ sizeLine; decide), fun g hg => ?_⟩
  refine ⟨F, rfl, o, [], 0, g, [], 0, rfl, S1.new hg, upd_same, ⟨List.Pairwise.nil, fun i hi => (nomatch hi)⟩, Nat.le_refl _, Nat.le_refl _, ?_, fun s L H2 T2 r2 S2 N2 mem b2 => ?_⟩
  · have := o.le
    show F.n < 0 + 17
    omega
  obtain ⟨od, hd2, ho⟩ := dget_sh (S2.sh _ mem).1 (F.n - 1)
  have hfull := (S2.asc _ mem).2 _ x hpart
  have hv : (F.n - 1 ∈ L) ↔ Valid x := by
    refine hfull.trans (Iff.trans ?_ (shown_valid o.cl (L := F.es.map (·.1)) (fun _ => Iff.rfl) (Fx.part_P hpart)))
    exact ⟨fun h => h.mono fun y ⟨i, hi, _⟩ => (nomatch hi), fun h => h.mono fun y k => k.elim⟩
  have hkey : V.int (((F.es.map fun e => V.ref e.2).length : Int) - 1) = V.int ((F.n - 1 : Nat) : Int) := by
    rw [List.length_map]
    have : F.es.length = F.n := rfl
    rw [this]
    congr 1
    omega
  refine ⟨s, od, rfl, ?_, ?_⟩
  · show DGet H2 s (V.int (((F.es.map fun e => V.ref e.2).length : Int) - 1)) od
    rw [hkey]; exact hd2
  · rw [ho]
    have e : decide (F.n - 1 ∈ L) = (open Classical in decide (Valid x)) := by
      rw [Bool.eq_iff_iff]
      simp [hv]
    rw [e]
    exact hpost H2 (eH ▸ S2.same) _ (.bl _)
end
end My

set_option Elab.async false
set_option linter.all false
set_option maxRecDepth 100000
set_option maxHeartbeats 4000000
/-! sorted of a dict whose keys are ints, any number of them -/
namespace My
open PySem PySem.Spec L2 PyProof.Rows
section
variable {X : Cx}
def rSortedDK : List V → Hp → VK → Prop := fun xs H Q => ∃ (a : Addr) (kvs : List (Key × V)) (ks : List Int), xs = [.ref a] ∧ Rd H a (.dK kvs) ∧ kvs.map (·.1) = ks.map Sum.inl ∧
    ∀ (ys : List Int) (p : Addr), ys.Perm ks → ys.Pairwise (· ≤ ·) → H p = none → Q (.ref p) (upd H p (.lst (ys.map V.int)))
theorem cr_sortedDK (hcalm : X.calm = true) : CallR X (.builtin "sorted") rSortedDK := by
  intro pins s σ H xs us Q I r q
  obtain ⟨a, kvs, ks, ex, hd, hks, q⟩ := q
  subst ex
  rw [Vals.ref1 r]
  obtain ⟨z, lo, vs, rel, dd⟩ := dk_rd I.hok hd
  obtain ⟨ep, hat⟩ := dd.dictAt
  have hkeys : vs.map (·.1) = ks.map Sum.inl := rel.keys.symm.trans hks
  have hl : vs.length = ks.length := by
    have e := congrArg List.length hkeys
    rw [List.length_map, List.length_map] at e
    exact e
  have hkl : kvs.length = ks.length := by
    have e := congrArg List.length hks
    rw [List.length_map, List.length_map] at e
    exact e
  have h16 : vs.length ≤ sizeLine := by rw [hl, ← hkl]; exact z
  refine Calls.call_function_entry PyProof.Rows.kind_sorted PyProof.Rows.plain_sorted PyProof.Rows.entry_sorted (PyProof.Rows.args_sorted1 _) ?_
  unfold Builtin.«sorted»
  refine wpAny_bind (m := checkCount "sorted" 1 1 _) (wpAny_pure ?_)
  refine wpAny_bind (PySem.W.kdu_collect (A := X.A.in1) (PySem.W.kdl_dict (knd := mixKind X.prog X.w) (kvs := vs) (ep := ep) lo) (I.ok.hd hcalm) hat h16 fun h' tk acc hk hacc => ?_)
  have hal : acc.toList.length = ks.length := by rw [Array.length_toList, hacc.1, hl]
  have hS : IntsAre acc.toList ks := ints_each hal fun j v e => by
    obtain ⟨k, x, e1, e2⟩ := hacc.2 j v (by rw [← Array.getElem?_toList]; exact e)
    have e3 : (vs.map (·.1))[j]? = some k := by rw [List.getElem?_map, e1]; rfl
    rw [hkeys, List.getElem?_map] at e3
    cases e4 : ks[j]? with
    | none => rw [e4] at e3; cases e3
    | some y =>
      rw [e4] at e3
      have e5 : Sum.inl y = k := Option.some.inj e3
      subst e5
      rcases keyIs_shape (show keyIs (Sum.inl y) v = true from e2) with ⟨i, t, ek, ev⟩ | ⟨z, t, ek, ev⟩
      · cases ek
        exact ⟨y, t, rfl, ev⟩
      · cases ek
  have I1 : Inv X pins σ H { s with heap := h', toks := tk } := I.kept hk
  have hz2 : acc.toList.length ≤ sizeLine := by rw [hal, ← hl]; exact h16
  refine wpAny_bind (wpAny_newList ?_ hz2)
  have hoL : (h'.push (seqObj "list" acc.toList.toArray 0)).get? h'.objs.size = some (seqObj "list" acc.toList.toArray 0) := Heap.get?_push_size _ rfl
  show wpAny _ _ _ _ _ { s with heap := h'.push (seqObj "list" acc.toList.toArray 0), toks := tk }
  refine wpAny_bind (wpAny_holding (wpAny_call_entry PyProof.Rows.slot_list_sort ⟨_, hoL, rfl⟩ PyProof.Rows.entry_list_sort
    (SrtO.list_sort_ord (s := { s with heap := h'.push (seqObj "list" acc.toList.toArray 0), toks := tk }) SrtO.swo_int hoL hz2 (fun h2 => SrtO.ints_sortable hS h2) fun out h1 h2 => ⟨_, rfl, ?_⟩) (PyProof.Rows.args_list_sort _)))
  obtain ⟨k1, k2, k3⟩ := SrtO.ints_out hS h1 h2
  obtain ⟨e', he'⟩ := PyProof.Rows.sortedHeap_at (vs := acc.toList) (out := out.toArray) hoL
  have hlen : ((out.map SrtO.iv).map V.int).length ≤ sizeLine := by
    rw [List.length_map, k2.length_eq, ← hl]
    exact h16
  refine wpAny_pure ⟨_, rfl, .ref h'.objs.size, upd H h'.objs.size (.lst ((out.map SrtO.iv).map V.int)), I1.laid (t' := tk) (fun b u e => ?_) (Nat.le_refl _)
    (show ObjOk X.prog X.w _ _ _ (.lst ((out.map SrtO.iv).map V.int)) from ⟨hlen, out, e', vals_of_ints k1, he'⟩), rfl, q _ _ k2 k3 (I1.hok.fresh (Nat.le_refl _))⟩
  have hb : b < h'.objs.size := Heap.lt_size e
  rw [PyProof.Rows.sortedHeap_old (Nat.ne_of_lt hb) (by rw [size_push']; exact Nat.lt_succ_of_lt hb)]
  exact Heap.get?_push_of_some _ e
end
end My

set_option Elab.async false
set_option linter.all false
set_option maxRecDepth 100000
set_option maxHeartbeats 2000000
/-! needed -/
namespace My
open PySem PySem.Spec L2 PyProof.Rows
abbrev sNeed : Stmt := topS 11
abbrev sShow : Stmt := topS 12
abbrev sRipe : Stmt := topS 13
abbrev sFail : Stmt := topS 14
abbrev sGrow : Stmt := topS 15
abbrev sTold : Stmt := topS 16
def UpsOf (H : Hp) (rs : List V) (n : Nat) (us : List Nat) : Prop := ∃ (t : Addr) (x1 x2 x3 : V) (u : Addr), rs[n]? = some (.ref t) ∧ H t = some (.tup [x1, x2, x3, .ref u]) ∧ H u = some (.tup (gV us))
theorem gV_inj : ∀ {a b : List Nat}, gV a = gV b → a = b
  | [], [], _ => rfl
  | [], _ :: _, h => by simp [gV] at h
  | _ :: _, [], h => by simp [gV] at h
  | k :: ks, j :: js, h => by
    have h2 := List.cons.inj h
    have h3 : (k : Int) = (j : Int) := V.int.inj h2.1
    rw [gV_inj h2.2, show k = j by omega]
theorem UpsOf.inj {H : Hp} {rs : List V} {n : Nat} {us vs : List Nat} (h : UpsOf H rs n us) (k : UpsOf H rs n vs) : us = vs := by
  obtain ⟨t, x1, x2, x3, u, h1, h2, h3⟩ := h
  obtain ⟨t', y1, y2, y3, u', k1, k2, k3⟩ := k
  rw [h1] at k1
  cases k1
  rw [h2] at k2
  cases k2
  rw [h3] at k3
  exact gV_inj (HO.tup.inj (Option.some.inj k3))
/-- the keys of a dict of numbers, in order -/
def Keyd (kvs : List (Key × V)) (ms : List Nat) : Prop := kvs.map (·.1) = ms.map fun (i : Nat) => (Sum.inl (i : Int) : Key)
theorem keyd_put {kvs : List (Key × V)} {ms : List Nat} (h : Keyd kvs ms) (i : Nat) (v : V) : Keyd (putK kvs (Sum.inl (i : Int) : Key) v) (if i ∈ ms then ms else ms ++ [i]) := by
  by_cases c : i ∈ ms
  · rw [if_pos c]
    have e := sh_mem h i
    rw [decide_eq_true c] at e
    unfold putK
    rw [valV_any, e, if_pos rfl]
    unfold Keyd at h ⊢
    rw [← h, List.map_map]
    refine List.map_congr_left fun p _ => ?_
    show (if p.1 = _ then (p.1, v) else p).1 = p.1
    split <;> rfl
  · rw [if_neg c, sh_put h c]
    unfold Keyd at h ⊢
    rw [List.map_append, List.map_append, h]
    rfl
def spNeed : Sp := fun vs H Q _ => ∃ (a : Addr) (last : Nat) (rs : List V), vs = [.ref a, .int (last : Nat)] ∧ H a = some (.lst rs) ∧ (∀ j v, rs[j]? = some v → RowOk H j v) ∧ last < rs.length ∧ rs.length ≤ 2000000 ∧
  ∀ H' l ns, Same H H' → H' l = some (.lst (gV ns)) → (∀ n ∈ ns, n ≤ last) → (∀ n ∈ ns, ∀ us, UpsOf H rs n us → ∀ i ∈ us, i ∈ ns) → ns.length ≤ 2000000 → Q (.ref l) H'
abbrev Nn : List Str := ["rows", "last", "found", "back", "number", "up"]
theorem sc_need : FnScope Nn ["rows", "last"] (defScope sNeed) := ⟨rfl, rfl, rfl, by decide +kernel, rfl, by decide +kernel, by decide +kernel⟩
section
variable {P : Program} {w : World} {K : PySem.W.Frag} {mg : Str → Option Value} {base : Heap}
theorem ok_need {f : Addr} {fd : FuncData} (D : L2.Fun K "needed" "needed" sNeed f fd) (zr : mg "range" = none) (zs : mg "sorted" = none) : FnOk P w K mg base CX0 1 f fd ["rows", "last"] spNeed := by
  have sc := sc_need
  refine D.ok sc (fun vs H Q E h => ?_) (fun cdv A outer s0 H vs Q E hr h => ?_)
  · obtain ⟨_, _, _, rfl, _⟩ := h
    rfl
  obtain ⟨a, last, rs, rfl, ha, hok, hl, hz, q⟩ := h
  have hu := hu_of hr
  refine ⟨_, pss_cons (ps_set (i := 2) sc.nd rfl (Or.inl rfl) (pe_disp (pps_cons (pv 1) pe_bl pps_nil) rfl rfl (by simp) (by simp)))
    (pss_cons (ps_for PassesOwn.never rfl (pi_range1 rfl zr (pa_cons (pe_op op_add (pv 1) pe_int) pa_nil)) (pg_name (i := 3) sc.nd rfl (Or.inl rfl)) (pss_cons (ps_set (i := 4) sc.nd rfl (Or.inl rfl) (pe_op op_sub (pv 1) (pv 3)))
    (pss_one (ps_if (pt_cmp (pc_din hu (pv 4) (pv 2))) (pss_one (ps_for PassesOwn.never rfl (pi_tup (pe_ix ix_tup (pe_ix ix_list (pv 0) (pv 4) (fun _ _ => rfl)) pe_int (fun _ _ => rfl))) (pg_name (i := 5) sc.nd rfl (Or.inl rfl)) (pss_one (ps_dput hu (pv 2) (pv 5) pe_bl rfl)))) pss_nil))))
    (pss_one (ps_ret (pe_callB (cr_sortedDK rfl) (by rfl) zs (by rfl) (pa_cons (pv 2) pa_nil))))), ?_⟩
  intro d hd
  refine ⟨_, rfl, upd_same, [(Sum.inl (last : Int), .bl true)], rfl, by simp, ?_⟩
  rw [upd_upd]
  have hlen : ∀ {ms : List Nat}, ms.Nodup → (∀ n ∈ ms, n ≤ last) → ms.length ≤ last + 1 := fun h k => few_of h fun i hi => by have := k i hi; omega
  have had : a ≠ d := ne_of_none ha hd
  refine ⟨_, rfl, _, _, rfl, rfl, _, rfl, by omega, by omega, ?_⟩
  have hn : ((last : Int) + 1).toNat = last + 1 := by omega
  refine for_range (fun j σ H' => ∃ (p3 p4 p5 : Option V) (ms : List Nat) (kvs : List (Key × V)), σ = [some (.ref a), some (.int (last : Nat)), some (.ref d), p3, p4, p5] ∧ H' = upd H d (.dK kvs) ∧ Keyd kvs ms ∧ ms.Nodup ∧ (∀ n ∈ ms, n ≤ last) ∧ last ∈ ms ∧ ∀ n ∈ ms, last < n + j → ∀ us, UpsOf H rs n us → ∀ i ∈ us, i ∈ ms)
    ⟨none, none, none, [last], _, rfl, rfl, rfl, by simp, by simp, by simp, fun n hn h => by have := List.mem_singleton.mp hn; omega⟩ ?_ ?_
  · rintro j σ H' hj ⟨p3, p4, p5, ms, kvs, rfl, rfl, k1, k2, k3, k4, k5⟩
    have hj2 : j < last + 1 := by
      have : j < ((last : Int) + 1).toNat := hj
      omega
    rw [Int.zero_add]
    refine ⟨_, rfl, _, rfl, _, _, rfl, rfl, ?_⟩
    show gName 4 (V.int ((last : Int) - (j : Int))) _ _ _
    have e : V.int ((last : Int) - (j : Int)) = V.int ((last - j : Nat) : Int) := by
      congr 1
      omega
    rw [e]
    have hs : Sh (upd H d (.dK kvs)) d ms := ⟨kvs, upd_same, k1⟩
    obtain ⟨o, ho, hm⟩ := dget_sh hs (last - j)
    refine ⟨_, rfl, _, rfl, d, o, rfl, ho, _, rfl, ?_⟩
    rw [hm]
    by_cases c : last - j ∈ ms
    · rw [decide_eq_true c]
      obtain ⟨v, hv⟩ : ∃ v, rs[last - j]? = some v := ⟨_, List.getElem?_eq_getElem (by omega)⟩
      obtain ⟨t, x1, x2, x3, u, us, rfl, ht, hu', hus⟩ := hok _ _ hv
      have htd : t ≠ d := ne_of_none ht hd
      have hud : u ≠ d := ne_of_none hu' hd
      refine iteT ⟨_, rfl, _, rfl, a, rs, _, _, rfl, rfl, SqL.of (by rw [upd_ne had]; exact ha), atI_nat hv, t, _, _, _, rfl, rfl, SqT.of (by rw [upd_ne htd]; exact ht), atI_nat (j := 3) rfl, u, rfl, ⟨_, SqT.of (by rw [upd_ne hud]; exact hu')⟩,
        for_tup (K := K) (xs := gV us) (fun k σ H' => ∃ (p5 : Option V) (ms' : List Nat) (kvs' : List (Key × V)), σ = [some (.ref a), some (.int (last : Nat)), some (.ref d), some (.int (j : Nat)), some (.int ((last - j : Nat) : Int)), p5] ∧ H' = upd H d (.dK kvs') ∧ Keyd kvs' ms' ∧ ms'.Nodup ∧ (∀ n ∈ ms', n ≤ last) ∧ (∀ n ∈ ms, n ∈ ms') ∧ (∀ n ∈ ms', n ∈ ms ∨ n < last - j) ∧ ∀ b i, b < k → us[b]? = some i → i ∈ ms')
          ⟨_, ms, kvs, rfl, rfl, k1, k2, k3, fun _ h => h, fun _ h => .inl h, fun b i hb => absurd hb (Nat.not_lt_zero _)⟩ ?_ ?_ ?_⟩
      · rintro k σ H' _ ⟨p5, ms', kvs', rfl, rfl, _⟩
        exact SqT.of (by rw [upd_ne hud]; exact hu')
      · rintro k y σ H' hy ⟨p5, ms', kvs', rfl, rfl, l1, l2, l3, l4, l5, l6⟩
        rw [gV, List.getElem?_map] at hy
        obtain ⟨i, hi, rfl⟩ := Option.map_eq_some_iff.mp hy
        have hil := hus.2 i (List.mem_of_getElem? hi)
        have hle := hlen l2 l3
        have hkl := Sh.len l1
        refine ⟨_, rfl, _, rfl, d, _, rfl, DPut.k (k := Sum.inl (i : Int)) upd_same (by rw [hkl, sizeLine_eq]; omega), ?_⟩
        rw [upd_upd]
        have l7 := keyd_put l1 i (.bl true)
        by_cases ci : i ∈ ms'
        · rw [if_pos ci] at l7
          refine ⟨_, ms', _, rfl, rfl, l7, l2, l3, l4, l5, fun b z hb hz => ?_⟩
          by_cases cb : b = k
          · rw [cb, hi] at hz
            cases hz
            exact ci
          · exact l6 b z (by omega) hz
        · rw [if_neg ci] at l7
          refine ⟨_, ms' ++ [i], _, rfl, rfl, l7, nodup_snoc l2 ci, fun n hn => ?_, fun n hn => List.mem_append_left _ (l4 n hn), fun n hn => ?_, fun b z hb hz => ?_⟩
          · rcases List.mem_append.mp hn with h | h
            · exact l3 n h
            · rw [List.mem_singleton.mp h]; omega
          · rcases List.mem_append.mp hn with h | h
            · exact l5 n h
            · rw [List.mem_singleton.mp h]; exact .inr hil
          · by_cases cb : b = k
            · rw [cb, hi] at hz
              cases hz
              simp
            · exact List.mem_append_left _ (l6 b z (by omega) hz)
      · rintro σ H' ⟨p5, ms', kvs', rfl, rfl, l1, l2, l3, l4, l5, l6⟩
        refine ⟨_, _, _, ms', kvs', rfl, rfl, l1, l2, l3, l4 _ k4, fun n hn hj' vs hv' i hi => ?_⟩
        rcases l5 n hn with h | h
        · by_cases cn : n = last - j
          · have hU : UpsOf H rs n us := ⟨t, x1, x2, x3, u, by rw [cn]; exact hv, ht, hu'⟩
            rw [hv'.inj hU] at hi
            obtain ⟨b, hb⟩ := List.getElem?_of_mem hi
            exact l6 b i (by rw [gV, List.length_map]; exact (List.getElem?_eq_some_iff.mp hb).1) hb
          · exact l4 _ (k5 n h (by omega) vs hv' i hi)
        · omega
    · rw [decide_eq_false c]
      refine iteF ⟨_, _, _, ms, kvs, rfl, rfl, k1, k2, k3, k4, fun n hn hj' => k5 n hn ?_⟩
      have : n ≠ last - j := fun e => c (e ▸ hn)
      have := k3 n hn
      omega
  · rintro σ H' ⟨p3, p4, p5, ms, kvs, rfl, rfl, k1, k2, k3, k4, k5⟩
    refine ⟨_, rfl, d, kvs, ms.map (fun (i : Nat) => (i : Int)), rfl, .inl upd_same, by rw [List.map_map]; exact k1, fun ys p hp hs hn2 => ?_⟩
    obtain ⟨is, rfl, hj⟩ := nat_of hp
    have hle := hlen k2 k3
    refine q _ p is ((same_new hd _).trans (same_new hn2 _)) (by rw [upd_same, gV_map]) (fun n hn => k3 n (hj.mem_iff.mp hn)) (fun n hn us hu i hi => ?_) (by rw [hj.length_eq]; omega)
    have h1 := hj.mem_iff.mp hn
    have : ((last : Int) + 1).toNat = last + 1 := by omega
    exact hj.mem_iff.mpr (k5 n h1 (by omega) us hu i hi)
end
end My

set_option Elab.async false
set_option linter.all false
set_option maxRecDepth 100000
set_option maxHeartbeats 2000000
/-! showing_of -/
namespace My
open PySem PySem.Spec L2 PyProof.Rows
def spShow : Sp := fun vs H Q _ => ∃ (a : Addr) (last : Nat) (rs : List V), vs = [.ref a, .int (last : Nat)] ∧ H a = some (.lst rs) ∧ (∀ j v, rs[j]? = some v → RowOk H j v) ∧ last < rs.length ∧ rs.length ≤ 2000000 ∧
  ∀ H' l, Same H H' → Q (.ref l) H'
abbrev Nq : List Str := ["rows", "last", "numbers", "places", "number", "found", "given", "statement", "rule", "ups", "up"]
theorem sc_show : FnScope Nq ["rows", "last"] (defScope sShow) := ⟨rfl, rfl, rfl, by decide +kernel, rfl, by decide +kernel, by decide +kernel⟩
section
variable {P : Program} {w : World} {K : PySem.W.Frag} {mg : Str → Option Value} {base : Heap}
theorem ok_show {f g : Addr} {fd gd : FuncData} (D : L2.Fun K "showing_of" "showing_of" sShow f fd) (DN : L2.Fun K "needed" "needed" sNeed g gd) (hN : mg "needed" = some (.ref g)) (bN : Binds K gd ["rows", "last"] []) (GN : FnOk P w K mg base CX0 1 g gd ["rows", "last"] spNeed) (zl : mg "len" = none) (zt : mg "tuple" = none) :
    FnOk P w K mg base CX0 2 f fd ["rows", "last"] spShow := by
  have sc := sc_show
  refine D.ok sc (fun vs H Q E h => ?_) (fun cdv A outer s0 H vs Q E hr h => ?_)
  · obtain ⟨_, _, _, rfl, _⟩ := h
    rfl
  obtain ⟨a, last, rs, rfl, ha, hok, hl, hz, q⟩ := h
  have hu := hu_of hr
  refine ⟨_, pss_cons (ps_set (i := 2) sc.nd rfl (Or.inl rfl) (pe_call GN hr rfl hN DN.kp bN .nil pass0 (pa_cons (pv 0) (pa_cons (pv 1) pa_nil))))
    (pss_cons (ps_set (i := 3) sc.nd rfl (Or.inr rfl) pe_dnewK)
    (pss_cons (ps_for PassesOwn.never rfl (pi_list (pv 2)) (pg_name (i := 4) sc.nd rfl (Or.inl rfl)) (pss_one (ps_dput hu (pv 3) (pv 4) (pe_callB call_lenD (by rfl) zl PySem.boot_len (pa_cons (pv 3) pa_nil)) rfl)))
    (pss_cons (ps_set (i := 5) sc.nd rfl (Or.inl rfl) (pe_lst pa_nil))
    (pss_cons (ps_for PassesOwn.never rfl (pi_list (pv 2)) (pg_name (i := 4) sc.nd rfl (Or.inl rfl)) (pss_cons (ps_asg (pe_ix ix_list (pv 0) (pv 4) (fun _ _ => rfl)) (pg_tup rfl (pgs_cons (pg_name (i := 6) sc.nd rfl (Or.inl rfl)) (pgs_cons (pg_name (i := 7) sc.nd rfl (Or.inl rfl)) (pgs_cons (pg_name (i := 8) sc.nd rfl (Or.inl rfl)) (pgs_cons (pg_name (i := 9) sc.nd rfl (Or.inl rfl)) pgs_nil))))))
    (pss_one (ps_expr (pe_bm PySem.F.plainAttrs_list PySem.F.slot_list_append PySem.F.type_list_append mt_append (pv 5) (pa_cons (pe_tup (pa_cons (pv 6) (pa_cons (pv 7) (pa_cons (pv 8) (pa_cons (pe_tupleOf rfl zt (pe_lc (own := [("up", 10)]) (g := gName 10) (tt := tYes) (te := tDGet (tVar 3) (tVar 10)) rfl sc.nd (pi_tup (pv 9)) (blkOk_by (N := Nq) (sc := defScope sShow) (by decide +kernel)) (fun _ _ _ _ _ => pg_name (i := 10) sc.nd rfl (Or.inl rfl)) (fun _ _ _ _ _ => pts_nil) (fun _ _ _ _ _ => by exact pe_dget hu (pv 3) (pv 10) (fun _ _ => rfl)))) pa_nil))))) pa_nil))))))
    (pss_one (ps_ret (pv 5))))))), ?_⟩
  refine ⟨_, rfl, _, rfl, a, last, rs, rfl, ha, hok, hl, hz, fun H1 l ns S1 hl1 hns hcl hlen => ?_⟩
  intro d hd
  have hld : l ≠ d := ne_of_none hl1 hd
  refine ⟨_, rfl, l, rfl, ⟨_, SqL.of (by rw [upd_ne hld]; exact hl1)⟩, for_list (K := K) (a := l) (xs := gV ns) (fun j σ H' => ∃ (p4 : Option V) (ms : List Nat) (kvs : List (Key × V)), σ = [some (.ref a), some (.int (last : Nat)), some (.ref l), some (.ref d), p4, none, none, none, none, none, none] ∧ H' = upd H1 d (.dK kvs) ∧ Keyd kvs ms ∧ ms.length ≤ j ∧ ∀ b i, b < j → ns[b]? = some i → i ∈ ms)
    ⟨none, [], [], rfl, rfl, rfl, Nat.le_refl _, fun b i hb => absurd hb (Nat.not_lt_zero _)⟩ ?_ ?_ ?_⟩
  · rintro j σ H' _ ⟨p4, ms, kvs, rfl, rfl, _⟩
    exact SqL.of (by rw [upd_ne hld]; exact hl1)
  · rintro j y σ H' hy ⟨p4, ms, kvs, rfl, rfl, k1, k2, k3⟩
    rw [gV, List.getElem?_map] at hy
    obtain ⟨i, hi, rfl⟩ := Option.map_eq_some_iff.mp hy
    have hj := (List.getElem?_eq_some_iff.mp hi).1
    have hkl := Sh.len k1
    refine ⟨_, rfl, d, kvs, rfl, upd_same, _, rfl, _, rfl, d, _, rfl, DPut.k (k := Sum.inl (i : Int)) upd_same (by rw [hkl, sizeLine_eq]; omega), ?_⟩
    rw [upd_upd]
    have l7 := keyd_put k1 i (.int kvs.length)
    by_cases ci : i ∈ ms
    · rw [if_pos ci] at l7
      refine ⟨_, ms, _, rfl, rfl, l7, by omega, fun b z hb hz => ?_⟩
      by_cases cb : b = j
      · rw [cb, hi] at hz
        cases hz
        exact ci
      · exact k3 b z (by omega) hz
    · rw [if_neg ci] at l7
      refine ⟨_, ms ++ [i], _, rfl, rfl, l7, by rw [List.length_append, List.length_singleton]; omega, fun b z hb hz => ?_⟩
      by_cases cb : b = j
      · rw [cb, hi] at hz
        cases hz
        simp
      · exact List.mem_append_left _ (k3 b z (by omega) hz)
  rintro σ H' ⟨p4, ms, kvs, rfl, rfl, k1, k2, k3⟩
  have hms : ∀ i ∈ ns, i ∈ ms := fun i hi => by
    obtain ⟨b, hb⟩ := List.getElem?_of_mem hi
    exact k3 b i (by rw [gV, List.length_map]; exact (List.getElem?_eq_some_iff.mp hb).1) hb
  have S2 : Same H (upd H1 d (.dK kvs)) := S1.trans (same_new hd _)
  have hl2 : (upd H1 d (.dK kvs)) l = some (.lst (gV ns)) := by rw [upd_ne hld]; exact hl1
  have hd2 : Sh (upd H1 d (.dK kvs)) d ms := ⟨kvs, upd_same, k1⟩
  generalize upd H1 d (.dK kvs) = H2 at S2 hl2 hd2 ⊢
  refine ⟨Nat.zero_le _, fun fl hfl => ?_⟩
  refine ⟨_, rfl, l, rfl, ⟨_, SqL.of (same_new hfl _ _ _ hl2)⟩, for_list (K := K) (a := l) (xs := gV ns) (fun j σ H' => ∃ (p4 p6 p7 p8 p9 : Option V) (xs : List V), σ = [some (.ref a), some (.int (last : Nat)), some (.ref l), some (.ref d), p4, some (.ref fl), p6, p7, p8, p9, none] ∧ Same H2 H' ∧ H' fl = some (.lst xs) ∧ xs.length = j)
    ⟨_, _, _, _, _, [], rfl, same_new hfl _, upd_same, rfl⟩ ?_ ?_ ?_⟩
  · rintro j σ H' _ ⟨p4, p6, p7, p8, p9, xs, rfl, k5, _⟩
    exact SqL.of (k5 _ _ hl2)
  · rintro j y σ H' hy ⟨p4, p6, p7, p8, p9, xs, rfl, k5, k6, k7⟩
    rw [gV, List.getElem?_map] at hy
    obtain ⟨n, hn, rfl⟩ := Option.map_eq_some_iff.mp hy
    have hj := (List.getElem?_eq_some_iff.mp hn).1
    have hmem := List.mem_of_getElem? hn
    have hnl := hns n hmem
    obtain ⟨v, hv⟩ : ∃ v, rs[n]? = some v := ⟨_, List.getElem?_eq_getElem (by omega)⟩
    obtain ⟨t, x1, x2, x3, u, us, rfl, ht, hu', hus⟩ := hok _ _ hv
    have S5 := S2.trans k5
    have hUps := hcl n hmem us ⟨t, x1, x2, x3, u, hv, ht, hu'⟩
    refine ⟨_, rfl, _, rfl, a, rs, _, _, rfl, rfl, SqL.of (S5 _ _ ha), atI_nat hv, t, _, rfl, SqT.of (S5 _ _ ht), rfl, _, _, rfl, _, _, rfl, _, _, rfl, _, _, rfl, rfl, ?_⟩
    refine ⟨_, rfl, .inl ⟨rfl, _, SqL.of k6⟩, _, rfl, _, rfl, _, rfl, _, rfl, u, rfl, ⟨_, SqT.of (S5 _ _ hu')⟩, fun Dl hDl => lc_tup (K := K) (xs := gV us) (fun k H'' => ∃ acc : List V, H'' = upd H' Dl (.lst acc) ∧ acc.length = k) ⟨[], rfl, rfl⟩ ?_ ?_ ?_⟩
    · rintro k H'' _ ⟨acc, rfl, _⟩
      exact SqT.of (same_new hDl _ _ _ (S5 _ _ hu'))
    · rintro k y H'' hy ⟨acc, rfl, hacc⟩
      have hky := (List.getElem?_eq_some_iff.mp hy).1
      obtain ⟨i, hi, rfl⟩ := gV_at hy
      obtain ⟨kvs2, e1, e2⟩ := hd2
      obtain ⟨vv, hvv⟩ := dget_val (H := upd H' Dl (.lst acc)) (s := d) ⟨kvs2, same_new hDl _ _ _ (k5 _ _ e1), e2⟩ (hms i (hUps i hi))
      refine ⟨rfl, _, rfl, _, rfl, d, vv, rfl, hvv, acc, upd_same, ?_, _, upd_upd, by simp [hacc]⟩
      have husl := hus.1
      rw [gV, List.length_map] at hky
      rw [sizeLine_eq]
      omega
    rintro H'' ⟨acc, rfl, hacc⟩
    refine .inl ⟨Dl, acc, rfl, SqL.of upd_same, fun q2 hq2 => ?_⟩
    have k8 := k5.trans ((same_new hDl (.lst acc)).trans (same_new hq2 (.tup acc)))
    have k9 := same_new hq2 (.tup acc) _ _ (same_new hDl (.lst acc) _ _ k6)
    generalize upd (upd H' Dl (.lst acc)) q2 (.tup acc) = H4 at k8 k9 ⊢
    refine ⟨(by show 4 ≤ sizeLine; decide), fun t2 ht2 => ?_⟩
    refine ⟨fl, xs, _, rfl, rfl, same_new ht2 _ _ _ k9, by rw [sizeLine_eq]; omega, ?_⟩
    exact ⟨_, _, _, _, _, _, rfl, same_upd (k8.trans (same_new ht2 _)) hfl, upd_same, by simp [k7]⟩
  · rintro σ H' ⟨p4, p6, p7, p8, p9, xs, rfl, k5, k6, k7⟩
    exact ⟨_, rfl, q H' fl (S2.trans k5)⟩
end
end My

set_option Elab.async false
set_option linter.all false
set_option maxRecDepth 100000
set_option maxHeartbeats 2000000
/-! ripe -/
namespace My
open PySem PySem.Spec L2 PyProof.Rows
def spRipe (P : Program) (w : World) (F : Fx) (m : Nat) : Sp := fun vs H Q _ => ∃ T r g ks i b, vs = [.ref F.p, .ref g, .int (i : Nat)] ∧ St P w F H T r ∧ H g = some (.tup (gV ks)) ∧ Asc F ks ∧ r ≤ 16 * T.length ∧ F.part i = some b ∧ ¬ D F.P (F.Γ ks) b ∧ F.n < ks.length + m ∧
  ∀ g' ks' H' T' r', St P w F H' T' r' → Nx F [] 0 H T H' T' → H' g' = some (.tup (gV ks')) → Asc F ks' → (∀ j ∈ ks, j ∈ ks') → ¬ D F.P (F.Γ ks') b → r' ≤ 16 * T'.length → Q (.ref g') H'
abbrev Nr : List Str := ["search", "given", "number", "shown", "other", "one", "two", "more"]
theorem sc_ripe : FnScope Nr ["search", "given", "number"] (defScope sRipe) := ⟨rfl, rfl, rfl, by decide +kernel, rfl, by decide +kernel, by decide +kernel⟩
section
variable {P : Program} {w : World} {K : PySem.W.Frag} {mg : Str → Option Value} {base : Heap}
theorem tup_stays {F : Fx} {X : List Addr} {m : Nat} {H H' : Hp} {T T' : List Th} {r : Nat} (S : St P w F H T r) (n : Nx F X m H T H' T') (hX : ∀ x ∈ X, ∃ kvs, H x = some (.dK kvs)) {g : Addr} {xs : List V} (h : H g = some (.tup xs)) : H' g = some (.tup xs) := by
  obtain ⟨rs, h1, _⟩ := S.rows
  refine n.fr _ _ h (ne_of h h1 (by intro q; cases q)) (ne_of h S.ths (by intro q; cases q)) fun hx => ?_
  obtain ⟨kvs, e⟩ := hX g hx
  rw [h] at e
  cases e
theorem ok_ripe {F : Fx} (T : TxS K mg F.C) (o : FxOk P w K F) {f : Addr} {fd : FuncData} (Df : L2.Fun K "ripe" "ripe" sRipe f fd) (hR : mg "ripe" = some (.ref f)) (bR : Binds K fd ["search", "given", "number"] []) :
    ∀ m, FnOk P w K mg base CX0 (70 + m) f fd ["search", "given", "number"] (spRipe P w F m)
  | 0 => by
    have no : ∀ vs H Q E, ¬ spRipe P w F 0 vs H Q E := fun vs H Q E h => by
      obtain ⟨_, _, _, ks, _, _, _, _, _, hA, _, _, _, h1, _⟩ := h
      have := few_of (asc_nodup hA) hA.2
      omega
    exact ⟨fun vs H Q E h => absurd h (no vs H Q E), fun A outer s H args us vs Q E _ _ _ _ h => absurd h (no vs H Q E)⟩
  | m + 1 => by
    have GR := ok_ripe T o Df hR bR m
    have DR := Df.kp
    obtain ⟨fF, fdF, mF, GF, bF, _⟩ := (from_all (P := P) (w := w) (base := base) T o 17).ex
    obtain ⟨fN, fdN, mN, GN, bN, _⟩ := (ok_nums (P := P) (w := w) (base := base) T o).ex
    obtain ⟨fW, fdW, mW, GW, bW, _⟩ := (ok_with (P := P) (w := w) (base := base) T).ex
    have sc := sc_ripe
    refine Df.ok sc (fun vs H Q E h => ?_) (fun cdv A outer s0 H vs Q E hr h => ?_)
    · obtain ⟨_, _, _, _, _, _, rfl, _⟩ := h
      rfl
    obtain ⟨Ts, r, g, ks, i, b, rfl, S, hg, hA, hrb, hb, hnb, hm', q⟩ := h
    have hu := hu_of hr
    have hrm : Room (70 + m) _ := hr
    have hr69 : Room (4 * 17 + 1) _ := hrm.mono (by omega)
    have hr1 : Room 1 _ := hrm.mono (by omega)
    refine ⟨_, pss_cons (ps_set (i := 3) sc.nd rfl (Or.inl rfl) (pe_meth (pv 0) T.cl mF GF hr69 bF .nil pass0 (pa_cons (pv 1) pa_nil)))
    (pss_cons (ps_for PassesOwn.never rfl (pi_range1 rfl T.z_range (pa_cons (pe_callB call_len_seq (by rfl) T.z_len PySem.boot_len (pa_cons (pe_fld (pv 0) rfl) pa_nil)) pa_nil)) (pg_name (i := 4) sc.nd rfl (Or.inl rfl)) (pss_one (ps_if (PW.pt (pw_and (pt_cmpR op_eq (pe_ix ix_tup (pe_ix ix_list (pe_fld (pv 0) rfl) (pv 4) (fun _ _ => rfl)) pe_int (fun _ _ => rfl)) pe_str (nomark _)) (pw_and1 (pt_cmp (pc_din hu (pv 4) (pv 3)))))) (pss_cons (ps_asg (pe_meth (pv 0) T.cl mN GN hr1 bN .nil pass0 (pa_cons (pv 4) pa_nil)) (pg_tup rfl (pgs_cons (pg_name (i := 5) sc.nd rfl (Or.inl rfl)) (pgs_cons (pg_name (i := 6) sc.nd rfl (Or.inl rfl)) pgs_nil))))
    (pss_one (ps_if (PW.pt (pw_and (pt_cmp (pc_dnotin hu (pv 5) (pv 3))) (pw_and1 (pt_cmp (pc_dnotin hu (pv 6) (pv 3)))))) (pss_cons (ps_set (i := 7) sc.nd rfl (Or.inl rfl) (pe_meth (pv 0) T.cl mW GW hr1 bW .nil pass0 (pa_cons (pv 1) (pa_cons (pv 5) pa_nil))))
    (pss_cons (ps_if (pt_cmp (pc_din hu (pv 2) (pe_meth (pv 0) T.cl mF GF hr69 bF .nil pass0 (pa_cons (pv 7) pa_nil)))) (pss_one (ps_set (i := 7) sc.nd rfl (Or.inl rfl) (pe_meth (pv 0) T.cl mW GW hr1 bW .nil pass0 (pa_cons (pv 1) (pa_cons (pv 6) pa_nil))))) pss_nil)
    (pss_one (ps_ret (pe_call GR hrm rfl hR DR bR .nil pass0 (pa_cons (pv 0) (pa_cons (pv 7) (pa_cons (pv 2) pa_nil)))))))) pss_nil))) pss_nil)))
    (pss_one (ps_ret (pv 1)))), ?_⟩
    have noN : (pf F.nd F.pl F.rw F.td).lookup ("numbers_in" : Str) = none := pf_no _ _ _ _ (by decide +kernel) (by decide +kernel) (by decide +kernel) (by decide +kernel)
    have noW : (pf F.nd F.pl F.rw F.td).lookup ("with_one" : Str) = none := pf_no _ _ _ _ (by decide +kernel) (by decide +kernel) (by decide +kernel) (by decide +kernel)
    have noF : (pf F.nd F.pl F.rw F.td).lookup ("shown_from" : Str) = none := pf_no _ _ _ _ (by decide +kernel) (by decide +kernel) (by decide +kernel) (by decide +kernel)
    have hk16 := few_of (asc_nodup hA) hA.2
    have ho16 := o.le
    refine ⟨_, rfl, F.p, F.dx, _, rfl, S.ins, noF, _, rfl, Ts, r, g, ks, 0, rfl, S, hg, hA, Nat.zero_le _, hrb, by omega, fun s L H1 T1 r1 S1 N1 mem1 b1 => ?_⟩
    have hg1 := tup_stays S N1 (fun x h => (nomatch h)) hg
    have F1 := (S1.asc _ mem1).2
    have sh1 := (S1.sh _ mem1).1
    have hkL : ∀ j ∈ ks, j ∈ L := fun j hj => by
      obtain ⟨x, _, _, hx⟩ := Fx.lt_part (hA.2 j hj)
      exact (F1 j x hx).mpr (.given (Fx.part_P hx) ⟨j, hj, hx⟩)
    refine ⟨_, rfl, F.p, F.C, F.dx, _, _, rfl, S1.ins, T.cl, T.nP, pf_l _ _ _ _, F.pl, _, rfl, .inl (SqL.of S1.parts), _, rfl, ?_, ?_, ?_⟩
    · omega
    · rw [List.length_map]
      have e : F.es.length = F.n := rfl
      omega
    have hn : ((F.es.map fun e => V.ref e.2).length : Int).toNat = F.n := by rw [List.length_map]; rfl
    refine for_range (fun j σ H' => ∃ (p4 p5 p6 : Option V), σ = [some (.ref F.p), some (.ref g), some (.int (i : Nat)), some (.ref s), p4, p5, p6, none] ∧ Same H1 H') ⟨none, none, none, rfl, fun _ _ h => h⟩ ?_ ?_
    · rintro j σ H' hj ⟨p4, p5, p6, rfl, k1⟩
      rw [hn] at hj
      obtain ⟨y, _, _, hy⟩ := Fx.lt_part hj
      have S2 := S1.same' k1
      have sh2 : Sh H' s L := (S2.sh _ mem1).1
      obtain ⟨t, h1, h2, h3, h4⟩ := S2.part o hy
      obtain ⟨t', xs, e, h5, h6⟩ := dp_word h4
      cases e
      obtain ⟨od, hd, ho⟩ := dget_sh sh2 j
      rw [Int.zero_add]
      refine ⟨_, rfl, F.p, F.C, F.dx, _, _, rfl, S2.ins, T.cl, T.nP, pf_l _ _ _ _, _, rfl, F.pl, _, _, _, rfl, rfl, SqL.of S2.parts, atI_nat h2, t, xs, _, _, rfl, rfl, h5, h6, rfl, ?_⟩
      by_cases isor : ∃ a b, y = .bin .orr a b
      · obtain ⟨a, c, rfl⟩ := isor
        refine ⟨true, congrArg V.bl (decide_eq_true rfl), iteT ⟨_, rfl, _, rfl, s, od, rfl, hd, _, rfl, ?_⟩⟩
        by_cases hjL : j ∈ L
        · rw [ho, decide_eq_true hjL]
          have pz := Fx.part_P hy
          obtain ⟨ia, hia⟩ := Fx.P_part (o.cl.l pz)
          obtain ⟨ic, hic⟩ := Fx.P_part (o.cl.r pz)
          refine iteT ⟨_, rfl, F.p, F.dx, _, rfl, S2.ins, noN, _, rfl, T1, r1, j, .orr, a, c, ia, ic, rfl, S2, hy, hia, hic, fun q' hq' => ?_⟩
          refine ⟨q', _, rfl, SqT.of upd_same, rfl, _, _, rfl, _, _, rfl, rfl, ?_⟩
          have k2 := k1.trans (same_new hq' (.tup [.int (ia : Nat), .int (ic : Nat)]))
          generalize upd H' q' (.tup [.int (ia : Nat), .int (ic : Nat)]) = H2 at k2 ⊢
          have S3 := S1.same' k2
          have sh3 : Sh H2 s L := (S3.sh _ mem1).1
          obtain ⟨oa, hda, hoa⟩ := dget_sh sh3 ia
          obtain ⟨oc, hdc, hoc⟩ := dget_sh sh3 ic
          refine ⟨_, rfl, _, rfl, s, oa, rfl, hda, _, rfl, ?_⟩
          by_cases la : ia ∈ L
          · rw [hoa, decide_eq_true la]
            exact iteF (iteF ⟨_, _, _, rfl, k2⟩)
          rw [hoa, decide_eq_false la]
          refine iteT ⟨_, rfl, _, rfl, s, oc, rfl, hdc, _, rfl, ?_⟩
          by_cases lc : ic ∈ L
          · rw [hoc, decide_eq_true lc]
            exact iteF ⟨_, _, _, rfl, k2⟩
          rw [hoc, decide_eq_false lc]
          refine iteT ?_
          have hg3 := k2 _ _ hg1
          refine ⟨_, rfl, F.p, F.dx, _, rfl, S3.ins, noW, _, rfl, _, rfl, ks, g, ia, F.dx, _, rfl, hg3, hA, by omega, Fx.part_lt hia, fun h => la (hkL _ h), S3.ins, fun H4 q4 js S4 hq4 aj lj mj => ?_⟩
          have St4 := S3.same' S4
          have gj := gam_add o hia mj
          refine ⟨_, rfl, _, rfl, F.p, F.dx, _, rfl, St4.ins, noF, _, rfl, T1, r1, q4, js, 0, rfl, St4, hq4, aj, Nat.zero_le _, b1, by omega, fun s5 L5 H5 T5 r5 S5 N5 mem5 b5 => ?_⟩
          have N5' : Nx F [] 0 H Ts H5 T5 := ((N1.le (fun _ h => h) (Nat.zero_le _)).trans (Nx.same' (k2.trans S4))).trans (N5.le (fun _ h => h) (Nat.zero_le _))
          have F5 := (S5.asc _ mem5).2 i b hb
          have hq5 := tup_stays St4 N5 (fun x h => (nomatch h)) hq4
          have hg5 := tup_stays St4 N5 (fun x h => (nomatch h)) (S4 _ _ hg3)
          obtain ⟨o5, hd5, ho5⟩ := dget_sh (S5.sh _ mem5).1 i
          refine ⟨s5, o5, rfl, hd5, _, rfl, ?_⟩
          have fin : ∀ g6 ls H6, Same H5 H6 → H6 g6 = some (.tup (gV ls)) → Asc F ls → ls.length = ks.length + 1 → (∀ j ∈ ks, j ∈ ls) → ¬ D F.P (F.Γ ls) b → spRipe P w F m [.ref F.p, .ref g6, .int (i : Nat)] H6 Q E0 := fun g6 ls H6 k6 hg6 a6 l6 m6 n6 =>
            ⟨T5, r5, g6, ls, i, b, rfl, S5.same' k6, hg6, a6, b5, hb, n6, by omega, fun g' ks' H' T' r' S' N' e1 e2 e3 e4 e5 => q g' ks' H' T' r' S' ((N5'.trans (Nx.same' k6)).trans N') e1 e2 (fun j hj => e3 j (m6 j hj)) e4 e5⟩
          by_cases l5 : i ∈ L5
          · rw [ho5, decide_eq_true l5]
            refine iteT ⟨_, rfl, F.p, F.dx, _, rfl, S5.ins, noW, _, rfl, _, rfl, ks, g, ic, F.dx, _, rfl, hg5, hA, by omega, Fx.part_lt hic, fun h => lc (hkL _ h), S5.ins, fun H6 q6 js2 S6 hq6 aj2 lj2 mj2 => ?_⟩
            have gj2 := gam_add o hic mj2
            refine ⟨_, rfl, _, rfl, _, rfl, fin q6 js2 H6 S6 hq6 aj2 lj2 (fun j hj => (mj2 j).mpr (.inl hj)) fun hD => hnb ?_⟩
            exact .cases ((F1 j _ hy).mp hjL) ((F5.mp l5).mono fun x => (gj x).mp) (hD.mono fun x => (gj2 x).mp)
          · rw [ho5, decide_eq_false l5]
            exact iteF ⟨_, rfl, _, rfl, _, rfl, fin q4 js H5 (fun _ _ h => h) hq5 aj lj (fun j hj => (mj j).mpr (.inl hj)) fun hD => l5 (F5.mpr hD)⟩
        · rw [ho, decide_eq_false hjL]
          exact iteF ⟨_, _, _, rfl, k1⟩
      · have n1 : ¬ V.str y.word = V.str "or" := fun e => by
          have e := V.str.inj e
          cases y with
          | nm z => exact absurd e (by show ¬ ("name" : Str) = "or"; decide +kernel)
          | fl => exact absurd e (by show ¬ ("false" : Str) = "or"; decide +kernel)
          | bin z a b =>
            cases z with
            | an => exact absurd e (by show ¬ ("and" : Str) = "or"; decide +kernel)
            | orr => exact isor ⟨a, b, rfl⟩
            | th => exact absurd e (by show ¬ ("then" : Str) = "or"; decide +kernel)
        exact ⟨false, congrArg V.bl (decide_eq_false n1), iteF (iteF ⟨_, _, _, rfl, k1⟩)⟩
    · rintro σ H' ⟨p4, p5, p6, rfl, k1⟩
      exact ⟨_, rfl, q g ks H' T1 r1 (S1.same' k1) ((N1.le (fun _ h => h) (Nat.zero_le _)).trans (Nx.same' k1)) (k1 _ _ hg1) hA (fun _ h => h) hnb b1⟩
end
end My

set_option Elab.async false
set_option linter.all false
set_option maxRecDepth 100000
set_option maxHeartbeats 2000000
/-! is_failing -/
namespace My
open PySem PySem.Spec L2 PyProof.Rows
abbrev Sts := List (Addr × List Nat)
def refs (ths : Sts) : List V := ths.map fun t => V.ref t.1
def failing (a c : Nat) (t : Addr × List Nat) : Bool := decide (a ∈ t.2) && !decide (c ∈ t.2)
def spFail : Sp := fun vs H Q _ => ∃ (x : V) (tl : Addr) (ths : Sts) (n a c : Nat), vs = [x, .ref tl, .int (n : Nat), .int (a : Nat), .int (c : Nat)] ∧ H tl = some (.lst (refs ths)) ∧ (∀ t ∈ ths, Sh H t.1 t.2) ∧ n ≤ ths.length ∧
  ∀ H', Same H H' → Q (.bl ((ths.drop n).any (failing a c))) H'
abbrev Ni : List Str := ["search", "theories", "number", "one", "other", "shown"]
theorem sc_fail : FnScope Ni ["search", "theories", "number", "one", "other"] (defScope sFail) := ⟨rfl, rfl, rfl, by decide +kernel, rfl, by decide +kernel, by decide +kernel⟩
section
variable {P : Program} {w : World} {K : PySem.W.Frag} {mg : Str → Option Value} {base : Heap}
theorem cutV_from (xs : List V) (n : Nat) (h : n ≤ xs.length) : cutV xs (some (n : Int)) none = xs.drop n := by
  unfold cutV
  rw [HT.sIx_nat, HT.sIx_none, Nat.min_eq_left h]
  exact List.take_of_length_le (by rw [List.length_drop]; exact Nat.le_refl _)
theorem sh_same {H H' : Hp} {s : Addr} {L : List Nat} (h : Sh H s L) (e : Same H H') : Sh H' s L := by
  obtain ⟨kvs, h1, h2⟩ := h
  exact ⟨kvs, e _ _ h1, h2⟩
theorem ok_fail {f : Addr} {fd : FuncData} (D : L2.Fun K "is_failing" "is_failing" sFail f fd) : FnOk P w K mg base CX0 1 f fd ["search", "theories", "number", "one", "other"] spFail := by
  have sc := sc_fail
  refine D.ok sc (fun vs H Q E h => ?_) (fun cdv A outer s0 H vs Q E hr h => ?_)
  · obtain ⟨_, _, _, _, _, _, rfl, _⟩ := h
    rfl
  obtain ⟨x, tl, ths, n, a, c, rfl, htl, hsh, hn, q⟩ := h
  have hu := hu_of hr
  refine ⟨_, pss_cons (ps_for PassesOwn.never rfl (pi_list (pe_slice sl_list (pv 1) (po_some (pv 2)) po_none)) (pg_name (i := 5) sc.nd rfl (Or.inl rfl)) (pss_one (ps_if (PW.pt (pw_and (pt_cmp (pc_din hu (pv 3) (pv 5))) (pw_and1 (pt_cmp (pc_dnotin hu (pv 4) (pv 5)))))) (pss_one (ps_ret pe_bl)) pss_nil)))
    (pss_one (ps_ret pe_bl)), ?_⟩
  refine ⟨_, rfl, ⟨_, rfl, n, rfl, ⟨tl, _, rfl, SqL.of htl, fun p hp => ?_⟩⟩⟩
  rw [cutV_from _ _ (by rw [refs, List.length_map]; exact hn)]
  have er : (refs ths).drop n = refs (ths.drop n) := by rw [refs, refs, List.map_drop]
  rw [er]
  have S1 := same_new hp (.lst (refs (ths.drop n)))
  have hp1 : upd H p (.lst (refs (ths.drop n))) p = some (.lst (refs (ths.drop n))) := upd_same
  have hsh1 : ∀ t ∈ ths.drop n, Sh (upd H p (.lst (refs (ths.drop n)))) t.1 t.2 := fun t ht => sh_same (hsh t (List.mem_of_mem_drop ht)) S1
  generalize upd H p (.lst (refs (ths.drop n))) = H1 at S1 hp1 hsh1 ⊢
  have q := q H1 S1
  generalize ths.drop n = ts at hp1 hsh1 q ⊢
  refine ⟨p, rfl, ⟨_, SqL.of hp1⟩, for_list (K := K) (a := p) (xs := refs ts) (fun j σ H' => ∃ p5 : Option V, σ = [some x, some (.ref tl), some (.int (n : Nat)), some (.int (a : Nat)), some (.int (c : Nat)), p5] ∧ H' = H1 ∧ ∀ i t, i < j → ts[i]? = some t → failing a c t = false)
    ⟨none, rfl, rfl, fun i t hi => absurd hi (Nat.not_lt_zero _)⟩ ?_ ?_ ?_⟩
  · rintro j σ H' _ ⟨p5, rfl, rfl, _⟩
    exact SqL.of hp1
  · rintro j y σ H' hy ⟨p5, rfl, rfl, k1⟩
    rw [refs, List.getElem?_map] at hy
    obtain ⟨t, ht, rfl⟩ := Option.map_eq_some_iff.mp hy
    have hm := List.mem_of_getElem? ht
    obtain ⟨oa, hda, hoa⟩ := dget_sh (hsh1 t hm) a
    obtain ⟨oc, hdc, hoc⟩ := dget_sh (hsh1 t hm) c
    have stay : failing a c t = false → ∀ i t', i < j + 1 → ts[i]? = some t' → failing a c t' = false := fun h i t' hi ht' => by
      by_cases ci : i = j
      · rw [ci, ht] at ht'
        cases ht'
        exact h
      · exact k1 i t' (by omega) ht'
    refine ⟨_, rfl, _, rfl, t.1, oa, rfl, hda, _, rfl, ?_⟩
    by_cases la : a ∈ t.2
    · rw [hoa, decide_eq_true la]
      refine iteT ⟨_, rfl, _, rfl, t.1, oc, rfl, hdc, _, rfl, ?_⟩
      by_cases lc : c ∈ t.2
      · rw [hoc, decide_eq_true lc]
        exact iteF ⟨_, rfl, rfl, stay (by unfold failing; simp [lc])⟩
      · rw [hoc, decide_eq_false lc]
        have e : ts.any (failing a c) = true := List.any_eq_true.mpr ⟨t, hm, by unfold failing; simp [la, lc]⟩
        rw [e] at q
        exact iteT q
    · rw [hoa, decide_eq_false la]
      exact iteF (iteF ⟨_, rfl, rfl, stay (by unfold failing; simp [la])⟩)
  · rintro σ H' ⟨p5, rfl, rfl, k1⟩
    have e : ts.any (failing a c) = false := by
      rw [List.any_eq_false]
      intro t ht
      obtain ⟨i, hi⟩ := List.getElem?_of_mem ht
      rw [k1 i t (by rw [refs, List.length_map]; exact (List.getElem?_eq_some_iff.mp hi).1) hi]
      decide
    rw [e] at q
    exact q
end
end My

set_option Elab.async false
set_option linter.all false
set_option maxRecDepth 100000
set_option maxHeartbeats 2000000
/-! grow -/
namespace My
open PySem PySem.Spec L2 PyProof.Rows
/-- at most so many worlds -/
def Wn : Nat → Nat
  | 0 => 1
  | u + 1 => 1 + (u + 1) * Wn u
theorem Wn_eq (u : Nat) : Wn u = 1 + u * Wn (u - 1) := by cases u <;> simp [Wn]
/-- the thens that may still want a world -/
def Use (F : Fx) (ks U : List Nat) : Prop := ∀ j a c, F.part j = some (.bin .th a c) → ¬ D F.P (F.Γ ks) a → j ∈ U
def spGrow (P : Program) (w : World) (F : Fx) (tr tl : Addr) (m : Nat) : Sp := fun vs H Q _ => ∃ T r g ks i b, ∃ (ws : List V) (ths : Sts) (U : List Nat) (par : V), vs = [.ref F.p, .ref tr, .ref tl, par, .ref g, .int (i : Nat)] ∧ St P w F H T r ∧ H g = some (.tup (gV ks)) ∧ Asc F ks ∧ r ≤ 16 * T.length ∧ F.part i = some b ∧ ¬ D F.P (F.Γ ks) b ∧ F.n < ks.length + m ∧
  H tr = some (.lst ws) ∧ H tl = some (.lst (refs ths)) ∧ (∀ t ∈ ths, Sh H t.1 t.2) ∧ ths.length = ws.length ∧ Use F ks U ∧ ws.length + Wn U.length ≤ 10000000 ∧
  ∀ H' T' r' (ws' : List V) (ex : Sts), St P w F H' T' r' → Nx F [tr, tl] 0 H T H' T' → r' ≤ 16 * T'.length → H' tr = some (.lst ws') → H' tl = some (.lst (refs (ths ++ ex))) → (∀ t ∈ ths ++ ex, Sh H' t.1 t.2) → (ths ++ ex).length = ws'.length → ws'.length ≤ ws.length + Wn U.length → Q .non H'
/-- two lists of one's own beside the search -/
structure Own (F : Fx) (tr tl : Addr) : Prop where
  r0 : F.H0 tr = none
  l0 : F.H0 tl = none
  rl : tr ≠ tl
  rp : tr ≠ F.pl
  rr : tr ≠ F.rw
  lp : tl ≠ F.pl
  lr : tl ≠ F.rw
abbrev Nw : List Str := ["search", "tree", "theories", "parent", "given", "number", "shown", "place", "names", "part", "one", "other", "k"]
theorem sc_grow : FnScope Nw ["search", "tree", "theories", "parent", "given", "number"] (defScope sGrow) := ⟨rfl, rfl, rfl, by decide +kernel, rfl, by decide +kernel, by decide +kernel⟩
section
variable {P : Program} {w : World} {K : PySem.W.Frag} {mg : Str → Option Value} {base : Heap}
theorem St.lst {F : Fx} {H : Hp} {T : List Th} {r : Nat} (h : St P w F H T r) {D : Addr} {xs ys : List V} (hD : H D = some (.lst xs)) (h1 : D ≠ F.pl) (h2 : D ≠ F.rw) (h0 : F.H0 D = none) : St P w F (upd H D (.lst ys)) T r := by
  obtain ⟨rs, q1, q2⟩ := h.rows
  have nf : ∀ {b o}, H b = some o → (∀ z, o ≠ .lst z) → b ≠ D := fun e n => ne_of e hD (n _)
  have sn : ∀ {a : Addr} {M : List Nat}, Sh H a M → a ≠ D := fun q => by
    obtain ⟨_, e⟩ := q.is
    exact nf e (fun z q => by cases q)
  exact { h with
    same := fun b u e => by rw [upd_ne (ne_of_none e h0)]; exact h.same b u e
    ins := by rw [upd_ne (nf h.ins (fun z q => by cases q))]; exact h.ins
    num := by rw [upd_ne (nf h.num (fun z q => by cases q))]; exact h.num
    parts := by rw [upd_ne h1.symm]; exact h.parts
    rows := ⟨rs, by rw [upd_ne h2.symm]; exact q1, q2⟩
    ths := by rw [upd_ne (nf h.ths (fun z q => by cases q))]; exact h.ths
    sh := fun t ht => ⟨(h.sh t ht).1.upd (sn (h.sh t ht).1), (h.sh t ht).2⟩
    rok := fun rs' e j v hj => (h.rok rs' (by rwa [upd_ne h2.symm] at e) j v hj).upd fun xs e => by rw [hD] at e; cases e
    shv := fun t ht => (h.shv t ht).upd (sn (h.sh t ht).1) }
theorem filt_le (U : List Nat) (j : Nat) : (U.filter fun x => decide (x < j)).length ≤ (U.filter fun x => decide (x < j + 1)).length := by
  induction U with
  | nil => exact Nat.le_refl _
  | cons x U ih =>
    simp only [List.filter_cons]
    by_cases h : x < j
    · have h2 : x < j + 1 := by omega
      simp only [h, h2, decide_true, if_true, List.length_cons]
      omega
    · by_cases h2 : x < j + 1
      · simp only [h, h2, decide_true, decide_false, if_true, List.length_cons]
        simp
        omega
      · simp only [h, h2, decide_false]
        simpa using ih
theorem filt_lt : ∀ {U : List Nat} {j : Nat}, j ∈ U → (U.filter fun x => decide (x < j)).length + 1 ≤ (U.filter fun x => decide (x < j + 1)).length
  | x :: U, j, h => by
    have ih := filt_le U j
    simp only [List.filter_cons]
    by_cases e : x = j
    · subst e
      have h1 : ¬ x < x := by omega
      have h2 : x < x + 1 := by omega
      simp only [h1, h2, decide_true, decide_false, if_true, List.length_cons]
      simp
      omega
    · have ih2 := filt_lt ((List.mem_cons.mp h).resolve_left fun q => e q.symm)
      by_cases h1 : x < j
      · have h2 : x < j + 1 := by omega
        simp only [h1, h2, decide_true, if_true, List.length_cons]
        omega
      · have h2 : ¬ x < j + 1 := by omega
        simp only [h1, h2, decide_false]
        simpa using ih2
theorem filt_all (U : List Nat) (j : Nat) : (U.filter fun x => decide (x < j)).length ≤ U.length := List.length_filter_le _ _
theorem ok_grow {F : Fx} (T : TxS K mg F.C) (o : FxOk P w K F) {tr tl : Addr} (own : Own F tr tl) {f fr fx : Addr} {fd fdr fdx : FuncData} (Dg : L2.Fun K "grow" "grow" sGrow f fd) (hG : mg "grow" = some (.ref f)) (bG : Binds K fd ["search", "tree", "theories", "parent", "given", "number"] [])
    (Dr : L2.Fun K "ripe" "ripe" sRipe fr fdr) (hR : mg "ripe" = some (.ref fr)) (bR : Binds K fdr ["search", "given", "number"] []) (Dx : L2.Fun K "is_failing" "is_failing" sFail fx fdx) (hX : mg "is_failing" = some (.ref fx)) (bX : Binds K fdx ["search", "theories", "number", "one", "other"] []) :
    ∀ m, FnOk P w K mg base CX0 (90 + m) f fd ["search", "tree", "theories", "parent", "given", "number"] (spGrow P w F tr tl m)
  | 0 => by
    have no : ∀ vs H Q E, ¬ spGrow P w F tr tl 0 vs H Q E := fun vs H Q E h => by
      obtain ⟨_, _, _, ks, _, _, _, _, _, _, _, _, _, hA, _, _, _, h1, _⟩ := h
      have := few_of (asc_nodup hA) hA.2
      omega
    exact ⟨fun vs H Q E h => absurd h (no vs H Q E), fun A outer s H args us vs Q E _ _ _ _ h => absurd h (no vs H Q E)⟩
  | m + 1 => by
    have GG := ok_grow T o own Dg hG bG Dr hR bR Dx hX bX m
    have GR := ok_ripe (P := P) (w := w) (base := base) T o Dr hR bR 17
    have GX := ok_fail (P := P) (w := w) (mg := mg) (base := base) Dx
    have DR := Dr.kp
    have DX := Dx.kp
    have DG := Dg.kp
    obtain ⟨fF, fdF, mF, GF, bF, _⟩ := (from_all (P := P) (w := w) (base := base) T o 17).ex
    obtain ⟨fN, fdN, mN, GN, bN, _⟩ := (ok_nums (P := P) (w := w) (base := base) T o).ex
    obtain ⟨fW, fdW, mW, GW, bW, _⟩ := (ok_with (P := P) (w := w) (base := base) T).ex
    have sc := sc_grow
    refine Dg.ok sc (fun vs H Q E h => ?_) (fun cdv A outer s0 H vs Q E hr h => ?_)
    · obtain ⟨_, _, _, _, _, _, _, _, _, _, rfl, _⟩ := h
      rfl
    obtain ⟨Ts, r, g, ks, i, b, ws, ths, U, par, rfl, S, hg, hA, hrb, hb, hnb, hm', hws, hths, hsh, hlen, hU, hW, q⟩ := h
    have hu := hu_of hr
    have hrm : Room (90 + m) _ := hr
    have hrR : Room (70 + 17) _ := hrm.mono (by omega)
    have hr69 : Room (4 * 17 + 1) _ := hrm.mono (by omega)
    have hr1 : Room 1 _ := hrm.mono (by omega)
    refine ⟨_, pss_cons (ps_set (i := 4) sc.nd rfl (Or.inl rfl) (pe_call GR hrR rfl hR DR bR .nil pass0 (pa_cons (pv 0) (pa_cons (pv 4) (pa_cons (pv 5) pa_nil)))))
    (pss_cons (ps_set (i := 6) sc.nd rfl (Or.inl rfl) (pe_meth (pv 0) T.cl mF GF hr69 bF .nil pass0 (pa_cons (pv 4) pa_nil)))
    (pss_cons (ps_set (i := 7) sc.nd rfl (Or.inl rfl) (pe_callB call_len_seq (by rfl) T.z_len PySem.boot_len (pa_cons (pv 1) pa_nil)))
    (pss_cons (ps_setLc (i := 8) (own := [("k", 12)]) (g := gName 12) (tt := tTest (tOp rEq (tOp (rIxT K) (tOp (rIxL K) (tFld K (tVar 0) "parts") (tVar 12)) (tC (.int 0))) (tC (.str "name")))) (te := (tOp (rIxT K) (tOp (rIxL K) (tFld K (tVar 0) "parts") (tVar 12)) (tC (.int 1)))) rfl sc.nd rfl rfl (sw_true rfl rfl rfl (by decide +kernel)) (pi_list (pe_callB (cr_sortedDK rfl) (by rfl) T.z_sorted (by rfl) (pa_cons (pv 6) pa_nil))) (blkOk_by (N := Nw) (sc := defScope sGrow) (by decide +kernel)) (fun _ _ _ _ _ => pg_name (i := 12) sc.nd rfl (Or.inl rfl)) (fun _ _ _ _ _ => pts_one (by exact (pt_cmpR op_eq (pe_ix ix_tup (pe_ix ix_list (pe_fld (pv 0) rfl) (pv 12) (fun _ _ => rfl)) pe_int (fun _ _ => rfl)) pe_str (nomark _)))) (fun _ _ _ _ _ => by exact (pe_ix ix_tup (pe_ix ix_list (pe_fld (pv 0) rfl) (pv 12) (fun _ _ => rfl)) pe_int (fun _ _ => rfl))))
    (pss_cons (ps_expr (pe_bm PySem.F.plainAttrs_list PySem.F.slot_list_append PySem.F.type_list_append mt_append (pv 1) (pa_cons (pe_tup (pa_cons (pv 3) (pa_cons (pe_tupleOf rfl T.z_tuple (pe_callB cr_sortedS (by rfl) T.z_sorted (by rfl) (pa_cons (pv 8) pa_nil))) pa_nil))) pa_nil)))
    (pss_cons (ps_expr (pe_bm PySem.F.plainAttrs_list PySem.F.slot_list_append PySem.F.type_list_append mt_append (pv 2) (pa_cons (pv 6) pa_nil)))
    (pss_one (ps_for PassesOwn.never rfl (pi_range1 rfl T.z_range (pa_cons (pe_callB call_len_seq (by rfl) T.z_len PySem.boot_len (pa_cons (pe_fld (pv 0) rfl) pa_nil)) pa_nil)) (pg_name (i := 9) sc.nd rfl (Or.inl rfl)) (pss_one (ps_if (PW.pt (pw_and (pt_cmpR op_eq (pe_ix ix_tup (pe_ix ix_list (pe_fld (pv 0) rfl) (pv 9) (fun _ _ => rfl)) pe_int (fun _ _ => rfl)) pe_str (nomark _)) (pw_and1 (pt_cmp (pc_dnotin hu (pv 9) (pv 6)))))) (pss_cons (ps_asg (pe_meth (pv 0) T.cl mN GN hr1 bN .nil pass0 (pa_cons (pv 9) pa_nil)) (pg_tup rfl (pgs_cons (pg_name (i := 10) sc.nd rfl (Or.inl rfl)) (pgs_cons (pg_name (i := 11) sc.nd rfl (Or.inl rfl)) pgs_nil))))
    (pss_one (ps_if (pt_not (pt_val (pe_call GX hr1 rfl hX DX bX .nil pass0 (pa_cons (pv 0) (pa_cons (pv 2) (pa_cons (pv 7) (pa_cons (pv 10) (pa_cons (pv 11) pa_nil)))))))) (pss_one (ps_expr (pe_call GG hrm rfl hG DG bG .nil pass0 (pa_cons (pv 0) (pa_cons (pv 1) (pa_cons (pv 2) (pa_cons (pv 7) (pa_cons (pe_meth (pv 0) T.cl mW GW hr1 bW .nil pass0 (pa_cons (pv 4) (pa_cons (pv 10) pa_nil))) (pa_cons (pv 11) pa_nil))))))))) pss_nil))) pss_nil))))))))), ?_⟩
    have noN : (pf F.nd F.pl F.rw F.td).lookup ("numbers_in" : Str) = none := pf_no _ _ _ _ (by decide +kernel) (by decide +kernel) (by decide +kernel) (by decide +kernel)
    have noW : (pf F.nd F.pl F.rw F.td).lookup ("with_one" : Str) = none := pf_no _ _ _ _ (by decide +kernel) (by decide +kernel) (by decide +kernel) (by decide +kernel)
    have noF : (pf F.nd F.pl F.rw F.td).lookup ("shown_from" : Str) = none := pf_no _ _ _ _ (by decide +kernel) (by decide +kernel) (by decide +kernel) (by decide +kernel)
    have ho16 := o.le
    refine ⟨_, rfl, _, rfl, _, rfl, Ts, r, g, ks, i, b, rfl, S, hg, hA, hrb, hb, hnb, by omega, fun g1 ks1 H1 T1 r1 S1 N1 hg1 hA1 hks1 hnb1 hrb1 => ?_⟩
    have hk1 := few_of (asc_nodup hA1) hA1.2
    have hkk : ks.length ≤ ks1.length := len_le ks1 ks (asc_nodup hA) hks1
    refine ⟨_, rfl, F.p, F.dx, _, rfl, S1.ins, noF, _, rfl, T1, r1, g1, ks1, 0, rfl, S1, hg1, hA1, Nat.zero_le _, hrb1, by omega, fun s L H2 T2 r2 S2 N2 mem2 b2 => ?_⟩
    have N2' := N1.trans (N2.le (fun _ h => h) (Nat.zero_le _))
    have hg2 := tup_stays S1 N2 (fun x h => (nomatch h)) hg1
    have hws2 : H2 tr = some (.lst ws) := N2'.fr _ _ hws own.rr (ne_of hws S.ths (by intro q; cases q)) (by simp)
    have hths2 : H2 tl = some (.lst (refs ths)) := N2'.fr _ _ hths own.lr (ne_of hths S.ths (by intro q; cases q)) (by simp)
    have hsh2 : ∀ t ∈ ths, Sh H2 t.1 t.2 := fun t ht => by
      obtain ⟨kvs, e1, e2⟩ := hsh t ht
      obtain ⟨rs, e3, _⟩ := S.rows
      exact ⟨kvs, N2'.fr _ _ e1 (ne_of e1 e3 (by intro q; cases q)) (ne_of e1 S.ths (by intro q; cases q)) (by simp), e2⟩
    refine ⟨_, rfl, tr, _, rfl, .inl (SqL.of hws2), ?_⟩
    obtain ⟨Lnd, Llt⟩ := S2.ln _ mem2
    have hF2 := (S2.asc _ mem2).2
    obtain ⟨kvs, hkv, hkey⟩ := (S2.sh _ mem2).1
    refine ⟨_, rfl, s, kvs, L.map (fun (i : Nat) => (i : Int)), rfl, .inl hkv, by rw [List.map_map]; exact hkey, fun ys p hp hsrt hnp => ?_⟩
    obtain ⟨is, rfl, his⟩ := nat_of hp
    have his16 : is.length ≤ 16 := by rw [his.length_eq]; exact Nat.le_trans (few_of Lnd Llt) ho16
    have k3 := same_new hnp (.lst ((is.map (fun (i : Nat) => (i : Int))).map V.int))
    have hp3 : (upd H2 p (.lst ((is.map (fun (i : Nat) => (i : Int))).map V.int))) p = some (.lst ((is.map (fun (i : Nat) => (i : Int))).map V.int)) := upd_same
    generalize upd H2 p (.lst ((is.map (fun (i : Nat) => (i : Int))).map V.int)) = H3 at k3 hp3 ⊢
    have S3 := S2.same' k3
    refine ⟨p, rfl, ⟨_, SqL.of hp3⟩, fun D hD => lc_list (K := K) (a := p) (xs := (is.map (fun (i : Nat) => (i : Int))).map V.int) (fun j H' => ∃ acc : List Str, H' = upd H3 D (.lst (acc.map V.str)) ∧ acc.length ≤ j) ⟨[], rfl, Nat.zero_le _⟩ ?_ ?_ ?_⟩
    · rintro j H' _ ⟨acc, rfl, _⟩
      exact SqL.of (same_new hD _ _ _ hp3)
    · rintro j y H' hy ⟨acc, rfl, hacc⟩
      rw [List.map_map, List.getElem?_map] at hy
      obtain ⟨k, hk, rfl⟩ := Option.map_eq_some_iff.mp hy
      have hjl := (List.getElem?_eq_some_iff.mp hk).1
      have hkL := his.mem_iff.mp (List.mem_of_getElem? hk)
      obtain ⟨x, _, _, hx⟩ := Fx.lt_part (Llt k hkL)
      have S4 := S3.new (o := .lst (acc.map V.str)) hD
      obtain ⟨t, h1, h2, h3, h4⟩ := S4.part o hx
      obtain ⟨t', xs, e, h5, h6⟩ := dp_word h4
      cases e
      refine ⟨rfl, ?_⟩
      refine ⟨_, rfl, F.p, F.C, F.dx, _, _, rfl, S4.ins, T.cl, T.nP, pf_l _ _ _ _, _, rfl, F.pl, _, _, _, rfl, rfl, SqL.of S4.parts, atI_nat h2, t, xs, _, _, rfl, rfl, h5, h6, rfl, ?_⟩
      cases x with
      | nm z =>
        refine ⟨true, congrArg V.bl (decide_eq_true rfl), iteT ?_⟩
        obtain ⟨t2, e2, h7⟩ : ∃ t2, V.ref t = .ref t2 ∧ SqT K (upd H3 D (.lst (acc.map V.str))) t2 [.str "name", .str z] := by
          cases h4 with
          | tup q1 q2 =>
            cases q2 with
            | cons q3 q4 =>
              cases q3
              cases q4 with
              | cons q5 q6 =>
                cases q5
                cases q6
                exact ⟨_, rfl, q1⟩
        cases e2
        refine ⟨_, rfl, F.p, F.C, F.dx, _, _, rfl, S4.ins, T.cl, T.nP, pf_l _ _ _ _, _, rfl, F.pl, _, _, _, rfl, rfl, SqL.of S4.parts, atI_nat h2, t, _, _, _, rfl, rfl, h7, atI_nat (j := 1) rfl, acc.map V.str, upd_same, by rw [List.length_map, sizeLine_eq]; omega, acc ++ [z], by rw [upd_upd, List.map_append]; rfl, by rw [List.length_append, List.length_singleton]; omega⟩
      | fl => exact ⟨false, congrArg V.bl (decide_eq_false (w_fl (by decide +kernel))), iteF ⟨acc, rfl, by omega⟩⟩
      | bin z a c =>
        have hne : ¬ z.word = "name" := by cases z <;> decide +kernel
        exact ⟨false, congrArg V.bl (decide_eq_false (w_bin hne)), iteF ⟨acc, rfl, by omega⟩⟩
    rintro H' ⟨acc, rfl, hacc⟩
    rw [List.length_map, List.length_map] at hacc
    have k4 := k3.trans (same_new hD (.lst (acc.map V.str)))
    have hD4 : (upd H3 D (.lst (acc.map V.str))) D = some (.lst (acc.map V.str)) := upd_same
    generalize upd H3 D (.lst (acc.map V.str)) = H4 at k4 hD4 ⊢
    refine ⟨_, rfl, .inl ⟨rfl, _, SqL.of (k4 _ _ hws2)⟩, _, rfl, _, rfl, D, acc, rfl, SqL.of hD4, by omega, fun zs p2 hp2 hs2 hn2 => .inl ⟨p2, _, rfl, SqL.of upd_same, fun q2 hq2 => ⟨by show 2 ≤ sizeLine; decide, fun t2 ht2 => ?_⟩⟩⟩
    have k5 := k4.trans ((same_new hn2 (.lst (zs.map V.str))).trans ((same_new hq2 (.tup (zs.map V.str))).trans (same_new ht2 (.tup [par, .ref q2]))))
    generalize upd (upd (upd H4 p2 (.lst (zs.map V.str))) q2 (.tup (zs.map V.str))) t2 (.tup [par, .ref q2]) = H5 at k5 ⊢
    have hW1 := Wn_eq U.length
    have hg5 := k5 _ _ hg2
    have hg6 : (upd H5 tr (.lst (ws ++ [.ref t2]))) g1 = some (.tup (gV ks1)) := by rw [upd_ne (ne_of hg5 (k5 _ _ hws2) (by intro q; cases q))]; exact hg5
    refine ⟨tr, ws, _, rfl, rfl, k5 _ _ hws2, by rw [sizeLine_eq]; omega, ?_⟩
    have S5 := S2.same' k5
    have S6 := S5.lst (ys := ws ++ [.ref t2]) (k5 _ _ hws2) own.rp own.rr own.r0
    have hths6 : (upd H5 tr (.lst (ws ++ [.ref t2]))) tl = some (.lst (refs ths)) := by rw [upd_ne own.rl.symm]; exact k5 _ _ hths2
    have htr6 : (upd H5 tr (.lst (ws ++ [.ref t2]))) tr = some (.lst (ws ++ [.ref t2])) := upd_same
    have N5 : Nx F [tr, tl] 0 H Ts H5 T2 := (N2'.le (fun _ h => (nomatch h)) (Nat.le_refl _)).trans (Nx.same' k5)
    have N6 : Nx F [tr, tl] 0 H Ts (upd H5 tr (.lst (ws ++ [.ref t2]))) T2 := N5.trans (Nx.put (k5 _ _ hws2) (.inl (by simp)) fun rs' e => ⟨rs', by rw [upd_ne own.rr.symm]; exact e, Nat.le_refl _⟩)
    generalize upd H5 tr (.lst (ws ++ [.ref t2])) = H6 at S6 hths6 htr6 N6 hg6 ⊢
    have hdk : ∀ {a : Addr} {M : List Nat} {X : List Addr} {Ha Hb : Hp} {Ta Tb : List Th} {ra m' : Nat}, St P w F Ha Ta ra → Nx F X m' Ha Ta Hb Tb → (∀ x ∈ X, ∃ l, Ha x = some (.lst l)) → Sh Ha a M → Sh Hb a M := fun Sa n hX h => by
      obtain ⟨kvs, e1, e2⟩ := h
      obtain ⟨rs, e3, _⟩ := Sa.rows
      refine ⟨kvs, n.fr _ _ e1 (ne_of e1 e3 (by intro q; cases q)) (ne_of e1 Sa.ths (by intro q; cases q)) fun hx => ?_, e2⟩
      obtain ⟨l, e⟩ := hX _ hx
      rw [e1] at e
      cases e
    have htp : ∀ {a : Addr} {xs : List V} {X : List Addr} {Ha Hb : Hp} {Ta Tb : List Th} {ra m' : Nat}, St P w F Ha Ta ra → Nx F X m' Ha Ta Hb Tb → (∀ x ∈ X, ∃ l, Ha x = some (.lst l)) → Ha a = some (.tup xs) → Hb a = some (.tup xs) := fun Sa n hX e1 => by
      obtain ⟨rs, e3, _⟩ := Sa.rows
      refine n.fr _ _ e1 (ne_of e1 e3 (by intro q; cases q)) (ne_of e1 Sa.ths (by intro q; cases q)) fun hx => ?_
      obtain ⟨l, e⟩ := hX _ hx
      rw [e1] at e
      cases e
    refine ⟨_, rfl, .inl ⟨rfl, _, SqL.of hths6⟩, _, rfl, tl, refs ths, _, rfl, rfl, hths6, by rw [refs, List.length_map, hlen, sizeLine_eq]; omega, ?_⟩
    have e7 : refs ths ++ [V.ref s] = refs (ths ++ [(s, L)]) := by simp [refs]
    rw [e7]
    have S7 := S6.lst (ys := refs (ths ++ [(s, L)])) hths6 own.lp own.lr own.l0
    have hth7 : (upd H6 tl (.lst (refs (ths ++ [(s, L)])))) tl = some (.lst (refs (ths ++ [(s, L)]))) := upd_same
    have htr7 : (upd H6 tl (.lst (refs (ths ++ [(s, L)])))) tr = some (.lst (ws ++ [.ref t2])) := by rw [upd_ne own.rl]; exact htr6
    have N7 : Nx F [tr, tl] 0 H Ts (upd H6 tl (.lst (refs (ths ++ [(s, L)])))) T2 := N6.trans (Nx.put hths6 (.inl (by simp)) fun rs' e => ⟨rs', by rw [upd_ne own.lr.symm]; exact e, Nat.le_refl _⟩)
    have hg7 : (upd H6 tl (.lst (refs (ths ++ [(s, L)])))) g1 = some (.tup (gV ks1)) := by rw [upd_ne (ne_of hg6 hths6 (by intro q; cases q))]; exact hg6
    generalize upd H6 tl (.lst (refs (ths ++ [(s, L)]))) = H7 at S7 hth7 htr7 N7 hg7 ⊢
    have hXH : ∀ x ∈ [tr, tl], ∃ l, H x = some (.lst l) := fun x hx => by
      rcases List.mem_cons.mp hx with h | h
      · exact ⟨ws, h ▸ hws⟩
      · exact ⟨refs ths, List.mem_singleton.mp h ▸ hths⟩
    have hsh7 : ∀ t ∈ ths, Sh H7 t.1 t.2 := fun t ht => hdk S N7 hXH (hsh t ht)
    have hshs : Sh H7 s L := (S7.sh _ mem2).1
    refine ⟨_, rfl, F.p, F.C, F.dx, _, _, rfl, S7.ins, T.cl, T.nP, pf_l _ _ _ _, F.pl, _, rfl, .inl (SqL.of S7.parts), _, rfl, ?_, ?_, ?_⟩
    · omega
    · rw [List.length_map]
      have e : F.es.length = F.n := rfl
      omega
    have hn : ((F.es.map fun e => V.ref e.2).length : Int).toNat = F.n := by rw [List.length_map]; rfl
    have hkL : ∀ j ∈ ks1, j ∈ L := fun j hj => by
      obtain ⟨x, _, _, hx⟩ := Fx.lt_part (hA1.2 j hj)
      exact (hF2 j x hx).mpr (.given (Fx.part_P hx) ⟨j, hj, hx⟩)
    refine for_range (fun j σ H' => ∃ (p9 p10 p11 : Option V) (T' : List Th) (r' : Nat) (ws' : List V) (ex : Sts), σ = [some (.ref F.p), some (.ref tr), some (.ref tl), some par, some (.ref g1), some (.int (i : Nat)), some (.ref s), some (.int (ws.length : Nat)), some (.ref D), p9, p10, p11, none] ∧ St P w F H' T' r' ∧ Nx F [tr, tl] 0 H Ts H' T' ∧ r' ≤ 16 * T'.length ∧
        H' tr = some (.lst ws') ∧ H' tl = some (.lst (refs (ths ++ ((s, L) :: ex)))) ∧ (∀ t ∈ ths ++ ((s, L) :: ex), Sh H' t.1 t.2) ∧ (ths ++ ((s, L) :: ex)).length = ws'.length ∧ ws'.length ≤ ws.length + 1 + (U.filter fun x => decide (x < j)).length * Wn (U.length - 1) ∧ ⟨ks1, s, L⟩ ∈ T' ∧ H' g1 = some (.tup (gV ks1)))
      ⟨none, none, none, T2, r2, _, [], rfl, S7, N7, b2, htr7, hth7, fun t ht => ?_, by simp [hlen], by rw [List.length_append, List.length_singleton]; omega, mem2, hg7⟩ ?_ ?_
    · rcases List.mem_append.mp ht with h | h
      · exact hsh7 t h
      · rw [List.mem_singleton.mp h]; exact hshs
    · rintro j σ H' hj ⟨p9, p10, p11, T', r', ws', ex, rfl, S8, N8, b8, htr8, htl8, hsh8, hl8, hc8, mem8, hg8⟩
      rw [hn] at hj
      obtain ⟨y, _, _, hy⟩ := Fx.lt_part hj
      have hcl := Nat.mul_le_mul_right (Wn (U.length - 1)) (filt_le U j)
      have sh8 : Sh H' s L := (S8.sh _ mem8).1
      obtain ⟨t, h1, h2, h3, h4⟩ := S8.part o hy
      obtain ⟨t', xs, e, h5, h6⟩ := dp_word h4
      cases e
      obtain ⟨od, hd, ho⟩ := dget_sh sh8 j
      rw [Int.zero_add]
      refine ⟨_, rfl, F.p, F.C, F.dx, _, _, rfl, S8.ins, T.cl, T.nP, pf_l _ _ _ _, _, rfl, F.pl, _, _, _, rfl, rfl, SqL.of S8.parts, atI_nat h2, t, xs, _, _, rfl, rfl, h5, h6, rfl, ?_⟩
      by_cases isth : ∃ a c, y = .bin .th a c
      · obtain ⟨a, c, rfl⟩ := isth
        refine ⟨true, congrArg V.bl (decide_eq_true rfl), iteT ⟨_, rfl, _, rfl, s, od, rfl, hd, _, rfl, ?_⟩⟩
        by_cases hjL : j ∈ L
        · rw [ho, decide_eq_true hjL]
          exact iteF ⟨_, _, _, T', r', ws', ex, rfl, S8, N8, b8, htr8, htl8, hsh8, hl8, by omega, mem8, hg8⟩
        rw [ho, decide_eq_false hjL]
        have pz := Fx.part_P hy
        obtain ⟨ia, hia⟩ := Fx.P_part (o.cl.l pz)
        obtain ⟨ic, hic⟩ := Fx.P_part (o.cl.r pz)
        refine iteT ⟨_, rfl, F.p, F.dx, _, rfl, S8.ins, noN, _, rfl, T', r', j, .th, a, c, ia, ic, rfl, S8, hy, hia, hic, fun q' hq' => ?_⟩
        refine ⟨q', _, rfl, SqT.of upd_same, rfl, _, _, rfl, _, _, rfl, rfl, ?_⟩
        have k9 := same_new hq' (.tup [.int (ia : Nat), .int (ic : Nat)])
        generalize upd H' q' (.tup [.int (ia : Nat), .int (ic : Nat)]) = H9 at k9 ⊢
        refine ⟨_, rfl, _, rfl, _, rfl, _, rfl, _, rfl, .ref F.p, tl, ths ++ ((s, L) :: ex), ws.length, ia, ic, rfl, k9 _ _ htl8, (fun t ht => sh_same (hsh8 t ht) k9), by rw [List.length_append]; omega, fun H10 k10 => ?_⟩
        have ed : (ths ++ ((s, L) :: ex)).drop ws.length = (s, L) :: ex := by rw [← hlen]; exact List.drop_left
        rw [ed]
        have k11 := k9.trans k10
        have S10 := S8.same' k11
        have N10 : Nx F [tr, tl] 0 H Ts H10 T' := N8.trans (Nx.same' k11)
        have hsh10 : ∀ t ∈ ths ++ ((s, L) :: ex), Sh H10 t.1 t.2 := fun t ht => sh_same (hsh8 t ht) k11
        refine ⟨_, rfl, ?_⟩
        cases hfail : ((s, L) :: ex).any (failing ia ic) with
        | true => exact iteF ⟨_, _, _, T', r', ws', ex, rfl, S10, N10, b8, k11 _ _ htr8, k11 _ _ htl8, hsh10, hl8, by omega, mem8, k11 _ _ hg8⟩
        | false =>
          have hf0 : failing ia ic (s, L) = false := by
            have := List.any_eq_false.mp hfail (s, L) List.mem_cons_self
            simpa using this
          have hic' : ic ∉ L := fun h => hjL ((hF2 j _ hy).mpr (.suppose pz (((hF2 ic c hic).mp h).mono fun _ => .inl)))
          have hia' : ia ∉ L := fun h => by
            unfold failing at hf0
            simp [h, hic'] at hf0
          have hjU : j ∈ U := hU j a c hy fun hD => hia' ((hF2 ia a hia).mpr (hD.mono fun x ⟨k, h1, h2⟩ => ⟨k, hks1 k h1, h2⟩))
          have hUl : (U.erase j).length = U.length - 1 := List.length_erase_of_mem hjU
          have hlt := filt_lt hjU
          have hall := filt_all U (j + 1)
          have hm1 := Nat.mul_le_mul_right (Wn (U.length - 1)) hlt
          have hm2 := Nat.mul_le_mul_right (Wn (U.length - 1)) hall
          rw [Nat.add_mul, Nat.one_mul] at hm1
          refine iteT ⟨_, rfl, _, rfl, _, rfl, _, rfl, _, rfl, F.p, F.dx, _, rfl, S10.ins, noW, _, rfl, _, rfl, ks1, g1, ia, F.dx, _, rfl, k11 _ _ hg8, hA1, by omega, Fx.part_lt hia, fun h => hia' (hkL _ h), S10.ins, fun H11 q11 js k12 hq11 aj lj mj => ?_⟩
          have gj := gam_add o hia mj
          have S11 := S10.same' k12
          have htr11 := k12 _ _ (k11 _ _ htr8)
          have htl11 := k12 _ _ (k11 _ _ htl8)
          refine ⟨_, rfl, T', r', q11, js, ic, c, ws', ths ++ ((s, L) :: ex), U.erase j, _, rfl, S11, hq11, aj, b8, hic, (fun hD => hjL ((hF2 j _ hy).mpr (.suppose pz (hD.mono fun x => (gj x).mp)))), by omega, htr11, htl11, (fun t ht => sh_same (hsh10 t ht) k12), hl8, ?_, by rw [hUl]; omega, fun H12 T12 r12 ws12 ex12 S12 N12 b12 htr12 htl12 hsh12 hl12 hc12 => ?_⟩
          · intro j' a' c' hy' hn'
            have h1 : j' ∈ U := hU j' a' c' hy' fun hD => hn' (hD.mono fun x ⟨k, h1, h2⟩ => ⟨k, (mj k).mpr (.inl (hks1 k h1)), h2⟩)
            have hne : j' ≠ j := fun e => by
              rw [e, hy] at hy'
              cases hy'
              exact hn' (.given (o.cl.l pz) ⟨ia, (mj ia).mpr (.inr rfl), hia⟩)
            exact (List.mem_erase_of_ne hne).mpr h1
          · have hX11 : ∀ x ∈ [tr, tl], ∃ l, H11 x = some (.lst l) := fun x hx => by
              rcases List.mem_cons.mp hx with h | h
              · exact ⟨_, h ▸ htr11⟩
              · exact ⟨_, List.mem_singleton.mp h ▸ htl11⟩
            have ea : ths ++ ((s, L) :: ex) ++ ex12 = ths ++ ((s, L) :: (ex ++ ex12)) := by simp
            rw [ea] at htl12 hsh12 hl12
            rw [hUl] at hc12
            exact ⟨_, _, _, T12, r12, ws12, ex ++ ex12, rfl, S12, (N10.trans (Nx.same' k12)).trans N12, b12, htr12, htl12, hsh12, hl12, by omega, N12.tt _ mem8, htp S11 N12 hX11 (k12 _ _ (k11 _ _ hg8))⟩
      · have n1 : ¬ V.str y.word = V.str "then" := fun e => by
          have e := V.str.inj e
          cases y with
          | nm z => exact absurd e (by show ¬ ("name" : Str) = "then"; decide +kernel)
          | fl => exact absurd e (by show ¬ ("false" : Str) = "then"; decide +kernel)
          | bin z a b =>
            cases z with
            | an => exact absurd e (by show ¬ ("and" : Str) = "then"; decide +kernel)
            | orr => exact absurd e (by show ¬ ("or" : Str) = "then"; decide +kernel)
            | th => exact isth ⟨a, b, rfl⟩
        exact ⟨false, congrArg V.bl (decide_eq_false n1), iteF (iteF ⟨_, _, _, T', r', ws', ex, rfl, S8, N8, b8, htr8, htl8, hsh8, hl8, by omega, mem8, hg8⟩)⟩
    · rintro σ H' ⟨p9, p10, p11, T', r', ws', ex, rfl, S8, N8, b8, htr8, htl8, hsh8, hl8, hc8, mem8, hg8⟩
      have hfa := filt_all U ((F.es.map fun e => V.ref e.2).length : Int).toNat
      have := Nat.mul_le_mul_right (Wn (U.length - 1)) hfa
      exact q H' T' r' ws' ((s, L) :: ex) S8 N8 b8 htr8 htl8 hsh8 hl8 (by omega)
end
end My

set_option Elab.async false
set_option linter.all false
set_option maxRecDepth 100000
set_option maxHeartbeats 2000000
/-! told -/
namespace My
open PySem PySem.Spec L2 PyProof.Rows
def isTh : Stm → Bool
  | .bin .th _ _ => true
  | _ => false
theorem Wn_up (u : Nat) : Wn u ≤ Wn (u + 1) := by
  show Wn u ≤ 1 + (u + 1) * Wn u
  rw [Nat.add_mul]
  omega
theorem Wn_mono {u v : Nat} (h : u ≤ v) : Wn u ≤ Wn v := by
  induction h with
  | refl => exact Nat.le_refl _
  | step _ ih => exact Nat.le_trans ih (Wn_up _)
/-- few thens -/
theorem use_few {P : Program} {w : World} {K : PySem.W.Frag} {F : Fx} (o : FxOk P w K F) {n : Nat} (h : ((F.es.map (·.1)).filter isTh).length ≤ n) : ∃ U : List Nat, U.length ≤ n ∧ Use F [] U := by
  refine ⟨(List.range F.n).filter fun j => isTh ((F.part j).getD .fl), ?_, fun j a c hj _ => ?_⟩
  · have hnd : (((List.range F.n).filter fun j => isTh ((F.part j).getD .fl)).map fun j => (F.part j).getD .fl).Nodup := by
      refine List.pairwise_map.mpr ?_
      refine ((List.nodup_range (n := F.n)).filter _).imp_of_mem fun {i j} hi hj hne e => hne ?_
      obtain ⟨x, _, _, hx⟩ := Fx.lt_part (List.mem_range.mp (List.mem_filter.mp hi).1)
      obtain ⟨y, _, _, hy⟩ := Fx.lt_part (List.mem_range.mp (List.mem_filter.mp hj).1)
      rw [hx, hy] at e
      have e : x = y := e
      subst e
      exact part_inj o hx hy
    have := len_le ((F.es.map (·.1)).filter isTh) _ hnd fun x hx => by
      obtain ⟨j, hj, rfl⟩ := List.mem_map.mp hx
      obtain ⟨h1, h2⟩ := List.mem_filter.mp hj
      obtain ⟨y, _, _, hy⟩ := Fx.lt_part (List.mem_range.mp h1)
      refine List.mem_filter.mpr ⟨?_, h2⟩
      rw [hy]
      exact Fx.part_P hy
    rw [List.length_map] at this
    omega
  · exact List.mem_filter.mpr ⟨List.mem_range.mpr (Fx.part_lt hj), by rw [hj]; rfl⟩
def spTold (K : PySem.W.Frag) : Sp := fun vs H Q _ => ∃ t x, vs = [.ref t] ∧ SL x ∧ DL.Dp K H (.ref t) x.enc ∧ (gathS x []).length ≤ 16 ∧ ((gathS x []).filter isTh).length ≤ 9 ∧
  ∀ H' q v, Same H H' → H' q = some (.tup [.str (open Classical in if Valid x then "shown" else "worlds"), v]) → Q (.ref q) H'
abbrev Nv : List Str := ["statement", "search", "last", "shown", "tree"]
theorem sc_told : FnScope Nv ["statement"] (defScope sTold) := ⟨rfl, rfl, rfl, by decide +kernel, rfl, by decide +kernel, by decide +kernel⟩
structure TxT (K : PySem.W.Frag) (mg : Str → Option Value) : Prop where
  d_need : DL.DefAt K mg "needed" sNeed ["rows", "last"]
  d_show : DL.DefAt K mg "showing_of" sShow ["rows", "last"]
  d_ripe : DL.DefAt K mg "ripe" sRipe ["search", "given", "number"]
  d_fail : DL.DefAt K mg "is_failing" sFail ["search", "theories", "number", "one", "other"]
  d_grow : DL.DefAt K mg "grow" sGrow ["search", "tree", "theories", "parent", "given", "number"]
  d_told : DL.DefAt K mg "told" sTold ["statement"]
section
variable {P : Program} {w : World} {K : PySem.W.Frag} {mg : Str → Option Value} {base : Heap}
theorem ok_told {C : Addr} (TI : TxI K mg C) (TT : TxT K mg) {f : Addr} {fd : FuncData} (D : L2.Fun K "told" "told" sTold f fd) : FnOk P w K mg base CX0 108 f fd ["statement"] (spTold K) := by
  have T := TI.base
  obtain ⟨fG0, fdG0, DG0, hG0, bG0⟩ := TI.d_gath.ex
  obtain ⟨fN, fdN, DN, hN, bN⟩ := TI.d_numd.ex
  obtain ⟨fI, fdI, DI, mI, bI⟩ := TI.m_init.ex
  obtain ⟨tM, hM⟩ := TI.gM
  obtain ⟨fne, fdne, Dne, hne, bne⟩ := TT.d_need.ex
  obtain ⟨fS, fdS, DS, hS, bS⟩ := TT.d_show.ex
  obtain ⟨fr, fdr, Dr, hR, bR⟩ := TT.d_ripe.ex
  obtain ⟨fx, fdx, Dx, hX, bX⟩ := TT.d_fail.ex
  obtain ⟨fg, fdg, Dg, hG, bG⟩ := TT.d_grow.ex
  have GG0 := ok_gath (P := P) (w := w) (base := base) DG0 hG0 bG0 TI.gP T.z_len 8
  have GN := ok_numd DN DG0 hG0 bG0 GG0
  have GI := ok_init T DI DN hN bN GN hM
  have Gne := ok_need (P := P) (w := w) (mg := mg) (base := base) Dne T.z_range T.z_sorted
  have GS := ok_show DS Dne hne bne Gne T.z_len T.z_tuple
  have M : Mk K C fI := ⟨TI.makes, mI.at_, mI.fn, TI.kc⟩
  obtain ⟨fF, fdF, mF, GF, bF, _⟩ := (Cm.all (P := P) (w := w) (base := base) (k := 69) (mg := mg) (sp := fun F => spFrom P w F 17) T.m_from fun F e o => by subst e; exact from_all T o 17).ex
  have GG : FnOk P w K mg base CX0 107 fg fdg ["search", "tree", "theories", "parent", "given", "number"] (fun vs H Q E => ∃ (F : Fx) (tr tl : Addr), F.C = C ∧ FxOk P w K F ∧ Own F tr tl ∧ spGrow P w F tr tl 17 vs H Q E) := by
    have get : ∀ (F : Fx) (tr tl : Addr), F.C = C → FxOk P w K F → Own F tr tl → FnOk P w K mg base CX0 107 fg fdg ["search", "tree", "theories", "parent", "given", "number"] (spGrow P w F tr tl 17) := fun F tr tl e o own => by
      subst e
      exact ok_grow T o own Dg hG bG Dr hR bR Dx hX bX 17
    refine ⟨fun vs H Q E h => ?_, fun A outer s H args us vs Q E h1 h2 h3 h4 h => ?_⟩
    · obtain ⟨F, tr, tl, e, o, own, h⟩ := h
      exact (get F tr tl e o own).len vs H Q E h
    · obtain ⟨F, tr, tl, e, o, own, h⟩ := h
      exact (get F tr tl e o own).run A outer s H args us vs Q E h1 h2 h3 h4 h
  have sc := sc_told
  refine D.ok sc (fun vs H Q E h => ?_) (fun cdv A outer s0 H vs Q E hr h => ?_)
  · obtain ⟨_, _, rfl, _⟩ := h
    rfl
  obtain ⟨t, x, rfl, sx, hx, hz, hth, q⟩ := h
  have hu := hu_of hr
  have hrG : Room 107 _ := hr
  have hr69 : Room 69 _ := hrG.mono (by decide)
  have hrI : Room 11 _ := hrG.mono (by decide)
  have hr2 : Room 2 _ := hrG.mono (by decide)
  refine ⟨_, pss_cons (ps_set (i := 1) sc.nd rfl (Or.inl rfl) (pe_make M GI hrI rfl TI.hC bI .nil pass0 (pa_cons (pv 0) pa_nil)))
    (pss_cons (ps_set (i := 2) sc.nd rfl (Or.inl rfl) (pe_op op_sub (pe_callB call_len_seq (by rfl) T.z_len PySem.boot_len (pa_cons (pe_fld (pv 1) rfl) pa_nil)) pe_int))
    (pss_cons (ps_set (i := 3) sc.nd rfl (Or.inl rfl) (pe_meth (pv 1) T.cl mF GF hr69 bF .nil pass0 (pa_cons (pe_tup pa_nil) pa_nil)))
    (pss_cons (ps_if (pt_cmp (pc_din hu (pv 2) (pv 3))) (pss_one (ps_ret (pe_tup (pa_cons pe_str (pa_cons (pe_call GS hr2 rfl hS DS.kp bS .nil pass0 (pa_cons (pe_fld (pv 1) rfl) (pa_cons (pe_dget hu (pv 3) (pv 2) (fun _ _ => rfl)) pa_nil))) pa_nil))))) pss_nil)
    (pss_cons (ps_set (i := 4) sc.nd rfl (Or.inl rfl) (pe_lst pa_nil))
    (pss_cons (ps_expr (pe_call GG hrG rfl hG Dg.kp bG .nil pass0 (pa_cons (pv 1) (pa_cons (pv 4) (pa_cons (pe_lst pa_nil) (pa_cons pe_non (pa_cons (pe_tup pa_nil) (pa_cons (pv 2) pa_nil))))))))
    (pss_one (ps_ret (pe_tup (pa_cons pe_str (pa_cons (pe_tupleOf rfl T.z_tuple (pv 4)) pa_nil)))))))))), ?_⟩
  refine ⟨_, rfl, fun p dxx np ndx nxp => ?_⟩
  have S0 : Same H (upd (upd H dxx (.own p)) p (.ins C dxx [])) := same_upd (same_new ndx _) np
  refine ⟨H, p, dxx, t, x, rfl, S0, np, upd_same, sx, hx, hz, fun F H1 eC eH ep o S1 es => ⟨rfl, ?_⟩⟩
  subst eC ep
  have noF : (pf F.nd F.pl F.rw F.td).lookup ("shown_from" : Str) = none := pf_no _ _ _ _ (by decide +kernel) (by decide +kernel) (by decide +kernel) (by decide +kernel)
  obtain ⟨U, hU1, hU2⟩ := use_few o (n := 9) (by rw [es]; exact hth)
  obtain ⟨l, hl⟩ := gathS_last x
  rw [hl] at es
  have hlen : F.n = l.length + 1 := by
    have := congrArg List.length es
    simp only [List.length_map, List.length_append, List.length_singleton] at this
    exact this
  have hpart : F.part (F.n - 1) = some x := by
    have h1 : (F.es.map (·.1))[F.n - 1]? = some x := by
      rw [es, hlen]
      simp
    rw [List.getElem?_map] at h1
    exact h1
  have ho16 := o.le
  have hkey : V.int (((F.es.map fun e => V.ref e.2).length : Int) - 1) = V.int ((F.n - 1 : Nat) : Int) := by
    rw [List.length_map]
    have : F.es.length = F.n := rfl
    rw [this]
    congr 1
    omega
  refine ⟨_, rfl, F.p, F.C, F.dx, _, _, rfl, S1.ins, T.cl, T.nP, pf_l _ _ _ _, F.pl, _, rfl, .inl (SqL.of S1.parts), _, _, rfl, rfl, ?_⟩
  show gName 2 (V.int (((F.es.map fun e => V.ref e.2).length : Int) - 1)) _ _ _
  rw [hkey]
  refine ⟨_, rfl, F.p, F.dx, _, rfl, S1.ins, noF, (by show 0 ≤ sizeLine; decide), fun g hg => ?_⟩
  refine ⟨F, rfl, o, [], 0, g, [], 0, rfl, S1.new hg, upd_same, ⟨List.Pairwise.nil, fun i hi => (nomatch hi)⟩, Nat.le_refl _, Nat.le_refl _, by show F.n < 0 + 17; omega, fun s L H2 T2 r2 S2 N2 mem b2 => ?_⟩
  obtain ⟨od, hd2, ho⟩ := dget_sh (S2.sh _ mem).1 (F.n - 1)
  have hfull := (S2.asc _ mem).2 _ x hpart
  have hv : (F.n - 1 ∈ L) ↔ Valid x := by
    refine hfull.trans (Iff.trans ?_ (shown_valid o.cl (L := F.es.map (·.1)) (fun _ => Iff.rfl) (Fx.part_P hpart)))
    exact ⟨fun h => h.mono fun y ⟨i, hi, _⟩ => (nomatch hi), fun h => h.mono fun y k => k.elim⟩
  refine ⟨_, rfl, _, rfl, s, od, rfl, hd2, _, rfl, ?_⟩
  rw [ho]
  by_cases c : F.n - 1 ∈ L
  · rw [decide_eq_true c]
    have hval := hv.mp c
    have q := fun H' q' v S => q H' q' v S
    rw [if_pos hval] at q
    obtain ⟨k, hk, hdk⟩ := dget_row (S2.sh _ mem).1 (S2.shv _ mem) c
    obtain ⟨rs, hrs, hrl⟩ := S2.rows
    have hfew := S2.few o
    refine iteT ⟨_, rfl, F.p, F.C, F.dx, _, _, rfl, S2.ins, T.cl, T.nR, pf_r _ _ _ _, _, rfl, _, rfl, s, _, rfl, hdk, F.rw, k, rs, rfl, hrs, S2.rok rs hrs, by omega, by omega, fun H3 l3 S3 => ?_⟩
    refine ⟨(by show 2 ≤ sizeLine; decide), fun t4 ht4 => ?_⟩
    exact q _ t4 _ ((eH ▸ S2.same).trans (S3.trans (same_new ht4 _))) upd_same
  · rw [decide_eq_false c]
    have hval : ¬ Valid x := fun h => c (hv.mpr h)
    have q := fun H' q' v S => q H' q' v S
    rw [if_neg hval] at q
    refine iteF ⟨Nat.zero_le _, fun tr htr => ?_⟩
    have k3 := same_new htr (.lst [])
    have htr3 : (upd H2 tr (.lst [])) tr = some (.lst []) := upd_same
    have S3 := S2.same' k3
    obtain ⟨rs, hrs, _⟩ := S2.rows
    have rp : tr ≠ F.pl := (ne_of_none S2.parts htr).symm
    have rr : tr ≠ F.rw := (ne_of_none hrs htr).symm
    have r0 : F.H0 tr = none := S2.same.free htr
    generalize upd H2 tr (.lst []) = H3 at k3 htr3 S3 ⊢
    refine ⟨_, rfl, _, rfl, Nat.zero_le _, fun tl htl => ?_⟩
    have k4 := same_new htl (.lst [])
    have htl4 : (upd H3 tl (.lst [])) tl = some (.lst []) := upd_same
    have htr4 := k4 _ _ htr3
    have S4 := S3.same' k4
    obtain ⟨rs3, hrs3, _⟩ := S3.rows
    have own : Own F tr tl := ⟨r0, S3.same.free htl, ne_of_none htr3 htl, rp, rr, (ne_of_none S3.parts htl).symm, (ne_of_none hrs3 htl).symm⟩
    generalize upd H3 tl (.lst []) = H4 at k4 htl4 htr4 S4 ⊢
    refine ⟨(by show 0 ≤ sizeLine; decide), fun g2 hg2 => ?_⟩
    have k5 := same_new hg2 (.tup [])
    have hg5 : (upd H4 g2 (.tup [])) g2 = some (.tup []) := upd_same
    have S5 := S4.same' k5
    have hW : Wn U.length ≤ 10000000 := Nat.le_trans (Wn_mono hU1) (by decide)
    refine ⟨_, rfl, F, tr, tl, rfl, o, own, T2, r2, g2, [], F.n - 1, x, [], [], U, .non, rfl, S5, hg5, ⟨List.Pairwise.nil, fun i hi => (nomatch hi)⟩, b2, hpart, (fun hD => c (hfull.mpr hD)), by show F.n < 0 + 17; omega, k5 _ _ htr4, k5 _ _ htl4, (fun t ht => (nomatch ht)), rfl, hU2, by show 0 + Wn U.length ≤ 10000000; omega, fun H6 T6 r6 ws6 ex S6 N6 b6 htr6 htl6 hsh6 hl6 hc6 => ?_⟩
    refine ⟨_, rfl, .inl ⟨tr, ws6, rfl, SqL.of htr6, fun q7 hq7 => ⟨(by show 2 ≤ sizeLine; decide), fun t8 ht8 => ?_⟩⟩⟩
    exact q _ t8 _ ((eH ▸ S6.same).trans ((same_new hq7 _).trans (same_new ht8 _))) upd_same
end
end My

set_option Elab.async false
set_option linter.all false
set_option maxRecDepth 100000
set_option maxHeartbeats 2000000
/-! told(x)[0], read as data -/
namespace My
open PySem PySem.Spec L2 PyProof.Rows
noncomputable def toldD (d : PyData) : DL.Res PyData := open Classical in if h : ∃ x : Stm, d = x.enc ∧ SL x ∧ (gathS x []).length ≤ 16 ∧ ((gathS x []).filter isTh).length ≤ 9 then .ok (.str (if Valid h.choose then "shown" else "worlds")) else .bad
noncomputable def semTold0 : List PyData → DL.Res PyData
  | [d] => toldD d
  | _ => .bad
theorem semTold0_at {x : Stm} (s : SL x) (h : (gathS x []).length ≤ 16) (h2 : ((gathS x []).filter isTh).length ≤ 9) : semTold0 [x.enc] = .ok (.str (open Classical in if Valid x then "shown" else "worlds")) := by
  have hx : ∃ y : Stm, x.enc = y.enc ∧ SL y ∧ (gathS y []).length ≤ 16 ∧ ((gathS y []).filter isTh).length ≤ 9 := ⟨x, rfl, s, h, h2⟩
  show toldD x.enc = _
  unfold toldD
  rw [dif_pos hx]
  have e : hx.choose = x := (enc_inj hx.choose_spec.1).symm
  rw [e]
section
variable {X : Cx} {W : DL.Wis}
theorem told_then {K : PySem.W.Frag} {f : DL.SA} {σ : L2.St} {H : Hp} {Q : VK} (h : DL.tD K W (DL.eCall semTold0 f) σ H Q) : tOp (rIxT K) (tCall (spTold K) [] E0 (DL.taD K W f)) (tC (.int 0)) σ H Q := by
  obtain ⟨ρ, hE, q⟩ := h
  refine ⟨ρ, hE, ?_⟩
  unfold DL.eCall at q
  cases hf : f ρ with
  | bad => rw [hf] at q; exact q.elim
  | ex m => rw [hf] at q; exact q
  | ok ds =>
    rw [hf] at q
    have q : (semTold0 ds).post (fun d => DL.fut H fun H' => ∀ v, DL.Dp K H' v d → Q v H') fun n => DL.fut H (W n) := q
    match ds with
    | [] => exact q.elim
    | _ :: _ :: _ => exact q.elim
    | [d] =>
      by_cases hx : ∃ x : Stm, d = x.enc ∧ SL x ∧ (gathS x []).length ≤ 16 ∧ ((gathS x []).filter isTh).length ≤ 9
      · obtain ⟨x, rfl, sx, hz, hth⟩ := hx
        rw [semTold0_at sx hz hth] at q
        intro H1 s1 vs hvs
        cases hvs with
        | cons hd ht =>
          cases ht
          obtain ⟨t, rfl⟩ := dp_ref hd
          refine ⟨t, x, rfl, sx, hd, hz, hth, fun H2 q2 v s2 hq2 => ?_⟩
          exact ⟨q2, _, 0, _, rfl, rfl, SqT.of hq2, atI_nat (j := 0) rfl, q H2 (s1.trans s2) _ (.str _)⟩
      · have e : semTold0 [d] = .bad := by
          show toldD d = _
          unfold toldD
          rw [dif_neg hx]
        rw [e] at q
        exact q.elim
theorem ed_told0 {k : Nat} {ft : Addr} {fdt : FuncData} {p cp pos ip : Pos} {e : Expr} {f : DL.SA} {kk : Nat} (F : FnOk X.prog X.w X.K X.mg X.base CX0 k ft fdt ["statement"] (spTold X.K)) (hm : X.mg "told" = some (.ref ft)) (kp : PySem.W.keepIn X.K (.ref ft) = true) (hb : Binds X.K fdt ["statement"] []) (hr : Room k X.A) (ha : PA X [e] (DL.taD X.K W f))
    (hg : Gl X "told" := by rfl) (he : starEach [e] X.env = (false, eval e X.env) :: starEach [] X.env := by rfl) (hpl : (backTo cp (starEach [] X.env)).any (·.1) = false := by rfl) :
    PE X (.Subscript (.Call (.Name "told" p) [e] [] cp) (.Constant (.int 0) kk ip) pos) (DL.tD X.K W (DL.eCall semTold0 f)) :=
  DL.pe_weak (pe_ix ix_tup (pe_call F hr hg hm kp hb .nil pass0 ha (by decide) he hpl) pe_int (fun _ _ => rfl)) fun σ H Q h => told_then h
end
end My

set_option Elab.async false
set_option linter.all false
set_option maxRecDepth 100000
set_option maxHeartbeats 2000000
/-! the text's facts -/
namespace My
open PySem PySem.Spec L2 PyProof.Rows
theorem txi_mk {K : PySem.W.Frag} {h : Heap} {mg : Str → Option Value} (X : K.In h) (G : h.Ns mainGlobals mg)
    {aC aP : Addr} {tM : Tok} {nP : Nat} {sP : Array (Option Value)} {uP1 uP2 uP3 : Tok}
    {f_i : Addr} {od_i an_i : Option Addr} {sl_i : Array (Option Value)} {oc_i kV_i dc_i pm_i cd_i ct_i : Value}
    {f_a : Addr} {od_a an_a : Option Addr} {sl_a : Array (Option Value)} {oc_a kV_a dc_a pm_a cd_a ct_a : Value}
    {f_w : Addr} {od_w an_w : Option Addr} {sl_w : Array (Option Value)} {oc_w kV_w dc_w pm_w cd_w ct_w : Value}
    {f_f : Addr} {od_f an_f : Option Addr} {sl_f : Array (Option Value)} {oc_f kV_f dc_f pm_f cd_f ct_f : Value}
    {f_g : Addr} {od_g an_g : Option Addr} {sl_g : Array (Option Value)} {oc_g kV_g dc_g pm_g cd_g ct_g : Value}
    {f_n : Addr} {od_n an_n : Option Addr} {sl_n : Array (Option Value)} {oc_n kV_n dc_n pm_n cd_n ct_n : Value}
    {f_t : Addr} {od_t an_t : Option Addr} {sl_t : Array (Option Value)} {oc_t kV_t dc_t pm_t cd_t ct_t : Value}
    {f_p : Addr} {od_p an_p : Option Addr} {sl_p : Array (Option Value)} {oc_p kV_p dc_p pm_p cd_p ct_p : Value}
    {f_c : Addr} {od_c an_c : Option Addr} {sl_c : Array (Option Value)} {oc_c kV_c dc_c pm_c cd_c ct_c : Value}
    {f_l : Addr} {od_l an_l : Option Addr} {sl_l : Array (Option Value)} {oc_l kV_l dc_l pm_l cd_l ct_l : Value}
    {f_gh : Addr} {od_gh an_gh : Option Addr} {sl_gh : Array (Option Value)} {oc_gh kV_gh dc_gh pm_gh cd_gh ct_gh : Value}
    {f_nu : Addr} {od_nu an_nu : Option Addr} {sl_nu : Array (Option Value)} {oc_nu kV_nu dc_nu pm_nu cd_nu ct_nu : Value}
    {f_sh : Addr} {od_sh an_sh : Option Addr} {sl_sh : Array (Option Value)} {oc_sh kV_sh dc_sh pm_sh cd_sh ct_sh : Value}
    (gC : PySem.W.nsIn K mainGlobals "Search" = some (some (.ref aC)))
    (at_i : PySem.W.findIn K (.ref aC) "__init__" = some (some (.ref f_i)))
    (fn_i : PySem.W.isFn K (.ref f_i) = true)
    (lk_i : K.lookup f_i = some ⟨oc_i, od_i, .func (PySem.W.fnOf "__init__" "Search.__init__" (defArgs mInit) (defBody mInit) (defScope mInit) .none kV_i dc_i pm_i an_i cd_i ct_i), sl_i⟩)
    (co_i : PySem.W.codeIn K cd_i "Search.__init__" = true)
    (kp_i : PySem.W.keepIn K (.ref f_i) = true)
    (at_a : PySem.W.findIn K (.ref aC) "add" = some (some (.ref f_a)))
    (fn_a : PySem.W.isFn K (.ref f_a) = true)
    (lk_a : K.lookup f_a = some ⟨oc_a, od_a, .func (PySem.W.fnOf "add" "Search.add" (defArgs mAdd) (defBody mAdd) (defScope mAdd) .none kV_a dc_a pm_a an_a cd_a ct_a), sl_a⟩)
    (co_a : PySem.W.codeIn K cd_a "Search.add" = true)
    (kp_a : PySem.W.keepIn K (.ref f_a) = true)
    (at_w : PySem.W.findIn K (.ref aC) "with_one" = some (some (.ref f_w)))
    (fn_w : PySem.W.isFn K (.ref f_w) = true)
    (lk_w : K.lookup f_w = some ⟨oc_w, od_w, .func (PySem.W.fnOf "with_one" "Search.with_one" (defArgs mWith) (defBody mWith) (defScope mWith) .none kV_w dc_w pm_w an_w cd_w ct_w), sl_w⟩)
    (co_w : PySem.W.codeIn K cd_w "Search.with_one" = true)
    (kp_w : PySem.W.keepIn K (.ref f_w) = true)
    (at_f : PySem.W.findIn K (.ref aC) "shown_from" = some (some (.ref f_f)))
    (fn_f : PySem.W.isFn K (.ref f_f) = true)
    (lk_f : K.lookup f_f = some ⟨oc_f, od_f, .func (PySem.W.fnOf "shown_from" "Search.shown_from" (defArgs mFrom) (defBody mFrom) (defScope mFrom) .none kV_f dc_f pm_f an_f cd_f ct_f), sl_f⟩)
    (co_f : PySem.W.codeIn K cd_f "Search.shown_from" = true)
    (kp_f : PySem.W.keepIn K (.ref f_f) = true)
    (at_g : PySem.W.findIn K (.ref aC) "grown" = some (some (.ref f_g)))
    (fn_g : PySem.W.isFn K (.ref f_g) = true)
    (lk_g : K.lookup f_g = some ⟨oc_g, od_g, .func (PySem.W.fnOf "grown" "Search.grown" (defArgs mGrown) (defBody mGrown) (defScope mGrown) .none kV_g dc_g pm_g an_g cd_g ct_g), sl_g⟩)
    (co_g : PySem.W.codeIn K cd_g "Search.grown" = true)
    (kp_g : PySem.W.keepIn K (.ref f_g) = true)
    (at_n : PySem.W.findIn K (.ref aC) "numbers_in" = some (some (.ref f_n)))
    (fn_n : PySem.W.isFn K (.ref f_n) = true)
    (lk_n : K.lookup f_n = some ⟨oc_n, od_n, .func (PySem.W.fnOf "numbers_in" "Search.numbers_in" (defArgs mNums) (defBody mNums) (defScope mNums) .none kV_n dc_n pm_n an_n cd_n ct_n), sl_n⟩)
    (co_n : PySem.W.codeIn K cd_n "Search.numbers_in" = true)
    (kp_n : PySem.W.keepIn K (.ref f_n) = true)
    (at_t : PySem.W.findIn K (.ref aC) "taken_apart" = some (some (.ref f_t)))
    (fn_t : PySem.W.isFn K (.ref f_t) = true)
    (lk_t : K.lookup f_t = some ⟨oc_t, od_t, .func (PySem.W.fnOf "taken_apart" "Search.taken_apart" (defArgs mTaken) (defBody mTaken) (defScope mTaken) .none kV_t dc_t pm_t an_t cd_t ct_t), sl_t⟩)
    (co_t : PySem.W.codeIn K cd_t "Search.taken_apart" = true)
    (kp_t : PySem.W.keepIn K (.ref f_t) = true)
    (at_p : PySem.W.findIn K (.ref aC) "put_together" = some (some (.ref f_p)))
    (fn_p : PySem.W.isFn K (.ref f_p) = true)
    (lk_p : K.lookup f_p = some ⟨oc_p, od_p, .func (PySem.W.fnOf "put_together" "Search.put_together" (defArgs mPut) (defBody mPut) (defScope mPut) .none kV_p dc_p pm_p an_p cd_p ct_p), sl_p⟩)
    (co_p : PySem.W.codeIn K cd_p "Search.put_together" = true)
    (kp_p : PySem.W.keepIn K (.ref f_p) = true)
    (at_c : PySem.W.findIn K (.ref aC) "by_cases" = some (some (.ref f_c)))
    (fn_c : PySem.W.isFn K (.ref f_c) = true)
    (lk_c : K.lookup f_c = some ⟨oc_c, od_c, .func (PySem.W.fnOf "by_cases" "Search.by_cases" (defArgs mCases) (defBody mCases) (defScope mCases) .none kV_c dc_c pm_c an_c cd_c ct_c), sl_c⟩)
    (co_c : PySem.W.codeIn K cd_c "Search.by_cases" = true)
    (kp_c : PySem.W.keepIn K (.ref f_c) = true)
    (at_l : PySem.W.findIn K (.ref aC) "both_lead" = some (some (.ref f_l)))
    (fn_l : PySem.W.isFn K (.ref f_l) = true)
    (lk_l : K.lookup f_l = some ⟨oc_l, od_l, .func (PySem.W.fnOf "both_lead" "Search.both_lead" (defArgs mLead) (defBody mLead) (defScope mLead) .none kV_l dc_l pm_l an_l cd_l ct_l), sl_l⟩)
    (co_l : PySem.W.codeIn K cd_l "Search.both_lead" = true)
    (kp_l : PySem.W.keepIn K (.ref f_l) = true)
    (at_gh : PySem.W.nsIn K mainGlobals "gathered" = some (some (.ref f_gh)))
    (lk_gh : K.lookup f_gh = some ⟨oc_gh, od_gh, .func (PySem.W.fnOf "gathered" "gathered" (defArgs sGath) (defBody sGath) (defScope sGath) .none kV_gh dc_gh pm_gh an_gh cd_gh ct_gh), sl_gh⟩)
    (co_gh : PySem.W.codeIn K cd_gh "gathered" = true)
    (kp_gh : PySem.W.keepIn K (.ref f_gh) = true)
    (at_nu : PySem.W.nsIn K mainGlobals "numbered" = some (some (.ref f_nu)))
    (lk_nu : K.lookup f_nu = some ⟨oc_nu, od_nu, .func (PySem.W.fnOf "numbered" "numbered" (defArgs sNumd) (defBody sNumd) (defScope sNumd) .none kV_nu dc_nu pm_nu an_nu cd_nu ct_nu), sl_nu⟩)
    (co_nu : PySem.W.codeIn K cd_nu "numbered" = true)
    (kp_nu : PySem.W.keepIn K (.ref f_nu) = true)
    (at_sh : PySem.W.nsIn K mainGlobals "is_shown" = some (some (.ref f_sh)))
    (lk_sh : K.lookup f_sh = some ⟨oc_sh, od_sh, .func (PySem.W.fnOf "is_shown" "is_shown" (defArgs sShown) (defBody sShown) (defScope sShown) .none kV_sh dc_sh pm_sh an_sh cd_sh ct_sh), sl_sh⟩)
    (co_sh : PySem.W.codeIn K cd_sh "is_shown" = true)
    (kp_sh : PySem.W.keepIn K (.ref f_sh) = true)
    (c_pg : PySem.W.plainGet K aC Str.empty = true)
    (c_hd : PySem.W.hasDictIn K aC = true)
    (c_po : PySem.W.plainOver K aC = true)
    (c_sa : PySem.W.findIn K (.ref aC) "__setattr__" = some (some (.builtin "object.__setattr__")))
    (c_mk : PySem.W.makesIn K aC = true)
    (c_kc : PySem.W.keepIn K (.ref aC) = true)
    (nN : PySem.W.findIn K (.ref aC) "numbers" = some none)
    (nP_ : PySem.W.findIn K (.ref aC) "parts" = some none)
    (nR : PySem.W.findIn K (.ref aC) "rows" = some none)
    (nT : PySem.W.findIn K (.ref aC) "theories" = some none)
    (gP : PySem.W.nsIn K mainGlobals "PAIRS" = some (some (.ref aP)))
    (lP : K.lookup aP = some ⟨.type "tuple", none, .seq #[.str "and" uP1, .str "or" uP2, .str "then" uP3] nP, sP⟩)
    (gM : PySem.W.nsIn K mainGlobals "MOST_PARTS" = some (some (.int 16 tM)))
    (y_len : PySem.W.nsIn K mainGlobals "len" = some none)
    (y_list : PySem.W.nsIn K mainGlobals "list" = some none)
    (y_tuple : PySem.W.nsIn K mainGlobals "tuple" = some none)
    (y_range : PySem.W.nsIn K mainGlobals "range" = some none)
    (y_sorted : PySem.W.nsIn K mainGlobals "sorted" = some none)
    : TxI K mg aC where
  base := ⟨⟨c_pg, c_hd, c_po, c_sa⟩, nN, nP_, nR, nT,
    ⟨⟨f_a, _, fun_mk lk_a co_a kp_a, ⟨at_a, fn_a, kp_a⟩, (fun_mk (st := mAdd) lk_a co_a kp_a).binds (ps := ["self", "shown", "given", "number", "rule", "ups"]) fun _ _ _ _ _ _ us hl => match us, hl with | [_, _, _, _, _, _], _ => rfl⟩⟩,
    ⟨⟨f_w, _, fun_mk lk_w co_w kp_w, ⟨at_w, fn_w, kp_w⟩, (fun_mk (st := mWith) lk_w co_w kp_w).binds (ps := ["self", "given", "number"]) fun _ _ _ _ _ _ us hl => match us, hl with | [_, _, _], _ => rfl⟩⟩,
    ⟨⟨f_f, _, fun_mk lk_f co_f kp_f, ⟨at_f, fn_f, kp_f⟩, (fun_mk (st := mFrom) lk_f co_f kp_f).binds (ps := ["self", "given"]) fun _ _ _ _ _ _ us hl => match us, hl with | [_, _], _ => rfl⟩⟩,
    ⟨⟨f_g, _, fun_mk lk_g co_g kp_g, ⟨at_g, fn_g, kp_g⟩, (fun_mk (st := mGrown) lk_g co_g kp_g).binds (ps := ["self", "shown", "given"]) fun _ _ _ _ _ _ us hl => match us, hl with | [_, _, _], _ => rfl⟩⟩,
    ⟨⟨f_n, _, fun_mk lk_n co_n kp_n, ⟨at_n, fn_n, kp_n⟩, (fun_mk (st := mNums) lk_n co_n kp_n).binds (ps := ["self", "number"]) fun _ _ _ _ _ _ us hl => match us, hl with | [_, _], _ => rfl⟩⟩,
    ⟨⟨f_t, _, fun_mk lk_t co_t kp_t, ⟨at_t, fn_t, kp_t⟩, (fun_mk (st := mTaken) lk_t co_t kp_t).binds (ps := ["self", "shown", "given", "number"]) fun _ _ _ _ _ _ us hl => match us, hl with | [_, _, _, _], _ => rfl⟩⟩,
    ⟨⟨f_p, _, fun_mk lk_p co_p kp_p, ⟨at_p, fn_p, kp_p⟩, (fun_mk (st := mPut) lk_p co_p kp_p).binds (ps := ["self", "shown", "given", "number"]) fun _ _ _ _ _ _ us hl => match us, hl with | [_, _, _, _], _ => rfl⟩⟩,
    ⟨⟨f_c, _, fun_mk lk_c co_c kp_c, ⟨at_c, fn_c, kp_c⟩, (fun_mk (st := mCases) lk_c co_c kp_c).binds (ps := ["self", "shown", "given"]) fun _ _ _ _ _ _ us hl => match us, hl with | [_, _, _], _ => rfl⟩⟩,
    ⟨⟨f_l, _, fun_mk lk_l co_l kp_l, ⟨at_l, fn_l, kp_l⟩, (fun_mk (st := mLead) lk_l co_l kp_l).binds (ps := ["self", "shown", "given", "number"]) fun _ _ _ _ _ _ us hl => match us, hl with | [_, _, _, _], _ => rfl⟩⟩,
    PySem.W.mg_none_of X G y_len, PySem.W.mg_none_of X G y_list, PySem.W.mg_none_of X G y_tuple, PySem.W.mg_none_of X G y_range, PySem.W.mg_none_of X G y_sorted⟩
  d_gath := DL.defAt_mk X G at_gh lk_gh co_gh kp_gh fun _ _ _ _ _ _ us hl => match us, hl with | [_, _], _ => rfl
  d_numd := DL.defAt_mk X G at_nu lk_nu co_nu kp_nu fun _ _ _ _ _ _ us hl => match us, hl with | [_], _ => rfl
  d_shown := DL.defAt_mk X G at_sh lk_sh co_sh kp_sh fun _ _ _ _ _ _ us hl => match us, hl with | [_], _ => rfl
  m_init := ⟨⟨f_i, _, fun_mk lk_i co_i kp_i, ⟨at_i, fn_i, kp_i⟩, (fun_mk (st := mInit) lk_i co_i kp_i).binds (ps := ["self", "statement"]) fun _ _ _ _ _ _ us hl => match us, hl with | [_, _], _ => rfl⟩⟩
  makes := c_mk
  kc := c_kc
  hC := PySem.W.mg_of X G gC
  gP := DL.gt_ref X G gP lP (DL.kds_cons DL.kd_str (DL.kds_cons DL.kd_str (DL.kds_cons DL.kd_str DL.kds_nil)))
  gM := ⟨tM, PySem.W.mg_of X G gM⟩
theorem txt2_mk {K : PySem.W.Frag} {h : Heap} {mg : Str → Option Value} (X : K.In h) (G : h.Ns mainGlobals mg)
    {f_ne : Addr} {od_ne an_ne : Option Addr} {sl_ne : Array (Option Value)} {oc_ne kV_ne dc_ne pm_ne cd_ne ct_ne : Value}
    {f_so : Addr} {od_so an_so : Option Addr} {sl_so : Array (Option Value)} {oc_so kV_so dc_so pm_so cd_so ct_so : Value}
    {f_ri : Addr} {od_ri an_ri : Option Addr} {sl_ri : Array (Option Value)} {oc_ri kV_ri dc_ri pm_ri cd_ri ct_ri : Value}
    {f_fa : Addr} {od_fa an_fa : Option Addr} {sl_fa : Array (Option Value)} {oc_fa kV_fa dc_fa pm_fa cd_fa ct_fa : Value}
    {f_gw : Addr} {od_gw an_gw : Option Addr} {sl_gw : Array (Option Value)} {oc_gw kV_gw dc_gw pm_gw cd_gw ct_gw : Value}
    {f_to : Addr} {od_to an_to : Option Addr} {sl_to : Array (Option Value)} {oc_to kV_to dc_to pm_to cd_to ct_to : Value}
    (at_ne : PySem.W.nsIn K mainGlobals "needed" = some (some (.ref f_ne)))
    (lk_ne : K.lookup f_ne = some ⟨oc_ne, od_ne, .func (PySem.W.fnOf "needed" "needed" (defArgs sNeed) (defBody sNeed) (defScope sNeed) .none kV_ne dc_ne pm_ne an_ne cd_ne ct_ne), sl_ne⟩)
    (co_ne : PySem.W.codeIn K cd_ne "needed" = true)
    (kp_ne : PySem.W.keepIn K (.ref f_ne) = true)
    (at_so : PySem.W.nsIn K mainGlobals "showing_of" = some (some (.ref f_so)))
    (lk_so : K.lookup f_so = some ⟨oc_so, od_so, .func (PySem.W.fnOf "showing_of" "showing_of" (defArgs sShow) (defBody sShow) (defScope sShow) .none kV_so dc_so pm_so an_so cd_so ct_so), sl_so⟩)
    (co_so : PySem.W.codeIn K cd_so "showing_of" = true)
    (kp_so : PySem.W.keepIn K (.ref f_so) = true)
    (at_ri : PySem.W.nsIn K mainGlobals "ripe" = some (some (.ref f_ri)))
    (lk_ri : K.lookup f_ri = some ⟨oc_ri, od_ri, .func (PySem.W.fnOf "ripe" "ripe" (defArgs sRipe) (defBody sRipe) (defScope sRipe) .none kV_ri dc_ri pm_ri an_ri cd_ri ct_ri), sl_ri⟩)
    (co_ri : PySem.W.codeIn K cd_ri "ripe" = true)
    (kp_ri : PySem.W.keepIn K (.ref f_ri) = true)
    (at_fa : PySem.W.nsIn K mainGlobals "is_failing" = some (some (.ref f_fa)))
    (lk_fa : K.lookup f_fa = some ⟨oc_fa, od_fa, .func (PySem.W.fnOf "is_failing" "is_failing" (defArgs sFail) (defBody sFail) (defScope sFail) .none kV_fa dc_fa pm_fa an_fa cd_fa ct_fa), sl_fa⟩)
    (co_fa : PySem.W.codeIn K cd_fa "is_failing" = true)
    (kp_fa : PySem.W.keepIn K (.ref f_fa) = true)
    (at_gw : PySem.W.nsIn K mainGlobals "grow" = some (some (.ref f_gw)))
    (lk_gw : K.lookup f_gw = some ⟨oc_gw, od_gw, .func (PySem.W.fnOf "grow" "grow" (defArgs sGrow) (defBody sGrow) (defScope sGrow) .none kV_gw dc_gw pm_gw an_gw cd_gw ct_gw), sl_gw⟩)
    (co_gw : PySem.W.codeIn K cd_gw "grow" = true)
    (kp_gw : PySem.W.keepIn K (.ref f_gw) = true)
    (at_to : PySem.W.nsIn K mainGlobals "told" = some (some (.ref f_to)))
    (lk_to : K.lookup f_to = some ⟨oc_to, od_to, .func (PySem.W.fnOf "told" "told" (defArgs sTold) (defBody sTold) (defScope sTold) .none kV_to dc_to pm_to an_to cd_to ct_to), sl_to⟩)
    (co_to : PySem.W.codeIn K cd_to "told" = true)
    (kp_to : PySem.W.keepIn K (.ref f_to) = true)
    : TxT K mg where
  d_need := DL.defAt_mk X G at_ne lk_ne co_ne kp_ne fun _ _ _ _ _ _ us hl => match us, hl with | [_, _], _ => rfl
  d_show := DL.defAt_mk X G at_so lk_so co_so kp_so fun _ _ _ _ _ _ us hl => match us, hl with | [_, _], _ => rfl
  d_ripe := DL.defAt_mk X G at_ri lk_ri co_ri kp_ri fun _ _ _ _ _ _ us hl => match us, hl with | [_, _, _], _ => rfl
  d_fail := DL.defAt_mk X G at_fa lk_fa co_fa kp_fa fun _ _ _ _ _ _ us hl => match us, hl with | [_, _, _, _, _], _ => rfl
  d_grow := DL.defAt_mk X G at_gw lk_gw co_gw kp_gw fun _ _ _ _ _ _ us hl => match us, hl with | [_, _, _, _, _, _], _ => rfl
  d_told := DL.defAt_mk X G at_to lk_to co_to kp_to fun _ _ _ _ _ _ us hl => match us, hl with | [_], _ => rfl
end My

set_option Elab.async false
set_option linter.all false
set_option maxRecDepth 100000
set_option maxHeartbeats 2000000
/-! told, as the law calls it -/
namespace My
open PySem PySem.Spec L2 PyProof.Rows
def ToldEx (P : Program) (w : World) (K : PySem.W.Frag) (mg : Str → Option Value) (base : Heap) : Prop := ∃ ft fdt, FnOk P w K mg base CX0 108 ft fdt ["statement"] (spTold K) ∧ mg "told" = some (.ref ft) ∧ PySem.W.keepIn K (.ref ft) = true ∧ Binds K fdt ["statement"] []
theorem told_ex {P : Program} {w : World} {K : PySem.W.Frag} {mg : Str → Option Value} {base : Heap} {C : Addr} (TI : TxI K mg C) (TT : TxT K mg) : ToldEx P w K mg base := by
  obtain ⟨f, fd, D, hm, hb⟩ := TT.d_told.ex
  exact ⟨f, fd, ok_told TI TT D, hm, D.kp, hb⟩
theorem ed_told {X : Cx} {W : DL.Wis} {p cp pos ip : Pos} {e : Expr} {f : DL.SA} {kk : Nat} (h : ToldEx X.prog X.w X.K X.mg X.base) (hr : Room 108 X.A) (ha : PA X [e] (DL.taD X.K W f))
    (hg : Gl X "told" := by rfl) (he : starEach [e] X.env = (false, eval e X.env) :: starEach [] X.env := by rfl) (hpl : (backTo cp (starEach [] X.env)).any (·.1) = false := by rfl) :
    PE X (.Subscript (.Call (.Name "told" p) [e] [] cp) (.Constant (.int 0) kk ip) pos) (DL.tD X.K W (DL.eCall semTold0 f)) := by
  obtain ⟨ft, fdt, F, hm, kp, hb⟩ := h
  exact ed_told0 F hm kp hb hr ha hg he hpl
end My

set_option Elab.async false
set_option linter.all false
set_option maxRecDepth 100000
set_option maxHeartbeats 4000000
namespace My
open PySem L2 DL PyProof.Rows
noncomputable section
def top (i : Nat) : Stmt := PySem.Challenge.pw_showtree_k11_whole_double_denial.main.body.getD i (.Pass ⟨0, 0, 0, 0⟩)
abbrev s_is_shown : Stmt := top 17
abbrev N_is_shown : List Str := ["statement", "search"]
abbrev s_law_cell_at : Stmt := top 19
abbrev N_law_cell_at : List Str := ["_law_script", "_law_k"]
abbrev s_law_name_by : Stmt := top 20
abbrev N_law_name_by : List Str := ["_law_seed", "_law_k", "_law_letters", "_law_size", "_law_word", "_law_spot", "_law_sign", "_law_j"]
abbrev s_law_joined : Stmt := top 21
abbrev N_law_joined : List Str := ["_law_way", "_law_one", "_law_other"]
abbrev s_law_step : Stmt := top 22
abbrev N_law_step : List Str := ["_law_pile", "_law_cell", "_law_seed", "_law_way", "_law_rest"]
abbrev s_law_statement_by : Stmt := top 23
abbrev N_law_statement_by : List Str := ["_law_cells", "_law_seed", "_law_pile", "_law_cell"]
abbrev s_law_known_by : Stmt := top 24
abbrev N_law_known_by : List Str := ["_law_seed", "_law_cell", "_law_no", "_law_either", "_law_some", "_law_not_a", "_law_a", "_law_b", "_law_c", "_law_k"]
abbrev s_law_wide : Stmt := top 25
abbrev N_law_wide : List Str := ["_law_seed", "_law_cell", "_law_most", "_law_many", "_law_names_here", "_law_at", "_law_way", "_law_word", "_law_whole", "_law_back", "_law_k", "_law_links", "_law_link"]
abbrev s_law_drawn : Stmt := top 26
abbrev N_law_drawn : List Str := ["_law_script", "_law_first", "_law_many", "_law_most", "_law_seed", "_law_cell"]
abbrev s_law_names : Stmt := top 27
abbrev N_law_names : List Str := ["_law_statement", "_law_found", "_law_name"]
abbrev s_law_true : Stmt := top 28
abbrev N_law_true : List Str := ["_law_statement", "_law_names_here", "_law_table", "_law_word", "_law_one", "_law_other"]
abbrev s_law : Stmt := top 29
abbrev N_law : List Str := ["_law_script", "_law_statement", "_law_names_here", "_law_tables", "_law_denial", "_law_found", "_law_table"]
/-- what the top has left -/
structure Txt (K : PySem.W.Frag) (mg : Str → Option Value) : Prop where
  sea : ∃ C, TxI K mg C
  tel : TxT K mg
  d_is_shown : DefAt K mg "is_shown" s_is_shown ["statement"]
  d_law_cell_at : DefAt K mg "_law_cell_at" s_law_cell_at ["_law_script", "_law_k"]
  d_law_name_by : DefAt K mg "_law_name_by" s_law_name_by ["_law_seed", "_law_k"]
  d_law_joined : DefAt K mg "_law_joined" s_law_joined ["_law_way", "_law_one", "_law_other"]
  d_law_step : DefAt K mg "_law_step" s_law_step ["_law_pile", "_law_cell", "_law_seed"]
  d_law_statement_by : DefAt K mg "_law_statement_by" s_law_statement_by ["_law_cells", "_law_seed"]
  d_law_known_by : DefAt K mg "_law_known_by" s_law_known_by ["_law_seed", "_law_cell"]
  d_law_wide : DefAt K mg "_law_wide" s_law_wide ["_law_seed", "_law_cell", "_law_most"]
  d_law_drawn : DefAt K mg "_law_drawn" s_law_drawn ["_law_script", "_law_first", "_law_many", "_law_most"]
  d_law_names : DefAt K mg "_law_names" s_law_names ["_law_statement"]
  d_law_true : DefAt K mg "_law_true" s_law_true ["_law_statement", "_law_names_here", "_law_table"]
  d_law : DefAt K mg "law" s_law ["_law_script"]
  z_all : mg "all" = none
  z_any : mg "any" = none
  z_int : mg "int" = none
  z_len : mg "len" = none
  z_min : mg "min" = none
  z_range : mg "range" = none
/-! what the bodies are read as -/
def sem_is_shown : List PyData → Res PyData := semShown
def F_law_cell_at : SS :=
  (sSeq (sIf (asT (eOp ltD (eVar 1) (eArgs lenD (aCons (eVar 0) aNil)))) (sRet (eOp ixD (eVar 0) (eVar 1))) sNext)
    (sRet (eC (.int 0))))
def sem_law_cell_at : List PyData → Res PyData := bodyD 2 F_law_cell_at
def F_law_name_by : SS :=
  (sSeq (sSet 2 (eC (.str "abcdefghijklmnopqrstuvwxyz")))
    (sSeq (sSet 3 (eOp addD (eC (.int 1)) (eOp modD (eVar 0) (eC (.int 8)))))
    (sSeq (sSet 4 (eM1 joinD (eC (.str "")) (eLc 7 (sRng1 (aCons (eVar 3) aNil)) tTrue (eOp ixD (eVar 2) (eOp modD (eOp addD (eOp addD (eOp divD (eVar 0) (eC (.int 8))) (eOp mulD (eC (.int 5)) (eVar 7))) (eOp mulD (eVar 7) (eVar 7))) (eC (.int 26)))))))
    (sSeq (sSet 5 (eOp modD (eOp divD (eVar 0) (eC (.int 208))) (eVar 3)))
    (sSeq (sSet 6 (eOp ixD (eVar 2) (eOp modD (eOp addD (eM1 indexD (eVar 2) (eOp ixD (eVar 4) (eVar 5))) (eOp mulD (eVar 1) (eOp addD (eC (.int 1)) (eOp modD (eOp divD (eVar 0) (eC (.int 1664))) (eC (.int 8)))))) (eC (.int 26)))))
    (sSeq (sIf (DL.tAnd (asT (eOp eqD (eVar 1) (eC (.int 2)))) (DL.tAnd (asT (eOp eqD (eOp modD (eOp divD (eVar 0) (eC (.int 13312))) (eC (.int 2))) (eC (.int 1)))) (asT (eOp ltD (eVar 3) (eC (.int 8)))))) (sRet (eOp addD (eVar 4) (eVar 6))) sNext)
    (sRet (eOp addD (eOp addD (eCut (eVar 4) oNone (oSome (eVar 5))) (eVar 6)) (eCut (eVar 4) (oSome (eOp addD (eVar 5) (eC (.int 1)))) oNone)))))))))
def sem_law_name_by : List PyData → Res PyData := bodyD 8 F_law_name_by
def F_law_joined : SS :=
  (sSeq (sIf (asT (eOp eqD (eOp modD (eOp divD (eVar 0) (eC (.int 4))) (eC (.int 2))) (eC (.int 1)))) (sRet (eTup (aCons (eOp ixD (eLst (aCons (eC (.str "and")) (aCons (eC (.str "or")) (aCons (eC (.str "then")) (aCons (eC (.str "then")) aNil))))) (eOp modD (eVar 0) (eC (.int 4)))) (aCons (eVar 2) (aCons (eVar 1) aNil))))) sNext)
    (sRet (eTup (aCons (eOp ixD (eLst (aCons (eC (.str "and")) (aCons (eC (.str "or")) (aCons (eC (.str "then")) (aCons (eC (.str "then")) aNil))))) (eOp modD (eVar 0) (eC (.int 4)))) (aCons (eVar 1) (aCons (eVar 2) aNil))))))
def sem_law_joined : List PyData → Res PyData := bodyD 3 F_law_joined
def F_law_step : SS :=
  (sSeq (sSet 3 (eOp modD (eVar 1) (eC (.int 10))))
    (sSeq (sSet 4 (eOp divD (eVar 1) (eC (.int 10))))
    (sSeq (sIf (asT (eOp eqD (eVar 3) (eC (.int 4)))) (sRet (eOp addD (eVar 0) (eLst (aCons (eTup (aCons (eC (.str "false")) aNil)) aNil)))) sNext)
    (sSeq (sIf (DL.tAnd (asT (eOp eqD (eVar 3) (eC (.int 5)))) (asT (eOp gtD (eArgs lenD (aCons (eVar 0) aNil)) (eC (.int 0))))) (sRet (eOp addD (eVar 0) (eLst (aCons (eOp ixD (eVar 0) (eOp modD (eVar 4) (eArgs lenD (aCons (eVar 0) aNil)))) aNil)))) sNext)
    (sSeq (sIf (DL.tAnd (asT (eOp eqD (eVar 3) (eC (.int 6)))) (asT (eOp gtD (eArgs lenD (aCons (eVar 0) aNil)) (eC (.int 0))))) (sRet (eOp addD (eCut (eVar 0) oNone (oSome (eUn negD (eC (.int 1))))) (eLst (aCons (eTup (aCons (eC (.str "then")) (aCons (eOp ixD (eVar 0) (eUn negD (eC (.int 1)))) (aCons (eTup (aCons (eC (.str "false")) aNil)) aNil)))) aNil)))) sNext)
    (sSeq (sIf (DL.tAnd (asT (eOp gtD (eVar 3) (eC (.int 6)))) (asT (eOp gtD (eArgs lenD (aCons (eVar 0) aNil)) (eC (.int 1))))) (sRet (eOp addD (eCut (eVar 0) oNone (oSome (eUn negD (eC (.int 2))))) (eLst (aCons (eCall sem_law_joined (aCons (eVar 4) (aCons (eOp ixD (eVar 0) (eUn negD (eC (.int 2)))) (aCons (eOp ixD (eVar 0) (eUn negD (eC (.int 1)))) aNil)))) aNil)))) sNext)
    (sRet (eOp addD (eVar 0) (eLst (aCons (eTup (aCons (eC (.str "name")) (aCons (eCall sem_law_name_by (aCons (eVar 2) (aCons (eOp modD (eVar 4) (eC (.int 4))) aNil))) aNil))) aNil))))))))))
def sem_law_step : List PyData → Res PyData := bodyD 5 F_law_step
def F_law_statement_by : SS :=
  (sSeq (sSet 2 (eLst aNil))
    (sSeq (sFor (sList (eVar 0)) (gN 3) (sSet 2 (eCall sem_law_step (aCons (eVar 2) (aCons (eVar 3) (aCons (eVar 1) aNil))))))
    (sSeq (sWh 64 (asT (eOp gtD (eArgs lenD (aCons (eVar 2) aNil)) (eC (.int 1)))) (sSet 2 (eOp addD (eCut (eVar 2) oNone (oSome (eUn negD (eC (.int 2))))) (eLst (aCons (eTup (aCons (eC (.str "then")) (aCons (eOp ixD (eVar 2) (eUn negD (eC (.int 2)))) (aCons (eOp ixD (eVar 2) (eUn negD (eC (.int 1)))) aNil)))) aNil)))))
    (sSeq (sIf (asT (eOp eqD (eVar 2) (eLst aNil))) (sRet (eTup (aCons (eC (.str "name")) (aCons (eCall sem_law_name_by (aCons (eVar 1) (aCons (eC (.int 0)) aNil))) aNil)))) sNext)
    (sRet (eOp ixD (eVar 2) (eC (.int 0))))))))
def sem_law_statement_by : List PyData → Res PyData := bodyD 4 F_law_statement_by
def F_law_known_by : SS :=
  (sSeq (sAsg (eLc 9 (sList (eLst (aCons (eOp modD (eOp divD (eVar 1) (eC (.int 20))) (eC (.int 3))) (aCons (eOp modD (eOp addD (eOp divD (eVar 1) (eC (.int 20))) (eC (.int 1))) (eC (.int 3))) (aCons (eOp modD (eOp addD (eOp divD (eVar 1) (eC (.int 20))) (eC (.int 2))) (eC (.int 3))) aNil))))) tTrue (eTup (aCons (eC (.str "name")) (aCons (eCall sem_law_name_by (aCons (eVar 0) (aCons (eVar 9) aNil))) aNil)))) (gTL 3 (gsCons (gN 6) (gsCons (gN 7) (gsCons (gN 8) gsNil)))))
    (sSeq (sSet 2 (eTup (aCons (eC (.str "false")) aNil)))
    (sSeq (sSet 3 (eTup (aCons (eC (.str "or")) (aCons (eVar 6) (aCons (eTup (aCons (eC (.str "then")) (aCons (eVar 6) (aCons (eVar 2) aNil)))) aNil)))))
    (sSeq (sSet 4 (eLst (aCons (eVar 3) (aCons (eTup (aCons (eC (.str "then")) (aCons (eTup (aCons (eC (.str "then")) (aCons (eVar 3) (aCons (eVar 2) aNil)))) (aCons (eVar 2) aNil)))) (aCons (eTup (aCons (eC (.str "then")) (aCons (eTup (aCons (eC (.str "then")) (aCons (eTup (aCons (eC (.str "then")) (aCons (eVar 6) (aCons (eVar 2) aNil)))) (aCons (eVar 2) aNil)))) (aCons (eVar 6) aNil)))) aNil)))))
    (sSeq (sSet 4 (eOp addD (eVar 4) (eLst (aCons (eTup (aCons (eC (.str "then")) (aCons (eTup (aCons (eC (.str "then")) (aCons (eTup (aCons (eC (.str "then")) (aCons (eVar 6) (aCons (eVar 7) aNil)))) (aCons (eVar 6) aNil)))) (aCons (eVar 6) aNil)))) (aCons (eTup (aCons (eC (.str "or")) (aCons (eTup (aCons (eC (.str "then")) (aCons (eVar 6) (aCons (eVar 7) aNil)))) (aCons (eTup (aCons (eC (.str "then")) (aCons (eVar 7) (aCons (eVar 6) aNil)))) aNil)))) aNil)))))
    (sSeq (sSet 4 (eOp addD (eVar 4) (eLst (aCons (eTup (aCons (eC (.str "then")) (aCons (eTup (aCons (eC (.str "and")) (aCons (eVar 6) (aCons (eVar 7) aNil)))) (aCons (eTup (aCons (eC (.str "or")) (aCons (eVar 8) (aCons (eVar 7) aNil)))) aNil)))) (aCons (eTup (aCons (eC (.str "then")) (aCons (eTup (aCons (eC (.str "or")) (aCons (eVar 6) (aCons (eVar 7) aNil)))) (aCons (eTup (aCons (eC (.str "or")) (aCons (eVar 7) (aCons (eVar 6) aNil)))) aNil)))) aNil)))))
    (sSeq (sSet 4 (eOp addD (eVar 4) (eLst (aCons (eTup (aCons (eC (.str "then")) (aCons (eTup (aCons (eC (.str "then")) (aCons (eVar 6) (aCons (eTup (aCons (eC (.str "then")) (aCons (eVar 7) (aCons (eVar 8) aNil)))) aNil)))) (aCons (eTup (aCons (eC (.str "then")) (aCons (eTup (aCons (eC (.str "and")) (aCons (eVar 6) (aCons (eVar 7) aNil)))) (aCons (eVar 8) aNil)))) aNil)))) aNil))))
    (sSeq (sSet 4 (eOp addD (eVar 4) (eLst (aCons (eTup (aCons (eC (.str "then")) (aCons (eTup (aCons (eC (.str "then")) (aCons (eTup (aCons (eC (.str "or")) (aCons (eVar 6) (aCons (eVar 7) aNil)))) (aCons (eVar 8) aNil)))) (aCons (eTup (aCons (eC (.str "and")) (aCons (eTup (aCons (eC (.str "then")) (aCons (eVar 6) (aCons (eVar 8) aNil)))) (aCons (eTup (aCons (eC (.str "then")) (aCons (eVar 7) (aCons (eVar 8) aNil)))) aNil)))) aNil)))) aNil))))
    (sSeq (sSet 4 (eOp addD (eVar 4) (eLst (aCons (eTup (aCons (eC (.str "then")) (aCons (eTup (aCons (eC (.str "then")) (aCons (eTup (aCons (eC (.str "and")) (aCons (eVar 6) (aCons (eVar 7) aNil)))) (aCons (eVar 2) aNil)))) (aCons (eTup (aCons (eC (.str "or")) (aCons (eTup (aCons (eC (.str "then")) (aCons (eVar 6) (aCons (eVar 2) aNil)))) (aCons (eTup (aCons (eC (.str "then")) (aCons (eVar 7) (aCons (eVar 2) aNil)))) aNil)))) aNil)))) aNil))))
    (sSeq (sSet 4 (eOp addD (eVar 4) (eLst (aCons (eTup (aCons (eC (.str "then")) (aCons (eTup (aCons (eC (.str "then")) (aCons (eTup (aCons (eC (.str "then")) (aCons (eTup (aCons (eC (.str "then")) (aCons (eVar 6) (aCons (eVar 2) aNil)))) (aCons (eVar 2) aNil)))) (aCons (eVar 2) aNil)))) (aCons (eTup (aCons (eC (.str "then")) (aCons (eVar 6) (aCons (eVar 2) aNil)))) aNil)))) aNil))))
    (sSeq (sSet 4 (eOp addD (eVar 4) (eLst (aCons (eTup (aCons (eC (.str "then")) (aCons (eTup (aCons (eC (.str "or")) (aCons (eVar 6) (aCons (eTup (aCons (eC (.str "and")) (aCons (eVar 7) (aCons (eVar 8) aNil)))) aNil)))) (aCons (eTup (aCons (eC (.str "and")) (aCons (eTup (aCons (eC (.str "or")) (aCons (eVar 6) (aCons (eVar 7) aNil)))) (aCons (eTup (aCons (eC (.str "or")) (aCons (eVar 6) (aCons (eVar 8) aNil)))) aNil)))) aNil)))) aNil))))
    (sSeq (sSet 4 (eOp addD (eVar 4) (eLst (aCons (eTup (aCons (eC (.str "then")) (aCons (eTup (aCons (eC (.str "and")) (aCons (eTup (aCons (eC (.str "or")) (aCons (eVar 6) (aCons (eVar 7) aNil)))) (aCons (eTup (aCons (eC (.str "or")) (aCons (eVar 6) (aCons (eVar 8) aNil)))) aNil)))) (aCons (eTup (aCons (eC (.str "or")) (aCons (eVar 6) (aCons (eTup (aCons (eC (.str "and")) (aCons (eVar 7) (aCons (eVar 8) aNil)))) aNil)))) aNil)))) aNil))))
    (sSeq (sSet 4 (eOp addD (eVar 4) (eLst (aCons (eTup (aCons (eC (.str "then")) (aCons (eTup (aCons (eC (.str "or")) (aCons (eTup (aCons (eC (.str "then")) (aCons (eVar 6) (aCons (eVar 2) aNil)))) (aCons (eVar 7) aNil)))) (aCons (eTup (aCons (eC (.str "then")) (aCons (eVar 6) (aCons (eVar 7) aNil)))) aNil)))) aNil))))
    (sSeq (sSet 4 (eOp addD (eVar 4) (eLst (aCons (eTup (aCons (eC (.str "then")) (aCons (eTup (aCons (eC (.str "then")) (aCons (eVar 6) (aCons (eVar 7) aNil)))) (aCons (eTup (aCons (eC (.str "or")) (aCons (eTup (aCons (eC (.str "then")) (aCons (eVar 6) (aCons (eVar 2) aNil)))) (aCons (eVar 7) aNil)))) aNil)))) aNil))))
    (sSeq (sSet 5 (eTup (aCons (eC (.str "then")) (aCons (eVar 6) (aCons (eVar 2) aNil)))))
    (sSeq (sSet 4 (eOp addD (eVar 4) (eLst (aCons (eTup (aCons (eC (.str "then")) (aCons (eTup (aCons (eC (.str "then")) (aCons (eVar 5) (aCons (eTup (aCons (eC (.str "or")) (aCons (eVar 7) (aCons (eVar 8) aNil)))) aNil)))) (aCons (eTup (aCons (eC (.str "or")) (aCons (eTup (aCons (eC (.str "then")) (aCons (eVar 5) (aCons (eVar 7) aNil)))) (aCons (eTup (aCons (eC (.str "then")) (aCons (eVar 5) (aCons (eVar 8) aNil)))) aNil)))) aNil)))) aNil))))
    (sSeq (sSet 4 (eOp addD (eVar 4) (eLst (aCons (eTup (aCons (eC (.str "then")) (aCons (eVar 2) (aCons (eVar 6) aNil)))) (aCons (eVar 6) (aCons (eTup (aCons (eC (.str "and")) (aCons (eTup (aCons (eC (.str "then")) (aCons (eVar 6) (aCons (eVar 6) aNil)))) (aCons (eVar 7) aNil)))) aNil))))))
    (sSeq (sSet 4 (eOp addD (eVar 4) (eLst (aCons (eTup (aCons (eC (.str "then")) (aCons (eTup (aCons (eC (.str "then")) (aCons (eVar 6) (aCons (eVar 7) aNil)))) (aCons (eTup (aCons (eC (.str "then")) (aCons (eTup (aCons (eC (.str "then")) (aCons (eVar 7) (aCons (eVar 8) aNil)))) (aCons (eTup (aCons (eC (.str "then")) (aCons (eVar 6) (aCons (eVar 8) aNil)))) aNil)))) aNil)))) aNil))))
    (sRet (eOp ixD (eVar 4) (eOp modD (eVar 1) (eC (.int 20)))))))))))))))))))))))
def sem_law_known_by : List PyData → Res PyData := bodyD 10 F_law_known_by
def F_law_wide : SS :=
  (sSeq (sSet 3 (eOp addD (eC (.int 2)) (eOp modD (eOp divD (eVar 1) (eC (.int 6))) (eOp subD (eVar 2) (eC (.int 1))))))
    (sSeq (sSet 4 (eLc 10 (sRng1 (aCons (eVar 3) aNil)) tTrue (eTup (aCons (eC (.str "name")) (aCons (eCall sem_law_name_by (aCons (eOp modD (eVar 0) (eC (.int 1664))) (aCons (eVar 10) aNil))) aNil)))))
    (sSeq (sSet 5 (eOp modD (eOp divD (eVar 1) (eC (.int 42))) (eVar 3)))
    (sSeq (sSet 6 (eOp modD (eVar 1) (eC (.int 6))))
    (sSeq (sIf (asT (eOp gtD (eVar 6) (eC (.int 3)))) (sSeq (sSet 3 (eArgs min2D (aCons (eVar 3) (aCons (eC (.int 5)) aNil))))
    (noBk (sSeq (sTake 11 (eLc 10 (sRng1 (aCons (eOp subD (eVar 3) (eC (.int 1))) aNil)) tTrue (eTup (aCons (eC (.str "then")) (aCons (eOp ixD (eVar 4) (eVar 10)) (aCons (eOp ixD (eVar 4) (eOp addD (eVar 10) (eC (.int 1)))) aNil))))))
    (sSeq (sIf (asT (eOp eqD (eVar 6) (eC (.int 5)))) (sPutI 11 (eOp modD (eVar 5) (eOp subD (eVar 3) (eC (.int 1)))) (eOp ixD (eVar 4) (eOp modD (eVar 5) (eVar 3)))) sNext)
    (sSeq (sSetF 8 (eOp ixD (eVar 11) (eC (.int 0))))
    (sSeq (sFor (sListF (eCutL (eVar 11) (oSome (eC (.int 1))) oNone)) (gF 12) (noBk (sSetF 8 (eTup (aCons (eC (.str "and")) (aCons (eVar 8) (aCons (eVar 12) aNil)))))))
    (sRet (eTup (aCons (eC (.str "then")) (aCons (eVar 8) (aCons (eTup (aCons (eC (.str "then")) (aCons (eOp ixD (eVar 4) (eC (.int 0))) (aCons (eOp ixD (eVar 4) (eOp subD (eVar 3) (eC (.int 1)))) aNil)))) aNil))))))))))) sNext)
    (sSeq (sSet 7 (eOp ixD (eLst (aCons (eC (.str "and")) (aCons (eC (.str "or")) (aCons (eC (.str "or")) (aCons (eC (.str "then")) aNil))))) (eVar 6)))
    (sSeq (sSet 8 (eOp ixD (eVar 4) (eOp subD (eVar 3) (eC (.int 1)))))
    (sSeq (sSet 9 (eOp ixD (eVar 4) (eC (.int 0))))
    (sSeq (sFor (sRng2 (aCons (eC (.int 1)) (aCons (eVar 3) aNil))) (gN 10) (sSeq (sSet 8 (eTup (aCons (eVar 7) (aCons (eOp ixD (eVar 4) (eOp subD (eOp subD (eVar 3) (eC (.int 1))) (eVar 10))) (aCons (eVar 8) aNil)))))
    (sSet 9 (eTup (aCons (eVar 7) (aCons (eOp ixD (eVar 4) (eVar 10)) (aCons (eVar 9) aNil)))))))
    (sSeq (sIf (DL.tAnd (asT (eOp eqD (eVar 6) (eC (.int 2)))) (asT (eOp ltD (eVar 3) (eC (.int 6))))) (sRet (eTup (aCons (eC (.str "then")) (aCons (eVar 8) (aCons (eVar 9) aNil))))) sNext)
    (sRet (eOp ixD (eLst (aCons (eTup (aCons (eC (.str "then")) (aCons (eVar 8) (aCons (eOp ixD (eVar 4) (eVar 5)) aNil)))) (aCons (eTup (aCons (eC (.str "then")) (aCons (eOp ixD (eVar 4) (eVar 5)) (aCons (eVar 8) aNil)))) aNil))) (eOp modD (eOp divD (eVar 1) (eC (.int 294))) (eC (.int 2)))))))))))))))
def sem_law_wide : List PyData → Res PyData := bodyD 13 F_law_wide
def F_law_drawn : SS :=
  (sSeq (sSet 4 (eCall sem_law_cell_at (aCons (eVar 0) (aCons (eC (.int 0)) aNil))))
    (sSeq (sSet 5 (eCall sem_law_cell_at (aCons (eVar 0) (aCons (eVar 1) aNil))))
    (sSeq (sIf (asT (eOp eqD (eOp modD (eVar 5) (eC (.int 8))) (eC (.int 5)))) (sRet (eCall sem_law_wide (aCons (eVar 4) (aCons (eOp divD (eVar 5) (eC (.int 8))) (aCons (eVar 3) aNil))))) sNext)
    (sSeq (sIf (asT (eOp eqD (eOp modD (eVar 5) (eC (.int 2))) (eC (.int 1)))) (sRet (eCall sem_law_known_by (aCons (eVar 4) (aCons (eOp divD (eVar 5) (eC (.int 2))) aNil)))) sNext)
    (sRet (eCall sem_law_statement_by (aCons (eCut (eVar 0) (oSome (eOp addD (eVar 1) (eC (.int 1)))) (oSome (eOp addD (eOp addD (eVar 1) (eC (.int 1))) (eVar 2)))) (aCons (eVar 4) aNil))))))))
def sem_law_drawn : List PyData → Res PyData := bodyD 6 F_law_drawn
def F_law_names (self : List PyData → Res PyData) : SS :=
  (sSeq (sIf (asT (eOp eqD (eArgs lenD (aCons (eVar 0) aNil)) (eC (.int 2)))) (sRet (eLst (aCons (eOp ixD (eVar 0) (eC (.int 1))) aNil))) sNext)
    (sSeq (sIf (asT (eOp eqD (eArgs lenD (aCons (eVar 0) aNil)) (eC (.int 1)))) (sRet (eLst aNil)) sNext)
    (sSeq (sSet 1 (eCall self (aCons (eOp ixD (eVar 0) (eC (.int 1))) aNil)))
    (sRet (eOp addD (eVar 1) (eLc 2 (sList (eCall self (aCons (eOp ixD (eVar 0) (eC (.int 2))) aNil))) (asT (eOp notInD (eVar 2) (eVar 1))) (eVar 2)))))))
def sem_law_names : Nat → List PyData → Res PyData
  | 0 => fun _ => .bad
  | n + 1 => bodyD 3 (F_law_names (sem_law_names n))
def F_law_true (self : List PyData → Res PyData) : SS :=
  (sSeq (sSet 3 (eOp ixD (eVar 0) (eC (.int 0))))
    (sSeq (sIf (asT (eOp eqD (eVar 3) (eC (.str "name")))) (sRet (eOp eqD (eOp modD (eOp divD (eVar 2) (eOp ixD (eLst (aCons (eC (.int 1)) (aCons (eC (.int 2)) (aCons (eC (.int 4)) (aCons (eC (.int 8)) aNil))))) (eML lindexD (eVar 1) (eOp ixD (eVar 0) (eC (.int 1)))))) (eC (.int 2))) (eC (.int 1)))) sNext)
    (sSeq (sIf (asT (eOp eqD (eVar 3) (eC (.str "false")))) (sRet (eC (.bool false))) sNext)
    (sSeq (sSet 4 (eCall self (aCons (eOp ixD (eVar 0) (eC (.int 1))) (aCons (eVar 1) (aCons (eVar 2) aNil)))))
    (sSeq (sSet 5 (eCall self (aCons (eOp ixD (eVar 0) (eC (.int 2))) (aCons (eVar 1) (aCons (eVar 2) aNil)))))
    (sRet (eDict3 "and" "or" "then" (eAnd (eVar 4) (eVar 5)) (eOr (eVar 4) (eVar 5)) (eOr (eVar 5) (eNot (eVar 4))) (eVar 3))))))))
def sem_law_true : Nat → List PyData → Res PyData
  | 0 => fun _ => .bad
  | n + 1 => bodyD 6 (F_law_true (sem_law_true n))
def F_law : SS :=
  (sSeq (sSet 1 (eCall sem_law_drawn (aCons (eVar 0) (aCons (eC (.int 2)) (aCons (eC (.int 6)) (aCons (eC (.int 4)) aNil))))))
    (sSeq (sSet 2 (eCall (sem_law_names 10) (aCons (eVar 1) aNil)))
    (sSeq (sSet 3 (eLc 6 (sRng1 (aCons (eOp ixD (eLst (aCons (eC (.int 1)) (aCons (eC (.int 2)) (aCons (eC (.int 4)) (aCons (eC (.int 8)) (aCons (eC (.int 16)) aNil)))))) (eArgs lenD (aCons (eVar 2) aNil))) aNil)) tTrue (eCall (sem_law_true 10) (aCons (eVar 1) (aCons (eVar 2) (aCons (eVar 6) aNil))))))
    (sSeq (sSet 4 (eTup (aCons (eC (.str "then")) (aCons (eVar 1) (aCons (eTup (aCons (eC (.str "false")) aNil)) aNil)))))
    (sSeq (sSet 5 (eCall semTold0 (aCons (eTup (aCons (eC (.str "then")) (aCons (eVar 4) (aCons (eTup (aCons (eC (.str "false")) aNil)) aNil)))) aNil)))
    (sSeq (sIf (asT (eOp neD (eVar 5) (eOp ixD (eLst (aCons (eC (.str "worlds")) (aCons (eC (.str "shown")) aNil))) (eArgs intD (aCons (eArgs allD (aCons (eVar 3) aNil)) aNil))))) (sRet (eC (.bool false))) sNext)
    (sSeq (sIf (asT (eOp neD (eCall sem_is_shown (aCons (eVar 4) aNil)) (eNot (eArgs anyD (aCons (eVar 3) aNil))))) (sRet (eC (.bool false))) sNext)
    (sRet (eOr (eArgs allD (aCons (eVar 3) aNil)) (eNot (eCall sem_is_shown (aCons (eVar 1) aNil))))))))))))
def sem_law : List PyData → Res PyData := bodyD 7 F_law
end
end My

set_option Elab.async false
set_option maxRecDepth 100000
set_option maxHeartbeats 4000000
namespace My
open PySem L2 DL PyProof.Rows
/-! ### names -/
theorem len_list (z : Str) : z.length = z.cps.toList.length := by simp [Str.length]
theorem letters_list : ("abcdefghijklmnopqrstuvwxyz" : Str).cps.toList = (List.range 26).map (97 + ·) := by decide +kernel
theorem letters_len : ("abcdefghijklmnopqrstuvwxyz" : Str).length = 26 := by decide +kernel
theorem ix_letters {i : Int} (h0 : 0 ≤ i) (h1 : i < 26) : ixD (.str "abcdefghijklmnopqrstuvwxyz") (.int i) = some (.str ⟨#[97 + i.toNat]⟩) := by
  have h : ∀ n : Nat, n < 26 → atI ("abcdefghijklmnopqrstuvwxyz" : Str).cps.toList (n : Int) = some (97 + n) := by decide +kernel
  have q := h i.toNat (by omega)
  rw [Int.toNat_of_nonneg h0] at q
  simp only [ixD, letters_len, q]
  rfl
theorem index_letters {c : Nat} (h0 : 97 ≤ c) (h1 : c ≤ 122) : indexD "abcdefghijklmnopqrstuvwxyz" (.str ⟨#[c]⟩) = some (.int ((c : Int) - 97)) := by
  have h : ∀ n : Nat, n < 26 → (Builtin.Str.occurrences "abcdefghijklmnopqrstuvwxyz" ⟨#[97 + n]⟩ 0 26 1).head? = some n := by decide +kernel
  have q := h (c - 97) (by omega)
  rw [show 97 + (c - 97) = c by omega] at q
  simp only [indexD, letters_len, q, Option.map_some]
  congr 2
  omega
theorem joinL_nil : ∀ xs : List (List Nat), TL.joinL [] xs = xs.flatten
  | [] => rfl
  | [a] => by simp [TL.joinL]
  | a :: b :: r => by
    have ih := joinL_nil (b :: r)
    simp only [TL.joinL, List.flatten_cons] at ih ⊢
    rw [ih]
    simp
theorem join_signs (cs : List Nat) : Str.join "" (cs.map fun c => (⟨#[c]⟩ : Str)) = ⟨cs.toArray⟩ := by
  refine TL.ext_tl ?_
  rw [TL.tl_join, List.map_map]
  have e : TL.tl "" = [] := by decide +kernel
  rw [e, joinL_nil, TL.tl_mk]
  induction cs with
  | nil => rfl
  | cons c cs ih => simp only [List.map_cons, List.flatten_cons, ih]; rfl
theorem strsOf_strs : ∀ (xs : List Str), strsOf (xs.map PyData.str) = some xs
  | [] => rfl
  | x :: xs => by simp [strsOf, strsOf_strs xs]
theorem joinD_signs (cs : List Nat) (h : cs.length ≤ big) : joinD "" (.list (cs.map fun c => .str ⟨#[c]⟩)) = some (.str ⟨cs.toArray⟩) := by
  have e : (cs.map fun c => PyData.str ⟨#[c]⟩) = (cs.map fun c => (⟨#[c]⟩ : Str)).map PyData.str := by rw [List.map_map]; rfl
  have l : ((cs.map fun c => (⟨#[c]⟩ : Str)).map (·.length)).sum + (cs.map fun c => (⟨#[c]⟩ : Str)).length * ("" : Str).length ≤ big := by
    have e2 : ("" : Str).length = 0 := by decide +kernel
    have e3 : ((cs.map fun c => (⟨#[c]⟩ : Str)).map (·.length)).sum = cs.length := by
      rw [List.map_map]
      induction cs with
      | nil => rfl
      | cons c cs ih =>
        have := ih (by simp at h; omega) (by rw [List.map_map]; rfl)
        simp only [List.map_cons, List.sum_cons, List.length_cons, this]
        show 1 + _ = _
        omega
    rw [e2, e3]
    omega
  simp only [joinD, e, strsOf_strs, Option.bind_some]
  rw [if_pos l, join_signs]
theorem ix_str {z : Str} {i : Int} (h0 : 0 ≤ i) (h1 : i < z.length) (hz : z.length ≤ big) : ∃ c, ixD (.str z) (.int i) = some (.str ⟨#[c]⟩) ∧ c ∈ z.cps.toList := by
  have hl := len_list z
  have hi : i.toNat < z.cps.toList.length := by omega
  have q : atI z.cps.toList ((i.toNat : Nat) : Int) = some z.cps.toList[i.toNat] := atI_nat (List.getElem?_eq_getElem hi)
  rw [Int.toNat_of_nonneg h0] at q
  refine ⟨_, ?_, List.getElem_mem hi⟩
  simp only [ixD, if_pos hz, q]
  rfl
theorem cutS_toList (z : Str) (lo hi : Option Int) : (cutS z lo hi).cps.toList = cutP z.cps.toList lo hi := by
  simp [cutS, cutP, len_list]
theorem sIx_pos {n d : Nat} {i : Int} (h : 0 ≤ i) : HT.sIx n d (some i) = min i.toNat n := by
  have q := HT.sIx_nat n d i.toNat
  rw [Int.toNat_of_nonneg h] at q
  exact q
def nameSign (s : Int) (d : PyData) : Nat := match d with
  | .int j => 97 + ((s / 8 + 5 * j + j * j) % 26).toNat
  | _ => 0
theorem upTo_signs (s : Int) (n : Nat) : (upTo 0 n).map (fun d => PyData.str ⟨#[nameSign s d]⟩) = ((upTo 0 n).map (nameSign s)).map fun c => PyData.str ⟨#[c]⟩ := by
  rw [List.map_map]; rfl
theorem addD_str {a b : Str} (h : a.length + b.length ≤ big) : addD (.str a) (.str b) = some (.str (a ++ b)) := if_pos h
theorem cutD_str {z : Str} {lo hi : Option Int} (h : z.length ≤ big) : cutD lo hi (.str z) = some (.str (cutS z lo hi)) := if_pos h
theorem app_list (a b : Str) : (a ++ b).cps.toList = a.cps.toList ++ b.cps.toList := TL.tl_append a b
theorem app_len (a b : Str) : (a ++ b).length = a.length + b.length := by
  rw [len_list, len_list, len_list, app_list, List.length_append]
@[simp] theorem sign_len (c : Nat) : (⟨#[c]⟩ : Str).length = 1 := rfl
theorem name_by (s k : Int) : ∃ w, sem_law_name_by [.int s, .int k] = .ok (.str w) ∧ NameOk w := by
  have h1 : 1 ≤ 1 + s % 8 ∧ 1 + s % 8 ≤ 8 := by omega
  have hbig : big = 1000000 := rfl
  have hb1 : -(big : Int) ≤ 1 + s % 8 ∧ 1 + s % 8 ≤ (big : Int) := by simp only [big]; omega
  have hb2 : (1 + s % 8).toNat ≤ big := by simp only [big]; omega
  simp only [sem_law_name_by, bodyD, F_law_name_by, startD]
  generalize hcs : (upTo 0 (1 + s % 8).toNat).map (nameSign s) = cs
  have hcl : cs.length = (1 + s % 8).toNat := by rw [← hcs, List.length_map, upTo_len]
  have hcr : ∀ c ∈ cs, 97 ≤ c ∧ c ≤ 122 := by
    intro c hc
    rw [← hcs] at hc
    obtain ⟨d, hd, rfl⟩ := List.mem_map.mp hc
    obtain ⟨j, _, rfl⟩ := mem_upTo.mp hd
    simp only [nameSign]
    omega
  have hjoin := joinD_signs cs (by omega)
  simp [eLc_ap, hb1, hb2, upTo_len]
  rw [lcGo_map (v := fun d => .str ⟨#[nameSign s d]⟩) (by
    intro d hd
    obtain ⟨j, hj, rfl⟩ := mem_upTo.mp hd
    have hj1 : -1000000 ≤ (0 : Int) + j ∧ (0 : Int) + j ≤ 1000000 := by omega
    have m1 : mulD (.int 5) (.int (0 + (j : Int))) = some (.int (5 * (0 + (j : Int)))) := mulD_l (small64_of (by decide) (by decide))
    have m2 : mulD (.int (0 + (j : Int))) (.int (0 + (j : Int))) = some (.int ((0 + (j : Int)) * (0 + (j : Int)))) := mulD_l (small64_of hj1.1 hj1.2)
    refine ⟨rfl, ?_, rfl⟩
    simp only [Int.zero_add] at m1 m2
    simp [m1, m2]
    rw [ix_letters (by omega) (by omega)]
    simp [nameSign]), upTo_signs, hcs]
  simp only [Res.calm, Res.ok_bind, hjoin, Res.of_some]
  generalize hz : (⟨cs.toArray⟩ : Str) = z
  have hzl : z.cps.toList = cs := by rw [← hz]
  have hlen : z.length = (1 + s % 8).toNat := by rw [len_list, hzl, hcl]
  generalize hsize : 1 + s % 8 = size at *
  generalize hspot : s / 208 % size = spot
  have hsp : 0 ≤ spot ∧ spot < size := by
    rw [← hspot]
    exact ⟨Int.emod_nonneg _ (by omega), Int.emod_lt_of_pos _ (by omega)⟩
  obtain ⟨c, hc1, hc2⟩ := ix_str (z := z) (i := spot) hsp.1 (by omega) (by omega)
  have hc3 := hcr c (by rw [← hzl]; exact hc2)
  have hidx := index_letters hc3.1 hc3.2
  have m3 : mulD (.int k) (.int (1 + s / 1664 % 8)) = some (.int (k * (1 + s / 1664 % 8))) := mulD_r (small64_of (by omega) (by omega))
  generalize hj : ((c : Int) - 97 + k * (1 + s / 1664 % 8)) % 26 = j
  have hjr : 0 ≤ j ∧ j < 26 := by rw [← hj]; omega
  have hsg := ix_letters hjr.1 hjr.2
  generalize hg : (⟨#[97 + j.toNat]⟩ : Str) = g at hsg
  have hgl : g.length = 1 := by rw [← hg]; rfl
  have hgs : g.cps.toList = [97 + j.toNat] := by rw [← hg]
  have hp : (0 : Int) < size := by omega
  have hk1 : addD (.str z) (.str g) = some (.str (z ++ g)) := addD_str (by omega)
  have hk2 : cutD none (some spot) (.str z) = some (.str (cutS z none (some spot))) := cutD_str (by omega)
  have hk3 : cutD (some (spot + 1)) none (.str z) = some (.str (cutS z (some (spot + 1)) none)) := cutD_str (by omega)
  have hl1 : (cutS z none (some spot)).cps.toList = cs.take spot.toNat := by
    rw [cutS_toList, hzl]
    simp only [cutP, HT.sIx_none, List.drop_zero, Nat.sub_zero]
    rw [sIx_pos hsp.1]
    rw [Nat.min_eq_left (by omega)]
  have hl2 : (cutS z (some (spot + 1)) none).cps.toList = cs.drop (spot.toNat + 1) := by
    rw [cutS_toList, hzl]
    simp only [cutP, HT.sIx_none]
    rw [sIx_pos (by omega), Nat.min_eq_left (by omega), show (spot + 1).toNat = spot.toNat + 1 by omega]
    exact List.take_of_length_le (by rw [List.length_drop]; omega)
  have hL1 : (cutS z none (some spot)).length = spot.toNat := by rw [len_list, hl1, List.length_take]; omega
  have hL2 : (cutS z (some (spot + 1)) none).length = cs.length - (spot.toNat + 1) := by rw [len_list, hl2, List.length_drop]
  have hk4 : addD (.str (cutS z none (some spot))) (.str g) = some (.str (cutS z none (some spot) ++ g)) := addD_str (by omega)
  have hk5 : addD (.str (cutS z none (some spot) ++ g)) (.str (cutS z (some (spot + 1)) none)) = some (.str (cutS z none (some spot) ++ g ++ cutS z (some (spot + 1)) none)) := addD_str (by rw [app_len]; omega)
  simp [hp, hspot, hc1, hidx, m3, hj, hsg, hk1, hk2, hk3, hk4, hk5]
  have ok1 : size < 8 → NameOk (z ++ g) := fun h => by
    refine ⟨by rw [app_len]; omega, by rw [app_len]; omega, fun x hx => ?_⟩
    rw [app_list, hzl, hgs] at hx
    rcases List.mem_append.mp hx with hx | hx
    · exact hcr x hx
    · rw [List.mem_singleton] at hx
      omega
  have ok2 : NameOk (cutS z none (some spot) ++ g ++ cutS z (some (spot + 1)) none) := by
    refine ⟨by rw [app_len, app_len]; omega, by rw [app_len, app_len]; omega, fun x hx => ?_⟩
    rw [app_list, app_list, hl1, hl2, hgs] at hx
    rcases List.mem_append.mp hx with hx | hx
    · rcases List.mem_append.mp hx with hx | hx
      · exact hcr x (List.mem_of_mem_take hx)
      · rw [List.mem_singleton] at hx
        omega
    · exact hcr x (List.mem_of_mem_drop hx)
  split
  · split
    · split
      · rename_i h
        exact ⟨_, rfl, ok1 h⟩
      · exact ⟨_, rfl, ok2⟩
    · exact ⟨_, rfl, ok2⟩
  · exact ⟨_, rfl, ok2⟩

/-! the script's cells -/
theorem cell_at (ns : List Int) (k : Nat) (hk : ns.length ≤ 63) : sem_law_cell_at [.list (ns.map PyData.int), .int k] = .ok (.int (ns.getD k 0)) := by
  simp [sem_law_cell_at, bodyD, F_law_cell_at, startD]
  by_cases h : k < ns.length
  · have q : atI (ns.map PyData.int) (k : Int) = some (.int ns[k]) := atI_nat (by rw [List.getElem?_map, List.getElem?_eq_getElem h]; rfl)
    simp [h, q, List.getElem?_eq_getElem h]
  · simp [h, List.getElem?_eq_none (Nat.le_of_not_lt h)]
@[simp] theorem big_ge {n : Nat} (h : n ≤ 1000) : n ≤ big := Nat.le_trans h (by decide)
theorem four_words (w : Int) : ∃ o : W3, ixD (.list [.str "and", .str "or", .str "then", .str "then"]) (.int (w % 4)) = some (.str o.word) := by
  have h : w % 4 = 0 ∨ w % 4 = 1 ∨ w % 4 = 2 ∨ w % 4 = 3 := by omega
  rcases h with h | h | h | h <;> rw [h]
  · exact ⟨.an, rfl⟩
  · exact ⟨.orr, rfl⟩
  · exact ⟨.th, rfl⟩
  · exact ⟨.th, rfl⟩
theorem joined (w : Int) (a b : Stm) : ∃ o, sem_law_joined [.int w, a.enc, b.enc] = .ok (Stm.bin o a b).enc ∨ sem_law_joined [.int w, a.enc, b.enc] = .ok (Stm.bin o b a).enc := by
  obtain ⟨o, ho⟩ := four_words w
  refine ⟨o, ?_⟩
  by_cases h : w / 4 % 2 = 1
  · refine .inr ?_
    simp only [sem_law_joined, bodyD, F_law_joined, startD]
    simp [h, ho, Stm.enc]
  · refine .inl ?_
    simp only [sem_law_joined, bodyD, F_law_joined, startD]
    simp [h, ho, Stm.enc]
end My

set_option Elab.async false
set_option linter.all false
set_option maxRecDepth 100000
set_option maxHeartbeats 4000000
/-! parts and names of a statement -/
namespace My
open PySem L2 DL PyProof.Rows
def Part (y : Stm) : Stm → Prop
  | .nm z => y = .nm z
  | .fl => y = .fl
  | .bin o a b => y = .bin o a b ∨ Part y a ∨ Part y b
theorem part_self (x : Stm) : Part x x := by cases x <;> simp [Part]
theorem gathS_part : ∀ (x : Stm) (l : List Stm) (y : Stm), y ∈ gathS x l → y ∈ l ∨ Part y x
  | .nm z, l, y, h => by
    rw [gathS] at h
    split at h
    · exact .inl h
    · exact (List.mem_append.mp h).imp id fun h => List.mem_singleton.mp h
  | .fl, l, y, h => by
    rw [gathS] at h
    split at h
    · exact .inl h
    · exact (List.mem_append.mp h).imp id fun h => List.mem_singleton.mp h
  | .bin o a b, l, y, h => by
    rw [gathS] at h
    split at h
    · exact .inl h
    · rcases List.mem_append.mp h with h | h
      · rcases gathS_part b _ y h with h | h
        · rcases gathS_part a _ y h with h | h
          · exact .inl h
          · exact .inr (.inr (.inl h))
        · exact .inr (.inr (.inr h))
      · exact .inr (.inl (List.mem_singleton.mp h))
theorem part_cl {l : List Stm} (c : ClL l) : ∀ (x : Stm), x ∈ l → ∀ y, Part y x → y ∈ l
  | .nm z, h, y, k => k ▸ h
  | .fl, h, y, k => k ▸ h
  | .bin o a b, h, y, k => by
    rcases k with k | k | k
    · exact k ▸ h
    · exact part_cl c a (c o a b h).1 y k
    · exact part_cl c b (c o a b h).2 y k
theorem cl_nil : ClL [] := fun o a b h => (nomatch h)
theorem part_in {x y : Stm} (h : Part y x) : y ∈ gathS x [] := part_cl (gathS_cl x [] cl_nil) x (gathS_self x []) y h
theorem part_of {x y : Stm} (h : y ∈ gathS x []) : Part y x := (gathS_part x [] y h).elim (fun h => (nomatch h)) id
/-- L: the parts other than false; T: the thens -/
def Cov (L T : List Stm) (x : Stm) : Prop := ∀ y, Part y x → (y = .fl ∨ y ∈ L) ∧ (isTh y = true → y ∈ T)
def Named (ns : List Str) (x : Stm) : Prop := ∀ z, Part (.nm z) x → z ∈ ns
structure Fit (x : Stm) : Prop where
  ok : x.Ok
  dep : x.depth ≤ 6
  cov : ∃ L T : List Stm, L.length ≤ 13 ∧ T.length ≤ 7 ∧ Cov L T x
  nms : ∃ ns : List Str, ns.length ≤ 4 ∧ Named ns x
theorem Cov.mono {L T L' T' : List Stm} {x : Stm} (h : Cov L T x) (hl : ∀ y ∈ L, y ∈ L') (ht : ∀ y ∈ T, y ∈ T') : Cov L' T' x := fun y k => ⟨(h y k).1.imp id (hl y), fun e => ht y ((h y k).2 e)⟩
theorem cov_bin {L T : List Stm} {o : W3} {a b : Stm} (ha : Cov L T a) (hb : Cov L T b) : Cov (.bin o a b :: L) (.bin o a b :: T) (.bin o a b) := by
  intro y h
  rcases h with h | h | h
  · subst h
    exact ⟨.inr List.mem_cons_self, fun _ => List.mem_cons_self⟩
  · exact ⟨(ha y h).1.imp id (List.mem_cons_of_mem _), fun e => List.mem_cons_of_mem _ ((ha y h).2 e)⟩
  · exact ⟨(hb y h).1.imp id (List.mem_cons_of_mem _), fun e => List.mem_cons_of_mem _ ((hb y h).2 e)⟩
theorem cov_fl (L T : List Stm) : Cov L T .fl := fun y h => by
  have h : y = .fl := h
  subst h
  exact ⟨.inl rfl, fun e => (nomatch e)⟩
theorem cov_nm {L T : List Stm} {z : Str} (h : .nm z ∈ L) : Cov L T (.nm z) := fun y k => by
  have k : y = .nm z := k
  subst k
  exact ⟨.inr h, fun e => (nomatch e)⟩
theorem cov_few {L T : List Stm} {x : Stm} (h : Cov L T x) : (gathS x []).length ≤ L.length + 1 ∧ ((gathS x []).filter isTh).length ≤ T.length := by
  constructor
  · have := len_le (.fl :: L) _ (gathS_nodup x [] List.nodup_nil) fun y hy => (h y (part_of hy)).1.elim (fun e => e ▸ List.mem_cons_self) (List.mem_cons_of_mem _)
    simpa using this
  · exact len_le T _ ((gathS_nodup x [] List.nodup_nil).filter _) fun y hy => (h y (part_of (List.mem_filter.mp hy).1)).2 (List.mem_filter.mp hy).2
theorem named_bin {ns : List Str} {o : W3} {a b : Stm} : Named ns (.bin o a b) ↔ Named ns a ∧ Named ns b := by
  refine ⟨fun h => ⟨fun z k => h z (.inr (.inl k)), fun z k => h z (.inr (.inr k))⟩, fun h z k => ?_⟩
  rcases k with k | k | k
  · exact (nomatch k)
  · exact h.1 z k
  · exact h.2 z k
theorem named_fl (ns : List Str) : Named ns .fl := fun z h => (nomatch (h : Stm.nm z = .fl))
theorem named_nm {ns : List Str} {z : Str} : Named ns (.nm z) ↔ z ∈ ns := ⟨fun h => h z rfl, fun h w k => by
  have k : Stm.nm w = .nm z := k
  cases k
  exact h⟩
/-- the names, in the order in which the script finds them -/
def namesS : Stm → List Str
  | .nm z => [z]
  | .fl => []
  | .bin _ a b => namesS a ++ (namesS b).filter fun z => !decide (z ∈ namesS a)
theorem names_mem {z : Str} : ∀ {x : Stm}, z ∈ namesS x ↔ Part (.nm z) x
  | .nm w => by simp [namesS, Part]
  | .fl => by simp [namesS, Part]
  | .bin o a b => by
    have ha := names_mem (z := z) (x := a)
    have hb := names_mem (z := z) (x := b)
    simp only [namesS, List.mem_append, List.mem_filter, Part, ha, hb]
    constructor
    · rintro (h | h)
      · exact .inr (.inl h)
      · exact .inr (.inr h.1)
    · rintro (h | h | h)
      · exact (nomatch h)
      · exact .inl h
      · by_cases k : Part (.nm z) a
        · exact .inl k
        · exact .inr ⟨h, by rw [decide_eq_false (fun q => k (ha.mp q))]; rfl⟩
theorem names_nodup : ∀ x : Stm, (namesS x).Nodup
  | .nm w => by simp [namesS]
  | .fl => by simp [namesS]
  | .bin o a b => by
    refine List.nodup_append.mpr ⟨names_nodup a, (names_nodup b).filter _, fun y hy z hz e => ?_⟩
    subst e
    have := (List.mem_filter.mp hz).2
    simp [hy] at this
theorem names_few {x : Stm} {ns : List Str} (h : Named ns x) : (namesS x).length ≤ ns.length := len_le ns _ (names_nodup x) fun z hz => h z (names_mem.mp hz)
/-- other names -/
def Stm.sub (f : Str → Str) : Stm → Stm
  | .nm z => .nm (f z)
  | .fl => .fl
  | .bin o a b => .bin o (a.sub f) (b.sub f)
theorem sub_part (f : Str → Str) : ∀ (x y : Stm), Part y (x.sub f) → ∃ z, Part z x ∧ y = z.sub f
  | .nm z, y, h => ⟨.nm z, rfl, h⟩
  | .fl, y, h => ⟨.fl, rfl, h⟩
  | .bin o a b, y, h => by
    rcases h with h | h | h
    · exact ⟨.bin o a b, .inl rfl, h⟩
    · obtain ⟨z, h1, h2⟩ := sub_part f a y h
      exact ⟨z, .inr (.inl h1), h2⟩
    · obtain ⟨z, h1, h2⟩ := sub_part f b y h
      exact ⟨z, .inr (.inr h1), h2⟩
theorem depth_sub (f : Str → Str) : ∀ x : Stm, (x.sub f).depth = x.depth
  | .nm z => rfl
  | .fl => rfl
  | .bin o a b => by simp only [Stm.sub, Stm.depth, depth_sub f a, depth_sub f b]
theorem ok_sub {f : Str → Str} (h : ∀ z, NameOk (f z)) : ∀ x : Stm, (x.sub f).Ok
  | .nm z => h z
  | .fl => trivial
  | .bin o a b => ⟨ok_sub h a, ok_sub h b⟩
def notFl : Stm → Bool
  | .fl => false
  | _ => true
def fitB (y : Stm) : Bool := decide (y.depth ≤ 6) && decide (((gathS y []).filter notFl).length ≤ 13) && decide (((gathS y []).filter isTh).length ≤ 7) && decide ((namesS y).length ≤ 4)
theorem fit_sub {f : Str → Str} (hf : ∀ z, NameOk (f z)) {y : Stm} (h : fitB y = true) : Fit (y.sub f) := by
  simp only [fitB, Bool.and_eq_true, decide_eq_true_eq] at h
  obtain ⟨⟨⟨h1, h2⟩, h3⟩, h4⟩ := h
  refine ⟨ok_sub hf y, by rw [depth_sub]; exact h1, ⟨((gathS y []).filter notFl).map (Stm.sub f), ((gathS y []).filter isTh).map (Stm.sub f), by rw [List.length_map]; exact h2, by rw [List.length_map]; exact h3, fun x hx => ?_⟩, ⟨(namesS y).map f, by rw [List.length_map]; exact h4, fun z hz => ?_⟩⟩
  · obtain ⟨z, k1, rfl⟩ := sub_part f y x hx
    constructor
    · cases z with
      | fl => exact .inl rfl
      | nm w => exact .inr (List.mem_map.mpr ⟨_, List.mem_filter.mpr ⟨part_in k1, rfl⟩, rfl⟩)
      | bin o a b => exact .inr (List.mem_map.mpr ⟨_, List.mem_filter.mpr ⟨part_in k1, rfl⟩, rfl⟩)
    · intro e
      refine List.mem_map.mpr ⟨z, List.mem_filter.mpr ⟨part_in k1, ?_⟩, rfl⟩
      cases z with
      | fl => exact e
      | nm w => exact e
      | bin o a b => cases o <;> exact e
  · obtain ⟨w, k1, k2⟩ := sub_part f y _ hz
    cases w with
    | fl => exact (nomatch k2)
    | bin o a b => exact (nomatch k2)
    | nm q =>
      cases k2
      exact List.mem_map.mpr ⟨q, names_mem.mpr k1, rfl⟩
/-! the two denials -/
abbrev no (x : Stm) : Stm := .bin .th x .fl
theorem fit_no {x : Stm} (h : Fit x) : SL (no (no x)) ∧ (gathS (no (no x)) []).length ≤ 16 ∧ ((gathS (no (no x)) []).filter isTh).length ≤ 9 := by
  obtain ⟨L, T, h1, h2, h3⟩ := h.cov
  have := h.dep
  have q : (gathS (no (no x)) []).length ≤ (no (no x) :: no x :: L).length + 1 ∧ ((gathS (no (no x)) []).filter isTh).length ≤ (no (no x) :: no x :: T).length := cov_few (cov_bin (o := .th) (cov_bin (o := .th) h3 (cov_fl _ _)) (cov_fl _ _))
  simp only [List.length_cons] at q
  have hd := Stm.depth_pos x
  refine ⟨⟨⟨⟨h.ok, trivial⟩, trivial⟩, by simp only [Stm.depth]; omega⟩, by omega, by omega⟩
theorem fit_no1 {x : Stm} (h : Fit x) : SL (no x) ∧ (gathS (no x) []).length ≤ 16 := by
  obtain ⟨L, T, h1, h2, h3⟩ := h.cov
  have := h.dep
  have q : (gathS (no x) []).length ≤ (no x :: L).length + 1 ∧ ((gathS (no x) []).filter isTh).length ≤ (no x :: T).length := cov_few (cov_bin (o := .th) h3 (cov_fl _ _))
  simp only [List.length_cons] at q
  have hd := Stm.depth_pos x
  refine ⟨⟨⟨h.ok, trivial⟩, by simp only [Stm.depth]; omega⟩, by omega⟩
theorem fit_no0 {x : Stm} (h : Fit x) : SL x ∧ (gathS x []).length ≤ 16 := by
  obtain ⟨L, T, h1, h2, h3⟩ := h.cov
  have := h.dep
  have q := cov_few h3
  exact ⟨⟨h.ok, by omega⟩, by omega⟩
theorem gath_Cl (x : Stm) : Cl (· ∈ gathS x []) := ⟨fun {o a b} h => (gathS_cl x [] cl_nil o a b h).1, fun {o a b} h => (gathS_cl x [] cl_nil o a b h).2⟩
theorem valid_nn (x : Stm) : Valid (no (no x)) ↔ ∀ v, tv v x := by
  have h1 := part_in (x := no (no x)) (y := .fl) (.inr (.inr rfl))
  have h2 := part_in (x := no (no x)) (y := no x) (.inr (.inl (part_self _)))
  exact valid_notnot (gath_Cl _) (fun _ => Iff.rfl) h1 h2
theorem valid_n (x : Stm) : Valid (no x) ↔ ∀ v, ¬ tv v x := by
  have h1 := part_in (x := no x) (y := .fl) (.inr (.inr rfl))
  have h2 := part_in (x := no x) (y := x) (.inr (.inl (part_self _)))
  exact valid_not (gath_Cl _) (fun _ => Iff.rfl) h1 h2
/-! tables by number -/
theorem idxOf_ne {y z : Str} {ys : List Str} (e : ¬ y = z) : (y :: ys).idxOf z = ys.idxOf z + 1 := by
  rw [List.idxOf_cons, beq_false_of_ne e]
  rfl
def valT (ns : List Str) (t : Nat) : Str → Prop := fun z => t / 2 ^ ns.idxOf z % 2 = 1
noncomputable def codeT (v : Str → Prop) : List Str → Nat
  | [] => 0
  | z :: zs => (open Classical in if v z then 1 else 0) + 2 * codeT v zs
theorem codeT_lt (v : Str → Prop) : ∀ ns : List Str, codeT v ns < 2 ^ ns.length
  | [] => Nat.one_pos
  | z :: zs => by
    have := codeT_lt v zs
    simp only [codeT, List.length_cons, Nat.pow_succ]
    split <;> omega
theorem codeT_at (v : Str → Prop) : ∀ (ns : List Str) (z : Str), z ∈ ns → (valT ns (codeT v ns) z ↔ v z)
  | [], z, h => (nomatch h)
  | y :: ys, z, h => by
    unfold valT codeT
    by_cases e : y = z
    · subst e
      rw [List.idxOf_cons_self, Nat.pow_zero, Nat.div_one]
      by_cases k : v y
      · rw [if_pos k]; simp only [k, iff_true]; omega
      · rw [if_neg k]; simp only [k, iff_false]; omega
    · have hz : z ∈ ys := (List.mem_cons.mp h).resolve_left fun k => e k.symm
      have ih := codeT_at v ys z hz
      unfold valT at ih
      rw [← ih, idxOf_ne e, Nat.pow_succ', ← Nat.div_div_eq_div_mul]
      have : ((open Classical in if v y then 1 else 0) + 2 * codeT v ys) / 2 = codeT v ys := by split <;> omega
      rw [this]
theorem tv_agree {v w : Str → Prop} : ∀ {x : Stm}, (∀ z, Part (.nm z) x → (v z ↔ w z)) → (tv v x ↔ tv w x)
  | .nm z, h => h z rfl
  | .fl, _ => Iff.rfl
  | .bin o a b, h => by
    have ha := tv_agree (v := v) (w := w) (x := a) fun z k => h z (.inr (.inl k))
    have hb := tv_agree (v := v) (w := w) (x := b) fun z k => h z (.inr (.inr k))
    cases o with
    | an => exact and_congr ha hb
    | orr => exact or_congr ha hb
    | th => exact imp_congr ha hb
theorem tables_all {ns : List Str} {x : Stm} (h : Named ns x) : (∀ t, t < 2 ^ ns.length → tv (valT ns t) x) ↔ ∀ v, tv v x :=
  ⟨fun k v => (tv_agree fun z hz => codeT_at v ns z (h z hz)).mp (k (codeT v ns) (codeT_lt v ns)), fun k t _ => k _⟩
theorem tables_any {ns : List Str} {x : Stm} (h : Named ns x) : (∃ t, t < 2 ^ ns.length ∧ tv (valT ns t) x) ↔ ∃ v, tv v x :=
  ⟨fun ⟨t, _, k⟩ => ⟨_, k⟩, fun ⟨v, k⟩ => ⟨codeT v ns, codeT_lt v ns, (tv_agree fun z hz => codeT_at v ns z (h z hz)).mpr k⟩⟩
def tvB (ns : List Str) (t : Nat) : Stm → Bool
  | .nm z => decide (t / 2 ^ ns.idxOf z % 2 = 1)
  | .fl => false
  | .bin .an a b => tvB ns t a && tvB ns t b
  | .bin .orr a b => tvB ns t a || tvB ns t b
  | .bin .th a b => tvB ns t b || !tvB ns t a
theorem tvB_iff (ns : List Str) (t : Nat) : ∀ x : Stm, tvB ns t x = true ↔ tv (valT ns t) x
  | .nm z => by simp [tvB, tv, valT]
  | .fl => by simp [tvB, tv]
  | .bin o a b => by
    have ha := tvB_iff ns t a
    have hb := tvB_iff ns t b
    cases o with
    | an => simp only [tvB, tv, Bool.and_eq_true, ha, hb]
    | orr => simp only [tvB, tv, Bool.or_eq_true, ha, hb]
    | th =>
      simp only [tvB, tv, Bool.or_eq_true, ← ha, ← hb]
      cases tvB ns t a <;> cases tvB ns t b <;> simp
end My

set_option Elab.async false
set_option linter.all false
set_option maxRecDepth 100000
set_option maxHeartbeats 4000000
/-! the script's names and tables -/
namespace My
open PySem L2 DL PyProof.Rows
theorem addD_list {a b : List PyData} (h : a.length + b.length ≤ big) : addD (.list a) (.list b) = some (.list (a ++ b)) := if_pos h
theorem name_shaped {w : Str} (h : NameOk w) : (PyData.str w).canLay0 = true := by
  simp only [PyData.canLay0, PyData.strOk, Array.all_eq_true, decide_eq_true_eq]
  intro i hi
  have := h.2.2 _ (Array.mem_toList_iff.mpr (Array.getElem_mem hi))
  omega
def sds (ns : List Str) : List PyData := ns.map PyData.str
@[simp] theorem sds_len (ns : List Str) : (sds ns).length = ns.length := List.length_map _
theorem sds_app (a b : List Str) : sds (a ++ b) = sds a ++ sds b := List.map_append
theorem sds_of (ns : List Str) : strsOf (sds ns) = some ns := strsOf_strs ns
theorem sds_shaped : ∀ {ns : List Str}, (∀ z ∈ ns, NameOk z) → SeqAt.shaped (.list (sds ns)) = true := by
  intro ns h
  have h1 : PyData.canLayAll0 (sds ns) = true ∧ PyData.depthAll (sds ns) ≤ 1 := by
    induction ns with
    | nil => exact ⟨rfl, Nat.zero_le _⟩
    | cons s ns ih =>
      have q := ih fun t ht => h t (List.mem_cons_of_mem _ ht)
      show PyData.canLayAll0 (.str s :: sds ns) = true ∧ PyData.depthAll (.str s :: sds ns) ≤ 1
      simp only [PyData.canLayAll0, PyData.depthAll, Bool.and_eq_true]
      exact ⟨⟨name_shaped (h s List.mem_cons_self), q.1⟩, Nat.max_le.mpr ⟨by simp [PyData.depth], q.2⟩⟩
  unfold SeqAt.shaped
  have h2 : PyData.depth (.list (sds ns)) ≤ 64 := by
    simp only [PyData.depth]
    omega
  simp only [PyData.canLay0, h1.1, Bool.true_and]
  exact decide_eq_true h2
theorem str_shaped {z : Str} (h : NameOk z) : SeqAt.shaped (.str z) = true := by
  unfold SeqAt.shaped
  rw [name_shaped h]
  simp [PyData.depth]
theorem in_sds {z : Str} {ns : List Str} (hz : NameOk z) (h : ∀ y ∈ ns, NameOk y) : notInD (.str z) (.list (sds ns)) = some (.bool (!decide (z ∈ ns))) := by
  have h1 := str_shaped hz
  have h2 := sds_shaped h
  have e : inD (.str z) (.list (sds ns)) = if SeqAt.shaped (.str z) && SeqAt.shaped (.list (sds ns)) then some (.bool ((sds ns).any fun y => PyData.eqv y (.str z))) else none := rfl
  have e2 : ((sds ns).any fun y => PyData.eqv y (.str z)) = decide (z ∈ ns) := by
    rw [Bool.eq_iff_iff]
    simp only [sds, List.any_map, List.any_eq_true, Function.comp, decide_eq_true_eq]
    constructor
    · rintro ⟨y, hy, k⟩
      have k : (y == z) = true := k
      rw [← eq_of_beq k]
      exact hy
    · exact fun k => ⟨z, k, beq_self_eq_true z⟩
  rw [h1, h2, e2] at e
  unfold notInD
  rw [e]
  rfl
theorem ok_names {x : Stm} : x.Ok → ∀ z ∈ namesS x, NameOk z := by
  induction x with
  | nm w => intro h z hz; rw [List.mem_singleton.mp hz]; exact h
  | fl => intro _ z hz; exact (nomatch hz)
  | bin o a b iha ihb =>
    intro h z hz
    rcases List.mem_append.mp hz with k | k
    · exact iha h.1 z k
    · exact ihb h.2 z (List.mem_filter.mp k).1
theorem filter_sds (p : Str → Bool) (q : PyData → Bool) (h : ∀ z, q (.str z) = p z) (ns : List Str) : (sds ns).filter q = sds (ns.filter p) := by
  induction ns with
  | nil => rfl
  | cons a ns ih =>
    show (PyData.str a :: sds ns).filter q = sds ((a :: ns).filter p)
    rw [List.filter_cons, List.filter_cons, h a]
    split
    · rw [ih]; rfl
    · exact ih
def strIn (ns : List Str) : PyData → Bool
  | .str z => !decide (z ∈ ns)
  | _ => false
theorem names_at (ms : List Str) (hm : ms.length ≤ 4) : ∀ (x : Stm) (n : Nat), x.Ok → Named ms x → x.depth ≤ n → sem_law_names n [x.enc] = .ok (.list (sds (namesS x)))
  | x, 0, _, _, h => by have := Stm.depth_pos x; omega
  | .nm z, n + 1, hx, hn, _ => by
    have a1 : atI [PyData.str "name", PyData.str z] 1 = some (.str z) := rfl
    simp only [sem_law_names, bodyD, F_law_names, startD]
    simp [Stm.enc, a1, namesS, sds]
  | .fl, n + 1, _, _, _ => by
    simp only [sem_law_names, bodyD, F_law_names, startD]
    simp [Stm.enc, namesS, sds]
  | .bin o a b, n + 1, hx, hn, hd => by
    have hd : max a.depth b.depth + 1 ≤ n + 1 := hd
    have ha := names_at ms hm a n hx.1 (named_bin.mp hn).1 (by omega)
    have hb := names_at ms hm b n hx.2 (named_bin.mp hn).2 (by omega)
    have la := names_few (named_bin.mp hn).1
    have lb := names_few (named_bin.mp hn).2
    have a1 : atI [PyData.str o.word, a.enc, b.enc] 1 = some a.enc := rfl
    have a2 : atI [PyData.str o.word, a.enc, b.enc] 2 = some b.enc := rfl
    simp only [sem_law_names, bodyD, F_law_names, startD]
    simp [Stm.enc, a1, a2, ha, hb, eLc_ap, big]
    rw [if_pos (by omega), lcGo_filter (p := strIn (namesS a)) (v := id) (by
      intro d hd
      obtain ⟨z, hz, rfl⟩ := List.mem_map.mp hd
      have q := in_sds (ok_names hx.2 z hz) (ok_names hx.1)
      refine ⟨?_, fun _ => ⟨?_, rfl⟩⟩
      · simp [q, strIn]
      · simp)]
    rw [filter_sds (fun z => !decide (z ∈ namesS a)) _ (fun z => rfl), List.map_id]
    have la2 : (List.filter (fun z => !decide (z ∈ namesS a)) (namesS b)).length ≤ (namesS b).length := List.length_filter_le _ _
    have hadd : addD (.list (sds (namesS a))) (.list (sds (List.filter (fun z => !decide (z ∈ namesS a)) (namesS b)))) = some (.list (sds (namesS (.bin o a b)))) := by
      rw [addD_list (by rw [sds_len, sds_len]; simp only [big]; omega), ← sds_app]
      rfl
    simp [Res.calm, hadd]
/-! tables -/
theorem lix_sds {z : Str} {ns : List Str} (h : z ∈ ns) : lindexD (.list (sds ns)) (.str z) = some (.int (ns.idxOf z : Nat)) := by
  simp only [lindexD, sds_of, Option.bind_some, if_pos h]
theorem pow_at {i : Nat} (h : i < 4) : atI [PyData.int 1, PyData.int 2, PyData.int 4, PyData.int 8] (i : Int) = some (.int (2 ^ i : Nat)) ∧ (0 : Int) < (2 ^ i : Nat) ∧ ((2 ^ i : Nat) : Int) < 1073741824 := by
  have : i = 0 ∨ i = 1 ∨ i = 2 ∨ i = 3 := by omega
  rcases this with rfl | rfl | rfl | rfl <;> exact ⟨rfl, by decide, by decide⟩
theorem true_at (ns : List Str) (hl : ns.length ≤ 4) (t : Nat) : ∀ (x : Stm) (n : Nat), Named ns x → x.depth ≤ n → sem_law_true n [x.enc, .list (sds ns), .int (t : Nat)] = .ok (.bool (tvB ns t x))
  | x, 0, _, h => by have := Stm.depth_pos x; omega
  | .nm z, n + 1, hn, _ => by
    have hz := named_nm.mp hn
    have hi : ns.idxOf z < 4 := Nat.lt_of_lt_of_le (List.idxOf_lt_length_of_mem hz) hl
    obtain ⟨p1, p2, p3⟩ := pow_at hi
    have hx := lix_sds hz
    have a0 : atI [PyData.str "name", PyData.str z] 0 = some (.str "name") := rfl
    have a1 : atI [PyData.str "name", PyData.str z] 1 = some (.str z) := rfl
    have hdiv : divD (.int (t : Nat)) (.int (2 ^ ns.idxOf z : Nat)) = some (.int ((t : Int) / (2 ^ ns.idxOf z : Nat))) := divD_pos p2 p3
    have e : ((t : Int) / ((2 ^ ns.idxOf z : Nat) : Int) % 2 == 1) = tvB ns t (.nm z) := by
      simp only [tvB]
      rw [Bool.eq_iff_iff, beq_iff_eq, decide_eq_true_eq]
      omega
    simp only [sem_law_true, bodyD, F_law_true, startD]
    generalize 2 ^ ns.idxOf z = W at p1 p2 p3 hdiv e
    simp [Stm.enc, a0, a1, hx, p1, hdiv, e]
  | .fl, n + 1, _, _ => by
    have a0 : atI [PyData.str "false"] 0 = some (.str "false") := rfl
    have e : (("false" : Str) == "name") = false := by decide +kernel
    simp only [sem_law_true, bodyD, F_law_true, startD]
    simp [Stm.enc, a0, e, tvB]
  | .bin o a b, n + 1, hn, hd => by
    have hd : max a.depth b.depth + 1 ≤ n + 1 := hd
    have ha := true_at ns hl t a n (named_bin.mp hn).1 (by omega)
    have hb := true_at ns hl t b n (named_bin.mp hn).2 (by omega)
    have a0 : atI [PyData.str o.word, a.enc, b.enc] 0 = some (.str o.word) := rfl
    have a1 : atI [PyData.str o.word, a.enc, b.enc] 1 = some a.enc := rfl
    have a2 : atI [PyData.str o.word, a.enc, b.enc] 2 = some b.enc := rfl
    have e1 : (o.word == ("name" : Str)) = false := by cases o <;> decide +kernel
    have e2 : (o.word == ("false" : Str)) = false := by cases o <;> decide +kernel
    simp only [sem_law_true, bodyD, F_law_true, startD]
    have n1 : ¬ ("or" : Str) = "and" := by decide +kernel
    have n2 : ¬ ("then" : Str) = "and" := by decide +kernel
    have n3 : ¬ ("then" : Str) = "or" := by decide +kernel
    simp [Stm.enc, a0, a1, a2, e1, e2, ha, hb, eDict3]
    cases ta : tvB ns t a <;> cases tb : tvB ns t b <;> cases o <;> simp [tvB, ta, tb, W3.word, n1, n2, n3]
end My

set_option Elab.async false
set_option maxRecDepth 100000
set_option maxHeartbeats 4000000
set_option linter.all false
namespace My
open PySem L2 DL PyProof.Rows
/-! ### the names of a seed -/
noncomputable def nmOf (s k : Int) : Str := (name_by s k).choose
theorem name_at (s k : Int) : sem_law_name_by [.int s, .int k] = .ok (.str (nmOf s k)) := (name_by s k).choose_spec.1
theorem nmOf_ok (s k : Int) : NameOk (nmOf s k) := (name_by s k).choose_spec.2
noncomputable def four (s : Int) : List Str := [nmOf s 0, nmOf s 1, nmOf s 2, nmOf s 3]
theorem four_mem (s : Int) {k : Int} (h0 : 0 ≤ k) (h1 : k < 4) : nmOf s k ∈ four s := by
  have : k = 0 ∨ k = 1 ∨ k = 2 ∨ k = 3 := by omega
  rcases this with rfl | rfl | rfl | rfl <;> simp [four]
/-! ### the pile -/
structure Pot (s : Int) (ps : List Stm) (n : Nat) : Prop where
  len : ps.length ≤ n
  each : ∀ x ∈ ps, x.Ok ∧ x.depth + ps.length ≤ n + 1 ∧ Named (four s) x
  cov : ∃ L T : List Stm, L.length + ps.length ≤ 2 * n ∧ T.length + ps.length ≤ n ∧ ∀ x ∈ ps, Cov L T x
theorem Pot.up {s : Int} {ps : List Stm} {n : Nat} (h : Pot s ps n) : Pot s ps (n + 1) := by
  refine ⟨Nat.le_succ_of_le h.len, fun x hx => ⟨(h.each x hx).1, Nat.le_succ_of_le (h.each x hx).2.1, (h.each x hx).2.2⟩, ?_⟩
  obtain ⟨L, T, h1, h2, h3⟩ := h.cov
  exact ⟨L, T, by omega, by omega, h3⟩
theorem pot_push {s : Int} {ps : List Stm} {n : Nat} {x : Stm} (h : Pot s ps n) (ho : x.Ok) (hd : x.depth + ps.length ≤ n + 1) (hn : Named (four s) x)
    (hc : ∀ L T, (∀ y ∈ ps, Cov L T y) → ∃ L' : List Stm, L'.length ≤ L.length + 1 ∧ (∀ y ∈ L, y ∈ L') ∧ Cov L' T x) : Pot s (ps ++ [x]) (n + 1) := by
  obtain ⟨L, T, h1, h2, h3⟩ := h.cov
  obtain ⟨L', h4, h5, h6⟩ := hc L T h3
  have hl : (ps ++ [x]).length = ps.length + 1 := by rw [List.length_append, List.length_singleton]
  refine ⟨by rw [hl]; exact Nat.succ_le_succ h.len, fun t ht => ?_, L', T, by rw [hl]; omega, by rw [hl]; omega, fun t ht => ?_⟩
  · rw [hl]
    rcases List.mem_append.mp ht with ht | ht
    · have := h.each t ht
      exact ⟨this.1, by omega, this.2.2⟩
    · rw [List.mem_singleton] at ht
      subst ht
      exact ⟨ho, by omega, hn⟩
  · rcases List.mem_append.mp ht with ht | ht
    · exact (h3 t ht).mono h5 fun y hy => hy
    · rw [List.mem_singleton] at ht
      subst ht
      exact h6
/-- the last two under a word -/
theorem pot_bin {s : Int} {ys : List Stm} {u v x : Stm} {n : Nat} {o : W3} (h : Pot s (ys ++ [u, v]) n) (hx : x = .bin o u v ∨ x = .bin o v u) : Pot s (ys ++ [x]) n := by
  obtain ⟨L, T, h1, h2, h3⟩ := h.cov
  have hlen := h.len
  have hu := h.each u (by simp)
  have hv := h.each v (by simp)
  have cu := h3 u (by simp)
  have cv := h3 v (by simp)
  have e1 : (ys ++ [u, v]).length = ys.length + 2 := by simp
  have e2 : (ys ++ [x]).length = ys.length + 1 := by simp
  rw [e1] at h1 h2 hlen hu hv
  have key : x.Ok ∧ x.depth = max u.depth v.depth + 1 ∧ Named (four s) x ∧ Cov (x :: L) (x :: T) x := by
    rcases hx with rfl | rfl
    · exact ⟨⟨hu.1, hv.1⟩, rfl, named_bin.mpr ⟨hu.2.2, hv.2.2⟩, cov_bin cu cv⟩
    · exact ⟨⟨hv.1, hu.1⟩, by simp only [Stm.depth]; omega, named_bin.mpr ⟨hv.2.2, hu.2.2⟩, cov_bin cv cu⟩
  obtain ⟨k1, k2, k3, k4⟩ := key
  refine ⟨by rw [e2]; omega, fun t ht => ?_, x :: L, x :: T, by rw [e2, List.length_cons]; omega, by rw [e2, List.length_cons]; omega, fun t ht => ?_⟩
  · rw [e2]
    rcases List.mem_append.mp ht with ht | ht
    · have := h.each t (List.mem_append_left _ ht)
      rw [e1] at this
      exact ⟨this.1, by omega, this.2.2⟩
    · rw [List.mem_singleton] at ht
      subst ht
      exact ⟨k1, by omega, k3⟩
  · rcases List.mem_append.mp ht with ht | ht
    · exact (h3 t (List.mem_append_left _ ht)).mono (fun y => List.mem_cons_of_mem _) fun y => List.mem_cons_of_mem _
    · rw [List.mem_singleton] at ht
      subst ht
      exact k4
/-- a denial -/
theorem pot_no {s : Int} {ys : List Stm} {v : Stm} {n : Nat} (h : Pot s (ys ++ [v]) n) : Pot s (ys ++ [no v]) (n + 1) := by
  obtain ⟨L, T, h1, h2, h3⟩ := h.cov
  have hlen := h.len
  have hv := h.each v (by simp)
  have cv := h3 v (by simp)
  have hd := Stm.depth_pos v
  have e1 : (ys ++ [v]).length = ys.length + 1 := by simp
  have e2 : (ys ++ [no v]).length = ys.length + 1 := by simp
  rw [e1] at h1 h2 hlen hv
  refine ⟨by rw [e2]; omega, fun t ht => ?_, no v :: L, no v :: T, by rw [e2, List.length_cons]; omega, by rw [e2, List.length_cons]; omega, fun t ht => ?_⟩
  · rw [e2]
    rcases List.mem_append.mp ht with ht | ht
    · have := h.each t (List.mem_append_left _ ht)
      rw [e1] at this
      exact ⟨this.1, by omega, this.2.2⟩
    · rw [List.mem_singleton] at ht
      subst ht
      exact ⟨⟨hv.1, trivial⟩, by simp only [Stm.depth]; omega, named_bin.mpr ⟨hv.2.2, named_fl _⟩⟩
  · rcases List.mem_append.mp ht with ht | ht
    · exact (h3 t (List.mem_append_left _ ht)).mono (fun y => List.mem_cons_of_mem _) fun y => List.mem_cons_of_mem _
    · rw [List.mem_singleton] at ht
      subst ht
      exact cov_bin cv (cov_fl _ _)
def encs (ps : List Stm) : List PyData := ps.map Stm.enc
@[simp] theorem encs_len (ps : List Stm) : (encs ps).length = ps.length := List.length_map _
theorem encs_app (ps qs : List Stm) : encs (ps ++ qs) = encs ps ++ encs qs := List.map_append
theorem at_back {α : Type} (xs : List α) (v : α) : atI (xs ++ [v]) (-1) = some v := atI_last xs v
theorem at_back2 {α : Type} (xs : List α) (u v : α) : atI (xs ++ [u, v]) (-2) = some u := by
  have e : ixN (xs ++ [u, v]).length (-2) = some xs.length := by
    simp only [ixN, List.length_append, List.length_cons, List.length_nil]
    rw [if_neg (by omega), if_pos (by omega)]
    congr 1
    omega
  unfold atI
  rw [e]
  simp
theorem cut_back {α : Type} (xs : List α) (v : α) : cutP (xs ++ [v]) none (some (-1)) = xs := by
  have e : HT.sIx (xs ++ [v]).length (xs ++ [v]).length (some (-1)) = xs.length := by
    simp only [HT.sIx, List.length_append, List.length_cons, List.length_nil]
    simp
    try omega
  rw [cutP, e]
  simp [HT.sIx_none]
theorem cut_back2 {α : Type} (xs : List α) (u v : α) : cutP (xs ++ [u, v]) none (some (-2)) = xs := by
  have e : HT.sIx (xs ++ [u, v]).length (xs ++ [u, v]).length (some (-2)) = xs.length := by
    simp only [HT.sIx, List.length_append, List.length_cons, List.length_nil]
    simp
    try omega
  rw [cutP, e]
  simp [HT.sIx_none]
theorem back1 {α : Type} {xs : List α} (h : 0 < xs.length) : ∃ ys v, xs = ys ++ [v] := by
  rcases List.eq_nil_or_concat xs with e | ⟨ys, v, e⟩
  · rw [e] at h; exact absurd h (Nat.lt_irrefl _)
  · exact ⟨ys, v, by rw [e, List.concat_eq_append]⟩
theorem back2 {α : Type} {xs : List α} (h : 1 < xs.length) : ∃ ys u v, xs = ys ++ [u, v] := by
  obtain ⟨ys, v, e⟩ := back1 (xs := xs) (by omega)
  subst e
  obtain ⟨zs, u, e⟩ := back1 (xs := ys) (by rw [List.length_append] at h; simp at h; omega)
  subst e
  exact ⟨zs, u, v, by simp⟩
@[simp] theorem cutD_list {xs : List PyData} {lo hi : Option Int} : DL.cutD lo hi (.list xs) = some (.list (cutP xs lo hi)) := nrfl rfl
@[simp] theorem cutD_tuple {xs : List PyData} {lo hi : Option Int} : DL.cutD lo hi (.tuple xs) = some (.tuple (cutP xs lo hi)) := nrfl rfl
theorem step (ps : List Stm) (n : Nat) (c s : Int) (h : Pot s ps n) (hn : n ≤ 100) : ∃ qs, sem_law_step [.list (encs ps), .int c, .int s] = .ok (.list (encs qs)) ∧ Pot s qs (n + 1) := by
  have hw := name_at s (c / 10 % 4)
  have hwo := nmOf_ok s (c / 10 % 4)
  have hwm := four_mem s (k := c / 10 % 4) (by omega) (by omega)
  generalize nmOf s (c / 10 % 4) = w at hw hwo hwm
  have hlen := h.len
  have push : ∀ t : Stm, addD (.list (encs ps)) (.list [t.enc]) = some (.list (encs (ps ++ [t]))) := fun t => by
    rw [addD_list (by rw [encs_len]; exact big_ge (by simp; omega)), encs_app]; rfl
  have hname : ∃ qs, addD (.list (encs ps)) (.list [.tuple [.str "name", .str w]]) = some (.list (encs qs)) ∧ Pot s qs (n + 1) :=
    ⟨_, push (.nm w), pot_push h hwo (by simp only [Stm.depth]; omega) (named_nm.mpr hwm) fun L T _ => ⟨.nm w :: L, Nat.le_refl _, fun y => List.mem_cons_of_mem _, cov_nm List.mem_cons_self⟩⟩
  obtain ⟨q1, hq1, hq1p⟩ := hname
  simp only [sem_law_step, bodyD, F_law_step, startD]
  by_cases h4 : c % 10 = 4
  · have hf := push .fl
    simp only [Stm.enc] at hf
    simp [h4, hf]
    exact ⟨_, rfl, pot_push h trivial (by simp only [Stm.depth]; omega) (named_fl _) fun L T _ => ⟨L, by omega, fun y hy => hy, cov_fl _ _⟩⟩
  by_cases h5 : c % 10 = 5 ∧ 0 < ps.length
  · have hp : (0 : Int) < (ps.length : Int) := by omega
    have hr1 : 0 ≤ c / 10 % (ps.length : Int) := Int.emod_nonneg _ (by omega)
    have hr2 : c / 10 % (ps.length : Int) < ps.length := Int.emod_lt_of_pos _ hp
    generalize hj : c / 10 % (ps.length : Int) = j at *
    have hjl : j.toNat < ps.length := by omega
    have hat : atI (encs ps) ((j.toNat : Nat) : Int) = some (ps[j.toNat]).enc := atI_nat (by unfold encs; rw [List.getElem?_map, List.getElem?_eq_getElem hjl]; rfl)
    rw [Int.toNat_of_nonneg hr1] at hat
    have hb := push ps[j.toNat]
    simp [h5.1, h5.2, hp, hj, hat, hb]
    have hm := h.each _ (List.getElem_mem hjl)
    exact ⟨_, rfl, pot_push h hm.1 hm.2.1 hm.2.2 fun L T hc => ⟨L, by omega, fun y hy => hy, hc _ (List.getElem_mem hjl)⟩⟩
  by_cases h6 : c % 10 = 6 ∧ 0 < ps.length
  · obtain ⟨ys, v, e⟩ := back1 h6.2
    subst e
    have hb : addD (.list (encs ys)) (.list [(Stm.bin .th v .fl).enc]) = some (.list (encs (ys ++ [.bin .th v .fl]))) := by
      rw [addD_list (by rw [encs_len]; exact big_ge (by simp at hlen ⊢; omega)), encs_app]; rfl
    have hx1 : atI (encs (ys ++ [v])) (-1) = some v.enc := by rw [encs_app]; exact at_back _ _
    have hx2 : cutP (encs (ys ++ [v])) none (some (-1)) = encs ys := by rw [encs_app]; exact cut_back _ _
    simp only [Stm.enc, W3.word] at hb
    have hp : (0 : Int) < ((ys ++ [v]).length : Int) := by omega
    simp at hp
    simp [h6.1, hp, hx1, hx2, hb]
    exact ⟨_, rfl, pot_no h⟩
  by_cases h7 : 6 < c % 10 ∧ 1 < ps.length
  · obtain ⟨ys, u, v, e⟩ := back2 h7.2
    subst e
    have hx1 : atI (encs (ys ++ [u, v])) (-1) = some v.enc := by
      have : ys ++ [u, v] = (ys ++ [u]) ++ [v] := by simp
      rw [this, encs_app]; exact at_back _ _
    have hx2 : atI (encs (ys ++ [u, v])) (-2) = some u.enc := by rw [encs_app]; exact at_back2 _ _ _
    have hx3 : cutP (encs (ys ++ [u, v])) none (some (-2)) = encs ys := by rw [encs_app]; exact cut_back2 _ _ _
    have fin : ∀ (o : W3) (t : Stm), t = .bin o u v ∨ t = .bin o v u → ∃ qs, addD (.list (encs ys)) (.list [t.enc]) = some (.list (encs qs)) ∧ Pot s qs (n + 1) := fun o t h1 => by
      refine ⟨ys ++ [t], ?_, (pot_bin h h1).up⟩
      rw [addD_list (by rw [encs_len]; exact big_ge (by simp at hlen ⊢; omega)), encs_app]; rfl
    have hp : (1 : Int) < ((ys ++ [u, v]).length : Int) := by omega
    simp at hp
    have n4 : ¬ (c % 10 = 4) := h4
    have n5 : ¬ (c % 10 = 5) := by omega
    have n6 : ¬ (c % 10 = 6) := by omega
    obtain ⟨o, hj | hj⟩ := joined (c / 10) u v
    · obtain ⟨qs, h1, h2⟩ := fin o (.bin o u v) (.inl rfl)
      simp [n4, n5, n6, h7.1, hp, hx1, hx2, hx3, hj, h1]
      exact ⟨_, rfl, h2⟩
    · obtain ⟨qs, h1, h2⟩ := fin o (.bin o v u) (.inr rfl)
      simp [n4, n5, n6, h7.1, hp, hx1, hx2, hx3, hj, h1]
      exact ⟨_, rfl, h2⟩
  · have e5 : c % 10 = 5 → ps.length = 0 := fun a => by
      have := mt (fun b => h5 ⟨a, b⟩)
      omega
    have e6 : c % 10 = 6 → ps.length = 0 := fun a => by
      have := mt (fun b => h6 ⟨a, b⟩)
      omega
    have e7 : 6 < c % 10 → ps.length ≤ 1 := fun a => by
      have := mt (fun b => h7 ⟨a, b⟩)
      omega
    by_cases a5 : c % 10 = 5
    · have l := e5 a5
      simp [a5, l, hw, hq1]
      exact ⟨_, rfl, hq1p⟩
    by_cases a6 : c % 10 = 6
    · have l := e6 a6
      simp [a6, l, hw, hq1]
      exact ⟨_, rfl, hq1p⟩
    by_cases a7 : 6 < c % 10
    · have l := e7 a7
      have l2 : ¬ (1 : Int) < (ps.length : Int) := by omega
      simp [h4, a5, a6, a7, l2, hw, hq1]
      exact ⟨_, rfl, hq1p⟩
    · simp [h4, a5, a6, a7, hw, hq1]
      exact ⟨_, rfl, hq1p⟩
theorem ints_get (ns : List Int) (j : Nat) (d : PyData) (h : (ns.map PyData.int)[j]? = some d) : ∃ c, d = .int c := by
  rw [List.getElem?_map] at h
  cases e : ns[j]? with
  | none => rw [e] at h; cases h
  | some c => rw [e] at h; cases h; exact ⟨c, rfl⟩
theorem shaped_list0 (xs : List PyData) (h : SeqAt.shaped (.list xs) = true) : eqD (.list xs) (.list []) = some (.bool xs.isEmpty) := by
  have e : SeqAt.shaped (.list []) = true := by decide
  have e2 : eqD (.list xs) (.list []) = if SeqAt.shaped (.list xs) && SeqAt.shaped (.list []) then some (.bool (PyData.eqv (.list xs) (.list []))) else none := rfl
  rw [e2, h, e]
  cases xs <;> rfl
theorem stm_lay : ∀ s : Stm, s.Ok → s.enc.canLay0 = true
  | .nm w, h => by
    have q := name_shaped h
    simp only [Stm.enc, PyData.canLay0, PyData.canLayAll0, Bool.and_true, Bool.and_eq_true]
    exact ⟨by decide +kernel, q⟩
  | .fl, _ => by decide +kernel
  | .bin o a b, h => by
    have q1 := stm_lay a h.1
    have q2 := stm_lay b h.2
    simp only [Stm.enc, PyData.canLay0, PyData.canLayAll0, Bool.and_true, Bool.and_eq_true]
    exact ⟨by cases o <;> decide +kernel, q1, q2⟩
theorem stm_depth : ∀ s : Stm, s.enc.depth = s.depth
  | .nm w => by simp [Stm.enc, PyData.depth, PyData.depthAll, Stm.depth]
  | .fl => by simp [Stm.enc, PyData.depth, PyData.depthAll, Stm.depth]
  | .bin o a b => by
    simp only [Stm.enc, PyData.depth, PyData.depthAll, Stm.depth, stm_depth a, stm_depth b]
    omega
theorem stm_shaped {s : Stm} (h : s.Ok) (hd : s.depth ≤ 64) : SeqAt.shaped s.enc = true := by
  unfold SeqAt.shaped
  rw [stm_lay s h, stm_depth]
  simpa using hd
theorem encs_shaped : ∀ {ps : List Stm}, (∀ s ∈ ps, s.Ok ∧ s.depth ≤ 63) → SeqAt.shaped (.list (encs ps)) = true := by
  intro ps h
  have h1 : PyData.canLayAll0 (encs ps) = true ∧ PyData.depthAll (encs ps) ≤ 63 := by
    induction ps with
    | nil => exact ⟨rfl, Nat.zero_le _⟩
    | cons s ps ih =>
      have q := ih fun t ht => h t (List.mem_cons_of_mem _ ht)
      have q2 := h s List.mem_cons_self
      show PyData.canLayAll0 (s.enc :: encs ps) = true ∧ PyData.depthAll (s.enc :: encs ps) ≤ 63
      simp only [PyData.canLayAll0, PyData.depthAll, Bool.and_eq_true, stm_depth]
      exact ⟨⟨stm_lay s q2.1, q.1⟩, by omega⟩
  unfold SeqAt.shaped
  have h2 : PyData.depth (.list (encs ps)) ≤ 64 := by
    simp only [PyData.depth]
    omega
  simp only [PyData.canLay0, h1.1, Bool.true_and]
  exact decide_eq_true h2
theorem statement_by (cs : List Int) (s : Int) (hc : cs.length ≤ 6) : ∃ x : Stm, sem_law_statement_by [.list (cs.map PyData.int), .int s] = .ok x.enc ∧ Fit x := by
  simp only [sem_law_statement_by, bodyD, F_law_statement_by, startD]
  simp [sFor_ap, sWh_ap]
  obtain ⟨ρ1, h1, h2⟩ := forGo_inv (k := gN 3) (F := sSet 2 (eCall sem_law_step (aCons (eVar 2) (aCons (eVar 3) (aCons (eVar 1) aNil)))))
    (fun i ρ => ∃ ps x, ρ = [some (.list (cs.map PyData.int)), some (.int s), some (.list (encs ps)), x] ∧ Pot s ps i) (xs := cs.map PyData.int) (i := 0)
    (ρ := [some (.list (cs.map PyData.int)), some (.int s), some (.list []), none]) ⟨[], none, rfl, Nat.le_refl _, fun s h => (nomatch h), [], [], Nat.le_refl _, Nat.le_refl _, fun x h => (nomatch h)⟩ (by
      intro j d ρ hd ⟨ps, x, e, hp⟩
      subst e
      obtain ⟨c, rfl⟩ := ints_get cs j d hd
      have hj : j < cs.length := by simpa using (List.getElem?_eq_some_iff.mp hd).1
      obtain ⟨qs, q1, q2⟩ := step ps (0 + j) c s hp (by omega)
      exact ⟨_, [some (.list (cs.map PyData.int)), some (.int s), some (.list (encs qs)), some (.int c)], rfl, .inl (by simp [q1]), qs, _, rfl, q2⟩)
  rw [h1]
  obtain ⟨ps, x, e, hp⟩ := h2
  subst e
  simp only [List.length_map, Nat.zero_add] at hp
  have hb := hp.len
  obtain ⟨ρ2, h3, h4⟩ := whGo_inv (t := asT (eOp gtD (eArgs lenD (aCons (eVar 2) aNil)) (eC (PyData.int 1))))
    (F := sSet 2 (eOp addD (eCut (eVar 2) oNone (oSome (eUn negD (eC (PyData.int 2))))) (eLst (aCons (eTup (aCons (eC (PyData.str "then")) (aCons (eOp ixD (eVar 2) (eUn negD (eC (PyData.int 2)))) (aCons (eOp ixD (eVar 2) (eUn negD (eC (PyData.int 1)))) aNil)))) aNil))))
    (fun m ρ => ∃ ps, ρ = [some (.list (cs.map PyData.int)), some (.int s), some (.list (encs ps)), x] ∧ Pot s ps cs.length ∧ ps.length = m)
    (fun ρ => ∃ ps, ρ = [some (.list (cs.map PyData.int)), some (.int s), some (.list (encs ps)), x] ∧ Pot s ps cs.length ∧ ps.length ≤ 1) (by
      rintro m ρ ⟨ps, rfl, hp, hm⟩
      have hlen := hp.len
      refine ⟨decide ((1 : Int) < (ps.length : Int)), by simp, fun e => ?_, fun e => ?_⟩
      · have e' := of_decide_eq_false e
        exact ⟨ps, rfl, hp, by omega⟩
      · have e' := of_decide_eq_true e
        obtain ⟨ys, u, v, hy⟩ := back2 (xs := ps) (by omega)
        subst hy
        have hx1 : atI (encs (ys ++ [u, v])) (-1) = some v.enc := by
          have : ys ++ [u, v] = (ys ++ [u]) ++ [v] := by simp
          rw [this, encs_app]; exact at_back _ _
        have hx2 : atI (encs (ys ++ [u, v])) (-2) = some u.enc := by rw [encs_app]; exact at_back2 _ _ _
        have hx3 : cutP (encs (ys ++ [u, v])) none (some (-2)) = encs ys := by rw [encs_app]; exact cut_back2 _ _ _
        have hb : addD (.list (encs ys)) (.list [(Stm.bin .th u v).enc]) = some (.list (encs (ys ++ [.bin .th u v]))) := by
          rw [addD_list (by rw [encs_len]; exact big_ge (by simp at hlen ⊢; omega)), encs_app]; rfl
        simp only [Stm.enc, W3.word] at hb
        refine ⟨m - 1, [some (.list (cs.map PyData.int)), some (.int s), some (.list (encs (ys ++ [.bin .th u v]))), x], by simp at hm; omega, .inl (by simp [hx1, hx2, hx3, hb]), _, rfl, pot_bin hp (.inl rfl), by simp at hm ⊢; omega⟩) 64 ps.length _ (by omega) ⟨ps, rfl, hp, rfl⟩
  simp [h3]
  obtain ⟨qs, rfl, hq, hq1⟩ := h4
  have hsh : SeqAt.shaped (.list (encs qs)) = true := encs_shaped fun t ht => ⟨(hq.each t ht).1, by have := (hq.each t ht).2; omega⟩
  have he := shaped_list0 _ hsh
  match qs, hq, hq1, he with
  | [], hq, _, he =>
    have hw := name_at s 0
    have he' : eqD (.list (encs [])) (.list []) = some (.bool true) := he
    simp [he', hw]
    exact ⟨.nm (nmOf s 0), rfl, nmOf_ok s 0, by show 1 ≤ 6; decide, ⟨[.nm (nmOf s 0)], [], by show 1 ≤ 13; decide, by show 0 ≤ 7; decide, cov_nm List.mem_cons_self⟩, [nmOf s 0], by show 1 ≤ 4; decide, named_nm.mpr List.mem_cons_self⟩
  | [t], hq, _, he =>
    have he' : eqD (.list (encs [t])) (.list []) = some (.bool false) := he
    have hx : atI (encs [t]) 0 = some t.enc := rfl
    simp [he', hx]
    have h1 := hq.each t (by simp)
    obtain ⟨L, T, h2, h3, h4⟩ := hq.cov
    simp only [List.length_singleton] at h1 h2 h3
    exact ⟨t, rfl, h1.1, by omega, ⟨L, T, by omega, by omega, h4 t (by simp)⟩, four s, Nat.le_refl 4, h1.2.2⟩
end My

set_option Elab.async false
set_option linter.all false
set_option maxRecDepth 100000
set_option maxHeartbeats 4000000
/-! the known statements -/
namespace My
open PySem L2 DL PyProof.Rows
abbrev th (a b : Stm) : Stm := .bin .th a b
abbrev an (a b : Stm) : Stm := .bin .an a b
abbrev oR (a b : Stm) : Stm := .bin .orr a b
def knowns (a b c : Stm) : List Stm :=
  [oR a (th a .fl), th (th (oR a (th a .fl)) .fl) .fl, th (th (th a .fl) .fl) a, th (th (th a b) a) a, oR (th a b) (th b a), th (an a b) (oR c b), th (oR a b) (oR b a), th (th a (th b c)) (th (an a b) c), th (th (oR a b) c) (an (th a c) (th b c)),
   th (th (an a b) .fl) (oR (th a .fl) (th b .fl)), th (th (th (th a .fl) .fl) .fl) (th a .fl), th (oR a (an b c)) (an (oR a b) (oR a c)), th (an (oR a b) (oR a c)) (oR a (an b c)), th (oR (th a .fl) b) (th a b), th (th a b) (oR (th a .fl) b),
   th (th (th a .fl) (oR b c)) (oR (th (th a .fl) b) (th (th a .fl) c)), th .fl a, a, an (th a a) b, th (th a b) (th (th b c) (th a c))]
theorem knowns_sub (f : Str → Str) (u v w : Str) : knowns (.nm (f u)) (.nm (f v)) (.nm (f w)) = (knowns (.nm u) (.nm v) (.nm w)).map (Stm.sub f) := rfl
theorem known_few : ∀ x ∈ knowns (.nm "a") (.nm "b") (.nm "c"), fitB x = true := by decide +kernel
theorem known_ok {a b c : Str} (ha : NameOk a) (hb : NameOk b) (hc : NameOk c) : ∀ x ∈ knowns (.nm a) (.nm b) (.nm c), Fit x := by
  let f : Str → Str := fun z => if z = "a" then a else if z = "b" then b else c
  have fa : f "a" = a := if_pos rfl
  have fb : f "b" = b := (if_neg (by decide +kernel)).trans (if_pos rfl)
  have fc : f "c" = c := (if_neg (by decide +kernel)).trans (if_neg (by decide +kernel))
  have fo : ∀ z, NameOk (f z) := fun z => by
    show NameOk (if z = "a" then a else if z = "b" then b else c)
    split
    · exact ha
    · split
      · exact hb
      · exact hc
  have e := knowns_sub f "a" "b" "c"
  rw [fa, fb, fc] at e
  rw [e]
  intro x hx
  obtain ⟨y, hy, rfl⟩ := List.mem_map.mp hx
  exact fit_sub fo (known_few y hy)
theorem seq_nx {F G : SS} {ρ ρ' : PEnv} (h : F ρ = .ok (.nx ρ')) : sSeq F G ρ = G ρ' := by
  unfold sSeq
  rw [h]
  rfl
theorem known_by (s c : Int) : ∃ x : Stm, sem_law_known_by [.int s, .int c] = .ok x.enc ∧ Fit x := by
  obtain ⟨u, hu, ou⟩ := name_by s (c / 20 % 3)
  obtain ⟨v, hv, ov⟩ := name_by s ((c / 20 + 1) % 3)
  obtain ⟨w, hw, ow⟩ := name_by s ((c / 20 + 2) % 3)
  have hk := known_ok ou ov ow
  have hr : 0 ≤ c % 20 ∧ c % 20 < 20 := by omega
  have hat : ∃ x ∈ knowns (.nm u) (.nm v) (.nm w), atI (encs (knowns (.nm u) (.nm v) (.nm w))) (c % 20) = some x.enc := by
    have hl : (c % 20).toNat < (knowns (.nm u) (.nm v) (.nm w)).length := by
      show (c % 20).toNat < 20
      omega
    have q : atI (encs (knowns (.nm u) (.nm v) (.nm w))) (((c % 20).toNat : Nat) : Int) = some ((knowns (.nm u) (.nm v) (.nm w))[(c % 20).toNat]).enc := atI_nat (by unfold encs; rw [List.getElem?_map, List.getElem?_eq_getElem hl]; rfl)
    rw [Int.toNat_of_nonneg hr.1] at q
    exact ⟨_, List.getElem_mem hl, q⟩
  obtain ⟨x, hx, hat⟩ := hat
  refine ⟨x, ?_, hk x hx⟩
  have hF : F_law_known_by (startD 10 [.int s, .int c]) = .ok (.rt x.enc) := by
    generalize ea : Stm.nm u = a
    generalize eb : Stm.nm v = b
    generalize ed : Stm.nm w = d
    rw [ea, eb, ed] at hat
    have hu' : sem_law_name_by [.int s, .int (c / 20 % 3)] = .ok (.str u) := hu
    let R : List PyData → Option PyData → PEnv := fun L n => [some (.int s), some (.int c), some Stm.fl.enc, some (oR a (th a .fl)).enc, some (.list L), n, some a.enc, some b.enc, some d.enc, none]
    have stp : ∀ {A : SA} {ds : List PyData} (L : List PyData) (n : Option PyData), A (R L n) = .ok ds → L.length + ds.length ≤ 100 → (sSet 4 (eOp addD (eVar 4) (eLst A))) (R L n) = .ok (.nx (R (L ++ ds) n)) := fun {A ds} L n h1 h2 => by
      have h3 : addD (.list L) (.list ds) = some (.list (L ++ ds)) := addD_list (big_ge (by omega))
      have h4 : eVar 4 (R L n) = .ok (.list L) := rfl
      have h5 : eLst A (R L n) = .ok (.list ds) := by rw [eLst_ap, h1]; show (if ds.length ≤ big then Res.ok (PyData.list ds) else Res.bad) = _; rw [if_pos (big_ge (by omega))]
      have h6 : eOp addD (eVar 4) (eLst A) (R L n) = .ok (.list (L ++ ds)) := by rw [eOp_ap, h4, h5]; simp [h3]
      rw [sSet_ap, h6]
      rfl
    have h0 : (sAsg (eLc 9 (sList (eLst (aCons (eOp modD (eOp divD (eVar 1) (eC (.int 20))) (eC (.int 3))) (aCons (eOp modD (eOp addD (eOp divD (eVar 1) (eC (.int 20))) (eC (.int 1))) (eC (.int 3))) (aCons (eOp modD (eOp addD (eOp divD (eVar 1) (eC (.int 20))) (eC (.int 2))) (eC (.int 3))) aNil))))) tTrue (eTup (aCons (eC (.str "name")) (aCons (eCall sem_law_name_by (aCons (eVar 0) (aCons (eVar 9) aNil))) aNil)))) (gTL 3 (gsCons (gN 6) (gsCons (gN 7) (gsCons (gN 8) gsNil))))) (startD 10 [.int s, .int c]) = .ok (.nx [some (.int s), some (.int c), none, none, none, none, some a.enc, some b.enc, some d.enc, none]) := by
      subst ea eb ed
      simp [startD, eLc_ap, lcGo, Res.calm, frz, frzs, hu, hv, hw, Stm.enc]
    unfold F_law_known_by
    refine (seq_nx h0).trans ?_
    refine (seq_nx (ρ' := [some (.int s), some (.int c), some Stm.fl.enc, none, none, none, some a.enc, some b.enc, some d.enc, none]) rfl).trans ?_
    refine (seq_nx (ρ' := [some (.int s), some (.int c), some Stm.fl.enc, some (oR a (th a .fl)).enc, none, none, some a.enc, some b.enc, some d.enc, none]) rfl).trans ?_
    refine (seq_nx (ρ' := R (encs [oR a (th a .fl), th (th (oR a (th a .fl)) .fl) .fl, th (th (th a .fl) .fl) a]) none) rfl).trans ?_
    refine (seq_nx (stp (ds := encs [th (th (th a b) a) a, oR (th a b) (th b a)]) _ _ rfl (Nat.le_of_ble_eq_true rfl))).trans ?_
    refine (seq_nx (stp (ds := encs [th (an a b) (oR d b), th (oR a b) (oR b a)]) _ _ rfl (Nat.le_of_ble_eq_true rfl))).trans ?_
    refine (seq_nx (stp (ds := encs [th (th a (th b d)) (th (an a b) d)]) _ _ rfl (Nat.le_of_ble_eq_true rfl))).trans ?_
    refine (seq_nx (stp (ds := encs [th (th (oR a b) d) (an (th a d) (th b d))]) _ _ rfl (Nat.le_of_ble_eq_true rfl))).trans ?_
    refine (seq_nx (stp (ds := encs [th (th (an a b) .fl) (oR (th a .fl) (th b .fl))]) _ _ rfl (Nat.le_of_ble_eq_true rfl))).trans ?_
    refine (seq_nx (stp (ds := encs [th (th (th (th a .fl) .fl) .fl) (th a .fl)]) _ _ rfl (Nat.le_of_ble_eq_true rfl))).trans ?_
    refine (seq_nx (stp (ds := encs [th (oR a (an b d)) (an (oR a b) (oR a d))]) _ _ rfl (Nat.le_of_ble_eq_true rfl))).trans ?_
    refine (seq_nx (stp (ds := encs [th (an (oR a b) (oR a d)) (oR a (an b d))]) _ _ rfl (Nat.le_of_ble_eq_true rfl))).trans ?_
    refine (seq_nx (stp (ds := encs [th (oR (th a .fl) b) (th a b)]) _ _ rfl (Nat.le_of_ble_eq_true rfl))).trans ?_
    refine (seq_nx (stp (ds := encs [th (th a b) (oR (th a .fl) b)]) _ _ rfl (Nat.le_of_ble_eq_true rfl))).trans ?_
    refine (seq_nx (ρ' := R _ (some (th a .fl).enc)) rfl).trans ?_
    refine (seq_nx (stp (ds := encs [th (th (th a .fl) (oR b d)) (oR (th (th a .fl) b) (th (th a .fl) d))]) _ _ rfl (Nat.le_of_ble_eq_true rfl))).trans ?_
    refine (seq_nx (stp (ds := encs [th .fl a, a, an (th a a) b]) _ _ rfl (Nat.le_of_ble_eq_true rfl))).trans ?_
    refine (seq_nx (stp (ds := encs [th (th a b) (th (th b d) (th a d))]) _ _ rfl (Nat.le_of_ble_eq_true rfl))).trans ?_
    rw [sRet_ap, eOp_ap]
    have h7 : ∀ L n, eVar 4 (R L n) = .ok (.list L) := fun L n => rfl
    have h8 : ∀ L n, eOp modD (eVar 1) (eC (.int 20)) (R L n) = .ok (.int (c % 20)) := fun L n => by simp [R]
    rw [h7, h8]
    have h9 : ixD (.list (encs (knowns a b d))) (.int (c % 20)) = some x.enc := by simp [hat]
    exact congrArg (fun o => ((Res.of o).bind fun d => Res.ok (Out.rt d))) h9
  simp only [sem_law_known_by, bodyD, hF]
  rfl
end My

set_option Elab.async false
set_option linter.all false
set_option maxRecDepth 100000
set_option maxHeartbeats 2000000
/-! statements of several names -/
namespace My
open PySem L2 DL PyProof.Rows
theorem at_0 {α : Type} (x : α) (xs : List α) : atI (x :: xs) 0 = some x := atI_nat (j := 0) rfl
theorem at_1 {α : Type} (x y : α) (xs : List α) : atI (x :: y :: xs) 1 = some y := atI_nat (j := 1) rfl
theorem at_2 {α : Type} (x y z : α) (xs : List α) : atI (x :: y :: z :: xs) 2 = some z := atI_nat (j := 2) rfl
theorem at_3 {α : Type} (x y z u : α) (xs : List α) : atI (x :: y :: z :: u :: xs) 3 = some u := atI_nat (j := 3) rfl
/-- a statement under other names, as data -/
def G (f : Str → Str) (y : Stm) (d : PyData) : Prop := d = (y.sub f).enc
theorem g_nm {f : Str → Str} {z u : Str} (h : f z = u) : G f (.nm z) (.tuple [.str "name", .str u]) := by subst h; rfl
theorem g_bin {f : Str → Str} (o : W3) {x y : Stm} {a b : PyData} (h : G f x a) (h2 : G f y b) : G f (.bin o x y) (.tuple [.str o.word, a, b]) := by
  subst h
  subst h2
  rfl
theorem g_an {f : Str → Str} {x y : Stm} {a b : PyData} (h : G f x a) (h2 : G f y b) : G f (.bin .an x y) (.tuple [.str "and", a, b]) := g_bin .an h h2
theorem g_or {f : Str → Str} {x y : Stm} {a b : PyData} (h : G f x a) (h2 : G f y b) : G f (.bin .orr x y) (.tuple [.str "or", a, b]) := g_bin .orr h h2
theorem g_th {f : Str → Str} {x y : Stm} {a b : PyData} (h : G f x a) (h2 : G f y b) : G f (.bin .th x y) (.tuple [.str "then", a, b]) := g_bin .th h h2
theorem g_fin {f : Str → Str} (hf : ∀ z, NameOk (f z)) {y : Stm} {d : PyData} (h : G f y d) (k : fitB y = true) : ∃ x : Stm, d = x.enc ∧ Fit x := ⟨_, h, fit_sub hf k⟩
/-- four names for four -/
def ren (u v w q : Str) : Str → Str := fun z => if z = "a" then u else if z = "b" then v else if z = "c" then w else q
theorem ren_ok {u v w q : Str} (hu : NameOk u) (hv : NameOk v) (hw : NameOk w) (hq : NameOk q) (z : Str) : NameOk (ren u v w q z) := by
  unfold ren
  split
  · exact hu
  · split
    · exact hv
    · split
      · exact hw
      · exact hq
theorem ren_a (u v w q : Str) : ren u v w q "a" = u := if_pos rfl
theorem ren_b (u v w q : Str) : ren u v w q "b" = v := (if_neg (by decide +kernel)).trans (if_pos rfl)
theorem ren_c (u v w q : Str) : ren u v w q "c" = w := (if_neg (by decide +kernel)).trans ((if_neg (by decide +kernel)).trans (if_pos rfl))
theorem ren_d (u v w q : Str) : ren u v w q "d" = q := (if_neg (by decide +kernel)).trans ((if_neg (by decide +kernel)).trans (if_neg (by decide +kernel)))
theorem wide_2_0 (s c : Int) (hm : c / 6 % 3 = 0) (h : c % 6 = 0) : ∃ x : Stm, sem_law_wide [.int s, .int c, .int 4] = .ok x.enc ∧ Fit x := by
  obtain ⟨u, hu, ou⟩ := name_by (s % 1664) 0
  obtain ⟨v, hv, ov⟩ := name_by (s % 1664) 1
  obtain ⟨w, hw, ow⟩ := name_by (s % 1664) 2
  obtain ⟨q, hq, oq⟩ := name_by (s % 1664) 3
  have up2 : upTo 0 2 = [.int 0, .int 1] := rfl
  have up3 : upTo 0 3 = [.int 0, .int 1, .int 2] := rfl
  have up4 : upTo 0 4 = [.int 0, .int 1, .int 2, .int 3] := rfl
  have up11 : upTo 1 1 = [.int 1] := rfl
  have up12 : upTo 1 2 = [.int 1, .int 2] := rfl
  have up13 : upTo 1 3 = [.int 1, .int 2, .int 3] := rfl
  have up01 : upTo 0 1 = [.int 0] := rfl
  have mn2 : min2D [.int 2, .int 5] = some (.int 2) := rfl
  have mn3 : min2D [.int 3, .int 5] = some (.int 3) := rfl
  have mn4 : min2D [.int 4, .int 5] = some (.int 4) := rfl
  have ct1 : ∀ x : PyData, cutP [x] (some 1) none = [] := fun x => rfl
  have ct2 : ∀ x y : PyData, cutP [x, y] (some 1) none = [y] := fun x y => rfl
  have ct3 : ∀ x y z : PyData, cutP [x, y, z] (some 1) none = [y, z] := fun x y z => rfl
  have ix10 : ixN 1 0 = some 0 := rfl
  have ix20 : ixN 2 0 = some 0 := rfl
  have ix21 : ixN 2 1 = some 1 := rfl
  have ix30 : ixN 3 0 = some 0 := rfl
  have ix31 : ixN 3 1 = some 1 := rfl
  have ix32 : ixN 3 2 = some 2 := rfl
  have hat : c / 42 % 2 = 0 ∨ c / 42 % 2 = 1 := by omega
  have hpa : c / 294 % 2 = 0 ∨ c / 294 % 2 = 1 := by omega
  rcases hat with ha | ha <;> rcases hpa with hp | hp <;>
    (simp [sem_law_wide, bodyD, F_law_wide, startD, eLc_ap, lcGo, forGo, sFor_ap, Res.calm, frz, frzs, hm, h, ha, hp, hu, hv, hw, hq, up2, up3, up4, up11, up12, up13, up01, at_0, at_1, at_2, at_3, big, mn2, mn3, mn4, ct1, ct2, ct3, ix10, ix20, ix21, ix30, ix31, ix32]
     apply g_fin (ren_ok ou ov ow oq)
     · repeat' (first | exact g_nm (ren_a u v w q) | exact g_nm (ren_b u v w q) | exact g_nm (ren_c u v w q) | exact g_nm (ren_d u v w q) | apply g_an | apply g_or | apply g_th)
     · decide +kernel)
theorem wide_2_1 (s c : Int) (hm : c / 6 % 3 = 0) (h : c % 6 = 1) : ∃ x : Stm, sem_law_wide [.int s, .int c, .int 4] = .ok x.enc ∧ Fit x := by
  obtain ⟨u, hu, ou⟩ := name_by (s % 1664) 0
  obtain ⟨v, hv, ov⟩ := name_by (s % 1664) 1
  obtain ⟨w, hw, ow⟩ := name_by (s % 1664) 2
  obtain ⟨q, hq, oq⟩ := name_by (s % 1664) 3
  have up2 : upTo 0 2 = [.int 0, .int 1] := rfl
  have up3 : upTo 0 3 = [.int 0, .int 1, .int 2] := rfl
  have up4 : upTo 0 4 = [.int 0, .int 1, .int 2, .int 3] := rfl
  have up11 : upTo 1 1 = [.int 1] := rfl
  have up12 : upTo 1 2 = [.int 1, .int 2] := rfl
  have up13 : upTo 1 3 = [.int 1, .int 2, .int 3] := rfl
  have up01 : upTo 0 1 = [.int 0] := rfl
  have mn2 : min2D [.int 2, .int 5] = some (.int 2) := rfl
  have mn3 : min2D [.int 3, .int 5] = some (.int 3) := rfl
  have mn4 : min2D [.int 4, .int 5] = some (.int 4) := rfl
  have ct1 : ∀ x : PyData, cutP [x] (some 1) none = [] := fun x => rfl
  have ct2 : ∀ x y : PyData, cutP [x, y] (some 1) none = [y] := fun x y => rfl
  have ct3 : ∀ x y z : PyData, cutP [x, y, z] (some 1) none = [y, z] := fun x y z => rfl
  have ix10 : ixN 1 0 = some 0 := rfl
  have ix20 : ixN 2 0 = some 0 := rfl
  have ix21 : ixN 2 1 = some 1 := rfl
  have ix30 : ixN 3 0 = some 0 := rfl
  have ix31 : ixN 3 1 = some 1 := rfl
  have ix32 : ixN 3 2 = some 2 := rfl
  have hat : c / 42 % 2 = 0 ∨ c / 42 % 2 = 1 := by omega
  have hpa : c / 294 % 2 = 0 ∨ c / 294 % 2 = 1 := by omega
  rcases hat with ha | ha <;> rcases hpa with hp | hp <;>
    (simp [sem_law_wide, bodyD, F_law_wide, startD, eLc_ap, lcGo, forGo, sFor_ap, Res.calm, frz, frzs, hm, h, ha, hp, hu, hv, hw, hq, up2, up3, up4, up11, up12, up13, up01, at_0, at_1, at_2, at_3, big, mn2, mn3, mn4, ct1, ct2, ct3, ix10, ix20, ix21, ix30, ix31, ix32]
     apply g_fin (ren_ok ou ov ow oq)
     · repeat' (first | exact g_nm (ren_a u v w q) | exact g_nm (ren_b u v w q) | exact g_nm (ren_c u v w q) | exact g_nm (ren_d u v w q) | apply g_an | apply g_or | apply g_th)
     · decide +kernel)
theorem wide_2_2 (s c : Int) (hm : c / 6 % 3 = 0) (h : c % 6 = 2) : ∃ x : Stm, sem_law_wide [.int s, .int c, .int 4] = .ok x.enc ∧ Fit x := by
  obtain ⟨u, hu, ou⟩ := name_by (s % 1664) 0
  obtain ⟨v, hv, ov⟩ := name_by (s % 1664) 1
  obtain ⟨w, hw, ow⟩ := name_by (s % 1664) 2
  obtain ⟨q, hq, oq⟩ := name_by (s % 1664) 3
  have up2 : upTo 0 2 = [.int 0, .int 1] := rfl
  have up3 : upTo 0 3 = [.int 0, .int 1, .int 2] := rfl
  have up4 : upTo 0 4 = [.int 0, .int 1, .int 2, .int 3] := rfl
  have up11 : upTo 1 1 = [.int 1] := rfl
  have up12 : upTo 1 2 = [.int 1, .int 2] := rfl
  have up13 : upTo 1 3 = [.int 1, .int 2, .int 3] := rfl
  have up01 : upTo 0 1 = [.int 0] := rfl
  have mn2 : min2D [.int 2, .int 5] = some (.int 2) := rfl
  have mn3 : min2D [.int 3, .int 5] = some (.int 3) := rfl
  have mn4 : min2D [.int 4, .int 5] = some (.int 4) := rfl
  have ct1 : ∀ x : PyData, cutP [x] (some 1) none = [] := fun x => rfl
  have ct2 : ∀ x y : PyData, cutP [x, y] (some 1) none = [y] := fun x y => rfl
  have ct3 : ∀ x y z : PyData, cutP [x, y, z] (some 1) none = [y, z] := fun x y z => rfl
  have ix10 : ixN 1 0 = some 0 := rfl
  have ix20 : ixN 2 0 = some 0 := rfl
  have ix21 : ixN 2 1 = some 1 := rfl
  have ix30 : ixN 3 0 = some 0 := rfl
  have ix31 : ixN 3 1 = some 1 := rfl
  have ix32 : ixN 3 2 = some 2 := rfl
  have hat : c / 42 % 2 = 0 ∨ c / 42 % 2 = 1 := by omega
  have hpa : c / 294 % 2 = 0 ∨ c / 294 % 2 = 1 := by omega
  rcases hat with ha | ha <;> rcases hpa with hp | hp <;>
    (simp [sem_law_wide, bodyD, F_law_wide, startD, eLc_ap, lcGo, forGo, sFor_ap, Res.calm, frz, frzs, hm, h, ha, hp, hu, hv, hw, hq, up2, up3, up4, up11, up12, up13, up01, at_0, at_1, at_2, at_3, big, mn2, mn3, mn4, ct1, ct2, ct3, ix10, ix20, ix21, ix30, ix31, ix32]
     apply g_fin (ren_ok ou ov ow oq)
     · repeat' (first | exact g_nm (ren_a u v w q) | exact g_nm (ren_b u v w q) | exact g_nm (ren_c u v w q) | exact g_nm (ren_d u v w q) | apply g_an | apply g_or | apply g_th)
     · decide +kernel)
theorem wide_2_3 (s c : Int) (hm : c / 6 % 3 = 0) (h : c % 6 = 3) : ∃ x : Stm, sem_law_wide [.int s, .int c, .int 4] = .ok x.enc ∧ Fit x := by
  obtain ⟨u, hu, ou⟩ := name_by (s % 1664) 0
  obtain ⟨v, hv, ov⟩ := name_by (s % 1664) 1
  obtain ⟨w, hw, ow⟩ := name_by (s % 1664) 2
  obtain ⟨q, hq, oq⟩ := name_by (s % 1664) 3
  have up2 : upTo 0 2 = [.int 0, .int 1] := rfl
  have up3 : upTo 0 3 = [.int 0, .int 1, .int 2] := rfl
  have up4 : upTo 0 4 = [.int 0, .int 1, .int 2, .int 3] := rfl
  have up11 : upTo 1 1 = [.int 1] := rfl
  have up12 : upTo 1 2 = [.int 1, .int 2] := rfl
  have up13 : upTo 1 3 = [.int 1, .int 2, .int 3] := rfl
  have up01 : upTo 0 1 = [.int 0] := rfl
  have mn2 : min2D [.int 2, .int 5] = some (.int 2) := rfl
  have mn3 : min2D [.int 3, .int 5] = some (.int 3) := rfl
  have mn4 : min2D [.int 4, .int 5] = some (.int 4) := rfl
  have ct1 : ∀ x : PyData, cutP [x] (some 1) none = [] := fun x => rfl
  have ct2 : ∀ x y : PyData, cutP [x, y] (some 1) none = [y] := fun x y => rfl
  have ct3 : ∀ x y z : PyData, cutP [x, y, z] (some 1) none = [y, z] := fun x y z => rfl
  have ix10 : ixN 1 0 = some 0 := rfl
  have ix20 : ixN 2 0 = some 0 := rfl
  have ix21 : ixN 2 1 = some 1 := rfl
  have ix30 : ixN 3 0 = some 0 := rfl
  have ix31 : ixN 3 1 = some 1 := rfl
  have ix32 : ixN 3 2 = some 2 := rfl
  have hat : c / 42 % 2 = 0 ∨ c / 42 % 2 = 1 := by omega
  have hpa : c / 294 % 2 = 0 ∨ c / 294 % 2 = 1 := by omega
  rcases hat with ha | ha <;> rcases hpa with hp | hp <;>
    (simp [sem_law_wide, bodyD, F_law_wide, startD, eLc_ap, lcGo, forGo, sFor_ap, Res.calm, frz, frzs, hm, h, ha, hp, hu, hv, hw, hq, up2, up3, up4, up11, up12, up13, up01, at_0, at_1, at_2, at_3, big, mn2, mn3, mn4, ct1, ct2, ct3, ix10, ix20, ix21, ix30, ix31, ix32]
     apply g_fin (ren_ok ou ov ow oq)
     · repeat' (first | exact g_nm (ren_a u v w q) | exact g_nm (ren_b u v w q) | exact g_nm (ren_c u v w q) | exact g_nm (ren_d u v w q) | apply g_an | apply g_or | apply g_th)
     · decide +kernel)
theorem wide_2_4 (s c : Int) (hm : c / 6 % 3 = 0) (h : c % 6 = 4) : ∃ x : Stm, sem_law_wide [.int s, .int c, .int 4] = .ok x.enc ∧ Fit x := by
  obtain ⟨u, hu, ou⟩ := name_by (s % 1664) 0
  obtain ⟨v, hv, ov⟩ := name_by (s % 1664) 1
  obtain ⟨w, hw, ow⟩ := name_by (s % 1664) 2
  obtain ⟨q, hq, oq⟩ := name_by (s % 1664) 3
  have up2 : upTo 0 2 = [.int 0, .int 1] := rfl
  have up3 : upTo 0 3 = [.int 0, .int 1, .int 2] := rfl
  have up4 : upTo 0 4 = [.int 0, .int 1, .int 2, .int 3] := rfl
  have up11 : upTo 1 1 = [.int 1] := rfl
  have up12 : upTo 1 2 = [.int 1, .int 2] := rfl
  have up13 : upTo 1 3 = [.int 1, .int 2, .int 3] := rfl
  have up01 : upTo 0 1 = [.int 0] := rfl
  have mn2 : min2D [.int 2, .int 5] = some (.int 2) := rfl
  have mn3 : min2D [.int 3, .int 5] = some (.int 3) := rfl
  have mn4 : min2D [.int 4, .int 5] = some (.int 4) := rfl
  have ct1 : ∀ x : PyData, cutP [x] (some 1) none = [] := fun x => rfl
  have ct2 : ∀ x y : PyData, cutP [x, y] (some 1) none = [y] := fun x y => rfl
  have ct3 : ∀ x y z : PyData, cutP [x, y, z] (some 1) none = [y, z] := fun x y z => rfl
  have ix10 : ixN 1 0 = some 0 := rfl
  have ix20 : ixN 2 0 = some 0 := rfl
  have ix21 : ixN 2 1 = some 1 := rfl
  have ix30 : ixN 3 0 = some 0 := rfl
  have ix31 : ixN 3 1 = some 1 := rfl
  have ix32 : ixN 3 2 = some 2 := rfl
  have hat : c / 42 % 2 = 0 ∨ c / 42 % 2 = 1 := by omega
  have hpa : c / 294 % 2 = 0 ∨ c / 294 % 2 = 1 := by omega
  rcases hat with ha | ha <;> rcases hpa with hp | hp <;>
    (simp [sem_law_wide, bodyD, F_law_wide, startD, eLc_ap, lcGo, forGo, sFor_ap, Res.calm, frz, frzs, hm, h, ha, hp, hu, hv, hw, hq, up2, up3, up4, up11, up12, up13, up01, at_0, at_1, at_2, at_3, big, mn2, mn3, mn4, ct1, ct2, ct3, ix10, ix20, ix21, ix30, ix31, ix32]
     apply g_fin (ren_ok ou ov ow oq)
     · repeat' (first | exact g_nm (ren_a u v w q) | exact g_nm (ren_b u v w q) | exact g_nm (ren_c u v w q) | exact g_nm (ren_d u v w q) | apply g_an | apply g_or | apply g_th)
     · decide +kernel)
theorem wide_2_5 (s c : Int) (hm : c / 6 % 3 = 0) (h : c % 6 = 5) : ∃ x : Stm, sem_law_wide [.int s, .int c, .int 4] = .ok x.enc ∧ Fit x := by
  obtain ⟨u, hu, ou⟩ := name_by (s % 1664) 0
  obtain ⟨v, hv, ov⟩ := name_by (s % 1664) 1
  obtain ⟨w, hw, ow⟩ := name_by (s % 1664) 2
  obtain ⟨q, hq, oq⟩ := name_by (s % 1664) 3
  have up2 : upTo 0 2 = [.int 0, .int 1] := rfl
  have up3 : upTo 0 3 = [.int 0, .int 1, .int 2] := rfl
  have up4 : upTo 0 4 = [.int 0, .int 1, .int 2, .int 3] := rfl
  have up11 : upTo 1 1 = [.int 1] := rfl
  have up12 : upTo 1 2 = [.int 1, .int 2] := rfl
  have up13 : upTo 1 3 = [.int 1, .int 2, .int 3] := rfl
  have up01 : upTo 0 1 = [.int 0] := rfl
  have mn2 : min2D [.int 2, .int 5] = some (.int 2) := rfl
  have mn3 : min2D [.int 3, .int 5] = some (.int 3) := rfl
  have mn4 : min2D [.int 4, .int 5] = some (.int 4) := rfl
  have ct1 : ∀ x : PyData, cutP [x] (some 1) none = [] := fun x => rfl
  have ct2 : ∀ x y : PyData, cutP [x, y] (some 1) none = [y] := fun x y => rfl
  have ct3 : ∀ x y z : PyData, cutP [x, y, z] (some 1) none = [y, z] := fun x y z => rfl
  have ix10 : ixN 1 0 = some 0 := rfl
  have ix20 : ixN 2 0 = some 0 := rfl
  have ix21 : ixN 2 1 = some 1 := rfl
  have ix30 : ixN 3 0 = some 0 := rfl
  have ix31 : ixN 3 1 = some 1 := rfl
  have ix32 : ixN 3 2 = some 2 := rfl
  have hat : c / 42 % 2 = 0 ∨ c / 42 % 2 = 1 := by omega
  have hpa : c / 294 % 2 = 0 ∨ c / 294 % 2 = 1 := by omega
  rcases hat with ha | ha <;> rcases hpa with hp | hp <;>
    (simp [sem_law_wide, bodyD, F_law_wide, startD, eLc_ap, lcGo, forGo, sFor_ap, Res.calm, frz, frzs, hm, h, ha, hp, hu, hv, hw, hq, up2, up3, up4, up11, up12, up13, up01, at_0, at_1, at_2, at_3, big, mn2, mn3, mn4, ct1, ct2, ct3, ix10, ix20, ix21, ix30, ix31, ix32]
     apply g_fin (ren_ok ou ov ow oq)
     · repeat' (first | exact g_nm (ren_a u v w q) | exact g_nm (ren_b u v w q) | exact g_nm (ren_c u v w q) | exact g_nm (ren_d u v w q) | apply g_an | apply g_or | apply g_th)
     · decide +kernel)
end My

set_option Elab.async false
set_option linter.all false
set_option maxRecDepth 100000
set_option maxHeartbeats 2000000
namespace My
open PySem L2 DL PyProof.Rows
theorem wide_3_0 (s c : Int) (hm : c / 6 % 3 = 1) (h : c % 6 = 0) : ∃ x : Stm, sem_law_wide [.int s, .int c, .int 4] = .ok x.enc ∧ Fit x := by
  obtain ⟨u, hu, ou⟩ := name_by (s % 1664) 0
  obtain ⟨v, hv, ov⟩ := name_by (s % 1664) 1
  obtain ⟨w, hw, ow⟩ := name_by (s % 1664) 2
  obtain ⟨q, hq, oq⟩ := name_by (s % 1664) 3
  have up2 : upTo 0 2 = [.int 0, .int 1] := rfl
  have up3 : upTo 0 3 = [.int 0, .int 1, .int 2] := rfl
  have up4 : upTo 0 4 = [.int 0, .int 1, .int 2, .int 3] := rfl
  have up11 : upTo 1 1 = [.int 1] := rfl
  have up12 : upTo 1 2 = [.int 1, .int 2] := rfl
  have up13 : upTo 1 3 = [.int 1, .int 2, .int 3] := rfl
  have up01 : upTo 0 1 = [.int 0] := rfl
  have mn2 : min2D [.int 2, .int 5] = some (.int 2) := rfl
  have mn3 : min2D [.int 3, .int 5] = some (.int 3) := rfl
  have mn4 : min2D [.int 4, .int 5] = some (.int 4) := rfl
  have ct1 : ∀ x : PyData, cutP [x] (some 1) none = [] := fun x => rfl
  have ct2 : ∀ x y : PyData, cutP [x, y] (some 1) none = [y] := fun x y => rfl
  have ct3 : ∀ x y z : PyData, cutP [x, y, z] (some 1) none = [y, z] := fun x y z => rfl
  have ix10 : ixN 1 0 = some 0 := rfl
  have ix20 : ixN 2 0 = some 0 := rfl
  have ix21 : ixN 2 1 = some 1 := rfl
  have ix30 : ixN 3 0 = some 0 := rfl
  have ix31 : ixN 3 1 = some 1 := rfl
  have ix32 : ixN 3 2 = some 2 := rfl
  have hat : c / 42 % 3 = 0 ∨ c / 42 % 3 = 1 ∨ c / 42 % 3 = 2 := by omega
  have hpa : c / 294 % 2 = 0 ∨ c / 294 % 2 = 1 := by omega
  rcases hat with ha | ha | ha <;> rcases hpa with hp | hp <;>
    (simp [sem_law_wide, bodyD, F_law_wide, startD, eLc_ap, lcGo, forGo, sFor_ap, Res.calm, frz, frzs, hm, h, ha, hp, hu, hv, hw, hq, up2, up3, up4, up11, up12, up13, up01, at_0, at_1, at_2, at_3, big, mn2, mn3, mn4, ct1, ct2, ct3, ix10, ix20, ix21, ix30, ix31, ix32]
     apply g_fin (ren_ok ou ov ow oq)
     · repeat' (first | exact g_nm (ren_a u v w q) | exact g_nm (ren_b u v w q) | exact g_nm (ren_c u v w q) | exact g_nm (ren_d u v w q) | apply g_an | apply g_or | apply g_th)
     · decide +kernel)
theorem wide_3_1 (s c : Int) (hm : c / 6 % 3 = 1) (h : c % 6 = 1) : ∃ x : Stm, sem_law_wide [.int s, .int c, .int 4] = .ok x.enc ∧ Fit x := by
  obtain ⟨u, hu, ou⟩ := name_by (s % 1664) 0
  obtain ⟨v, hv, ov⟩ := name_by (s % 1664) 1
  obtain ⟨w, hw, ow⟩ := name_by (s % 1664) 2
  obtain ⟨q, hq, oq⟩ := name_by (s % 1664) 3
  have up2 : upTo 0 2 = [.int 0, .int 1] := rfl
  have up3 : upTo 0 3 = [.int 0, .int 1, .int 2] := rfl
  have up4 : upTo 0 4 = [.int 0, .int 1, .int 2, .int 3] := rfl
  have up11 : upTo 1 1 = [.int 1] := rfl
  have up12 : upTo 1 2 = [.int 1, .int 2] := rfl
  have up13 : upTo 1 3 = [.int 1, .int 2, .int 3] := rfl
  have up01 : upTo 0 1 = [.int 0] := rfl
  have mn2 : min2D [.int 2, .int 5] = some (.int 2) := rfl
  have mn3 : min2D [.int 3, .int 5] = some (.int 3) := rfl
  have mn4 : min2D [.int 4, .int 5] = some (.int 4) := rfl
  have ct1 : ∀ x : PyData, cutP [x] (some 1) none = [] := fun x => rfl
  have ct2 : ∀ x y : PyData, cutP [x, y] (some 1) none = [y] := fun x y => rfl
  have ct3 : ∀ x y z : PyData, cutP [x, y, z] (some 1) none = [y, z] := fun x y z => rfl
  have ix10 : ixN 1 0 = some 0 := rfl
  have ix20 : ixN 2 0 = some 0 := rfl
  have ix21 : ixN 2 1 = some 1 := rfl
  have ix30 : ixN 3 0 = some 0 := rfl
  have ix31 : ixN 3 1 = some 1 := rfl
  have ix32 : ixN 3 2 = some 2 := rfl
  have hat : c / 42 % 3 = 0 ∨ c / 42 % 3 = 1 ∨ c / 42 % 3 = 2 := by omega
  have hpa : c / 294 % 2 = 0 ∨ c / 294 % 2 = 1 := by omega
  rcases hat with ha | ha | ha <;> rcases hpa with hp | hp <;>
    (simp [sem_law_wide, bodyD, F_law_wide, startD, eLc_ap, lcGo, forGo, sFor_ap, Res.calm, frz, frzs, hm, h, ha, hp, hu, hv, hw, hq, up2, up3, up4, up11, up12, up13, up01, at_0, at_1, at_2, at_3, big, mn2, mn3, mn4, ct1, ct2, ct3, ix10, ix20, ix21, ix30, ix31, ix32]
     apply g_fin (ren_ok ou ov ow oq)
     · repeat' (first | exact g_nm (ren_a u v w q) | exact g_nm (ren_b u v w q) | exact g_nm (ren_c u v w q) | exact g_nm (ren_d u v w q) | apply g_an | apply g_or | apply g_th)
     · decide +kernel)
theorem wide_3_2 (s c : Int) (hm : c / 6 % 3 = 1) (h : c % 6 = 2) : ∃ x : Stm, sem_law_wide [.int s, .int c, .int 4] = .ok x.enc ∧ Fit x := by
  obtain ⟨u, hu, ou⟩ := name_by (s % 1664) 0
  obtain ⟨v, hv, ov⟩ := name_by (s % 1664) 1
  obtain ⟨w, hw, ow⟩ := name_by (s % 1664) 2
  obtain ⟨q, hq, oq⟩ := name_by (s % 1664) 3
  have up2 : upTo 0 2 = [.int 0, .int 1] := rfl
  have up3 : upTo 0 3 = [.int 0, .int 1, .int 2] := rfl
  have up4 : upTo 0 4 = [.int 0, .int 1, .int 2, .int 3] := rfl
  have up11 : upTo 1 1 = [.int 1] := rfl
  have up12 : upTo 1 2 = [.int 1, .int 2] := rfl
  have up13 : upTo 1 3 = [.int 1, .int 2, .int 3] := rfl
  have up01 : upTo 0 1 = [.int 0] := rfl
  have mn2 : min2D [.int 2, .int 5] = some (.int 2) := rfl
  have mn3 : min2D [.int 3, .int 5] = some (.int 3) := rfl
  have mn4 : min2D [.int 4, .int 5] = some (.int 4) := rfl
  have ct1 : ∀ x : PyData, cutP [x] (some 1) none = [] := fun x => rfl
  have ct2 : ∀ x y : PyData, cutP [x, y] (some 1) none = [y] := fun x y => rfl
  have ct3 : ∀ x y z : PyData, cutP [x, y, z] (some 1) none = [y, z] := fun x y z => rfl
  have ix10 : ixN 1 0 = some 0 := rfl
  have ix20 : ixN 2 0 = some 0 := rfl
  have ix21 : ixN 2 1 = some 1 := rfl
  have ix30 : ixN 3 0 = some 0 := rfl
  have ix31 : ixN 3 1 = some 1 := rfl
  have ix32 : ixN 3 2 = some 2 := rfl
  have hat : c / 42 % 3 = 0 ∨ c / 42 % 3 = 1 ∨ c / 42 % 3 = 2 := by omega
  have hpa : c / 294 % 2 = 0 ∨ c / 294 % 2 = 1 := by omega
  rcases hat with ha | ha | ha <;> rcases hpa with hp | hp <;>
    (simp [sem_law_wide, bodyD, F_law_wide, startD, eLc_ap, lcGo, forGo, sFor_ap, Res.calm, frz, frzs, hm, h, ha, hp, hu, hv, hw, hq, up2, up3, up4, up11, up12, up13, up01, at_0, at_1, at_2, at_3, big, mn2, mn3, mn4, ct1, ct2, ct3, ix10, ix20, ix21, ix30, ix31, ix32]
     apply g_fin (ren_ok ou ov ow oq)
     · repeat' (first | exact g_nm (ren_a u v w q) | exact g_nm (ren_b u v w q) | exact g_nm (ren_c u v w q) | exact g_nm (ren_d u v w q) | apply g_an | apply g_or | apply g_th)
     · decide +kernel)
theorem wide_3_3 (s c : Int) (hm : c / 6 % 3 = 1) (h : c % 6 = 3) : ∃ x : Stm, sem_law_wide [.int s, .int c, .int 4] = .ok x.enc ∧ Fit x := by
  obtain ⟨u, hu, ou⟩ := name_by (s % 1664) 0
  obtain ⟨v, hv, ov⟩ := name_by (s % 1664) 1
  obtain ⟨w, hw, ow⟩ := name_by (s % 1664) 2
  obtain ⟨q, hq, oq⟩ := name_by (s % 1664) 3
  have up2 : upTo 0 2 = [.int 0, .int 1] := rfl
  have up3 : upTo 0 3 = [.int 0, .int 1, .int 2] := rfl
  have up4 : upTo 0 4 = [.int 0, .int 1, .int 2, .int 3] := rfl
  have up11 : upTo 1 1 = [.int 1] := rfl
  have up12 : upTo 1 2 = [.int 1, .int 2] := rfl
  have up13 : upTo 1 3 = [.int 1, .int 2, .int 3] := rfl
  have up01 : upTo 0 1 = [.int 0] := rfl
  have mn2 : min2D [.int 2, .int 5] = some (.int 2) := rfl
  have mn3 : min2D [.int 3, .int 5] = some (.int 3) := rfl
  have mn4 : min2D [.int 4, .int 5] = some (.int 4) := rfl
  have ct1 : ∀ x : PyData, cutP [x] (some 1) none = [] := fun x => rfl
  have ct2 : ∀ x y : PyData, cutP [x, y] (some 1) none = [y] := fun x y => rfl
  have ct3 : ∀ x y z : PyData, cutP [x, y, z] (some 1) none = [y, z] := fun x y z => rfl
  have ix10 : ixN 1 0 = some 0 := rfl
  have ix20 : ixN 2 0 = some 0 := rfl
  have ix21 : ixN 2 1 = some 1 := rfl
  have ix30 : ixN 3 0 = some 0 := rfl
  have ix31 : ixN 3 1 = some 1 := rfl
  have ix32 : ixN 3 2 = some 2 := rfl
  have hat : c / 42 % 3 = 0 ∨ c / 42 % 3 = 1 ∨ c / 42 % 3 = 2 := by omega
  have hpa : c / 294 % 2 = 0 ∨ c / 294 % 2 = 1 := by omega
  rcases hat with ha | ha | ha <;> rcases hpa with hp | hp <;>
    (simp [sem_law_wide, bodyD, F_law_wide, startD, eLc_ap, lcGo, forGo, sFor_ap, Res.calm, frz, frzs, hm, h, ha, hp, hu, hv, hw, hq, up2, up3, up4, up11, up12, up13, up01, at_0, at_1, at_2, at_3, big, mn2, mn3, mn4, ct1, ct2, ct3, ix10, ix20, ix21, ix30, ix31, ix32]
     apply g_fin (ren_ok ou ov ow oq)
     · repeat' (first | exact g_nm (ren_a u v w q) | exact g_nm (ren_b u v w q) | exact g_nm (ren_c u v w q) | exact g_nm (ren_d u v w q) | apply g_an | apply g_or | apply g_th)
     · decide +kernel)
theorem wide_3_4 (s c : Int) (hm : c / 6 % 3 = 1) (h : c % 6 = 4) : ∃ x : Stm, sem_law_wide [.int s, .int c, .int 4] = .ok x.enc ∧ Fit x := by
  obtain ⟨u, hu, ou⟩ := name_by (s % 1664) 0
  obtain ⟨v, hv, ov⟩ := name_by (s % 1664) 1
  obtain ⟨w, hw, ow⟩ := name_by (s % 1664) 2
  obtain ⟨q, hq, oq⟩ := name_by (s % 1664) 3
  have up2 : upTo 0 2 = [.int 0, .int 1] := rfl
  have up3 : upTo 0 3 = [.int 0, .int 1, .int 2] := rfl
  have up4 : upTo 0 4 = [.int 0, .int 1, .int 2, .int 3] := rfl
  have up11 : upTo 1 1 = [.int 1] := rfl
  have up12 : upTo 1 2 = [.int 1, .int 2] := rfl
  have up13 : upTo 1 3 = [.int 1, .int 2, .int 3] := rfl
  have up01 : upTo 0 1 = [.int 0] := rfl
  have mn2 : min2D [.int 2, .int 5] = some (.int 2) := rfl
  have mn3 : min2D [.int 3, .int 5] = some (.int 3) := rfl
  have mn4 : min2D [.int 4, .int 5] = some (.int 4) := rfl
  have ct1 : ∀ x : PyData, cutP [x] (some 1) none = [] := fun x => rfl
  have ct2 : ∀ x y : PyData, cutP [x, y] (some 1) none = [y] := fun x y => rfl
  have ct3 : ∀ x y z : PyData, cutP [x, y, z] (some 1) none = [y, z] := fun x y z => rfl
  have ix10 : ixN 1 0 = some 0 := rfl
  have ix20 : ixN 2 0 = some 0 := rfl
  have ix21 : ixN 2 1 = some 1 := rfl
  have ix30 : ixN 3 0 = some 0 := rfl
  have ix31 : ixN 3 1 = some 1 := rfl
  have ix32 : ixN 3 2 = some 2 := rfl
  have hat : c / 42 % 3 = 0 ∨ c / 42 % 3 = 1 ∨ c / 42 % 3 = 2 := by omega
  have hpa : c / 294 % 2 = 0 ∨ c / 294 % 2 = 1 := by omega
  rcases hat with ha | ha | ha <;> rcases hpa with hp | hp <;>
    (simp [sem_law_wide, bodyD, F_law_wide, startD, eLc_ap, lcGo, forGo, sFor_ap, Res.calm, frz, frzs, hm, h, ha, hp, hu, hv, hw, hq, up2, up3, up4, up11, up12, up13, up01, at_0, at_1, at_2, at_3, big, mn2, mn3, mn4, ct1, ct2, ct3, ix10, ix20, ix21, ix30, ix31, ix32]
     apply g_fin (ren_ok ou ov ow oq)
     · repeat' (first | exact g_nm (ren_a u v w q) | exact g_nm (ren_b u v w q) | exact g_nm (ren_c u v w q) | exact g_nm (ren_d u v w q) | apply g_an | apply g_or | apply g_th)
     · decide +kernel)
theorem wide_3_5 (s c : Int) (hm : c / 6 % 3 = 1) (h : c % 6 = 5) : ∃ x : Stm, sem_law_wide [.int s, .int c, .int 4] = .ok x.enc ∧ Fit x := by
  obtain ⟨u, hu, ou⟩ := name_by (s % 1664) 0
  obtain ⟨v, hv, ov⟩ := name_by (s % 1664) 1
  obtain ⟨w, hw, ow⟩ := name_by (s % 1664) 2
  obtain ⟨q, hq, oq⟩ := name_by (s % 1664) 3
  have up2 : upTo 0 2 = [.int 0, .int 1] := rfl
  have up3 : upTo 0 3 = [.int 0, .int 1, .int 2] := rfl
  have up4 : upTo 0 4 = [.int 0, .int 1, .int 2, .int 3] := rfl
  have up11 : upTo 1 1 = [.int 1] := rfl
  have up12 : upTo 1 2 = [.int 1, .int 2] := rfl
  have up13 : upTo 1 3 = [.int 1, .int 2, .int 3] := rfl
  have up01 : upTo 0 1 = [.int 0] := rfl
  have mn2 : min2D [.int 2, .int 5] = some (.int 2) := rfl
  have mn3 : min2D [.int 3, .int 5] = some (.int 3) := rfl
  have mn4 : min2D [.int 4, .int 5] = some (.int 4) := rfl
  have ct1 : ∀ x : PyData, cutP [x] (some 1) none = [] := fun x => rfl
  have ct2 : ∀ x y : PyData, cutP [x, y] (some 1) none = [y] := fun x y => rfl
  have ct3 : ∀ x y z : PyData, cutP [x, y, z] (some 1) none = [y, z] := fun x y z => rfl
  have ix10 : ixN 1 0 = some 0 := rfl
  have ix20 : ixN 2 0 = some 0 := rfl
  have ix21 : ixN 2 1 = some 1 := rfl
  have ix30 : ixN 3 0 = some 0 := rfl
  have ix31 : ixN 3 1 = some 1 := rfl
  have ix32 : ixN 3 2 = some 2 := rfl
  have hat : c / 42 % 3 = 0 ∨ c / 42 % 3 = 1 ∨ c / 42 % 3 = 2 := by omega
  have hpa : c / 294 % 2 = 0 ∨ c / 294 % 2 = 1 := by omega
  rcases hat with ha | ha | ha <;> rcases hpa with hp | hp <;>
    (simp [sem_law_wide, bodyD, F_law_wide, startD, eLc_ap, lcGo, forGo, sFor_ap, Res.calm, frz, frzs, hm, h, ha, hp, hu, hv, hw, hq, up2, up3, up4, up11, up12, up13, up01, at_0, at_1, at_2, at_3, big, mn2, mn3, mn4, ct1, ct2, ct3, ix10, ix20, ix21, ix30, ix31, ix32]
     apply g_fin (ren_ok ou ov ow oq)
     · repeat' (first | exact g_nm (ren_a u v w q) | exact g_nm (ren_b u v w q) | exact g_nm (ren_c u v w q) | exact g_nm (ren_d u v w q) | apply g_an | apply g_or | apply g_th)
     · decide +kernel)
end My

set_option Elab.async false
set_option linter.all false
set_option maxRecDepth 100000
set_option maxHeartbeats 2000000
namespace My
open PySem L2 DL PyProof.Rows
theorem wide_4_0 (s c : Int) (hm : c / 6 % 3 = 2) (h : c % 6 = 0) : ∃ x : Stm, sem_law_wide [.int s, .int c, .int 4] = .ok x.enc ∧ Fit x := by
  obtain ⟨u, hu, ou⟩ := name_by (s % 1664) 0
  obtain ⟨v, hv, ov⟩ := name_by (s % 1664) 1
  obtain ⟨w, hw, ow⟩ := name_by (s % 1664) 2
  obtain ⟨q, hq, oq⟩ := name_by (s % 1664) 3
  have up2 : upTo 0 2 = [.int 0, .int 1] := rfl
  have up3 : upTo 0 3 = [.int 0, .int 1, .int 2] := rfl
  have up4 : upTo 0 4 = [.int 0, .int 1, .int 2, .int 3] := rfl
  have up11 : upTo 1 1 = [.int 1] := rfl
  have up12 : upTo 1 2 = [.int 1, .int 2] := rfl
  have up13 : upTo 1 3 = [.int 1, .int 2, .int 3] := rfl
  have up01 : upTo 0 1 = [.int 0] := rfl
  have mn2 : min2D [.int 2, .int 5] = some (.int 2) := rfl
  have mn3 : min2D [.int 3, .int 5] = some (.int 3) := rfl
  have mn4 : min2D [.int 4, .int 5] = some (.int 4) := rfl
  have ct1 : ∀ x : PyData, cutP [x] (some 1) none = [] := fun x => rfl
  have ct2 : ∀ x y : PyData, cutP [x, y] (some 1) none = [y] := fun x y => rfl
  have ct3 : ∀ x y z : PyData, cutP [x, y, z] (some 1) none = [y, z] := fun x y z => rfl
  have ix10 : ixN 1 0 = some 0 := rfl
  have ix20 : ixN 2 0 = some 0 := rfl
  have ix21 : ixN 2 1 = some 1 := rfl
  have ix30 : ixN 3 0 = some 0 := rfl
  have ix31 : ixN 3 1 = some 1 := rfl
  have ix32 : ixN 3 2 = some 2 := rfl
  have hat : c / 42 % 4 = 0 ∨ c / 42 % 4 = 1 ∨ c / 42 % 4 = 2 ∨ c / 42 % 4 = 3 := by omega
  have hpa : c / 294 % 2 = 0 ∨ c / 294 % 2 = 1 := by omega
  rcases hat with ha | ha | ha | ha <;> rcases hpa with hp | hp <;>
    (simp [sem_law_wide, bodyD, F_law_wide, startD, eLc_ap, lcGo, forGo, sFor_ap, Res.calm, frz, frzs, hm, h, ha, hp, hu, hv, hw, hq, up2, up3, up4, up11, up12, up13, up01, at_0, at_1, at_2, at_3, big, mn2, mn3, mn4, ct1, ct2, ct3, ix10, ix20, ix21, ix30, ix31, ix32]
     apply g_fin (ren_ok ou ov ow oq)
     · repeat' (first | exact g_nm (ren_a u v w q) | exact g_nm (ren_b u v w q) | exact g_nm (ren_c u v w q) | exact g_nm (ren_d u v w q) | apply g_an | apply g_or | apply g_th)
     · decide +kernel)
theorem wide_4_1 (s c : Int) (hm : c / 6 % 3 = 2) (h : c % 6 = 1) : ∃ x : Stm, sem_law_wide [.int s, .int c, .int 4] = .ok x.enc ∧ Fit x := by
  obtain ⟨u, hu, ou⟩ := name_by (s % 1664) 0
  obtain ⟨v, hv, ov⟩ := name_by (s % 1664) 1
  obtain ⟨w, hw, ow⟩ := name_by (s % 1664) 2
  obtain ⟨q, hq, oq⟩ := name_by (s % 1664) 3
  have up2 : upTo 0 2 = [.int 0, .int 1] := rfl
  have up3 : upTo 0 3 = [.int 0, .int 1, .int 2] := rfl
  have up4 : upTo 0 4 = [.int 0, .int 1, .int 2, .int 3] := rfl
  have up11 : upTo 1 1 = [.int 1] := rfl
  have up12 : upTo 1 2 = [.int 1, .int 2] := rfl
  have up13 : upTo 1 3 = [.int 1, .int 2, .int 3] := rfl
  have up01 : upTo 0 1 = [.int 0] := rfl
  have mn2 : min2D [.int 2, .int 5] = some (.int 2) := rfl
  have mn3 : min2D [.int 3, .int 5] = some (.int 3) := rfl
  have mn4 : min2D [.int 4, .int 5] = some (.int 4) := rfl
  have ct1 : ∀ x : PyData, cutP [x] (some 1) none = [] := fun x => rfl
  have ct2 : ∀ x y : PyData, cutP [x, y] (some 1) none = [y] := fun x y => rfl
  have ct3 : ∀ x y z : PyData, cutP [x, y, z] (some 1) none = [y, z] := fun x y z => rfl
  have ix10 : ixN 1 0 = some 0 := rfl
  have ix20 : ixN 2 0 = some 0 := rfl
  have ix21 : ixN 2 1 = some 1 := rfl
  have ix30 : ixN 3 0 = some 0 := rfl
  have ix31 : ixN 3 1 = some 1 := rfl
  have ix32 : ixN 3 2 = some 2 := rfl
  have hat : c / 42 % 4 = 0 ∨ c / 42 % 4 = 1 ∨ c / 42 % 4 = 2 ∨ c / 42 % 4 = 3 := by omega
  have hpa : c / 294 % 2 = 0 ∨ c / 294 % 2 = 1 := by omega
  rcases hat with ha | ha | ha | ha <;> rcases hpa with hp | hp <;>
    (simp [sem_law_wide, bodyD, F_law_wide, startD, eLc_ap, lcGo, forGo, sFor_ap, Res.calm, frz, frzs, hm, h, ha, hp, hu, hv, hw, hq, up2, up3, up4, up11, up12, up13, up01, at_0, at_1, at_2, at_3, big, mn2, mn3, mn4, ct1, ct2, ct3, ix10, ix20, ix21, ix30, ix31, ix32]
     apply g_fin (ren_ok ou ov ow oq)
     · repeat' (first | exact g_nm (ren_a u v w q) | exact g_nm (ren_b u v w q) | exact g_nm (ren_c u v w q) | exact g_nm (ren_d u v w q) | apply g_an | apply g_or | apply g_th)
     · decide +kernel)
theorem wide_4_2 (s c : Int) (hm : c / 6 % 3 = 2) (h : c % 6 = 2) : ∃ x : Stm, sem_law_wide [.int s, .int c, .int 4] = .ok x.enc ∧ Fit x := by
  obtain ⟨u, hu, ou⟩ := name_by (s % 1664) 0
  obtain ⟨v, hv, ov⟩ := name_by (s % 1664) 1
  obtain ⟨w, hw, ow⟩ := name_by (s % 1664) 2
  obtain ⟨q, hq, oq⟩ := name_by (s % 1664) 3
  have up2 : upTo 0 2 = [.int 0, .int 1] := rfl
  have up3 : upTo 0 3 = [.int 0, .int 1, .int 2] := rfl
  have up4 : upTo 0 4 = [.int 0, .int 1, .int 2, .int 3] := rfl
  have up11 : upTo 1 1 = [.int 1] := rfl
  have up12 : upTo 1 2 = [.int 1, .int 2] := rfl
  have up13 : upTo 1 3 = [.int 1, .int 2, .int 3] := rfl
  have up01 : upTo 0 1 = [.int 0] := rfl
  have mn2 : min2D [.int 2, .int 5] = some (.int 2) := rfl
  have mn3 : min2D [.int 3, .int 5] = some (.int 3) := rfl
  have mn4 : min2D [.int 4, .int 5] = some (.int 4) := rfl
  have ct1 : ∀ x : PyData, cutP [x] (some 1) none = [] := fun x => rfl
  have ct2 : ∀ x y : PyData, cutP [x, y] (some 1) none = [y] := fun x y => rfl
  have ct3 : ∀ x y z : PyData, cutP [x, y, z] (some 1) none = [y, z] := fun x y z => rfl
  have ix10 : ixN 1 0 = some 0 := rfl
  have ix20 : ixN 2 0 = some 0 := rfl
  have ix21 : ixN 2 1 = some 1 := rfl
  have ix30 : ixN 3 0 = some 0 := rfl
  have ix31 : ixN 3 1 = some 1 := rfl
  have ix32 : ixN 3 2 = some 2 := rfl
  have hat : c / 42 % 4 = 0 ∨ c / 42 % 4 = 1 ∨ c / 42 % 4 = 2 ∨ c / 42 % 4 = 3 := by omega
  have hpa : c / 294 % 2 = 0 ∨ c / 294 % 2 = 1 := by omega
  rcases hat with ha | ha | ha | ha <;> rcases hpa with hp | hp <;>
    (simp [sem_law_wide, bodyD, F_law_wide, startD, eLc_ap, lcGo, forGo, sFor_ap, Res.calm, frz, frzs, hm, h, ha, hp, hu, hv, hw, hq, up2, up3, up4, up11, up12, up13, up01, at_0, at_1, at_2, at_3, big, mn2, mn3, mn4, ct1, ct2, ct3, ix10, ix20, ix21, ix30, ix31, ix32]
     apply g_fin (ren_ok ou ov ow oq)
     · repeat' (first | exact g_nm (ren_a u v w q) | exact g_nm (ren_b u v w q) | exact g_nm (ren_c u v w q) | exact g_nm (ren_d u v w q) | apply g_an | apply g_or | apply g_th)
     · decide +kernel)
theorem wide_4_3 (s c : Int) (hm : c / 6 % 3 = 2) (h : c % 6 = 3) : ∃ x : Stm, sem_law_wide [.int s, .int c, .int 4] = .ok x.enc ∧ Fit x := by
  obtain ⟨u, hu, ou⟩ := name_by (s % 1664) 0
  obtain ⟨v, hv, ov⟩ := name_by (s % 1664) 1
  obtain ⟨w, hw, ow⟩ := name_by (s % 1664) 2
  obtain ⟨q, hq, oq⟩ := name_by (s % 1664) 3
  have up2 : upTo 0 2 = [.int 0, .int 1] := rfl
  have up3 : upTo 0 3 = [.int 0, .int 1, .int 2] := rfl
  have up4 : upTo 0 4 = [.int 0, .int 1, .int 2, .int 3] := rfl
  have up11 : upTo 1 1 = [.int 1] := rfl
  have up12 : upTo 1 2 = [.int 1, .int 2] := rfl
  have up13 : upTo 1 3 = [.int 1, .int 2, .int 3] := rfl
  have up01 : upTo 0 1 = [.int 0] := rfl
  have mn2 : min2D [.int 2, .int 5] = some (.int 2) := rfl
  have mn3 : min2D [.int 3, .int 5] = some (.int 3) := rfl
  have mn4 : min2D [.int 4, .int 5] = some (.int 4) := rfl
  have ct1 : ∀ x : PyData, cutP [x] (some 1) none = [] := fun x => rfl
  have ct2 : ∀ x y : PyData, cutP [x, y] (some 1) none = [y] := fun x y => rfl
  have ct3 : ∀ x y z : PyData, cutP [x, y, z] (some 1) none = [y, z] := fun x y z => rfl
  have ix10 : ixN 1 0 = some 0 := rfl
  have ix20 : ixN 2 0 = some 0 := rfl
  have ix21 : ixN 2 1 = some 1 := rfl
  have ix30 : ixN 3 0 = some 0 := rfl
  have ix31 : ixN 3 1 = some 1 := rfl
  have ix32 : ixN 3 2 = some 2 := rfl
  have hat : c / 42 % 4 = 0 ∨ c / 42 % 4 = 1 ∨ c / 42 % 4 = 2 ∨ c / 42 % 4 = 3 := by omega
  have hpa : c / 294 % 2 = 0 ∨ c / 294 % 2 = 1 := by omega
  rcases hat with ha | ha | ha | ha <;> rcases hpa with hp | hp <;>
    (simp [sem_law_wide, bodyD, F_law_wide, startD, eLc_ap, lcGo, forGo, sFor_ap, Res.calm, frz, frzs, hm, h, ha, hp, hu, hv, hw, hq, up2, up3, up4, up11, up12, up13, up01, at_0, at_1, at_2, at_3, big, mn2, mn3, mn4, ct1, ct2, ct3, ix10, ix20, ix21, ix30, ix31, ix32]
     apply g_fin (ren_ok ou ov ow oq)
     · repeat' (first | exact g_nm (ren_a u v w q) | exact g_nm (ren_b u v w q) | exact g_nm (ren_c u v w q) | exact g_nm (ren_d u v w q) | apply g_an | apply g_or | apply g_th)
     · decide +kernel)
theorem wide_4_4 (s c : Int) (hm : c / 6 % 3 = 2) (h : c % 6 = 4) : ∃ x : Stm, sem_law_wide [.int s, .int c, .int 4] = .ok x.enc ∧ Fit x := by
  obtain ⟨u, hu, ou⟩ := name_by (s % 1664) 0
  obtain ⟨v, hv, ov⟩ := name_by (s % 1664) 1
  obtain ⟨w, hw, ow⟩ := name_by (s % 1664) 2
  obtain ⟨q, hq, oq⟩ := name_by (s % 1664) 3
  have up2 : upTo 0 2 = [.int 0, .int 1] := rfl
  have up3 : upTo 0 3 = [.int 0, .int 1, .int 2] := rfl
  have up4 : upTo 0 4 = [.int 0, .int 1, .int 2, .int 3] := rfl
  have up11 : upTo 1 1 = [.int 1] := rfl
  have up12 : upTo 1 2 = [.int 1, .int 2] := rfl
  have up13 : upTo 1 3 = [.int 1, .int 2, .int 3] := rfl
  have up01 : upTo 0 1 = [.int 0] := rfl
  have mn2 : min2D [.int 2, .int 5] = some (.int 2) := rfl
  have mn3 : min2D [.int 3, .int 5] = some (.int 3) := rfl
  have mn4 : min2D [.int 4, .int 5] = some (.int 4) := rfl
  have ct1 : ∀ x : PyData, cutP [x] (some 1) none = [] := fun x => rfl
  have ct2 : ∀ x y : PyData, cutP [x, y] (some 1) none = [y] := fun x y => rfl
  have ct3 : ∀ x y z : PyData, cutP [x, y, z] (some 1) none = [y, z] := fun x y z => rfl
  have ix10 : ixN 1 0 = some 0 := rfl
  have ix20 : ixN 2 0 = some 0 := rfl
  have ix21 : ixN 2 1 = some 1 := rfl
  have ix30 : ixN 3 0 = some 0 := rfl
  have ix31 : ixN 3 1 = some 1 := rfl
  have ix32 : ixN 3 2 = some 2 := rfl
  have hat : c / 42 % 4 = 0 ∨ c / 42 % 4 = 1 ∨ c / 42 % 4 = 2 ∨ c / 42 % 4 = 3 := by omega
  have hpa : c / 294 % 2 = 0 ∨ c / 294 % 2 = 1 := by omega
  rcases hat with ha | ha | ha | ha <;> rcases hpa with hp | hp <;>
    (simp [sem_law_wide, bodyD, F_law_wide, startD, eLc_ap, lcGo, forGo, sFor_ap, Res.calm, frz, frzs, hm, h, ha, hp, hu, hv, hw, hq, up2, up3, up4, up11, up12, up13, up01, at_0, at_1, at_2, at_3, big, mn2, mn3, mn4, ct1, ct2, ct3, ix10, ix20, ix21, ix30, ix31, ix32]
     apply g_fin (ren_ok ou ov ow oq)
     · repeat' (first | exact g_nm (ren_a u v w q) | exact g_nm (ren_b u v w q) | exact g_nm (ren_c u v w q) | exact g_nm (ren_d u v w q) | apply g_an | apply g_or | apply g_th)
     · decide +kernel)
theorem wide_4_5 (s c : Int) (hm : c / 6 % 3 = 2) (h : c % 6 = 5) : ∃ x : Stm, sem_law_wide [.int s, .int c, .int 4] = .ok x.enc ∧ Fit x := by
  obtain ⟨u, hu, ou⟩ := name_by (s % 1664) 0
  obtain ⟨v, hv, ov⟩ := name_by (s % 1664) 1
  obtain ⟨w, hw, ow⟩ := name_by (s % 1664) 2
  obtain ⟨q, hq, oq⟩ := name_by (s % 1664) 3
  have up2 : upTo 0 2 = [.int 0, .int 1] := rfl
  have up3 : upTo 0 3 = [.int 0, .int 1, .int 2] := rfl
  have up4 : upTo 0 4 = [.int 0, .int 1, .int 2, .int 3] := rfl
  have up11 : upTo 1 1 = [.int 1] := rfl
  have up12 : upTo 1 2 = [.int 1, .int 2] := rfl
  have up13 : upTo 1 3 = [.int 1, .int 2, .int 3] := rfl
  have up01 : upTo 0 1 = [.int 0] := rfl
  have mn2 : min2D [.int 2, .int 5] = some (.int 2) := rfl
  have mn3 : min2D [.int 3, .int 5] = some (.int 3) := rfl
  have mn4 : min2D [.int 4, .int 5] = some (.int 4) := rfl
  have ct1 : ∀ x : PyData, cutP [x] (some 1) none = [] := fun x => rfl
  have ct2 : ∀ x y : PyData, cutP [x, y] (some 1) none = [y] := fun x y => rfl
  have ct3 : ∀ x y z : PyData, cutP [x, y, z] (some 1) none = [y, z] := fun x y z => rfl
  have ix10 : ixN 1 0 = some 0 := rfl
  have ix20 : ixN 2 0 = some 0 := rfl
  have ix21 : ixN 2 1 = some 1 := rfl
  have ix30 : ixN 3 0 = some 0 := rfl
  have ix31 : ixN 3 1 = some 1 := rfl
  have ix32 : ixN 3 2 = some 2 := rfl
  have hat : c / 42 % 4 = 0 ∨ c / 42 % 4 = 1 ∨ c / 42 % 4 = 2 ∨ c / 42 % 4 = 3 := by omega
  have hpa : c / 294 % 2 = 0 ∨ c / 294 % 2 = 1 := by omega
  rcases hat with ha | ha | ha | ha <;> rcases hpa with hp | hp <;>
    (simp [sem_law_wide, bodyD, F_law_wide, startD, eLc_ap, lcGo, forGo, sFor_ap, Res.calm, frz, frzs, hm, h, ha, hp, hu, hv, hw, hq, up2, up3, up4, up11, up12, up13, up01, at_0, at_1, at_2, at_3, big, mn2, mn3, mn4, ct1, ct2, ct3, ix10, ix20, ix21, ix30, ix31, ix32]
     apply g_fin (ren_ok ou ov ow oq)
     · repeat' (first | exact g_nm (ren_a u v w q) | exact g_nm (ren_b u v w q) | exact g_nm (ren_c u v w q) | exact g_nm (ren_d u v w q) | apply g_an | apply g_or | apply g_th)
     · decide +kernel)
end My

set_option Elab.async false
set_option linter.all false
set_option maxRecDepth 100000
set_option maxHeartbeats 2000000
/-! what is drawn -/
namespace My
open PySem L2 DL PyProof.Rows
theorem wide (s c : Int) : ∃ x : Stm, sem_law_wide [.int s, .int c, .int 4] = .ok x.enc ∧ Fit x := by
  have hm : c / 6 % 3 = 0 ∨ c / 6 % 3 = 1 ∨ c / 6 % 3 = 2 := by omega
  have hway : c % 6 = 0 ∨ c % 6 = 1 ∨ c % 6 = 2 ∨ c % 6 = 3 ∨ c % 6 = 4 ∨ c % 6 = 5 := by omega
  rcases hm with hm | hm | hm <;> rcases hway with h | h | h | h | h | h
  · exact wide_2_0 s c hm h
  · exact wide_2_1 s c hm h
  · exact wide_2_2 s c hm h
  · exact wide_2_3 s c hm h
  · exact wide_2_4 s c hm h
  · exact wide_2_5 s c hm h
  · exact wide_3_0 s c hm h
  · exact wide_3_1 s c hm h
  · exact wide_3_2 s c hm h
  · exact wide_3_3 s c hm h
  · exact wide_3_4 s c hm h
  · exact wide_3_5 s c hm h
  · exact wide_4_0 s c hm h
  · exact wide_4_1 s c hm h
  · exact wide_4_2 s c hm h
  · exact wide_4_3 s c hm h
  · exact wide_4_4 s c hm h
  · exact wide_4_5 s c hm h
theorem cut_ints (ns : List Int) (k : Nat) : ∃ cs : List Int, cutP (ns.map PyData.int) (some ((k : Int) + 1)) (some ((k : Int) + 1 + 6)) = cs.map PyData.int ∧ cs.length ≤ 6 := by
  refine ⟨(ns.drop (HT.sIx (ns.map PyData.int).length 0 (some ((k : Int) + 1)))).take (HT.sIx (ns.map PyData.int).length (ns.map PyData.int).length (some ((k : Int) + 1 + 6)) - HT.sIx (ns.map PyData.int).length 0 (some ((k : Int) + 1))), ?_, ?_⟩
  · rw [cutP, List.map_take, List.map_drop]
  · rw [List.length_take, sIx_pos (by omega), sIx_pos (by omega)]
    omega
theorem drawn (ns : List Int) (hk : ns.length ≤ 63) (k : Nat) : ∃ x : Stm, sem_law_drawn [.list (ns.map PyData.int), .int (k : Int), .int 6, .int 4] = .ok x.enc ∧ Fit x := by
  have c0 : sem_law_cell_at [.list (ns.map PyData.int), .int 0] = .ok (.int (ns.getD 0 0)) := cell_at ns 0 hk
  have ck := cell_at ns k hk
  generalize ns.getD 0 0 = s at c0
  generalize ns.getD k 0 = c at ck
  obtain ⟨x1, h1, f1⟩ := wide s (c / 8)
  obtain ⟨x2, h2, f2⟩ := known_by s (c / 2)
  obtain ⟨cs, e3, hc⟩ := cut_ints ns k
  obtain ⟨x3, h3, f3⟩ := statement_by cs s hc
  simp only [sem_law_drawn, bodyD, F_law_drawn, startD]
  by_cases a : c % 8 = 5
  · exact ⟨x1, by simp [c0, ck, a, h1], f1⟩
  · by_cases b : c % 2 = 1
    · exact ⟨x2, by simp [c0, ck, a, b, h2], f2⟩
    · have b' : c % 2 = 0 := by omega
      exact ⟨x3, by simp [c0, ck, a, b, b', e3, h3], f3⟩
end My

set_option Elab.async false
set_option linter.all false
set_option maxRecDepth 100000
set_option maxHeartbeats 4000000
/-! the plain law -/
namespace My
open PySem L2 DL PyProof.Rows
noncomputable def vB (x : Stm) : Bool := open Classical in decide (Valid x)
theorem vB_iff (x : Stm) : vB x = true ↔ Valid x := by unfold vB; simp
theorem neD_str {a b : Str} : neD (.str a) (.str b) = some (.bool (!(a == b))) := rfl
theorem ne_bl : ∀ x y : Bool, neD (.bool x) (.bool y) = some (.bool (x != y)) := by
  intro x y; cases x <;> cases y <;> rfl
theorem bools_of (g : PyData → Bool) : ∀ xs : List PyData, bools (xs.map fun d => .bool (g d)) = some (xs.map g)
  | [] => rfl
  | x :: xs => by
    show (bools (xs.map fun d => .bool (g d))).map (g x :: ·) = _
    rw [bools_of g xs]
    rfl
def tvD (ms : List Str) (x : Stm) : PyData → Bool
  | .int i => tvB ms i.toNat x
  | _ => false
theorem all_tables {ms : List Str} {x : Stm} (h : Named ms x) : (((upTo 0 (2 ^ ms.length)).map (tvD ms x)).all id = true) ↔ ∀ v, tv v x := by
  rw [← tables_all h, List.all_map, List.all_eq_true]
  constructor
  · intro k t ht
    have := k (.int (0 + (t : Nat))) (mem_upTo.mpr ⟨t, ht, rfl⟩)
    rw [← tvB_iff]
    simpa [tvD] using this
  · intro k d hd
    obtain ⟨t, ht, rfl⟩ := mem_upTo.mp hd
    have := (tvB_iff ms t x).mpr (k t ht)
    simpa [tvD] using this
theorem any_tables {ms : List Str} {x : Stm} (h : Named ms x) : (((upTo 0 (2 ^ ms.length)).map (tvD ms x)).any id = true) ↔ ∃ v, tv v x := by
  rw [← tables_any h, List.any_map, List.any_eq_true]
  constructor
  · rintro ⟨d, hd, k⟩
    obtain ⟨t, ht, rfl⟩ := mem_upTo.mp hd
    refine ⟨t, ht, (tvB_iff ms t x).mp ?_⟩
    simpa [tvD] using k
  · rintro ⟨t, ht, k⟩
    refine ⟨.int (0 + (t : Nat)), mem_upTo.mpr ⟨t, ht, rfl⟩, ?_⟩
    have := (tvB_iff ms t x).mpr k
    simpa [tvD] using this
theorem pow_len {i : Nat} (h : i ≤ 4) : atI [PyData.int 1, PyData.int 2, PyData.int 4, PyData.int 8, PyData.int 16] (i : Int) = some (.int ((2 ^ i : Nat) : Int)) ∧ 2 ^ i ≤ 16 := by
  have : i = 0 ∨ i = 1 ∨ i = 2 ∨ i = 3 ∨ i = 4 := by omega
  rcases this with rfl | rfl | rfl | rfl | rfl <;> exact ⟨rfl, by decide⟩
theorem plain : ∀ ns : List Int, ns.length ≤ 63 → sem_law [.list (ns.map PyData.int)] = .ok (.bool true) := by
  intro ns hl
  obtain ⟨x, hx, fx⟩ := drawn ns hl 2
  have hx : sem_law_drawn [.list (ns.map PyData.int), .int 2, .int 6, .int 4] = .ok x.enc := hx
  generalize PyData.list (ns.map PyData.int) = L at hx
  obtain ⟨ks, hks, hkn⟩ := fx.nms
  have hnames := names_at ks hks x 10 fx.ok hkn (by have := fx.dep; omega)
  have hlen : (namesS x).length ≤ 4 := Nat.le_trans (names_few hkn) hks
  have hnm : Named (namesS x) x := fun z h => names_mem.mpr h
  have htrue := fun t => true_at (namesS x) hlen t x 10 hnm (by have := fx.dep; omega)
  have hall := all_tables hnm
  have hany := any_tables hnm
  generalize namesS x = ms at *
  obtain ⟨p1, p2⟩ := pow_len hlen
  generalize hN : 2 ^ ms.length = N at *
  have hAll : allD [.list ((upTo 0 N).map fun d => .bool (tvD ms x d))] = some (.bool (((upTo 0 N).map (tvD ms x)).all id)) := by
    show (bools _).map _ = _
    rw [bools_of]
    rfl
  have hAny : anyD [.list ((upTo 0 N).map fun d => .bool (tvD ms x d))] = some (.bool (((upTo 0 N).map (tvD ms x)).any id)) := by
    show (bools _).map _ = _
    rw [bools_of]
    rfl
  generalize ((upTo 0 N).map (tvD ms x)).all id = A at hall hAll
  generalize ((upTo 0 N).map (tvD ms x)).any id = B at hany hAny
  obtain ⟨s2, z2, t2⟩ := fit_no fx
  have hT : semTold0 [.tuple [.str "then", .tuple [.str "then", x.enc, .tuple [.str "false"]], .tuple [.str "false"]]] = .ok (.str (if A then "shown" else "worlds")) := by
    refine (semTold0_at s2 z2 t2).trans ?_
    have e : (Valid (no (no x))) ↔ A = true := (valid_nn x).trans hall.symm
    cases A with
    | true => rw [if_pos (e.mpr rfl)]; rfl
    | false => rw [if_neg fun k => (nomatch e.mp k)]; rfl
  obtain ⟨s1, z1⟩ := fit_no1 fx
  have hS1 : sem_is_shown [.tuple [.str "then", x.enc, .tuple [.str "false"]]] = .ok (.bool (!B)) := by
    have q : sem_is_shown [.tuple [.str "then", x.enc, .tuple [.str "false"]]] = .ok (.bool (vB (no x))) := semShown_at s1 z1
    rw [q]
    have e : (Valid (no x)) ↔ B = false := (valid_n x).trans ⟨fun k => by
      cases hB : B with
      | false => rfl
      | true => obtain ⟨v, hv⟩ := hany.mp hB; exact (k v hv).elim, fun k v hv => by
      have := hany.mpr ⟨v, hv⟩
      rw [k] at this
      exact (nomatch this)⟩
    congr 2
    rw [Bool.eq_iff_iff, vB_iff, e]
    cases B <;> simp
  obtain ⟨s0, z0⟩ := fit_no0 fx
  have hS0 : sem_is_shown [x.enc] = .ok (.bool (vB x)) := semShown_at s0 z0
  have hV : vB x = true → A = true := fun k => hall.mpr fun v => valid_tv ((vB_iff x).mp k) v
  generalize vB x = V at hS0 hV
  generalize htb : ((upTo 0 N).map fun d => PyData.bool (tvD ms x d)) = tb at hAll hAny
  have hF : F_law (startD 7 [L]) = .ok (.rt (.bool true)) := by
    unfold F_law
    refine (seq_nx (ρ' := [some L, some x.enc, none, none, none, none, none]) (by simp [startD, hx])).trans ?_
    refine (seq_nx (ρ' := [some L, some x.enc, some (.list (sds ms)), none, none, none, none]) (by simp [hnames])).trans ?_
    refine (seq_nx (ρ' := [some L, some x.enc, some (.list (sds ms)), some (.list tb), none, none, none]) ?_).trans ?_
    · simp [p1, eLc_ap, upTo_len]
      have b1 : -(big : Int) ≤ (N : Int) ∧ (N : Int) ≤ (big : Int) := by simp only [big]; omega
      have b2 : N ≤ big := by simp only [big]; omega
      simp [b1, b2, upTo_len]
      rw [lcGo_map (v := fun d => .bool (tvD ms x d)) (by
        intro d hd
        obtain ⟨j, hj, rfl⟩ := mem_upTo.mp hd
        have q := htrue j
        refine ⟨rfl, ?_, rfl⟩
        simp [q, tvD]), htb]
      simp [Res.calm]
    refine (seq_nx (ρ' := [some L, some x.enc, some (.list (sds ms)), some (.list tb), some (no x).enc, none, none]) (by simp [Stm.enc, W3.word, big])).trans ?_
    refine (seq_nx (ρ' := [some L, some x.enc, some (.list (sds ms)), some (.list tb), some (no x).enc, some (.str (if A then "shown" else "worlds")), none]) (by simp [Stm.enc, W3.word, big, hT])).trans ?_
    have a0 : atI [PyData.str "worlds", PyData.str "shown"] 0 = some (.str "worlds") := rfl
    have a1 : atI [PyData.str "worlds", PyData.str "shown"] 1 = some (.str "shown") := rfl
    have i1 : ∀ b : Bool, intD [.bool b] = some (.int (if b then 1 else 0)) := fun b => rfl
    refine (seq_nx (ρ' := [some L, some x.enc, some (.list (sds ms)), some (.list tb), some (no x).enc, some (.str (if A then "shown" else "worlds")), none]) ?_).trans ?_
    · cases A <;> simp [hAll, a0, a1, i1, neD_str, big]
    refine (seq_nx (ρ' := [some L, some x.enc, some (.list (sds ms)), some (.list tb), some (no x).enc, some (.str (if A then "shown" else "worlds")), none]) ?_).trans ?_
    · cases B <;> simp [Stm.enc, W3.word, hAny, hS1, ne_bl]
    · cases A <;> cases V <;> simp [hAll, hS0] at hV ⊢
  simp only [sem_law, bodyD, hF]
  rfl
end My

set_option Elab.async false
set_option linter.all false
set_option maxRecDepth 100000
set_option maxHeartbeats 4000000
namespace My
open PySem L2 DL PyProof.Rows
noncomputable section
/-! the walks -/
section
variable {P : Program} {w : World} {K : PySem.W.Frag} {mg : Str → Option Value} {base : Heap}
abbrev Cal (P : Program) (w : World) (K : PySem.W.Frag) (mg : Str → Option Value) (base : Heap) (x : Str) (k : Nat) (ps : List Str) (g : List PyData → Res PyData) : Prop := Callee P w K mg base CX0 (fun _ => .none) x k ps g
theorem w_is_shown {k : Nat} (T : Txt K mg) : Cal P w K mg base "is_shown" 110 ["statement"] sem_is_shown := T.sea.elim fun _ S => (ok_shown S).mono (by decide)
theorem sc_law_cell_at : FnScope N_law_cell_at ["_law_script", "_law_k"] (defScope s_law_cell_at) := ⟨rfl, rfl, rfl, by decide +kernel, rfl, by decide +kernel, by decide +kernel⟩
theorem w_law_cell_at {k : Nat} (T : Txt K mg) : Cal P w K mg base "_law_cell_at" (k + 1) ["_law_script", "_law_k"] (bodyD 2 F_law_cell_at) := by
  obtain ⟨f, fd, D, hm, hb⟩ := T.d_law_cell_at.ex
  have sc := sc_law_cell_at
  refine callee_of (N := N_law_cell_at) D sc hm hb fun cdv A outer s H E W hr => ?_
  exact (pssd_cons (psd_if (td_cmp od_lt (ed_var (i := 1)) (ed_callB cd_len T.z_len (ad_cons (ed_var (i := 0)) ad_nil))) (pssd_one (psd_ret (ed_ix (ed_var (i := 0)) (ed_var (i := 1))))) pssd_nil)
    (pssd_one (psd_ret ed_int)))
theorem sc_law_name_by : FnScope N_law_name_by ["_law_seed", "_law_k"] (defScope s_law_name_by) := ⟨rfl, rfl, rfl, by decide +kernel, rfl, by decide +kernel, by decide +kernel⟩
theorem w_law_name_by {k : Nat} (T : Txt K mg) : Cal P w K mg base "_law_name_by" (k + 1) ["_law_seed", "_law_k"] (bodyD 8 F_law_name_by) := by
  obtain ⟨f, fd, D, hm, hb⟩ := T.d_law_name_by.ex
  have sc := sc_law_name_by
  refine callee_of (N := N_law_name_by) D sc hm hb fun cdv A outer s H E W hr => ?_
  exact (pssd_cons (psd_set (i := 2) sc.nd ed_str)
    (pssd_cons (psd_set (i := 3) sc.nd (ed_op od_add ed_int (ed_op od_mod (ed_var (i := 0)) ed_int)))
    (pssd_cons (psd_set (i := 4) sc.nd (ed_join ed_str (ed_lc (x := "_law_j") (i := 7) rfl sc.nd (id_rng1 T.z_range (ad_cons (ed_var (i := 3)) ad_nil)) (blkOk_by (own := [("_law_j", 7)]) (N := N_law_name_by) (sc := defScope s_law_name_by) (by decide +kernel)) (fun _ _ _ _ _ => pg_name (i := 7) sc.nd rfl (Or.inl rfl)) (fun _ _ _ _ _ => tds_nil) (fun _ _ _ _ _ => (ed_ix (ed_var (i := 2)) (ed_op od_mod (ed_op od_add (ed_op od_add (ed_op od_div (ed_var (i := 0)) ed_int) (ed_op od_mul ed_int (ed_var (i := 7)))) (ed_op od_mul (ed_var (i := 7)) (ed_var (i := 7)))) ed_int))))))
    (pssd_cons (psd_set (i := 5) sc.nd (ed_op od_mod (ed_op od_div (ed_var (i := 0)) ed_int) (ed_var (i := 3))))
    (pssd_cons (psd_set (i := 6) sc.nd (ed_ix (ed_var (i := 2)) (ed_op od_mod (ed_op od_add (ed_sindex (ed_var (i := 2)) (ed_ix (ed_var (i := 4)) (ed_var (i := 5)))) (ed_op od_mul (ed_var (i := 1)) (ed_op od_add ed_int (ed_op od_mod (ed_op od_div (ed_var (i := 0)) ed_int) ed_int)))) ed_int)))
    (pssd_cons (psd_if (PW.pt (td_and (td_cmp (od_eq hr.units) (ed_var (i := 1)) ed_int) (td_and (td_cmp (od_eq hr.units) (ed_op od_mod (ed_op od_div (ed_var (i := 0)) ed_int) ed_int) ed_int) (td_and1 (td_cmp od_lt (ed_var (i := 3)) ed_int))))) (pssd_one (psd_ret (ed_op od_add (ed_var (i := 4)) (ed_var (i := 6))))) pssd_nil)
    (pssd_one (psd_ret (ed_op od_add (ed_op od_add (ed_cut (ed_var (i := 4)) od_none (od_some (ed_var (i := 5)))) (ed_var (i := 6))) (ed_cut (ed_var (i := 4)) (od_some (ed_op od_add (ed_var (i := 5)) ed_int)) od_none))))))))))
theorem sc_law_joined : FnScope N_law_joined ["_law_way", "_law_one", "_law_other"] (defScope s_law_joined) := ⟨rfl, rfl, rfl, by decide +kernel, rfl, by decide +kernel, by decide +kernel⟩
theorem w_law_joined {k : Nat} (T : Txt K mg) : Cal P w K mg base "_law_joined" (k + 1) ["_law_way", "_law_one", "_law_other"] (bodyD 3 F_law_joined) := by
  obtain ⟨f, fd, D, hm, hb⟩ := T.d_law_joined.ex
  have sc := sc_law_joined
  refine callee_of (N := N_law_joined) D sc hm hb fun cdv A outer s H E W hr => ?_
  exact (pssd_cons (psd_if (td_cmp (od_eq hr.units) (ed_op od_mod (ed_op od_div (ed_var (i := 0)) ed_int) ed_int) ed_int) (pssd_one (psd_ret (ed_tup (ad_cons (ed_ix (ed_lst (ad_cons ed_str (ad_cons ed_str (ad_cons ed_str (ad_cons ed_str ad_nil))))) (ed_op od_mod (ed_var (i := 0)) ed_int)) (ad_cons (ed_var (i := 2)) (ad_cons (ed_var (i := 1)) ad_nil)))))) pssd_nil)
    (pssd_one (psd_ret (ed_tup (ad_cons (ed_ix (ed_lst (ad_cons ed_str (ad_cons ed_str (ad_cons ed_str (ad_cons ed_str ad_nil))))) (ed_op od_mod (ed_var (i := 0)) ed_int)) (ad_cons (ed_var (i := 1)) (ad_cons (ed_var (i := 2)) ad_nil)))))))
theorem sc_law_step : FnScope N_law_step ["_law_pile", "_law_cell", "_law_seed"] (defScope s_law_step) := ⟨rfl, rfl, rfl, by decide +kernel, rfl, by decide +kernel, by decide +kernel⟩
theorem w_law_step {k : Nat} (T : Txt K mg) (c_law_joined : Cal P w K mg base "_law_joined" k ["_law_way", "_law_one", "_law_other"] sem_law_joined) (c_law_name_by : Cal P w K mg base "_law_name_by" k ["_law_seed", "_law_k"] sem_law_name_by) : Cal P w K mg base "_law_step" (k + 1) ["_law_pile", "_law_cell", "_law_seed"] (bodyD 5 F_law_step) := by
  obtain ⟨f, fd, D, hm, hb⟩ := T.d_law_step.ex
  have sc := sc_law_step
  refine callee_of (N := N_law_step) D sc hm hb fun cdv A outer s H E W hr => ?_
  exact (pssd_cons (psd_set (i := 3) sc.nd (ed_op od_mod (ed_var (i := 1)) ed_int))
    (pssd_cons (psd_set (i := 4) sc.nd (ed_op od_div (ed_var (i := 1)) ed_int))
    (pssd_cons (psd_if (td_cmp (od_eq hr.units) (ed_var (i := 3)) ed_int) (pssd_one (psd_ret (ed_op od_add (ed_var (i := 0)) (ed_lst (ad_cons (ed_tup (ad_cons ed_str ad_nil)) ad_nil))))) pssd_nil)
    (pssd_cons (psd_if (PW.pt (td_and (td_cmp (od_eq hr.units) (ed_var (i := 3)) ed_int) (td_and1 (td_cmp od_gt (ed_callB cd_len T.z_len (ad_cons (ed_var (i := 0)) ad_nil)) ed_int)))) (pssd_one (psd_ret (ed_op od_add (ed_var (i := 0)) (ed_lst (ad_cons (ed_ix (ed_var (i := 0)) (ed_op od_mod (ed_var (i := 4)) (ed_callB cd_len T.z_len (ad_cons (ed_var (i := 0)) ad_nil)))) ad_nil))))) pssd_nil)
    (pssd_cons (psd_if (PW.pt (td_and (td_cmp (od_eq hr.units) (ed_var (i := 3)) ed_int) (td_and1 (td_cmp od_gt (ed_callB cd_len T.z_len (ad_cons (ed_var (i := 0)) ad_nil)) ed_int)))) (pssd_one (psd_ret (ed_op od_add (ed_cut (ed_var (i := 0)) od_none (od_some (ed_neg ed_int))) (ed_lst (ad_cons (ed_tup (ad_cons ed_str (ad_cons (ed_ix (ed_var (i := 0)) (ed_neg ed_int)) (ad_cons (ed_tup (ad_cons ed_str ad_nil)) ad_nil)))) ad_nil))))) pssd_nil)
    (pssd_cons (psd_if (PW.pt (td_and (td_cmp od_gt (ed_var (i := 3)) ed_int) (td_and1 (td_cmp od_gt (ed_callB cd_len T.z_len (ad_cons (ed_var (i := 0)) ad_nil)) ed_int)))) (pssd_one (psd_ret (ed_op od_add (ed_cut (ed_var (i := 0)) od_none (od_some (ed_neg ed_int))) (ed_lst (ad_cons (ed_call c_law_joined hr passD (ad_cons (ed_var (i := 4)) (ad_cons (ed_ix (ed_var (i := 0)) (ed_neg ed_int)) (ad_cons (ed_ix (ed_var (i := 0)) (ed_neg ed_int)) ad_nil))) (an_cons (an_cons (an_cons an_nil)))) ad_nil))))) pssd_nil)
    (pssd_one (psd_ret (ed_op od_add (ed_var (i := 0)) (ed_lst (ad_cons (ed_tup (ad_cons ed_str (ad_cons (ed_call c_law_name_by hr passD (ad_cons (ed_var (i := 2)) (ad_cons (ed_op od_mod (ed_var (i := 4)) ed_int) ad_nil)) (an_cons (an_cons an_nil))) ad_nil))) ad_nil)))))))))))
theorem sc_law_statement_by : FnScope N_law_statement_by ["_law_cells", "_law_seed"] (defScope s_law_statement_by) := ⟨rfl, rfl, rfl, by decide +kernel, rfl, by decide +kernel, by decide +kernel⟩
theorem w_law_statement_by {k : Nat} (T : Txt K mg) (c_law_name_by : Cal P w K mg base "_law_name_by" k ["_law_seed", "_law_k"] sem_law_name_by) (c_law_step : Cal P w K mg base "_law_step" k ["_law_pile", "_law_cell", "_law_seed"] sem_law_step) : Cal P w K mg base "_law_statement_by" (k + 1) ["_law_cells", "_law_seed"] (bodyD 4 F_law_statement_by) := by
  obtain ⟨f, fd, D, hm, hb⟩ := T.d_law_statement_by.ex
  have sc := sc_law_statement_by
  refine callee_of (N := N_law_statement_by) D sc hm hb fun cdv A outer s H E W hr => ?_
  exact (pssd_cons (psd_set (i := 2) sc.nd (ed_lst ad_nil))
    (pssd_cons (psd_for PassesOwn.never rfl (id_list (ed_var (i := 0))) (gd_name (i := 3) sc.nd) (pssd_one (psd_set (i := 2) sc.nd (ed_call c_law_step hr passD (ad_cons (ed_var (i := 2)) (ad_cons (ed_var (i := 3)) (ad_cons (ed_var (i := 1)) ad_nil))) (an_cons (an_cons (an_cons an_nil)))))))
    (pssd_cons (psd_while 64 PassesOwn.never (td_cmp od_gt (ed_callB cd_len T.z_len (ad_cons (ed_var (i := 2)) ad_nil)) ed_int) (pssd_one (psd_set (i := 2) sc.nd (ed_op od_add (ed_cut (ed_var (i := 2)) od_none (od_some (ed_neg ed_int))) (ed_lst (ad_cons (ed_tup (ad_cons ed_str (ad_cons (ed_ix (ed_var (i := 2)) (ed_neg ed_int)) (ad_cons (ed_ix (ed_var (i := 2)) (ed_neg ed_int)) ad_nil)))) ad_nil))))))
    (pssd_cons (psd_if (td_cmp (od_eq hr.units) (ed_var (i := 2)) (ed_lst ad_nil)) (pssd_one (psd_ret (ed_tup (ad_cons ed_str (ad_cons (ed_call c_law_name_by hr passD (ad_cons (ed_var (i := 1)) (ad_cons ed_int ad_nil)) (an_cons (an_cons an_nil))) ad_nil))))) pssd_nil)
    (pssd_one (psd_ret (ed_ix (ed_var (i := 2)) ed_int)))))))
theorem sc_law_known_by : FnScope N_law_known_by ["_law_seed", "_law_cell"] (defScope s_law_known_by) := ⟨rfl, rfl, rfl, by decide +kernel, rfl, by decide +kernel, by decide +kernel⟩
theorem w_law_known_by {k : Nat} (T : Txt K mg) (c_law_name_by : Cal P w K mg base "_law_name_by" k ["_law_seed", "_law_k"] sem_law_name_by) : Cal P w K mg base "_law_known_by" (k + 1) ["_law_seed", "_law_cell"] (bodyD 10 F_law_known_by) := by
  obtain ⟨f, fd, D, hm, hb⟩ := T.d_law_known_by.ex
  have sc := sc_law_known_by
  refine callee_of (N := N_law_known_by) D sc hm hb fun cdv A outer s H E W hr => ?_
  exact (pssd_cons (psd_asg (ed_lc (x := "_law_k") (i := 9) rfl sc.nd (id_list (ed_lst (ad_cons (ed_op od_mod (ed_op od_div (ed_var (i := 1)) ed_int) ed_int) (ad_cons (ed_op od_mod (ed_op od_add (ed_op od_div (ed_var (i := 1)) ed_int) ed_int) ed_int) (ad_cons (ed_op od_mod (ed_op od_add (ed_op od_div (ed_var (i := 1)) ed_int) ed_int) ed_int) ad_nil))))) (blkOk_by (own := [("_law_k", 9)]) (N := N_law_known_by) (sc := defScope s_law_known_by) (by decide +kernel)) (fun _ _ _ _ _ => pg_name (i := 9) sc.nd rfl (Or.inl rfl)) (fun _ _ _ _ _ => tds_nil) (fun _ _ _ _ _ => (ed_tup (ad_cons ed_str (ad_cons (ed_call c_law_name_by hr passD (ad_cons (ed_var (i := 0)) (ad_cons (ed_var (i := 9)) ad_nil)) (an_cons (an_cons an_nil))) ad_nil))))) (gd_unl rfl (gds_cons (gd_name (i := 6) sc.nd) (gds_cons (gd_name (i := 7) sc.nd) (gds_cons (gd_name (i := 8) sc.nd) gds_nil)))))
    (pssd_cons (psd_set (i := 2) sc.nd (ed_tup (ad_cons ed_str ad_nil)))
    (pssd_cons (psd_set (i := 3) sc.nd (ed_tup (ad_cons ed_str (ad_cons (ed_var (i := 6)) (ad_cons (ed_tup (ad_cons ed_str (ad_cons (ed_var (i := 6)) (ad_cons (ed_var (i := 2)) ad_nil)))) ad_nil)))))
    (pssd_cons (psd_set (i := 4) sc.nd (ed_lst (ad_cons (ed_var (i := 3)) (ad_cons (ed_tup (ad_cons ed_str (ad_cons (ed_tup (ad_cons ed_str (ad_cons (ed_var (i := 3)) (ad_cons (ed_var (i := 2)) ad_nil)))) (ad_cons (ed_var (i := 2)) ad_nil)))) (ad_cons (ed_tup (ad_cons ed_str (ad_cons (ed_tup (ad_cons ed_str (ad_cons (ed_tup (ad_cons ed_str (ad_cons (ed_var (i := 6)) (ad_cons (ed_var (i := 2)) ad_nil)))) (ad_cons (ed_var (i := 2)) ad_nil)))) (ad_cons (ed_var (i := 6)) ad_nil)))) ad_nil)))))
    (pssd_cons (psd_set (i := 4) sc.nd (ed_op od_add (ed_var (i := 4)) (ed_lst (ad_cons (ed_tup (ad_cons ed_str (ad_cons (ed_tup (ad_cons ed_str (ad_cons (ed_tup (ad_cons ed_str (ad_cons (ed_var (i := 6)) (ad_cons (ed_var (i := 7)) ad_nil)))) (ad_cons (ed_var (i := 6)) ad_nil)))) (ad_cons (ed_var (i := 6)) ad_nil)))) (ad_cons (ed_tup (ad_cons ed_str (ad_cons (ed_tup (ad_cons ed_str (ad_cons (ed_var (i := 6)) (ad_cons (ed_var (i := 7)) ad_nil)))) (ad_cons (ed_tup (ad_cons ed_str (ad_cons (ed_var (i := 7)) (ad_cons (ed_var (i := 6)) ad_nil)))) ad_nil)))) ad_nil)))))
    (pssd_cons (psd_set (i := 4) sc.nd (ed_op od_add (ed_var (i := 4)) (ed_lst (ad_cons (ed_tup (ad_cons ed_str (ad_cons (ed_tup (ad_cons ed_str (ad_cons (ed_var (i := 6)) (ad_cons (ed_var (i := 7)) ad_nil)))) (ad_cons (ed_tup (ad_cons ed_str (ad_cons (ed_var (i := 8)) (ad_cons (ed_var (i := 7)) ad_nil)))) ad_nil)))) (ad_cons (ed_tup (ad_cons ed_str (ad_cons (ed_tup (ad_cons ed_str (ad_cons (ed_var (i := 6)) (ad_cons (ed_var (i := 7)) ad_nil)))) (ad_cons (ed_tup (ad_cons ed_str (ad_cons (ed_var (i := 7)) (ad_cons (ed_var (i := 6)) ad_nil)))) ad_nil)))) ad_nil)))))
    (pssd_cons (psd_set (i := 4) sc.nd (ed_op od_add (ed_var (i := 4)) (ed_lst (ad_cons (ed_tup (ad_cons ed_str (ad_cons (ed_tup (ad_cons ed_str (ad_cons (ed_var (i := 6)) (ad_cons (ed_tup (ad_cons ed_str (ad_cons (ed_var (i := 7)) (ad_cons (ed_var (i := 8)) ad_nil)))) ad_nil)))) (ad_cons (ed_tup (ad_cons ed_str (ad_cons (ed_tup (ad_cons ed_str (ad_cons (ed_var (i := 6)) (ad_cons (ed_var (i := 7)) ad_nil)))) (ad_cons (ed_var (i := 8)) ad_nil)))) ad_nil)))) ad_nil))))
    (pssd_cons (psd_set (i := 4) sc.nd (ed_op od_add (ed_var (i := 4)) (ed_lst (ad_cons (ed_tup (ad_cons ed_str (ad_cons (ed_tup (ad_cons ed_str (ad_cons (ed_tup (ad_cons ed_str (ad_cons (ed_var (i := 6)) (ad_cons (ed_var (i := 7)) ad_nil)))) (ad_cons (ed_var (i := 8)) ad_nil)))) (ad_cons (ed_tup (ad_cons ed_str (ad_cons (ed_tup (ad_cons ed_str (ad_cons (ed_var (i := 6)) (ad_cons (ed_var (i := 8)) ad_nil)))) (ad_cons (ed_tup (ad_cons ed_str (ad_cons (ed_var (i := 7)) (ad_cons (ed_var (i := 8)) ad_nil)))) ad_nil)))) ad_nil)))) ad_nil))))
    (pssd_cons (psd_set (i := 4) sc.nd (ed_op od_add (ed_var (i := 4)) (ed_lst (ad_cons (ed_tup (ad_cons ed_str (ad_cons (ed_tup (ad_cons ed_str (ad_cons (ed_tup (ad_cons ed_str (ad_cons (ed_var (i := 6)) (ad_cons (ed_var (i := 7)) ad_nil)))) (ad_cons (ed_var (i := 2)) ad_nil)))) (ad_cons (ed_tup (ad_cons ed_str (ad_cons (ed_tup (ad_cons ed_str (ad_cons (ed_var (i := 6)) (ad_cons (ed_var (i := 2)) ad_nil)))) (ad_cons (ed_tup (ad_cons ed_str (ad_cons (ed_var (i := 7)) (ad_cons (ed_var (i := 2)) ad_nil)))) ad_nil)))) ad_nil)))) ad_nil))))
    (pssd_cons (psd_set (i := 4) sc.nd (ed_op od_add (ed_var (i := 4)) (ed_lst (ad_cons (ed_tup (ad_cons ed_str (ad_cons (ed_tup (ad_cons ed_str (ad_cons (ed_tup (ad_cons ed_str (ad_cons (ed_tup (ad_cons ed_str (ad_cons (ed_var (i := 6)) (ad_cons (ed_var (i := 2)) ad_nil)))) (ad_cons (ed_var (i := 2)) ad_nil)))) (ad_cons (ed_var (i := 2)) ad_nil)))) (ad_cons (ed_tup (ad_cons ed_str (ad_cons (ed_var (i := 6)) (ad_cons (ed_var (i := 2)) ad_nil)))) ad_nil)))) ad_nil))))
    (pssd_cons (psd_set (i := 4) sc.nd (ed_op od_add (ed_var (i := 4)) (ed_lst (ad_cons (ed_tup (ad_cons ed_str (ad_cons (ed_tup (ad_cons ed_str (ad_cons (ed_var (i := 6)) (ad_cons (ed_tup (ad_cons ed_str (ad_cons (ed_var (i := 7)) (ad_cons (ed_var (i := 8)) ad_nil)))) ad_nil)))) (ad_cons (ed_tup (ad_cons ed_str (ad_cons (ed_tup (ad_cons ed_str (ad_cons (ed_var (i := 6)) (ad_cons (ed_var (i := 7)) ad_nil)))) (ad_cons (ed_tup (ad_cons ed_str (ad_cons (ed_var (i := 6)) (ad_cons (ed_var (i := 8)) ad_nil)))) ad_nil)))) ad_nil)))) ad_nil))))
    (pssd_cons (psd_set (i := 4) sc.nd (ed_op od_add (ed_var (i := 4)) (ed_lst (ad_cons (ed_tup (ad_cons ed_str (ad_cons (ed_tup (ad_cons ed_str (ad_cons (ed_tup (ad_cons ed_str (ad_cons (ed_var (i := 6)) (ad_cons (ed_var (i := 7)) ad_nil)))) (ad_cons (ed_tup (ad_cons ed_str (ad_cons (ed_var (i := 6)) (ad_cons (ed_var (i := 8)) ad_nil)))) ad_nil)))) (ad_cons (ed_tup (ad_cons ed_str (ad_cons (ed_var (i := 6)) (ad_cons (ed_tup (ad_cons ed_str (ad_cons (ed_var (i := 7)) (ad_cons (ed_var (i := 8)) ad_nil)))) ad_nil)))) ad_nil)))) ad_nil))))
    (pssd_cons (psd_set (i := 4) sc.nd (ed_op od_add (ed_var (i := 4)) (ed_lst (ad_cons (ed_tup (ad_cons ed_str (ad_cons (ed_tup (ad_cons ed_str (ad_cons (ed_tup (ad_cons ed_str (ad_cons (ed_var (i := 6)) (ad_cons (ed_var (i := 2)) ad_nil)))) (ad_cons (ed_var (i := 7)) ad_nil)))) (ad_cons (ed_tup (ad_cons ed_str (ad_cons (ed_var (i := 6)) (ad_cons (ed_var (i := 7)) ad_nil)))) ad_nil)))) ad_nil))))
    (pssd_cons (psd_set (i := 4) sc.nd (ed_op od_add (ed_var (i := 4)) (ed_lst (ad_cons (ed_tup (ad_cons ed_str (ad_cons (ed_tup (ad_cons ed_str (ad_cons (ed_var (i := 6)) (ad_cons (ed_var (i := 7)) ad_nil)))) (ad_cons (ed_tup (ad_cons ed_str (ad_cons (ed_tup (ad_cons ed_str (ad_cons (ed_var (i := 6)) (ad_cons (ed_var (i := 2)) ad_nil)))) (ad_cons (ed_var (i := 7)) ad_nil)))) ad_nil)))) ad_nil))))
    (pssd_cons (psd_set (i := 5) sc.nd (ed_tup (ad_cons ed_str (ad_cons (ed_var (i := 6)) (ad_cons (ed_var (i := 2)) ad_nil)))))
    (pssd_cons (psd_set (i := 4) sc.nd (ed_op od_add (ed_var (i := 4)) (ed_lst (ad_cons (ed_tup (ad_cons ed_str (ad_cons (ed_tup (ad_cons ed_str (ad_cons (ed_var (i := 5)) (ad_cons (ed_tup (ad_cons ed_str (ad_cons (ed_var (i := 7)) (ad_cons (ed_var (i := 8)) ad_nil)))) ad_nil)))) (ad_cons (ed_tup (ad_cons ed_str (ad_cons (ed_tup (ad_cons ed_str (ad_cons (ed_var (i := 5)) (ad_cons (ed_var (i := 7)) ad_nil)))) (ad_cons (ed_tup (ad_cons ed_str (ad_cons (ed_var (i := 5)) (ad_cons (ed_var (i := 8)) ad_nil)))) ad_nil)))) ad_nil)))) ad_nil))))
    (pssd_cons (psd_set (i := 4) sc.nd (ed_op od_add (ed_var (i := 4)) (ed_lst (ad_cons (ed_tup (ad_cons ed_str (ad_cons (ed_var (i := 2)) (ad_cons (ed_var (i := 6)) ad_nil)))) (ad_cons (ed_var (i := 6)) (ad_cons (ed_tup (ad_cons ed_str (ad_cons (ed_tup (ad_cons ed_str (ad_cons (ed_var (i := 6)) (ad_cons (ed_var (i := 6)) ad_nil)))) (ad_cons (ed_var (i := 7)) ad_nil)))) ad_nil))))))
    (pssd_cons (psd_set (i := 4) sc.nd (ed_op od_add (ed_var (i := 4)) (ed_lst (ad_cons (ed_tup (ad_cons ed_str (ad_cons (ed_tup (ad_cons ed_str (ad_cons (ed_var (i := 6)) (ad_cons (ed_var (i := 7)) ad_nil)))) (ad_cons (ed_tup (ad_cons ed_str (ad_cons (ed_tup (ad_cons ed_str (ad_cons (ed_var (i := 7)) (ad_cons (ed_var (i := 8)) ad_nil)))) (ad_cons (ed_tup (ad_cons ed_str (ad_cons (ed_var (i := 6)) (ad_cons (ed_var (i := 8)) ad_nil)))) ad_nil)))) ad_nil)))) ad_nil))))
    (pssd_one (psd_ret (ed_ix (ed_var (i := 4)) (ed_op od_mod (ed_var (i := 1)) ed_int))))))))))))))))))))))
theorem sc_law_wide : FnScope N_law_wide ["_law_seed", "_law_cell", "_law_most"] (defScope s_law_wide) := ⟨rfl, rfl, rfl, by decide +kernel, rfl, by decide +kernel, by decide +kernel⟩
theorem w_law_wide {k : Nat} (T : Txt K mg) (c_law_name_by : Cal P w K mg base "_law_name_by" k ["_law_seed", "_law_k"] sem_law_name_by) : Cal P w K mg base "_law_wide" (k + 1) ["_law_seed", "_law_cell", "_law_most"] (bodyD 13 F_law_wide) := by
  obtain ⟨f, fd, D, hm, hb⟩ := T.d_law_wide.ex
  have sc := sc_law_wide
  refine callee_of (N := N_law_wide) D sc hm hb fun cdv A outer s H E W hr => ?_
  exact (pssd_cons (psd_set (i := 3) sc.nd (ed_op od_add ed_int (ed_op od_mod (ed_op od_div (ed_var (i := 1)) ed_int) (ed_op od_sub (ed_var (i := 2)) ed_int))))
    (pssd_cons (psd_set (i := 4) sc.nd (ed_lc (x := "_law_k") (i := 10) rfl sc.nd (id_rng1 T.z_range (ad_cons (ed_var (i := 3)) ad_nil)) (blkOk_by (own := [("_law_k", 10)]) (N := N_law_wide) (sc := defScope s_law_wide) (by decide +kernel)) (fun _ _ _ _ _ => pg_name (i := 10) sc.nd rfl (Or.inl rfl)) (fun _ _ _ _ _ => tds_nil) (fun _ _ _ _ _ => (ed_tup (ad_cons ed_str (ad_cons (ed_call c_law_name_by hr passD (ad_cons (ed_op od_mod (ed_var (i := 0)) ed_int) (ad_cons (ed_var (i := 10)) ad_nil)) (an_cons (an_cons an_nil))) ad_nil))))))
    (pssd_cons (psd_set (i := 5) sc.nd (ed_op od_mod (ed_op od_div (ed_var (i := 1)) ed_int) (ed_var (i := 3))))
    (pssd_cons (psd_set (i := 6) sc.nd (ed_op od_mod (ed_var (i := 1)) ed_int))
    (pssd_cons (psd_if (td_cmp od_gt (ed_var (i := 6)) ed_int) (pssd_cons (psd_set (i := 3) sc.nd (ed_callB (cd_min2 rfl) T.z_min (ad_cons (ed_var (i := 3)) (ad_cons ed_int ad_nil))))
    (pssD_g (pssG_cons (psG_takeLc (i := 11) (x := "_law_k") (j := 10) rfl sc.nd (id_rng1 T.z_range (ad_cons (ed_op od_sub (ed_var (i := 3)) ed_int) ad_nil)) (blkOk_by (own := [("_law_k", 10)]) (N := N_law_wide) (sc := defScope s_law_wide) (by decide +kernel)) (fun _ _ _ _ _ => pg_name (i := 10) sc.nd rfl (Or.inl rfl)) (fun _ _ _ _ _ => tds_nil) (fun _ _ _ _ _ => (ed_tup (ad_cons ed_str (ad_cons (ed_ix (ed_var (i := 4)) (ed_var (i := 10))) (ad_cons (ed_ix (ed_var (i := 4)) (ed_op od_add (ed_var (i := 10)) ed_int)) ad_nil))))))
    (pssG_cons (psG_if (td_cmp (od_eq hr.units) (ed_var (i := 6)) ed_int) (pssG_one (psG_putI (i := 11) (ed_op od_mod (ed_var (i := 5)) (ed_op od_sub (ed_var (i := 3)) ed_int)) (ed_ix (ed_var (i := 4)) (ed_op od_mod (ed_var (i := 5)) (ed_var (i := 3)))))) pssG_nil)
    (pssG_cons (psG_set (j := 8) (by decide) sc.nd (ed_ix (ed_var (i := 11)) ed_int))
    (pssG_cons (psG_for (j := 12) (by decide) sc.nd PassesOwn.never rfl (in_list (en_cut (ed_var (i := 11)) (od_some ed_int) od_none)) (pssG_one (psG_set (j := 8) (by decide) sc.nd (ed_tup (ad_cons ed_str (ad_cons (ed_var (i := 8)) (ad_cons (ed_var (i := 12)) ad_nil)))))))
    (pssG_one (psG_ret (eD_N (ed_tup (ad_cons ed_str (ad_cons (ed_var (i := 8)) (ad_cons (ed_tup (ad_cons ed_str (ad_cons (ed_ix (ed_var (i := 4)) ed_int) (ad_cons (ed_ix (ed_var (i := 4)) (ed_op od_sub (ed_var (i := 3)) ed_int)) ad_nil)))) ad_nil))))))))))))) pssd_nil)
    (pssd_cons (psd_set (i := 7) sc.nd (ed_ix (ed_lst (ad_cons ed_str (ad_cons ed_str (ad_cons ed_str (ad_cons ed_str ad_nil))))) (ed_var (i := 6))))
    (pssd_cons (psd_set (i := 8) sc.nd (ed_ix (ed_var (i := 4)) (ed_op od_sub (ed_var (i := 3)) ed_int)))
    (pssd_cons (psd_set (i := 9) sc.nd (ed_ix (ed_var (i := 4)) ed_int))
    (pssd_cons (psd_for PassesOwn.never rfl (id_rng2 T.z_range (ad_cons ed_int (ad_cons (ed_var (i := 3)) ad_nil))) (gd_name (i := 10) sc.nd) (pssd_cons (psd_set (i := 8) sc.nd (ed_tup (ad_cons (ed_var (i := 7)) (ad_cons (ed_ix (ed_var (i := 4)) (ed_op od_sub (ed_op od_sub (ed_var (i := 3)) ed_int) (ed_var (i := 10)))) (ad_cons (ed_var (i := 8)) ad_nil)))))
    (pssd_one (psd_set (i := 9) sc.nd (ed_tup (ad_cons (ed_var (i := 7)) (ad_cons (ed_ix (ed_var (i := 4)) (ed_var (i := 10))) (ad_cons (ed_var (i := 9)) ad_nil))))))))
    (pssd_cons (psd_if (PW.pt (td_and (td_cmp (od_eq hr.units) (ed_var (i := 6)) ed_int) (td_and1 (td_cmp od_lt (ed_var (i := 3)) ed_int)))) (pssd_one (psd_ret (ed_tup (ad_cons ed_str (ad_cons (ed_var (i := 8)) (ad_cons (ed_var (i := 9)) ad_nil)))))) pssd_nil)
    (pssd_one (psd_ret (ed_ix (ed_lst (ad_cons (ed_tup (ad_cons ed_str (ad_cons (ed_var (i := 8)) (ad_cons (ed_ix (ed_var (i := 4)) (ed_var (i := 5))) ad_nil)))) (ad_cons (ed_tup (ad_cons ed_str (ad_cons (ed_ix (ed_var (i := 4)) (ed_var (i := 5))) (ad_cons (ed_var (i := 8)) ad_nil)))) ad_nil))) (ed_op od_mod (ed_op od_div (ed_var (i := 1)) ed_int) ed_int))))))))))))))
theorem sc_law_drawn : FnScope N_law_drawn ["_law_script", "_law_first", "_law_many", "_law_most"] (defScope s_law_drawn) := ⟨rfl, rfl, rfl, by decide +kernel, rfl, by decide +kernel, by decide +kernel⟩
theorem w_law_drawn {k : Nat} (T : Txt K mg) (c_law_cell_at : Cal P w K mg base "_law_cell_at" k ["_law_script", "_law_k"] sem_law_cell_at) (c_law_known_by : Cal P w K mg base "_law_known_by" k ["_law_seed", "_law_cell"] sem_law_known_by) (c_law_statement_by : Cal P w K mg base "_law_statement_by" k ["_law_cells", "_law_seed"] sem_law_statement_by) (c_law_wide : Cal P w K mg base "_law_wide" k ["_law_seed", "_law_cell", "_law_most"] sem_law_wide) : Cal P w K mg base "_law_drawn" (k + 1) ["_law_script", "_law_first", "_law_many", "_law_most"] (bodyD 6 F_law_drawn) := by
  obtain ⟨f, fd, D, hm, hb⟩ := T.d_law_drawn.ex
  have sc := sc_law_drawn
  refine callee_of (N := N_law_drawn) D sc hm hb fun cdv A outer s H E W hr => ?_
  exact (pssd_cons (psd_set (i := 4) sc.nd (ed_call c_law_cell_at hr passD (ad_cons (ed_var (i := 0)) (ad_cons ed_int ad_nil)) (an_cons (an_cons an_nil))))
    (pssd_cons (psd_set (i := 5) sc.nd (ed_call c_law_cell_at hr passD (ad_cons (ed_var (i := 0)) (ad_cons (ed_var (i := 1)) ad_nil)) (an_cons (an_cons an_nil))))
    (pssd_cons (psd_if (td_cmp (od_eq hr.units) (ed_op od_mod (ed_var (i := 5)) ed_int) ed_int) (pssd_one (psd_ret (ed_call c_law_wide hr passD (ad_cons (ed_var (i := 4)) (ad_cons (ed_op od_div (ed_var (i := 5)) ed_int) (ad_cons (ed_var (i := 3)) ad_nil))) (an_cons (an_cons (an_cons an_nil)))))) pssd_nil)
    (pssd_cons (psd_if (td_cmp (od_eq hr.units) (ed_op od_mod (ed_var (i := 5)) ed_int) ed_int) (pssd_one (psd_ret (ed_call c_law_known_by hr passD (ad_cons (ed_var (i := 4)) (ad_cons (ed_op od_div (ed_var (i := 5)) ed_int) ad_nil)) (an_cons (an_cons an_nil))))) pssd_nil)
    (pssd_one (psd_ret (ed_call c_law_statement_by hr passD (ad_cons (ed_cut (ed_var (i := 0)) (od_some (ed_op od_add (ed_var (i := 1)) ed_int)) (od_some (ed_op od_add (ed_op od_add (ed_var (i := 1)) ed_int) (ed_var (i := 2))))) (ad_cons (ed_var (i := 4)) ad_nil)) (an_cons (an_cons an_nil)))))))))
theorem sc_law_names : FnScope N_law_names ["_law_statement"] (defScope s_law_names) := ⟨rfl, rfl, rfl, by decide +kernel, rfl, by decide +kernel, by decide +kernel⟩
theorem w_law_names {k : Nat} (T : Txt K mg) {self : List PyData → Res PyData} (c_self : Cal P w K mg base "_law_names" k ["_law_statement"] self) : Cal P w K mg base "_law_names" (k + 1) ["_law_statement"] (bodyD 3 (F_law_names self)) := by
  obtain ⟨f, fd, D, hm, hb⟩ := T.d_law_names.ex
  have sc := sc_law_names
  refine callee_of (N := N_law_names) D sc hm hb fun cdv A outer s H E W hr => ?_
  exact (pssd_cons (psd_if (td_cmp (od_eq hr.units) (ed_callB cd_len T.z_len (ad_cons (ed_var (i := 0)) ad_nil)) ed_int) (pssd_one (psd_ret (ed_lst (ad_cons (ed_ix (ed_var (i := 0)) ed_int) ad_nil)))) pssd_nil)
    (pssd_cons (psd_if (td_cmp (od_eq hr.units) (ed_callB cd_len T.z_len (ad_cons (ed_var (i := 0)) ad_nil)) ed_int) (pssd_one (psd_ret (ed_lst ad_nil))) pssd_nil)
    (pssd_cons (psd_set (i := 1) sc.nd (ed_call c_self hr passD (ad_cons (ed_ix (ed_var (i := 0)) ed_int) ad_nil) (an_cons an_nil)))
    (pssd_one (psd_ret (ed_op od_add (ed_var (i := 1)) (ed_lc (x := "_law_name") (i := 2) rfl sc.nd (id_list (ed_call c_self hr passD (ad_cons (ed_ix (ed_var (i := 0)) ed_int) ad_nil) (an_cons an_nil))) (blkOk_by (own := [("_law_name", 2)]) (N := N_law_names) (sc := defScope s_law_names) (by decide +kernel)) (fun _ _ _ _ _ => pg_name (i := 2) sc.nd rfl (Or.inl rfl)) (fun _ _ _ _ _ => (tds_one (td_cmp (od_notIn (units65 hr)) (ed_var (i := 2)) (ed_var (i := 1))))) (fun _ _ _ _ _ => (ed_var (i := 2))))))))))
theorem sc_law_true : FnScope N_law_true ["_law_statement", "_law_names_here", "_law_table"] (defScope s_law_true) := ⟨rfl, rfl, rfl, by decide +kernel, rfl, by decide +kernel, by decide +kernel⟩
theorem w_law_true {k : Nat} (T : Txt K mg) {self : List PyData → Res PyData} (c_self : Cal P w K mg base "_law_true" k ["_law_statement", "_law_names_here", "_law_table"] self) : Cal P w K mg base "_law_true" (k + 1) ["_law_statement", "_law_names_here", "_law_table"] (bodyD 6 (F_law_true self)) := by
  obtain ⟨f, fd, D, hm, hb⟩ := T.d_law_true.ex
  have sc := sc_law_true
  refine callee_of (N := N_law_true) D sc hm hb fun cdv A outer s H E W hr => ?_
  exact (pssd_cons (psd_set (i := 3) sc.nd (ed_ix (ed_var (i := 0)) ed_int))
    (pssd_cons (psd_if (td_cmp (od_eq hr.units) (ed_var (i := 3)) ed_str) (pssd_one (psd_ret (ed_cmp (od_eq hr.units) (ed_op od_mod (ed_op od_div (ed_var (i := 2)) (ed_ix (ed_lst (ad_cons ed_int (ad_cons ed_int (ad_cons ed_int (ad_cons ed_int ad_nil))))) (ed_lindex (ed_var (i := 1)) (ed_ix (ed_var (i := 0)) ed_int)))) ed_int) ed_int))) pssd_nil)
    (pssd_cons (psd_if (td_cmp (od_eq hr.units) (ed_var (i := 3)) ed_str) (pssd_one (psd_ret ed_bl)) pssd_nil)
    (pssd_cons (psd_set (i := 4) sc.nd (ed_call c_self hr passD (ad_cons (ed_ix (ed_var (i := 0)) ed_int) (ad_cons (ed_var (i := 1)) (ad_cons (ed_var (i := 2)) ad_nil))) (an_cons (an_cons (an_cons an_nil)))))
    (pssd_cons (psd_set (i := 5) sc.nd (ed_call c_self hr passD (ad_cons (ed_ix (ed_var (i := 0)) ed_int) (ad_cons (ed_var (i := 1)) (ad_cons (ed_var (i := 2)) ad_nil))) (an_cons (an_cons (an_cons an_nil)))))
    (pssd_one (psd_ret (ed_dict3 (by decide +kernel) (by decide +kernel) (by decide +kernel) (hu_of hr) (ed_and (ed_var (i := 4)) (ed_one (ed_var (i := 5)))) (ed_or (ed_var (i := 4)) (ed_one (ed_var (i := 5)))) (ed_or (ed_var (i := 5)) (ed_one (ed_not (ed_var (i := 4))))) (ed_var (i := 3)) (fun _ _ => rfl)))))))))
theorem sc_law : FnScope N_law ["_law_script"] (defScope s_law) := ⟨rfl, rfl, rfl, by decide +kernel, rfl, by decide +kernel, by decide +kernel⟩
theorem w_law {k : Nat} (T : Txt K mg) (hk : 110 ≤ k) (c_law_drawn : Cal P w K mg base "_law_drawn" k ["_law_script", "_law_first", "_law_many", "_law_most"] sem_law_drawn) (c_law_names : Cal P w K mg base "_law_names" k ["_law_statement"] (sem_law_names 10)) (c_law_true : Cal P w K mg base "_law_true" k ["_law_statement", "_law_names_here", "_law_table"] (sem_law_true 10)) (c_is_shown : Cal P w K mg base "is_shown" k ["statement"] sem_is_shown) : Cal P w K mg base "law" (k + 1) ["_law_script"] (bodyD 7 F_law) := by
  obtain ⟨f, fd, D, hm, hb⟩ := T.d_law.ex
  have sc := sc_law
  refine callee_of (N := N_law) D sc hm hb fun cdv A outer s H E W hr => ?_
  exact (pssd_cons (psd_set (i := 1) sc.nd (ed_call c_law_drawn hr passD (ad_cons (ed_var (i := 0)) (ad_cons ed_int (ad_cons ed_int (ad_cons ed_int ad_nil)))) (an_cons (an_cons (an_cons (an_cons an_nil))))))
    (pssd_cons (psd_set (i := 2) sc.nd (ed_call c_law_names hr passD (ad_cons (ed_var (i := 1)) ad_nil) (an_cons an_nil)))
    (pssd_cons (psd_setLc (i := 3) (x := "_law_table") (j := 6) rfl sc.nd (id_rng1 T.z_range (ad_cons (ed_ix (ed_lst (ad_cons ed_int (ad_cons ed_int (ad_cons ed_int (ad_cons ed_int (ad_cons ed_int ad_nil)))))) (ed_callB cd_len T.z_len (ad_cons (ed_var (i := 2)) ad_nil))) ad_nil)) (blkOk_by (own := [("_law_table", 6)]) (N := N_law) (sc := defScope s_law) (by decide +kernel)) (fun _ _ _ _ _ => pg_name (i := 6) sc.nd rfl (Or.inl rfl)) (fun _ _ _ _ _ => tds_nil) (fun _ _ _ _ _ => (ed_call c_law_true hr passD (ad_cons (ed_var (i := 1)) (ad_cons (ed_var (i := 2)) (ad_cons (ed_var (i := 6)) ad_nil))) (an_cons (an_cons (an_cons an_nil))))))
    (pssd_cons (psd_set (i := 4) sc.nd (ed_tup (ad_cons ed_str (ad_cons (ed_var (i := 1)) (ad_cons (ed_tup (ad_cons ed_str ad_nil)) ad_nil)))))
    (pssd_cons (psd_set (i := 5) sc.nd (ed_told (T.sea.elim fun _ S => told_ex S T.tel) (hr.mono (Nat.le_trans (by decide) hk)) (ad_cons (ed_tup (ad_cons ed_str (ad_cons (ed_var (i := 4)) (ad_cons (ed_tup (ad_cons ed_str ad_nil)) ad_nil)))) ad_nil)))
    (pssd_cons (psd_if (td_cmp (od_ne hr.units) (ed_var (i := 5)) (ed_ix (ed_lst (ad_cons ed_str (ad_cons ed_str ad_nil))) (ed_callT cd_int T.z_int (ad_cons (ed_callB (cd_all rfl) T.z_all (ad_cons (ed_var (i := 3)) ad_nil)) ad_nil)))) (pssd_one (psd_ret ed_bl)) pssd_nil)
    (pssd_cons (psd_if (td_cmp (od_ne hr.units) (ed_call c_is_shown hr passD (ad_cons (ed_var (i := 4)) ad_nil) (an_cons an_nil)) (ed_not (ed_callB (cd_any rfl) T.z_any (ad_cons (ed_var (i := 3)) ad_nil)))) (pssd_one (psd_ret ed_bl)) pssd_nil)
    (pssd_one (psd_ret (ed_or (ed_callB (cd_all rfl) T.z_all (ad_cons (ed_var (i := 3)) ad_nil)) (ed_one (ed_not (ed_call c_is_shown hr passD (ad_cons (ed_var (i := 1)) ad_nil) (an_cons an_nil))))))))))))))
theorem all_ok (T : Txt K mg) : Cal P w K mg base "law" 111 ["_law_script"] sem_law := by
  have c_is_shown : Cal P w K mg base "is_shown" 110 ["statement"] sem_is_shown := w_is_shown (k := 109) T 
  have c_law_cell_at : Cal P w K mg base "_law_cell_at" 1 ["_law_script", "_law_k"] sem_law_cell_at := w_law_cell_at (k := 0) T 
  have c_law_name_by : Cal P w K mg base "_law_name_by" 1 ["_law_seed", "_law_k"] sem_law_name_by := w_law_name_by (k := 0) T 
  have c_law_joined : Cal P w K mg base "_law_joined" 1 ["_law_way", "_law_one", "_law_other"] sem_law_joined := w_law_joined (k := 0) T 
  have c_law_step : Cal P w K mg base "_law_step" 2 ["_law_pile", "_law_cell", "_law_seed"] sem_law_step := w_law_step (k := 1) T (c_law_joined.mono (by decide)) (c_law_name_by.mono (by decide))
  have c_law_statement_by : Cal P w K mg base "_law_statement_by" 3 ["_law_cells", "_law_seed"] sem_law_statement_by := w_law_statement_by (k := 2) T (c_law_name_by.mono (by decide)) (c_law_step.mono (by decide))
  have c_law_known_by : Cal P w K mg base "_law_known_by" 2 ["_law_seed", "_law_cell"] sem_law_known_by := w_law_known_by (k := 1) T (c_law_name_by.mono (by decide))
  have c_law_wide : Cal P w K mg base "_law_wide" 2 ["_law_seed", "_law_cell", "_law_most"] sem_law_wide := w_law_wide (k := 1) T (c_law_name_by.mono (by decide))
  have c_law_drawn : Cal P w K mg base "_law_drawn" 4 ["_law_script", "_law_first", "_law_many", "_law_most"] sem_law_drawn := w_law_drawn (k := 3) T (c_law_cell_at.mono (by decide)) (c_law_known_by.mono (by decide)) (c_law_statement_by.mono (by decide)) (c_law_wide.mono (by decide))
  have c_law_names : ∀ n, Cal P w K mg base "_law_names" (0 + n) ["_law_statement"] (sem_law_names n) := fun n => by
    induction n with
    | zero => exact callee_bad T.d_law_names
    | succ n ih => exact w_law_names (k := 0 + n) T  ih
  have c_law_names := c_law_names 10
  have c_law_true : ∀ n, Cal P w K mg base "_law_true" (0 + n) ["_law_statement", "_law_names_here", "_law_table"] (sem_law_true n) := fun n => by
    induction n with
    | zero => exact callee_bad T.d_law_true
    | succ n ih => exact w_law_true (k := 0 + n) T  ih
  have c_law_true := c_law_true 10
  have c_law : Cal P w K mg base "law" 111 ["_law_script"] sem_law := w_law (k := 110) T (by decide) (c_law_drawn.mono (by decide)) (c_law_names.mono (by decide)) (c_law_true.mono (by decide)) (c_is_shown.mono (by decide))
  exact c_law
end
end
end My

set_option Elab.async false
set_option linter.all false
set_option maxRecDepth 100000
set_option maxHeartbeats 4000000
namespace My
open PySem L2 DL PyProof.Rows
noncomputable section
theorem txt_mk {K : PySem.W.Frag} {h : Heap} {mg : Str → Option Value} (X : K.In h) (G : h.Ns mainGlobals mg)
    {f1 : Addr} {od1 an1 : Option Addr} {sl1 : Array (Option Value)} {oc1 kV1 dc1 pm1 cd1 ct1 : Value}
    {f2 : Addr} {od2 an2 : Option Addr} {sl2 : Array (Option Value)} {oc2 kV2 dc2 pm2 cd2 ct2 : Value}
    {f3 : Addr} {od3 an3 : Option Addr} {sl3 : Array (Option Value)} {oc3 kV3 dc3 pm3 cd3 ct3 : Value}
    {f4 : Addr} {od4 an4 : Option Addr} {sl4 : Array (Option Value)} {oc4 kV4 dc4 pm4 cd4 ct4 : Value}
    {f5 : Addr} {od5 an5 : Option Addr} {sl5 : Array (Option Value)} {oc5 kV5 dc5 pm5 cd5 ct5 : Value}
    {f6 : Addr} {od6 an6 : Option Addr} {sl6 : Array (Option Value)} {oc6 kV6 dc6 pm6 cd6 ct6 : Value}
    {f7 : Addr} {od7 an7 : Option Addr} {sl7 : Array (Option Value)} {oc7 kV7 dc7 pm7 cd7 ct7 : Value}
    {f8 : Addr} {od8 an8 : Option Addr} {sl8 : Array (Option Value)} {oc8 kV8 dc8 pm8 cd8 ct8 : Value}
    {f9 : Addr} {od9 an9 : Option Addr} {sl9 : Array (Option Value)} {oc9 kV9 dc9 pm9 cd9 ct9 : Value}
    {f10 : Addr} {od10 an10 : Option Addr} {sl10 : Array (Option Value)} {oc10 kV10 dc10 pm10 cd10 ct10 : Value}
    {f11 : Addr} {od11 an11 : Option Addr} {sl11 : Array (Option Value)} {oc11 kV11 dc11 pm11 cd11 ct11 : Value}
    {f12 : Addr} {od12 an12 : Option Addr} {sl12 : Array (Option Value)} {oc12 kV12 dc12 pm12 cd12 ct12 : Value}
    {aC aP : Addr} {tM : Tok} {nP : Nat} {sP : Array (Option Value)} {uP1 uP2 uP3 : Tok}
    {f_i : Addr} {od_i an_i : Option Addr} {sl_i : Array (Option Value)} {oc_i kV_i dc_i pm_i cd_i ct_i : Value}
    {f_a : Addr} {od_a an_a : Option Addr} {sl_a : Array (Option Value)} {oc_a kV_a dc_a pm_a cd_a ct_a : Value}
    {f_w : Addr} {od_w an_w : Option Addr} {sl_w : Array (Option Value)} {oc_w kV_w dc_w pm_w cd_w ct_w : Value}
    {f_f : Addr} {od_f an_f : Option Addr} {sl_f : Array (Option Value)} {oc_f kV_f dc_f pm_f cd_f ct_f : Value}
    {f_g : Addr} {od_g an_g : Option Addr} {sl_g : Array (Option Value)} {oc_g kV_g dc_g pm_g cd_g ct_g : Value}
    {f_n : Addr} {od_n an_n : Option Addr} {sl_n : Array (Option Value)} {oc_n kV_n dc_n pm_n cd_n ct_n : Value}
    {f_t : Addr} {od_t an_t : Option Addr} {sl_t : Array (Option Value)} {oc_t kV_t dc_t pm_t cd_t ct_t : Value}
    {f_p : Addr} {od_p an_p : Option Addr} {sl_p : Array (Option Value)} {oc_p kV_p dc_p pm_p cd_p ct_p : Value}
    {f_c : Addr} {od_c an_c : Option Addr} {sl_c : Array (Option Value)} {oc_c kV_c dc_c pm_c cd_c ct_c : Value}
    {f_l : Addr} {od_l an_l : Option Addr} {sl_l : Array (Option Value)} {oc_l kV_l dc_l pm_l cd_l ct_l : Value}
    {f_gh : Addr} {od_gh an_gh : Option Addr} {sl_gh : Array (Option Value)} {oc_gh kV_gh dc_gh pm_gh cd_gh ct_gh : Value}
    {f_nu : Addr} {od_nu an_nu : Option Addr} {sl_nu : Array (Option Value)} {oc_nu kV_nu dc_nu pm_nu cd_nu ct_nu : Value}
    {f_sh : Addr} {od_sh an_sh : Option Addr} {sl_sh : Array (Option Value)} {oc_sh kV_sh dc_sh pm_sh cd_sh ct_sh : Value}
    {f_ne : Addr} {od_ne an_ne : Option Addr} {sl_ne : Array (Option Value)} {oc_ne kV_ne dc_ne pm_ne cd_ne ct_ne : Value}
    {f_so : Addr} {od_so an_so : Option Addr} {sl_so : Array (Option Value)} {oc_so kV_so dc_so pm_so cd_so ct_so : Value}
    {f_ri : Addr} {od_ri an_ri : Option Addr} {sl_ri : Array (Option Value)} {oc_ri kV_ri dc_ri pm_ri cd_ri ct_ri : Value}
    {f_fa : Addr} {od_fa an_fa : Option Addr} {sl_fa : Array (Option Value)} {oc_fa kV_fa dc_fa pm_fa cd_fa ct_fa : Value}
    {f_gw : Addr} {od_gw an_gw : Option Addr} {sl_gw : Array (Option Value)} {oc_gw kV_gw dc_gw pm_gw cd_gw ct_gw : Value}
    {f_to : Addr} {od_to an_to : Option Addr} {sl_to : Array (Option Value)} {oc_to kV_to dc_to pm_to cd_to ct_to : Value}
    (a1 : PySem.W.nsIn K mainGlobals "is_shown" = some (some (.ref f1)))
    (l1 : K.lookup f1 = some ⟨oc1, od1, .func (PySem.W.fnOf "is_shown" "is_shown" (defArgs s_is_shown) (defBody s_is_shown) (defScope s_is_shown) .none kV1 dc1 pm1 an1 cd1 ct1), sl1⟩)
    (c1 : PySem.W.codeIn K cd1 "is_shown" = true) (k1 : PySem.W.keepIn K (.ref f1) = true)
    (a2 : PySem.W.nsIn K mainGlobals "_law_cell_at" = some (some (.ref f2)))
    (l2 : K.lookup f2 = some ⟨oc2, od2, .func (PySem.W.fnOf "_law_cell_at" "_law_cell_at" (defArgs s_law_cell_at) (defBody s_law_cell_at) (defScope s_law_cell_at) .none kV2 dc2 pm2 an2 cd2 ct2), sl2⟩)
    (c2 : PySem.W.codeIn K cd2 "_law_cell_at" = true) (k2 : PySem.W.keepIn K (.ref f2) = true)
    (a3 : PySem.W.nsIn K mainGlobals "_law_name_by" = some (some (.ref f3)))
    (l3 : K.lookup f3 = some ⟨oc3, od3, .func (PySem.W.fnOf "_law_name_by" "_law_name_by" (defArgs s_law_name_by) (defBody s_law_name_by) (defScope s_law_name_by) .none kV3 dc3 pm3 an3 cd3 ct3), sl3⟩)
    (c3 : PySem.W.codeIn K cd3 "_law_name_by" = true) (k3 : PySem.W.keepIn K (.ref f3) = true)
    (a4 : PySem.W.nsIn K mainGlobals "_law_joined" = some (some (.ref f4)))
    (l4 : K.lookup f4 = some ⟨oc4, od4, .func (PySem.W.fnOf "_law_joined" "_law_joined" (defArgs s_law_joined) (defBody s_law_joined) (defScope s_law_joined) .none kV4 dc4 pm4 an4 cd4 ct4), sl4⟩)
    (c4 : PySem.W.codeIn K cd4 "_law_joined" = true) (k4 : PySem.W.keepIn K (.ref f4) = true)
    (a5 : PySem.W.nsIn K mainGlobals "_law_step" = some (some (.ref f5)))
    (l5 : K.lookup f5 = some ⟨oc5, od5, .func (PySem.W.fnOf "_law_step" "_law_step" (defArgs s_law_step) (defBody s_law_step) (defScope s_law_step) .none kV5 dc5 pm5 an5 cd5 ct5), sl5⟩)
    (c5 : PySem.W.codeIn K cd5 "_law_step" = true) (k5 : PySem.W.keepIn K (.ref f5) = true)
    (a6 : PySem.W.nsIn K mainGlobals "_law_statement_by" = some (some (.ref f6)))
    (l6 : K.lookup f6 = some ⟨oc6, od6, .func (PySem.W.fnOf "_law_statement_by" "_law_statement_by" (defArgs s_law_statement_by) (defBody s_law_statement_by) (defScope s_law_statement_by) .none kV6 dc6 pm6 an6 cd6 ct6), sl6⟩)
    (c6 : PySem.W.codeIn K cd6 "_law_statement_by" = true) (k6 : PySem.W.keepIn K (.ref f6) = true)
    (a7 : PySem.W.nsIn K mainGlobals "_law_known_by" = some (some (.ref f7)))
    (l7 : K.lookup f7 = some ⟨oc7, od7, .func (PySem.W.fnOf "_law_known_by" "_law_known_by" (defArgs s_law_known_by) (defBody s_law_known_by) (defScope s_law_known_by) .none kV7 dc7 pm7 an7 cd7 ct7), sl7⟩)
    (c7 : PySem.W.codeIn K cd7 "_law_known_by" = true) (k7 : PySem.W.keepIn K (.ref f7) = true)
    (a8 : PySem.W.nsIn K mainGlobals "_law_wide" = some (some (.ref f8)))
    (l8 : K.lookup f8 = some ⟨oc8, od8, .func (PySem.W.fnOf "_law_wide" "_law_wide" (defArgs s_law_wide) (defBody s_law_wide) (defScope s_law_wide) .none kV8 dc8 pm8 an8 cd8 ct8), sl8⟩)
    (c8 : PySem.W.codeIn K cd8 "_law_wide" = true) (k8 : PySem.W.keepIn K (.ref f8) = true)
    (a9 : PySem.W.nsIn K mainGlobals "_law_drawn" = some (some (.ref f9)))
    (l9 : K.lookup f9 = some ⟨oc9, od9, .func (PySem.W.fnOf "_law_drawn" "_law_drawn" (defArgs s_law_drawn) (defBody s_law_drawn) (defScope s_law_drawn) .none kV9 dc9 pm9 an9 cd9 ct9), sl9⟩)
    (c9 : PySem.W.codeIn K cd9 "_law_drawn" = true) (k9 : PySem.W.keepIn K (.ref f9) = true)
    (a10 : PySem.W.nsIn K mainGlobals "_law_names" = some (some (.ref f10)))
    (l10 : K.lookup f10 = some ⟨oc10, od10, .func (PySem.W.fnOf "_law_names" "_law_names" (defArgs s_law_names) (defBody s_law_names) (defScope s_law_names) .none kV10 dc10 pm10 an10 cd10 ct10), sl10⟩)
    (c10 : PySem.W.codeIn K cd10 "_law_names" = true) (k10 : PySem.W.keepIn K (.ref f10) = true)
    (a11 : PySem.W.nsIn K mainGlobals "_law_true" = some (some (.ref f11)))
    (l11 : K.lookup f11 = some ⟨oc11, od11, .func (PySem.W.fnOf "_law_true" "_law_true" (defArgs s_law_true) (defBody s_law_true) (defScope s_law_true) .none kV11 dc11 pm11 an11 cd11 ct11), sl11⟩)
    (c11 : PySem.W.codeIn K cd11 "_law_true" = true) (k11 : PySem.W.keepIn K (.ref f11) = true)
    (a12 : PySem.W.nsIn K mainGlobals "law" = some (some (.ref f12)))
    (l12 : K.lookup f12 = some ⟨oc12, od12, .func (PySem.W.fnOf "law" "law" (defArgs s_law) (defBody s_law) (defScope s_law) .none kV12 dc12 pm12 an12 cd12 ct12), sl12⟩)
    (c12 : PySem.W.codeIn K cd12 "law" = true) (k12 : PySem.W.keepIn K (.ref f12) = true)
    (gC : PySem.W.nsIn K mainGlobals "Search" = some (some (.ref aC)))
    (at_i : PySem.W.findIn K (.ref aC) "__init__" = some (some (.ref f_i)))
    (fn_i : PySem.W.isFn K (.ref f_i) = true)
    (lk_i : K.lookup f_i = some ⟨oc_i, od_i, .func (PySem.W.fnOf "__init__" "Search.__init__" (defArgs mInit) (defBody mInit) (defScope mInit) .none kV_i dc_i pm_i an_i cd_i ct_i), sl_i⟩)
    (co_i : PySem.W.codeIn K cd_i "Search.__init__" = true)
    (kp_i : PySem.W.keepIn K (.ref f_i) = true)
    (at_a : PySem.W.findIn K (.ref aC) "add" = some (some (.ref f_a)))
    (fn_a : PySem.W.isFn K (.ref f_a) = true)
    (lk_a : K.lookup f_a = some ⟨oc_a, od_a, .func (PySem.W.fnOf "add" "Search.add" (defArgs mAdd) (defBody mAdd) (defScope mAdd) .none kV_a dc_a pm_a an_a cd_a ct_a), sl_a⟩)
    (co_a : PySem.W.codeIn K cd_a "Search.add" = true)
    (kp_a : PySem.W.keepIn K (.ref f_a) = true)
    (at_w : PySem.W.findIn K (.ref aC) "with_one" = some (some (.ref f_w)))
    (fn_w : PySem.W.isFn K (.ref f_w) = true)
    (lk_w : K.lookup f_w = some ⟨oc_w, od_w, .func (PySem.W.fnOf "with_one" "Search.with_one" (defArgs mWith) (defBody mWith) (defScope mWith) .none kV_w dc_w pm_w an_w cd_w ct_w), sl_w⟩)
    (co_w : PySem.W.codeIn K cd_w "Search.with_one" = true)
    (kp_w : PySem.W.keepIn K (.ref f_w) = true)
    (at_f : PySem.W.findIn K (.ref aC) "shown_from" = some (some (.ref f_f)))
    (fn_f : PySem.W.isFn K (.ref f_f) = true)
    (lk_f : K.lookup f_f = some ⟨oc_f, od_f, .func (PySem.W.fnOf "shown_from" "Search.shown_from" (defArgs mFrom) (defBody mFrom) (defScope mFrom) .none kV_f dc_f pm_f an_f cd_f ct_f), sl_f⟩)
    (co_f : PySem.W.codeIn K cd_f "Search.shown_from" = true)
    (kp_f : PySem.W.keepIn K (.ref f_f) = true)
    (at_g : PySem.W.findIn K (.ref aC) "grown" = some (some (.ref f_g)))
    (fn_g : PySem.W.isFn K (.ref f_g) = true)
    (lk_g : K.lookup f_g = some ⟨oc_g, od_g, .func (PySem.W.fnOf "grown" "Search.grown" (defArgs mGrown) (defBody mGrown) (defScope mGrown) .none kV_g dc_g pm_g an_g cd_g ct_g), sl_g⟩)
    (co_g : PySem.W.codeIn K cd_g "Search.grown" = true)
    (kp_g : PySem.W.keepIn K (.ref f_g) = true)
    (at_n : PySem.W.findIn K (.ref aC) "numbers_in" = some (some (.ref f_n)))
    (fn_n : PySem.W.isFn K (.ref f_n) = true)
    (lk_n : K.lookup f_n = some ⟨oc_n, od_n, .func (PySem.W.fnOf "numbers_in" "Search.numbers_in" (defArgs mNums) (defBody mNums) (defScope mNums) .none kV_n dc_n pm_n an_n cd_n ct_n), sl_n⟩)
    (co_n : PySem.W.codeIn K cd_n "Search.numbers_in" = true)
    (kp_n : PySem.W.keepIn K (.ref f_n) = true)
    (at_t : PySem.W.findIn K (.ref aC) "taken_apart" = some (some (.ref f_t)))
    (fn_t : PySem.W.isFn K (.ref f_t) = true)
    (lk_t : K.lookup f_t = some ⟨oc_t, od_t, .func (PySem.W.fnOf "taken_apart" "Search.taken_apart" (defArgs mTaken) (defBody mTaken) (defScope mTaken) .none kV_t dc_t pm_t an_t cd_t ct_t), sl_t⟩)
    (co_t : PySem.W.codeIn K cd_t "Search.taken_apart" = true)
    (kp_t : PySem.W.keepIn K (.ref f_t) = true)
    (at_p : PySem.W.findIn K (.ref aC) "put_together" = some (some (.ref f_p)))
    (fn_p : PySem.W.isFn K (.ref f_p) = true)
    (lk_p : K.lookup f_p = some ⟨oc_p, od_p, .func (PySem.W.fnOf "put_together" "Search.put_together" (defArgs mPut) (defBody mPut) (defScope mPut) .none kV_p dc_p pm_p an_p cd_p ct_p), sl_p⟩)
    (co_p : PySem.W.codeIn K cd_p "Search.put_together" = true)
    (kp_p : PySem.W.keepIn K (.ref f_p) = true)
    (at_c : PySem.W.findIn K (.ref aC) "by_cases" = some (some (.ref f_c)))
    (fn_c : PySem.W.isFn K (.ref f_c) = true)
    (lk_c : K.lookup f_c = some ⟨oc_c, od_c, .func (PySem.W.fnOf "by_cases" "Search.by_cases" (defArgs mCases) (defBody mCases) (defScope mCases) .none kV_c dc_c pm_c an_c cd_c ct_c), sl_c⟩)
    (co_c : PySem.W.codeIn K cd_c "Search.by_cases" = true)
    (kp_c : PySem.W.keepIn K (.ref f_c) = true)
    (at_l : PySem.W.findIn K (.ref aC) "both_lead" = some (some (.ref f_l)))
    (fn_l : PySem.W.isFn K (.ref f_l) = true)
    (lk_l : K.lookup f_l = some ⟨oc_l, od_l, .func (PySem.W.fnOf "both_lead" "Search.both_lead" (defArgs mLead) (defBody mLead) (defScope mLead) .none kV_l dc_l pm_l an_l cd_l ct_l), sl_l⟩)
    (co_l : PySem.W.codeIn K cd_l "Search.both_lead" = true)
    (kp_l : PySem.W.keepIn K (.ref f_l) = true)
    (at_gh : PySem.W.nsIn K mainGlobals "gathered" = some (some (.ref f_gh)))
    (lk_gh : K.lookup f_gh = some ⟨oc_gh, od_gh, .func (PySem.W.fnOf "gathered" "gathered" (defArgs sGath) (defBody sGath) (defScope sGath) .none kV_gh dc_gh pm_gh an_gh cd_gh ct_gh), sl_gh⟩)
    (co_gh : PySem.W.codeIn K cd_gh "gathered" = true)
    (kp_gh : PySem.W.keepIn K (.ref f_gh) = true)
    (at_nu : PySem.W.nsIn K mainGlobals "numbered" = some (some (.ref f_nu)))
    (lk_nu : K.lookup f_nu = some ⟨oc_nu, od_nu, .func (PySem.W.fnOf "numbered" "numbered" (defArgs sNumd) (defBody sNumd) (defScope sNumd) .none kV_nu dc_nu pm_nu an_nu cd_nu ct_nu), sl_nu⟩)
    (co_nu : PySem.W.codeIn K cd_nu "numbered" = true)
    (kp_nu : PySem.W.keepIn K (.ref f_nu) = true)
    (at_sh : PySem.W.nsIn K mainGlobals "is_shown" = some (some (.ref f_sh)))
    (lk_sh : K.lookup f_sh = some ⟨oc_sh, od_sh, .func (PySem.W.fnOf "is_shown" "is_shown" (defArgs sShown) (defBody sShown) (defScope sShown) .none kV_sh dc_sh pm_sh an_sh cd_sh ct_sh), sl_sh⟩)
    (co_sh : PySem.W.codeIn K cd_sh "is_shown" = true)
    (kp_sh : PySem.W.keepIn K (.ref f_sh) = true)
    (c_pg : PySem.W.plainGet K aC Str.empty = true)
    (c_hd : PySem.W.hasDictIn K aC = true)
    (c_po : PySem.W.plainOver K aC = true)
    (c_sa : PySem.W.findIn K (.ref aC) "__setattr__" = some (some (.builtin "object.__setattr__")))
    (c_mk : PySem.W.makesIn K aC = true)
    (c_kc : PySem.W.keepIn K (.ref aC) = true)
    (nN : PySem.W.findIn K (.ref aC) "numbers" = some none)
    (nP_ : PySem.W.findIn K (.ref aC) "parts" = some none)
    (nR : PySem.W.findIn K (.ref aC) "rows" = some none)
    (nT : PySem.W.findIn K (.ref aC) "theories" = some none)
    (gP : PySem.W.nsIn K mainGlobals "PAIRS" = some (some (.ref aP)))
    (lP : K.lookup aP = some ⟨.type "tuple", none, .seq #[.str "and" uP1, .str "or" uP2, .str "then" uP3] nP, sP⟩)
    (gM : PySem.W.nsIn K mainGlobals "MOST_PARTS" = some (some (.int 16 tM)))
    (y_len : PySem.W.nsIn K mainGlobals "len" = some none)
    (y_list : PySem.W.nsIn K mainGlobals "list" = some none)
    (y_tuple : PySem.W.nsIn K mainGlobals "tuple" = some none)
    (y_range : PySem.W.nsIn K mainGlobals "range" = some none)
    (y_sorted : PySem.W.nsIn K mainGlobals "sorted" = some none)
    (at_ne : PySem.W.nsIn K mainGlobals "needed" = some (some (.ref f_ne)))
    (lk_ne : K.lookup f_ne = some ⟨oc_ne, od_ne, .func (PySem.W.fnOf "needed" "needed" (defArgs sNeed) (defBody sNeed) (defScope sNeed) .none kV_ne dc_ne pm_ne an_ne cd_ne ct_ne), sl_ne⟩)
    (co_ne : PySem.W.codeIn K cd_ne "needed" = true)
    (kp_ne : PySem.W.keepIn K (.ref f_ne) = true)
    (at_so : PySem.W.nsIn K mainGlobals "showing_of" = some (some (.ref f_so)))
    (lk_so : K.lookup f_so = some ⟨oc_so, od_so, .func (PySem.W.fnOf "showing_of" "showing_of" (defArgs sShow) (defBody sShow) (defScope sShow) .none kV_so dc_so pm_so an_so cd_so ct_so), sl_so⟩)
    (co_so : PySem.W.codeIn K cd_so "showing_of" = true)
    (kp_so : PySem.W.keepIn K (.ref f_so) = true)
    (at_ri : PySem.W.nsIn K mainGlobals "ripe" = some (some (.ref f_ri)))
    (lk_ri : K.lookup f_ri = some ⟨oc_ri, od_ri, .func (PySem.W.fnOf "ripe" "ripe" (defArgs sRipe) (defBody sRipe) (defScope sRipe) .none kV_ri dc_ri pm_ri an_ri cd_ri ct_ri), sl_ri⟩)
    (co_ri : PySem.W.codeIn K cd_ri "ripe" = true)
    (kp_ri : PySem.W.keepIn K (.ref f_ri) = true)
    (at_fa : PySem.W.nsIn K mainGlobals "is_failing" = some (some (.ref f_fa)))
    (lk_fa : K.lookup f_fa = some ⟨oc_fa, od_fa, .func (PySem.W.fnOf "is_failing" "is_failing" (defArgs sFail) (defBody sFail) (defScope sFail) .none kV_fa dc_fa pm_fa an_fa cd_fa ct_fa), sl_fa⟩)
    (co_fa : PySem.W.codeIn K cd_fa "is_failing" = true)
    (kp_fa : PySem.W.keepIn K (.ref f_fa) = true)
    (at_gw : PySem.W.nsIn K mainGlobals "grow" = some (some (.ref f_gw)))
    (lk_gw : K.lookup f_gw = some ⟨oc_gw, od_gw, .func (PySem.W.fnOf "grow" "grow" (defArgs sGrow) (defBody sGrow) (defScope sGrow) .none kV_gw dc_gw pm_gw an_gw cd_gw ct_gw), sl_gw⟩)
    (co_gw : PySem.W.codeIn K cd_gw "grow" = true)
    (kp_gw : PySem.W.keepIn K (.ref f_gw) = true)
    (at_to : PySem.W.nsIn K mainGlobals "told" = some (some (.ref f_to)))
    (lk_to : K.lookup f_to = some ⟨oc_to, od_to, .func (PySem.W.fnOf "told" "told" (defArgs sTold) (defBody sTold) (defScope sTold) .none kV_to dc_to pm_to an_to cd_to ct_to), sl_to⟩)
    (co_to : PySem.W.codeIn K cd_to "told" = true)
    (kp_to : PySem.W.keepIn K (.ref f_to) = true)
    (z_all : PySem.W.nsIn K mainGlobals "all" = some none)
    (z_any : PySem.W.nsIn K mainGlobals "any" = some none)
    (z_int : PySem.W.nsIn K mainGlobals "int" = some none)
    (z_len : PySem.W.nsIn K mainGlobals "len" = some none)
    (z_min : PySem.W.nsIn K mainGlobals "min" = some none)
    (z_range : PySem.W.nsIn K mainGlobals "range" = some none) : Txt K mg where
    d_is_shown := defAt_mk X G a1 l1 c1 k1 fun _ _ _ _ _ _ us hl => match us, hl with | [_], _ => rfl
    d_law_cell_at := defAt_mk X G a2 l2 c2 k2 fun _ _ _ _ _ _ us hl => match us, hl with | [_, _], _ => rfl
    d_law_name_by := defAt_mk X G a3 l3 c3 k3 fun _ _ _ _ _ _ us hl => match us, hl with | [_, _], _ => rfl
    d_law_joined := defAt_mk X G a4 l4 c4 k4 fun _ _ _ _ _ _ us hl => match us, hl with | [_, _, _], _ => rfl
    d_law_step := defAt_mk X G a5 l5 c5 k5 fun _ _ _ _ _ _ us hl => match us, hl with | [_, _, _], _ => rfl
    d_law_statement_by := defAt_mk X G a6 l6 c6 k6 fun _ _ _ _ _ _ us hl => match us, hl with | [_, _], _ => rfl
    d_law_known_by := defAt_mk X G a7 l7 c7 k7 fun _ _ _ _ _ _ us hl => match us, hl with | [_, _], _ => rfl
    d_law_wide := defAt_mk X G a8 l8 c8 k8 fun _ _ _ _ _ _ us hl => match us, hl with | [_, _, _], _ => rfl
    d_law_drawn := defAt_mk X G a9 l9 c9 k9 fun _ _ _ _ _ _ us hl => match us, hl with | [_, _, _, _], _ => rfl
    d_law_names := defAt_mk X G a10 l10 c10 k10 fun _ _ _ _ _ _ us hl => match us, hl with | [_], _ => rfl
    d_law_true := defAt_mk X G a11 l11 c11 k11 fun _ _ _ _ _ _ us hl => match us, hl with | [_, _, _], _ => rfl
    d_law := defAt_mk X G a12 l12 c12 k12 fun _ _ _ _ _ _ us hl => match us, hl with | [_], _ => rfl
    sea := ⟨aC, txi_mk X G gC at_i fn_i lk_i co_i kp_i at_a fn_a lk_a co_a kp_a at_w fn_w lk_w co_w kp_w at_f fn_f lk_f co_f kp_f at_g fn_g lk_g co_g kp_g at_n fn_n lk_n co_n kp_n at_t fn_t lk_t co_t kp_t at_p fn_p lk_p co_p kp_p at_c fn_c lk_c co_c kp_c at_l fn_l lk_l co_l kp_l at_gh lk_gh co_gh kp_gh at_nu lk_nu co_nu kp_nu at_sh lk_sh co_sh kp_sh c_pg c_hd c_po c_sa c_mk c_kc nN nP_ nR nT gP lP gM y_len y_list y_tuple y_range y_sorted⟩
    tel := txt2_mk X G at_ne lk_ne co_ne kp_ne at_so lk_so co_so kp_so at_ri lk_ri co_ri kp_ri at_fa lk_fa co_fa kp_fa at_gw lk_gw co_gw kp_gw at_to lk_to co_to kp_to
    z_all := PySem.W.mg_none_of X G z_all
    z_any := PySem.W.mg_none_of X G z_any
    z_int := PySem.W.mg_none_of X G z_int
    z_len := PySem.W.mg_none_of X G z_len
    z_min := PySem.W.mg_none_of X G z_min
    z_range := PySem.W.mg_none_of X G z_range
/-- the end: from the plain law -/
theorem walk {l : PySem.W.OpenLaw} {q : Program} {loose : List Str} {XP : (Str → Option Value) → Heap → Prop} {YP : World → Heap → Prop} {d : DefRec} {K : Params → PySem.W.Frag} (hn : l.most = some 63) (hd : d.params.defaults = []) (hd2 : d.name = "law")
    (plain : ∀ ns : List Int, ns.length ≤ 63 → sem_law [.list (ns.map PyData.int)] = .ok (.bool true)) (hY : ∀ (w : World) (h : Heap), YP w h → (K w.params).In h)
    (F : ∀ (w : World) (mg : Str → Option Value) (h : Heap), (K w.params).In h → h.Ns mainGlobals mg → Txt (K w.params) mg) : PySem.W.WalkO q loose XP YP l.row.toRowW d [] (fun f vs => PySem.call f vs) :=
  walk_data (k := 111) (by decide +kernel) (by decide +kernel) (g := sem_law) (st := s_law) hn hd hd2 hY (fun w mg h X G => (F w mg h X G).d_law) (fun w mg h X G base => all_ok (F w mg h X G)) (fun fd ⟨_, _, _, _, _, _, e⟩ s u => by subst e; exact .of_eq rfl) plain
end
end My
open PySem PySem.W PyProof.Rows
set_option maxRecDepth 100000 in
set_option maxHeartbeats 0 in
theorem PySem.Challenge.cw_showtree_k11_whole_double_denial_holds : PySem.Challenge.rw_showtree_k11_whole_double_denial.Holds := by
  w_on; o_law; k_head; (case hw => w_witness2)
  k_fill
  refine My.walk (l := PySem.Challenge.rw_showtree_k11_whole_double_denial) rfl rfl rfl My.plain (fun w h Y => PySem.W.kIn_of Y) ?F
  case F =>
    intro w mg h KX G
    refine' My.txt_mk KX G ?a1 ?l1 ?c1 ?k1 ?a2 ?l2 ?c2 ?k2 ?a3 ?l3 ?c3 ?k3 ?a4 ?l4 ?c4 ?k4 ?a5 ?l5 ?c5 ?k5 ?a6 ?l6 ?c6 ?k6 ?a7 ?l7 ?c7 ?k7 ?a8 ?l8 ?c8 ?k8 ?a9 ?l9 ?c9 ?k9 ?a10 ?l10 ?c10 ?k10 ?a11 ?l11 ?c11 ?k11 ?a12 ?l12 ?c12 ?k12 ?gC ?at_i ?fn_i ?lk_i ?co_i ?kp_i ?at_a ?fn_a ?lk_a ?co_a ?kp_a ?at_w ?fn_w ?lk_w ?co_w ?kp_w ?at_f ?fn_f ?lk_f ?co_f ?kp_f ?at_g ?fn_g ?lk_g ?co_g ?kp_g ?at_n ?fn_n ?lk_n ?co_n ?kp_n ?at_t ?fn_t ?lk_t ?co_t ?kp_t ?at_p ?fn_p ?lk_p ?co_p ?kp_p ?at_c ?fn_c ?lk_c ?co_c ?kp_c ?at_l ?fn_l ?lk_l ?co_l ?kp_l ?at_gh ?lk_gh ?co_gh ?kp_gh ?at_nu ?lk_nu ?co_nu ?kp_nu ?at_sh ?lk_sh ?co_sh ?kp_sh ?c_pg ?c_hd ?c_po ?c_sa ?c_mk ?c_kc ?nN ?nP_ ?nR ?nT ?gP ?lP ?gM ?y_len ?y_list ?y_tuple ?y_range ?y_sorted ?at_ne ?lk_ne ?co_ne ?kp_ne ?at_so ?lk_so ?co_so ?kp_so ?at_ri ?lk_ri ?co_ri ?kp_ri ?at_fa ?lk_fa ?co_fa ?kp_fa ?at_gw ?lk_gw ?co_gw ?kp_gw ?at_to ?lk_to ?co_to ?kp_to ?z_all ?z_any ?z_int ?z_len ?z_min ?z_range
    (case a1 => k_is)
    (case l1 => k_is)
    (case c1 => k_is)
    (case k1 => k_is)
    (case a2 => k_is)
    (case l2 => k_is)
    (case c2 => k_is)
    (case k2 => k_is)
    (case a3 => k_is)
    (case l3 => k_is)
    (case c3 => k_is)
    (case k3 => k_is)
    (case a4 => k_is)
    (case l4 => k_is)
    (case c4 => k_is)
    (case k4 => k_is)
    (case a5 => k_is)
    (case l5 => k_is)
    (case c5 => k_is)
    (case k5 => k_is)
    (case a6 => k_is)
    (case l6 => k_is)
    (case c6 => k_is)
    (case k6 => k_is)
    (case a7 => k_is)
    (case l7 => k_is)
    (case c7 => k_is)
    (case k7 => k_is)
    (case a8 => k_is)
    (case l8 => k_is)
    (case c8 => k_is)
    (case k8 => k_is)
    (case a9 => k_is)
    (case l9 => k_is)
    (case c9 => k_is)
    (case k9 => k_is)
    (case a10 => k_is)
    (case l10 => k_is)
    (case c10 => k_is)
    (case k10 => k_is)
    (case a11 => k_is)
    (case l11 => k_is)
    (case c11 => k_is)
    (case k11 => k_is)
    (case a12 => k_is)
    (case l12 => k_is)
    (case c12 => k_is)
    (case k12 => k_is)
    (case gC => k_is)
    (case at_i => k_is)
    (case fn_i => k_is)
    (case lk_i => k_is)
    (case co_i => k_is)
    (case kp_i => k_is)
    (case at_a => k_is)
    (case fn_a => k_is)
    (case lk_a => k_is)
    (case co_a => k_is)
    (case kp_a => k_is)
    (case at_w => k_is)
    (case fn_w => k_is)
    (case lk_w => k_is)
    (case co_w => k_is)
    (case kp_w => k_is)
    (case at_f => k_is)
    (case fn_f => k_is)
    (case lk_f => k_is)
    (case co_f => k_is)
    (case kp_f => k_is)
    (case at_g => k_is)
    (case fn_g => k_is)
    (case lk_g => k_is)
    (case co_g => k_is)
    (case kp_g => k_is)
    (case at_n => k_is)
    (case fn_n => k_is)
    (case lk_n => k_is)
    (case co_n => k_is)
    (case kp_n => k_is)
    (case at_t => k_is)
    (case fn_t => k_is)
    (case lk_t => k_is)
    (case co_t => k_is)
    (case kp_t => k_is)
    (case at_p => k_is)
    (case fn_p => k_is)
    (case lk_p => k_is)
    (case co_p => k_is)
    (case kp_p => k_is)
    (case at_c => k_is)
    (case fn_c => k_is)
    (case lk_c => k_is)
    (case co_c => k_is)
    (case kp_c => k_is)
    (case at_l => k_is)
    (case fn_l => k_is)
    (case lk_l => k_is)
    (case co_l => k_is)
    (case kp_l => k_is)
    (case at_gh => k_is)
    (case lk_gh => k_is)
    (case co_gh => k_is)
    (case kp_gh => k_is)
    (case at_nu => k_is)
    (case lk_nu => k_is)
    (case co_nu => k_is)
    (case kp_nu => k_is)
    (case at_sh => k_is)
    (case lk_sh => k_is)
    (case co_sh => k_is)
    (case kp_sh => k_is)
    (case c_pg => k_is)
    (case c_hd => k_is)
    (case c_po => k_is)
    (case c_sa => k_is)
    (case c_mk => k_is)
    (case c_kc => k_is)
    (case nN => k_is)
    (case nP_ => k_is)
    (case nR => k_is)
    (case nT => k_is)
    (case gP => k_is)
    (case lP => k_is)
    (case gM => k_is)
    (case y_len => k_is)
    (case y_list => k_is)
    (case y_tuple => k_is)
    (case y_range => k_is)
    (case y_sorted => k_is)
    (case at_ne => k_is)
    (case lk_ne => k_is)
    (case co_ne => k_is)
    (case kp_ne => k_is)
    (case at_so => k_is)
    (case lk_so => k_is)
    (case co_so => k_is)
    (case kp_so => k_is)
    (case at_ri => k_is)
    (case lk_ri => k_is)
    (case co_ri => k_is)
    (case kp_ri => k_is)
    (case at_fa => k_is)
    (case lk_fa => k_is)
    (case co_fa => k_is)
    (case kp_fa => k_is)
    (case at_gw => k_is)
    (case lk_gw => k_is)
    (case co_gw => k_is)
    (case kp_gw => k_is)
    (case at_to => k_is)
    (case lk_to => k_is)
    (case co_to => k_is)
    (case kp_to => k_is)
    (case z_all => k_is)
    (case z_any => k_is)
    (case z_int => k_is)
    (case z_len => k_is)
    (case z_min => k_is)
    (case z_range => k_is)
