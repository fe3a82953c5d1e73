import PyProof.Rows.All
import Wide.All
import OpenK.AllK
import Wide.FinOn
import HandS.ForMost
import HandS.ForExc
import HandS.Walk
import HandS.TupAny
import HandS.TupMul
import HandS.IsInst
import HandS.Flow
import HandS.Zip
import HandS.ExcOwn
import HandS.CallSlots
import HandS.Lambda
import HandS.Nested
import HandS.Deep
import HandS.Strs
import HandS.Style
import HandS.Conv
import HandS.Text
import HandS.TupLe
import HandS.More
import HandS.Sort
import HandS.SortRule
import KE.GoesEnum
import KE.GoesZip
import KE.GoesMore
import HandS.NoneIn
import HandS.Small
import HandS.Defaults
import HandS.HeadHook4
import HandS.HeadWalk
import HandS.Head0
import HandS.Head1
import HandS.Head2
import KE.KStateDown
import PySem.Challenge.RW_weedcomb_k81_whole_changes_and_what_is_c
-- DL1
set_option Elab.async false
set_option linter.all false
set_option maxRecDepth 100000
/-! DL: a layer of plain data over the hand layer: values and a store as data, what an expression is worth as a plain function. -/
namespace DL
open PySem L2

/-- a lambda's words -/
structure LamC where
  qual : Str
  params : Arguments
  body : Expr
  scope : Scope
/-- the object at f is that lambda, its cells cl, its code object at c -/
def LamO (f c : Addr) (L : LamC) (cl : List (Str × Addr)) : HO := .ext fun h => ∃ (od : Option Addr) (sl : Array (Option Value)) (pm ctv : Value), h.get? f = some (⟨.type "function", od, .func (PySem.W.kla_fn "<lambda>" L.qual L.params L.body L.scope cl pm (.ref c) ctv), sl⟩ : Obj)
/-- data: a value as the program sees it; a list, an object, a dict is told by its number in the store -/
inductive D where
  | non | bl (b : Bool) | int (i : Int) | str (x : Str) | tup (ds : List D) | rol (ds : List D) | kst (ds : List D) | ptr (n : Nat) | raw (a : Addr) | lam (L : LamC) (cl : List (Str × Addr)) (vs : List V) (ds : List D)
/-- what stands in the store -/
inductive MO where
  | lst (ds : List D) | ins (c : Str) (fs : List (Str × D)) | dK (kvs : List (Key × D)) | dT (kvs : List (List Key × D))
abbrev Store := List MO
abbrev Env := List (Option D)
/-- an end: a value; an exception of a class, with its fields; nothing is told -/
inductive Out (α : Type) where
  | ok (a : α) | ex (c : Str) (fs : List (Str × D)) (μ : Store) | no
inductive SOut where
  | nx (ρ : Env) (μ : Store) | rt (d : D) (μ : Store) | bk (ρ : Env) (μ : Store) | ct (ρ : Env) (μ : Store) | ex (c : Str) (fs : List (Str × D)) (ρ : Env) (μ : Store) | no

structure G where
  K : PySem.W.Frag
  mg : Str → Option Value

/-! ### what stands for what -/
section
variable (K : PySem.W.Frag) (A : List Addr) (H : Hp)
def FrzL (a : Addr) (xs : List V) : Prop := H a = some (.lst xs) ∧ a ∉ A
/-- the same, or one of those that stand from the beginning -/
def FrzK (a : Addr) (xs : List V) : Prop := (∃ o, H a = some (.frz o (.lst xs))) ∨ (H a = some (.lst xs) ∧ a ∉ A) ∨
    ∃ (o : Obj) (its : Array Value) (n : Nat), K.lookup a = some o ∧ o.cls = .type "list" ∧ o.dict = none ∧ o.data = .seq its n ∧ its.size ≤ sizeLine ∧ Vals xs its.toList
mutual
def RV : D → V → Prop
  | .non, v => v = .non
  | .bl b, v => v = .bl b
  | .int i, v => v = .int i
  | .str x, v => v = .str x
  | .tup ds, v => ∃ a vs, v = .ref a ∧ Rd H a (.tup vs) ∧ RVs ds vs
  | .rol ds, v => ∃ a vs, v = .ref a ∧ FrzL A H a vs ∧ RVs ds vs
  | .kst ds, v => ∃ a vs, v = .ref a ∧ FrzK K A H a vs ∧ RVs ds vs
  | .ptr n, v => ∃ a, v = .ref a ∧ A[n]? = some a
  | .raw a, v => v = .ref a
  | .lam L cl vs ds, v => ∃ f c, v = .ref f ∧ H f = some (LamO f c L cl) ∧ H c = some (LamX.CodeO c L.qual) ∧ RVs ds vs
def RVs : List D → List V → Prop
  | [], vs => vs = []
  | d :: ds, vs => ∃ v ws, vs = v :: ws ∧ RV d v ∧ RVs ds ws
end
def RFs : List (Str × D) → List (Str × V) → Prop
  | [], vs => vs = []
  | (f, d) :: fs, vs => ∃ v ws, vs = (f, v) :: ws ∧ RV K A H d v ∧ RFs fs ws
def RKs {κ : Type} : List (κ × D) → List (κ × V) → Prop
  | [], vs => vs = []
  | (k, d) :: ks, vs => ∃ v ws, vs = (k, v) :: ws ∧ RV K A H d v ∧ RKs ks ws
end
def RO (g : G) (A : List Addr) (H : Hp) (a : Addr) : MO → Prop
  | .lst ds => ∃ vs, H a = some (.lst vs) ∧ RVs g.K A H ds vs
  | .ins c fs => ∃ C dx fvs, g.mg c = some (.ref C) ∧ H a = some (.ins C dx fvs) ∧ RFs g.K A H fs fvs
  | .dK kvs => ∃ ws, H a = some (.dK ws) ∧ RKs g.K A H kvs ws
  | .dT kvs => ∃ ws, H a = some (.dT ws) ∧ RKs g.K A H kvs ws
/-- the tables of code objects that the row's lambdas write -/
class Tab where
  T : List (Addr × Str)
variable [Tab]
structure Rep (g : G) (A : List Addr) (μ : Store) (H : Hp) : Prop where
  tab : LamX.Tabs Tab.T H
  len : A.length = μ.length
  nd : A.Nodup
  obj : ∀ (n : Nat) (a : Addr) (o : MO), A[n]? = some a → μ[n]? = some o → RO g A H a o
/-- what was is as it was, but for what stands in the store; the store has grown by new things -/
structure Ext (A : List Addr) (H : Hp) (A' : List Addr) (H' : Hp) : Prop where
  pre : ∃ B, A' = A ++ B ∧ ∀ b ∈ B, H b = none
  frm : ∀ b o, b ∉ A → H b = some o → (∀ ps, o ≠ .tbl ps) → H' b = some o
  nn : ∀ b, H' b = none → H b = none
  dom : ∀ a ∈ A, H a ≠ none
  dom' : ∀ a ∈ A', H' a ≠ none
structure RS (K : PySem.W.Frag) (A : List Addr) (H : Hp) (ρ : Env) (σ : St) : Prop where
  len : ρ.length = σ.length
  at_ : ∀ (i : Nat) (d : D), ρ[i]? = some (some d) → ∃ v, σ[i]? = some (some v) ∧ RV K A H d v

/-! ### what lasts -/
theorem Rep.dom {g : G} {A : List Addr} {μ : Store} {H : Hp} (r : Rep g A μ H) : ∀ a ∈ A, H a ≠ none := by
  intro a ha e
  obtain ⟨n, hn, rfl⟩ := List.mem_iff_getElem.mp ha
  have h1 : n < μ.length := by rw [← r.len]; exact hn
  have q := r.obj n A[n] μ[n] (List.getElem?_eq_getElem hn) (List.getElem?_eq_getElem h1)
  cases hm : μ[n] with
  | lst ds => rw [hm] at q; obtain ⟨vs, q, _⟩ := q; rw [e] at q; cases q
  | ins c fs => rw [hm] at q; obtain ⟨_, _, _, _, q, _⟩ := q; rw [e] at q; cases q
  | dK kvs => rw [hm] at q; obtain ⟨_, q, _⟩ := q; rw [e] at q; cases q
  | dT kvs => rw [hm] at q; obtain ⟨_, q, _⟩ := q; rw [e] at q; cases q
/-- no tuple, no frozen list stands in the store -/
theorem Rep.apart {g : G} {A : List Addr} {μ : Store} {H : Hp} (r : Rep g A μ H) {a : Addr} {o : HO} (h : H a = some o) (h1 : ∀ vs, o ≠ .lst vs) (h2 : ∀ c d f, o ≠ .ins c d f) (h3 : ∀ k, o ≠ .dK k) (h4 : ∀ k, o ≠ .dT k) : a ∉ A := by
  intro ha
  obtain ⟨n, hn, rfl⟩ := List.mem_iff_getElem.mp ha
  have hl : n < μ.length := by rw [← r.len]; exact hn
  have q := r.obj n A[n] μ[n] (List.getElem?_eq_getElem hn) (List.getElem?_eq_getElem hl)
  cases hm : μ[n] with
  | lst ds => rw [hm] at q; obtain ⟨vs, q, _⟩ := q; rw [h] at q; exact h1 _ (Option.some.inj q)
  | ins c fs => rw [hm] at q; obtain ⟨_, _, _, _, q, _⟩ := q; rw [h] at q; exact h2 _ _ _ (Option.some.inj q)
  | dK kvs => rw [hm] at q; obtain ⟨_, q, _⟩ := q; rw [h] at q; exact h3 _ (Option.some.inj q)
  | dT kvs => rw [hm] at q; obtain ⟨_, q, _⟩ := q; rw [h] at q; exact h4 _ (Option.some.inj q)
theorem Ext.refl {g : G} {A : List Addr} {μ : Store} {H : Hp} (r : Rep g A μ H) : Ext A H A H := ⟨⟨[], by simp, by simp⟩, fun _ _ _ h _ => h, fun _ h => h, r.dom, r.dom⟩
theorem Ext.trans {A A1 A2 : List Addr} {H H1 H2 : Hp} (e : Ext A H A1 H1) (f : Ext A1 H1 A2 H2) : Ext A H A2 H2 := by
  obtain ⟨B, rfl, hB⟩ := e.pre
  obtain ⟨C, rfl, hC⟩ := f.pre
  refine ⟨⟨B ++ C, by simp, fun b hb => ?_⟩, fun b o hb h ht => ?_, fun b h => e.nn b (f.nn b h), e.dom, f.dom'⟩
  · rcases List.mem_append.mp hb with hb | hb
    · exact hB b hb
    · exact e.nn b (hC b hb)
  · refine f.frm b o (fun z => ?_) (e.frm b o hb h ht) ht
    rcases List.mem_append.mp z with z | z
    · exact hb z
    · rw [hB b z] at h; cases h
theorem Ext.ix {A A1 : List Addr} {H H1 : Hp} (e : Ext A H A1 H1) {n : Nat} {a : Addr} (h : A[n]? = some a) : A1[n]? = some a := by
  obtain ⟨B, rfl, _⟩ := e.pre
  have hn : n < A.length := (List.getElem?_eq_some_iff.mp h).1
  rw [List.getElem?_append_left hn]; exact h
/-- a fresh place is no store's -/
theorem Ext.fresh {A A1 : List Addr} {H H1 : Hp} (e : Ext A H A1 H1) {p : Addr} (h : H1 p = none) : H p = none := e.nn p h
section
variable {g : G} {A A' : List Addr} {μ μ' : Store} {H H' : Hp}
theorem SqT.ext (r : Rep g A μ H) (e : Ext A H A' H') {a : Addr} {vs : List V} (h : SqT g.K H a vs) : SqT g.K H' a vs := by
  rcases h with (h | ⟨o, h⟩) | h
  · exact .inl (.inl (e.frm _ _ (r.apart h (by intro _ z; cases z) (by intro _ _ _ z; cases z) (by intro _ z; cases z) (by intro _ z; cases z)) h (fun _ z => nomatch z)))
  · exact .inl (.inr ⟨o, e.frm _ _ (r.apart h (by intro _ z; cases z) (by intro _ _ _ z; cases z) (by intro _ z; cases z) (by intro _ z; cases z)) h (fun _ z => nomatch z)⟩)
  · exact .inr h
theorem Rd.ext (r : Rep g A μ H) (e : Ext A H A' H') {a : Addr} {vs : List V} (h : Rd H a (.tup vs)) : Rd H' a (.tup vs) := by
  rcases h with h | ⟨o, h⟩
  · exact .inl (e.frm _ _ (r.apart h (by intro _ z; cases z) (by intro _ _ _ z; cases z) (by intro _ z; cases z) (by intro _ z; cases z)) h (fun _ z => nomatch z))
  · exact .inr ⟨o, e.frm _ _ (r.apart h (by intro _ z; cases z) (by intro _ _ _ z; cases z) (by intro _ z; cases z) (by intro _ z; cases z)) h (fun _ z => nomatch z)⟩
theorem FrzK.ext (r : Rep g A μ H) (e : Ext A H A' H') {a : Addr} {vs : List V} (h : FrzK g.K A H a vs) : FrzK g.K A' H' a vs := by
  rcases h with ⟨o, h⟩ | ⟨h, n⟩ | h
  · exact .inl ⟨o, e.frm _ _ (r.apart h (by intro _ z; cases z) (by intro _ _ _ z; cases z) (by intro _ z; cases z) (by intro _ z; cases z)) h (fun _ z => nomatch z)⟩
  · refine .inr (.inl ⟨e.frm _ _ n h (fun _ z => nomatch z), ?_⟩)
    obtain ⟨B, rfl, hB⟩ := e.pre
    intro z
    rcases List.mem_append.mp z with z | z
    · exact n z
    · rw [hB a z] at h; cases h
  · exact .inr (.inr h)
theorem FrzL.ext (r : Rep g A μ H) (e : Ext A H A' H') {a : Addr} {vs : List V} (h : FrzL A H a vs) : FrzL A' H' a vs := by
  obtain ⟨h, n⟩ := h
  refine ⟨e.frm _ _ n h (fun _ z => nomatch z), ?_⟩
  obtain ⟨B, rfl, hB⟩ := e.pre
  intro z
  rcases List.mem_append.mp z with z | z
  · exact n z
  · rw [hB a z] at h; cases h
theorem FrzL.rd {A : List Addr} {H : Hp} {a : Addr} {vs : List V} (h : FrzL A H a vs) : Rd H a (.lst vs) := .inl h.1
theorem FrzL.sq {K : PySem.W.Frag} {A : List Addr} {H : Hp} {a : Addr} {vs : List V} (h : FrzL A H a vs) : SqL K H a vs := .inl h.rd
theorem FrzK.sq {K : PySem.W.Frag} {A : List Addr} {H : Hp} {a : Addr} {vs : List V} (h : FrzK K A H a vs) : SqL K H a vs := by
  rcases h with ⟨o, h⟩ | ⟨h, _⟩ | h
  · exact .inl (.inr ⟨o, h⟩)
  · exact .inl (.inl h)
  · exact .inr h
mutual
theorem RV.ext (r : Rep g A μ H) (e : Ext A H A' H') : ∀ (d : D) (v : V), RV g.K A H d v → RV g.K A' H' d v
  | .non, _, h => by simp only [RV] at h ⊢; exact h
  | .bl _, _, h => by simp only [RV] at h ⊢; exact h
  | .int _, _, h => by simp only [RV] at h ⊢; exact h
  | .str _, _, h => by simp only [RV] at h ⊢; exact h
  | .raw _, _, h => by simp only [RV] at h ⊢; exact h
  | .ptr _, _, h => by
    simp only [RV] at h ⊢
    obtain ⟨a, q, h⟩ := h
    exact ⟨a, q, e.ix h⟩
  | .tup ds, _, h => by
    simp only [RV] at h ⊢
    obtain ⟨a, vs, q, h1, h2⟩ := h
    exact ⟨a, vs, q, Rd.ext r e h1, RVs.ext r e ds vs h2⟩
  | .rol ds, _, h => by
    simp only [RV] at h ⊢
    obtain ⟨a, vs, q, h1, h2⟩ := h
    exact ⟨a, vs, q, FrzL.ext r e h1, RVs.ext r e ds vs h2⟩
  | .kst ds, _, h => by
    simp only [RV] at h ⊢
    obtain ⟨a, vs, q, h1, h2⟩ := h
    exact ⟨a, vs, q, FrzK.ext r e h1, RVs.ext r e ds vs h2⟩
  | .lam L cl us ds, _, h => by
    simp only [RV] at h ⊢
    obtain ⟨f, c, q, h1, h2, h3⟩ := h
    exact ⟨f, c, q, e.frm _ _ (r.apart h1 (fun _ z => nomatch z) (fun _ _ _ z => nomatch z) (fun _ z => nomatch z) (fun _ z => nomatch z)) h1 (fun _ z => nomatch z), e.frm _ _ (r.apart h2 (fun _ z => nomatch z) (fun _ _ _ z => nomatch z) (fun _ z => nomatch z) (fun _ z => nomatch z)) h2 (fun _ z => nomatch z), RVs.ext r e ds us h3⟩
theorem RVs.ext (r : Rep g A μ H) (e : Ext A H A' H') : ∀ (ds : List D) (vs : List V), RVs g.K A H ds vs → RVs g.K A' H' ds vs
  | [], _, h => by simp only [RVs] at h ⊢; exact h
  | d :: ds, _, h => by
    simp only [RVs] at h ⊢
    obtain ⟨v, ws, q, h1, h2⟩ := h
    exact ⟨v, ws, q, RV.ext r e d v h1, RVs.ext r e ds ws h2⟩
end
theorem RFs.ext (r : Rep g A μ H) (e : Ext A H A' H') : ∀ (ds : List (Str × D)) (vs : List (Str × V)), RFs g.K A H ds vs → RFs g.K A' H' ds vs
  | [], _, h => h
  | (f, d) :: ds, _, h => by
    obtain ⟨v, ws, q, h1, h2⟩ := h
    exact ⟨v, ws, q, RV.ext r e d v h1, RFs.ext r e ds ws h2⟩
theorem RKs.ext {κ : Type} (r : Rep g A μ H) (e : Ext A H A' H') : ∀ (ds : List (κ × D)) (vs : List (κ × V)), RKs g.K A H ds vs → RKs g.K A' H' ds vs
  | [], _, h => h
  | (f, d) :: ds, _, h => by
    obtain ⟨v, ws, q, h1, h2⟩ := h
    exact ⟨v, ws, q, RV.ext r e d v h1, RKs.ext r e ds ws h2⟩
theorem RS.ext (r : Rep g A μ H) (e : Ext A H A' H') {ρ : Env} {σ : St} (h : RS g.K A H ρ σ) : RS g.K A' H' ρ σ :=
  ⟨h.len, fun i d q => let ⟨v, a, b⟩ := h.at_ i d q; ⟨v, a, RV.ext r e d v b⟩⟩
/-- an object of the store, the others changed -/
theorem RO.ext (r : Rep g A μ H) (e : Ext A H A' H') {a : Addr} {o : MO} (hk : H' a = H a) (h : RO g A H a o) : RO g A' H' a o := by
  cases o with
  | lst ds => obtain ⟨vs, q, h⟩ := h; exact ⟨vs, hk.trans q, RVs.ext r e _ _ h⟩
  | ins c fs => obtain ⟨C, dx, fvs, q1, q2, h⟩ := h; exact ⟨C, dx, fvs, q1, hk.trans q2, RFs.ext r e _ _ h⟩
  | dK kvs => obtain ⟨ws, q, h⟩ := h; exact ⟨ws, hk.trans q, RKs.ext r e _ _ h⟩
  | dT kvs => obtain ⟨ws, q, h⟩ := h; exact ⟨ws, hk.trans q, RKs.ext r e _ _ h⟩
theorem RVs.length {K : PySem.W.Frag} : ∀ {ds : List D} {vs : List V}, RVs K A H ds vs → vs.length = ds.length
  | [], _, h => by simp only [RVs] at h; subst h; rfl
  | d :: ds, _, h => by
    simp only [RVs] at h
    obtain ⟨v, ws, rfl, _, h⟩ := h
    simp [RVs.length h]
theorem RVs.get {K : PySem.W.Frag} : ∀ {ds : List D} {vs : List V} {i : Nat} {d : D}, RVs K A H ds vs → ds[i]? = some d → ∃ v, vs[i]? = some v ∧ RV K A H d v
  | [], _, _, _, _, e => by simp at e
  | d :: ds, _, 0, _, h, e => by
    simp only [RVs] at h
    obtain ⟨v, ws, rfl, h1, _⟩ := h
    simp only [List.getElem?_cons_zero] at e
    cases e
    exact ⟨v, rfl, h1⟩
  | d :: ds, _, i + 1, _, h, e => by
    simp only [RVs] at h
    obtain ⟨v, ws, rfl, _, h⟩ := h
    simp only [List.getElem?_cons_succ] at e ⊢
    exact RVs.get h e
theorem RVs.getV {K : PySem.W.Frag} : ∀ {ds : List D} {vs : List V} {i : Nat} {v : V}, RVs K A H ds vs → vs[i]? = some v → ∃ d, ds[i]? = some d ∧ RV K A H d v := fun {ds vs i v} h e => by
  have hl := RVs.length h
  have hi : i < vs.length := (List.getElem?_eq_some_iff.mp e).1
  have hd : ds[i]? = some ds[i] := List.getElem?_eq_getElem (by omega)
  obtain ⟨w, q, r⟩ := RVs.get h hd
  rw [e] at q; cases q
  exact ⟨_, hd, r⟩
theorem RVs.append {K : PySem.W.Frag} : ∀ {ds es : List D} {vs ws : List V}, RVs K A H ds vs → RVs K A H es ws → RVs K A H (ds ++ es) (vs ++ ws)
  | [], _, _, _, h, k => by simp only [RVs] at h; subst h; exact k
  | d :: ds, _, _, _, h, k => by
    simp only [RVs] at h
    obtain ⟨v, ws, rfl, h1, h⟩ := h
    simp only [List.cons_append, RVs]
    exact ⟨v, _, rfl, h1, RVs.append h k⟩
theorem RVs.drop {K : PySem.W.Frag} : ∀ {ds : List D} {vs : List V} (n : Nat), RVs K A H ds vs → RVs K A H (ds.drop n) (vs.drop n)
  | _, _, 0, h => by simpa using h
  | [], _, n + 1, h => by simp only [RVs] at h; subst h; simp [RVs]
  | d :: ds, _, n + 1, h => by
    simp only [RVs] at h
    obtain ⟨v, ws, rfl, _, h⟩ := h
    simp only [List.drop_succ_cons]
    exact RVs.drop n h
theorem RVs.take {K : PySem.W.Frag} : ∀ {ds : List D} {vs : List V} (n : Nat), RVs K A H ds vs → RVs K A H (ds.take n) (vs.take n)
  | _, _, 0, h => by simp [RVs]
  | [], _, n + 1, h => by simp only [RVs] at h; subst h; simp [RVs]
  | d :: ds, _, n + 1, h => by
    simp only [RVs] at h
    obtain ⟨v, ws, rfl, h1, h⟩ := h
    simp only [List.take_succ_cons, RVs]
    exact ⟨v, _, rfl, h1, RVs.take n h⟩
theorem RVs.reverse {K : PySem.W.Frag} : ∀ {ds : List D} {vs : List V}, RVs K A H ds vs → RVs K A H ds.reverse vs.reverse
  | [], _, h => by simp only [RVs] at h; subst h; simp [RVs]
  | d :: ds, _, h => by
    simp only [RVs] at h
    obtain ⟨v, ws, rfl, h1, h⟩ := h
    simp only [List.reverse_cons]
    exact RVs.append (RVs.reverse h) ⟨v, [], rfl, h1, rfl⟩
theorem RVs.set {K : PySem.W.Frag} : ∀ {ds : List D} {vs : List V} (i : Nat) {d : D} {v : V}, RVs K A H ds vs → RV K A H d v → RVs K A H (ds.set i d) (vs.set i v)
  | [], _, _, _, _, h, _ => by simp only [RVs] at h; subst h; simp [RVs]
  | d :: ds, _, 0, _, _, h, k => by
    simp only [RVs] at h
    obtain ⟨v, ws, rfl, h1, h⟩ := h
    simp only [List.set_cons_zero, RVs]
    exact ⟨_, _, rfl, k, h⟩
  | d :: ds, _, i + 1, _, _, h, k => by
    simp only [RVs] at h
    obtain ⟨v, ws, rfl, h1, h⟩ := h
    simp only [List.set_cons_succ, RVs]
    exact ⟨_, _, rfl, h1, RVs.set i h k⟩
theorem RVs.nil_iff {K : PySem.W.Frag} {ds : List D} {vs : List V} (h : RVs K A H ds vs) : vs = [] ↔ ds = [] := by
  have := RVs.length h
  constructor
  · rintro rfl; exact List.eq_nil_of_length_eq_zero (by simpa using this.symm)
  · rintro rfl; exact List.eq_nil_of_length_eq_zero (by simpa using this)
theorem RVs.one {K : PySem.W.Frag} {d : D} {v : V} (h : RV K A H d v) : RVs K A H [d] [v] := ⟨v, [], rfl, h, rfl⟩
theorem RVs.consI {K : PySem.W.Frag} {d : D} {v : V} {ds : List D} {vs : List V} (h : RV K A H d v) (k : RVs K A H ds vs) : RVs K A H (d :: ds) (v :: vs) := ⟨v, vs, rfl, h, k⟩
theorem RFs.look {K : PySem.W.Frag} : ∀ {fs : List (Str × D)} {vs : List (Str × V)} {f : Str} {d : D}, RFs K A H fs vs → fs.lookup f = some d → ∃ v, vs.lookup f = some v ∧ RV K A H d v
  | [], _, _, _, _, e => by simp at e
  | (f', d') :: fs, _, f, d, h, e => by
    obtain ⟨v, ws, rfl, h1, h⟩ := h
    rw [List.lookup_cons] at e ⊢
    cases hb : f == f' with
    | true => rw [hb] at e; cases e; exact ⟨v, rfl, h1⟩
    | false => rw [hb] at e; exact RFs.look h e
theorem RFs.none {K : PySem.W.Frag} : ∀ {fs : List (Str × D)} {vs : List (Str × V)} {f : Str}, RFs K A H fs vs → fs.lookup f = none → vs.lookup f = none
  | [], _, _, h, _ => by have h : _ = [] := h; subst h; rfl
  | (f', d') :: fs, _, f, h, e => by
    obtain ⟨v, ws, rfl, h1, h⟩ := h
    rw [List.lookup_cons] at e ⊢
    cases hb : f == f' with
    | true => rw [hb] at e; cases e
    | false => rw [hb] at e; exact RFs.none h e
theorem RFs.len {K : PySem.W.Frag} : ∀ {fs : List (Str × D)} {vs : List (Str × V)}, RFs K A H fs vs → vs.length = fs.length
  | [], _, h => by have h : _ = [] := h; subst h; rfl
  | (f', d') :: fs, _, h => by
    obtain ⟨v, ws, rfl, h1, h⟩ := h
    simp [RFs.len h]
/-- a field put -/
def putD (f : Str) (d : D) : List (Str × D) → List (Str × D)
  | [] => [(f, d)]
  | (h, e) :: r => if h = f then (h, d) :: r else (h, e) :: putD f d r
theorem RFs.put {K : PySem.W.Frag} (hp : ∀ (f : Str) (v : V) (h : Str) (w : V) (r : List (Str × V)), putF f v ((h, w) :: r) = if h = f then (h, v) :: r else (h, w) :: putF f v r) (hn : ∀ (f : Str) (v : V), putF f v [] = [(f, v)]) :
    ∀ {fs : List (Str × D)} {vs : List (Str × V)} {f : Str} {d : D} {v : V}, RFs K A H fs vs → RV K A H d v → RFs K A H (putD f d fs) (putF f v vs)
  | [], _, f, d, v, h, k => by
    have h : _ = [] := h
    subst h
    rw [hn]
    exact ⟨v, [], rfl, k, rfl⟩
  | (f', d') :: fs, _, f, d, v, h, k => by
    obtain ⟨w, ws, rfl, h1, h⟩ := h
    rw [hp]
    unfold putD
    by_cases e : f' = f
    · rw [if_pos e, if_pos e]
      exact ⟨v, ws, rfl, k, h⟩
    · rw [if_neg e, if_neg e]
      exact ⟨w, _, rfl, h1, RFs.put hp hn h k⟩
/-! ### the store grows, the store is written -/
theorem Rep.at_ (r : Rep g A μ H) {n : Nat} {o : MO} (h : μ[n]? = some o) : ∃ a, A[n]? = some a ∧ RO g A H a o := by
  have hn : n < μ.length := (List.getElem?_eq_some_iff.mp h).1
  have hl := r.len
  have q : A[n]? = some A[n] := List.getElem?_eq_getElem (by omega)
  exact ⟨_, q, r.obj n _ o q h⟩
/-- something new that is no object of the store -/
theorem Ext.new (r : Rep g A μ H) {p : Addr} {o : HO} (hp : H p = none) : Ext A H A (upd H p o) := by
  refine ⟨⟨[], by simp, by simp⟩, fun b u _ h _ => ?_, fun b h => ?_, r.dom, fun a ha => ?_⟩
  · rw [upd_ne (ne_of_none h hp)]; exact h
  · by_cases z : b = p
    · rw [z]; exact hp
    · rw [upd_ne z] at h; exact h
  · rw [upd_ne (show a ≠ p from fun z => r.dom a ha (by rw [z]; exact hp))]; exact r.dom a ha
theorem tab_new {p : Addr} {o : HO} (r : LamX.Tabs Tab.T H) (hp : H p = none) : LamX.Tabs Tab.T (upd H p o) := r.ext fun b u h => by
  rw [upd_ne (ne_of_none h hp)]; exact h
theorem Rep.new (r : Rep g A μ H) {p : Addr} {o : HO} (hp : H p = none) : Rep g A μ (upd H p o) := by
  refine ⟨tab_new r.tab hp, r.len, r.nd, fun n a u ha hu => ?_⟩
  refine RO.ext r (Ext.new r hp) ?_ (r.obj n a u ha hu)
  exact upd_ne fun z => r.dom a (List.mem_of_getElem? ha) (z ▸ hp)
/-- a new object of the store -/
theorem Ext.push (r : Rep g A μ H) {p : Addr} {o : HO} (hp : H p = none) : Ext A H (A ++ [p]) (upd H p o) := by
  have e := Ext.new (o := o) r hp
  refine ⟨⟨[p], rfl, fun b hb => by rw [List.mem_singleton.mp hb]; exact hp⟩, e.frm, e.nn, e.dom, fun a ha => ?_⟩
  rcases List.mem_append.mp ha with ha | ha
  · exact e.dom' a ha
  · rw [List.mem_singleton.mp ha, upd_same]; exact fun z => nomatch z
theorem Rep.push (r : Rep g A μ H) {p : Addr} {o : HO} {m : MO} (hp : H p = none) (hm : RO g (A ++ [p]) (upd H p o) p m) : Rep g (A ++ [p]) (μ ++ [m]) (upd H p o) := by
  have hl := r.len
  refine ⟨tab_new r.tab hp, by simp [hl], ?_, fun n a u ha hu => ?_⟩
  · rw [List.nodup_append]
    refine ⟨r.nd, by simp, fun a ha b hb z => ?_⟩
    rw [List.mem_singleton.mp hb] at z
    exact r.dom a ha (z ▸ hp)
  · by_cases hn : n < A.length
    · rw [List.getElem?_append_left hn] at ha
      rw [List.getElem?_append_left (by omega)] at hu
      refine RO.ext r (Ext.push r hp) ?_ (r.obj n a u ha hu)
      exact upd_ne fun z => r.dom a (List.mem_of_getElem? ha) (z ▸ hp)
    · rw [List.getElem?_append_right (by omega)] at ha hu
      have h0 : n - A.length = 0 := by
        have := (List.getElem?_eq_some_iff.mp ha).1
        simp at this; omega
      rw [h0] at ha
      rw [show n - μ.length = 0 by omega] at hu
      simp at ha hu
      subst ha hu
      exact hm
/-- an object of the store is written -/
theorem Ext.write (r : Rep g A μ H) {n : Nat} {p : Addr} {o : HO} (hp : A[n]? = some p) : Ext A H A (upd H p o) := by
  refine ⟨⟨[], by simp, by simp⟩, fun b u hb h _ => ?_, fun b h => ?_, r.dom, fun a ha => ?_⟩
  · rw [upd_ne (show b ≠ p from fun z => hb (by rw [z]; exact List.mem_of_getElem? hp))]; exact h
  · by_cases z : b = p
    · subst z; rw [upd_same] at h; cases h
    · rw [upd_ne z] at h; exact h
  · by_cases z : a = p
    · subst z; rw [upd_same]; exact fun z => nomatch z
    · rw [upd_ne z]; exact r.dom a ha
theorem tab_write (r : Rep g A μ H) {p : Addr} {o : HO} (hp : p ∈ A) : LamX.Tabs Tab.T (upd H p o) := fun q hq => by
  obtain ⟨ps, h1, h2, h3⟩ := r.tab q hq
  have n1 : q.1 ∉ A := r.apart h1 (fun _ z => nomatch z) (fun _ _ _ z => nomatch z) (fun _ z => nomatch z) (fun _ z => nomatch z)
  refine ⟨ps, ?_, h2, fun pos cv hc => ?_⟩
  · rw [upd_ne (show q.1 ≠ p from fun z => n1 (by rw [z]; exact hp))]; exact h1
  · obtain ⟨c, e1, e2⟩ := h3 pos cv hc
    refine ⟨c, e1, ?_⟩
    have n2 : c ∉ A := r.apart e2 (fun _ z => nomatch z) (fun _ _ _ z => nomatch z) (fun _ z => nomatch z) (fun _ z => nomatch z)
    rw [upd_ne (show c ≠ p from fun z => n2 (by rw [z]; exact hp))]; exact e2
theorem Rep.write (r : Rep g A μ H) {n : Nat} {p : Addr} {o : HO} {m : MO} (hp : A[n]? = some p) (hm : RO g A (upd H p o) p m) : Rep g A (μ.set n m) (upd H p o) := by
  refine ⟨tab_write r (List.mem_of_getElem? hp), by simp [r.len], r.nd, fun k a u ha hu => ?_⟩
  by_cases z : k = n
  · subst z
    rw [hp] at ha
    cases ha
    have hk : k < μ.length := by
      have := (List.getElem?_eq_some_iff.mp hu).1
      simpa using this
    rw [List.getElem?_set_self hk] at hu
    cases hu
    exact hm
  · rw [List.getElem?_set_ne (fun e => z e.symm)] at hu
    have za : a ≠ p := fun e => by
      subst e
      have h1 := List.getElem?_eq_some_iff.mp ha
      have h2 := List.getElem?_eq_some_iff.mp hp
      obtain ⟨l1, e1⟩ := h1
      obtain ⟨l2, e2⟩ := h2
      exact z ((List.getElem_inj r.nd).mp (e1.trans e2.symm))
    exact RO.ext r (Ext.write r hp) (upd_ne za) (r.obj k a u ha hu)
/-! ### slots -/
theorem RS.set {K : PySem.W.Frag} {ρ : Env} {σ : St} (h : RS K A H ρ σ) (i : Nat) {d : D} {v : V} (r : RV K A H d v) : RS K A H (ρ.set i (some d)) (σ.set i (some v)) := by
  refine ⟨by simp [h.len], fun j e q => ?_⟩
  by_cases z : i = j
  · subst z
    have hi : i < ρ.length := by have := (List.getElem?_eq_some_iff.mp q).1; simpa using this
    rw [List.getElem?_set_self hi] at q
    cases q
    exact ⟨v, List.getElem?_set_self (by rw [← h.len]; exact hi), r⟩
  · rw [List.getElem?_set_ne z] at q
    rw [List.getElem?_set_ne z]
    exact h.at_ j e q
theorem RS.unset {K : PySem.W.Frag} {ρ : Env} {σ : St} (h : RS K A H ρ σ) (i : Nat) : RS K A H (ρ.set i none) (σ.set i none) := by
  refine ⟨by simp [h.len], fun j e q => ?_⟩
  by_cases z : i = j
  · subst z
    have hi : i < ρ.length := by have := (List.getElem?_eq_some_iff.mp q).1; simpa using this
    rw [List.getElem?_set_self hi] at q
    cases q
  · rw [List.getElem?_set_ne z] at q
    rw [List.getElem?_set_ne z]
    exact h.at_ j e q
end
end DL

-- DL2
set_option Elab.async false
set_option linter.all false
set_option maxRecDepth 100000
/-! DL2: judgements over data; expressions. -/
namespace DL
open PySem L2
variable [Tab]

section
variable {α β γ : Type}
def Out.bind (o : Out α) (f : α → Out β) : Out β := match o with
  | .ok a => f a
  | .ex c fs μ => .ex c fs μ
  | .no => .no
@[simp] theorem Out.bind_ok (a : α) (f : α → Out β) : (Out.ok a).bind f = f a := rfl
@[simp] theorem Out.bind_no (f : α → Out β) : (Out.no : Out α).bind f = .no := rfl
@[simp] theorem Out.bind_ex (c : Str) (fs : List (Str × D)) (μ : Store) (f : α → Out β) : (Out.ex c fs μ : Out α).bind f = .ex c fs μ := rfl
def Out.of (o : Option α) : Out α := match o with
  | some a => .ok a
  | none => .no
@[simp] theorem Out.of_some (a : α) : Out.of (some a) = .ok a := rfl
@[simp] theorem Out.of_none : (Out.of (none : Option α)) = .no := rfl

abbrev M (α : Type) := Env → Store → Out (α × Store)
def PV (g : G) (R : List Addr → Hp → α → β → Prop) (W : WX) (σ : St) (A : List Addr) (H : Hp) (o : Out (α × Store)) (Q : β → Hp → Prop) : Prop := match o with
  | .ok (d, μ') => ∀ v A' H', Ext A H A' H' → Rep g A' μ' H' → R A' H' d v → Q v H'
  | .ex c fs μ' => ∀ C dd fvs A' H', g.mg c = some (.ref C) → Ext A H A' H' → Rep g A' μ' H' → H' dd = some (.xd fvs) → RFs g.K A' H' fs fvs → W (.ref C) (some dd) σ H'
  | .no => False
def T (g : G) (R : List Addr → Hp → α → β → Prop) (W : WX) (m : M α) : St → Hp → (β → Hp → Prop) → Prop := fun σ H Q => ∃ ρ μ A, RS g.K A H ρ σ ∧ Rep g A μ H ∧ PV g R W σ A H (m ρ μ) Q
abbrev RE (g : G) : List Addr → Hp → D → V → Prop := fun A H d v => RV g.K A H d v
abbrev REs (g : G) : List Addr → Hp → List D → List V → Prop := fun A H d v => RVs g.K A H d v
abbrev REq : List Addr → Hp → α → α → Prop := fun _ _ a b => a = b

theorem PV.ext {g : G} {R : List Addr → Hp → α → β → Prop} {W : WX} {σ : St} {A A1 : List Addr} {H H1 : Hp} {o : Out (α × Store)} {Q : β → Hp → Prop} (e : Ext A H A1 H1) (h : PV g R W σ A H o Q) : PV g R W σ A1 H1 o Q := by
  cases o with
  | ok p => exact fun v A' H' e' => h v A' H' (e.trans e')
  | ex c fs μ => exact fun C dd fvs A' H' hm e' => h C dd fvs A' H' hm (e.trans e')
  | no => exact h
theorem PV.imp {g : G} {R : List Addr → Hp → α → β → Prop} {W : WX} {σ : St} {A : List Addr} {H : Hp} {o : Out (α × Store)} {Q Q' : β → Hp → Prop} (hq : ∀ v H, Q v H → Q' v H) (h : PV g R W σ A H o Q) : PV g R W σ A H o Q' := by
  cases o with
  | ok p => exact fun v A' H' e' r k => hq _ _ (h v A' H' e' r k)
  | ex c fs μ => exact h
  | no => exact h
/-- the value comes first, then what is made of it -/
theorem PV.bind {g : G} {R : List Addr → Hp → α → β → Prop} {δ : Type} {S : List Addr → Hp → γ → δ → Prop} {W : WX} {σ : St} {A : List Addr} {H : Hp} {o : Out (α × Store)} {f : α × Store → Out (γ × Store)} {Q : δ → Hp → Prop} {Q' : β → Hp → Prop}
    (h : PV g S W σ A H (o.bind f) Q) (k : ∀ d μ' v A' H', Ext A H A' H' → Rep g A' μ' H' → R A' H' d v → PV g S W σ A' H' (f (d, μ')) Q → Q' v H') : PV g R W σ A H o Q' := by
  cases o with
  | ok p =>
    obtain ⟨d, μ'⟩ := p
    exact fun v A' H' e r rv => k d μ' v A' H' e r rv (PV.ext e h)
  | ex c fs μ => exact h
  | no => exact h
end

abbrev Xg (X : Cx) : G := ⟨X.K, X.mg⟩
abbrev W0 : WX := fun _ _ _ _ => False
theorem pe_imp {X : Cx} {e : Expr} {t t' : TE} (h : PE X e t) (i : ∀ σ H Q, t' σ H Q → t σ H Q) : PE X e t' := ⟨fun pins s σ H Q I k => h.run pins s σ H Q I (i σ H Q k)⟩
theorem pt_imp {X : Cx} {e : Expr} {t t' : TT} (h : PT X e t) (i : ∀ σ H Q, t' σ H Q → t σ H Q) : PT X e t' := ⟨fun pins s σ H Q I k => h.run pins s σ H Q I (i σ H Q k)⟩
theorem pa_imp {X : Cx} {e : List Expr} {t t' : TA} (h : PA X e t) (i : ∀ σ H Q, t' σ H Q → t σ H Q) : PA X e t' := ⟨fun pos pins s σ H Q I k => h.run pos pins s σ H Q I (i σ H Q k)⟩
theorem po_imp {X : Cx} {e : Option Expr} {t t' : TO} (h : PO X e t) (i : ∀ σ H Q, t' σ H Q → t σ H Q) : PO X e t' := ⟨fun pins s σ H Q I k => h.run pins s σ H Q I (i σ H Q k)⟩
theorem ps_imp {X : Cx} {e : Stmt} {t t' : TS} (h : PS X e t) (i : ∀ D σ H, t' D σ H → t D σ H) : PS X e t' := ⟨fun pins s σ H Q I k => h.run pins s σ H Q I (i Q σ H k)⟩
theorem pss_imp {X : Cx} {e : List Stmt} {t t' : TS} (h : PSs X e t) (i : ∀ D σ H, t' D σ H → t D σ H) : PSs X e t' := ⟨fun pins s σ H Q I k => h.run pins s σ H Q I (i Q σ H k)⟩
abbrev DE (X : Cx) (W : WX) (e : Expr) (m : M D) : Prop := PE X e (T (Xg X) (RE (Xg X)) W m)
abbrev DT (X : Cx) (W : WX) (e : Expr) (m : M Bool) : Prop := PT X e (T (Xg X) REq W m)
abbrev DA (X : Cx) (W : WX) (es : List Expr) (m : M (List D)) : Prop := PA X es (T (Xg X) (REs (Xg X)) W m)
abbrev DO (X : Cx) (W : WX) (e : Option Expr) (m : M (Option Int)) : Prop := PO X e (T (Xg X) REq W m)

/-! ### what operations are worth -/
section
variable {g : G} {A : List Addr} {μ : Store} {H : Hp}
/-- an operation's answer, no exception -/
def Res (g : G) (A : List Addr) (H : Hp) (o : Option (D × Store)) (Q : VK) : Prop := match o with
  | some (d, μ') => ∀ v A' H', Ext A H A' H' → Rep g A' μ' H' → RV g.K A' H' d v → Q v H'
  | none => False
theorem Res.of {W : WX} {σ : St} {o : Option (D × Store)} {Q : VK} (h : PV g (RE g) W σ A H (Out.of o) Q) : Res g A H o Q := by
  cases o with
  | none => exact h
  | some p => exact h
theorem Res.val {d : D} {v : V} {Q : VK} (r : Rep g A μ H) (hv : RV g.K A H d v) (h : Res g A H (some (d, μ)) Q) : Q v H := h v A H (Ext.refl r) r hv
/-- a new tuple -/
theorem Res.tup {ds : List D} {vs : List V} {Q : VK} (r : Rep g A μ H) (hv : RVs g.K A H ds vs) (h : Res g A H (some (.tup ds, μ)) Q) : ∀ p, H p = none → Q (.ref p) (upd H p (.tup vs)) := fun p hp =>
  h (.ref p) A _ (Ext.new r hp) (Rep.new r hp) ⟨p, vs, rfl, .inl upd_same, RVs.ext r (Ext.new r hp) _ _ hv⟩
/-- a new list -/
theorem Res.lst {ds : List D} {vs : List V} {Q : VK} (r : Rep g A μ H) (hv : RVs g.K A H ds vs) (h : Res g A H (some (.ptr μ.length, μ ++ [.lst ds])) Q) : ∀ p, H p = none → Q (.ref p) (upd H p (.lst vs)) := fun p hp =>
  h (.ref p) (A ++ [p]) _ (Ext.push r hp) (Rep.push r hp ⟨vs, upd_same, RVs.ext r (Ext.push r hp) _ _ hv⟩) ⟨p, rfl, by rw [← r.len]; simp⟩
/-- a list of the store written -/
theorem Res.wrote {n : Nat} {a : Addr} {ds : List D} {vs : List V} {d : D} {v : V} {Q : VK} (r : Rep g A μ H) (ha : A[n]? = some a) (hv : RVs g.K A H ds vs) (hd : RV g.K A H d v) (h : Res g A H (some (d, μ.set n (.lst ds))) Q) : Q v (upd H a (.lst vs)) :=
  h v A _ (Ext.write r ha) (Rep.write r ha ⟨vs, upd_same, RVs.ext r (Ext.write r ha) _ _ hv⟩) (RV.ext r (Ext.write r ha) _ _ hd)
theorem Rep.lst (r : Rep g A μ H) {n : Nat} {a : Addr} {ds : List D} (ha : A[n]? = some a) (hm : μ[n]? = some (.lst ds)) : ∃ vs, H a = some (.lst vs) ∧ RVs g.K A H ds vs := r.obj n a _ ha hm
/-- the list at n -/
def lstAt (μ : Store) (n : Nat) : Option (List D) := match μ[n]? with
  | some (.lst ds) => some ds
  | _ => none
theorem lstAt_eq {n : Nat} {ds : List D} (h : lstAt μ n = some ds) : μ[n]? = some (.lst ds) := by
  unfold lstAt at h
  split at h
  · rename_i e; cases h; exact e
  · cases h
theorem lstAt_of {n : Nat} {ds : List D} (h : μ[n]? = some (.lst ds)) : lstAt μ n = some ds := by unfold lstAt; rw [h]
theorem Rep.lstA (r : Rep g A μ H) {n : Nat} {a : Addr} {ds : List D} (ha : A[n]? = some a) (hm : lstAt μ n = some ds) : ∃ vs, H a = some (.lst vs) ∧ RVs g.K A H ds vs := r.obj n a _ ha (lstAt_eq hm)
/-- what a sequence holds -/
def seqD (μ : Store) : D → Option (List D)
  | .tup ds => some ds
  | .rol ds => some ds
  | .kst ds => some ds
  | .ptr n => lstAt μ n
  | _ => none
theorem seqD_ok (r : Rep g A μ H) {d : D} {ds : List D} {v : V} (h : seqD μ d = some ds) (rv : RV g.K A H d v) : ∃ a vs, v = .ref a ∧ (SqL g.K H a vs ∨ SqT g.K H a vs) ∧ RVs g.K A H ds vs := by
  cases d with
  | tup es =>
    cases h
    simp only [RV] at rv
    obtain ⟨a, vs, rfl, h1, h2⟩ := rv
    exact ⟨a, vs, rfl, .inr (.inl h1), h2⟩
  | rol es =>
    cases h
    simp only [RV] at rv
    obtain ⟨a, vs, rfl, h1, h2⟩ := rv
    exact ⟨a, vs, rfl, .inl h1.sq, h2⟩
  | kst es =>
    cases h
    simp only [RV] at rv
    obtain ⟨a, vs, rfl, h1, h2⟩ := rv
    exact ⟨a, vs, rfl, .inl h1.sq, h2⟩
  | ptr n =>
    simp only [RV] at rv
    obtain ⟨a, rfl, ha⟩ := rv
    obtain ⟨vs, h1, h2⟩ := Rep.lstA r ha (show lstAt μ n = some ds from h)
    exact ⟨a, vs, rfl, .inl (SqL.of h1), h2⟩
  | _ => cases h
end

/-- what a list holds -/
def lstOf (μ : Store) : D → Option (List D)
  | .rol ds => some ds
  | .ptr n => lstAt μ n
  | _ => none
theorem lstOf_h {g : G} {A : List Addr} {μ : Store} {H : Hp} (r : Rep g A μ H) {d : D} {ds : List D} {v : V} (h : lstOf μ d = some ds) (rv : RV g.K A H d v) : ∃ a vs, v = .ref a ∧ H a = some (.lst vs) ∧ RVs g.K A H ds vs := by
  cases d with
  | rol es =>
    cases h
    simp only [RV] at rv
    obtain ⟨a, vs, rfl, h1, h2⟩ := rv
    exact ⟨a, vs, rfl, h1.1, h2⟩
  | ptr n =>
    simp only [RV] at rv
    obtain ⟨a, rfl, ha⟩ := rv
    obtain ⟨vs, h1, h2⟩ := Rep.lstA r ha (show lstAt μ n = some ds from h)
    exact ⟨a, vs, rfl, h1, h2⟩
  | _ => cases h
theorem lstOf_ok {g : G} {A : List Addr} {μ : Store} {H : Hp} (r : Rep g A μ H) {d : D} {ds : List D} {v : V} (h : lstOf μ d = some ds) (rv : RV g.K A H d v) : ∃ a vs, v = .ref a ∧ SqL g.K H a vs ∧ RVs g.K A H ds vs := by
  obtain ⟨a, vs, e, h1, h2⟩ := lstOf_h r h rv
  exact ⟨a, vs, e, SqL.of h1, h2⟩

/-! ### names, constants -/
def mVar (i : Nat) : M D := fun ρ μ => match ρ[i]? with
  | some (some d) => .ok (d, μ)
  | _ => .no
def mC (d : D) : M D := fun _ μ => .ok (d, μ)
section
variable {X : Cx} {W : WX}
theorem de_var {i : Nat} {x : Str} {pos : Pos} (hN : X.N[i]? = some x := by rfl) (hv : Vis X.env.scope x := by first | exact Or.inl rfl | exact Or.inr (Or.inl rfl) | exact Or.inr (Or.inr rfl)) (hd : (x == ("__debug__" : Str)) = false := by decide)
    (hcd : (x == ("__classdict__" : Str)) = false := by decide) : DE X W (.Name x pos) (mVar i) := pe_imp (pe_var hN hv hd hcd) fun σ H Q h => by
  obtain ⟨ρ, μ, A, rs, r, h⟩ := h
  unfold mVar at h
  cases e : ρ[i]? with
  | none => rw [e] at h; exact h.elim
  | some o =>
    cases o with
    | none => rw [e] at h; exact h.elim
    | some d =>
      rw [e] at h
      obtain ⟨v, hv, rv⟩ := rs.at_ i d e
      exact ⟨v, hv, h v A H (Ext.refl r) r rv⟩
theorem de_c {e : Expr} {v : V} {d : D} (h : PE X e (tC v)) (hv : ∀ A H, RV X.K A H d v) : DE X W e (mC d) := pe_imp h fun σ H Q h => by
  obtain ⟨ρ, μ, A, rs, r, h⟩ := h
  exact h v A H (Ext.refl r) r (hv A H)
theorem de_int {i : Int} {j pos} : DE X W (.Constant (.int i) j pos) (mC (.int i)) := de_c pe_int fun _ _ => rfl
theorem de_bl {i : Bool} {j pos} : DE X W (.Constant (.bool i) j pos) (mC (.bl i)) := de_c pe_bl fun _ _ => rfl
theorem de_non {j pos} : DE X W (.Constant .none j pos) (mC .non) := de_c pe_non fun _ _ => rfl
theorem de_str {x : Str} {j pos} : DE X W (.Constant (.str x) j pos) (mC (.str x)) := de_c pe_str fun _ _ => rfl
/-- a module's constant -/
theorem de_globI {x : Str} {i : Int} {u : Value} {pos : Pos} (hm : X.mg x = some u) (r : ∃ t, u = Value.int i t) (hg : Gl X x := by rfl) (hd : (x == ("__debug__" : Str)) = false := by decide) : DE X W (.Name x pos) (mC (.int i)) := de_c (pe_glob hg hm (v := .int i) r hd) fun _ _ => rfl
theorem de_globS {x : Str} {i : Str} {u : Value} {pos : Pos} (hm : X.mg x = some u) (r : ∃ t, u = Value.str i t) (hg : Gl X x := by rfl) (hd : (x == ("__debug__" : Str)) = false := by decide) : DE X W (.Name x pos) (mC (.str i)) := de_c (pe_glob hg hm (v := .str i) r hd) fun _ _ => rfl
theorem de_globR {x : Str} {a : Addr} {pos : Pos} (hm : X.mg x = some (.ref a)) (hg : Gl X x := by rfl) (hd : (x == ("__debug__" : Str)) = false := by decide) : DE X W (.Name x pos) (mC (.raw a)) := de_c (pe_glob hg hm (v := .ref a) rfl hd) fun _ _ => rfl
end

/-! ### two operands -/
def mBin (f : D → D → Store → Option (D × Store)) (a b : M D) : M D := fun ρ μ => (a ρ μ).bind fun p => (b ρ p.2).bind fun q => Out.of (f p.1 q.1 q.2)
def mUn (f : D → Store → Option (D × Store)) (a : M D) : M D := fun ρ μ => (a ρ μ).bind fun p => Out.of (f p.1 p.2)
def R2D (g : G) (r : R2) (f : D → D → Store → Option (D × Store)) : Prop := ∀ {μ A H x y v w Q}, Rep g A μ H → RV g.K A H x v → RV g.K A H y w → Res g A H (f x y μ) Q → r v w H Q
def R1D (g : G) (r : V → Hp → VK → Prop) (f : D → Store → Option (D × Store)) : Prop := ∀ {μ A H x v Q}, Rep g A μ H → RV g.K A H x v → Res g A H (f x μ) Q → r v H Q
section
variable {X : Cx} {W : WX} {a b : Expr} {ma mb mc : M D} {f f' : D → D → Store → Option (D × Store)} {r r' : R2}
theorem bin_imp {g : G} (hf : R2D g r f) {σ : St} {H : Hp} {Q : VK} (h : T g (RE g) W (mBin f ma mb) σ H Q) : tOp r (T g (RE g) W ma) (T g (RE g) W mb) σ H Q := by
  obtain ⟨ρ, μ, A, rs, rp, h⟩ := h
  refine ⟨ρ, μ, A, rs, rp, PV.bind h fun d μ1 v A1 H1 e1 r1 rv h => ?_⟩
  refine ⟨ρ, μ1, A1, RS.ext rp e1 rs, r1, PV.bind h fun d2 μ2 v2 A2 H2 e2 r2 rv2 h => ?_⟩
  exact hf r2 (RV.ext r1 e2 _ _ rv) rv2 (Res.of h)
theorem un_imp {g : G} {r : V → Hp → VK → Prop} {f : D → Store → Option (D × Store)} (hf : R1D g r f) {σ : St} {H : Hp} {Q : VK} (h : T g (RE g) W (mUn f ma) σ H Q) : tUn r (T g (RE g) W ma) σ H Q := by
  obtain ⟨ρ, μ, A, rs, rp, h⟩ := h
  refine ⟨ρ, μ, A, rs, rp, PV.bind h fun d μ1 v A1 H1 e1 r1 rv h => ?_⟩
  exact hf r1 rv (Res.of h)
theorem de_op {op : Operator} {pos : Pos} (ho : OpR X (binaryOp op) r) (hf : R2D (Xg X) r f) (ha : DE X W a ma) (hb : DE X W b mb) : DE X W (.BinOp a op b pos) (mBin f ma mb) := pe_imp (pe_op ho ha hb) fun _ _ _ => bin_imp hf
theorem de_cmp {op : CmpOp} {pos : Pos} (ho : OpR X (compareOp op) r) (hf : R2D (Xg X) r f) (ha : DE X W a ma) (hb : DE X W b mb) (hm : behindInMarks op b = false) : DE X W (.Compare a [op] [b] pos) (mBin f ma mb) := pe_imp (pe_cmpR ho ha hb hm) fun _ _ _ => bin_imp hf
/-- a value that is a truth -/
def mTest (m : M D) : M Bool := fun ρ μ => (m ρ μ).bind fun p => match p.1 with
  | .bl b => .ok (b, p.2)
  | _ => .no
theorem test_imp {g : G} {m : M D} {σ : St} {H : Hp} {Q : Bool → Hp → Prop} (h : T g REq W (mTest m) σ H Q) : T g (RE g) W m σ H fun x H' => ∃ k, x = .bl k ∧ Q k H' := by
  obtain ⟨ρ, μ, A, rs, rp, h⟩ := h
  refine ⟨ρ, μ, A, rs, rp, PV.bind h fun d μ1 v A1 H1 e1 r1 rv h => ?_⟩
  cases d with
  | bl b => exact ⟨b, rv, h b A1 H1 (Ext.refl r1) r1 rfl⟩
  | _ => exact h.elim
theorem dt_cmp {op : CmpOp} {pos : Pos} (ho : OpR X (compareOp op) r) (hf : R2D (Xg X) r f) (ha : DE X W a ma) (hb : DE X W b mb) (hm : behindInMarks op b = false) : DT X W (.Compare a [op] [b] pos) (mTest (mBin f ma mb)) := pt_imp (pt_cmpR ho ha hb hm) fun σ H Q h => by
  have q := bin_imp hf (test_imp h)
  exact q
/-- a < b < c -/
def mChain (f f' : D → D → Store → Option (D × Store)) (a b c : M D) : M D := fun ρ μ => (a ρ μ).bind fun p => (b ρ p.2).bind fun q => (Out.of (f p.1 q.1 q.2)).bind fun t => match t.1 with
  | .bl true => (c ρ t.2).bind fun u => Out.of (f' q.1 u.1 u.2)
  | .bl false => .ok (.bl false, t.2)
  | _ => .no
theorem chain_imp {g : G} (hf : R2D g r f) (hf' : R2D g r' f') {σ : St} {H : Hp} {Q : VK} (h : T g (RE g) W (mChain f f' ma mb mc) σ H Q) : tChain r r' (T g (RE g) W ma) (T g (RE g) W mb) (T g (RE g) W mc) σ H Q := by
  obtain ⟨ρ, μ, A, rs, rp, h⟩ := h
  refine ⟨ρ, μ, A, rs, rp, PV.bind h fun d μ1 v A1 H1 e1 r1 rv h => ?_⟩
  have rs1 := RS.ext rp e1 rs
  refine ⟨ρ, μ1, A1, rs1, r1, PV.bind h fun d2 μ2 v2 A2 H2 e2 r2 rv2 h => ?_⟩
  have rs2 := RS.ext r1 e2 rs1
  refine hf r2 (RV.ext r1 e2 _ _ rv) rv2 ?_
  cases hm : f d d2 μ2 with
  | none => rw [hm] at h; exact h
  | some p =>
    obtain ⟨d3, μ3⟩ := p
    rw [hm] at h
    intro v3 A3 H3 e3 r3 rv3
    have h := PV.ext e3 h
    cases d3 with
    | bl b =>
      refine ⟨b, rv3, ?_⟩
      cases b with
      | false => exact iteF (h (.bl false) A3 H3 (Ext.refl r3) r3 rfl)
      | true =>
        refine iteT ⟨ρ, μ3, A3, RS.ext r2 e3 rs2, r3, PV.bind h fun d4 μ4 v4 A4 H4 e4 r4 rv4 h => ?_⟩
        exact hf' r4 (RV.ext r3 e4 _ _ (RV.ext r2 e3 _ _ rv2)) rv4 (Res.of h)
    | _ => exact h.elim
theorem de_chain {op op' : CmpOp} {c : Expr} {pos : Pos} (ho : OpR X (compareOp op) r) (hf : R2D (Xg X) r f) (ho' : OpR X (compareOp op') r') (hf' : R2D (Xg X) r' f') (ha : DE X W a ma) (hb : DE X W b mb) (hc : DE X W c mc)
    (hm : lastMarks [op, op'] [b, c] = false := by with_unfolding_all rfl) : DE X W (.Compare a [op, op'] [b, c] pos) (mChain f f' ma mb mc) := pe_imp (pe_chain ho ho' ha hb hc hm) fun _ _ _ => chain_imp hf hf'
theorem dt_chain {op op' : CmpOp} {c : Expr} {pos : Pos} (ho : OpR X (compareOp op) r) (hf : R2D (Xg X) r f) (ho' : OpR X (compareOp op') r') (hf' : R2D (Xg X) r' f') (ha : DE X W a ma) (hb : DE X W b mb) (hc : DE X W c mc)
    (hm : lastMarks [op, op'] [b, c] = false := by with_unfolding_all rfl) : DT X W (.Compare a [op, op'] [b, c] pos) (mTest (mChain f f' ma mb mc)) := pt_imp (pt_chain ho ho' ha hb hc hm) fun _ _ _ h => chain_imp hf hf' (test_imp h)

/-! ### truth -/
def truD (μ : Store) : D → Option Bool
  | .non => some false
  | .bl b => some b
  | .int i => some (i != 0)
  | .str x => if x.length ≤ 16777216 then some ((x.length : Int) != 0) else none
  | .ptr n => match μ[n]? with
    | some (.lst ds) => some (!ds.isEmpty)
    | some (.dK kvs) => some (!kvs.isEmpty)
    | _ => none
  | .tup ds => some (!ds.isEmpty)
  | .rol ds => some (!ds.isEmpty)
  | .raw _ => none
  | .kst _ => none
  | .lam _ _ _ _ => none
theorem RKs.len {κ : Type} {K : PySem.W.Frag} {A : List Addr} {H : Hp} : ∀ {fs : List (κ × D)} {vs : List (κ × V)}, RKs K A H fs vs → vs.length = fs.length
  | [], _, h => by have h : _ = [] := h; subst h; rfl
  | (f', d') :: fs, _, h => by
    obtain ⟨v, ws, rfl, h1, h⟩ := h
    simp [RKs.len h]
theorem isEmpty_len {α β : Type} {a : List α} {b : List β} (h : a.length = b.length) : a.isEmpty = b.isEmpty := by
  cases a <;> cases b <;> simp_all
theorem truD_ok {g : G} {A : List Addr} {μ : Store} {H : Hp} (r : Rep g A μ H) {d : D} {v : V} {k : Bool} (h : truD μ d = some k) (rv : RV g.K A H d v) : TruV g.K v H k := by
  cases d with
  | non => cases (show v = _ from rv); cases h; rfl
  | bl b => cases (show v = _ from rv); cases h; rfl
  | int i => cases (show v = _ from rv); cases h; rfl
  | str x =>
    cases (show v = _ from rv)
    simp only [truD] at h
    split at h
    · rename_i hx; cases h; exact ⟨by rw [sizeLine_eq]; exact hx, rfl⟩
    · cases h
  | tup ds =>
    simp only [RV] at rv
    obtain ⟨a, vs, rfl, h1, h2⟩ := rv
    cases h
    exact .inr (.inl ⟨vs, .inl h1, by rw [isEmpty_len (RVs.length h2)]⟩)
  | rol ds =>
    simp only [RV] at rv
    obtain ⟨a, vs, rfl, h1, h2⟩ := rv
    cases h
    exact .inl ⟨vs, h1.sq, by rw [isEmpty_len (RVs.length h2)]⟩
  | ptr n =>
    simp only [RV] at rv
    obtain ⟨a, rfl, ha⟩ := rv
    simp only [truD] at h
    split at h
    · rename_i ds hm
      cases h
      obtain ⟨vs, h1, h2⟩ := Rep.lst r ha hm
      exact .inl ⟨vs, SqL.of h1, by rw [isEmpty_len (RVs.length h2)]⟩
    · rename_i kvs hm
      cases h
      obtain ⟨ws, h1, h2⟩ := r.obj n a _ ha hm
      exact .inr (.inr ⟨ws, h1, by rw [isEmpty_len (RKs.len h2)]⟩)
    · cases h
  | raw a => cases h
  | kst => cases h
  | lam => cases h
def mTru (m : M D) : M Bool := fun ρ μ => (m ρ μ).bind fun p => Out.of ((truD p.2 p.1).map fun b => (b, p.2))
theorem tru_imp {g : G} {m : M D} {σ : St} {H : Hp} {Q : Bool → Hp → Prop} (h : T g REq W (mTru m) σ H Q) : T g (RE g) W m σ H fun x H' => ∃ k, TruV g.K x H' k ∧ Q k H' := by
  obtain ⟨ρ, μ, A, rs, rp, h⟩ := h
  refine ⟨ρ, μ, A, rs, rp, PV.bind h fun d μ1 v A1 H1 e1 r1 rv h => ?_⟩
  cases e : truD μ1 d with
  | none => rw [e] at h; exact h.elim
  | some k =>
    rw [e] at h
    exact ⟨k, truD_ok r1 e rv, h k A1 H1 (Ext.refl r1) r1 rfl⟩
theorem dt_tru (ha : DE X W a ma) (he : ∀ whole, isTrue a X.env whole = (do let v ← whole; standAt a.pos; holding [v] (truthy v)) := by intro _; rfl) : DT X W a (mTru ma) := pt_imp (pt_truth ha he) fun _ _ _ h => tru_imp h
/-! ### and, or, not -/
def mAndT (a b : M Bool) : M Bool := fun ρ μ => (a ρ μ).bind fun p => if p.1 = true then b ρ p.2 else .ok (false, p.2)
def mOrT (a b : M Bool) : M Bool := fun ρ μ => (a ρ μ).bind fun p => if p.1 = true then .ok (true, p.2) else b ρ p.2
def mNotT (a : M Bool) : M Bool := fun ρ μ => (a ρ μ).bind fun p => .ok (!p.1, p.2)
def mAnd (a b : M D) : M D := fun ρ μ => (a ρ μ).bind fun p => (Out.of (truD p.2 p.1)).bind fun k => if k = true then b ρ p.2 else .ok p
def mOr (a b : M D) : M D := fun ρ μ => (a ρ μ).bind fun p => (Out.of (truD p.2 p.1)).bind fun k => if k = true then .ok p else b ρ p.2
def mNot (a : M D) : M D := fun ρ μ => (a ρ μ).bind fun p => (Out.of (truD p.2 p.1)).bind fun k => .ok (.bl (!k), p.2)
def mIf (c : M Bool) (a b : M D) : M D := fun ρ μ => (c ρ μ).bind fun p => if p.1 = true then a ρ p.2 else b ρ p.2
abbrev DW (X : Cx) (W : WX) (e : Expr) (m : M Bool) : Prop := PW X e (T (Xg X) REq W m)
variable {ta tb : M Bool} {rest : List Expr} {pos : Pos}
theorem pw_imp {X : Cx} {e : Expr} {t t' : TT} (h : PW X e t) (i : ∀ σ H Q, t' σ H Q → t σ H Q) : PW X e t' := ⟨fun wh pins s σ H Q I k => h.run wh pins s σ H Q I (i σ H Q k)⟩
theorem dw_and1 (ha : DT X W a ta) : DW X W (.BoolOp .And [a] pos) ta := pw_and1 ha
theorem dw_or1 (ha : DT X W a ta) : DW X W (.BoolOp .Or [a] pos) ta := pw_or1 ha
theorem dw_and (ha : DT X W a ta) (hb : DW X W (.BoolOp .And (b :: rest) pos) tb) : DW X W (.BoolOp .And (a :: b :: rest) pos) (mAndT ta tb) := pw_imp (pw_and ha hb) fun σ H Q h => by
  obtain ⟨ρ, μ, A, rs, rp, h⟩ := h
  refine ⟨ρ, μ, A, rs, rp, PV.bind h fun d μ1 v A1 H1 e1 r1 rv h => ?_⟩
  cases (show d = v from rv)
  cases d with
  | true => exact iteT ⟨ρ, μ1, A1, RS.ext rp e1 rs, r1, h⟩
  | false => exact iteF (h false A1 H1 (Ext.refl r1) r1 rfl)
theorem dw_or (ha : DT X W a ta) (hb : DW X W (.BoolOp .Or (b :: rest) pos) tb) : DW X W (.BoolOp .Or (a :: b :: rest) pos) (mOrT ta tb) := pw_imp (pw_or ha hb) fun σ H Q h => by
  obtain ⟨ρ, μ, A, rs, rp, h⟩ := h
  refine ⟨ρ, μ, A, rs, rp, PV.bind h fun d μ1 v A1 H1 e1 r1 rv h => ?_⟩
  cases (show d = v from rv)
  cases d with
  | false => exact iteF ⟨ρ, μ1, A1, RS.ext rp e1 rs, r1, h⟩
  | true => exact iteT (h true A1 H1 (Ext.refl r1) r1 rfl)
theorem dt_w (h : DW X W a ta) : DT X W a ta := PW.pt h
theorem dt_not (ha : DT X W a ta) : DT X W (.UnaryOp .Not a pos) (mNotT ta) := pt_imp (pt_not ha) fun σ H Q h => by
  obtain ⟨ρ, μ, A, rs, rp, h⟩ := h
  refine ⟨ρ, μ, A, rs, rp, PV.bind h fun d μ1 v A1 H1 e1 r1 rv h => ?_⟩
  cases (show d = v from rv)
  exact h (!d) A1 H1 (Ext.refl r1) r1 rfl
theorem de_one {op} (h : DE X W a ma) : DE X W (.BoolOp op [a] pos) ma := pe_one h
theorem de_and (ha : DE X W a ma) (hb : DE X W (.BoolOp .And (b :: rest) pos) mb) : DE X W (.BoolOp .And (a :: b :: rest) pos) (mAnd ma mb) := pe_imp (pe_andT ha hb) fun σ H Q h => by
  obtain ⟨ρ, μ, A, rs, rp, h⟩ := h
  refine ⟨ρ, μ, A, rs, rp, PV.bind h fun d μ1 v A1 H1 e1 r1 rv h => ?_⟩
  cases e : truD μ1 d with
  | none => simp only [e, Out.of_none, Out.bind_no] at h; exact h.elim
  | some k =>
    simp only [e, Out.of_some, Out.bind_ok] at h
    refine ⟨k, truD_ok r1 e rv, ?_⟩
    cases k with
    | true => exact iteT ⟨ρ, μ1, A1, RS.ext rp e1 rs, r1, h⟩
    | false => exact iteF (h v A1 H1 (Ext.refl r1) r1 rv)
theorem de_or (ha : DE X W a ma) (hb : DE X W (.BoolOp .Or (b :: rest) pos) mb) : DE X W (.BoolOp .Or (a :: b :: rest) pos) (mOr ma mb) := pe_imp (pe_orT ha hb) fun σ H Q h => by
  obtain ⟨ρ, μ, A, rs, rp, h⟩ := h
  refine ⟨ρ, μ, A, rs, rp, PV.bind h fun d μ1 v A1 H1 e1 r1 rv h => ?_⟩
  cases e : truD μ1 d with
  | none => simp only [e, Out.of_none, Out.bind_no] at h; exact h.elim
  | some k =>
    simp only [e, Out.of_some, Out.bind_ok] at h
    refine ⟨k, truD_ok r1 e rv, ?_⟩
    cases k with
    | false => exact iteF ⟨ρ, μ1, A1, RS.ext rp e1 rs, r1, h⟩
    | true => exact iteT (h v A1 H1 (Ext.refl r1) r1 rv)
theorem de_not (ha : DE X W a ma) : DE X W (.UnaryOp .Not a pos) (mNot ma) := pe_imp (pe_notT ha) fun σ H Q h => by
  obtain ⟨ρ, μ, A, rs, rp, h⟩ := h
  refine ⟨ρ, μ, A, rs, rp, PV.bind h fun d μ1 v A1 H1 e1 r1 rv h => ?_⟩
  cases e : truD μ1 d with
  | none => simp only [e, Out.of_none, Out.bind_no] at h; exact h.elim
  | some k =>
    simp only [e, Out.of_some, Out.bind_ok] at h
    exact ⟨k, truD_ok r1 e rv, h _ A1 H1 (Ext.refl r1) r1 rfl⟩
theorem de_if {c : Expr} (hc : DT X W c ta) (ha : DE X W a ma) (hb : DE X W b mb) : DE X W (.IfExp c a b pos) (mIf ta ma mb) := pe_imp (pe_ifExp hc ha hb) fun σ H Q h => by
  obtain ⟨ρ, μ, A, rs, rp, h⟩ := h
  refine ⟨ρ, μ, A, rs, rp, PV.bind h fun d μ1 v A1 H1 e1 r1 rv h => ?_⟩
  cases (show d = v from rv)
  cases d with
  | true => exact iteT ⟨ρ, μ1, A1, RS.ext rp e1 rs, r1, h⟩
  | false => exact iteF ⟨ρ, μ1, A1, RS.ext rp e1 rs, r1, h⟩

/-! ### arguments, displays, parts -/
def aNil : M (List D) := fun _ μ => .ok ([], μ)
def aCons (a : M D) (b : M (List D)) : M (List D) := fun ρ μ => (a ρ μ).bind fun p => (b ρ p.2).bind fun q => .ok (p.1 :: q.1, q.2)
theorem da_nil : DA X W [] aNil := pa_imp pa_nil fun σ H Q h => by
  obtain ⟨ρ, μ, A, rs, rp, h⟩ := h
  exact h [] A H (Ext.refl rp) rp rfl
theorem da_cons {es : List Expr} {ms : M (List D)} (ha : DE X W a ma) (hr : DA X W es ms) (hs : starEach (a :: es) X.env = (false, eval a X.env) :: starEach es X.env := by rfl) : DA X W (a :: es) (aCons ma ms) := pa_imp (pa_cons ha hr hs) fun σ H Q h => by
  obtain ⟨ρ, μ, A, rs, rp, h⟩ := h
  refine ⟨ρ, μ, A, rs, rp, PV.bind h fun d μ1 v A1 H1 e1 r1 rv h => ?_⟩
  refine ⟨ρ, μ1, A1, RS.ext rp e1 rs, r1, PV.bind h fun ds μ2 vs A2 H2 e2 r2 rvs h => ?_⟩
  exact h (v :: vs) A2 H2 (Ext.refl r2) r2 (RVs.consI (RV.ext r1 e2 _ _ rv) rvs)
def mTup (a : M (List D)) : M D := fun ρ μ => (a ρ μ).bind fun p => if p.1.length ≤ 16777216 then .ok (.tup p.1, p.2) else .no
def mLst (a : M (List D)) : M D := fun ρ μ => (a ρ μ).bind fun p => if p.1.length ≤ 16777216 then .ok (.ptr p.2.length, p.2 ++ [.lst p.1]) else .no
theorem de_tup {es : List Expr} {ms : M (List D)} {x1} (h : DA X W es ms) : DE X W (.Tuple es x1 pos) (mTup ms) := pe_imp (pe_tup h) fun σ H Q h => by
  obtain ⟨ρ, μ, A, rs, rp, h⟩ := h
  refine ⟨ρ, μ, A, rs, rp, PV.bind h fun d μ1 v A1 H1 e1 r1 rv h => ?_⟩
  by_cases hz : d.length ≤ 16777216
  · simp only [if_pos hz] at h
    exact ⟨by rw [sizeLine_eq, RVs.length rv]; exact hz, Res.tup r1 rv h⟩
  · simp only [if_neg hz] at h
    exact h.elim
theorem de_lst {es : List Expr} {ms : M (List D)} (h : DA X W es ms) : DE X W (.List es pos) (mLst ms) := pe_imp (pe_lst h) fun σ H Q h => by
  obtain ⟨ρ, μ, A, rs, rp, h⟩ := h
  refine ⟨ρ, μ, A, rs, rp, PV.bind h fun d μ1 v A1 H1 e1 r1 rv h => ?_⟩
  by_cases hz : d.length ≤ 16777216
  · simp only [if_pos hz] at h
    exact ⟨by rw [sizeLine_eq, RVs.length rv]; exact hz, Res.lst r1 rv h⟩
  · simp only [if_neg hz] at h
    exact h.elim
def oNone : M (Option Int) := fun _ μ => .ok (none, μ)
def oSome (m : M D) : M (Option Int) := fun ρ μ => (m ρ μ).bind fun p => match p.1 with
  | .int i => .ok (some i, p.2)
  | _ => .no
theorem do_none : DO X W none oNone := po_imp po_none fun σ H Q h => by
  obtain ⟨ρ, μ, A, rs, rp, h⟩ := h
  exact h none A H (Ext.refl rp) rp rfl
theorem do_some (ha : DE X W a ma) : DO X W (some a) (oSome ma) := po_imp (po_some ha) fun σ H Q h => by
  obtain ⟨ρ, μ, A, rs, rp, h⟩ := h
  refine ⟨ρ, μ, A, rs, rp, PV.bind h fun d μ1 v A1 H1 e1 r1 rv h => ?_⟩
  cases d with
  | int i => exact ⟨i, rv, h (some i) A1 H1 (Ext.refl r1) r1 rfl⟩
  | _ => exact h.elim
/-! ### built-ins by values -/
def RCD (g : G) (r : List V → Hp → VK → Prop) (f : List D → Store → Option (D × Store)) : Prop := ∀ {μ A H xs vs Q}, Rep g A μ H → RVs g.K A H xs vs → Res g A H (f xs μ) Q → r vs H Q
def mCB (f : List D → Store → Option (D × Store)) (a : M (List D)) : M D := fun ρ μ => (a ρ μ).bind fun p => Out.of (f p.1 p.2)
theorem cb_imp {g : G} {r : List V → Hp → VK → Prop} {f : List D → Store → Option (D × Store)} {ms : M (List D)} (hf : RCD g r f) {σ : St} {H : Hp} {Q : VK} (h : T g (RE g) W (mCB f ms) σ H Q) : tCB r (T g (REs g) W ms) σ H Q := by
  obtain ⟨ρ, μ, A, rs, rp, h⟩ := h
  exact ⟨ρ, μ, A, rs, rp, PV.bind h fun d μ1 v A1 H1 e1 r1 rv h => hf r1 rv (Res.of h)⟩
theorem de_callB {id : String} {x : Str} {p : Pos} {e : Expr} {es : List Expr} {r : List V → Hp → VK → Prop} {f : List D → Store → Option (D × Store)} {ms : M (List D)} (hc : CallR X (.builtin id) r) (hf : RCD (Xg X) r f) (hm : X.mg x = none) (ha : DA X W (e :: es) ms) (hg : Gl X x := by rfl)
    (hv : bootBuiltins x = some (.builtin id) := by decide +kernel) (hn : x ≠ "__name__" := by decide) (hdb : (x == ("__debug__" : Str)) = false := by decide)
    (he : starEach (e :: es) X.env = (false, eval e X.env) :: starEach es X.env := by rfl) (hpl : (backTo pos (starEach es X.env)).any (·.1) = false := by rfl) : DE X W (.Call (.Name x p) (e :: es) [] pos) (mCB f ms) :=
  pe_imp (pe_callB hc hg hm hv ha hn hdb he hpl) fun _ _ _ => cb_imp hf
theorem de_callTy {T : String} {x : Str} {p : Pos} {e : Expr} {es : List Expr} {r : List V → Hp → VK → Prop} {f : List D → Store → Option (D × Store)} {ms : M (List D)} (hc : CallR X (.type T) r) (hf : RCD (Xg X) r f) (hm : X.mg x = none) (ha : DA X W (e :: es) ms) (hg : Gl X x := by rfl)
    (hv : bootBuiltins x = some (.type T) := by decide +kernel) (hn : x ≠ "__name__" := by decide) (hdb : (x == ("__debug__" : Str)) = false := by decide)
    (he : starEach (e :: es) X.env = (false, eval e X.env) :: starEach es X.env := by rfl) (hpl : (backTo pos (starEach es X.env)).any (·.1) = false := by rfl) : DE X W (.Call (.Name x p) (e :: es) [] pos) (mCB f ms) :=
  pe_imp (pe_callTy hc hg hm hv ha hn hdb he hpl) fun _ _ _ => cb_imp hf
/-- a[b] by values -/
theorem de_ix {r : R2} {f : D → D → Store → Option (D × Store)} (hr : IxR X r) (hf : R2D (Xg X) r f) (ha : DE X W a ma) (hb : DE X W b mb) (hs : PlainIx b := by exact fun _ _ => rfl) : DE X W (.Subscript a b pos) (mBin f ma mb) := pe_imp (pe_ix hr ha hb hs) fun _ _ _ => bin_imp hf
def mSl (f : D → Option Int → Option Int → Store → Option (D × Store)) (a : M D) (l h : M (Option Int)) : M D := fun ρ μ => (a ρ μ).bind fun p => (l ρ p.2).bind fun q => (h ρ q.2).bind fun t => Out.of (f p.1 q.1 t.1 t.2)
def RSD (g : G) (r : V → Option Int → Option Int → Hp → VK → Prop) (f : D → Option Int → Option Int → Store → Option (D × Store)) : Prop := ∀ {μ A H x v lo hi Q}, Rep g A μ H → RV g.K A H x v → Res g A H (f x lo hi μ) Q → r v lo hi H Q
theorem de_slice {p2 : Pos} {lo hi : Option Expr} {ml mh : M (Option Int)} {r : V → Option Int → Option Int → Hp → VK → Prop} {f : D → Option Int → Option Int → Store → Option (D × Store)} (hr : SlR X r) (hf : RSD (Xg X) r f) (ha : DE X W a ma) (hl : DO X W lo ml) (hh : DO X W hi mh) :
    DE X W (.Subscript a (.Slice lo hi none p2) pos) (mSl f ma ml mh) := pe_imp (pe_slice hr ha hl hh) fun σ H Q h => by
  obtain ⟨ρ, μ, A, rs, rp, h⟩ := h
  refine ⟨ρ, μ, A, rs, rp, PV.bind h fun d μ1 v A1 H1 e1 r1 rv h => ?_⟩
  have rs1 := RS.ext rp e1 rs
  refine ⟨ρ, μ1, A1, rs1, r1, PV.bind h fun o μ2 o' A2 H2 e2 r2 eo h => ?_⟩
  cases (show o = o' from eo)
  refine ⟨ρ, μ2, A2, RS.ext r1 e2 rs1, r2, PV.bind h fun u μ3 u' A3 H3 e3 r3 eu h => ?_⟩
  cases (show u = u' from eu)
  exact hf r3 (RV.ext r2 e3 _ _ (RV.ext r1 e2 _ _ rv)) (Res.of h)
/-- o.m(e, ..), m of a built-in type -/
def RMD (g : G) (T : String) (r : V → List V → Hp → VK → Prop) (f : D → List D → Store → Option (D × Store)) : Prop := ∀ {μ A H x v xs vs Q}, Rep g A μ H → RV g.K A H x v → RVs g.K A H xs vs → Res g A H (f x xs μ) Q → r v vs H Q
def mBM (ty : Store → D → Bool) (f : D → List D → Store → Option (D × Store)) (a : M D) (b : M (List D)) : M D := fun ρ μ => (a ρ μ).bind fun p => if ty p.2 p.1 = true then (b ρ p.2).bind fun q => Out.of (f p.1 q.1 q.2) else .no
def tyList (μ : Store) : D → Bool
  | .rol _ => true
  | .ptr n => (lstAt μ n).isSome
  | _ => false
def tyStr (_ : Store) : D → Bool
  | .str _ => true
  | _ => false
def tyDict (μ : Store) : D → Bool
  | .ptr n => match μ[n]? with
    | some (.dK _) => true
    | some (.dT _) => true
    | _ => false
  | _ => false
def TyD (g : G) (T : String) (ty : Store → D → Bool) : Prop := ∀ {μ A H x v}, Rep g A μ H → RV g.K A H x v → ty μ x = true → tyV g.K T v H
theorem ty_list {g : G} : TyD g "list" tyList := fun {μ A H x v} r rv h => by
  cases x with
  | rol ds =>
    simp only [RV] at rv
    obtain ⟨a, vs, rfl, h1, _⟩ := rv
    exact .inl ⟨rfl, vs, h1.sq⟩
  | ptr n =>
    simp only [RV] at rv
    obtain ⟨a, rfl, ha⟩ := rv
    obtain ⟨ds, hm⟩ := Option.isSome_iff_exists.mp (show (lstAt μ n).isSome = true from h)
    obtain ⟨vs, h1, _⟩ := Rep.lstA r ha hm
    exact .inl ⟨rfl, vs, SqL.of h1⟩
  | _ => exact (Bool.false_ne_true h).elim
theorem ty_str {g : G} : TyD g "str" tyStr := fun {μ A H x v} r rv h => by
  cases x with
  | str x => cases (show v = _ from rv); rfl
  | _ => exact (Bool.false_ne_true h).elim
theorem ty_dict {g : G} : TyD g "dict" tyDict := fun {μ A H x v} r rv h => by
  cases x with
  | ptr n =>
    simp only [RV] at rv
    obtain ⟨a, rfl, ha⟩ := rv
    simp only [tyDict] at h
    split at h
    · rename_i kvs hm
      obtain ⟨ws, h1, _⟩ := r.obj n a _ ha hm
      exact .inr (.inr (.inl ⟨rfl, .inl ⟨ws, h1⟩⟩))
    · rename_i kvs hm
      obtain ⟨ws, h1, _⟩ := r.obj n a _ ha hm
      exact .inr (.inr (.inl ⟨rfl, .inr ⟨ws, h1⟩⟩))
    · exact (Bool.false_ne_true h).elim
  | _ => exact (Bool.false_ne_true h).elim
theorem de_bm {T id : String} {name : Str} {apos : Pos} {e : Expr} {es : List Expr} {ms : M (List D)} {r : V → List V → Hp → VK → Prop} {f : D → List D → Store → Option (D × Store)} {ty : Store → D → Bool}
    (ht : TyD (Xg X) T ty) (hf : RMD (Xg X) T r f) (pa : PlainAttrs T) (slot : Slot T name id) (hty : typeOf (.builtin id) = pure (.type "method_descriptor")) (hm : MtR X id r) (ha : DE X W a ma) (hs : DA X W (e :: es) ms)
    (hbase : attributeBase a name X.env (eval a X.env) = eval a X.env := by rfl)
    (hfew : ((backTo pos (starEach (e :: es) X.env)).all (fun x => !x.1) && (backToKw pos (keywordEach [] X.env)).all (fun x => x.1.isSome)
      && decide ((e :: es).length + ([] : List Keyword).length + (if ([] : List Keyword).isEmpty then 0 else 1) < 30)) = true := by rfl)
    (hline : (apos.endLine == pos.line) = true := by rfl) (hs' : starEach (e :: es) X.env = (false, eval e X.env) :: starEach es X.env := by rfl) (hplain : (backTo pos (starEach es X.env)).any (·.1) = false := by rfl) :
    DE X W (.Call (.Attribute a name apos) (e :: es) [] pos) (mBM ty f ma ms) := pe_imp (pe_bm pa slot hty hm ha hs hbase hfew hline hs' hplain) fun σ H Q h => by
  obtain ⟨ρ, μ, A, rs, rp, h⟩ := h
  refine ⟨ρ, μ, A, rs, rp, PV.bind h fun d μ1 v A1 H1 e1 r1 rv h => ?_⟩
  by_cases hy : ty μ1 d = true
  · simp only [if_pos hy] at h
    refine ⟨ht r1 rv hy, ρ, μ1, A1, RS.ext rp e1 rs, r1, PV.bind h fun ds μ2 vs A2 H2 e2 r2 rvs h => ?_⟩
    exact hf r2 (RV.ext r1 e2 _ _ rv) rvs (Res.of h)
  · simp only [if_neg hy] at h
    exact h.elim
theorem de_bm0 {T id : String} {name : Str} {apos : Pos} {r : V → List V → Hp → VK → Prop} {f : D → List D → Store → Option (D × Store)} {ty : Store → D → Bool}
    (ht : TyD (Xg X) T ty) (hf : RMD (Xg X) T r f) (pa : PlainAttrs T) (slot : Slot T name id) (hty : typeOf (.builtin id) = pure (.type "method_descriptor")) (hm : MtR X id r) (ha : DE X W a ma)
    (hbase : attributeBase a name X.env (eval a X.env) = eval a X.env := by rfl) (hline : (apos.endLine == pos.line) = true := by rfl) :
    DE X W (.Call (.Attribute a name apos) [] [] pos) (mBM ty f ma aNil) := pe_imp (pe_bm0 pa slot hty hm ha hbase hline) fun σ H Q h => by
  obtain ⟨ρ, μ, A, rs, rp, h⟩ := h
  refine ⟨ρ, μ, A, rs, rp, PV.bind h fun d μ1 v A1 H1 e1 r1 rv h => ?_⟩
  by_cases hy : ty μ1 d = true
  · simp only [if_pos hy] at h
    exact ⟨ht r1 rv hy, hf r1 rv (show RVs X.K A1 H1 [] [] from rfl) (Res.of h)⟩
  · simp only [if_neg hy] at h
    exact h.elim
end
end DL

-- DL3
set_option Elab.async false
set_option linter.all false
set_option maxRecDepth 100000
set_option maxHeartbeats 2000000
/-! DL3: what operations are worth. -/
namespace L2
open PySem PySem.Spec PyProof.Rows
theorem tuple_mulS (l : Addr) (items : Array Value) (n : Nat) (dd : Option Addr) (sl : Array (Option Value)) (x : Int) (u : Tok) (c0 : (decide (x < -(2 ^ 63)) || decide (x ≥ 2 ^ 63)) = false) (c1 : (items.isEmpty || x == 1) = true) :
    Meets (Builtin.«tuple.__mul__» ⟨[.ref l, .int x u], []⟩) (fun _ R s => s.heap.get? l = some { cls := .type "tuple", dict := dd, data := .seq items n, slots := sl } ∧
      R (.ok (.ret (Value.ref l))) s) :=
  .of_wp fun prog w A R s h => by
    obtain ⟨hp, g, d, tk, os⟩ := s
    obtain ⟨hl, h⟩ := h
    have f1 := AutoSeq1.idx_int
    wp_walk using wpAny_loadPart' hl
    repeat (first
      | (refine wpAny_ite_false (decide_eq_false (by rw [c0]; exact Bool.false_ne_true)) ?_; wp_walk using wpAny_loadPart' hl)
      | (refine wpAny_ite_true (decide_eq_true c1) ?_; wp_walk using wpAny_loadPart' hl))
    exact ⟨_, rfl, h⟩
theorem tuple_mulZ (l : Addr) (items : Array Value) (n : Nat) (dd : Option Addr) (sl : Array (Option Value)) (x : Int) (u : Tok) (c0 : (decide (x < -(2 ^ 63)) || decide (x ≥ 2 ^ 63)) = false) (c1 : (items.isEmpty || x == 1) = false) (c2 : (decide (x ≤ 0) || items.isEmpty) = true) :
    Meets (Builtin.«tuple.__mul__» ⟨[.ref l, .int x u], []⟩) (fun _ R s => s.heap.get? l = some { cls := .type "tuple", dict := dd, data := .seq items n, slots := sl } ∧
      R (.ok (.ret (Value.ref s.heap.objs.size))) { s with heap := s.heap.push { cls := Value.type "tuple", data := Data.seq #[] }, toks := s.toks }) :=
  .of_wp fun prog w A R s h => by
    obtain ⟨hp, g, d, tk, os⟩ := s
    obtain ⟨hl, h⟩ := h
    have f1 := AutoSeq1.idx_int
    wp_walk using wpAny_loadPart' hl
    repeat (first
      | (refine wpAny_ite_false (decide_eq_false (by rw [c0]; exact Bool.false_ne_true)) ?_; wp_walk using wpAny_loadPart' hl)
      | (refine wpAny_ite_false (decide_eq_false (by rw [c1]; exact Bool.false_ne_true)) ?_; wp_walk using wpAny_loadPart' hl)
      | (refine wpAny_ite_true (decide_eq_true c2) ?_; wp_walk using wpAny_loadPart' hl))
    exact ⟨_, rfl, h⟩
def rRepT1 (K : PySem.W.Frag) : R2 := fun x y H Q => ∃ l k xs, x = .ref l ∧ y = .int k ∧ SqT K H l xs ∧ -(2 ^ 63) ≤ k ∧ k < 2 ^ 63 ∧ ((xs = [] ∨ k = 1) ∧ Q (.ref l) H ∨ xs ≠ [] ∧ k ≤ 0 ∧ ∀ p, H p = none → Q (.ref p) (upd H p (.tup [])))
theorem op_repT1 {X : Cx} : OpR X (binaryOp .Mult) (rRepT1 X.K) := by
  intro pins s σ H x y v u Q I rx ry h
  obtain ⟨l, k, xs, rfl, rfl, hT, h1, h2, h⟩ := h
  have rx0 := rx
  cases rx
  obtain ⟨t, rfl⟩ := ry
  obtain ⟨its, r, ⟨⟨cls, dd, data, sl⟩, ho, hc, n, hd⟩, hs⟩ := I.tuple hT
  simp only at hc hd
  subst hc hd
  have hle : its.length = xs.length := r.length.symm
  have c0 : (decide (k < -(2 ^ 63)) || decide (k ≥ 2 ^ 63)) = false := by
    rw [decide_eq_false (by omega), decide_eq_false (by omega)] <;> rfl
  have he : its.toArray.isEmpty = its.isEmpty := by cases its <;> rfl
  rcases h with ⟨h, q⟩ | ⟨hne, hk, q⟩
  · have c1 : (its.toArray.isEmpty || k == 1) = true := by
      rcases h with rfl | rfl
      · have : its = [] := List.eq_nil_of_length_eq_zero (by simpa using hle)
        rw [he, this]; rfl
      · simp
    refine wpAny_binaryOp_repeat_ref (T := "tuple") (U := "int") (by decide) ⟨_, ho, rfl⟩ (fun s' => typeIs_int s' k t) noFill_tuple_mul F.fills_int_mul F.slot_int_rmul repeat_tuple F.slot_int_index.lookup
      (call_meets F.slot_int_rmul (typeIs_int s k t) F.entry_int_rmul (F.args_int_rmul_2 _ _) (int_rmul_tuple k t l its.toArray n dd sl)
        ⟨ho, rfl, ⟨_, ho, rfl⟩, call_meets F.slot_tuple_mul ⟨_, ho, rfl⟩ F.entry_tuple_mul (F.args_tuple_mul_2 _ _) (tuple_mulS l its.toArray n dd sl k t c0 c1) ⟨ho, ?_⟩⟩)
    exact ⟨.ref l, H, I, rfl, q⟩
  · have hn : its ≠ [] := fun e => hne (by
      rw [e] at hle
      exact List.eq_nil_of_length_eq_zero hle.symm)
    have hi : its.toArray.isEmpty = false := by
      cases its with
      | nil => exact absurd rfl hn
      | cons a b => rfl
    have c1 : (its.toArray.isEmpty || k == 1) = false := by
      rw [hi, Bool.false_or]
      exact beq_eq_false_iff_ne.mpr (by omega)
    have c2 : (decide (k ≤ 0) || its.toArray.isEmpty) = true := by
      rw [hi, Bool.or_false]
      exact decide_eq_true hk
    refine wpAny_binaryOp_repeat_ref (T := "tuple") (U := "int") (by decide) ⟨_, ho, rfl⟩ (fun s' => typeIs_int s' k t) noFill_tuple_mul F.fills_int_mul F.slot_int_rmul repeat_tuple F.slot_int_index.lookup
      (call_meets F.slot_int_rmul (typeIs_int s k t) F.entry_int_rmul (F.args_int_rmul_2 _ _) (int_rmul_tuple k t l its.toArray n dd sl)
        ⟨ho, rfl, ⟨_, ho, rfl⟩, call_meets F.slot_tuple_mul ⟨_, ho, rfl⟩ F.entry_tuple_mul (F.args_tuple_mul_2 _ _) (tuple_mulZ l its.toArray n dd sl k t c0 c1 c2) ⟨ho, ?_⟩⟩)
    refine ⟨.ref s.heap.objs.size, _, I.laid (t' := s.toks) (o := .tup []) (fun b ob q => Heap.get?_push_of_some _ q) (Nat.le_refl _) ?_, rfl, q _ (I.hok.fresh (Nat.le_refl _))⟩
    exact ⟨by rw [sizeLine_eq]; simp, _, .nil, IsTup.new _ _⟩
end L2
namespace DL
open PySem L2
variable [Tab]
section
variable {X : Cx} {g : G}
theorem le_size {n : Nat} (h : n ≤ 16777216) : n ≤ sizeLine := by rw [sizeLine_eq]; exact h
/-! ### arithmetic -/
def addD : D → D → Store → Option (D × Store)
  | .int i, .int j, μ => some (.int (i + j), μ)
  | .str x, .str y, μ => if x.length + y.length ≤ 16777216 then some (.str (x ++ y), μ) else none
  | .tup a, .tup b, μ => if a.length + b.length ≤ 16777216 then some (.tup (a ++ b), μ) else none
  | .ptr n, y, μ => match lstAt μ n, lstOf μ y with
    | some a, some b => if a.length + b.length ≤ 16777216 then some (.ptr μ.length, μ ++ [.lst (a ++ b)]) else none
    | _, _ => none
  | .rol a, y, μ => match lstOf μ y with
    | some b => if a.length + b.length ≤ 16777216 then some (.ptr μ.length, μ ++ [.lst (a ++ b)]) else none
    | none => none
  | _, _, _ => none
def rAddA (K : PySem.W.Frag) : R2 := fun x y H Q => (rI0 (fun i j => .int (i + j))) x y H Q ∨ (∃ i j, x = .str i ∧ y = .str j ∧ i.length + j.length ≤ sizeLine ∧ Q (.str (i ++ j)) H) ∨ rCatA K x y H Q ∨ rCat x y H Q
theorem op_addA : OpR X (binaryOp .Add) (rAddA X.K) := op_add.or (op_add_str.or (op_catA.or op_cat))
theorem add_ok : R2D g (rAddA g.K) addD := fun {μ A H x y v w Q} r rx ry h => by
  cases x with
  | int i =>
    cases y with
    | int j =>
      cases (show v = _ from rx); cases (show w = _ from ry)
      exact .inl ⟨i, j, rfl, rfl, Res.val (d := .int (i + j)) r rfl h⟩
    | _ => exact h.elim
  | str i =>
    cases y with
    | str j =>
      cases (show v = _ from rx); cases (show w = _ from ry)
      simp only [addD] at h
      split at h
      · rename_i hz
        exact .inr (.inl ⟨i, j, rfl, rfl, le_size hz, Res.val (d := .str (i ++ j)) r rfl h⟩)
      · exact h.elim
    | _ => exact h.elim
  | tup a =>
    cases y with
    | tup b =>
      simp only [RV] at rx ry
      obtain ⟨p, vs, rfl, h1, h2⟩ := rx
      obtain ⟨q, ws, rfl, k1, k2⟩ := ry
      simp only [addD] at h
      split at h
      · rename_i hz
        refine .inr (.inr (.inl ⟨p, q, vs, ws, rfl, rfl, .inl h1, .inl k1, by rw [RVs.length h2, RVs.length k2]; exact le_size hz, fun e => ?_, fun _ e => ?_, fun _ _ => Res.tup r (RVs.append h2 k2) h⟩))
        · have e' := h2.nil_iff.mp e
          subst e'
          exact Res.val r (show RV g.K A H (.tup ([] ++ b)) (.ref q) from ⟨q, ws, rfl, k1, k2⟩) h
        · have e' := k2.nil_iff.mp e
          subst e'
          rw [List.append_nil] at h
          exact Res.val r (show RV g.K A H (.tup a) (.ref p) from ⟨p, vs, rfl, h1, h2⟩) h
      · exact h.elim
    | _ => exact h.elim
  | ptr n =>
    simp only [RV] at rx
    obtain ⟨p, rfl, hp⟩ := rx
    simp only [addD] at h
    split at h
    · rename_i a b ea eb
      split at h
      · rename_i hz
        obtain ⟨vs, h1, h2⟩ := Rep.lstA r hp ea
        obtain ⟨q, ws, rfl, k1, k2⟩ := lstOf_h r eb ry
        exact .inr (.inr (.inr ⟨p, q, vs, ws, rfl, rfl, h1, k1, by rw [RVs.length h2, RVs.length k2]; exact le_size hz, Res.lst r (RVs.append h2 k2) h⟩))
      · exact h.elim
    · exact h.elim
  | rol a =>
    simp only [RV] at rx
    obtain ⟨p, vs, rfl, h1, h2⟩ := rx
    simp only [addD] at h
    split at h
    · rename_i b eb
      split at h
      · rename_i hz
        obtain ⟨q, ws, rfl, k1, k2⟩ := lstOf_h r eb ry
        exact .inr (.inr (.inr ⟨p, q, vs, ws, rfl, rfl, h1.1, k1, by rw [RVs.length h2, RVs.length k2]; exact le_size hz, Res.lst r (RVs.append h2 k2) h⟩))
      · exact h.elim
    · exact h.elim
  | _ => cases y <;> exact h.elim
theorem de_add {W : WX} {a b : Expr} {ma mb : M D} {pos : Pos} (ha : DE X W a ma) (hb : DE X W b mb) : DE X W (.BinOp a .Add b pos) (mBin addD ma mb) := de_op op_addA add_ok ha hb
def intD (C : Int → Int → Prop) [∀ i j, Decidable (C i j)] (f : Int → Int → D) : D → D → Store → Option (D × Store)
  | .int i, .int j, μ => if C i j then some (f i j, μ) else none
  | _, _, _ => none
def intD0 (f : Int → Int → D) : D → D → Store → Option (D × Store)
  | .int i, .int j, μ => some (f i j, μ)
  | _, _, _ => none
theorem intD_ok {C C' : Int → Int → Prop} [∀ i j, Decidable (C i j)] {f : Int → Int → D} {f' : Int → Int → V} (hc : ∀ i j, C i j → C' i j) (hf : ∀ i j A H, RV g.K A H (f i j) (f' i j)) : R2D g (rI C' f') (intD C f) := fun {μ A H x y v w Q} r rx ry h => by
  cases x with
  | int i =>
    cases y with
    | int j =>
      cases (show v = _ from rx); cases (show w = _ from ry)
      simp only [intD] at h
      split at h
      · rename_i hz
        exact ⟨i, j, rfl, rfl, hc i j hz, Res.val r (hf i j A H) h⟩
      · exact h.elim
    | _ => exact h.elim
  | _ => cases y <;> exact h.elim
theorem intD0_ok {f : Int → Int → D} {f' : Int → Int → V} (hf : ∀ i j A H, RV g.K A H (f i j) (f' i j)) : R2D g (rI0 f') (intD0 f) := fun {μ A H x y v w Q} r rx ry h => by
  cases x with
  | int i =>
    cases y with
    | int j =>
      cases (show v = _ from rx); cases (show w = _ from ry)
      exact ⟨i, j, rfl, rfl, Res.val r (hf i j A H) h⟩
    | _ => exact h.elim
  | _ => cases y <;> exact h.elim
abbrev subD := intD0 fun i j => .int (i - j)
abbrev modD := intD (fun _ j => 0 < j) fun i j => .int (i % j)
abbrev divD := intD (fun _ j => 0 < j ∧ j < 1073741824) fun i j => .int (i / j)
abbrev powD := intD (fun i j => 0 ≤ j ∧ j ≤ 1000000 ∧ i.natAbs < 2 ^ 64) fun i j => .int (i ^ j.toNat)
abbrev ltD := intD0 fun i j => .bl (decide (i < j))
abbrev leD := intD0 fun i j => .bl (decide (i ≤ j))
abbrev gtD := intD0 fun i j => .bl (decide (j < i))
abbrev geD := intD0 fun i j => .bl (decide (j ≤ i))
theorem sub_ok : R2D g (rI0 fun i j => .int (i - j)) subD := intD0_ok (by intros; rfl)
theorem mod_ok : R2D g (rI (fun _ j => 0 < j) fun i j => .int (i % j)) modD := intD_ok (by intro _ _ h; exact h) (by intros; rfl)
theorem div_ok : R2D g (rI CDiv fun i j => .int (i / j)) divD := intD_ok (by intro _ _ h; exact h) (by intros; rfl)
theorem pow_ok : R2D g (rI CPow fun i j => .int (i ^ j.toNat)) powD := intD_ok (by intro _ _ h; exact h) (by intros; rfl)
theorem lt_ok : R2D g (rI0 fun i j => .bl (decide (i < j))) ltD := intD0_ok (by intros; rfl)
theorem le_ok : R2D g (rI0 fun i j => .bl (decide (i ≤ j))) leD := intD0_ok (by intros; rfl)
theorem gt_ok : R2D g (rI0 fun i j => .bl (decide (j < i))) gtD := intD0_ok (by intros; rfl)
theorem ge_ok : R2D g (rI0 fun i j => .bl (decide (j ≤ i))) geD := intD0_ok (by intros; rfl)
section
variable {W : WX} {a b c : Expr} {ma mb mc : M D} {pos : Pos}
theorem de_sub (ha : DE X W a ma) (hb : DE X W b mb) : DE X W (.BinOp a .Sub b pos) (mBin subD ma mb) := de_op op_sub sub_ok ha hb
theorem de_mod (ha : DE X W a ma) (hb : DE X W b mb) : DE X W (.BinOp a .Mod b pos) (mBin modD ma mb) := de_op op_mod mod_ok ha hb
theorem de_div (ha : DE X W a ma) (hb : DE X W b mb) : DE X W (.BinOp a .FloorDiv b pos) (mBin divD ma mb) := de_op op_fdiv div_ok ha hb
theorem de_pow (ha : DE X W a ma) (hb : DE X W b mb) : DE X W (.BinOp a .Pow b pos) (mBin powD ma mb) := de_op op_pow pow_ok ha hb
theorem de_lt (ha : DE X W a ma) (hb : DE X W b mb) : DE X W (.Compare a [.Lt] [b] pos) (mBin ltD ma mb) := de_cmp op_lt lt_ok ha hb (nomark _)
theorem dt_lt (ha : DE X W a ma) (hb : DE X W b mb) : DT X W (.Compare a [.Lt] [b] pos) (mTest (mBin ltD ma mb)) := dt_cmp op_lt lt_ok ha hb (nomark _)
theorem de_le (ha : DE X W a ma) (hb : DE X W b mb) : DE X W (.Compare a [.LtE] [b] pos) (mBin leD ma mb) := de_cmp op_le le_ok ha hb (nomark _)
theorem dt_le (ha : DE X W a ma) (hb : DE X W b mb) : DT X W (.Compare a [.LtE] [b] pos) (mTest (mBin leD ma mb)) := dt_cmp op_le le_ok ha hb (nomark _)
theorem de_gt (ha : DE X W a ma) (hb : DE X W b mb) : DE X W (.Compare a [.Gt] [b] pos) (mBin gtD ma mb) := de_cmp op_gt gt_ok ha hb (nomark _)
theorem dt_gt (ha : DE X W a ma) (hb : DE X W b mb) : DT X W (.Compare a [.Gt] [b] pos) (mTest (mBin gtD ma mb)) := dt_cmp op_gt gt_ok ha hb (nomark _)
theorem de_ge (ha : DE X W a ma) (hb : DE X W b mb) : DE X W (.Compare a [.GtE] [b] pos) (mBin geD ma mb) := de_cmp op_ge ge_ok ha hb (nomark _)
theorem dt_ge (ha : DE X W a ma) (hb : DE X W b mb) : DT X W (.Compare a [.GtE] [b] pos) (mTest (mBin geD ma mb)) := dt_cmp op_ge ge_ok ha hb (nomark _)
theorem de_ltlt (ha : DE X W a ma) (hb : DE X W b mb) (hc : DE X W c mc) (hm : lastMarks [.Lt, .Lt] [b, c] = false := by with_unfolding_all rfl) : DE X W (.Compare a [.Lt, .Lt] [b, c] pos) (mChain ltD ltD ma mb mc) := de_chain op_lt lt_ok op_lt lt_ok ha hb hc hm
theorem dt_ltlt (ha : DE X W a ma) (hb : DE X W b mb) (hc : DE X W c mc) (hm : lastMarks [.Lt, .Lt] [b, c] = false := by with_unfolding_all rfl) : DT X W (.Compare a [.Lt, .Lt] [b, c] pos) (mTest (mChain ltD ltD ma mb mc)) := dt_chain op_lt lt_ok op_lt lt_ok ha hb hc hm
theorem de_ltle (ha : DE X W a ma) (hb : DE X W b mb) (hc : DE X W c mc) (hm : lastMarks [.Lt, .LtE] [b, c] = false := by with_unfolding_all rfl) : DE X W (.Compare a [.Lt, .LtE] [b, c] pos) (mChain ltD leD ma mb mc) := de_chain op_lt lt_ok op_le le_ok ha hb hc hm
theorem dt_ltle (ha : DE X W a ma) (hb : DE X W b mb) (hc : DE X W c mc) (hm : lastMarks [.Lt, .LtE] [b, c] = false := by with_unfolding_all rfl) : DT X W (.Compare a [.Lt, .LtE] [b, c] pos) (mTest (mChain ltD leD ma mb mc)) := dt_chain op_lt lt_ok op_le le_ok ha hb hc hm
theorem de_ltgt (ha : DE X W a ma) (hb : DE X W b mb) (hc : DE X W c mc) (hm : lastMarks [.Lt, .Gt] [b, c] = false := by with_unfolding_all rfl) : DE X W (.Compare a [.Lt, .Gt] [b, c] pos) (mChain ltD gtD ma mb mc) := de_chain op_lt lt_ok op_gt gt_ok ha hb hc hm
theorem dt_ltgt (ha : DE X W a ma) (hb : DE X W b mb) (hc : DE X W c mc) (hm : lastMarks [.Lt, .Gt] [b, c] = false := by with_unfolding_all rfl) : DT X W (.Compare a [.Lt, .Gt] [b, c] pos) (mTest (mChain ltD gtD ma mb mc)) := dt_chain op_lt lt_ok op_gt gt_ok ha hb hc hm
theorem de_ltge (ha : DE X W a ma) (hb : DE X W b mb) (hc : DE X W c mc) (hm : lastMarks [.Lt, .GtE] [b, c] = false := by with_unfolding_all rfl) : DE X W (.Compare a [.Lt, .GtE] [b, c] pos) (mChain ltD geD ma mb mc) := de_chain op_lt lt_ok op_ge ge_ok ha hb hc hm
theorem dt_ltge (ha : DE X W a ma) (hb : DE X W b mb) (hc : DE X W c mc) (hm : lastMarks [.Lt, .GtE] [b, c] = false := by with_unfolding_all rfl) : DT X W (.Compare a [.Lt, .GtE] [b, c] pos) (mTest (mChain ltD geD ma mb mc)) := dt_chain op_lt lt_ok op_ge ge_ok ha hb hc hm
theorem de_lelt (ha : DE X W a ma) (hb : DE X W b mb) (hc : DE X W c mc) (hm : lastMarks [.LtE, .Lt] [b, c] = false := by with_unfolding_all rfl) : DE X W (.Compare a [.LtE, .Lt] [b, c] pos) (mChain leD ltD ma mb mc) := de_chain op_le le_ok op_lt lt_ok ha hb hc hm
theorem dt_lelt (ha : DE X W a ma) (hb : DE X W b mb) (hc : DE X W c mc) (hm : lastMarks [.LtE, .Lt] [b, c] = false := by with_unfolding_all rfl) : DT X W (.Compare a [.LtE, .Lt] [b, c] pos) (mTest (mChain leD ltD ma mb mc)) := dt_chain op_le le_ok op_lt lt_ok ha hb hc hm
theorem de_lele (ha : DE X W a ma) (hb : DE X W b mb) (hc : DE X W c mc) (hm : lastMarks [.LtE, .LtE] [b, c] = false := by with_unfolding_all rfl) : DE X W (.Compare a [.LtE, .LtE] [b, c] pos) (mChain leD leD ma mb mc) := de_chain op_le le_ok op_le le_ok ha hb hc hm
theorem dt_lele (ha : DE X W a ma) (hb : DE X W b mb) (hc : DE X W c mc) (hm : lastMarks [.LtE, .LtE] [b, c] = false := by with_unfolding_all rfl) : DT X W (.Compare a [.LtE, .LtE] [b, c] pos) (mTest (mChain leD leD ma mb mc)) := dt_chain op_le le_ok op_le le_ok ha hb hc hm
theorem de_legt (ha : DE X W a ma) (hb : DE X W b mb) (hc : DE X W c mc) (hm : lastMarks [.LtE, .Gt] [b, c] = false := by with_unfolding_all rfl) : DE X W (.Compare a [.LtE, .Gt] [b, c] pos) (mChain leD gtD ma mb mc) := de_chain op_le le_ok op_gt gt_ok ha hb hc hm
theorem dt_legt (ha : DE X W a ma) (hb : DE X W b mb) (hc : DE X W c mc) (hm : lastMarks [.LtE, .Gt] [b, c] = false := by with_unfolding_all rfl) : DT X W (.Compare a [.LtE, .Gt] [b, c] pos) (mTest (mChain leD gtD ma mb mc)) := dt_chain op_le le_ok op_gt gt_ok ha hb hc hm
theorem de_lege (ha : DE X W a ma) (hb : DE X W b mb) (hc : DE X W c mc) (hm : lastMarks [.LtE, .GtE] [b, c] = false := by with_unfolding_all rfl) : DE X W (.Compare a [.LtE, .GtE] [b, c] pos) (mChain leD geD ma mb mc) := de_chain op_le le_ok op_ge ge_ok ha hb hc hm
theorem dt_lege (ha : DE X W a ma) (hb : DE X W b mb) (hc : DE X W c mc) (hm : lastMarks [.LtE, .GtE] [b, c] = false := by with_unfolding_all rfl) : DT X W (.Compare a [.LtE, .GtE] [b, c] pos) (mTest (mChain leD geD ma mb mc)) := dt_chain op_le le_ok op_ge ge_ok ha hb hc hm
theorem de_gtlt (ha : DE X W a ma) (hb : DE X W b mb) (hc : DE X W c mc) (hm : lastMarks [.Gt, .Lt] [b, c] = false := by with_unfolding_all rfl) : DE X W (.Compare a [.Gt, .Lt] [b, c] pos) (mChain gtD ltD ma mb mc) := de_chain op_gt gt_ok op_lt lt_ok ha hb hc hm
theorem dt_gtlt (ha : DE X W a ma) (hb : DE X W b mb) (hc : DE X W c mc) (hm : lastMarks [.Gt, .Lt] [b, c] = false := by with_unfolding_all rfl) : DT X W (.Compare a [.Gt, .Lt] [b, c] pos) (mTest (mChain gtD ltD ma mb mc)) := dt_chain op_gt gt_ok op_lt lt_ok ha hb hc hm
theorem de_gtle (ha : DE X W a ma) (hb : DE X W b mb) (hc : DE X W c mc) (hm : lastMarks [.Gt, .LtE] [b, c] = false := by with_unfolding_all rfl) : DE X W (.Compare a [.Gt, .LtE] [b, c] pos) (mChain gtD leD ma mb mc) := de_chain op_gt gt_ok op_le le_ok ha hb hc hm
theorem dt_gtle (ha : DE X W a ma) (hb : DE X W b mb) (hc : DE X W c mc) (hm : lastMarks [.Gt, .LtE] [b, c] = false := by with_unfolding_all rfl) : DT X W (.Compare a [.Gt, .LtE] [b, c] pos) (mTest (mChain gtD leD ma mb mc)) := dt_chain op_gt gt_ok op_le le_ok ha hb hc hm
theorem de_gtgt (ha : DE X W a ma) (hb : DE X W b mb) (hc : DE X W c mc) (hm : lastMarks [.Gt, .Gt] [b, c] = false := by with_unfolding_all rfl) : DE X W (.Compare a [.Gt, .Gt] [b, c] pos) (mChain gtD gtD ma mb mc) := de_chain op_gt gt_ok op_gt gt_ok ha hb hc hm
theorem dt_gtgt (ha : DE X W a ma) (hb : DE X W b mb) (hc : DE X W c mc) (hm : lastMarks [.Gt, .Gt] [b, c] = false := by with_unfolding_all rfl) : DT X W (.Compare a [.Gt, .Gt] [b, c] pos) (mTest (mChain gtD gtD ma mb mc)) := dt_chain op_gt gt_ok op_gt gt_ok ha hb hc hm
theorem de_gtge (ha : DE X W a ma) (hb : DE X W b mb) (hc : DE X W c mc) (hm : lastMarks [.Gt, .GtE] [b, c] = false := by with_unfolding_all rfl) : DE X W (.Compare a [.Gt, .GtE] [b, c] pos) (mChain gtD geD ma mb mc) := de_chain op_gt gt_ok op_ge ge_ok ha hb hc hm
theorem dt_gtge (ha : DE X W a ma) (hb : DE X W b mb) (hc : DE X W c mc) (hm : lastMarks [.Gt, .GtE] [b, c] = false := by with_unfolding_all rfl) : DT X W (.Compare a [.Gt, .GtE] [b, c] pos) (mTest (mChain gtD geD ma mb mc)) := dt_chain op_gt gt_ok op_ge ge_ok ha hb hc hm
theorem de_gelt (ha : DE X W a ma) (hb : DE X W b mb) (hc : DE X W c mc) (hm : lastMarks [.GtE, .Lt] [b, c] = false := by with_unfolding_all rfl) : DE X W (.Compare a [.GtE, .Lt] [b, c] pos) (mChain geD ltD ma mb mc) := de_chain op_ge ge_ok op_lt lt_ok ha hb hc hm
theorem dt_gelt (ha : DE X W a ma) (hb : DE X W b mb) (hc : DE X W c mc) (hm : lastMarks [.GtE, .Lt] [b, c] = false := by with_unfolding_all rfl) : DT X W (.Compare a [.GtE, .Lt] [b, c] pos) (mTest (mChain geD ltD ma mb mc)) := dt_chain op_ge ge_ok op_lt lt_ok ha hb hc hm
theorem de_gele (ha : DE X W a ma) (hb : DE X W b mb) (hc : DE X W c mc) (hm : lastMarks [.GtE, .LtE] [b, c] = false := by with_unfolding_all rfl) : DE X W (.Compare a [.GtE, .LtE] [b, c] pos) (mChain geD leD ma mb mc) := de_chain op_ge ge_ok op_le le_ok ha hb hc hm
theorem dt_gele (ha : DE X W a ma) (hb : DE X W b mb) (hc : DE X W c mc) (hm : lastMarks [.GtE, .LtE] [b, c] = false := by with_unfolding_all rfl) : DT X W (.Compare a [.GtE, .LtE] [b, c] pos) (mTest (mChain geD leD ma mb mc)) := dt_chain op_ge ge_ok op_le le_ok ha hb hc hm
theorem de_gegt (ha : DE X W a ma) (hb : DE X W b mb) (hc : DE X W c mc) (hm : lastMarks [.GtE, .Gt] [b, c] = false := by with_unfolding_all rfl) : DE X W (.Compare a [.GtE, .Gt] [b, c] pos) (mChain geD gtD ma mb mc) := de_chain op_ge ge_ok op_gt gt_ok ha hb hc hm
theorem dt_gegt (ha : DE X W a ma) (hb : DE X W b mb) (hc : DE X W c mc) (hm : lastMarks [.GtE, .Gt] [b, c] = false := by with_unfolding_all rfl) : DT X W (.Compare a [.GtE, .Gt] [b, c] pos) (mTest (mChain geD gtD ma mb mc)) := dt_chain op_ge ge_ok op_gt gt_ok ha hb hc hm
theorem de_gege (ha : DE X W a ma) (hb : DE X W b mb) (hc : DE X W c mc) (hm : lastMarks [.GtE, .GtE] [b, c] = false := by with_unfolding_all rfl) : DE X W (.Compare a [.GtE, .GtE] [b, c] pos) (mChain geD geD ma mb mc) := de_chain op_ge ge_ok op_ge ge_ok ha hb hc hm
theorem dt_gege (ha : DE X W a ma) (hb : DE X W b mb) (hc : DE X W c mc) (hm : lastMarks [.GtE, .GtE] [b, c] = false := by with_unfolding_all rfl) : DT X W (.Compare a [.GtE, .GtE] [b, c] pos) (mTest (mChain geD geD ma mb mc)) := dt_chain op_ge ge_ok op_ge ge_ok ha hb hc hm
def negD : D → Store → Option (D × Store)
  | .int i, μ => some (.int (-i), μ)
  | _, _ => none
theorem neg_ok : R1D g (rU fun i => .int (-i)) negD := fun {μ A H x v Q} r rx h => by
  cases x with
  | int i => cases (show v = _ from rx); exact ⟨i, rfl, Res.val (d := .int (-i)) r rfl h⟩
  | _ => exact h.elim
theorem de_neg (ha : DE X W a ma) : DE X W (.UnaryOp .USub a pos) (mUn negD ma) := pe_imp (pe_un un_neg ha) fun _ _ _ => un_imp neg_ok
end
/-! ### a * b -/
def mulD : D → D → Store → Option (D × Store)
  | .int i, .int j, μ => if (-(2 ^ 64) < i ∧ i < 2 ^ 64) ∨ (-(2 ^ 64) < j ∧ j < 2 ^ 64) then some (.int (i * j), μ) else none
  | .ptr n, .int k, μ => match lstAt μ n with
    | some a => if -(2 ^ 63) ≤ k ∧ k < 2 ^ 63 ∧ a.length * k.toNat ≤ 16777216 then some (.ptr μ.length, μ ++ [.lst (List.replicate k.toNat a).flatten]) else none
    | none => none
  | .rol a, .int k, μ => if -(2 ^ 63) ≤ k ∧ k < 2 ^ 63 ∧ a.length * k.toNat ≤ 16777216 then some (.ptr μ.length, μ ++ [.lst (List.replicate k.toNat a).flatten]) else none
  | .tup a, .int k, μ => if -(2 ^ 63) ≤ k ∧ k ≤ 1000 ∧ a.length ≤ 1000 then some (.tup (List.replicate k.toNat a).flatten, μ) else none
  | _, _, _ => none
def rMulA (K : PySem.W.Frag) : R2 := fun x y H Q => (rI CMul fun i j => .int (i * j)) x y H Q ∨ rRep x y H Q ∨ rRepT K x y H Q ∨ rRepT1 K x y H Q
theorem op_mulA : OpR X (binaryOp .Mult) (rMulA X.K) := op_mul.or (op_rep.or (op_repT.or op_repT1))
theorem RVs.rep {K : PySem.W.Frag} {A : List Addr} {H : Hp} {ds : List D} {vs : List V} (h : RVs K A H ds vs) : ∀ k : Nat, RVs K A H (List.replicate k ds).flatten (List.replicate k vs).flatten
  | 0 => rfl
  | k + 1 => by
    rw [List.replicate_succ, List.replicate_succ, List.flatten_cons, List.flatten_cons]
    exact RVs.append h (RVs.rep h k)
theorem mul_ok : R2D g (rMulA g.K) mulD := fun {μ A H x y v w Q} r rx ry h => by
  cases x with
  | int i =>
    cases y with
    | int j =>
      cases (show v = _ from rx); cases (show w = _ from ry)
      simp only [mulD] at h
      split at h
      · rename_i hz
        exact .inl ⟨i, j, rfl, rfl, hz, Res.val (d := .int (i * j)) r rfl h⟩
      · exact h.elim
    | _ => exact h.elim
  | ptr n =>
    cases y with
    | int k =>
      cases (show w = _ from ry)
      simp only [RV] at rx
      obtain ⟨p, rfl, hp⟩ := rx
      simp only [mulD] at h
      split at h
      · rename_i a ea
        split at h
        · rename_i hz
          obtain ⟨vs, h1, h2⟩ := Rep.lstA r hp ea
          exact .inr (.inl ⟨p, k, vs, rfl, rfl, h1, hz.1, hz.2.1, by rw [RVs.length h2]; exact le_size hz.2.2, Res.lst r (RVs.rep h2 _) h⟩)
        · exact h.elim
      · exact h.elim
    | _ => exact h.elim
  | rol a =>
    cases y with
    | int k =>
      cases (show w = _ from ry)
      simp only [RV] at rx
      obtain ⟨p, vs, rfl, h1, h2⟩ := rx
      simp only [mulD] at h
      split at h
      · rename_i hz
        exact .inr (.inl ⟨p, k, vs, rfl, rfl, h1.1, hz.1, hz.2.1, by rw [RVs.length h2]; exact le_size hz.2.2, Res.lst r (RVs.rep h2 _) h⟩)
      · exact h.elim
    | _ => exact h.elim
  | tup a =>
    cases y with
    | int k =>
      cases (show w = _ from ry)
      have rx0 := rx
      simp only [RV] at rx
      obtain ⟨p, vs, rfl, h1, h2⟩ := rx
      simp only [mulD] at h
      split at h
      · rename_i hz
        have hl := RVs.length h2
        by_cases hk : k = 1 ∨ a = []
        · refine .inr (.inr (.inr ⟨p, k, vs, rfl, rfl, .inl h1, hz.1, by omega, .inl ⟨?_, ?_⟩⟩))
          · rcases hk with hk | hk
            · exact .inr hk
            · exact .inl (h2.nil_iff.mpr hk)
          · have e : (List.replicate k.toNat a).flatten = a := by
              rcases hk with rfl | rfl
              · simp
              · simp
            rw [e] at h
            exact Res.val r rx0 h
        · have hne : vs ≠ [] := fun e => hk (.inr (h2.nil_iff.mp e))
          by_cases hk0 : k ≤ 0
          · refine .inr (.inr (.inr ⟨p, k, vs, rfl, rfl, .inl h1, hz.1, by omega, .inr ⟨hne, hk0, ?_⟩⟩))
            have e : (List.replicate k.toNat a).flatten = [] := by
              rw [show k.toNat = 0 by omega]
              rfl
            rw [e] at h
            exact Res.tup r (show RVs g.K A H [] [] from rfl) h
          · exact .inr (.inr (.inl ⟨p, k, vs, rfl, rfl, .inl h1, hne, by omega, hz.2.1, by omega, Res.tup r (RVs.rep h2 _) h⟩))
      · exact h.elim
    | _ => exact h.elim
  | _ => cases y <;> exact h.elim
theorem de_mul {W : WX} {a b : Expr} {ma mb : M D} {pos : Pos} (ha : DE X W a ma) (hb : DE X W b mb) : DE X W (.BinOp a .Mult b pos) (mBin mulD ma mb) := de_op op_mulA mul_ok ha hb
/-! ### ==, != -/
/-- of plain values -/
def eqS : D → D → Option Bool
  | .non, .non => some true | .non, .int _ => some false | .int _, .non => some false | .non, .bl _ => some false | .bl _, .non => some false | .non, .str _ => some false | .str _, .non => some false
  | .int i, .int j => some (i == j) | .bl i, .bl j => some (i == j) | .str i, .str j => some (i == j)
  | .int _, .str _ => some false | .str _, .int _ => some false | .bl _, .str _ => some false | .str _, .bl _ => some false
  | _, _ => none
def mapO {α β : Type} (f : α → Option β) : List α → Option (List β)
  | [] => some []
  | a :: r => match f a, mapO f r with
    | some b, some bs => some (b :: bs)
    | _, _ => none
def toPy (μ : Store) : Nat → D → Option PyData
  | 0, _ => none
  | _ + 1, .non => some .none
  | _ + 1, .bl b => some (.bool b)
  | _ + 1, .int i => some (.int i)
  | _ + 1, .str x => some (.str x)
  | n + 1, .tup ds => (mapO (toPy μ n) ds).map .tuple
  | n + 1, .rol ds => (mapO (toPy μ n) ds).map .list
  | n + 1, .ptr k => match lstAt μ k with
    | some ds => (mapO (toPy μ n) ds).map .list
    | none => none
  | _ + 1, .raw _ => none
  | _ + 1, .kst _ => none
  | _ + 1, .lam _ _ _ _ => none
theorem mapO_dp {A : List Addr} {μ : Store} {H : Hp} {n : Nat} (ih : ∀ (d : D) (p : PyData) (v : V), toPy μ n d = some p → RV g.K A H d v → Dp g.K H v p) : ∀ (ds : List D) (ps : List PyData) (vs : List V), mapO (toPy μ n) ds = some ps → RVs g.K A H ds vs → DpAll g.K H vs ps
  | [], ps, vs, h, k => by
    cases h
    cases (show vs = [] from k)
    exact .nil
  | d :: ds, ps, vs, h, k => by
    simp only [RVs] at k
    obtain ⟨v, ws, rfl, k1, k2⟩ := k
    simp only [mapO] at h
    split at h
    · rename_i b bs e1 e2
      cases h
      exact .cons (ih _ _ _ e1 k1) (mapO_dp ih ds bs ws e2 k2)
    · cases h
theorem toPy_dp {A : List Addr} {μ : Store} {H : Hp} (r : Rep g A μ H) : ∀ (n : Nat) (d : D) (p : PyData) (v : V), toPy μ n d = some p → RV g.K A H d v → Dp g.K H v p
  | 0, _, _, _, h, _ => by simp [toPy] at h
  | n + 1, d, p, v, h, k => by
    cases d with
    | non => cases (show v = _ from k); cases h; exact .non
    | bl b => cases (show v = _ from k); cases h; exact .bl b
    | int i => cases (show v = _ from k); cases h; exact .int i
    | str x => cases (show v = _ from k); cases h; exact .str x
    | tup ds =>
      simp only [RV] at k
      obtain ⟨a, vs, rfl, h1, h2⟩ := k
      simp only [toPy, Option.map_eq_some_iff] at h
      obtain ⟨ps, e, rfl⟩ := h
      exact .tup (.inl h1) (mapO_dp (toPy_dp r n) ds ps vs e h2)
    | rol ds =>
      simp only [RV] at k
      obtain ⟨a, vs, rfl, h1, h2⟩ := k
      simp only [toPy, Option.map_eq_some_iff] at h
      obtain ⟨ps, e, rfl⟩ := h
      exact .lst h1.sq (mapO_dp (toPy_dp r n) ds ps vs e h2)
    | ptr m =>
      simp only [RV] at k
      obtain ⟨a, rfl, ha⟩ := k
      simp only [toPy] at h
      split at h
      · rename_i ds e1
        obtain ⟨vs, h1, h2⟩ := Rep.lstA r ha e1
        obtain ⟨ps, e, rfl⟩ := Option.map_eq_some_iff.mp h
        exact .lst (SqL.of h1) (mapO_dp (toPy_dp r n) ds ps vs e h2)
      · cases h
    | raw a => cases h
    | kst => cases h
    | lam => cases h
/-! ### what can be compared -/
mutual
/-- no pointer, no truth, no great text stands in it, it is n deep at most -/
def good : Nat → D → Bool
  | 0, _ => false
  | _ + 1, .non => true
  | _ + 1, .int _ => true
  | _ + 1, .str x => PyData.strOk x
  | n + 1, .tup ds => goods n ds
  | n + 1, .rol ds => goods n ds
  | _ + 1, _ => false
def goods : Nat → List D → Bool
  | _, [] => true
  | n, d :: ds => good n d && goods n ds
end
mutual
def py : D → PyData
  | .int i => .int i
  | .str x => .str x
  | .tup ds => .tuple (pys ds)
  | .rol ds => .list (pys ds)
  | _ => .none
def pys : List D → List PyData
  | [] => []
  | d :: ds => py d :: pys ds
end
mutual
theorem good_py (μ : Store) : ∀ (n : Nat) (d : D), good n d = true → toPy μ n d = some (py d) ∧ (py d).canLay0 = true ∧ (py d).depth ≤ n
  | 0, _, h => by simp [good] at h
  | n + 1, .non, _ => ⟨rfl, by simp [py, PyData.canLay0], by simp [py, PyData.depth]⟩
  | n + 1, .int i, _ => ⟨rfl, by simp [py, PyData.canLay0], by simp [py, PyData.depth]⟩
  | n + 1, .str x, h => ⟨rfl, by simpa [py, PyData.canLay0, good] using h, by simp [py, PyData.depth]⟩
  | n + 1, .tup ds, h => by
    obtain ⟨h1, h2, h3⟩ := goods_py μ n ds (by simpa [good] using h)
    refine ⟨by simp [toPy, h1, py], by simpa [py, PyData.canLay0] using h2, ?_⟩
    simp only [py, PyData.depth]; omega
  | n + 1, .rol ds, h => by
    obtain ⟨h1, h2, h3⟩ := goods_py μ n ds (by simpa [good] using h)
    refine ⟨by simp [toPy, h1, py], by simpa [py, PyData.canLay0] using h2, ?_⟩
    simp only [py, PyData.depth]; omega
  | n + 1, .bl _, h => by simp [good] at h
  | n + 1, .ptr _, h => by simp [good] at h
  | n + 1, .raw _, h => by simp [good] at h
  | n + 1, .kst _, h => by simp [good] at h
  | n + 1, .lam _ _ _ _, h => by simp [good] at h
theorem goods_py (μ : Store) : ∀ (n : Nat) (ds : List D), goods n ds = true → mapO (toPy μ n) ds = some (pys ds) ∧ PyData.canLayAll0 (pys ds) = true ∧ PyData.depthAll (pys ds) ≤ n
  | n, [], _ => ⟨rfl, by simp [pys, PyData.canLayAll0], by simp [pys, PyData.depthAll]⟩
  | n, d :: ds, h => by
    simp only [goods, Bool.and_eq_true] at h
    obtain ⟨h1, h2, h3⟩ := good_py μ n d h.1
    obtain ⟨k1, k2, k3⟩ := goods_py μ n ds h.2
    refine ⟨by simp [mapO, h1, k1, pys], by simp [pys, PyData.canLayAll0, h2, k2], ?_⟩
    simp only [pys, PyData.depthAll]; omega
end
mutual
theorem good_eqv : ∀ (n m : Nat) (x y : D), good n x = true → good m y = true → (PyData.eqv (py x) (py y) = true ↔ x = y)
  | 0, _, _, _, h, _ => by simp [good] at h
  | _, 0, _, _, _, h => by simp [good] at h
  | n + 1, m + 1, .non, y, _, h => by cases y <;> simp [good] at h <;> simp [py, PyData.eqv]
  | n + 1, m + 1, .int i, y, _, h => by cases y <;> simp [good] at h <;> simp [py, PyData.eqv]
  | n + 1, m + 1, .str x, y, _, h => by cases y <;> simp [good] at h <;> simp [py, PyData.eqv]
  | n + 1, m + 1, .tup ds, y, h, k => by
    cases y with
    | tup es => simp only [py, PyData.eqv, goods_eqv n m ds es (by simpa [good] using h) (by simpa [good] using k), D.tup.injEq]
    | _ => simp [good] at k <;> simp [py, PyData.eqv]
  | n + 1, m + 1, .rol ds, y, h, k => by
    cases y with
    | rol es => simp only [py, PyData.eqv, goods_eqv n m ds es (by simpa [good] using h) (by simpa [good] using k), D.rol.injEq]
    | _ => simp [good] at k <;> simp [py, PyData.eqv]
  | n + 1, m + 1, .bl _, _, h, _ => by simp [good] at h
  | n + 1, m + 1, .ptr _, _, h, _ => by simp [good] at h
  | n + 1, m + 1, .raw _, _, h, _ => by simp [good] at h
  | n + 1, m + 1, .kst _, _, h, _ => by simp [good] at h
  | n + 1, m + 1, .lam _ _ _ _, _, h, _ => by simp [good] at h
theorem goods_eqv : ∀ (n m : Nat) (x y : List D), goods n x = true → goods m y = true → (PyData.eqvAll (pys x) (pys y) = true ↔ x = y)
  | _, _, [], [], _, _ => by simp [pys, PyData.eqvAll]
  | _, _, [], _ :: _, _, _ => by simp [pys, PyData.eqvAll]
  | _, _, _ :: _, [], _, _ => by simp [pys, PyData.eqvAll]
  | n, m, x :: xs, y :: ys, h, k => by
    simp only [goods, Bool.and_eq_true] at h k
    simp only [pys, PyData.eqvAll, Bool.and_eq_true, good_eqv n m x y h.1 k.1, goods_eqv n m xs ys h.2 k.2, List.cons.injEq]
end
omit [Tab] in
@[simp] theorem good_non (n : Nat) : good (n + 1) .non = true := by simp [good]
omit [Tab] in
@[simp] theorem good_int (n : Nat) (i : Int) : good (n + 1) (.int i) = true := by simp [good]
omit [Tab] in
@[simp] theorem good_str (n : Nat) (x : Str) : good (n + 1) (.str x) = PyData.strOk x := by simp [good]
omit [Tab] in
@[simp] theorem good_tup (n : Nat) (ds : List D) : good (n + 1) (.tup ds) = goods n ds := by simp [good]
omit [Tab] in
@[simp] theorem good_rol (n : Nat) (ds : List D) : good (n + 1) (.rol ds) = goods n ds := by simp [good]
omit [Tab] in
@[simp] theorem goods_nil (n : Nat) : goods n [] = true := by simp [goods]
omit [Tab] in
@[simp] theorem goods_cons (n : Nat) (d : D) (ds : List D) : goods n (d :: ds) = (good n d && goods n ds) := by simp [goods]
omit [Tab] in
theorem goods_all (n : Nat) (ds : List D) : goods n ds = ds.all (good n) := by
  induction ds with
  | nil => simp
  | cons d ds ih => simp [ih]
omit [Tab] in
theorem goods_map {α : Type} {f : α → D} {l : List α} {n : Nat} (e : ∀ a ∈ l, good n (f a) = true) : goods n (l.map f) = true := by
  rw [goods_all, List.all_map, List.all_eq_true]; exact e
omit [Tab] in
@[simp] theorem goods_ints (n : Nat) (l : List Int) : goods (n + 1) (l.map D.int) = true := goods_map fun _ _ => by simp
def eqB (μ : Store) (x y : D) : Option Bool := match eqS x y with
  | some b => some b
  | none => match toPy μ 60 x, toPy μ 60 y with
    | some a, some b => if (SeqAt.shaped a && SeqAt.shaped b) = true then some (PyData.eqv a b) else none
    | _, _ => none
def eqD (x y : D) (μ : Store) : Option (D × Store) := (eqB μ x y).map fun b => (.bl b, μ)
def neD (x y : D) (μ : Store) : Option (D × Store) := (eqB μ x y).map fun b => (.bl (!b), μ)
theorem eqS_ok {K : PySem.W.Frag} {A : List Addr} {H : Hp} {x y : D} {v w : V} {b : Bool} (h : eqS x y = some b) (rx : RV K A H x v) (ry : RV K A H y w) : scal v w = true ∧ decide (v = w) = b := by
  cases x <;> cases y <;> first
    | (cases (show v = _ from rx); cases (show w = _ from ry); cases h; refine ⟨rfl, ?_⟩; first | rfl | exact dec_int | exact dec_bl | exact dec_str | (exact decide_eq_false fun q => nomatch q))
    | cases h
def rEqA (K : PySem.W.Frag) : R2 := fun x y H Q => rEq x y H Q ∨ rEqD K x y H Q
def rNeA (K : PySem.W.Frag) : R2 := fun x y H Q => rNe x y H Q ∨ rNeD K x y H Q
theorem op_eqA (hu : X.A.units + 64 < cLine) : OpR X (compareOp .Eq) (rEqA X.K) := op_eq.or (op_eqD hu)
theorem op_neA (hu : X.A.units + 64 < cLine) : OpR X (compareOp .NotEq) (rNeA X.K) := op_ne.or (op_neD hu)
theorem eqB_ok {A : List Addr} {μ : Store} {H : Hp} {x y : D} {v w : V} {b : Bool} (r : Rep g A μ H) (h : eqB μ x y = some b) (rx : RV g.K A H x v) (ry : RV g.K A H y w) :
    (scal v w = true ∧ decide (v = w) = b) ∨ ∃ d e, Dp g.K H v d ∧ Dp g.K H w e ∧ SeqAt.shaped d = true ∧ SeqAt.shaped e = true ∧ PyData.eqv d e = b := by
  unfold eqB at h
  split at h
  · rename_i b' e
    cases h
    exact .inl (eqS_ok e rx ry)
  · split at h
    · rename_i a c e1 e2
      split at h
      · rename_i hs
        cases h
        rw [Bool.and_eq_true] at hs
        exact .inr ⟨a, c, toPy_dp r _ _ _ _ e1 rx, toPy_dp r _ _ _ _ e2 ry, hs.1, hs.2, rfl⟩
      · cases h
    · cases h
theorem eq_ok : R2D g (rEqA g.K) eqD := fun {μ A H x y v w Q} r rx ry h => by
  unfold eqD at h
  cases e : eqB μ x y with
  | none => rw [e] at h; exact h.elim
  | some b =>
    rw [e] at h
    have q : Q (.bl b) H := Res.val (d := .bl b) r rfl h
    rcases eqB_ok r e rx ry with ⟨h1, h2⟩ | ⟨d, e', h1, h2, h3, h4, h5⟩
    · exact .inl ⟨h1, by rw [h2]; exact q⟩
    · exact .inr ⟨d, e', h1, h2, h3, h4, by rw [h5]; exact q⟩
theorem ne_ok : R2D g (rNeA g.K) neD := fun {μ A H x y v w Q} r rx ry h => by
  unfold neD at h
  cases e : eqB μ x y with
  | none => rw [e] at h; exact h.elim
  | some b =>
    rw [e] at h
    have q : Q (.bl (!b)) H := Res.val (d := .bl (!b)) r rfl h
    rcases eqB_ok r e rx ry with ⟨h1, h2⟩ | ⟨d, e', h1, h2, h3, h4, h5⟩
    · exact .inl ⟨h1, by rw [h2]; exact q⟩
    · exact .inr ⟨d, e', h1, h2, h3, h4, by rw [h5]; exact q⟩
section
variable {W : WX} {a b : Expr} {ma mb : M D} {pos : Pos}
theorem de_eq (hu : X.A.units + 64 < cLine) (ha : DE X W a ma) (hb : DE X W b mb) : DE X W (.Compare a [.Eq] [b] pos) (mBin eqD ma mb) := de_cmp (op_eqA hu) eq_ok ha hb (nomark _)
theorem de_ne (hu : X.A.units + 64 < cLine) (ha : DE X W a ma) (hb : DE X W b mb) : DE X W (.Compare a [.NotEq] [b] pos) (mBin neD ma mb) := de_cmp (op_neA hu) ne_ok ha hb (nomark _)
theorem dt_eq (hu : X.A.units + 64 < cLine) (ha : DE X W a ma) (hb : DE X W b mb) : DT X W (.Compare a [.Eq] [b] pos) (mTest (mBin eqD ma mb)) := dt_cmp (op_eqA hu) eq_ok ha hb (nomark _)
theorem dt_ne (hu : X.A.units + 64 < cLine) (ha : DE X W a ma) (hb : DE X W b mb) : DT X W (.Compare a [.NotEq] [b] pos) (mTest (mBin neD ma mb)) := dt_cmp (op_neA hu) ne_ok ha hb (nomark _)
end
/-! ### is None, is True -/
def isNon : D → Bool
  | .non => true
  | _ => false
def isD : D → D → Store → Option (D × Store)
  | x, .non, μ => some (.bl (isNon x), μ)
  | .bl a, .bl b, μ => some (.bl (decide (a = b)), μ)
  | _, _, _ => none
def nisD : D → D → Store → Option (D × Store)
  | x, .non, μ => some (.bl (!isNon x), μ)
  | .bl a, .bl b, μ => some (.bl (!decide (a = b)), μ)
  | _, _, _ => none
theorem isNon_ok {K : PySem.W.Frag} {A : List Addr} {H : Hp} {x : D} {v : V} (rx : RV K A H x v) : decide (v = .non) = isNon x := by
  cases x with
  | non => cases (show v = _ from rx); rfl
  | bl b => cases (show v = _ from rx); rfl
  | int i => cases (show v = _ from rx); rfl
  | str x => cases (show v = _ from rx); rfl
  | tup ds => simp only [RV] at rx; obtain ⟨_, _, rfl, _⟩ := rx; rfl
  | rol ds => simp only [RV] at rx; obtain ⟨_, _, rfl, _⟩ := rx; rfl
  | kst ds => simp only [RV] at rx; obtain ⟨_, _, rfl, _⟩ := rx; rfl
  | ptr n => simp only [RV] at rx; obtain ⟨_, rfl, _⟩ := rx; rfl
  | raw a => cases (show v = _ from rx); rfl
  | lam L cl us ds => simp only [RV] at rx; obtain ⟨_, _, rfl, _⟩ := rx; rfl
def rIsA : R2 := fun x y H Q => (y = .non ∧ Q (.bl (decide (x = .non))) H) ∨ (∃ a b, x = .bl a ∧ y = .bl b ∧ Q (.bl (decide (a = b))) H)
def rNisA : R2 := fun x y H Q => (y = .non ∧ Q (.bl (!decide (x = .non))) H) ∨ (∃ a b, x = .bl a ∧ y = .bl b ∧ Q (.bl (!decide (a = b))) H)
theorem op_isA : OpR X (compareOp .Is) rIsA := op_isN.or op_isBl
theorem op_nisA : OpR X (compareOp .IsNot) rNisA := op_notN.or op_notBl
theorem is_ok : R2D g rIsA isD := fun {μ A H x y v w Q} r rx ry h => by
  cases y with
  | non =>
    cases (show w = _ from ry)
    have h : Res g A H (some (.bl (isNon x), μ)) Q := by cases x <;> exact h
    exact .inl ⟨rfl, by rw [isNon_ok rx]; exact Res.val (d := .bl (isNon x)) r rfl h⟩
  | bl b =>
    cases x with
    | bl a =>
      cases (show v = _ from rx); cases (show w = _ from ry)
      exact .inr ⟨a, b, rfl, rfl, Res.val (d := .bl (decide (a = b))) r rfl h⟩
    | _ => exact h.elim
  | _ => cases x <;> exact h.elim
theorem nis_ok : R2D g rNisA nisD := fun {μ A H x y v w Q} r rx ry h => by
  cases y with
  | non =>
    cases (show w = _ from ry)
    have h : Res g A H (some (.bl (!isNon x), μ)) Q := by cases x <;> exact h
    exact .inl ⟨rfl, by rw [isNon_ok rx]; exact Res.val (d := .bl (!isNon x)) r rfl h⟩
  | bl b =>
    cases x with
    | bl a =>
      cases (show v = _ from rx); cases (show w = _ from ry)
      exact .inr ⟨a, b, rfl, rfl, Res.val (d := .bl (!decide (a = b))) r rfl h⟩
    | _ => exact h.elim
  | _ => cases x <;> exact h.elim
section
variable {W : WX} {a b : Expr} {ma mb : M D} {pos : Pos}
theorem de_is (ha : DE X W a ma) (hb : DE X W b mb) : DE X W (.Compare a [.Is] [b] pos) (mBin isD ma mb) := de_cmp op_isA is_ok ha hb (nomark _)
theorem de_nis (ha : DE X W a ma) (hb : DE X W b mb) : DE X W (.Compare a [.IsNot] [b] pos) (mBin nisD ma mb) := de_cmp op_nisA nis_ok ha hb (nomark _)
theorem dt_is (ha : DE X W a ma) (hb : DE X W b mb) : DT X W (.Compare a [.Is] [b] pos) (mTest (mBin isD ma mb)) := dt_cmp op_isA is_ok ha hb (nomark _)
theorem dt_nis (ha : DE X W a ma) (hb : DE X W b mb) : DT X W (.Compare a [.IsNot] [b] pos) (mTest (mBin nisD ma mb)) := dt_cmp op_nisA nis_ok ha hb (nomark _)
end
/-! ### in, not in -/
def flatD : D → Bool
  | .non => true
  | .bl _ => true
  | .int _ => true
  | .str _ => true
  | _ => false
def eqF : D → D → Bool
  | .non, .non => true
  | .bl a, .bl b => a == b
  | .bl a, .int b => (if a then 1 else 0) == b
  | .int a, .bl b => a == (if b then 1 else 0)
  | .int a, .int b => a == b
  | .str a, .str b => a == b
  | _, _ => false
theorem flat_ok {K : PySem.W.Frag} {A : List Addr} {H : Hp} {x : D} {v : V} (rx : RV K A H x v) (h : flatD x = true) : flatV v = true := by
  cases x with
  | non => cases (show v = _ from rx); rfl
  | bl b => cases (show v = _ from rx); rfl
  | int i => cases (show v = _ from rx); rfl
  | str x => cases (show v = _ from rx); rfl
  | _ => cases h
theorem eqF_ok {K : PySem.W.Frag} {A : List Addr} {H : Hp} {x y : D} {v w : V} (rx : RV K A H x v) (ry : RV K A H y w) (h : flatD x = true) (k : flatD y = true) : eqV v w = eqF x y := by
  cases x <;> first
    | (exact (Bool.false_ne_true h).elim)
    | (cases y <;> first
        | (exact (Bool.false_ne_true k).elim)
        | (cases (show v = _ from rx); cases (show w = _ from ry); rfl))
theorem flats_ok {K : PySem.W.Frag} {A : List Addr} {H : Hp} {x : D} {v : V} (rx : RV K A H x v) (hx : flatD x = true) : ∀ {ds : List D} {vs : List V}, RVs K A H ds vs → ds.all flatD = true → vs.all flatV = true ∧ (vs.any fun y => eqV y v) = ds.any fun d => eqF d x
  | [], _, h, _ => by cases (show _ = [] from h); exact ⟨rfl, rfl⟩
  | d :: ds, _, h, k => by
    simp only [RVs] at h
    obtain ⟨w, ws, rfl, h1, h2⟩ := h
    rw [List.all_cons, Bool.and_eq_true] at k
    obtain ⟨i1, i2⟩ := flats_ok rx hx h2 k.2
    refine ⟨?_, ?_⟩
    · rw [List.all_cons, flat_ok h1 k.1, i1]; rfl
    · rw [List.any_cons, List.any_cons, eqF_ok h1 rx k.1 hx, i2]
/-- one sign -/
def signD (x : Str) : Option Nat := match x.cps.toList with
  | [c] => some c
  | _ => none
theorem signD_ok {x : Str} {c : Nat} (h : signD x = some c) : x = ⟨#[c]⟩ := by
  unfold signD at h
  split at h
  · rename_i c' e
    cases h
    cases x with
    | mk cps =>
      congr 1
      apply Array.ext'
      simpa using e
  · cases h
def inB (μ : Store) (x y : D) : Option Bool := match seqD μ y with
  | some ds => if (flatD x && ds.all flatD) = true then some (ds.any fun d => eqF d x) else match lstOf μ y with
    | some es => if (good 59 x && es.all (good 59)) = true then some (es.any fun d => PyData.eqv (py d) (py x)) else none
    | none => none
  | none => match x, y with
    | .str x, .str z => match signD x with
      | some c => some (decide (c ∈ z.cps.toList))
      | none => none
    | .int i, .ptr n => match μ[n]? with
      | some (.dK kvs) => some (kvs.any fun kv => decide (kv.1 = Sum.inl i))
      | _ => none
    | .str i, .ptr n => match μ[n]? with
      | some (.dK kvs) => some (kvs.any fun kv => decide (kv.1 = Sum.inr i))
      | _ => none
    | _, _ => none
def inD (x y : D) (μ : Store) : Option (D × Store) := (inB μ x y).map fun b => (.bl b, μ)
def ninD (x y : D) (μ : Store) : Option (D × Store) := (inB μ x y).map fun b => (.bl (!b), μ)
def rDin : R2 := fun y x H Q => ∃ a o, x = .ref a ∧ DGet H a y o ∧ Q (.bl o.isSome) H
def rDnin : R2 := fun y x H Q => ∃ a o, x = .ref a ∧ DGet H a y o ∧ Q (.bl (!o.isSome)) H
theorem op_din (hu : X.A.units + 1 < cLine) : OpR X (compareOp .In) rDin := by
  intro pins s σ H y x u v Q I ry rx h
  obtain ⟨a, o, rfl, d, q⟩ := h
  cases rx
  exact d_in hu I d ry fun s' I' => ⟨.bl _, H, I', rfl, q⟩
theorem op_dnin (hu : X.A.units + 1 < cLine) : OpR X (compareOp .NotIn) rDnin := by
  intro pins s σ H y x u v Q I ry rx h
  obtain ⟨a, o, rfl, d, q⟩ := h
  cases rx
  exact d_notIn hu I d ry fun s' I' => ⟨.bl _, H, I', rfl, q⟩
def rInA (K : PySem.W.Frag) : R2 := fun x y H Q => rIn K false x y H Q ∨ (∃ (c : Nat) (z : Str), x = .str ⟨#[c]⟩ ∧ y = .str z ∧ Q (.bl (decide (c ∈ z.cps.toList))) H) ∨ rDin x y H Q ∨ rInD K x y H Q
def rNinA (K : PySem.W.Frag) : R2 := fun x y H Q => rIn K true x y H Q ∨ (∃ (c : Nat) (z : Str), x = .str ⟨#[c]⟩ ∧ y = .str z ∧ Q (.bl (!decide (c ∈ z.cps.toList))) H) ∨ rDnin x y H Q ∨ rNotInD K x y H Q
theorem hu65_of {A : Around} {k : Nat} (hr : Room k A) : A.units + 65 < cLine := by have := hr.un; omega
theorem op_inA (hu : X.A.units + 65 < cLine) : OpR X (compareOp .In) (rInA X.K) := op_in_seq.or (op_in_sign.or ((op_din (by omega)).or (op_inD hu)))
theorem op_ninA (hu : X.A.units + 65 < cLine) : OpR X (compareOp .NotIn) (rNinA X.K) := op_notIn_seq.or (op_notIn_sign.or ((op_dnin (by omega)).or (op_notInD hu)))
theorem RKs.any {κ : Type} [DecidableEq κ] {K : PySem.W.Frag} {A : List Addr} {H : Hp} (k : κ) : ∀ {kvs : List (κ × D)} {ws : List (κ × V)}, RKs K A H kvs ws → (ws.any fun kv => decide (kv.1 = k)) = kvs.any fun kv => decide (kv.1 = k)
  | [], _, h => by cases (show _ = [] from h); rfl
  | (j, d) :: kvs, _, h => by
    obtain ⟨v, ws, rfl, _, h2⟩ := h
    rw [List.any_cons, List.any_cons, RKs.any k h2]
theorem lst_dp {A : List Addr} {μ : Store} {H : Hp} {y : D} {w : V} {es : List D} {n : Nat} (r : Rep g A μ H) (h : lstOf μ y = some es) (hg : goods n es = true) (ry : RV g.K A H y w) : Dp g.K H w (.list (pys es)) := by
  obtain ⟨a, vs, rfl, h1, h2⟩ := lstOf_h r h ry
  exact .lst (SqL.of h1) (mapO_dp (toPy_dp r n) es (pys es) vs (goods_py μ n es hg).1 h2)
theorem shaped_py {x : D} (h : good 59 x = true) : SeqAt.shaped (py x) = true := by
  obtain ⟨_, p2, p3⟩ := good_py [] 59 x h
  unfold SeqAt.shaped
  rw [p2, Bool.true_and]; exact decide_eq_true (by omega)
theorem shaped_pys {es : List D} (h : goods 59 es = true) : SeqAt.shaped (.list (pys es)) = true := by
  obtain ⟨_, p2, p3⟩ := goods_py [] 59 es h
  unfold SeqAt.shaped
  simp only [PyData.canLay0, p2, Bool.true_and, PyData.depth]; exact decide_eq_true (by omega)
theorem shaped_pysT {es : List D} (h : goods 59 es = true) : SeqAt.shaped (.tuple (pys es)) = true := by
  obtain ⟨_, p2, p3⟩ := goods_py [] 59 es h
  unfold SeqAt.shaped
  simp only [PyData.canLay0, p2, Bool.true_and, PyData.depth]; exact decide_eq_true (by omega)
theorem pys_any (q : PyData → Bool) : ∀ es : List D, ((pys es).any q) = es.any fun d => q (py d)
  | [] => rfl
  | d :: es => by simp [pys, pys_any q es]
theorem pys_get : ∀ (es : List D) (j : Nat), (pys es)[j]? = (es[j]?).map py
  | [], j => by simp [pys]
  | d :: es, 0 => by simp [pys]
  | d :: es, j + 1 => by simp [pys, pys_get es j]
theorem inB_ok {A : List Addr} {μ : Store} {H : Hp} {x y : D} {v w : V} {b : Bool} (r : Rep g A μ H) (h : inB μ x y = some b) (rx : RV g.K A H x v) (ry : RV g.K A H y w) :
    (∃ p xs, w = .ref p ∧ (SqL g.K H p xs ∨ SqT g.K H p xs) ∧ flatV v = true ∧ xs.all flatV = true ∧ inV v xs = b) ∨ (∃ (c : Nat) (z : Str), v = .str ⟨#[c]⟩ ∧ w = .str z ∧ decide (c ∈ z.cps.toList) = b) ∨ (∃ a o, w = .ref a ∧ DGet H a v o ∧ o.isSome = b) ∨ ∃ d ds, Dp g.K H v d ∧ Dp g.K H w (.list ds) ∧ SeqAt.shaped d = true ∧ SeqAt.shaped (.list ds) = true ∧ (ds.any fun z => PyData.eqv z d) = b := by
  unfold inB at h
  split at h
  · rename_i ds e
    split at h
    · rename_i hf
      cases h
      rw [Bool.and_eq_true] at hf
      obtain ⟨a, vs, rfl, h1, h2⟩ := seqD_ok r e ry
      obtain ⟨k1, k2⟩ := flats_ok rx hf.1 h2 hf.2
      exact .inl ⟨a, vs, rfl, h1, flat_ok rx hf.1, k1, k2⟩
    · split at h
      · rename_i es e2
        split at h
        · rename_i hg
          cases h
          rw [Bool.and_eq_true] at hg
          have hg2 : goods 59 es = true := by rw [goods_all]; exact hg.2
          obtain ⟨p1, p2, p3⟩ := good_py μ 59 x hg.1
          exact .inr (.inr (.inr ⟨py x, pys es, toPy_dp r _ _ _ _ p1 rx, lst_dp r e2 hg2 ry, shaped_py hg.1, shaped_pys hg2, by rw [pys_any]⟩))
        · cases h
      · cases h
  · cases x with
    | str x =>
      cases y with
      | str z =>
        simp only at h
        split at h
        · rename_i c e
          cases h
          cases (show v = _ from rx); cases (show w = _ from ry)
          exact .inr (.inl ⟨c, z, by rw [signD_ok e], rfl, rfl⟩)
        · cases h
      | ptr n =>
        simp only at h
        split at h
        · rename_i kvs e
          cases h
          cases (show v = _ from rx)
          simp only [RV] at ry
          obtain ⟨a, rfl, ha⟩ := ry
          obtain ⟨ws, k1, k2⟩ := r.obj n a _ ha e
          exact .inr (.inr (.inl ⟨a, _, rfl, DGet.k (k := Sum.inr x) k1, by rw [← valV_any]; exact RKs.any _ k2⟩))
        · cases h
      | _ => cases h
    | int i =>
      cases y with
      | ptr n =>
        simp only at h
        split at h
        · rename_i kvs e
          cases h
          cases (show v = _ from rx)
          simp only [RV] at ry
          obtain ⟨a, rfl, ha⟩ := ry
          obtain ⟨ws, k1, k2⟩ := r.obj n a _ ha e
          exact .inr (.inr (.inl ⟨a, _, rfl, DGet.k (k := Sum.inl i) k1, by rw [← valV_any]; exact RKs.any _ k2⟩))
        · cases h
      | _ => cases h
    | _ => cases h
theorem in_ok : R2D g (rInA g.K) inD := fun {μ A H x y v w Q} r rx ry h => by
  unfold inD at h
  cases e : inB μ x y with
  | none => rw [e] at h; exact h.elim
  | some b =>
    rw [e] at h
    have q : Q (.bl b) H := Res.val (d := .bl b) r rfl h
    rcases inB_ok r e rx ry with ⟨p, xs, e1, h1, h2, h3, h4⟩ | ⟨c, z, e1, e2, h1⟩ | ⟨a, o, e1, h1, h2⟩ | ⟨d, ds, h1, h2, h3, h4, h5⟩
    · exact .inl ⟨p, xs, e1, h1, h2, h3, by rw [if_neg Bool.false_ne_true, h4]; exact q⟩
    · exact .inr (.inl ⟨c, z, e1, e2, by rw [h1]; exact q⟩)
    · exact .inr (.inr (.inl ⟨a, o, e1, h1, by rw [h2]; exact q⟩))
    · exact .inr (.inr (.inr ⟨d, ds, h1, h2, h3, h4, by rw [h5]; exact q⟩))
theorem nin_ok : R2D g (rNinA g.K) ninD := fun {μ A H x y v w Q} r rx ry h => by
  unfold ninD at h
  cases e : inB μ x y with
  | none => rw [e] at h; exact h.elim
  | some b =>
    rw [e] at h
    have q : Q (.bl (!b)) H := Res.val (d := .bl (!b)) r rfl h
    rcases inB_ok r e rx ry with ⟨p, xs, e1, h1, h2, h3, h4⟩ | ⟨c, z, e1, e2, h1⟩ | ⟨a, o, e1, h1, h2⟩ | ⟨d, ds, h1, h2, h3, h4, h5⟩
    · exact .inl ⟨p, xs, e1, h1, h2, h3, by rw [if_pos rfl, h4]; exact q⟩
    · exact .inr (.inl ⟨c, z, e1, e2, by rw [h1]; exact q⟩)
    · exact .inr (.inr (.inl ⟨a, o, e1, h1, by rw [h2]; exact q⟩))
    · exact .inr (.inr (.inr ⟨d, ds, h1, h2, h3, h4, by rw [h5]; exact q⟩))
section
variable {W : WX} {a b : Expr} {ma mb : M D} {pos : Pos}
theorem de_in (hu : X.A.units + 65 < cLine) (ha : DE X W a ma) (hb : DE X W b mb) (hm : behindInMarks .In b = false := by rfl) : DE X W (.Compare a [.In] [b] pos) (mBin inD ma mb) := de_cmp (op_inA hu) in_ok ha hb hm
theorem de_nin (hu : X.A.units + 65 < cLine) (ha : DE X W a ma) (hb : DE X W b mb) (hm : behindInMarks .NotIn b = false := by rfl) : DE X W (.Compare a [.NotIn] [b] pos) (mBin ninD ma mb) := de_cmp (op_ninA hu) nin_ok ha hb hm
theorem dt_in (hu : X.A.units + 65 < cLine) (ha : DE X W a ma) (hb : DE X W b mb) (hm : behindInMarks .In b = false := by rfl) : DT X W (.Compare a [.In] [b] pos) (mTest (mBin inD ma mb)) := dt_cmp (op_inA hu) in_ok ha hb hm
theorem dt_nin (hu : X.A.units + 65 < cLine) (ha : DE X W a ma) (hb : DE X W b mb) (hm : behindInMarks .NotIn b = false := by rfl) : DT X W (.Compare a [.NotIn] [b] pos) (mTest (mBin ninD ma mb)) := dt_cmp (op_ninA hu) nin_ok ha hb hm
end
end
end DL

-- DL4
set_option Elab.async false
set_option linter.all false
set_option maxRecDepth 100000
set_option maxHeartbeats 2000000
/-! DL4: places, slices, built-in functions and methods. -/
namespace HT
open PySem PySem.Spec PyProof.Rows
section
variable {prog : Program} {w : World} {A : Around} {E : Value → Shared → Prop} {s : Shared}
theorem sliceApplied_back {sl : Addr} {vl vu vs : Value} {n : Nat} {Q : Int × Int × Nat → Shared → Prop} (hs : s.heap.IsSliceOf sl vl vu vs) (pl : IsPart vl none) (pu : IsPart vu none) (ps : IsPart vs (some (-1)))
    (h : Q ((n : Int) - 1, -1, n) s) : wpAny (model prog w) A (Builtin.Slice.sliceApplied (.ref sl) (pure (n : Int))) Q E s := by
  obtain ⟨os, hos, hcs, hds⟩ := id hs
  unfold Builtin.Slice.sliceApplied Builtin.Slice.sliceFields
  refine wpAny_bind (wpAny_bind (wpAny_field hos hds (x := vl) rfl (wpAny_bind (wpAny_field hos hds (x := vu) rfl (wpAny_bind (wpAny_field hos hds (x := vs) rfl (wpAny_pure ?_)))))))
  refine wpAny_bind (slicePart_ ps ?_)
  show wpAny _ _ (if ((-1 : Int) == 0) = true then _ else _) _ _ s
  rw [if_neg (by decide)]
  refine wpAny_bind (slicePart_ pl (wpAny_bind (slicePart_ pu (wpAny_bind (wpAny_pure ?_)))))
  show wpAny _ _ (pure ((n : Int) - 1, (-1 : Int), Builtin.Slice.slicePlaces ((n : Int) - 1) (-1) (-1))) _ _ s
  have e : Builtin.Slice.slicePlaces ((n : Int) - 1) (-1) (-1) = n := by
    unfold Builtin.Slice.slicePlaces
    rw [if_neg (by decide)]
    split
    · rename_i h1
      have : ((n : Int) - 1 - -1 - 1) / (- -1) + 1 = n := by
        rw [show (- -1 : Int) = 1 by decide, Int.ediv_one]; omega
      rw [this]; simp
    · omega
  rw [e]
  exact wpAny_pure h
theorem filterMap_all {α β : Type} {f : α → Option β} {g : α → β} : ∀ l : List α, (∀ m ∈ l, f m = some (g m)) → l.filterMap f = l.map g
  | [], _ => rfl
  | a :: l, h => by
    rw [List.filterMap_cons, h a List.mem_cons_self, List.map_cons, filterMap_all l fun m hm => h m (List.mem_cons_of_mem _ hm)]
theorem pick_back (xs : Array Value) : ((List.range xs.size).filterMap fun (m : Nat) => xs[(((xs.size : Int) - 1) + (m : Int) * (-1)).toNat]?).toArray = xs.toList.reverse.toArray := by
  congr 1
  apply List.ext_getElem?
  intro i
  have e : (List.range xs.size).filterMap (fun (m : Nat) => xs[(((xs.size : Int) - 1) + (m : Int) * (-1)).toNat]?) = (List.range xs.size).map fun m => xs.toList.getD (xs.size - 1 - m) .none := by
    refine filterMap_all _ fun m hm => ?_
    have hm : m < xs.size := List.mem_range.mp hm
    have e1 : (((xs.size : Int) - 1) + (m : Int) * (-1)).toNat = xs.size - 1 - m := by omega
    rw [e1]
    have h2 : xs.size - 1 - m < xs.size := by omega
    show xs[xs.size - 1 - m]? = some (xs.toList.getD (xs.size - 1 - m) .none)
    rw [Array.getElem?_eq_getElem h2, List.getD_eq_getElem?_getD]
    simp [h2]
  rw [e]
  by_cases hi : i < xs.size
  · rw [List.getElem?_reverse (by simpa using hi)]
    have h2 : xs.size - 1 - i < xs.size := by omega
    simp [hi, h2]
  · rw [List.getElem?_eq_none (by simpa using hi), List.getElem?_eq_none (by simpa using hi)]
theorem getItem_tuple_back {t sl : Addr} {items : Array Value} {vl vu vs : Value} {Q : Value → Shared → Prop} (ht : IsTup s.heap t items) (hs : s.heap.IsSliceOf sl vl vu vs) (pl : IsPart vl none) (pu : IsPart vu none) (ps : IsPart vs (some (-1)))
    (h : Q (.ref s.heap.objs.size) { s with heap := s.heap.push { cls := .type "tuple", data := .seq items.toList.reverse.toArray } })
    (hsz : items.size ≤ sizeLine) : wpAny (model prog w) A (getItem (.ref t) (.ref sl)) Q E s := by
  have htake : sizeOk (.seq items.toList.reverse.toArray) := by
    show items.toList.reverse.toArray.size ≤ sizeLine
    simpa using hsz
  obtain ⟨os, hos, hcs, hds⟩ := id hs
  have hTs : s.TypeIs (.ref sl) "slice" := ⟨os, hos, hcs⟩
  unfold getItem
  try with_reducible refine wpAny_holding ?_
  first | refine wpAny_bind (wpAny_pure ?_) | skip
  refine wpAny_bind (wpAny_sequenceKey ht.typeIs (by decide) ?_)
  refine wpAny_bind (wpAny_callSpecial?_slot (name := Str.ofString "__getitem__") ht.typeIs PyProof.Rows.slot_tuple_getitem
    (wpAny_call_entry PyProof.Rows.slot_tuple_getitem ht.typeIs entry_tuple_getitem ?_ (args_tuple_getitem _ _)))
  show wpAny _ _ (Builtin.Tuple.tupleItemsOf (.ref t) >>= _) _ _ s
  refine wpAny_bind (tupleItemsOf_ ht ?_)
  refine wpAny_bind (wpAny_typeOf hTs ?_)
  rw [if_pos (by decide)]
  refine wpAny_bind (sliceApplied_back hs pl pu ps ?_)
  have hno : ¬ ((((items.size : Int) - 1) == 0 && (-1 : Int) == 1 && items.size == items.size) = true) := by
    intro q
    rw [Bool.and_eq_true, Bool.and_eq_true] at q
    exact absurd q.1.2 (by decide)
  show wpAny _ _ (if (((items.size : Int) - 1) == 0 && (-1 : Int) == 1 && items.size == items.size) = true then _ else _) _ _ s
  rw [if_neg hno, pick_back]
  first
    | exact wpAny_bind (m := Builtin.Tuple.tupleExact _) (wpAny_newObj_type (wpAny_pure ⟨_, rfl, wpAny_pure h⟩) htake)
    | exact wpAny_bind (m := Builtin.Tuple.tupleExact _) (wpAny_newObj_type (wpAny_bind (wpAny_pure (wpAny_pure ⟨_, rfl, wpAny_pure h⟩))) htake)
    | exact wpAny_bind (wpAny_bind (m := Builtin.Tuple.tupleExact _) (wpAny_newObj_type (wpAny_pure (wpAny_pure ⟨_, rfl, wpAny_pure h⟩)) htake))
    | exact wpAny_bind (wpAny_bind (m := Builtin.Tuple.tupleExact _) (wpAny_newObj_type (wpAny_pure ⟨_, rfl, wpAny_pure h⟩) htake))
end
end HT
namespace L2
open PySem PySem.Spec PyProof.Rows
/-- t[::-1], xs[::-1] -/
def tRevA (K : PySem.W.Frag) (te : TE) : TE := fun σ H Q => te σ H fun x H1 => (∃ a xs, x = .ref a ∧ SqL K H1 a xs ∧ ∀ p, H1 p = none → Q (.ref p) (upd H1 p (.lst xs.reverse))) ∨ (∃ a xs, x = .ref a ∧ SqT K H1 a xs ∧ ∀ p, H1 p = none → Q (.ref p) (upd H1 p (.tup xs.reverse)))
theorem pe_revA {X : Cx} {e : Expr} {te : TE} {k : Nat} {p1 p2 p3 pos : Pos} (he : PE X e te) : PE X (.Subscript e (.Slice none none (some (.UnaryOp .USub (.Constant (.int 1) k p1) p2)) p3) pos) (tRevA X.K te) := by
  refine ⟨fun pins s σ H Q I h => ?_⟩
  refine Subscript_ (thn (he.run pins s σ H _ I h) fun v s1 ⟨x, H1, I1, r1, q1⟩ => ?_)
  have hst : PO X (some (.UnaryOp .USub (.Constant (.int 1) k p1) p2)) (tPart (tUn (rU fun i => .int (-i)) (tC (.int 1)))) := po_some (pe_un un_neg pe_int)
  refine wpAny_Slice (thn (po_none.run pins s1 σ H1 (fun o H2 => o = none ∧ H2 = H1) I1 ⟨rfl, rfl⟩) fun vl s2 ⟨l, H2, I2, pl, el, e2⟩ => ?_)
  subst el e2
  refine thn (po_none.run pins s2 σ H2 (fun o H3 => o = none ∧ H3 = H2) I2 ⟨rfl, rfl⟩) fun vu s3 ⟨u, H3, I3, pu, eu, e3⟩ => ?_
  subst eu e3
  refine thn (hst.run pins s3 σ H3 (fun o H4 => o = some (-1) ∧ H4 = H3) I3 ⟨1, rfl, -1, rfl, rfl, rfl⟩) fun vs s4 ⟨o, H4, I4, ps, eo, e4⟩ => ?_
  subst eo e4
  have I5 : Inv X pins σ H4 { s4 with heap := s4.heap.push { cls := .type "slice", data := .fields #[vl, vu, vs] } } := I4.kept (t' := s4.toks) fun b ob q => Heap.get?_push_of_some _ q
  rcases q1 with ⟨a, xs, ex, hx, q⟩ | ⟨a, xs, ex, hx, q⟩
  · subst ex
    cases r1
    obtain ⟨its, r, ht, hz⟩ := I5.list hx
    have hlen := r.length
    show wpAny (model X.prog X.w) X.A (subscriptTail e (.Slice none none (some (.UnaryOp .USub (.Constant (.int 1) k p1) p2)) p3) (.ref a) (.ref s4.heap.objs.size)) (EP X pins σ Q) X.xe { s4 with heap := s4.heap.push { cls := .type "slice", data := .fields #[vl, vu, vs] } }
    refine tail_any (ops := [.ref a, .ref s4.heap.objs.size]) ht.isList.typeIs (PySem.slot_list_getitem.lookup) ?_ (by with_unfolding_all rfl)
    refine wpAny_getItem_list_slice ht.isList (Heap.IsSliceOf.new _ vl vu vs) pl pu ps (by decide) ?_ (by rw [List.size_toArray]; omega)
    rw [PySem.W.krv_pick]
    refine ⟨.ref _, _, I5.laid (t' := s4.toks) (o := .lst xs.reverse) (fun b ob q => Heap.get?_push_of_some _ q) (Nat.le_refl _) ?_, rfl, q _ (I5.hok.fresh (Nat.le_refl _))⟩
    exact ⟨by rw [List.length_reverse]; exact hz, _, 0, r.reverse, Heap.get?_push_size _ rfl⟩
  · subst ex
    cases r1
    obtain ⟨its, r, ht, hz⟩ := I5.tuple hx
    have hlen := r.length
    show wpAny (model X.prog X.w) X.A (subscriptTail e (.Slice none none (some (.UnaryOp .USub (.Constant (.int 1) k p1) p2)) p3) (.ref a) (.ref s4.heap.objs.size)) (EP X pins σ Q) X.xe { s4 with heap := s4.heap.push { cls := .type "slice", data := .fields #[vl, vu, vs] } }
    refine tail_any (ops := [.ref a, .ref s4.heap.objs.size]) ht.typeIs (PyProof.Rows.slot_tuple_getitem.lookup) ?_ (by with_unfolding_all rfl)
    refine HT.getItem_tuple_back ht (Heap.IsSliceOf.new _ vl vu vs) pl pu ps ?_ (by rw [List.size_toArray]; omega)
    refine ⟨.ref _, _, I5.laid (t' := s4.toks) (o := .tup xs.reverse) (fun b ob q => Heap.get?_push_of_some _ q) (Nat.le_refl _) ?_, rfl, q _ (I5.hok.fresh (Nat.le_refl _))⟩
    exact ⟨by rw [List.length_reverse]; exact hz, _, r.reverse, IsTup.new _ _⟩
/-- d[y] by values -/
def rIxDc : R2 := fun x y H Q => ∃ a v, x = .ref a ∧ DGet H a y (some v) ∧ Q v H
theorem ix_dict {X : Cx} (hu : X.A.units + 1 < cLine) : IxR X rIxDc := by
  intro value slice pins s σ H x y v u Q I rx ry h hs
  obtain ⟨a, z, rfl, g, q⟩ := h
  cases rx
  exact tail_any (dict_typeIs I g) PySem.F.slot_dict_getitem.lookup (d_getItem hu I g ry fun w' s3 I3 rw' => ⟨z, H, I3, rw', q⟩) hs
end L2
namespace DL
open PySem L2
variable [Tab]
section
variable {X : Cx} {g : G}
/-! ### places -/
def valK {κ δ : Type} [DecidableEq κ] (kvs : List (κ × δ)) (k : κ) : Option δ := (kvs.find? fun kv => decide (kv.1 = k)).map (·.2)
theorem RKs.val {κ : Type} [DecidableEq κ] {K : PySem.W.Frag} {A : List Addr} {H : Hp} {k : κ} {d : D} : ∀ {kvs : List (κ × D)} {ws : List (κ × V)}, RKs K A H kvs ws → valK kvs k = some d → ∃ v, valV ws k = some v ∧ RV K A H d v
  | [], _, _, e => by simp [valK] at e
  | (j, d') :: kvs, _, h, e => by
    obtain ⟨v, ws, rfl, h1, h2⟩ := h
    by_cases q : j = k
    · simp [valK, List.find?_cons, q] at e
      subst e
      exact ⟨v, by simp [valV, List.find?_cons, q], h1⟩
    · have e' : valK kvs k = some d := by simpa [valK, List.find?_cons, q] using e
      obtain ⟨u, h3, h4⟩ := RKs.val h2 e'
      exact ⟨u, by simpa [valV, List.find?_cons, q] using h3, h4⟩
def ixB (μ : Store) (x y : D) : Option D := match y with
  | .int i => match seqD μ x with
    | some ds => atI ds i
    | none => match x with
      | .str z => if z.length ≤ 16777216 then (atI z.cps.toList i).map fun c => .str ⟨#[c]⟩ else none
      | .ptr n => match μ[n]? with
        | some (.dK kvs) => valK kvs (.inl i)
        | _ => none
      | _ => none
  | .str k => match x with
    | .ptr n => match μ[n]? with
      | some (.dK kvs) => valK kvs (.inr k)
      | _ => none
    | _ => none
  | _ => none
def ixD (x y : D) (μ : Store) : Option (D × Store) := (ixB μ x y).map fun d => (d, μ)
def rIxA (K : PySem.W.Frag) : R2 := fun x y H Q => rIxDc x y H Q ∨ rIx K x y H Q
theorem ix_all (hu : X.A.units + 1 < cLine) : IxR X (rIxA X.K) := (ix_dict hu).or ix_seq
theorem RVs.atI {K : PySem.W.Frag} {A : List Addr} {H : Hp} {ds : List D} {vs : List V} {i : Int} {d : D} (h : RVs K A H ds vs) (e : atI ds i = some d) : ∃ v, L2.atI vs i = some v ∧ RV K A H d v := by
  unfold L2.atI at e ⊢
  rw [RVs.length h]
  cases q : ixN ds.length i with
  | none => rw [q] at e; cases e
  | some j =>
    rw [q] at e
    exact RVs.get h e
theorem ix_ok : R2D g (rIxA g.K) ixD := fun {μ A H x y v w Q} r rx ry h => by
  unfold ixD at h
  cases e : ixB μ x y with
  | none => rw [e] at h; exact h.elim
  | some d =>
    rw [e] at h
    have h : ∀ z, RV g.K A H d z → Q z H := fun z hz => Res.val r hz h
    unfold ixB at e
    cases y with
    | int i =>
      cases (show w = _ from ry)
      simp only at e
      split at e
      · rename_i ds e1
        obtain ⟨a, vs, rfl, h1, h2⟩ := seqD_ok r e1 rx
        obtain ⟨z, k1, k2⟩ := RVs.atI h2 e
        rcases h1 with h1 | h1
        · exact .inr (.inl ⟨a, vs, i, z, rfl, rfl, h1, k1, h z k2⟩)
        · exact .inr (.inr (.inl ⟨a, vs, i, z, rfl, rfl, h1, k1, h z k2⟩))
      · cases x with
        | str z =>
          cases (show v = _ from rx)
          simp only at e
          split at e
          · rename_i hz
            obtain ⟨c, e1, rfl⟩ := Option.map_eq_some_iff.mp e
            exact .inr (.inr (.inr ⟨z, i, c, rfl, rfl, le_size hz, e1, h (.str ⟨#[c]⟩) rfl⟩))
          · cases e
        | ptr n =>
          simp only at e
          split at e
          · rename_i kvs e1
            simp only [RV] at rx
            obtain ⟨a, rfl, ha⟩ := rx
            obtain ⟨ws, k1, k2⟩ := r.obj n a _ ha e1
            obtain ⟨z, k3, k4⟩ := RKs.val k2 e
            exact .inl ⟨a, z, rfl, by rw [← k3]; exact DGet.k (k := Sum.inl i) k1, h z k4⟩
          · cases e
        | _ => cases e
    | str k =>
      cases (show w = _ from ry)
      cases x with
      | ptr n =>
        simp only at e
        split at e
        · rename_i kvs e1
          simp only [RV] at rx
          obtain ⟨a, rfl, ha⟩ := rx
          obtain ⟨ws, k1, k2⟩ := r.obj n a _ ha e1
          obtain ⟨z, k3, k4⟩ := RKs.val k2 e
          exact .inl ⟨a, z, rfl, by rw [← k3]; exact DGet.k (k := Sum.inr k) k1, h z k4⟩
        · cases e
      | _ => cases e
    | _ => cases e
theorem de_sub_ix {W : WX} {a b : Expr} {ma mb : M D} {pos : Pos} (hu : X.A.units + 1 < cLine) (ha : DE X W a ma) (hb : DE X W b mb) (hs : PlainIx b := by exact fun _ _ => rfl) : DE X W (.Subscript a b pos) (mBin ixD ma mb) := de_ix (ix_all hu) ix_ok ha hb hs
/-! ### slices -/
def cutD (xs : List D) (lo hi : Option Int) : List D := (xs.drop (HT.sIx xs.length 0 lo)).take (HT.sIx xs.length xs.length hi - HT.sIx xs.length 0 lo)
def slD : D → Option Int → Option Int → Store → Option (D × Store)
  | .tup ds, lo, hi, μ => some (.tup (cutD ds lo hi), μ)
  | .rol ds, lo, hi, μ => some (.ptr μ.length, μ ++ [.lst (cutD ds lo hi)])
  | .kst ds, lo, hi, μ => some (.ptr μ.length, μ ++ [.lst (cutD ds lo hi)])
  | .ptr n, lo, hi, μ => match lstAt μ n with
    | some ds => some (.ptr μ.length, μ ++ [.lst (cutD ds lo hi)])
    | none => none
  | .str z, lo, hi, μ => if z.length ≤ 16777216 then some (.str (cutS z lo hi), μ) else none
  | _, _, _, _ => none
def rSlAll (K : PySem.W.Frag) : V → Option Int → Option Int → Hp → VK → Prop := fun x lo hi H Q => rSlA K x lo hi H Q ∨ rSlL K x lo hi H Q ∨ rSlS x lo hi H Q
theorem sl_all : SlR X (rSlAll X.K) := sl_tupA.or (sl_list.or sl_str)
theorem RVs.cut {K : PySem.W.Frag} {A : List Addr} {H : Hp} {ds : List D} {vs : List V} (h : RVs K A H ds vs) (lo hi : Option Int) : RVs K A H (cutD ds lo hi) (cutV vs lo hi) := by
  unfold cutD cutV
  rw [RVs.length h]
  exact RVs.take _ (RVs.drop _ h)
theorem sl_ok : RSD g (rSlAll g.K) slD := fun {μ A H x v lo hi Q} r rx h => by
  cases x with
  | tup ds =>
    simp only [RV] at rx
    obtain ⟨a, vs, rfl, h1, h2⟩ := rx
    refine .inl ⟨a, vs, rfl, .inl h1, fun e => ?_, fun _ => Res.tup r (RVs.cut h2 lo hi) h⟩
    have e' : cutD ds lo hi = ds := by
      unfold cutD
      rw [RVs.length h2] at e
      rw [e.1, e.2]
      simp
    have h : Res g A H (some (.tup (cutD ds lo hi), μ)) Q := h
    rw [e'] at h
    exact Res.val r (show RV g.K A H (.tup ds) (.ref a) from ⟨a, vs, rfl, h1, h2⟩) h
  | rol ds =>
    simp only [RV] at rx
    obtain ⟨a, vs, rfl, h1, h2⟩ := rx
    exact .inr (.inl ⟨a, vs, rfl, h1.sq, Res.lst r (RVs.cut h2 lo hi) h⟩)
  | kst ds =>
    simp only [RV] at rx
    obtain ⟨a, vs, rfl, h1, h2⟩ := rx
    exact .inr (.inl ⟨a, vs, rfl, h1.sq, Res.lst r (RVs.cut h2 lo hi) h⟩)
  | ptr n =>
    simp only [RV] at rx
    obtain ⟨a, rfl, ha⟩ := rx
    simp only [slD] at h
    split at h
    · rename_i ds e
      obtain ⟨vs, h1, h2⟩ := Rep.lstA r ha e
      exact .inr (.inl ⟨a, vs, rfl, SqL.of h1, Res.lst r (RVs.cut h2 lo hi) h⟩)
    · exact h.elim
  | str z =>
    cases (show v = _ from rx)
    simp only [slD] at h
    split at h
    · rename_i hz
      exact .inr (.inr ⟨z, rfl, le_size hz, Res.val (d := .str (cutS z lo hi)) r rfl h⟩)
    · exact h.elim
  | _ => exact h.elim
theorem de_sl {W : WX} {a : Expr} {ma : M D} {ml mh : M (Option Int)} {lo hi : Option Expr} {p2 pos : Pos} (ha : DE X W a ma) (hl : DO X W lo ml) (hh : DO X W hi mh) : DE X W (.Subscript a (.Slice lo hi none p2) pos) (mSl slD ma ml mh) := de_slice sl_all sl_ok ha hl hh
def revD : D → Store → Option (D × Store)
  | .tup ds, μ => some (.tup ds.reverse, μ)
  | .rol ds, μ => some (.ptr μ.length, μ ++ [.lst ds.reverse])
  | .ptr n, μ => match lstAt μ n with
    | some ds => some (.ptr μ.length, μ ++ [.lst ds.reverse])
    | none => none
  | _, _ => none
theorem de_rev {W : WX} {a : Expr} {ma : M D} {k : Nat} {p1 p2 p3 pos : Pos} (ha : DE X W a ma) : DE X W (.Subscript a (.Slice none none (some (.UnaryOp .USub (.Constant (.int 1) k p1) p2)) p3) pos) (mUn revD ma) := pe_imp (pe_revA ha) fun σ H Q h => by
  obtain ⟨ρ, μ, A, rs, rp, h⟩ := h
  refine ⟨ρ, μ, A, rs, rp, PV.bind h fun d μ1 v A1 H1 e1 r rx h => ?_⟩
  cases d with
  | tup ds =>
    simp only [RV] at rx
    obtain ⟨a, vs, rfl, h1, h2⟩ := rx
    exact .inr ⟨a, vs, rfl, .inl h1, Res.tup r (RVs.reverse h2) h⟩
  | rol ds =>
    simp only [RV] at rx
    obtain ⟨a, vs, rfl, h1, h2⟩ := rx
    exact .inl ⟨a, vs, rfl, h1.sq, Res.lst r (RVs.reverse h2) h⟩
  | ptr n =>
    simp only [RV] at rx
    obtain ⟨a, rfl, ha⟩ := rx
    simp only [revD] at h
    split at h
    · rename_i ds e
      obtain ⟨vs, h1, h2⟩ := Rep.lstA r ha e
      exact .inl ⟨a, vs, rfl, SqL.of h1, Res.lst r (RVs.reverse h2) h⟩
    · exact h.elim
  | _ => exact h.elim
/-! ### built-in functions -/
def lenD : List D → Store → Option (D × Store)
  | [.str x], μ => if x.length ≤ 16777216 then some (.int x.length, μ) else none
  | [d], μ => match seqD μ d with
    | some ds => some (.int ds.length, μ)
    | none => none
  | _, _ => none
theorem len_ok : RCD g (fun xs H Q => ∃ x n, xs = [x] ∧ LenV g.K x H n ∧ Q (.int n) H) lenD := fun {μ A H xs vs Q} r rx h => by
  cases xs with
  | nil => exact h.elim
  | cons d ds =>
    cases ds with
    | cons _ _ => cases d <;> exact h.elim
    | nil =>
      simp only [RVs] at rx
      obtain ⟨v, ws, rfl, rv, rfl⟩ := rx
      cases d with
      | str x =>
        cases (show v = _ from rv)
        simp only [lenD] at h
        split at h
        · rename_i hz
          exact ⟨_, _, rfl, ⟨le_size hz, rfl⟩, Res.val (d := .int x.length) r rfl h⟩
        · exact h.elim
      | _ =>
        simp only [lenD] at h
        split at h
        · rename_i es e
          obtain ⟨a, vs, rfl, h1, h2⟩ := seqD_ok r e rv
          refine ⟨_, es.length, rfl, ?_, Res.val (d := .int es.length) r rfl h⟩
          rcases h1 with h1 | h1
          · exact .inl ⟨vs, h1, (RVs.length h2).symm⟩
          · exact .inr ⟨vs, h1, (RVs.length h2).symm⟩
        · exact h.elim
def absD : List D → Store → Option (D × Store)
  | [.int i], μ => some (.int (if i < 0 then -i else i), μ)
  | _, _ => none
def max2D : List D → Store → Option (D × Store)
  | [.int i, .int j], μ => some (.int (if j > i then j else i), μ)
  | _, _ => none
def min2D : List D → Store → Option (D × Store)
  | [.int i, .int j], μ => some (.int (if j < i then j else i), μ)
  | _, _ => none
def int1D : List D → Store → Option (D × Store)
  | [.int i], μ => some (.int i, μ)
  | [.bl k], μ => some (.int (if k then 1 else 0), μ)
  | _, _ => none
def strIntD : List D → Store → Option (D × Store)
  | [.int i], μ => if i.natAbs.log2 < 1920 then some (.str (toString i), μ) else none
  | _, _ => none
theorem one_of {K : PySem.W.Frag} {A : List Addr} {H : Hp} {d : D} {vs : List V} (h : RVs K A H [d] vs) : ∃ v, vs = [v] ∧ RV K A H d v := by
  simp only [RVs] at h
  obtain ⟨v, ws, rfl, rv, rfl⟩ := h
  exact ⟨v, rfl, rv⟩
theorem two_of {K : PySem.W.Frag} {A : List Addr} {H : Hp} {d e : D} {vs : List V} (h : RVs K A H [d, e] vs) : ∃ v w, vs = [v, w] ∧ RV K A H d v ∧ RV K A H e w := by
  simp only [RVs] at h
  obtain ⟨v, ws, rfl, rv, w, us, rfl, rw', rfl⟩ := h
  exact ⟨v, w, rfl, rv, rw'⟩
theorem abs_ok : RCD g (fun xs H Q => ∃ i, xs = [.int i] ∧ Q (.int (if i < 0 then -i else i)) H) absD := fun {μ A H xs vs Q} r rx h => by
  unfold absD at h
  split at h
  · rename_i i
    obtain ⟨v, rfl, rv⟩ := one_of rx
    cases (show v = _ from rv)
    exact ⟨i, rfl, Res.val (d := .int (if i < 0 then -i else i)) r rfl h⟩
  · exact h.elim
theorem max2_ok : RCD g (fun xs H Q => ∃ i j, xs = [.int i, .int j] ∧ Q (.int (if j > i then j else i)) H) max2D := fun {μ A H xs vs Q} r rx h => by
  unfold max2D at h
  split at h
  · rename_i i j
    obtain ⟨v, w, rfl, rv, rw'⟩ := two_of rx
    cases (show v = _ from rv); cases (show w = _ from rw')
    exact ⟨i, j, rfl, Res.val (d := .int (if j > i then j else i)) r rfl h⟩
  · exact h.elim
theorem min2_ok : RCD g (fun xs H Q => ∃ i j, xs = [.int i, .int j] ∧ Q (.int (if j < i then j else i)) H) min2D := fun {μ A H xs vs Q} r rx h => by
  unfold min2D at h
  split at h
  · rename_i i j
    obtain ⟨v, w, rfl, rv, rw'⟩ := two_of rx
    cases (show v = _ from rv); cases (show w = _ from rw')
    exact ⟨i, j, rfl, Res.val (d := .int (if j < i then j else i)) r rfl h⟩
  · exact h.elim
theorem int1_ok : RCD g (fun xs H Q => (∃ i, xs = [.int i] ∧ Q (.int i) H) ∨ ∃ k, xs = [.bl k] ∧ Q (.int (if k then 1 else 0)) H) int1D := fun {μ A H xs vs Q} r rx h => by
  unfold int1D at h
  split at h
  · rename_i i
    obtain ⟨v, rfl, rv⟩ := one_of rx
    cases (show v = _ from rv)
    exact .inl ⟨i, rfl, Res.val (d := .int i) r rfl h⟩
  · rename_i k
    obtain ⟨v, rfl, rv⟩ := one_of rx
    cases (show v = _ from rv)
    exact .inr ⟨k, rfl, Res.val (d := .int (if k then 1 else 0)) r rfl h⟩
  · exact h.elim
theorem strInt_ok : RCD g (fun xs H Q => ∃ i, xs = [.int i] ∧ i.natAbs.log2 < 1920 ∧ Q (.str (toString i)) H) strIntD := fun {μ A H xs vs Q} r rx h => by
  unfold strIntD at h
  split at h
  · rename_i i
    split at h
    · rename_i hz
      obtain ⟨v, rfl, rv⟩ := one_of rx
      cases (show v = _ from rv)
      exact ⟨i, rfl, hz, Res.val (d := .str (toString i)) r rfl h⟩
    · exact h.elim
  · exact h.elim
/-- tuple(x), list(x) -/
def tupleD : List D → Store → Option (D × Store)
  | [d], μ => match seqD μ d with
    | some ds => some (.tup ds, μ)
    | none => none
  | _, _ => none
def listD : List D → Store → Option (D × Store)
  | [d], μ => match seqD μ d with
    | some ds => some (.ptr μ.length, μ ++ [.lst ds])
    | none => none
  | _, _ => none
theorem tuple_ok : RCD g (fun xs H Q => ∃ p ys, xs = [.ref p] ∧ ((SqL g.K H p ys ∧ ∀ l, H l = none → Q (.ref l) (upd H l (.tup ys))) ∨ (SqT g.K H p ys ∧ Q (.ref p) H))) tupleD := fun {μ A H xs vs Q} r rx h => by
  unfold tupleD at h
  split at h
  · rename_i d
    obtain ⟨v, rfl, rv⟩ := one_of rx
    cases d with
    | tup ds =>
      have h : Res g A H (some (.tup ds, μ)) Q := h
      simp only [RV] at rv
      obtain ⟨a, vs, rfl, h1, h2⟩ := rv
      exact ⟨a, vs, rfl, .inr ⟨.inl h1, Res.val r (show RV g.K A H (.tup ds) (.ref a) from ⟨a, vs, rfl, h1, h2⟩) h⟩⟩
    | rol ds =>
      have h : Res g A H (some (.tup ds, μ)) Q := h
      simp only [RV] at rv
      obtain ⟨a, vs, rfl, h1, h2⟩ := rv
      exact ⟨a, vs, rfl, .inl ⟨h1.sq, Res.tup r h2 h⟩⟩
    | kst ds =>
      have h : Res g A H (some (.tup ds, μ)) Q := h
      simp only [RV] at rv
      obtain ⟨a, vs, rfl, h1, h2⟩ := rv
      exact ⟨a, vs, rfl, .inl ⟨h1.sq, Res.tup r h2 h⟩⟩
    | ptr n =>
      simp only [RV] at rv
      obtain ⟨a, rfl, ha⟩ := rv
      simp only [seqD] at h
      split at h
      · rename_i ds e
        obtain ⟨vs, h1, h2⟩ := Rep.lstA r ha e
        exact ⟨a, vs, rfl, .inl ⟨SqL.of h1, Res.tup r h2 h⟩⟩
      · exact h.elim
    | _ => exact h.elim
  · exact h.elim
theorem list_ok : RCD g (fun xs H Q => ∃ p ys, xs = [.ref p] ∧ (SqL g.K H p ys ∨ SqT g.K H p ys) ∧ ∀ l, H l = none → Q (.ref l) (upd H l (.lst ys))) listD := fun {μ A H xs vs Q} r rx h => by
  unfold listD at h
  split at h
  · rename_i d
    obtain ⟨v, rfl, rv⟩ := one_of rx
    split at h
    · rename_i ds e
      obtain ⟨a, vs, rfl, h1, h2⟩ := seqD_ok r e rv
      exact ⟨a, vs, rfl, h1, Res.lst r h2 h⟩
    · exact h.elim
  · exact h.elim
/-- all, any of a list of truths -/
def blsD : List D → Option (List Bool)
  | [] => some []
  | .bl b :: r => (blsD r).map fun bs => b :: bs
  | _ :: _ => none
theorem bls_ok {K : PySem.W.Frag} {A : List Addr} {H : Hp} : ∀ {ds : List D} {vs : List V} {bs : List Bool}, RVs K A H ds vs → blsD ds = some bs → vs = bs.map V.bl
  | [], _, _, h, e => by cases (show _ = [] from h); cases e; rfl
  | d :: ds, _, _, h, e => by
    simp only [RVs] at h
    obtain ⟨v, ws, rfl, h1, h2⟩ := h
    cases d with
    | bl b =>
      cases (show v = _ from h1)
      simp only [blsD, Option.map_eq_some_iff] at e
      obtain ⟨bs, e, rfl⟩ := e
      rw [bls_ok h2 e]; rfl
    | _ => cases e
def allD : List D → Store → Option (D × Store)
  | [d], μ => match lstOf μ d with
    | some ds => (blsD ds).map fun bs => (.bl (bs.all id), μ)
    | none => none
  | _, _ => none
def anyD : List D → Store → Option (D × Store)
  | [d], μ => match lstOf μ d with
    | some ds => (blsD ds).map fun bs => (.bl (bs.any id), μ)
    | none => none
  | _, _ => none
theorem all_ok : RCD g (rAll g.K) allD := fun {μ A H xs vs Q} r rx h => by
  unfold allD at h
  split at h
  · rename_i d
    obtain ⟨v, rfl, rv⟩ := one_of rx
    split at h
    · rename_i ds e
      obtain ⟨a, vs, rfl, h1, h2⟩ := lstOf_ok r e rv
      cases e2 : blsD ds with
      | none => rw [e2] at h; exact h.elim
      | some bs =>
        rw [e2] at h
        exact ⟨a, bs, rfl, by rw [← bls_ok h2 e2]; exact h1, Res.val (d := .bl (bs.all id)) r rfl h⟩
    · exact h.elim
  · exact h.elim
theorem any_ok : RCD g (rAny g.K) anyD := fun {μ A H xs vs Q} r rx h => by
  unfold anyD at h
  split at h
  · rename_i d
    obtain ⟨v, rfl, rv⟩ := one_of rx
    split at h
    · rename_i ds e
      obtain ⟨a, vs, rfl, h1, h2⟩ := lstOf_ok r e rv
      cases e2 : blsD ds with
      | none => rw [e2] at h; exact h.elim
      | some bs =>
        rw [e2] at h
        exact ⟨a, bs, rfl, by rw [← bls_ok h2 e2]; exact h1, Res.val (d := .bl (bs.any id)) r rfl h⟩
    · exact h.elim
  · exact h.elim
/-- lists of ints -/
def intsD : List D → Option (List Int)
  | [] => some []
  | .int b :: r => (intsD r).map fun bs => b :: bs
  | _ :: _ => none
theorem ints_ok {K : PySem.W.Frag} {A : List Addr} {H : Hp} : ∀ {ds : List D} {vs : List V} {bs : List Int}, RVs K A H ds vs → intsD ds = some bs → vs = bs.map V.int
  | [], _, _, h, e => by cases (show _ = [] from h); cases e; rfl
  | d :: ds, _, _, h, e => by
    simp only [RVs] at h
    obtain ⟨v, ws, rfl, h1, h2⟩ := h
    cases d with
    | int b =>
      cases (show v = _ from h1)
      simp only [intsD, Option.map_eq_some_iff] at e
      obtain ⟨bs, e, rfl⟩ := e
      rw [ints_ok h2 e]; rfl
    | _ => cases e
theorem RVs.ofInts {K : PySem.W.Frag} {A : List Addr} {H : Hp} : ∀ ns : List Int, RVs K A H (ns.map D.int) (ns.map V.int)
  | [] => rfl
  | n :: ns => ⟨_, _, rfl, rfl, RVs.ofInts ns⟩
theorem intsD_map : ∀ ns : List Int, intsD (ns.map D.int) = some ns
  | [] => rfl
  | n :: ns => by simp [intsD, intsD_map ns]
def insI (x : Int) : List Int → List Int
  | [] => [x]
  | y :: ys => if x ≤ y then x :: y :: ys else y :: insI x ys
def sortI : List Int → List Int
  | [] => []
  | x :: xs => insI x (sortI xs)
theorem insI_perm (x : Int) : ∀ ys, (insI x ys).Perm (x :: ys)
  | [] => List.Perm.refl _
  | y :: ys => by
    unfold insI
    split
    · exact List.Perm.refl _
    · exact ((insI_perm x ys).cons y).trans (List.Perm.swap x y ys)
theorem sortI_perm : ∀ xs, (sortI xs).Perm xs
  | [] => List.Perm.refl _
  | x :: xs => (insI_perm x _).trans ((sortI_perm xs).cons x)
theorem insI_sorted (x : Int) : ∀ ys, ys.Pairwise (· ≤ ·) → (insI x ys).Pairwise (· ≤ ·)
  | [], _ => by simp [insI]
  | y :: ys, h => by
    unfold insI
    have h' := List.pairwise_cons.mp h
    split
    · rename_i hxy
      refine List.pairwise_cons.mpr ⟨fun z hz => ?_, h⟩
      rcases List.mem_cons.mp hz with rfl | hz
      · exact hxy
      · exact Int.le_trans hxy (h'.1 z hz)
    · rename_i hxy
      refine List.pairwise_cons.mpr ⟨fun z hz => ?_, insI_sorted x ys h'.2⟩
      rcases List.mem_cons.mp ((insI_perm x ys).mem_iff.mp hz) with rfl | hz
      · omega
      · exact h'.1 z hz
theorem sortI_sorted : ∀ xs, (sortI xs).Pairwise (· ≤ ·)
  | [] => List.Pairwise.nil
  | x :: xs => insI_sorted x _ (sortI_sorted xs)
theorem sorted_uniq : ∀ {xs ys : List Int}, xs.Perm ys → xs.Pairwise (· ≤ ·) → ys.Pairwise (· ≤ ·) → xs = ys
  | xs, ys, h, h1, h2 => List.Perm.eq_of_pairwise (le := (· ≤ ·)) (fun a b _ _ h3 h4 => Int.le_antisymm h3 h4) h1 h2 h
def sortedD : List D → Store → Option (D × Store)
  | [d], μ => match lstOf μ d with
    | some ds => match intsD ds with
      | some ns => if ns.length < 64 then some (.ptr μ.length, μ ++ [.lst ((sortI ns).map .int)]) else none
      | none => none
    | none => none
  | _, _ => none
theorem sorted_ok : RCD g (rSorted g.K) sortedD := fun {μ A H xs vs Q} r rx h => by
  unfold sortedD at h
  split at h
  · rename_i d
    obtain ⟨v, rfl, rv⟩ := one_of rx
    split at h
    · rename_i ds e
      obtain ⟨a, vs, rfl, h1, h2⟩ := lstOf_ok r e rv
      split at h
      · rename_i ns e2
        split at h
        · rename_i hz
          refine ⟨a, ns, rfl, by rw [← ints_ok h2 e2]; exact h1, hz, ?_⟩
          intro ns' p hpm hs hp
          have e3 : ns' = sortI ns := sorted_uniq (hpm.trans (sortI_perm ns).symm) hs (sortI_sorted ns)
          subst e3
          exact Res.lst r (RVs.ofInts _) h p hp
        · exact h.elim
      · exact h.elim
    · exact h.elim
  · exact h.elim
end
end DL

-- DL5
set_option Elab.async false
set_option linter.all false
set_option maxRecDepth 100000
set_option maxHeartbeats 2000000
/-! DL5: what is walked: any list, tuple, text; enumerate and zip of any of these. -/
namespace L2
open PySem PySem.Spec PyProof.Rows
/-- new tuples while G stands: the i-th holds what items tells -/
def JT (G : Hp → Prop) (n : Nat) (items : Hp → Nat → List V → Prop) : It :=
  ⟨fun i H => i < n ∧ G H, fun i H v H' => ∃ T xs, v = .ref T ∧ H T = none ∧ H' = upd H T (.tup xs) ∧ items H i xs, fun i H => i = n ∧ G H⟩
theorem turn_T {P : Program} {w : World} {K : PySem.W.Frag} {elts : List Expr} {kk : Nat} {tpos : Pos} {G : Hp → Prop} {n : Nat} {items : Hp → Nat → List V → Prop} {fpI : List Addr} {I0 : Addr} {stI : Nat → Heap → Prop} (mem : I0 ∈ fpI)
    (obj : ∀ i h, stI i h → ∀ b ∈ fpI, ∃ o, h.get? b = some o ∧ ∀ v, o.data ≠ .cell v)
    (keep : ∀ i h h', stI i h → (∀ b ∈ fpI, ∀ o, h.get? b = some o → h'.get? b = some o) → stI i h')
    (step : ∀ (X : Cx), X.prog = P → X.w = w → X.K = K → X.calm = true → ∀ (i : Nat) (pins : List (Addr × Obj)) (s : Shared) (σ : St) (H : Hp), Inv X pins σ H s → (∀ b ∈ fpI, FpOk X pins H b) → stI i s.heap → G H →
      ∃ fp wr Pt St Mid, WalksT P w X.A I0 fp wr n Pt St Mid ∧ (∀ b ∈ wr, b ∈ fpI) ∧ St i s.heap ∧ (∀ j h, St j h → stI j h) ∧ ∀ vals, Pt i vals → ∃ xs, Vals xs vals.toList ∧ vals.size ≤ sizeLine ∧ items H i xs)
    (self : ∀ (A : Around) (i : Nat) (s : Shared) (Q : Value → Shared → Prop) (E : Value → Shared → Prop), stI i s.heap → Q (.ref I0) s → wpAny (model P w) A (pyIter (.ref I0)) Q E s) :
    Turn P w K (.Tuple elts kk tpos) (JT G n items) fpI I0 stI where
  mem := mem
  obj := obj
  keep := keep
  item := by
    intro X hP hw hK hc i pins s σ H E I hf st hg
    obtain ⟨fp, wr, Pt, St, Mid, Wk, hwr, hst, hSt, hPt⟩ := step X hP hw hK hc i pins s σ H I hf st hg.2
    refine Wk.item i s _ _ hg.1 hst fun T vals h' tk hp hT hIs hM hk => ?_
    refine ⟨.ref T, rfl, Wk.go elts kk tpos i T { s with heap := h', toks := tk } _ _ hM fun h'' hS'' hk2 => ?_⟩
    obtain ⟨xs, rv, hz, hit⟩ := hPt vals hp
    have hT2 : h''.IsTuple T vals := hIs.at fun o e => hk2 T o (Wk.apart i T h' hM) e
    subst hP hw hK
    have new : ObjOk X.prog X.w (upd H T (.tup xs)) h'' T (.tup xs) := ⟨by rw [rv.length, Array.length_toList]; exact hz, vals.toList, rv, by rw [Array.toArray_toList]; exact hT2⟩
    have I1 : Inv X pins σ (upd H T (.tup xs)) { s with heap := h'', toks := tk } :=
      I.turnedNew (ch := fpI) (fun b o hb e => hk2 b o (fun z => hb (hwr b z)) (hk b o (fun z => hb (hwr b z)) e)) hf hT new
    refine ⟨.ref T, _, I1, rfl, ⟨T, xs, rfl, I.hok.fresh hT, rfl, hit⟩, hSt _ _ hS'', fun b hb => ?_⟩
    obtain ⟨o, e, _⟩ := obj i _ st b hb
    rw [upd_ne (Nat.ne_of_lt (Nat.lt_of_lt_of_le (Heap.lt_size e) hT))]
    exact (hf b hb).1
  done := by
    intro X hP hw hK hc i pins s σ H E I hf st hg
    obtain ⟨rfl, hG⟩ := hg
    obtain ⟨fp, wr, Pt, St, Mid, Wk, hwr, hst, hSt, hPt⟩ := step X hP hw hK hc i pins s σ H I hf st hG
    exact Wk.done s _ _ hst fun h' tk hk => ⟨rfl, I.turnedL (t' := tk) (ch := fpI) (fun b o hb e => hk b o (fun z => hb (hwr b z)) e) hf⟩
  self := self
/-- what may be drawn from: a list of n items, a tuple, a text -/
inductive SK where
  | lst (a : Addr) (n : Nat) | tup (a : Addr) (n : Nat) | txt (x : Str)
def SK.holds (H : Hp) : SK → Prop
  | .lst a n => ∃ vs, Rd H a (.lst vs) ∧ vs.length = n
  | .tup a n => ∃ vs, Rd H a (.tup vs) ∧ vs.length = n
  | .txt _ => True
def SK.len : SK → Nat
  | .lst _ n => n
  | .tup _ n => n
  | .txt x => x.cps.size
def SK.item (H : Hp) (i : Nat) (v : V) : SK → Prop
  | .lst a _ => ∃ vs, Rd H a (.lst vs) ∧ vs[i]? = some v
  | .tup a _ => ∃ vs, Rd H a (.tup vs) ∧ vs[i]? = some v
  | .txt x => ∃ c, x.cps[i]? = some c ∧ v = .str ⟨#[c]⟩
def SK.val : SK → V
  | .lst a _ => .ref a
  | .tup a _ => .ref a
  | .txt x => .str x
def SK.it (it : Addr) (i : Nat) (h : Heap) : SK → Prop
  | .lst a _ => h.IsListIter it a i
  | .tup a _ => h.IsTupleIter it a i
  | .txt x => ∃ t, h.IsStrIter it (strIterType x) x t i
theorem SK.live {k : SK} {it : Addr} {i : Nat} {h : Heap} (st : k.it it i h) : ∃ o, h.get? it = some o ∧ ∀ v, o.data ≠ .cell v := by
  cases k with
  | lst a vs => obtain ⟨o, ho, hc, hd⟩ := st; exact ⟨o, ho, fun v q => by rw [hd] at q; cases q⟩
  | tup a vs => obtain ⟨o, ho, hc, hd⟩ := st; exact ⟨o, ho, fun v q => by rw [hd] at q; cases q⟩
  | txt x => obtain ⟨t, o, ho, hc, hd⟩ := st; exact ⟨o, ho, fun v q => by rw [hd] at q; cases q⟩
theorem SK.keep {k : SK} {it : Addr} {i : Nat} {h h' : Heap} (st : k.it it i h) (hk : ∀ o, h.get? it = some o → h'.get? it = some o) : k.it it i h' := by
  cases k with
  | lst a vs => obtain ⟨o, ho, r⟩ := st; exact ⟨o, hk o ho, r⟩
  | tup a vs => obtain ⟨o, ho, r⟩ := st; exact ⟨o, hk o ho, r⟩
  | txt x => obtain ⟨t, o, ho, r⟩ := st; exact ⟨t, o, hk o ho, r⟩
section
variable {X : Cx} {pins : List (Addr × Obj)} {σ : St} {H : Hp} {s : Shared}
theorem SK.draws (I : Inv X pins σ H s) {A : Around} (hh : A.handled = none) (k : SK) (hk : k.holds H) {it : Addr} (hi : H it = none) {i : Nat} (st : k.it it i s.heap) :
    ∃ src P St, Draws X.prog X.w A it (it :: src) k.len P St ∧ St i s.heap ∧ (∀ b ∈ src, H b ≠ none) ∧ (∀ j h, St j h → k.it it j h) ∧ ∀ j v, P j v → ∃ x, k.item H j x ∧ RelV x v := by
  cases k with
  | lst a n =>
    obtain ⟨vs, hk, rfl⟩ := hk
    have ha : H a ≠ none := by rcases hk with h | ⟨o, h⟩ <;> rw [h] <;> exact fun z => nomatch z
    obtain ⟨its, rv, p, hz⟩ := I.list (show SqL X.K H a vs from .inl hk)
    have e : its.toArray.size = vs.length := by rw [List.size_toArray]; exact rv.length.symm
    have D := Draws.list (prog := X.prog) (w := X.w) hh it a (fun z => ha (by rw [z]; exact hi)) its.toArray
    rw [e] at D
    refine ⟨[a], _, _, D, ⟨st, p.isList⟩, fun b hb => by rw [List.mem_singleton.mp hb]; exact ha, fun j h q => q.1, fun j v q => ?_⟩
    have hj : j < vs.length := by
      have := (Array.getElem?_eq_some_iff.mp q).1
      rw [← e]; exact this
    obtain ⟨u, hu, ru⟩ := rv.get (List.getElem?_eq_getElem hj)
    have q' : its[j]? = some v := by simpa using q
    rw [hu] at q'; cases q'
    exact ⟨_, ⟨vs, hk, List.getElem?_eq_getElem hj⟩, ru⟩
  | tup a n =>
    obtain ⟨vs, hk, rfl⟩ := hk
    have ha : H a ≠ none := by rcases hk with h | ⟨o, h⟩ <;> rw [h] <;> exact fun z => nomatch z
    obtain ⟨its, rv, p, hz⟩ := I.tuple (show SqT X.K H a vs from .inl hk)
    have e : its.toArray.size = vs.length := by rw [List.size_toArray]; exact rv.length.symm
    have D := Draws.tuple (prog := X.prog) (w := X.w) hh it a (fun z => ha (by rw [z]; exact hi)) its.toArray
    rw [e] at D
    refine ⟨[a], _, _, D, ⟨st, p⟩, fun b hb => by rw [List.mem_singleton.mp hb]; exact ha, fun j h q => q.1, fun j v q => ?_⟩
    have hj : j < vs.length := by
      have := (Array.getElem?_eq_some_iff.mp q).1
      rw [← e]; exact this
    obtain ⟨u, hu, ru⟩ := rv.get (List.getElem?_eq_getElem hj)
    have q' : its[j]? = some v := by simpa using q
    rw [hu] at q'; cases q'
    exact ⟨_, ⟨vs, hk, List.getElem?_eq_getElem hj⟩, ru⟩
  | txt x =>
    obtain ⟨t, st⟩ := st
    have D := Draws.text (prog := X.prog) (w := X.w) hh it x t
    refine ⟨[], _, _, D, st, by simp, fun j h q => ⟨t, q⟩, fun j v q => ?_⟩
    obtain ⟨c, u, hc, rfl⟩ := q
    exact ⟨.str ⟨#[c]⟩, ⟨c, hc, rfl⟩, ⟨u, rfl⟩⟩
/-- the iterator of such a thing is made -/
theorem SK.begins (I : Inv X pins σ H s) (k : SK) (hk : k.holds H) {v : Value} (r : RelV k.val v) : ∃ o Hh, Begins v o Hh ∧ Hh s.heap ∧ ∀ h it, h.get? it = some o → k.it it 0 h := by
  cases k with
  | lst a n =>
    obtain ⟨vs, hk, _⟩ := hk
    cases r
    obtain ⟨its, rv, p, hz⟩ := I.list (show SqL X.K H a vs from .inl hk)
    exact ⟨_, _, begins_list a its.toArray, p.isList, fun h it e => ⟨_, e, rfl, rfl⟩⟩
  | tup a n =>
    obtain ⟨vs, hk, _⟩ := hk
    cases r
    obtain ⟨its, rv, p, hz⟩ := I.tuple (show SqT X.K H a vs from .inl hk)
    exact ⟨_, _, begins_tuple a its.toArray, p, fun h it e => ⟨_, e, rfl, rfl⟩⟩
  | txt x =>
    obtain ⟨t, rfl⟩ := r
    exact ⟨_, _, begins_text x t, trivial, fun h it e => ⟨t, _, e, rfl, rfl⟩⟩
end
/-! ### enumerate(x) -/
theorem meets_enumerate_new1 {v : Value} {o : Obj} {H : Heap → Prop} (B : Begins v o H) :
    Meets (Builtin.«enumerate.__new__» ⟨[.type "enumerate", v], []⟩) (fun _ R s => H s.heap ∧
      R (.ok (.ret (.ref (s.heap.push o).objs.size))) { s with heap := (s.heap.push o).push { cls := .type "enumerate", data := .fields #[.none, .bool false, .ref s.heap.objs.size, rawInt 0, .none, .none] } }) :=
  .of_wp fun prog w A R s h => by
    obtain ⟨hp, g, d, tk, os⟩ := s; obtain ⟨h1, h⟩ := h
    have hsub := sub_enumerate
    have q1 : ∀ {A' : Around} {E : Value → Shared → Prop} {Q : Value → Shared → Prop}, Q (.ref hp.objs.size) ⟨hp.push o, g, d, tk, os⟩ → wpAny (model prog w) A' (pyIter v) Q E ⟨hp, g, d, tk, os⟩ :=
      fun q => B.iter prog w _ _ ⟨hp, g, d, tk, os⟩ _ h1 q
    wp_walk using q1
    refine wpAny_stack_any fun st => wpAny_pure ?_
    split
    · rename_i c _ _ _ _ _
      cases (c == Value.type "enumerate")
      · wp_walk using q1
        exact ⟨_, rfl, h⟩
      · wp_walk using q1
        exact ⟨_, rfl, h⟩
    · wp_walk using q1
      exact ⟨_, rfl, h⟩
theorem enum_begins1 {prog : Program} {w : World} {A : Around} {E : Value → Shared → Prop} {s : Shared} {v : Value} {o : Obj} {H : Heap → Prop} {Q : Value → Shared → Prop} (B : Begins v o H) (h1 : H s.heap)
    (h : ∀ h', IsEnum h' (s.heap.objs.size + 1) s.heap.objs.size 0 .none → h'.get? s.heap.objs.size = some o → h'.objs.size = s.heap.objs.size + 2 →
      (∀ b o, s.heap.get? b = some o → h'.get? b = some o) → Q (.ref (s.heap.objs.size + 1)) { s with heap := h' }) :
    wpAny (model prog w) A (call (.type "enumerate") [v]) Q E s := by
  refine callType_new F.called_enumerate (by decide) (F.typeCall_enumerate_1 _) (F.newCall_enumerate_1 _) (fun obj => F.args_object_init_2 obj _) F.entry_enumerate_new
    (meets_enumerate_new1 B) ⟨h1, ?_⟩
  have hz : (s.heap.push o).objs.size = s.heap.objs.size + 1 := Heap.size_push ..
  show _ ∧ _
  rw [hz]
  have he : IsEnum ((s.heap.push o).push { cls := .type "enumerate", data := .fields #[.none, .bool false, .ref s.heap.objs.size, rawInt 0, .none, .none] }) (s.heap.objs.size + 1) s.heap.objs.size 0 .none := by
    have := Heap.get?_push_size (s.heap.push o) (o := { cls := .type "enumerate", data := .fields #[.none, .bool false, .ref s.heap.objs.size, rawInt 0, .none, .none] }) rfl
    rw [hz] at this; exact this
  refine ⟨⟨_, he, rfl⟩, h _ he (Heap.get?_push_of_some _ (Heap.get?_push_size _ B.free)) (by rw [Heap.size_push, hz]) fun b o x => Heap.get?_push_of_some _ (Heap.get?_push_of_some _ x)⟩
theorem turn_enumS {P : Program} {w : World} {K : PySem.W.Frag} {elts : List Expr} {kk : Nat} {tpos : Pos} (k : SK) (e it : Addr) :
    Turn P w K (.Tuple elts kk tpos) (JT (fun H => k.holds H) k.len (fun H i xs => ∃ x, k.item H i x ∧ xs = [.int (i : Nat), x])) [e, it] e (fun i h => (∃ old, IsEnum h e it ((i : Nat) : Int) old) ∧ k.it it i h ∧ e ≠ it) := by
  refine turn_T (by simp) (fun i h st b hb => ?_) (fun i h h' st hk => ?_) (fun X hP hw hK hc i pins s σ H I hf st hG => ?_) (fun A i s Q E st h => ?_)
  · obtain ⟨⟨old, he⟩, hi, _⟩ := st
    have e' : b = e ∨ b = it := by simpa using hb
    rcases e' with z | z
    · rw [z]; exact ⟨_, he, fun v q => nomatch q⟩
    · rw [z]; exact SK.live hi
  · obtain ⟨⟨old, he⟩, hi, hne⟩ := st
    exact ⟨⟨old, hk e (by simp) _ he⟩, SK.keep hi fun o q => hk it (by simp) o q, hne⟩
  · obtain ⟨⟨old, he⟩, hi, hne⟩ := st
    subst hP hw hK
    have fe := (hf e (by simp)).1
    have fi := (hf it (by simp)).1
    obtain ⟨src, Pd, St, Dr, hS, hsrc, hk, hP⟩ := k.draws I (A := X.A.in1) (I.ok.hd hc) hG fi hi
    have hef : e ∉ it :: src := fun z => by
      rcases List.mem_cons.mp z with z | z
      · exact hne z
      · exact hsrc e z fe
    refine ⟨_, _, _, _, _, WalksT.enumFrom 0 Dr e hne hef List.mem_cons_self, fun b hb => by simpa using hb, ⟨⟨old, by simpa using he⟩, hS⟩, fun j h q => ?_, fun vals q => ?_⟩
    · obtain ⟨⟨old, q1⟩, q2⟩ := q
      exact ⟨⟨old, by simpa using q1⟩, hk j h q2, hne⟩
    · obtain ⟨t, x, hx, rfl⟩ := q
      obtain ⟨y, hy, ry⟩ := hP i x hx
      exact ⟨[.int (i : Nat), y], .cons ⟨t, by simp⟩ (.cons ry .nil), by show 2 ≤ sizeLine; decide, y, hy, rfl⟩
  · obtain ⟨⟨_, he⟩, _⟩ := st
    exact wpAny_pyIter_enum he h
def iEnumS (ta : TA) : TI := fun σ H R => ta σ H fun vs H1 => ∃ k : SK, vs = [k.val] ∧ k.holds H1 ∧ R (JT (fun H => k.holds H) k.len (fun H i xs => ∃ x, k.item H i x ∧ xs = [.int (i : Nat), x])) H1
theorem pi_enumS {X : Cx} {e : Expr} {ta : TA} {p pos tpos : Pos} {elts : List Expr} {kk : Nat} (hg : Gl X "enumerate") (hm : X.mg "enumerate" = none) (ha : PA X [e] ta) (hs : starEach [e] X.env = [(false, eval e X.env)] := by rfl) :
    PI X (.Tuple elts kk tpos) (.Call (.Name "enumerate" p) [e] [] pos) (iEnumS ta) := by
  refine ⟨fun pins s σ H R I h => ?_⟩
  refine Call_ (ld_blt I hg hm boot_enumerate (PyProof.Rows.callWith_type1 (thn (ha.run pos pins s σ H _ I h) fun us s1 ⟨vs, H1, I1, r1, q1⟩ => ?_) hs rfl))
  obtain ⟨k, rfl, hk, q⟩ := q1
  obtain ⟨u, rfl, ru⟩ := vals1 r1
  obtain ⟨o, Hh, B, h1, hit⟩ := k.begins I1 hk ru
  refine enum_begins1 B h1 fun h' he ho hsz hkk => wpAny_pyIter_enum he ?_
  have I2 : Inv X pins σ H1 { s1 with heap := h' } := I1.kept (t' := s1.toks) hkk
  refine ⟨s1.heap.objs.size + 1, [s1.heap.objs.size + 1, s1.heap.objs.size], _, _, H1, rfl, I2, turn_enumS k (s1.heap.objs.size + 1) s1.heap.objs.size, ⟨⟨.none, he⟩, hit _ _ ho, Nat.succ_ne_self _⟩, fun b hb => ?_, q⟩
  have e' : b = s1.heap.objs.size + 1 ∨ b = s1.heap.objs.size := by simpa using hb
  have hle : s1.heap.objs.size ≤ b := by
    rcases e' with z | z
    · rw [z]; exact Nat.le_add_right _ _
    · rw [z]; exact Nat.le_refl _
  exact I1.fpOk hle (I1.hok.fresh hle)
/-! ### zip(x, y) -/
structure Zp2 (z TI TO i1 i2 : Addr) : Prop where
  a : TI ≠ z
  b : TO ≠ z
  c : TI ≠ TO
  d : TI ≠ i1
  e : TI ≠ i2
  f : z ≠ i1
  g : z ≠ i2
  h : TO ≠ i1
  i : TO ≠ i2
  j : i1 ≠ i2
theorem turn_zipS {P : Program} {w : World} {K : PySem.W.Frag} {elts : List Expr} {kk : Nat} {tpos : Pos} (k1 k2 : SK) {z TI TO i1 i2 : Addr} (Z : Zp2 z TI TO i1 i2) :
    Turn P w K (.Tuple elts kk tpos) (JT (fun H => k1.holds H ∧ k2.holds H) (min k1.len k2.len) (fun H i xs => ∃ x y, k1.item H i x ∧ k2.item H i y ∧ xs = [x, y])) [z, TI, TO, i1, i2] z
      (fun i h => IsZip h z TI TO .none ∧ IsTupOf2 h TI (.ref i1) (.ref i2) ∧ (∃ a1 a2, IsTupOf2 h TO a1 a2) ∧ k1.it i1 i h ∧ k2.it i2 i h) := by
  refine turn_T (by simp) (fun i h st b hb => ?_) (fun i h h' st hk => ?_) (fun X hP hw hK hc i pins s σ H I hf st hG => ?_) (fun A i s Q E st h => ?_)
  · obtain ⟨hz, hTI, ⟨a1, a2, hTO⟩, h1, h2⟩ := st
    have e' : b = z ∨ b = TI ∨ b = TO ∨ b = i1 ∨ b = i2 := by simpa using hb
    rcases e' with q | q | q | q | q
    · rw [q]; exact ⟨_, hz, fun v q => nomatch q⟩
    · rw [q]; exact ⟨_, hTI, fun v q => nomatch q⟩
    · rw [q]; exact ⟨_, hTO, fun v q => nomatch q⟩
    · rw [q]; exact SK.live h1
    · rw [q]; exact SK.live h2
  · obtain ⟨hz, hTI, ⟨a1, a2, hTO⟩, h1, h2⟩ := st
    exact ⟨hk z (by simp) _ hz, hk TI (by simp) _ hTI, ⟨a1, a2, hk TO (by simp) _ hTO⟩, SK.keep h1 fun o q => hk i1 (by simp) o q, SK.keep h2 fun o q => hk i2 (by simp) o q⟩
  · obtain ⟨hz, hTI, hTO, h1, h2⟩ := st
    subst hP hw hK
    obtain ⟨src1, Pd1, St1, Dr1, hS1, hsrc1, hk1, hP1⟩ := k1.draws I (A := X.A.in1) (I.ok.hd hc) hG.1 (hf i1 (by simp)).1 h1
    obtain ⟨src2, Pd2, St2, Dr2, hS2, hsrc2, hk2, hP2⟩ := k2.draws I (A := X.A.in1) (I.ok.hd hc) hG.2 (hf i2 (by simp)).1 h2
    have n1 : ∀ b ∈ [z, TI, TO, i1, i2], b ≠ i1 → b ∉ i1 :: src1 := fun b hb h q => by
      rcases List.mem_cons.mp q with q | q
      · exact h q
      · exact hsrc1 b q (hf b hb).1
    have n2 : ∀ b ∈ [z, TI, TO, i1, i2], b ≠ i2 → b ∉ i2 :: src2 := fun b hb h q => by
      rcases List.mem_cons.mp q with q | q
      · exact h q
      · exact hsrc2 b q (hf b hb).1
    have S : ZipSep2 z TI TO i1 i2 (i1 :: src1) (i2 :: src2) :=
      { TIz := Z.a, TOz := Z.b, TITO := Z.c, TIi1 := Z.d, mem1 := List.mem_cons_self, zf1 := n1 z (by simp) Z.f, Tf1 := n1 TO (by simp) Z.h, TIi2 := Z.e, mem2 := List.mem_cons_self, zf2 := n2 z (by simp) Z.g, Tf2 := n2 TO (by simp) Z.i,
        sep1_2 := n2 i1 (by simp) Z.j, sep2_1 := n1 i2 (by simp) Z.j.symm }
    refine ⟨_, _, _, _, _, WalksT.zipD2 S Dr1 Dr2, fun b hb => ?_, ⟨hz, hTI, hTO, hS1, hS2⟩, fun j h q => ?_, fun vals q => ?_⟩
    · have e' : b = z ∨ b = TO ∨ b = i1 ∨ b = i2 := by simpa using hb
      rcases e' with q | q | q | q <;> simp [q]
    · obtain ⟨q1, q2, q3, q4, q5⟩ := q
      exact ⟨q1, q2, q3, hk1 j h q4, hk2 j h q5⟩
    · obtain ⟨x, y, hx, hy, rfl⟩ := q
      obtain ⟨x', hx', rx⟩ := hP1 i x hx
      obtain ⟨y', hy', ry⟩ := hP2 i y hy
      exact ⟨[x', y'], .cons rx (.cons ry .nil), by show 2 ≤ sizeLine; decide, x', y', hx', hy', rfl⟩
  · exact wpAny_pyIter_zip st.1 h
def iZipS (ta : TA) : TI := fun σ H R => ta σ H fun vs H1 => ∃ k1 k2 : SK, vs = [k1.val, k2.val] ∧ k1.holds H1 ∧ k2.holds H1 ∧ R (JT (fun H => k1.holds H ∧ k2.holds H) (min k1.len k2.len) (fun H i xs => ∃ x y, k1.item H i x ∧ k2.item H i y ∧ xs = [x, y])) H1
theorem pi_zipS {X : Cx} {e e2 : Expr} {ta : TA} {p pos tpos : Pos} {elts : List Expr} {kk : Nat} (hg : Gl X "zip") (hm : X.mg "zip" = none) (ha : PA X [e, e2] ta)
    (hs : starEach [e, e2] X.env = (false, eval e X.env) :: starEach [e2] X.env := by rfl) (hpl : (backTo pos (starEach [e2] X.env)).any (·.1) = false := by rfl) :
    PI X (.Tuple elts kk tpos) (.Call (.Name "zip" p) [e, e2] [] pos) (iZipS ta) := by
  refine ⟨fun pins s σ H R I h => ?_⟩
  refine Call_ (ld_blt I hg hm PyProof.Rows.boot_zip (PyProof.Rows.callWith_type1 (thn (ha.run pos pins s σ H _ I h) fun us s1 ⟨vs, H1, I1, r1, q1⟩ => ?_) hs hpl))
  obtain ⟨k1, k2, rfl, hk1, hk2, q⟩ := q1
  obtain ⟨u, u', rfl, ru, ru'⟩ := vals2 r1
  obtain ⟨o, Hh, B, h1, hit⟩ := k1.begins I1 hk1 ru
  obtain ⟨o', Hh', B', h1', hit'⟩ := k2.begins I1 hk2 ru'
  refine zip_begins2 B B' h1 h1' fun h' hz hTI hTO ho ho' hsz hkk => wpAny_pyIter_zip hz ?_
  have I2 : Inv X pins σ H1 { s1 with heap := h' } := I1.kept (t' := s1.toks) hkk
  generalize hN : s1.heap.objs.size = N at hz hTI hTO ho ho' hsz
  have Z : Zp2 (N + 4) (N + 2) (N + 3) N (N + 1) := by
    have q : ∀ n m : Nat, n ≠ m → ∀ N : Nat, N + n ≠ N + m := fun n m h N => by omega
    exact ⟨q 2 4 (by decide) N, q 3 4 (by decide) N, q 2 3 (by decide) N, q 2 0 (by decide) N, q 2 1 (by decide) N, q 4 0 (by decide) N, q 4 1 (by decide) N, q 3 0 (by decide) N, q 3 1 (by decide) N, q 0 1 (by decide) N⟩
  refine ⟨N + 4, [N + 4, N + 2, N + 3, N, N + 1], _, _, H1, rfl, I2, turn_zipS k1 k2 Z, ⟨hz, hTI, ⟨_, _, hTO⟩, hit _ _ ho, hit' _ _ ho'⟩, fun c hcm => ?_, q⟩
  have e' : c = N + 4 ∨ c = N + 2 ∨ c = N + 3 ∨ c = N ∨ c = N + 1 := by simpa using hcm
  have hle : s1.heap.objs.size ≤ c := by
    rw [hN]
    rcases e' with z | z | z | z | z
    · rw [z]; exact Nat.le_add_right _ _
    · rw [z]; exact Nat.le_add_right _ _
    · rw [z]; exact Nat.le_add_right _ _
    · rw [z]; exact Nat.le_refl _
    · rw [z]; exact Nat.le_add_right _ _
  exact I1.fpOk hle (I1.hok.fresh hle)
/-! ### a list, a tuple, a text -/
def iAny (K : PySem.W.Frag) (te : TE) : TI := fun σ H R => te σ H fun x H1 => (∃ a, x = .ref a ∧ (∃ xs, SqL K H1 a xs) ∧ R (Itl K a) H1) ∨ (∃ a, x = .ref a ∧ (∃ xs, SqT K H1 a xs) ∧ R (Itt K a) H1) ∨ ∃ z, x = .str z ∧ R (Its z) H1
theorem pi_any {X : Cx} {tg l : Expr} {tl : TE} (hl : PE X l tl) : PI X tg l (iAny X.K tl) := by
  refine ⟨fun pins s σ H R I h => ?_⟩
  refine thn (hl.run pins s σ H _ I h) fun v s1 ⟨x, H1, I1, r1, q1⟩ => ?_
  rcases q1 with ⟨a, e, ⟨xs, hq⟩, q⟩ | ⟨a, e, ⟨xs, hq⟩, q⟩ | ⟨x, e, q⟩
  · subst e
    cases r1
    obtain ⟨its, rv, p, hz⟩ := I1.list hq
    refine wpAny_pyIter_list p.isList ?_
    refine ⟨s1.heap.objs.size, [s1.heap.objs.size], _, _, H1, rfl, I1.kept (t' := s1.toks) fun b o e => Heap.get?_push_of_some _ e, turn_list a _, ⟨_, Heap.get?_push_size _ rfl, rfl, rfl⟩, fun b hb => ?_, q⟩
    have e : b = s1.heap.objs.size := by simpa using hb
    subst e
    exact I1.fpOk (Nat.le_refl _) (I1.hok.fresh (Nat.le_refl _))
  · subst e
    cases r1
    obtain ⟨its, rv, p, hz⟩ := I1.tuple hq
    refine wpAny_pyIter_tuple (show s1.heap.IsTuple a its.toArray from p) ?_
    refine ⟨s1.heap.objs.size, [s1.heap.objs.size], _, _, H1, rfl, I1.kept (t' := s1.toks) fun b o e => Heap.get?_push_of_some _ e, turn_tuple a _, ⟨_, Heap.get?_push_size _ rfl, rfl, rfl⟩, fun b hb => ?_, q⟩
    have e : b = s1.heap.objs.size := by simpa using hb
    subst e
    exact I1.fpOk (Nat.le_refl _) (I1.hok.fresh (Nat.le_refl _))
  · subst e
    obtain ⟨t, rfl⟩ := r1
    cases ha : x.cps.all (· < 128)
    · exact wpAny_pyIter_wide ha (pi_one (tk := s1.toks) I1 _ (turn_str _ x t "str_iterator" (.inr rfl)) ⟨_, Heap.get?_push_size _ rfl, rfl, rfl⟩ q)
    · exact wpAny_pyIter_ascii ha (pi_one (tk := s1.toks) I1 _ (turn_str _ x t "str_ascii_iterator" (.inl rfl)) ⟨_, Heap.get?_push_size _ rfl, rfl, rfl⟩ q)
end L2

-- DL6
set_option Elab.async false
set_option linter.all false
set_option maxRecDepth 100000
set_option maxHeartbeats 2000000
/-! DL6: statements, loops, comprehensions, defs and their calls, objects. -/
namespace L2
open PySem PySem.Spec PyProof.Rows
section
variable {X : Cx} {CX : CXT} {k : Nat} {f C : Addr} {fd : FuncData} {ps : List Str} {sp : Sp} {E : St → XK} {x m : Str} {p pos apos : Pos} {e o : Expr} {es : List Expr} {ta : TE} {t : TA}
theorem pe_callQ0 (F : FnOk X.prog X.w X.K X.mg X.base CX k f fd ps sp) (hr : Room k X.A) (hg : Gl X x) (hm : X.mg x = some (.ref f)) (hk : PySem.W.keepIn X.K (.ref f) = true) (hb : Binds X.K fd ps []) (hx : ∀ σ, PassesAt CX X σ (E σ))
    (hdb : (x == ("__debug__" : Str)) = false := by decide) : PE X (.Call (.Name x p) [] [] pos) (tCallS sp E tNil) := by
  refine ⟨fun pins s σ H Q I h => ?_⟩
  refine wpAny_Call_Name_kw (ld_glob I hg hm ?_ hdb)
  exact PySem.W.callWith_K0 I.kIn hk (run_fnS (us := []) F hr hb (hx σ) I .nil h)
def tMethQ (C : Addr) (m : Str) (sp : Sp) (E : St → XK) (ta : TE) (t : TA) : TE := fun σ H Q => ta σ H fun x H1 => ∃ a dx fs, x = .ref a ∧ H1 a = some (.ins C dx fs) ∧ fs.lookup m = none ∧ t σ H1 fun vs H2 => sp (x :: vs) H2 Q (E σ)
theorem pe_methQ {pl : Sem Bool} (he : PE X o ta) (c : Cls X.K C) (hm : Meth X.K C m f) (F : FnOk X.prog X.w X.K X.mg X.base CX k f fd ps sp) (hr : Room k X.A) (hb : Binds X.K fd ps []) (hx : ∀ σ, PassesAt CX X σ (E σ)) (ha : PA X (e :: es) t)
    (hst : starEach (e :: es) X.env = (false, eval e X.env) :: starEach es X.env := by rfl) (hpl : (backTo pos (starEach es X.env)).any (·.1) = false := by rfl)
    (ht : eval (.Call (.Attribute o m apos) (e :: es) [] pos) X.env = (do
      let ov ← eval o X.env
      standAt apos.atName
      let (f, first) ← holding [ov] (getMethod ov m pl)
      callWith pos f first (backTo pos (starEach (e :: es) X.env)) (backToKw pos (keywordEach [] X.env))) := by rfl) :
    PE X (.Call (.Attribute o m apos) (e :: es) [] pos) (tMethQ C m sp E ta t) := by
  refine ⟨fun pins s σ H Q I h => ?_⟩
  refine PySem.W.methodCall_KW (pl := pl) (thn (he.run pins s σ H _ I h) fun u s1 ⟨x, H1, I1, rx, a, dx, fs, ex, ea, l, q⟩ => ?_) ht
  subst ex
  obtain rfl : u = Value.ref a := rx
  refine getmeth_ok I1 ea c hm l ?_
  refine PySem.W.callWith_K (first := [.ref a]) (h₀ := X.base) I.ok.mod.kin hm.kp (thn (ha.run pos pins s1 σ H1 _ I1 q) fun us s2 ⟨vs, H2, I2, r, q2⟩ => ⟨I2.kIn, ?_⟩) hst hpl
  exact run_fnS (us := .ref a :: us) (vs := .ref a :: vs) F hr hb (hx σ) I2 (.cons rfl r) q2
theorem pe_methQ0 {pl : Sem Bool} (he : PE X o ta) (c : Cls X.K C) (hm : Meth X.K C m f) (F : FnOk X.prog X.w X.K X.mg X.base CX k f fd ps sp) (hr : Room k X.A) (hb : Binds X.K fd ps []) (hx : ∀ σ, PassesAt CX X σ (E σ))
    (ht : eval (.Call (.Attribute o m apos) [] [] pos) X.env = (do
      let ov ← eval o X.env
      standAt apos.atName
      let (f, first) ← holding [ov] (getMethod ov m pl)
      callWith pos f first (backTo pos (starEach [] X.env)) (backToKw pos (keywordEach [] X.env))) := by rfl) :
    PE X (.Call (.Attribute o m apos) [] [] pos) (tMethQ C m sp E ta tNil) := by
  refine ⟨fun pins s σ H Q I h => ?_⟩
  refine PySem.W.methodCall_KW (pl := pl) (thn (he.run pins s σ H _ I h) fun u s1 ⟨x, H1, I1, rx, a, dx, fs, ex, ea, l, q⟩ => ?_) ht
  subst ex
  obtain rfl : u = Value.ref a := rx
  refine getmeth_ok I1 ea c hm l ?_
  exact PySem.W.callWith_K0 (first := [.ref a]) I1.kIn hm.kp (run_fnS (us := [.ref a]) (vs := [.ref a]) F hr hb (hx σ) I1 (.cons rfl .nil) q)
def tMakeQ (C : Addr) (sp : Sp) (E : St → XK) (t : TA) : TE := fun σ H Q => t σ H fun vs H1 => ∀ x dx, H1 x = none → H1 dx = none → dx ≠ x →
  sp (.ref x :: vs) (upd (upd H1 dx (.own x)) x (.ins C dx [])) (fun v H2 => v = .non ∧ Q (.ref x) H2) (E σ)
theorem run_makeQ {pins : List (Addr × Obj)} {σ : St} {H : Hp} {s : Shared} {Q : VK} {us : List Value} {vs : List V} (M : Mk X.K C f) (F : FnOk X.prog X.w X.K X.mg X.base CX k f fd ps sp) (hr : Room (k + 1) X.A) (hb : Binds X.K fd ps [])
    (hx : PassesAt CX X σ (E σ)) (I : Inv X pins σ H s) (r : Vals vs us)
    (h : ∀ x dx, H x = none → H dx = none → dx ≠ x → sp (.ref x :: vs) (upd (upd H dx (.own x)) x (.ins C dx [])) (fun v H2 => v = .non ∧ Q (.ref x) H2) (E σ)) :
    wpAny (model X.prog X.w) X.A (call (.ref C) us) (EP X pins σ Q) X.xe s := by
  have hq := h (s.heap.objs.size + 1) s.heap.objs.size (I.hok.fresh (Nat.le_succ _)) (I.hok.fresh (Nat.le_refl _)) (Nat.ne_of_lt (Nat.lt_succ_self _))
  have I2 := Inv.made (C := C) I
  have r2 : Vals (V.ref (s.heap.objs.size + 1) :: vs) (Value.ref (s.heap.objs.size + 1) :: us) := .cons rfl r
  have hl : (Value.ref (s.heap.objs.size + 1) :: us).length = ps.length := by
    have e := r2.length
    rw [F.len _ _ _ _ hq] at e
    exact e.symm
  have b := hb { s with heap := (s.heap.push { cls := .type "dict", data := .dict #[] }).push (PySem.W.instObj C s.heap.objs.size) } (Value.ref (s.heap.objs.size + 1) :: us) I2.kIn (by rw [List.append_nil]; exact hl)
  rw [List.append_nil] at b
  refine wpAny_call (make_map (f := f) I.kIn M.makes M.init (beq_iff_eq.mp M.fn) (codeAny_mono (F.run _ X.stack _ _ ⟨Value.ref (s.heap.objs.size + 1) :: us, []⟩ (Value.ref (s.heap.objs.size + 1) :: us) _ _ (E σ) (hr.make C us [])
    (I2.env0.make C us []) b r2 hq) fun r s' hq' => ?_))
  cases r with
  | error e => exact hx pins _ _ e s' I2 hq'
  | ok fl =>
    cases fl with
    | ret u =>
      obtain ⟨v, H', I3, rv, ev, q3⟩ := I2.after hq'
      subst ev
      exact ⟨rv, ⟨V.ref (s.heap.objs.size + 1), H', I3, rfl, q3⟩⟩
    | next => exact False.elim hq'
    | brk => exact False.elim hq'
    | cont => exact False.elim hq'
theorem pe_makeQ (M : Mk X.K C f) (F : FnOk X.prog X.w X.K X.mg X.base CX k f fd ps sp) (hr : Room (k + 1) X.A) (hg : Gl X x) (hm : X.mg x = some (.ref C)) (hb : Binds X.K fd ps []) (hx : ∀ σ, PassesAt CX X σ (E σ))
    (ha : PA X (e :: es) t) (hdb : (x == ("__debug__" : Str)) = false := by decide) (he : starEach (e :: es) X.env = (false, eval e X.env) :: starEach es X.env := by rfl) (hpl : (backTo pos (starEach es X.env)).any (·.1) = false := by rfl) :
    PE X (.Call (.Name x p) (e :: es) [] pos) (tMakeQ C sp E t) := by
  refine ⟨fun pins s σ H Q I h => ?_⟩
  refine wpAny_Call_Name_kw (ld_glob I hg hm ?_ hdb)
  refine PySem.W.callWith_K (h₀ := X.base) I.ok.mod.kin M.kp (thn (ha.run pos pins s σ H _ I h) fun us s1 ⟨vs, H1, I1, r, q⟩ => ⟨I1.kIn, ?_⟩) he hpl
  exact run_makeQ M F hr hb (hx σ) I1 r q
theorem pe_makeQ0 (M : Mk X.K C f) (F : FnOk X.prog X.w X.K X.mg X.base CX k f fd ps sp) (hr : Room (k + 1) X.A) (hg : Gl X x) (hm : X.mg x = some (.ref C)) (hb : Binds X.K fd ps []) (hx : ∀ σ, PassesAt CX X σ (E σ))
    (hdb : (x == ("__debug__" : Str)) = false := by decide) : PE X (.Call (.Name x p) [] [] pos) (tMakeQ C sp E tNil) := by
  refine ⟨fun pins s σ H Q I h => ?_⟩
  refine wpAny_Call_Name_kw (ld_glob I hg hm ?_ hdb)
  exact PySem.W.callWith_K0 I.kIn M.kp (run_makeQ (us := []) M F hr hb (hx σ) I .nil h)
theorem PG.or {tg : Expr} {t t' : TG} (h : PG X tg t) (h' : PG X tg t') : PG X tg (fun v σ H Q => t v σ H Q ∨ t' v σ H Q) := ⟨fun pins s σ H x v Q I r q => by
  rcases q with q | q
  · exact h.run pins s σ H x v Q I r q
  · exact h'.run pins s σ H x v Q I r q⟩
theorem PSet.or {t t' : TSet} (h : PSet X t) (h' : PSet X t') : PSet X (fun o i v H Q => t o i v H Q ∨ t' o i v H Q) := fun pins s σ H o i v ov iv u Q I r1 r2 r3 q => by
  rcases q with q | q
  · exact h pins s σ H o i v ov iv u Q I r1 r2 r3 q
  · exact h' pins s σ H o i v ov iv u Q I r1 r2 r3 q
end
end L2
namespace DL
open PySem L2
variable [Tab]
/-! ### statements -/
abbrev S := Env → Store → SOut
def PSo (g : G) (W : WX) (A : List Addr) (H : Hp) (o : SOut) (D : Ends) : Prop := match o with
  | .nx ρ μ => ∀ σ' A' H', Ext A H A' H' → Rep g A' μ H' → RS g.K A' H' ρ σ' → D.nx σ' H'
  | .bk ρ μ => ∀ σ' A' H', Ext A H A' H' → Rep g A' μ H' → RS g.K A' H' ρ σ' → D.bk σ' H'
  | .ct ρ μ => ∀ σ' A' H', Ext A H A' H' → Rep g A' μ H' → RS g.K A' H' ρ σ' → D.ct σ' H'
  | .rt d μ => ∀ v A' H', Ext A H A' H' → Rep g A' μ H' → RV g.K A' H' d v → D.rt v H'
  | .ex c fs ρ μ => ∀ C dd fvs σ' A' H', g.mg c = some (.ref C) → Ext A H A' H' → Rep g A' μ H' → RS g.K A' H' ρ σ' → H' dd = some (.xd fvs) → RFs g.K A' H' fs fvs → W (.ref C) (some dd) σ' H'
  | .no => False
def TSt (g : G) (W : WX) (m : S) : TS := fun D σ H => ∃ ρ μ A, RS g.K A H ρ σ ∧ Rep g A μ H ∧ PSo g W A H (m ρ μ) D
abbrev DS (X : Cx) (W : WX) (st : Stmt) (m : S) : Prop := PS X st (TSt (Xg X) W m)
abbrev DSs (X : Cx) (W : WX) (st : List Stmt) (m : S) : Prop := PSs X st (TSt (Xg X) W m)
theorem PSo.ext {g : G} {W : WX} {A A1 : List Addr} {H H1 : Hp} {o : SOut} {D : Ends} (e : Ext A H A1 H1) (h : PSo g W A H o D) : PSo g W A1 H1 o D := by
  cases o with
  | nx ρ μ => exact fun σ' A' H' e' => h σ' A' H' (e.trans e')
  | bk ρ μ => exact fun σ' A' H' e' => h σ' A' H' (e.trans e')
  | ct ρ μ => exact fun σ' A' H' e' => h σ' A' H' (e.trans e')
  | rt d μ => exact fun σ' A' H' e' => h σ' A' H' (e.trans e')
  | ex c fs ρ μ => exact fun C dd fvs σ' A' H' hm e' => h C dd fvs σ' A' H' hm (e.trans e')
  | no => exact h
/-- an expression first -/
def sE {α : Type} (m : M α) (k : α → S) : S := fun ρ μ => match m ρ μ with
  | .ok (a, μ') => k a ρ μ'
  | .ex c fs μ' => .ex c fs ρ μ'
  | .no => .no
theorem sE_imp {α β : Type} {g : G} {R : List Addr → Hp → α → β → Prop} {W : WX} {m : M α} {k : α → S} {D : Ends} {σ : L2.St} {H : Hp} {Q : β → Hp → Prop} (h : TSt g W (sE m k) D σ H)
    (hk : ∀ a v ρ μ A H1, RS g.K A H1 ρ σ → Rep g A μ H1 → R A H1 a v → PSo g W A H1 (k a ρ μ) D → Q v H1) : T g R W m σ H Q := by
  obtain ⟨ρ, μ, A, rs, rp, h⟩ := h
  refine ⟨ρ, μ, A, rs, rp, ?_⟩
  unfold sE at h
  cases e : m ρ μ with
  | ok p =>
    obtain ⟨a, μ'⟩ := p
    rw [e] at h
    exact fun v A' H' e' r' rv => hk a v ρ μ' A' H' (RS.ext rp e' rs) r' rv (PSo.ext e' h)
  | ex c fs μ' =>
    rw [e] at h
    exact fun C dd fvs A' H' hm e' r' hd hf => h C dd fvs σ A' H' hm e' r' (RS.ext rp e' rs) hd hf
  | no => rw [e] at h; exact h.elim
theorem PSo.bind {α β : Type} {g : G} {R : List Addr → Hp → α → β → Prop} {W : WX} {m : M α} {k : α → S} {D : Ends} {σ : L2.St} {A : List Addr} {ρ : Env} {μ : Store} {H : Hp} {Q : β → Hp → Prop} (rs : RS g.K A H ρ σ) (rp : Rep g A μ H) (h : PSo g W A H (sE m k ρ μ) D)
    (hk : ∀ a v μ' A' H', Ext A H A' H' → RS g.K A' H' ρ σ → Rep g A' μ' H' → R A' H' a v → PSo g W A' H' (k a ρ μ') D → Q v H') : PV g R W σ A H (m ρ μ) Q := by
  unfold sE at h
  cases e : m ρ μ with
  | ok p =>
    obtain ⟨a, μ'⟩ := p
    rw [e] at h
    exact fun v A' H' e' r' rv => hk a v μ' A' H' e' (RS.ext rp e' rs) r' rv (PSo.ext e' h)
  | ex c fs μ' =>
    rw [e] at h
    exact fun C dd fvs A' H' hm e' r' hd hf => h C dd fvs σ A' H' hm e' r' (RS.ext rp e' rs) hd hf
  | no => rw [e] at h; exact h.elim
def sSeq (a b : S) : S := fun ρ μ => match a ρ μ with
  | .nx ρ' μ' => b ρ' μ'
  | o => o
theorem seq_imp {g : G} {W : WX} {a b : S} {D : Ends} {σ : L2.St} {H : Hp} (h : TSt g W (sSeq a b) D σ H) : tSeq (TSt g W a) (TSt g W b) D σ H := by
  obtain ⟨ρ, μ, A, rs, rp, h⟩ := h
  refine ⟨ρ, μ, A, rs, rp, ?_⟩
  unfold sSeq at h
  cases e : a ρ μ with
  | nx ρ' μ' =>
    rw [e] at h
    exact fun σ' A' H' e' r' rs' => ⟨ρ', μ', A', rs', r', PSo.ext e' h⟩
  | bk ρ μ => rw [e] at h; exact h
  | ct ρ μ => rw [e] at h; exact h
  | rt d μ => rw [e] at h; exact h
  | ex c fs ρ μ => rw [e] at h; exact h
  | no => rw [e] at h; exact h
def sNx : S := fun ρ μ => .nx ρ μ
section
variable {X : Cx} {W : WX} {e c : Expr} {m : M D} {t : M Bool} {a b : S} {st : Stmt} {sts : List Stmt} {pos : Pos}
theorem nx_imp {g : G} {D : Ends} {σ : L2.St} {H : Hp} (h : TSt g W sNx D σ H) : D.nx σ H := by
  obtain ⟨ρ, μ, A, rs, rp, h⟩ := h
  exact h σ A H (Ext.refl rp) rp rs
theorem dss_nil : DSs X W [] sNx := pss_imp pss_nil fun D σ H h => nx_imp h
theorem dss_cons (h1 : DS X W st a) (h2 : DSs X W sts b) : DSs X W (st :: sts) (sSeq a b) := pss_imp (pss_cons h1 h2) fun D σ H h => seq_imp h
theorem dss_one (h1 : DS X W st a) : DSs X W [st] a := pss_one h1
theorem ds_pass : DS X W (.Pass pos) sNx := ps_imp ps_pass fun D σ H h => nx_imp h
theorem ds_break : DS X W (.Break pos) (fun ρ μ => .bk ρ μ) := ps_imp ps_break fun D σ H h => by
  obtain ⟨ρ, μ, A, rs, rp, h⟩ := h
  exact h σ A H (Ext.refl rp) rp rs
theorem ds_cont : DS X W (.Continue pos) (fun ρ μ => .ct ρ μ) := ps_imp ps_continue fun D σ H h => by
  obtain ⟨ρ, μ, A, rs, rp, h⟩ := h
  exact h σ A H (Ext.refl rp) rp rs
theorem ds_never : DS X W st (fun _ _ => .no) := ps_imp ps_never fun D σ H h => by
  obtain ⟨ρ, μ, A, rs, rp, h⟩ := h
  exact h
theorem ds_expr (he : DE X W e m) (hs : swapsWith e none pos.line X.env = pure false := by rfl) : DS X W (.Expr e pos) (sE m fun _ => sNx) := ps_imp (ps_expr he hs) fun D σ H h => sE_imp h fun d v ρ μ A H1 rs rp rv h => nx_imp ⟨ρ, μ, A, rs, rp, h⟩
theorem ds_ret (he : DE X W e m) : DS X W (.Return (some e) pos) (sE m fun d _ μ => .rt d μ) := ps_imp (ps_ret he) fun D σ H h => sE_imp h fun d v ρ μ A H1 rs rp rv h => h v A H1 (Ext.refl rp) rp rv
theorem ds_retN : DS X W (.Return none pos) (fun _ μ => .rt .non μ) := ps_imp ps_retN fun D σ H h => by
  obtain ⟨ρ, μ, A, rs, rp, h⟩ := h
  exact h .non A H (Ext.refl rp) rp rfl
def sIf (t : M Bool) (a b : S) : S := sE t fun k => if k = true then a else b
theorem ds_if {p q : List Stmt} (hc : DT X W c t) (ha : DSs X W p a) (hb : DSs X W q b) : DS X W (.If c p q pos) (sIf t a b) := ps_imp (ps_if hc ha hb) fun D σ H h => sE_imp (R := REq) h fun k v ρ μ A H1 rs rp rv h => by
  cases (show k = v from rv)
  cases k with
  | true => exact iteT ⟨ρ, μ, A, rs, rp, h⟩
  | false => exact iteF ⟨ρ, μ, A, rs, rp, h⟩
/-! ### targets -/
abbrev Tg := D → S
def PGo (g : G) (A : List Addr) (H : Hp) (o : SOut) (Q : L2.St → Hp → Prop) : Prop := match o with
  | .nx ρ μ => ∀ σ' A' H', Ext A H A' H' → Rep g A' μ H' → RS g.K A' H' ρ σ' → Q σ' H'
  | _ => False
def TTg (g : G) (m : Tg) : TG := fun v σ H Q => ∃ ρ μ A d, RS g.K A H ρ σ ∧ Rep g A μ H ∧ RV g.K A H d v ∧ PGo g A H (m d ρ μ) Q
def TTgs (g : G) (m : List D → S) : TGs := fun vs σ H Q => ∃ ρ μ A ds, RS g.K A H ρ σ ∧ Rep g A μ H ∧ RVs g.K A H ds vs ∧ PGo g A H (m ds ρ μ) Q
theorem PGo.ext {g : G} {A A1 : List Addr} {H H1 : Hp} {o : SOut} {Q : L2.St → Hp → Prop} (e : Ext A H A1 H1) (h : PGo g A H o Q) : PGo g A1 H1 o Q := by
  cases o with
  | nx ρ μ => exact fun σ' A' H' e' => h σ' A' H' (e.trans e')
  | _ => exact h
abbrev DG (X : Cx) (tg : Expr) (m : Tg) : Prop := PG X tg (TTg (Xg X) m)
abbrev DGs (X : Cx) (tg : List Expr) (m : List D → S) : Prop := PGs X tg (TTgs (Xg X) m)
theorem pg_imp {tg : Expr} {t t' : TG} (h : PG X tg t) (i : ∀ v σ H Q, t' v σ H Q → t v σ H Q) : PG X tg t' := by
  first
    | exact ⟨fun pins s σ H x v Q I r k => h.run pins s σ H x v Q I r (i _ _ _ _ k)⟩
theorem pgs_imp {tg : List Expr} {t t' : TGs} (h : PGs X tg t) (i : ∀ v σ H Q, t' v σ H Q → t v σ H Q) : PGs X tg t' := by
  first
    | exact ⟨fun pins s σ H x v Q I r k => h.run pins s σ H x v Q I r (i _ _ _ _ k)⟩
    | exact ⟨h.len, fun pins s σ H x v Q I r k => h.run pins s σ H x v Q I r (i _ _ _ _ k)⟩
def gNm (i : Nat) : Tg := fun d ρ μ => .nx (ρ.set i (some d)) μ
theorem dg_name {i : Nat} {x : Str} (hN : X.N.Nodup) (hi : X.N[i]? = some x := by rfl) (hx : Loc X.env.scope x := by first | exact Or.inl rfl | exact Or.inr rfl) (hf : X.fn x = true ∨ X.env.scope.names.lookup x = some .local := by first | exact .inl rfl | exact .inr rfl) : DG X (.Name x pos) (gNm i) := pg_imp (pg_name hN hi hx hf) fun v σ H Q h => by
  obtain ⟨ρ, μ, A, d, rs, rp, rv, h⟩ := h
  exact h _ A H (Ext.refl rp) rp (RS.set rs i rv)
def gsNil : List D → S := fun ds => match ds with
  | [] => sNx
  | _ => fun _ _ => .no
def gsCons (g : Tg) (gs : List D → S) : List D → S := fun ds => match ds with
  | d :: r => sSeq (g d) (gs r)
  | [] => fun _ _ => .no
theorem dgs_nil : DGs X [] gsNil := pgs_imp pgs_nil fun v σ H Q h => by
  obtain ⟨ρ, μ, A, ds, rs, rp, rv, h⟩ := h
  cases ds with
  | nil => exact ⟨rv, h σ A H (Ext.refl rp) rp rs⟩
  | cons d r => exact h.elim
theorem gcons_imp {G0 : G} {g : Tg} {gs : List D → S} {vs : List V} {σ : L2.St} {H : Hp} {Q : L2.St → Hp → Prop} (h : TTgs G0 (gsCons g gs) vs σ H Q) : gCons (TTg G0 g) (TTgs G0 gs) vs σ H Q := by
  obtain ⟨ρ, μ, A, ds, rs, rp, rv, h⟩ := h
  cases ds with
  | nil => exact h.elim
  | cons d r =>
    simp only [RVs] at rv
    obtain ⟨v, ws, rfl, r1, r2⟩ := rv
    refine ⟨v, ws, rfl, ρ, μ, A, d, rs, rp, r1, ?_⟩
    have h : PGo G0 A H (sSeq (g d) (gs r) ρ μ) Q := h
    unfold sSeq at h
    cases e : g d ρ μ with
    | nx ρ' μ' =>
      rw [e] at h
      exact fun σ' A' H' e' r' rs' => ⟨ρ', μ', A', r, rs', r', RVs.ext rp e' _ _ r2, PGo.ext e' h⟩
    | _ => rw [e] at h; exact h.elim
def gTupD (n : Nat) (gs : List D → S) : Tg := fun d ρ μ => match seqD μ d with
  | some ds => if ds.length = n then gs ds ρ μ else .no
  | none => .no
theorem dgs_cons {es : List Expr} {g : Tg} {gs : List D → S} (h1 : DG X e g) (h2 : DGs X es gs) (hs : (assignEach (e :: es) X.env).map (·.2) = assign e X.env :: (assignEach es X.env).map (·.2) := by rfl) : DGs X (e :: es) (gsCons g gs) :=
  pgs_imp (pgs_cons h1 h2 hs) fun v σ H Q h => gcons_imp h
theorem dg_tup {es : List Expr} {k n : Nat} {gs : List D → S} (hc : X.calm = true) (h : DGs X es gs) (hn : (assignEach es X.env).length = n := by rfl) (hst : (assignEach es X.env).findIdx? (·.1) = none := by rfl) : DG X (.Tuple es k pos) (gTupD n gs) :=
  pg_imp ((pg_tup hc h hn hst).or (pg_unl hc h hn hst)) fun v σ H Q hh => by
    obtain ⟨ρ, μ, A, d, rs, rp, rv, hh⟩ := hh
    unfold gTupD at hh
    cases e : seqD μ d with
    | none => rw [e] at hh; exact hh.elim
    | some ds =>
      rw [e] at hh
      simp only at hh
      split at hh
      · rename_i hl
        obtain ⟨a, vs, rfl, h1, h2⟩ := seqD_ok rp e rv
        rcases h1 with h1 | h1
        · exact .inr ⟨a, vs, rfl, h1, (RVs.length h2).trans hl, ρ, μ, A, ds, rs, rp, h2, hh⟩
        · exact .inl ⟨a, vs, rfl, h1, (RVs.length h2).trans hl, ρ, μ, A, ds, rs, rp, h2, hh⟩
      · exact hh.elim
/-- x = e -/
def sAsg (m : M D) (g : Tg) : S := sE m g
theorem PGo.of {g : G} {A : List Addr} {H : Hp} {o : SOut} {D : Ends} (h : PSo g W A H o D) (hn : ∀ d μ, o ≠ .rt d μ) (hb : ∀ d μ, o ≠ .bk d μ) (hc : ∀ d μ, o ≠ .ct d μ) (hx : ∀ c fs ρ μ, o ≠ .ex c fs ρ μ) : PGo g A H o D.nx := by
  cases o with
  | nx ρ μ => exact h
  | rt d μ => exact absurd rfl (hn d μ)
  | bk d μ => exact absurd rfl (hb d μ)
  | ct d μ => exact absurd rfl (hc d μ)
  | ex c fs ρ μ => exact absurd rfl (hx c fs ρ μ)
  | no => exact h
/-- a target's end, nothing but what follows -/
def only (o : SOut) : SOut := match o with
  | .nx ρ μ => .nx ρ μ
  | _ => .no
theorem PGo.only {g : G} {A : List Addr} {H : Hp} {o : SOut} {D : Ends} (h : PSo g W A H (only o) D) : PGo g A H o D.nx := by
  cases o with
  | nx ρ μ => exact h
  | _ => exact h
def sSet (m : M D) (g : Tg) : S := sE m fun d ρ μ => only (g d ρ μ)
theorem ds_asg {tg : Expr} {g : Tg} (he : DE X W e m) (hg : DG X tg g) (hs : swapsWithSole [tg] e pos.line X.env = pure false := by rfl) (hw : swappedStores [tg] e X.env = pure none := by rfl) (h1 : (assignEach [tg] X.env).map (·.2) = [assign tg X.env] := by rfl) : DS X W (.Assign [tg] e pos) (sSet m g) :=
  ps_imp (ps_asg he hg hs hw h1) fun D σ H h => sE_imp (k := fun d ρ μ => only (g d ρ μ)) h fun d v ρ μ A H1 rs rp rv h => ⟨ρ, μ, A, d, rs, rp, rv, PGo.only h⟩
/-- x = e, one name -/
theorem ds_set {i : Nat} {x : Str} {pos' : Pos} (hN : X.N.Nodup) (he : DE X W e m) (hi : X.N[i]? = some x := by rfl) (hx : Loc X.env.scope x := by first | exact Or.inl rfl | exact Or.inr rfl) (hs : swapsWith e (some (.Name x pos')) pos.line X.env = pure false := by rfl)
    (hf : X.fn x = true ∨ X.env.scope.names.lookup x = some .local := by first | exact .inl rfl | exact .inr rfl) : DS X W (.Assign [.Name x pos'] e pos) (sSet m (gNm i)) :=
  ps_imp (ps_set hN hi hx he hs hf) fun D σ H h => sE_imp (k := fun d ρ μ => only (gNm i d ρ μ)) h fun d v ρ μ A H1 rs rp rv h => h _ A H1 (Ext.refl rp) rp (RS.set rs i rv)
/-- a, b = e1, e2 -/
def sPar (i j : Nat) (m : M (List D)) : S := sE m fun ds ρ μ => match ds with
  | [d, e] => .nx ((ρ.set i (some d)).set j (some e)) μ
  | _ => .no
theorem par_imp {g : G} {i j : Nat} {ma : M (List D)} {D : Ends} {σ : L2.St} {H : Hp} (h : TSt g W (sPar i j ma) D σ H) : tPar i j (T g (REs g) W ma) D σ H := by
  obtain ⟨ρ, μ, A, rs, rp, h⟩ := h
  refine ⟨ρ, μ, A, rs, rp, PSo.bind rs rp h fun ds vs μ A1 H1 e1 rs rp rv h => ?_⟩
  match ds, rv, h with
  | [d, e], rv, h =>
    obtain ⟨v, w, rfl, r1, r2⟩ := two_of rv
    exact ⟨v, w, rfl, h _ A1 H1 (Ext.refl rp) rp (RS.set (RS.set rs i r1) j r2)⟩
  | [], rv, h => exact h.elim
  | [_], rv, h => exact h.elim
  | _ :: _ :: _ :: _, rv, h => exact h.elim
theorem ds_par {i j : Nat} {x y : Str} {a b : Expr} {ma : M (List D)} {px py pt : Pos} {kt k2 pt2} (hc : X.calm = true) (hN : X.N.Nodup) (ha : DA X W [a, b] ma) (hi : X.N[i]? = some x := by rfl) (hj : X.N[j]? = some y := by rfl) (hij : i ≠ j := by decide)
    (hx : X.env.scope.names.lookup x = some .local := by rfl) (hy : X.env.scope.names.lookup y = some .local := by rfl)
    (hw : swappedStores [.Tuple [.Name x px, .Name y py] kt pt] (.Tuple [a, b] k2 pt2) X.env = pure (some [x, y]) := by rfl)
    (hs : swapsWithSole [.Tuple [.Name x px, .Name y py] kt pt] (.Tuple [a, b] k2 pt2) pos.line X.env = pure false := by rfl) :
    DS X W (.Assign [.Tuple [.Name x px, .Name y py] kt pt] (.Tuple [a, b] k2 pt2) pos) (sPar i j ma) := ps_imp (ps_par hc hN hi hj hij hx hy ha hw hs) fun D σ H h => par_imp h
def sPar3 (i j l : Nat) (m : M (List D)) : S := sE m fun ds ρ μ => match ds with
  | [d, e, f] => .nx (((ρ.set i (some d)).set j (some e)).set l (some f)) μ
  | _ => .no
theorem par3_imp {g : G} {i j l : Nat} {ma : M (List D)} {D : Ends} {σ : L2.St} {H : Hp} (h : TSt g W (sPar3 i j l ma) D σ H) : tPar3 i j l (T g (REs g) W ma) D σ H := by
  obtain ⟨ρ, μ, A, rs, rp, h⟩ := h
  refine ⟨ρ, μ, A, rs, rp, PSo.bind rs rp h fun ds vs μ A1 H1 e1 rs rp rv h => ?_⟩
  match ds, rv, h with
  | [d, e, f], rv, h =>
    simp only [RVs] at rv
    obtain ⟨v, ws, rfl, r1, w, us, rfl, r2, u, zs, rfl, r3, rfl⟩ := rv
    exact ⟨v, w, u, rfl, h _ A1 H1 (Ext.refl rp) rp (RS.set (RS.set (RS.set rs i r1) j r2) l r3)⟩
  | [], rv, h => exact h.elim
  | [_], rv, h => exact h.elim
  | [_, _], rv, h => exact h.elim
  | _ :: _ :: _ :: _ :: _, rv, h => exact h.elim
theorem ds_par3 {i j l : Nat} {x y z : Str} {a b c : Expr} {ma : M (List D)} {px py pz pt : Pos} {kt k2 pt2} (hc : X.calm = true) (hN : X.N.Nodup) (ha : DA X W [a, b, c] ma) (hi : X.N[i]? = some x := by rfl) (hj : X.N[j]? = some y := by rfl) (hl : X.N[l]? = some z := by rfl) (hij : i ≠ j := by decide) (hil : i ≠ l := by decide) (hjl : j ≠ l := by decide)
    (hx : X.env.scope.names.lookup x = some .local := by rfl) (hy : X.env.scope.names.lookup y = some .local := by rfl) (hz : X.env.scope.names.lookup z = some .local := by rfl)
    (hw : swappedStores [.Tuple [.Name x px, .Name y py, .Name z pz] kt pt] (.Tuple [a, b, c] k2 pt2) X.env = pure (some [x, y, z]) := by rfl)
    (hs : swapsWithSole [.Tuple [.Name x px, .Name y py, .Name z pz] kt pt] (.Tuple [a, b, c] k2 pt2) pos.line X.env = pure false := by rfl) :
    DS X W (.Assign [.Tuple [.Name x px, .Name y py, .Name z pz] kt pt] (.Tuple [a, b, c] k2 pt2) pos) (sPar3 i j l ma) := ps_imp (ps_par3 hc hN hi hj hl hij hil hjl hx hy hz ha hw hs) fun D σ H h => par3_imp h
/-- o[i] = v -/
def putK {κ δ : Type} [DecidableEq κ] (k : κ) (d : δ) : List (κ × δ) → List (κ × δ)
  | [] => [(k, d)]
  | (j, e) :: r => if j = k then (j, d) :: r else (j, e) :: putK k d r
def setB (μ : Store) (o i v : D) : Option Store := match o, i with
  | .ptr n, .int k => match μ[n]? with
    | some (.lst ds) => (ixN ds.length k).map fun j => μ.set n (.lst (ds.set j v))
    | _ => none
  | _, _ => none
def gSubD (mo mi : M D) : Tg := fun d ρ μ => match mo ρ μ with
  | .ok (x, μ1) => match mi ρ μ1 with
    | .ok (y, μ2) => match setB μ2 x y d with
      | some μ3 => .nx ρ μ3
      | none => .no
    | _ => .no
  | _ => .no
theorem setB_ok {g : G} {A : List Addr} {μ μ' : Store} {H : Hp} {o i v : D} {ov iv vv : V} {Q : Hp → Prop} (rp : Rep g A μ H) (h : setB μ o i v = some μ') (ro : RV g.K A H o ov) (ri : RV g.K A H i iv) (rv : RV g.K A H v vv)
    (q : ∀ H', Ext A H A H' → Rep g A μ' H' → Q H') : rSetL ov iv vv H Q := by
  cases o with
  | ptr n =>
    cases i with
    | int k =>
      cases (show iv = _ from ri)
      simp only [RV] at ro
      obtain ⟨a, rfl, ha⟩ := ro
      simp only [setB] at h
      split at h
      · rename_i ds e
        obtain ⟨j, ej, rfl⟩ := Option.map_eq_some_iff.mp h
        obtain ⟨vs, h1, h2⟩ := Rep.lst rp ha e
        refine ⟨a, vs, k, j, rfl, rfl, h1, by rw [RVs.length h2]; exact ej, ?_⟩
        have e1 := Ext.write (o := .lst (vs.set j vv)) rp ha
        exact q _ e1 (Rep.write rp ha ⟨_, upd_same, RVs.ext rp e1 _ _ (RVs.set j h2 rv)⟩)
      · cases h
    | _ => cases h
  | _ => cases h
theorem dg_sub {o i : Expr} {mo mi : M D} (ho : DE X W0 o mo) (hi : DE X W0 i mi)
    (ha : ∀ v, assign (.Subscript o i pos) X.env v = (do
      let ov ← holding [v] (eval o X.env)
      let iv ← holding [v, ov] (eval i X.env)
      standAt pos
      holding [v, ov, iv] (setItem ov iv v)
      release [v, ov, iv] []) := by intro _; rfl) : DG X (.Subscript o i pos) (gSubD mo mi) := pg_imp (pg_sub ho hi set_list ha) fun v σ H Q h => by
  obtain ⟨ρ, μ, A, d, rs, rp, rv, h⟩ := h
  unfold gSubD at h
  refine ⟨ρ, μ, A, rs, rp, ?_⟩
  cases e : mo ρ μ with
  | ok p =>
    obtain ⟨x, μ1⟩ := p
    simp only [e] at h
    intro ov A1 H1 e1 r1 ro
    refine ⟨ρ, μ1, A1, RS.ext rp e1 rs, r1, ?_⟩
    cases e' : mi ρ μ1 with
    | ok p =>
      obtain ⟨y, μ2⟩ := p
      simp only [e'] at h
      intro iv A2 H2 e2 r2 ri
      cases e3 : setB μ2 x y d with
      | none => simp only [e3] at h; exact h.elim
      | some μ3 =>
        simp only [e3] at h
        exact setB_ok r2 e3 (RV.ext r1 e2 _ _ ro) ri (RV.ext r1 e2 _ _ (RV.ext rp e1 _ _ rv)) fun H' e4 r4 => h σ A2 H' ((e1.trans e2).trans e4) r4 (RS.ext r2 e4 (RS.ext r1 e2 (RS.ext rp e1 rs)))
    | _ => simp only [e'] at h; exact h.elim
  | _ => simp only [e] at h; exact h.elim
end
/-! ### what is walked -/
structure Src where
  items : List D
  gs : List (Nat × List D)
def Src.ok (s : Src) (μ : Store) : Prop := ∀ p ∈ s.gs, lstAt μ p.1 = some p.2
def RSrc (g : G) (A : List Addr) (H : Hp) (s : Src) (J : It) : Prop := ∃ Gd Y, Walk J s.items.length Gd Y ∧ ∀ A2 μ2 H2, Ext A H A2 H2 → Rep g A2 μ2 H2 → s.ok μ2 →
  Gd H2 ∧ ∀ i x H3, i < s.items.length → Y i H2 x H3 → ∃ d, s.items[i]? = some d ∧ Ext A2 H2 A2 H3 ∧ Rep g A2 μ2 H3 ∧ RV g.K A2 H3 d x
abbrev DI (X : Cx) (W : WX) (tg iter : Expr) (m : M Src) : Prop := PI X tg iter (T (Xg X) (RSrc (Xg X)) W m)
theorem pi_imp {X : Cx} {tg e : Expr} {t t' : TI} (h : PI X tg e t) (i : ∀ σ H Q, t' σ H Q → t σ H Q) : PI X tg e t' := ⟨fun pins s σ H R I k => h.run pins s σ H R I (i σ H R k)⟩
def signsD (z : Str) : List D := z.cps.toList.map fun c => .str ⟨#[c]⟩
def srcD (μ : Store) : D → Option Src
  | .tup ds => some ⟨ds, []⟩
  | .rol ds => some ⟨ds, []⟩
  | .str z => some ⟨signsD z, []⟩
  | .ptr n => match lstAt μ n with
    | some ds => some ⟨ds, [(n, ds)]⟩
    | none => none
  | _ => none
def mSrc (m : M D) : M Src := fun ρ μ => (m ρ μ).bind fun p => match srcD p.2 p.1 with
  | some s => .ok (s, p.2)
  | none => .no
section
variable {g : G} {A : List Addr} {μ : Store} {H : Hp}
theorem walk_listG {K : PySem.W.Frag} {a : Addr} {n : Nat} : Walk (Itl K a) n (fun H => ∃ ws, SqL K H a ws ∧ ws.length = n) (fun i H x H' => H' = H ∧ ∀ ws, SqL K H a ws → ws[i]? = some x) := by
  refine ⟨fun i H hi q => ?_, fun H q => ?_, fun i H x H' _ _ y => y⟩
  · obtain ⟨ws, q, rfl⟩ := q
    exact ⟨ws, ws[i], q, by simp [hi]⟩
  · obtain ⟨ws, q, rfl⟩ := q
    exact ⟨ws, q, Nat.le_refl _⟩
theorem walk_tupG {K : PySem.W.Frag} {a : Addr} {n : Nat} : Walk (Itt K a) n (fun H => ∃ ws, SqT K H a ws ∧ ws.length = n) (fun i H x H' => H' = H ∧ ∀ ws, SqT K H a ws → ws[i]? = some x) := by
  refine ⟨fun i H hi q => ?_, fun H q => ?_, fun i H x H' _ _ y => y⟩
  · obtain ⟨ws, q, rfl⟩ := q
    exact ⟨ws, ws[i], q, by simp [hi]⟩
  · obtain ⟨ws, q, rfl⟩ := q
    exact ⟨ws, q, Nat.le_refl _⟩
theorem walk_JT {G : Hp → Prop} {n : Nat} {items : Hp → Nat → List V → Prop} : Walk (JT G n items) n G (fun i H v H' => ∃ T xs, v = .ref T ∧ H T = none ∧ H' = upd H T (.tup xs) ∧ items H i xs) :=
  ⟨fun i H hi q => ⟨hi, q⟩, fun H q => ⟨rfl, q⟩, fun i H x H' _ _ y => y⟩
theorem src_ok (rp : Rep g A μ H) {d : D} {s : Src} {v : V} (h : srcD μ d = some s) (rv : RV g.K A H d v) :
    (∃ a, v = .ref a ∧ (∃ xs, SqL g.K H a xs) ∧ RSrc g A H s (Itl g.K a)) ∨ (∃ a, v = .ref a ∧ (∃ xs, SqT g.K H a xs) ∧ RSrc g A H s (Itt g.K a)) ∨ ∃ z, v = .str z ∧ RSrc g A H s (Its z) := by
  cases d with
  | tup ds =>
    cases h
    have rv0 := rv
    simp only [RV] at rv
    obtain ⟨a, vs, rfl, h1, h2⟩ := rv
    refine .inr (.inl ⟨a, rfl, ⟨vs, .inl h1⟩, _, _, walk_tupG, fun A2 μ2 H2 e2 r2 _ => ?_⟩)
    have rv2 := RV.ext rp e2 _ _ rv0
    simp only [RV] at rv2
    obtain ⟨a', ws, q, k1, k2⟩ := rv2
    cases q
    refine ⟨⟨ws, .inl k1, RVs.length k2⟩, fun i x H3 hi y => ?_⟩
    obtain ⟨rfl, hx⟩ := y
    obtain ⟨d, hd, rd⟩ := RVs.getV k2 (hx ws (.inl k1))
    exact ⟨d, hd, Ext.refl r2, r2, rd⟩
  | rol ds =>
    cases h
    have rv0 := rv
    simp only [RV] at rv
    obtain ⟨a, vs, rfl, h1, h2⟩ := rv
    refine .inl ⟨a, rfl, ⟨vs, h1.sq⟩, _, _, walk_listG, fun A2 μ2 H2 e2 r2 _ => ?_⟩
    have rv2 := RV.ext rp e2 _ _ rv0
    simp only [RV] at rv2
    obtain ⟨a', ws, q, k1, k2⟩ := rv2
    cases q
    refine ⟨⟨ws, k1.sq, RVs.length k2⟩, fun i x H3 hi y => ?_⟩
    obtain ⟨rfl, hx⟩ := y
    obtain ⟨d, hd, rd⟩ := RVs.getV k2 (hx ws k1.sq)
    exact ⟨d, hd, Ext.refl r2, r2, rd⟩
  | str z =>
    cases h
    cases (show v = _ from rv)
    refine .inr (.inr ⟨z, rfl, _, _, (show z.cps.size = (signsD z).length by simp [signsD]) ▸ walk_str, fun A2 μ2 H2 e2 r2 _ => ⟨trivial, fun i x H3 hi y => ?_⟩⟩)
    obtain ⟨rfl, c, hc, rfl⟩ := y
    exact ⟨.str ⟨#[c]⟩, by simp [signsD, hc], Ext.refl r2, r2, rfl⟩
  | ptr n =>
    simp only [RV] at rv
    obtain ⟨a, rfl, ha⟩ := rv
    simp only [srcD] at h
    split at h
    · rename_i ds e
      cases h
      obtain ⟨vs, h1, h2⟩ := Rep.lstA rp ha e
      refine .inl ⟨a, rfl, ⟨vs, SqL.of h1⟩, _, _, walk_listG, fun A2 μ2 H2 e2 r2 ok => ?_⟩
      obtain ⟨ws, k1, k2⟩ := Rep.lstA r2 (e2.ix ha) (ok (n, ds) (by simp))
      refine ⟨⟨ws, SqL.of k1, RVs.length k2⟩, fun i x H3 hi y => ?_⟩
      obtain ⟨rfl, hx⟩ := y
      obtain ⟨d, hd, rd⟩ := RVs.getV k2 (hx ws (SqL.of k1))
      exact ⟨d, hd, Ext.refl r2, r2, rd⟩
    · cases h
  | _ => cases h
end
section
variable {X : Cx} {W : WX} {e e2 tg : Expr} {m : M D} {ms : M (List D)} {p pos tpos : Pos}
theorem di_any (he : DE X W e m) : DI X W tg e (mSrc m) := pi_imp (pi_any he) fun σ H Q h => by
  obtain ⟨ρ, μ, A, rs, rp, h⟩ := h
  refine ⟨ρ, μ, A, rs, rp, PV.bind h fun d μ1 v A1 H1 e1 r1 rv h => ?_⟩
  cases hs : srcD μ1 d with
  | none => simp only [hs] at h; exact h.elim
  | some s =>
    simp only [hs] at h
    have q : ∀ J, RSrc (Xg X) A1 H1 s J → Q J H1 := fun J hJ => h J A1 H1 (Ext.refl r1) r1 hJ
    rcases src_ok r1 hs rv with ⟨a, h1, h2, h3⟩ | ⟨a, h1, h2, h3⟩ | ⟨z, h1, h3⟩
    · exact .inl ⟨a, h1, h2, q _ h3⟩
    · exact .inr (.inl ⟨a, h1, h2, q _ h3⟩)
    · exact .inr (.inr ⟨z, h1, q _ h3⟩)
/-! ### enumerate, zip -/
theorem sk_of {g : G} {A : List Addr} {μ : Store} {H : Hp} (rp : Rep g A μ H) {d : D} {s : Src} {v : V} (h : srcD μ d = some s) (rv : RV g.K A H d v) :
    ∃ k : SK, v = k.val ∧ k.holds H ∧ k.len = s.items.length ∧ ∀ A2 μ2 H2, Ext A H A2 H2 → Rep g A2 μ2 H2 → s.ok μ2 → k.holds H2 ∧ ∀ i x, k.item H2 i x → ∃ d, s.items[i]? = some d ∧ RV g.K A2 H2 d x := by
  cases d with
  | tup ds =>
    cases h
    have rv0 := rv
    simp only [RV] at rv
    obtain ⟨a, vs, rfl, h1, h2⟩ := rv
    refine ⟨.tup a vs.length, rfl, ⟨vs, h1, rfl⟩, RVs.length h2, fun A2 μ2 H2 e2 r2 _ => ?_⟩
    have rv2 := RV.ext rp e2 _ _ rv0
    simp only [RV] at rv2
    obtain ⟨a', ws, q, k1, k2⟩ := rv2
    cases q
    have l1 := RVs.length h2
    have l2 := RVs.length k2
    refine ⟨⟨ws, k1, by omega⟩, fun i x hx => ?_⟩
    obtain ⟨us, q1, q2⟩ := hx
    have e : us = ws := by
      rcases q1 with q1 | ⟨o, q1⟩ <;> rcases k1 with k1 | ⟨o', k1⟩ <;> rw [q1] at k1 <;> cases k1 <;> rfl
    subst e
    exact RVs.getV k2 q2
  | rol ds =>
    cases h
    have rv0 := rv
    simp only [RV] at rv
    obtain ⟨a, vs, rfl, h1, h2⟩ := rv
    refine ⟨.lst a vs.length, rfl, ⟨vs, h1.rd, rfl⟩, RVs.length h2, fun A2 μ2 H2 e2 r2 _ => ?_⟩
    have rv2 := RV.ext rp e2 _ _ rv0
    simp only [RV] at rv2
    obtain ⟨a', ws, q, k1, k2⟩ := rv2
    cases q
    have l1 := RVs.length h2
    have l2 := RVs.length k2
    refine ⟨⟨ws, k1.rd, by omega⟩, fun i x hx => ?_⟩
    obtain ⟨us, q1, q2⟩ := hx
    have k1 := k1.rd
    have e : us = ws := by
      rcases q1 with q1 | ⟨o, q1⟩ <;> rcases k1 with k1 | ⟨o', k1⟩ <;> rw [q1] at k1 <;> cases k1 <;> rfl
    subst e
    exact RVs.getV k2 q2
  | str z =>
    cases h
    cases (show v = _ from rv)
    refine ⟨.txt z, rfl, trivial, by simp [SK.len, signsD], fun A2 μ2 H2 e2 r2 _ => ⟨trivial, fun i x hx => ?_⟩⟩
    obtain ⟨c, hc, rfl⟩ := hx
    exact ⟨.str ⟨#[c]⟩, by simp [signsD, hc], rfl⟩
  | ptr n =>
    simp only [RV] at rv
    obtain ⟨a, rfl, ha⟩ := rv
    simp only [srcD] at h
    split at h
    · rename_i ds e
      cases h
      obtain ⟨vs, h1, h2⟩ := Rep.lstA rp ha e
      refine ⟨.lst a vs.length, rfl, ⟨vs, .inl h1, rfl⟩, RVs.length h2, fun A2 μ2 H2 e2 r2 ok => ?_⟩
      obtain ⟨ws, k1, k2⟩ := Rep.lstA r2 (e2.ix ha) (ok (n, ds) (by simp))
      have l1 := RVs.length h2
      have l2 : ws.length = ds.length := RVs.length k2
      refine ⟨⟨ws, .inl k1, by omega⟩, fun i x hx => ?_⟩
      obtain ⟨us, q1, q2⟩ := hx
      have e : us = ws := by
        rcases q1 with q1 | ⟨o, q1⟩ <;> rw [q1] at k1 <;> cases k1 <;> rfl
      subst e
      exact RVs.getV k2 q2
    · cases h
  | _ => cases h
def enumFrom (k : Nat) : List D → List D
  | [] => []
  | d :: r => .tup [.int (k : Int), d] :: enumFrom (k + 1) r
theorem enumFrom_length : ∀ (k : Nat) (ds : List D), (enumFrom k ds).length = ds.length
  | _, [] => rfl
  | k, d :: r => by simp [enumFrom, enumFrom_length (k + 1) r]
theorem enumFrom_get : ∀ (k : Nat) (ds : List D) (i : Nat) (d : D), ds[i]? = some d → (enumFrom k ds)[i]? = some (.tup [.int ((k + i : Nat) : Int), d])
  | _, [], _, _, h => by simp at h
  | k, d :: r, 0, _, h => by
    simp only [List.getElem?_cons_zero] at h
    cases h
    simp [enumFrom]
  | k, d :: r, i + 1, e, h => by
    simp only [List.getElem?_cons_succ] at h
    simp only [enumFrom, List.getElem?_cons_succ]
    rw [enumFrom_get (k + 1) r i e h, show k + 1 + i = k + (i + 1) by omega]
def zipD : List D → List D → List D
  | a :: as, b :: bs => .tup [a, b] :: zipD as bs
  | _, _ => []
theorem zipD_length : ∀ (as bs : List D), (zipD as bs).length = min as.length bs.length
  | [], _ => by simp [zipD]
  | _ :: _, [] => by simp [zipD]
  | a :: as, b :: bs => by simp [zipD, zipD_length as bs]
theorem zipD_get : ∀ (as bs : List D) (i : Nat) (a b : D), as[i]? = some a → bs[i]? = some b → (zipD as bs)[i]? = some (.tup [a, b])
  | [], _, _, _, _, h, _ => by simp at h
  | _ :: _, [], _, _, _, _, h => by simp at h
  | a :: as, b :: bs, 0, _, _, h, k => by
    simp only [List.getElem?_cons_zero] at h k
    cases h; cases k
    simp [zipD]
  | a :: as, b :: bs, i + 1, _, _, h, k => by
    simp only [List.getElem?_cons_succ] at h k
    simp only [zipD, List.getElem?_cons_succ]
    exact zipD_get as bs i _ _ h k
def mEnum (ms : M (List D)) : M Src := fun ρ μ => (ms ρ μ).bind fun p => match p.1 with
  | [d] => match srcD p.2 d with
      | some s => .ok (⟨enumFrom 0 s.items, s.gs⟩, p.2)
      | none => .no
  | _ => .no
def mZip (ms : M (List D)) : M Src := fun ρ μ => (ms ρ μ).bind fun p => match p.1 with
  | [d, e] => match srcD p.2 d, srcD p.2 e with
      | some s, some t => .ok (⟨zipD s.items t.items, s.gs ++ t.gs⟩, p.2)
      | _, _ => .no
  | _ => .no
theorem di_enum {elts : List Expr} {kk : Nat} (hm : X.mg "enumerate" = none) (ha : DA X W [e] ms) (hg : Gl X "enumerate" := by rfl) (hs : starEach [e] X.env = [(false, eval e X.env)] := by rfl) : DI X W (.Tuple elts kk tpos) (.Call (.Name "enumerate" p) [e] [] pos) (mEnum ms) := pi_imp (pi_enumS hg hm ha hs) fun σ H Q h => by
  obtain ⟨ρ, μ, A, rs, rp, h⟩ := h
  refine ⟨ρ, μ, A, rs, rp, PV.bind h fun ds μ1 vs A1 H1 e1 r1 rv h => ?_⟩
  match ds, rv, h with
  | [d], rv, h =>
    obtain ⟨v, rfl, rv1⟩ := one_of rv
    simp only at h
    · cases hs : srcD μ1 d with
      | none => simp only [hs] at h; exact h.elim
      | some s =>
        simp only [hs] at h
        obtain ⟨k, rfl, hk, hl, hrun⟩ := sk_of r1 hs rv1
        have hR : RSrc (Xg X) A1 H1 ⟨enumFrom 0 s.items, s.gs⟩ (JT (fun H => k.holds H) k.len (fun H i xs => ∃ x, k.item H i x ∧ xs = [.int (i : Nat), x])) := by
          refine ⟨fun H => k.holds H, fun i H v H' => ∃ T xs, v = .ref T ∧ H T = none ∧ H' = upd H T (.tup xs) ∧ ∃ x, k.item H i x ∧ xs = [.int (i : Nat), x], ?_, fun A2 μ2 H2 e2 r2 ok => ?_⟩
          · show Walk _ (enumFrom 0 s.items).length _ _
            rw [enumFrom_length, ← hl]
            exact walk_JT
          · obtain ⟨k1, k2⟩ := hrun A2 μ2 H2 e2 r2 ok
            refine ⟨k1, fun i x H3 hi y => ?_⟩
            obtain ⟨T, xs, rfl, hT, rfl, z, hz, rfl⟩ := y
            obtain ⟨d', hd, rd⟩ := k2 i z hz
            have e3 := Ext.new (o := .tup [V.int (i : Nat), z]) r2 hT
            refine ⟨_, enumFrom_get 0 _ i d' hd, e3, Rep.new r2 hT, T, _, rfl, .inl upd_same, ?_⟩
            rw [Nat.zero_add]
            exact ⟨_, _, rfl, rfl, _, _, rfl, RV.ext r2 e3 _ _ rd, rfl⟩
        exact ⟨k, rfl, hk, h _ A1 H1 (Ext.refl r1) r1 hR⟩
  | [], rv, h => exact h.elim
  | _ :: _ :: _, rv, h => exact h.elim
theorem di_zip {elts : List Expr} {kk : Nat} (hm : X.mg "zip" = none) (ha : DA X W [e, e2] ms) (hg : Gl X "zip" := by rfl) (hs : starEach [e, e2] X.env = (false, eval e X.env) :: starEach [e2] X.env := by rfl) (hpl : (backTo pos (starEach [e2] X.env)).any (·.1) = false := by rfl) :
    DI X W (.Tuple elts kk tpos) (.Call (.Name "zip" p) [e, e2] [] pos) (mZip ms) := pi_imp (pi_zipS hg hm ha hs hpl) fun σ H Q h => by
  obtain ⟨ρ, μ, A, rs, rp, h⟩ := h
  refine ⟨ρ, μ, A, rs, rp, PV.bind h fun ds μ1 vs A1 H1 e1 r1 rv h => ?_⟩
  match ds, rv, h with
  | [d, e], rv, h =>
    obtain ⟨v, w, rfl, rv1, rv2⟩ := two_of rv
    simp only at h
    · cases hs : srcD μ1 d with
      | none => simp only [hs] at h; exact h.elim
      | some s =>
        cases ht : srcD μ1 e with
        | none => simp only [hs, ht] at h; exact h.elim
        | some t =>
          simp only [hs, ht] at h
          obtain ⟨k, rfl, hk, hl, hrun⟩ := sk_of r1 hs rv1
          obtain ⟨j, rfl, hj, hl', hrun'⟩ := sk_of r1 ht rv2
          have hR : RSrc (Xg X) A1 H1 ⟨zipD s.items t.items, s.gs ++ t.gs⟩ (JT (fun H => k.holds H ∧ j.holds H) (min k.len j.len) (fun H i xs => ∃ x y, k.item H i x ∧ j.item H i y ∧ xs = [x, y])) := by
            refine ⟨fun H => k.holds H ∧ j.holds H, fun i H v H' => ∃ T xs, v = .ref T ∧ H T = none ∧ H' = upd H T (.tup xs) ∧ ∃ x y, k.item H i x ∧ j.item H i y ∧ xs = [x, y], ?_, fun A2 μ2 H2 e2 r2 ok => ?_⟩
            · show Walk _ (zipD s.items t.items).length _ _
              rw [zipD_length, ← hl, ← hl']
              exact walk_JT
            · obtain ⟨k1, k2⟩ := hrun A2 μ2 H2 e2 r2 fun p hp => ok p (List.mem_append_left _ hp)
              obtain ⟨j1, j2⟩ := hrun' A2 μ2 H2 e2 r2 fun p hp => ok p (List.mem_append_right _ hp)
              refine ⟨⟨k1, j1⟩, fun i x H3 hi y => ?_⟩
              obtain ⟨T, xs, rfl, hT, rfl, z, z', hz, hz', rfl⟩ := y
              obtain ⟨d', hd, rd⟩ := k2 i z hz
              obtain ⟨d'', hd', rd'⟩ := j2 i z' hz'
              have e3 := Ext.new (o := .tup [z, z']) r2 hT
              refine ⟨_, zipD_get _ _ i d' d'' hd hd', e3, Rep.new r2 hT, T, _, rfl, .inl upd_same, ?_⟩
              exact ⟨_, _, rfl, RV.ext r2 e3 _ _ rd, _, _, rfl, RV.ext r2 e3 _ _ rd', rfl⟩
          exact ⟨k, j, rfl, hk, hj, h _ A1 H1 (Ext.refl r1) r1 hR⟩
  | [], rv, h => exact h.elim
  | [_], rv, h => exact h.elim
  | _ :: _ :: _ :: _, rv, h => exact h.elim
/-! ### range -/
def rangeD (lo : Int) (n : Nat) : List D := (List.range n).map fun i : Nat => .int (lo + (i : Int))
def rangeC (lo c : Int) (n : Nat) : List D := (List.range n).map fun i : Nat => .int (lo + (i : Int) * c)
def mRange1 (ms : M (List D)) : M Src := fun ρ μ => (ms ρ μ).bind fun p => match p.1 with
  | [.int j] => if -(2 ^ 62) ≤ j ∧ j < 2 ^ 62 then .ok (⟨rangeD 0 j.toNat, []⟩, p.2) else .no
  | _ => .no
def mRange2 (ms : M (List D)) : M Src := fun ρ μ => (ms ρ μ).bind fun p => match p.1 with
  | [.int i, .int j] => if -(2 ^ 62) ≤ i ∧ i < 2 ^ 62 ∧ -(2 ^ 62) ≤ j ∧ j < 2 ^ 62 then .ok (⟨rangeD i (j - i).toNat, []⟩, p.2) else .no
  | _ => .no
/-- range(i, j, -1) -/
def mRangeN (ms : M (List D)) : M Src := fun ρ μ => (ms ρ μ).bind fun p => match p.1 with
  | [.int i, .int j, .int (-1)] => if -(2 ^ 62) ≤ i ∧ i < 2 ^ 62 ∧ -(2 ^ 62) ≤ j ∧ j < 2 ^ 62 then .ok (⟨rangeC i (-1) (i - j).toNat, []⟩, p.2) else .no
  | _ => .no
theorem src_range {g : G} {A : List Addr} {H : Hp} (lo : Int) (n : Nat) : RSrc g A H ⟨rangeD lo n, []⟩ (Itr lo n) := by
  refine ⟨_, _, (show Walk (Itr lo n) (rangeD lo n).length (fun _ => True) (YFn fun i => .int (lo + i)) by rw [show (rangeD lo n).length = n by simp [rangeD]]; exact walk_range), fun A2 μ2 H2 e2 r2 _ => ⟨trivial, fun i x H3 hi y => ?_⟩⟩
  obtain ⟨rfl, rfl⟩ := y
  have hi : i < n := by simpa [rangeD] using hi
  exact ⟨.int (lo + i), by simp [rangeD, hi], Ext.refl r2, r2, rfl⟩
theorem src_rangeC {g : G} {A : List Addr} {H : Hp} (lo c : Int) (n : Nat) : RSrc g A H ⟨rangeC lo c n, []⟩ (Itc lo c n) := by
  refine ⟨_, _, (show Walk (Itc lo c n) (rangeC lo c n).length (fun _ => True) (YFn fun i => .int (lo + (i : Nat) * c)) by rw [show (rangeC lo c n).length = n by simp [rangeC]]; exact walk_rangeC), fun A2 μ2 H2 e2 r2 _ => ⟨trivial, fun i x H3 hi y => ?_⟩⟩
  obtain ⟨rfl, rfl⟩ := y
  have hi : i < n := by simpa [rangeC] using hi
  exact ⟨.int (lo + i * c), by simp [rangeC, hi], Ext.refl r2, r2, rfl⟩
theorem di_range1 (hm : X.mg "range" = none) (ha : DA X W [e] ms) (hg : Gl X "range" := by rfl) (hs : starEach [e] X.env = [(false, eval e X.env)] := by rfl) : DI X W tg (.Call (.Name "range" p) [e] [] pos) (mRange1 ms) := pi_imp (pi_range1 hg hm ha hs) fun σ H Q h => by
  obtain ⟨ρ, μ, A, rs, rp, h⟩ := h
  refine ⟨ρ, μ, A, rs, rp, PV.bind h fun ds μ1 vs A1 H1 e1 r1 rv h => ?_⟩
  simp only at h
  split at h
  · rename_i j
    obtain ⟨v, rfl, rv1⟩ := one_of rv
    cases (show v = _ from rv1)
    split at h
    · rename_i hj
      exact ⟨j, rfl, hj.1, hj.2, h _ A1 H1 (Ext.refl r1) r1 (src_range 0 j.toNat)⟩
    · exact h.elim
  · exact h.elim
theorem di_range2 (hm : X.mg "range" = none) (ha : DA X W [e, e2] ms) (hg : Gl X "range" := by rfl) (hs : starEach [e, e2] X.env = [(false, eval e X.env), (false, eval e2 X.env)] := by rfl) (hs2 : starEach [e2] X.env = [(false, eval e2 X.env)] := by rfl) :
    DI X W tg (.Call (.Name "range" p) [e, e2] [] pos) (mRange2 ms) := pi_imp (pi_range2 hg hm ha hs hs2) fun σ H Q h => by
  obtain ⟨ρ, μ, A, rs, rp, h⟩ := h
  refine ⟨ρ, μ, A, rs, rp, PV.bind h fun ds μ1 vs A1 H1 e1 r1 rv h => ?_⟩
  simp only at h
  split at h
  · rename_i i j
    obtain ⟨v, w, rfl, rv1, rv2⟩ := two_of rv
    cases (show v = _ from rv1); cases (show w = _ from rv2)
    split at h
    · rename_i hj
      exact ⟨i, j, rfl, hj, h _ A1 H1 (Ext.refl r1) r1 (src_range i (j - i).toNat)⟩
    · exact h.elim
  · exact h.elim
/-! ### for -/
open Classical in
noncomputable def forGo (s : Src) (g : Tg) (b : S) : List D → S
  | [], ρ, μ => if s.ok μ then .nx ρ μ else .no
  | d :: r, ρ, μ => if s.ok μ then match only (g d ρ μ) with
      | .nx ρ1 μ1 => match b ρ1 μ1 with
        | .nx ρ2 μ2 => forGo s g b r ρ2 μ2
        | .ct ρ2 μ2 => forGo s g b r ρ2 μ2
        | .bk ρ2 μ2 => .nx ρ2 μ2
        | o => o
      | _ => .no
    else .no
noncomputable def sFor (m : M Src) (g : Tg) (b : S) : S := sE m fun s => forGo s g b s.items
theorem for_imp {g0 : G} {wi : M Src} {g : Tg} {b : S} {D : Ends} {σ : L2.St} {H : Hp} (h : TSt g0 W (sFor wi g b) D σ H) : tFor (T g0 (RSrc g0) W wi) (TTg g0 g) (TSt g0 W b) D σ H := by
  obtain ⟨ρ, μ, A, rs, rp, h⟩ := h
  refine ⟨ρ, μ, A, rs, rp, PSo.bind rs rp h fun s J μ1 A1 H1 e1 rs1 r1 hJ h => ?_⟩
  obtain ⟨Gd, Y, wk, hrun⟩ := hJ
  refine for_it wk (fun i σ' H' => ∃ ρ' μ' A', Ext A1 H1 A' H' ∧ RS g0.K A' H' ρ' σ' ∧ Rep g0 A' μ' H' ∧ PSo g0 W A' H' (forGo s g b (s.items.drop i) ρ' μ') D) ⟨ρ, μ1, A1, Ext.refl r1, rs1, r1, by simpa using h⟩ (fun i σ' H' hi q => ?_) (fun i x σ' H' H'' hi q y => ?_) fun σ' H' q => ?_
  · obtain ⟨ρ', μ', A', e', rs', r', h'⟩ := q
    by_cases ok : s.ok μ'
    · exact (hrun A' μ' H' e' r' ok).1
    · exfalso
      cases hd : s.items.drop i with
      | nil => rw [hd] at h'; simp only [forGo, if_neg ok] at h'; exact h'
      | cons d r => rw [hd] at h'; simp only [forGo, if_neg ok] at h'; exact h'
  · obtain ⟨ρ', μ', A', e', rs', r', h'⟩ := q
    rw [List.drop_eq_getElem_cons hi] at h'
    by_cases ok : s.ok μ'
    · simp only [forGo, if_pos ok] at h'
      obtain ⟨d, hd, e2, r2, rd⟩ := (hrun A' μ' H' e' r' ok).2 i x H'' hi y
      rw [List.getElem?_eq_getElem hi] at hd
      cases hd
      refine ⟨ρ', μ', A', _, RS.ext r' e2 rs', r2, rd, ?_⟩
      cases ho : g s.items[i] ρ' μ' with
      | nx ρ2 μ2 =>
        simp only [ho, only] at h'
        intro σ2 A2 H2 e3 r3 rs3
        refine ⟨ρ2, μ2, A2, rs3, r3, ?_⟩
        have h' := PSo.ext (e2.trans e3) h'
        cases hb : b ρ2 μ2 with
        | nx ρ3 μ3 =>
          simp only [hb] at h'
          exact fun σ' A' H' e4 r4 rs4 => ⟨ρ3, μ3, A', e'.trans (e2.trans (e3.trans e4)), rs4, r4, PSo.ext e4 h'⟩
        | ct ρ3 μ3 =>
          simp only [hb] at h'
          exact fun σ' A' H' e4 r4 rs4 => ⟨ρ3, μ3, A', e'.trans (e2.trans (e3.trans e4)), rs4, r4, PSo.ext e4 h'⟩
        | bk ρ3 μ3 => simp only [hb] at h'; exact h'
        | rt d μ3 => simp only [hb] at h'; exact h'
        | ex c fs ρ3 μ3 => simp only [hb] at h'; exact h'
        | no => simp only [hb] at h'; exact h'
      | _ => simp only [ho, only] at h'; exact h'.elim
    · simp only [forGo, if_neg ok] at h'; exact h'.elim
  · obtain ⟨ρ', μ', A', e', rs', r', h'⟩ := q
    rw [List.drop_length] at h'
    by_cases ok : s.ok μ'
    · simp only [forGo, if_pos ok] at h'
      exact h' σ' A' H' (Ext.refl r') r' rs'
    · simp only [forGo, if_neg ok] at h'; exact h'.elim
theorem ds_for {iter : Expr} {body : List Stmt} {wi : M Src} {g : Tg} {b : S} (hp : PassesOwn (model X.prog X.w) X.A X.env X.xe) (hc : X.calm = true) (hi : DI X W tg iter wi) (hg : DG X tg g) (hb : DSs X W body b)
    (hs : ∀ x, foldedSetIterable iter X.env x = pure x := by intro _; rfl) : DS X W (.For tg iter body [] pos) (sFor wi g b) := ps_imp (ps_for hp hc hi hg hb hs) fun D σ H h => for_imp h
/-! ### while -/
def whileN (c : M Bool) (b : S) : Nat → S
  | 0, _, _ => .no
  | n + 1, ρ, μ => match c ρ μ with
    | .ok (true, μ1) => match b ρ μ1 with
      | .nx ρ2 μ2 => whileN c b n ρ2 μ2
      | .ct ρ2 μ2 => whileN c b n ρ2 μ2
      | .bk ρ2 μ2 => .nx ρ2 μ2
      | o => o
    | .ok (false, μ1) => .nx ρ μ1
    | .ex k fs μ1 => .ex k fs ρ μ1
    | .no => .no
open Classical in
noncomputable def sWhile (c : M Bool) (b : S) : S := fun ρ μ => if h : ∃ n, whileN c b n ρ μ ≠ .no then whileN c b h.choose ρ μ else .no
theorem while_imp {g0 : G} {c : M Bool} {b : S} {D : Ends} {σ : L2.St} {H : Hp} (h : TSt g0 W (sWhile c b) D σ H) : tWhile (T g0 REq W c) (TSt g0 W b) D σ H := by
  obtain ⟨ρ, μ, A, rs, rp, h⟩ := h
  unfold sWhile at h
  split at h
  · rename_i hn
    refine ⟨fun n σ' H' => ∃ ρ' μ' A', RS g0.K A' H' ρ' σ' ∧ Rep g0 A' μ' H' ∧ PSo g0 W A' H' (whileN c b n ρ' μ') D, ⟨_, ρ, μ, A, rs, rp, h⟩, fun n σ' H' q => ?_⟩
    obtain ⟨ρ', μ', A', rs', rp', h'⟩ := q
    refine ⟨ρ', μ', A', rs', rp', ?_⟩
    cases n with
    | zero => exact h'.elim
    | succ n =>
      simp only [whileN] at h'
      cases hcc : c ρ' μ' with
      | ok p =>
        obtain ⟨k, μ1⟩ := p
        simp only [hcc] at h'
        intro k' A1 H1 e1 r1 hk
        cases (show k = k' from hk)
        have rs1 := RS.ext rp' e1 rs'
        cases k with
        | true =>
          simp only at h'
          refine iteT ⟨fun σ2 H2 => ∃ ρ' μ' A', RS g0.K A' H2 ρ' σ2 ∧ Rep g0 A' μ' H2 ∧ PSo g0 W A' H2 (whileN c b n ρ' μ') D, fun σ2 H2 q => ⟨n, Nat.lt_succ_self n, q⟩, ρ', μ1, A1, rs1, r1, ?_⟩
          have h' := PSo.ext e1 h'
          cases hb : b ρ' μ1 with
          | nx ρ3 μ3 => simp only [hb] at h'; exact fun σ' A' H' e4 r4 rs4 => ⟨ρ3, μ3, A', rs4, r4, PSo.ext e4 h'⟩
          | ct ρ3 μ3 => simp only [hb] at h'; exact fun σ' A' H' e4 r4 rs4 => ⟨ρ3, μ3, A', rs4, r4, PSo.ext e4 h'⟩
          | bk ρ3 μ3 => simp only [hb] at h'; exact h'
          | rt d μ3 => simp only [hb] at h'; exact h'
          | ex c fs ρ3 μ3 => simp only [hb] at h'; exact h'
          | no => simp only [hb] at h'; exact h'
        | false =>
          simp only at h'
          exact iteF (h' σ' A1 H1 e1 r1 rs1)
      | ex k fs μ1 =>
        simp only [hcc] at h'
        exact fun C dd fvs A2 H2 hm e2 r2 hd hf => h' C dd fvs σ' A2 H2 hm e2 r2 (RS.ext rp' e2 rs') hd hf
      | no => simp only [hcc] at h'; exact h'
  · exact h.elim
theorem ds_while {c : Expr} {body : List Stmt} {mc : M Bool} {b : S} (hp : PassesOwn (model X.prog X.w) X.A X.env X.xe) (hc : DT X W c mc) (hb : DSs X W body b) : DS X W (.While c body [] pos) (sWhile mc b) := ps_imp (ps_while hp hc hb) fun D σ H h => while_imp h
theorem three_of {K : PySem.W.Frag} {A : List Addr} {H : Hp} {d e f : D} {vs : List V} (h : RVs K A H [d, e, f] vs) : ∃ v w u, vs = [v, w, u] ∧ RV K A H d v ∧ RV K A H e w ∧ RV K A H f u := by
  simp only [RVs] at h
  obtain ⟨v, ws, rfl, h1, w, us, rfl, h2, u, xs, rfl, h3, rfl⟩ := h
  exact ⟨v, w, u, rfl, h1, h2, h3⟩
theorem di_range3 {e3 : Expr} (hm : X.mg "range" = none) (ha : DA X W [e, e2, e3] ms) (hg : Gl X "range" := by rfl) (hs : starEach [e, e2, e3] X.env = (false, eval e X.env) :: starEach [e2, e3] X.env := by rfl) (hpl : (backTo pos (starEach [e2, e3] X.env)).any (·.1) = false := by rfl) :
    DI X W tg (.Call (.Name "range" p) [e, e2, e3] [] pos) (mRangeN ms) := pi_imp (pi_range3 hg hm ha hs hpl) fun σ H Q h => by
  obtain ⟨ρ, μ, A, rs, rp, h⟩ := h
  refine ⟨ρ, μ, A, rs, rp, PV.bind h fun ds μ1 vs A1 H1 e1 r1 rv h => ?_⟩
  simp only at h
  split at h
  · rename_i i j
    obtain ⟨v, w, u, rfl, rv1, rv2, rv3⟩ := three_of rv
    cases (show v = _ from rv1); cases (show w = _ from rv2); cases (show u = _ from rv3)
    split at h
    · rename_i hj
      exact ⟨i, j, -1, (i - j).toNat, rfl, RgC.neg hj.1 hj.2.1 hj.2.2.1 hj.2.2.2, h _ A1 H1 (Ext.refl r1) r1 (src_rangeC i (-1) (i - j).toNat)⟩
    · exact h.elim
  · exact h.elim
end
end DL

-- DL7
set_option Elab.async false
set_option linter.all false
set_option maxRecDepth 100000
set_option maxHeartbeats 2000000
/-! DL7: comprehensions, defs and their calls, objects, methods. -/
namespace DL
open PySem L2
variable [Tab]
/-! ### comprehensions -/
def wipeD (ρ : Env) : List Nat → Env
  | [] => ρ
  | v :: vs => (wipeD ρ vs).set v none
theorem RS.wipe {K : PySem.W.Frag} {A : List Addr} {H : Hp} {ρ : Env} {σ : L2.St} (h : RS K A H ρ σ) : ∀ vs, RS K A H (wipeD ρ vs) (wipe σ vs)
  | [] => h
  | v :: vs => RS.unset (RS.wipe h vs) v
open Classical in
noncomputable def lcGo (s : Src) (n : Nat) (g : Tg) (t : M Bool) (e : M D) (ρ : Env) : List D → Store → Out Store
  | [], μ => if s.ok μ then .ok μ else .no
  | d :: r, μ => if s.ok μ then match only (g d ρ μ) with
      | .nx ρ1 μ1 => match t ρ1 μ1 with
        | .ok (true, μ2) => match e ρ1 μ2 with
          | .ok (y, μ3) => match lstAt μ3 n with
            | some acc => if acc.length < 16777216 then lcGo s n g t e ρ r (μ3.set n (.lst (acc ++ [y]))) else .no
            | none => .no
          | _ => .no
        | .ok (false, μ2) => lcGo s n g t e ρ r μ2
        | _ => .no
      | _ => .no
    else .no
noncomputable def mLc (wi : M Src) (vs : List Nat) (g : Tg) (t : M Bool) (e : M D) : M D := fun ρ μ => (wi ρ μ).bind fun p => (lcGo p.1 p.2.length g t e (wipeD ρ vs) p.1.items (p.2 ++ [.lst []])).bind fun μ' => .ok (.ptr p.2.length, μ')
/-- what a comprehension's target must do: store into the wiped slots alone -/
structure LTg (K : PySem.W.Frag) (vs : List Nat) (tg : TG) (g : Tg) : Prop where
  run : ∀ {mg : Str → Option Value} {A : List Addr} {μ : Store} {H : Hp} {ρ : Env} {σ : L2.St} {d : D} {v : V} {Q : L2.St → Hp → Prop}, RS K A H ρ σ → Rep ⟨K, mg⟩ A μ H → RV K A H d v →
    PGo ⟨K, mg⟩ A H (only (g d ρ μ)) (fun σ' H' => wipe σ' vs = wipe σ vs → Q σ' H') → tg v σ H Q
theorem set_wipe {α : Type} [Inhabited α] : ∀ (vs : List Nat) (σ : L2.St) (i : Nat) (o : Option V), i ∈ vs → wipe (σ.set i o) vs = wipe σ vs
  | [], _, _, _, h => by simp at h
  | v :: vs, σ, i, o, h => by
    unfold wipe
    by_cases hi : i ∈ vs
    · rw [set_wipe (α := α) vs σ i o hi]
    · have e : i = v := by
        rcases List.mem_cons.mp h with h | h
        · exact h
        · exact absurd h hi
      subst e
      have : ∀ (ws : List Nat), i ∉ ws → (wipe (σ.set i o) ws) = (wipe σ ws).set i o := by
        intro ws
        induction ws with
        | nil => intro _; rfl
        | cons w ws ih =>
          intro hw
          unfold wipe
          rw [ih (fun z => hw (List.mem_cons_of_mem _ z)), List.set_comm _ _ (fun z => hw (by rw [z]; exact List.mem_cons_self))]
      rw [this vs hi, List.set_set]
theorem ltg_name {K : PySem.W.Frag} {vs : List Nat} {i : Nat} (h : i ∈ vs) : LTg K vs (gName i) (gNm i) := ⟨fun {mg A μ H ρ σ d v Q} rs rp rv h' => h' _ A H (Ext.refl rp) rp (RS.set rs i rv) (set_wipe (α := Nat) vs σ i _ h)⟩
/-- names in a row -/
def gNms : List Nat → TGs
  | [] => gNil
  | i :: is => gCons (gName i) (gNms is)
def gsNms : List Nat → List D → S
  | [] => gsNil
  | i :: is => gsCons (gNm i) (gsNms is)
theorem gnms_run {K : PySem.W.Frag} {mg : Str → Option Value} {vs : List Nat} : ∀ (is : List Nat), (∀ i ∈ is, i ∈ vs) → ∀ {A : List Addr} {μ : Store} {H : Hp} {ρ : Env} {σ : L2.St} {ds : List D} {ws : List V} {Q : L2.St → Hp → Prop}, RS K A H ρ σ → Rep ⟨K, mg⟩ A μ H → RVs K A H ds ws →
    PGo ⟨K, mg⟩ A H (only (gsNms is ds ρ μ)) (fun σ' H' => wipe σ' vs = wipe σ vs → Q σ' H') → gNms is ws σ H Q
  | [], _, A, μ, H, ρ, σ, ds, ws, Q, rs, rp, rv, h => by
    cases ds with
    | nil => exact ⟨rv, h σ A H (Ext.refl rp) rp rs rfl⟩
    | cons d r => exact h.elim
  | i :: is, hi, A, μ, H, ρ, σ, ds, ws, Q, rs, rp, rv, h => by
    cases ds with
    | nil => exact h.elim
    | cons d r =>
      simp only [RVs] at rv
      obtain ⟨v, us, rfl, r1, r2⟩ := rv
      refine ⟨v, us, rfl, ?_⟩
      refine gnms_run is (fun j hj => hi j (List.mem_cons_of_mem _ hj)) (RS.set rs i r1) rp r2 ?_
      have e := set_wipe (α := Nat) vs σ i (some v) (hi i List.mem_cons_self)
      have h : PGo ⟨K, mg⟩ A H (only (gsNms is r (ρ.set i (some d)) μ)) (fun σ' H' => wipe σ' vs = wipe σ vs → Q σ' H') := h
      rw [e]
      exact h
def gTupN (n : Nat) (is : List Nat) : Tg := gTupD n (gsNms is)
theorem ltg_tup {K : PySem.W.Frag} {vs : List Nat} {n : Nat} {is : List Nat} (h : ∀ i ∈ is, i ∈ vs) : LTg K vs (fun v σ H Q => gTup K n (gNms is) v σ H Q ∨ gUnl K n (gNms is) v σ H Q) (gTupN n is) := ⟨fun {mg A μ H ρ σ d v Q} rs rp rv hh => by
  unfold gTupN gTupD at hh
  cases e : seqD μ d with
  | none => rw [e] at hh; exact hh.elim
  | some ds =>
    rw [e] at hh
    simp only at hh
    split at hh
    · rename_i hl
      obtain ⟨a, ws, rfl, h1, h2⟩ := seqD_ok rp e rv
      rcases h1 with h1 | h1
      · exact .inr ⟨a, ws, rfl, h1, (RVs.length h2).trans hl, gnms_run is h rs rp h2 hh⟩
      · exact .inl ⟨a, ws, rfl, h1, (RVs.length h2).trans hl, gnms_run is h rs rp h2 hh⟩
    · exact hh.elim⟩
section
variable {X : Cx} {W : WX}
abbrev DTs (X : Cx) (W : WX) (ifs : List Expr) (t : M Bool) : Prop := PTs X ifs (T (Xg X) REq W t)
def mYes : M Bool := fun _ μ => .ok (true, μ)
theorem dts_nil : DTs X W [] mYes := ⟨fun pins s σ H Q I h => by
  obtain ⟨ρ, μ, A, rs, rp, h⟩ := h
  exact pts_nil.run pins s σ H Q I (h true A H (Ext.refl rp) rp rfl)⟩
theorem dts_one {c : Expr} {t : M Bool} (h : DT X W c t) : DTs X W [c] t := pts_one h
theorem lc_imp {g0 : G} {wi : M Src} {vs : List Nat} {tg : TG} {g : Tg} {t : M Bool} {e : M D} {σ : L2.St} {H : Hp} {Q : VK} (hg : LTg g0.K vs tg g) (h : T g0 (RE g0) W (mLc wi vs g t e) σ H Q) :
    tLc (T g0 (RSrc g0) W wi) tg (T g0 REq W0 t) (T g0 (RE g0) W0 e) vs σ H Q := by
  obtain ⟨ρ, μ, A, rs, rp, h⟩ := h
  refine ⟨ρ, μ, A, rs, rp, PV.bind h fun s μ1 J A1 H1 e1 r1 hJ h => fun Da hDa => ?_⟩
  obtain ⟨Gd, Y, wk, hrun⟩ := hJ
  have hln : A1.length = μ1.length := r1.len
  have e12 := Ext.push (o := .lst []) r1 hDa
  have r2 : Rep g0 (A1 ++ [Da]) (μ1 ++ [.lst []]) (upd H1 Da (.lst [])) := Rep.push r1 hDa ⟨[], upd_same, rfl⟩
  have rs2 := RS.wipe (RS.ext r1 e12 (RS.ext rp e1 rs)) vs
  have hD : (A1 ++ [Da])[μ1.length]? = some Da := by rw [← hln]; simp
  -- what is left of the loop
  let End : List Addr → Hp → Out Store → Prop := fun A H o => match o with
    | .ok μ' => ∀ A' H', Ext A H A' H' → Rep g0 A' μ' H' → Q (.ref Da) H'
    | _ => False
  have h0 : End (A1 ++ [Da]) (upd H1 Da (.lst [])) (lcGo s μ1.length g t e (wipeD ρ vs) s.items (μ1 ++ [.lst []])) := by
    cases ho : lcGo s μ1.length g t e (wipeD ρ vs) s.items (μ1 ++ [.lst []]) with
    | ok μ' =>
      simp only [ho, Out.bind_ok] at h
      exact fun A' H' e' r' => h (.ref Da) A' H' (e12.trans e') r' ⟨Da, rfl, e'.ix hD⟩
    | ex c fs μ' =>
      exfalso
      have : ∀ (l : List D) (μ : Store) c fs μ', lcGo s μ1.length g t e (wipeD ρ vs) l μ ≠ .ex c fs μ' := by
        intro l
        induction l with
        | nil => intro μ c fs μ'; simp only [lcGo]; split <;> exact fun z => nomatch z
        | cons d r ih =>
          intro μ c fs μ'
          simp only [lcGo]
          repeat' split
          all_goals first | exact ih _ _ _ _ | exact fun z => nomatch z
      exact this _ _ _ _ _ ho
    | no => simp only [ho, Out.bind_no] at h; exact h.elim
  have Ee : ∀ {A H A' H'} (o : Out Store), Ext A H A' H' → End A H o → End A' H' o := fun o e' q => by
    cases o with
    | ok μ' => exact fun A2 H2 e2 => q A2 H2 (e'.trans e2)
    | _ => exact q
  refine lc_it wk (fun i H' => ∃ μ' A', Ext (A1 ++ [Da]) (upd H1 Da (.lst [])) A' H' ∧ Rep g0 A' μ' H' ∧ End A' H' (lcGo s μ1.length g t e (wipeD ρ vs) (s.items.drop i) μ')) ⟨_, _, Ext.refl r2, r2, by simpa using h0⟩ (fun i H' hi q => ?_) (fun i x H' H'' hi q y => ?_) fun H' q => ?_
  · obtain ⟨μ', A', e', r', h'⟩ := q
    by_cases ok : s.ok μ'
    · exact (hrun A' μ' H' (e12.trans e') r' ok).1
    · exfalso
      cases hd : s.items.drop i with
      | nil => rw [hd] at h'; simp only [lcGo, if_neg ok] at h'; exact h'
      | cons d r => rw [hd] at h'; simp only [lcGo, if_neg ok] at h'; exact h'
  · obtain ⟨μ', A', e', r', h'⟩ := q
    rw [List.drop_eq_getElem_cons hi] at h'
    by_cases ok : s.ok μ'
    · simp only [lcGo, if_pos ok] at h'
      obtain ⟨d, hd, e3, r3, rd⟩ := (hrun A' μ' H' (e12.trans e') r' ok).2 i x H'' hi y
      rw [List.getElem?_eq_getElem hi] at hd
      cases hd
      have rs3 := RS.ext r' e3 (RS.ext r2 e' rs2)
      refine hg.run (mg := g0.mg) rs3 r3 rd ?_
      have h' := Ee _ e3 h'
      cases ho : g s.items[i] (wipeD ρ vs) μ' with
      | nx ρ2 μ2 =>
        simp only [ho, only] at h' ⊢
        intro σ4 A4 H4 e4 r4 rs4 hw
        have hww : ∀ ws : List Nat, wipe (wipe σ ws) ws = wipe σ ws := fun ws => by
          have : ∀ (us ws : List Nat), (∀ v ∈ us, v ∈ ws) → wipe (wipe σ us) ws = wipe σ ws := by
            intro us
            induction us with
            | nil => intro ws _; rfl
            | cons v us ih =>
              intro ws hs
              show wipe ((wipe σ us).set v none) ws = wipe σ ws
              rw [set_wipe (α := Nat) ws _ v none (hs v List.mem_cons_self), ih ws fun u hu => hs u (List.mem_cons_of_mem _ hu)]
          exact this ws ws fun v hv => hv
        refine ⟨hw.trans (hww vs), ρ2, μ2, A4, rs4, r4, ?_⟩
        have h' := Ee _ e4 h'
        cases ht : t ρ2 μ2 with
        | ok p =>
          obtain ⟨b, μ5⟩ := p
          simp only [ht] at h'
          intro b' A5 H5 e5 r5 hb
          cases (show b = b' from hb)
          cases b with
          | false =>
            simp only at h'
            exact iteF ⟨μ5, A5, e'.trans (e3.trans (e4.trans e5)), r5, Ee _ e5 h'⟩
          | true =>
            simp only at h'
            refine iteT ⟨ρ2, μ5, A5, RS.ext r4 e5 rs4, r5, ?_⟩
            have h' := Ee _ e5 h'
            cases he : e ρ2 μ5 with
            | ok p =>
              obtain ⟨yd, μ6⟩ := p
              simp only [he] at h'
              intro yv A6 H6 e6 r6 ry
              have hD6 : A6[μ1.length]? = some Da := (e'.trans (e3.trans (e4.trans (e5.trans e6)))).ix hD
              split at h'
              · rename_i acc ha
                obtain ⟨accv, k1, k2⟩ := Rep.lstA r6 hD6 ha
                split at h'
                · rename_i hz
                  have ew := Ext.write (o := .lst (accv ++ [yv])) r6 hD6
                  refine ⟨accv, k1, by rw [sizeLine_eq, RVs.length k2]; exact hz, _, A6, e'.trans (e3.trans (e4.trans (e5.trans (e6.trans ew)))), Rep.write (m := .lst (acc ++ [yd])) r6 hD6 ⟨_, upd_same, RVs.ext r6 ew _ _ (RVs.append k2 (RVs.one ry))⟩, Ee _ (e6.trans ew) h'⟩
                · exact h'.elim
              · exact h'.elim
            | _ => simp only [he] at h'; exact h'.elim
        | _ => simp only [ht] at h'; exact h'.elim
      | _ => simp only [ho, only] at h'; exact h'.elim
    · simp only [lcGo, if_neg ok] at h'; exact h'.elim
  · obtain ⟨μ', A', e', r', h'⟩ := q
    rw [List.drop_length] at h'
    by_cases ok : s.ok μ'
    · simp only [lcGo, if_pos ok] at h'
      exact h' A' H' (Ext.refl r') r'
    · simp only [lcGo, if_neg ok] at h'; exact h'.elim
theorem de_lc {elt tgt iter : Expr} {ifs : List Expr} {scope : Scope} {own : List (Str × Nat)} {pos : Pos} {wi : M Src} {tg : TG} {g : Tg} {t : M Bool} {e : M D} (hc : X.calm = true) (hN : X.N.Nodup) (hi : DI X W tgt iter wi) (ok : BlkOk X.N X.env.scope scope own)
    (hL : LTg X.K (own.map (·.2)) tg g)
    (hg : ∀ (s : Shared) (H : Hp) (C : Addr) (cl : List (Str × Addr)) (fp : List Addr), PG (X.blk s H scope (compEnvC scope cl C X.env) fp) tgt tg) (ht : ∀ (s : Shared) (H : Hp) (C : Addr) (cl : List (Str × Addr)) (fp : List Addr), DTs (X.blk s H scope (compEnvC scope cl C X.env) fp) W0 ifs t)
    (he : ∀ (s : Shared) (H : Hp) (C : Addr) (cl : List (Str × Addr)) (fp : List Addr), DE (X.blk s H scope (compEnvC scope cl C X.env) fp) W0 elt e) (hs : ∀ x, foldedSetIterable iter X.env x = pure x := by intro _; rfl) :
    DE X W (.ListComp elt [⟨tgt, iter, ifs, 0⟩] scope pos) (mLc wi (own.map (·.2)) g t e) :=
  pe_imp (pe_lc (tt := T (Xg X) REq W0 t) (te := T (Xg X) (RE (Xg X)) W0 e) hc hN hi ok hg ht he hs) fun σ H Q h => lc_imp hL h
theorem ds_lc {i : Nat} {y : Str} {py : Pos} {elt tgt iter : Expr} {ifs : List Expr} {scope : Scope} {own : List (Str × Nat)} {pos spos : Pos} {wi : M Src} {tg : TG} {g : Tg} {t : M Bool} {e : M D} (hc : X.calm = true) (hN : X.N.Nodup) (hi : DI X W tgt iter wi) (ok : BlkOk X.N X.env.scope scope own)
    (hL : LTg X.K (own.map (·.2)) tg g)
    (hg : ∀ (s : Shared) (H : Hp) (C : Addr) (cl : List (Str × Addr)) (fp : List Addr), PG (X.blk s H scope (compEnvC scope cl C X.env) fp) tgt tg) (ht : ∀ (s : Shared) (H : Hp) (C : Addr) (cl : List (Str × Addr)) (fp : List Addr), DTs (X.blk s H scope (compEnvC scope cl C X.env) fp) W0 ifs t)
    (he : ∀ (s : Shared) (H : Hp) (C : Addr) (cl : List (Str × Addr)) (fp : List Addr), DE (X.blk s H scope (compEnvC scope cl C X.env) fp) W0 elt e) (hsw : swapsWith (.ListComp elt [⟨tgt, iter, ifs, 0⟩] scope pos) (some (.Name y py)) spos.line X.env = pure true)
    (hy : X.N[i]? = some y := by rfl) (hyl : X.env.scope.names.lookup y = some .local := by rfl)
    (hs : ∀ x, foldedSetIterable iter X.env x = pure x := by intro _; rfl) :
    DS X W (.Assign [.Name y py] (.ListComp elt [⟨tgt, iter, ifs, 0⟩] scope pos) spos) (sSet (mLc wi (own.map (·.2)) g t e) (gNm i)) :=
  ps_imp (ps_setLc (tt := T (Xg X) REq W0 t) (te := T (Xg X) (RE (Xg X)) W0 e) hc hN hy hyl hsw hi ok hg ht he hs) fun D σ H h => by
    have q : T (Xg X) (RE (Xg X)) W (mLc wi (own.map (·.2)) g t e) σ H (fun x H1 => gName i x σ H1 D.nx) := sE_imp (k := fun d ρ μ => only (gNm i d ρ μ)) h fun d v ρ μ A H1 rs rp rv h => h _ A H1 (Ext.refl rp) rp (RS.set rs i rv)
    exact lc_imp hL q
/-! ### defs -/
def PF (g : G) (E : XK) (A : List Addr) (H : Hp) (o : Out (D × Store)) (Q : VK) : Prop := PV g (RE g) (fun c d _ H' => E c d H') [] A H o Q
/-- a def's promise: it is worth what f tells -/
def spF (g : G) (n : Nat) (f : List D → Store → Out (D × Store)) : Sp := fun vs H Q E => ∃ ds μ A, Rep g A μ H ∧ RVs g.K A H ds vs ∧ ds.length = n ∧ PF g E A H (f ds μ) Q
def runF (n : Nat) (b : S) (ds : List D) (μ : Store) : Out (D × Store) := match b (ds.map some ++ List.replicate (n - ds.length) none) μ with
  | .nx _ μ' => .ok (.non, μ')
  | .rt d μ' => .ok (d, μ')
  | .ex c fs _ μ' => .ex c fs μ'
  | _ => .no
abbrev WD (E : XK) : WX := fun c d _ H => E c d H
theorem rs_start {K : PySem.W.Frag} {A : List Addr} {H : Hp} {N : List Str} {ds : List D} {vs : List V} (h : RVs K A H ds vs) : RS K A H (ds.map some ++ List.replicate (N.length - ds.length) none) (L2.start N vs) := by
  have hl := RVs.length h
  refine ⟨by unfold L2.start; simp [hl], fun i d e => ?_⟩
  by_cases hi : i < ds.length
  · rw [List.getElem?_append_left (by simpa using hi), List.getElem?_map] at e
    cases q : ds[i]? with
    | none => rw [q] at e; cases e
    | some d' =>
      rw [q] at e
      cases e
      obtain ⟨v, hv, rv⟩ := RVs.get h q
      refine ⟨v, ?_, rv⟩
      unfold L2.start
      rw [List.getElem?_append_left (by rw [List.length_map]; omega), List.getElem?_map, hv]
      rfl
  · rw [List.getElem?_append_right (by simpa using hi), List.getElem?_replicate] at e
    split at e <;> cases e
end
section
variable {P : Program} {w : World} {K : PySem.W.Frag} {mg : Str → Option Value} {base : Heap}
theorem run_imp {g : G} {N : List Str} {b : S} {n : Nat} {vs : List V} {H : Hp} {Q : VK} {E : XK} (h : spF g n (runF N.length b) vs H Q E) : TSt g (WD E) b { nx := fun _ H' => Q .non H', rt := Q } (L2.start N vs) H := by
  obtain ⟨ds, μ, A, rp, rv, hn, h⟩ := h
  refine ⟨_, μ, A, rs_start rv, rp, ?_⟩
  unfold PF runF at h
  cases e : b (ds.map some ++ List.replicate (N.length - ds.length) none) μ with
  | nx ρ μ' => rw [e] at h; exact fun σ' A' H' e' r' _ => h .non A' H' e' r' rfl
  | rt d μ' => rw [e] at h; exact h
  | ex c fs ρ μ' => rw [e] at h; exact fun C dd fvs σ' A' H' hm e' r' _ hd hf => h C dd fvs A' H' hm e' r' hd hf
  | _ => rw [e] at h; exact h.elim
theorem fn_body {x qual : Str} {st : Stmt} {f : Addr} {fd : FuncData} {N ps : List Str} {k : Nat} (F : Fun K x qual st f fd) (Sc : FnScope N ps (defScope st)) {b : S}
    (hb : ∀ (cdv : Value) (A : Around) (outer : List PySem.Env) (s : Shared) (H : Hp) (E : XK), Room k (A.deeper (PyProof.Rows.envOfC qual (defScope st) s.heap.objs.size f cdv)) →
      DSs (cxOf (L2.CX P w) P w K mg base N qual (defScope st) f cdv A outer s H E) (WD E) (defBody st) b) : FnOk P w K mg base (L2.CX P w) (k + 1) f fd ps (spF ⟨K, mg⟩ ps.length (runF N.length b)) := by
  refine F.okX Sc (fun vs H Q E h => ?_) (fun cdv A outer s H vs Q E hr h => ⟨_, hb cdv A outer s H E hr, run_imp h⟩)
  obtain ⟨ds, μ, A, rp, rv, hn, h⟩ := h
  rw [RVs.length rv, hn]
/-- the same promise, told otherwise -/
theorem fn_eq {k : Nat} {f : Addr} {fd : FuncData} {ps : List Str} {n : Nat} {m m' : List D → Store → Out (D × Store)} (F : FnOk P w K mg base (L2.CX P w) k f fd ps (spF ⟨K, mg⟩ n m)) (h : ∀ ds μ, m' ds μ = .no ∨ m' ds μ = m ds μ) : FnOk P w K mg base (L2.CX P w) k f fd ps (spF ⟨K, mg⟩ n m') :=
  F.imp fun vs H Q E q => by
    obtain ⟨ds, μ, A, rp, rv, hn, q⟩ := q
    refine ⟨ds, μ, A, rp, rv, hn, ?_⟩
    rcases h ds μ with e | e
    · rw [e] at q; exact q.elim
    · rw [e] at q; exact q
end
/-! ### a def that touches nothing of the store: what it made on the way is forgotten -/
def noPtr : D → Bool
  | .ptr _ => false
  | .tup ds => noPtrs ds
  | .rol _ => false
  | .kst _ => false
  | .lam _ _ _ ds => noPtrs ds
  | _ => true
where noPtrs : List D → Bool
  | [] => true
  | d :: ds => noPtr d && noPtrs ds
def noPtrF (fs : List (Str × D)) : Bool := fs.all fun p => noPtr p.2
mutual
theorem RV.free {K : PySem.W.Frag} {A A' : List Addr} {H : Hp} : ∀ (d : D) (v : V), noPtr d = true → RV K A H d v → RV K A' H d v
  | .non, _, _, h => h
  | .bl _, _, _, h => h
  | .int _, _, _, h => h
  | .str _, _, _, h => h
  | .raw _, _, _, h => h
  | .ptr _, _, n, _ => by simp [noPtr] at n
  | .tup ds, _, n, h => by
    simp only [RV] at h ⊢
    obtain ⟨a, vs, q, h1, h2⟩ := h
    exact ⟨a, vs, q, h1, RVs.free ds vs (by simpa [noPtr] using n) h2⟩
  | .rol _, _, n, _ => by simp [noPtr] at n
  | .kst _, _, n, _ => by simp [noPtr] at n
  | .lam L cl us ds, _, n, h => by
    simp only [RV] at h ⊢
    obtain ⟨f, c, q, h1, h2, h3⟩ := h
    exact ⟨f, c, q, h1, h2, RVs.free ds us (by simpa [noPtr] using n) h3⟩
theorem RVs.free {K : PySem.W.Frag} {A A' : List Addr} {H : Hp} : ∀ (ds : List D) (vs : List V), noPtr.noPtrs ds = true → RVs K A H ds vs → RVs K A' H ds vs
  | [], _, _, h => h
  | d :: ds, _, n, h => by
    simp only [RVs] at h ⊢
    simp only [noPtr.noPtrs, Bool.and_eq_true] at n
    obtain ⟨v, ws, q, h1, h2⟩ := h
    exact ⟨v, ws, q, RV.free d v n.1 h1, RVs.free ds ws n.2 h2⟩
end
theorem RFs.free {K : PySem.W.Frag} {A A' : List Addr} {H : Hp} : ∀ (ds : List (Str × D)) (vs : List (Str × V)), noPtrF ds = true → RFs K A H ds vs → RFs K A' H ds vs
  | [], _, _, h => h
  | (f, d) :: ds, _, n, h => by
    simp only [noPtrF, List.all_cons, Bool.and_eq_true] at n
    obtain ⟨v, ws, q, h1, h2⟩ := h
    exact ⟨v, ws, q, RV.free d v n.1 h1, RFs.free ds ws n.2 h2⟩
/-! ### what a def leaves behind: lists that nobody writes any more -/
mutual
/-- each ptr by h; r: whether frozen lists may stand there -/
def mapD (r : Bool) (h : Nat → Option D) : D → Option D
  | .ptr n => h n
  | .tup ds => (mapDs r h ds).map .tup
  | .rol ds => if r = true then (mapDs r h ds).map .rol else none
  | .kst ds => if r = true then (mapDs r h ds).map .kst else none
  | .lam L cl us ds => (mapDs r h ds).map (.lam L cl us)
  | .non => some .non
  | .bl b => some (.bl b)
  | .int i => some (.int i)
  | .str x => some (.str x)
  | .raw a => some (.raw a)
def mapDs (r : Bool) (h : Nat → Option D) : List D → Option (List D)
  | [] => some []
  | d :: ds => match mapD r h d, mapDs r h ds with
    | some a, some b => some (a :: b)
    | _, _ => none
end
def mapFs (r : Bool) (h : Nat → Option D) : List (Str × D) → Option (List (Str × D))
  | [] => some []
  | (f, d) :: fs => match mapD r h d, mapFs r h fs with
    | some a, some b => some ((f, a) :: b)
    | _, _ => none
def mapKs {κ : Type} (r : Bool) (h : Nat → Option D) : List (κ × D) → Option (List (κ × D))
  | [] => some []
  | (f, d) :: fs => match mapD r h d, mapKs r h fs with
    | some a, some b => some ((f, a) :: b)
    | _, _ => none
/-- a list of the store behind L is frozen -/
def frzH (r : Bool) (L : Nat) (μ : Store) : Nat → Nat → Option D
  | 0, k => if k < L then some (.ptr k) else none
  | f + 1, k => if k < L then some (.ptr k) else match lstAt μ k with
    | some ds => (mapDs r (frzH r L μ f) ds).map .rol
    | none => none
section
variable {K : PySem.W.Frag} {A A1 : List Addr} {H : Hp} {r : Bool} {h : Nat → Option D}
mutual
theorem mapD_ok (hh : ∀ n d' v, h n = some d' → RV K A H (.ptr n) v → RV K A1 H d' v) (hA : r = true → ∀ a ∈ A1, a ∈ A) : ∀ (d d' : D) (v : V), mapD r h d = some d' → RV K A H d v → RV K A1 H d' v
  | .non, _, _, e, k => by simp only [mapD] at e; cases e; exact k
  | .bl _, _, _, e, k => by simp only [mapD] at e; cases e; exact k
  | .int _, _, _, e, k => by simp only [mapD] at e; cases e; exact k
  | .str _, _, _, e, k => by simp only [mapD] at e; cases e; exact k
  | .raw _, _, _, e, k => by simp only [mapD] at e; cases e; exact k
  | .ptr n, _, _, e, k => by simp only [mapD] at e; exact hh _ _ _ e k
  | .tup ds, _, _, e, k => by
    simp only [mapD, Option.map_eq_some_iff] at e
    obtain ⟨es, e, rfl⟩ := e
    simp only [RV] at k ⊢
    obtain ⟨a, vs, q, h1, h2⟩ := k
    exact ⟨a, vs, q, h1, mapDs_ok hh hA ds es vs e h2⟩
  | .rol ds, _, _, e, k => by
    simp only [mapD] at e
    split at e
    · rename_i hr
      obtain ⟨es, e9, rfl⟩ := Option.map_eq_some_iff.mp e
      simp only [RV] at k ⊢
      obtain ⟨a, vs, q, h1, h2⟩ := k
      refine ⟨a, vs, q, ?_, mapDs_ok hh hA ds es vs e9 h2⟩
      exact ⟨h1.1, fun z => h1.2 (hA hr a z)⟩
    · cases e
  | .kst ds, _, _, e, k => by
    simp only [mapD] at e
    split at e
    · rename_i hr
      obtain ⟨es, e9, rfl⟩ := Option.map_eq_some_iff.mp e
      simp only [RV] at k ⊢
      obtain ⟨a, vs, q, h1, h2⟩ := k
      refine ⟨a, vs, q, ?_, mapDs_ok hh hA ds es vs e9 h2⟩
      rcases h1 with h1 | ⟨h1, n⟩ | h1
      · exact .inl h1
      · exact .inr (.inl ⟨h1, fun z => n (hA hr a z)⟩)
      · exact .inr (.inr h1)
    · cases e
  | .lam L cl us ds, _, _, e, k => by
    simp only [mapD, Option.map_eq_some_iff] at e
    obtain ⟨es, e, rfl⟩ := e
    simp only [RV] at k ⊢
    obtain ⟨f, c, q, h1, h2, h3⟩ := k
    exact ⟨f, c, q, h1, h2, mapDs_ok hh hA ds es us e h3⟩
theorem mapDs_ok (hh : ∀ n d' v, h n = some d' → RV K A H (.ptr n) v → RV K A1 H d' v) (hA : r = true → ∀ a ∈ A1, a ∈ A) : ∀ (ds ds' : List D) (vs : List V), mapDs r h ds = some ds' → RVs K A H ds vs → RVs K A1 H ds' vs
  | [], _, _, e, k => by simp only [mapDs] at e; cases e; exact k
  | d :: ds, _, _, e, k => by
    simp only [RVs] at k
    obtain ⟨v, ws, rfl, k1, k2⟩ := k
    simp only [mapDs] at e
    split at e
    · rename_i a b e1 e2
      cases e
      exact ⟨v, ws, rfl, mapD_ok hh hA d a v e1 k1, mapDs_ok hh hA ds b ws e2 k2⟩
    · cases e
end
theorem mapFs_ok (hh : ∀ n d' v, h n = some d' → RV K A H (.ptr n) v → RV K A1 H d' v) (hA : r = true → ∀ a ∈ A1, a ∈ A) : ∀ (ds ds' : List (Str × D)) (vs : List (Str × V)), mapFs r h ds = some ds' → RFs K A H ds vs → RFs K A1 H ds' vs
  | [], _, _, e, k => by simp only [mapFs] at e; cases e; exact k
  | (f, d) :: ds, _, _, e, k => by
    obtain ⟨v, ws, rfl, k1, k2⟩ := k
    simp only [mapFs] at e
    split at e
    · rename_i a b e1 e2
      cases e
      exact ⟨v, ws, rfl, mapD_ok hh hA d a v e1 k1, mapFs_ok hh hA ds b ws e2 k2⟩
    · cases e
theorem mapKs_ok {κ : Type} (hh : ∀ n d' v, h n = some d' → RV K A H (.ptr n) v → RV K A1 H d' v) (hA : r = true → ∀ a ∈ A1, a ∈ A) : ∀ (ds ds' : List (κ × D)) (vs : List (κ × V)), mapKs r h ds = some ds' → RKs K A H ds vs → RKs K A1 H ds' vs
  | [], _, _, e, k => by simp only [mapKs] at e; cases e; exact k
  | (f, d) :: ds, _, _, e, k => by
    obtain ⟨v, ws, rfl, k1, k2⟩ := k
    simp only [mapKs] at e
    split at e
    · rename_i a b e1 e2
      cases e
      exact ⟨v, ws, rfl, mapD_ok hh hA d a v e1 k1, mapKs_ok hh hA ds b ws e2 k2⟩
    · cases e
end
theorem frzH_ok {g : G} {A A1 : List Addr} {μ : Store} {H : Hp} {r : Bool} {L : Nat} (rp : Rep g A μ H) (h1 : ∀ k a, k < L → A[k]? = some a → A1[k]? = some a) (h2 : ∀ k a, ¬ k < L → A[k]? = some a → a ∉ A1) (hA : r = true → ∀ a ∈ A1, a ∈ A) :
    ∀ (f n : Nat) (d' : D) (v : V), frzH r L μ f n = some d' → RV g.K A H (.ptr n) v → RV g.K A1 H d' v
  | 0, n, d', v, e, k => by
    simp only [frzH] at e
    split at e
    · rename_i hn
      cases e
      simp only [RV] at k ⊢
      obtain ⟨a, rfl, ha⟩ := k
      exact ⟨a, rfl, h1 n a hn ha⟩
    · cases e
  | f + 1, n, d', v, e, k => by
    simp only [frzH] at e
    split at e
    · rename_i hn
      cases e
      simp only [RV] at k ⊢
      obtain ⟨a, rfl, ha⟩ := k
      exact ⟨a, rfl, h1 n a hn ha⟩
    · rename_i hn
      split at e
      · rename_i ds em
        obtain ⟨es, e9, rfl⟩ := Option.map_eq_some_iff.mp e
        simp only [RV] at k ⊢
        obtain ⟨a, rfl, ha⟩ := k
        obtain ⟨vs, k1, k2⟩ := Rep.lstA rp ha em
        exact ⟨a, vs, rfl, ⟨k1, h2 n a hn ha⟩, mapDs_ok (frzH_ok rp h1 h2 hA f) hA ds es vs e9 k2⟩
      · cases e
/-- a def that touches nothing of the store: what it made on the way is forgotten -/
def pureF (m : List D → Store → Out (D × Store)) (ds : List D) (μ : Store) : Out (D × Store) := match mapDs true (frzH true 0 μ 4) ds with
  | some es => match m es [] with
    | .ok (d, ν) => match mapD false (frzH false 0 ν 4) d with
      | some d' => .ok (d', μ)
      | none => .no
    | .ex c fs ν => match mapFs false (frzH false 0 ν 4) fs with
      | some fs' => .ex c fs' μ
      | none => .no
    | .no => .no
  | none => .no
theorem rep_nil {g : G} {A : List Addr} {μ : Store} {H : Hp} (rp : Rep g A μ H) : Rep g [] [] H := ⟨rp.tab, rfl, List.nodup_nil, fun n a o h _ => by simp at h⟩
theorem ext_pure {g : G} {A A' : List Addr} {μ : Store} {H H' : Hp} (rp : Rep g A μ H) (e : Ext [] H A' H') : Ext A H A H' := ⟨⟨[], by simp, by simp⟩, fun b o _ h n => e.frm b o (by simp) h n, e.nn, rp.dom, fun a ha z => rp.dom a ha (e.nn a z)⟩
theorem rep_pure {g : G} {A A' : List Addr} {μ μ' : Store} {H H' : Hp} (rp : Rep g A μ H) (e : Ext [] H A' H') (r' : Rep g A' μ' H') : Rep g A μ H' := by
  refine ⟨r'.tab, rp.len, rp.nd, fun n a o ha ho => RO.ext rp (ext_pure rp e) ?_ (rp.obj n a o ha ho)⟩
  cases h : H a with
  | none => exact absurd h (rp.dom a (List.mem_of_getElem? ha))
  | some u =>
    refine e.frm a u (by simp) h fun ps z => ?_
    subst z
    exact rp.apart h (fun _ z => nomatch z) (fun _ _ _ z => nomatch z) (fun _ z => nomatch z) (fun _ z => nomatch z) (List.mem_of_getElem? ha)
theorem fn_pure {P : Program} {w : World} {K : PySem.W.Frag} {mg : Str → Option Value} {base : Heap} {k : Nat} {f : Addr} {fd : FuncData} {ps : List Str} {n : Nat} {m : List D → Store → Out (D × Store)} (F : FnOk P w K mg base (L2.CX P w) k f fd ps (spF ⟨K, mg⟩ n m)) :
    FnOk P w K mg base (L2.CX P w) k f fd ps (spF ⟨K, mg⟩ n (pureF m)) := F.imp fun vs H Q E q => by
  obtain ⟨ds, μ, A, rp, rv, hn, q⟩ := q
  unfold pureF at q
  cases e0 : mapDs true (frzH true 0 μ 4) ds with
  | none => simp only [e0] at q; exact q.elim
  | some es =>
    simp only [e0] at q
    have rv' : RVs K [] H es vs := mapDs_ok (frzH_ok rp (A1 := []) (fun _ _ z => absurd z (Nat.not_lt_zero _)) (fun _ _ _ _ => by simp) (fun _ a z => by cases z) 4) (fun _ a z => by cases z) ds es vs e0 rv
    refine ⟨es, [], [], rep_nil rp, rv', (RVs.length rv').symm.trans ((RVs.length rv).trans hn), ?_⟩
    unfold PF at q ⊢
    have back : ∀ {A' : List Addr} {ν : Store} {H' : Hp}, Ext [] H A' H' → Rep ⟨K, mg⟩ A' ν H' → ∀ (n : Nat) (d' : D) (v : V), frzH false 0 ν 4 n = some d' → RV K A' H' (.ptr n) v → RV K A H' d' v := fun {A' ν H'} e' r' => by
      refine frzH_ok r' (fun _ _ z => absurd z (Nat.not_lt_zero _)) (fun k a _ ha z => ?_) (fun z => by cases z) 4
      obtain ⟨B, hB, hf⟩ := e'.pre
      rw [List.nil_append] at hB
      exact rp.dom a z (hf a (hB ▸ List.mem_of_getElem? ha))
    cases e : m es [] with
    | ok p =>
      obtain ⟨d, μ'⟩ := p
      simp only [e] at q
      split at q
      · rename_i d' hd
        exact fun v A' H' e' r' rd => q v A H' (ext_pure rp e') (rep_pure rp e' r') (mapD_ok (back e' r') (fun z => by cases z) d d' v hd rd)
      · exact q.elim
    | ex c fs μ' =>
      simp only [e] at q
      split at q
      · rename_i fs' hd
        exact fun C dd fvs A' H' hm e' r' hx hf => q C dd fvs A H' hm (ext_pure rp e') (rep_pure rp e' r') hx (mapFs_ok (back e' r') (fun z => by cases z) fs fs' fvs hd hf)
      · exact q.elim
    | no => simp only [e] at q; exact q.elim
/-! ### what was made on the way is forgotten, what is handed on is frozen -/
def gcO (h : Nat → Option D) : MO → Option MO
  | .lst ds => (mapDs true h ds).map .lst
  | .ins c fs => (mapFs true h fs).map (.ins c)
  | .dK kvs => (mapKs true h kvs).map .dK
  | .dT kvs => (mapKs true h kvs).map .dT
open Classical in
/-- the objects that were there: unchanged, or with what they hold frozen -/
noncomputable def gcL (h : Nat → Option D) : Store → Store → Option Store
  | [], _ => some []
  | _ :: _, [] => none
  | o :: μ, o' :: ν => match (if o' = o then some o else gcO h o'), gcL h μ ν with
    | some a, some b => some (a :: b)
    | _, _ => none
noncomputable def gcS (k : Nat) (μ ν : Store) : Option Store := match gcL (frzH true (μ.length + k) ν 4) μ ν, mapO (gcO (frzH true (μ.length + k) ν 4)) ((ν.drop μ.length).take k) with
  | some a, some b => some (a ++ b)
  | _, _ => none
noncomputable def gcOut (k : Nat) (μ : Store) (o : Out (D × Store)) : Out (D × Store) := match o with
  | .ok (d, ν) => match mapD true (frzH true (μ.length + k) ν 4) d, gcS k μ ν with
    | some d', some ν' => .ok (d', ν')
    | _, _ => .no
  | .ex c fs ν => match mapFs true (frzH true (μ.length + k) ν 4) fs, gcS k μ ν with
    | some fs', some ν' => .ex c fs' ν'
    | _, _ => .no
  | .no => .no
section
variable {g : G} {A A' : List Addr} {μ ν ν' : Store} {H H' : Hp}
theorem gcL_get {h : Nat → Option D} : ∀ {μ ν ν' : Store}, gcL h μ ν = some ν' → ν'.length = μ.length ∧ μ.length ≤ ν.length ∧ ∀ (n : Nat) (o : MO), ν'[n]? = some o → ∃ o', ν[n]? = some o' ∧ ((o' = o ∧ μ[n]? = some o) ∨ gcO h o' = some o)
  | [], ν, ν', e => by simp only [gcL] at e; cases e; exact ⟨rfl, Nat.zero_le _, fun n o z => by simp at z⟩
  | _ :: _, [], _, e => by simp only [gcL] at e; cases e
  | o :: μ, o' :: ν, ν', e => by
    simp only [gcL] at e
    split at e
    · rename_i a b e1 e2
      cases e
      obtain ⟨h1, h2, h3⟩ := gcL_get e2
      refine ⟨by simp [h1], by simp [h2], fun n x hx => ?_⟩
      cases n with
      | zero =>
        simp only [List.getElem?_cons_zero] at hx ⊢
        cases hx
        refine ⟨o', rfl, ?_⟩
        split at e1
        · rename_i heq
          cases e1
          exact .inl ⟨heq, rfl⟩
        · exact .inr e1
      | succ n =>
        simp only [List.getElem?_cons_succ] at hx ⊢
        exact h3 n x hx
    · cases e
theorem mapO_get {α β : Type} {f : α → Option β} : ∀ {l : List α} {m : List β}, mapO f l = some m → m.length = l.length ∧ ∀ (n : Nat) (b : β), m[n]? = some b → ∃ a, l[n]? = some a ∧ f a = some b
  | [], m, e => by simp only [mapO] at e; cases e; exact ⟨rfl, fun n b z => by simp at z⟩
  | a :: l, m, e => by
    simp only [mapO] at e
    split at e
    · rename_i b bs e1 e2
      cases e
      obtain ⟨h1, h2⟩ := mapO_get e2
      refine ⟨by simp [h1], fun n x hx => ?_⟩
      cases n with
      | zero => simp only [List.getElem?_cons_zero] at hx ⊢; cases hx; exact ⟨a, rfl, e1⟩
      | succ n => simp only [List.getElem?_cons_succ] at hx ⊢; exact h2 n x hx
    · cases e
theorem gcO_ok {A1 : List Addr} {h : Nat → Option D} (hh : ∀ n d' v, h n = some d' → RV g.K A' H' (.ptr n) v → RV g.K A1 H' d' v) (hA : ∀ a ∈ A1, a ∈ A') {a : Addr} {o o' : MO} (e : gcO h o' = some o) (k : RO g A' H' a o') : RO g A1 H' a o := by
  cases o' with
  | lst ds =>
    obtain ⟨es, e9, rfl⟩ := Option.map_eq_some_iff.mp e
    obtain ⟨vs, q, k⟩ := k
    exact ⟨vs, q, mapDs_ok hh (fun _ => hA) _ _ _ e9 k⟩
  | ins c fs =>
    obtain ⟨es, e9, rfl⟩ := Option.map_eq_some_iff.mp e
    obtain ⟨C, dx, fvs, q1, q2, k⟩ := k
    exact ⟨C, dx, fvs, q1, q2, mapFs_ok hh (fun _ => hA) _ _ _ e9 k⟩
  | dK kvs =>
    obtain ⟨es, e9, rfl⟩ := Option.map_eq_some_iff.mp e
    obtain ⟨ws, q, k⟩ := k
    exact ⟨ws, q, mapKs_ok hh (fun _ => hA) _ _ _ e9 k⟩
  | dT kvs =>
    obtain ⟨es, e9, rfl⟩ := Option.map_eq_some_iff.mp e
    obtain ⟨ws, q, k⟩ := k
    exact ⟨ws, q, mapKs_ok hh (fun _ => hA) _ _ _ e9 k⟩
mutual
/-- what stood for a thing and still stands for it there, looks at nothing newer -/
theorem RV.old {K : PySem.W.Frag} {A1 : List Addr} (h1 : ∀ (k : Nat) (a b : Addr), A[k]? = some b → A'[k]? = some a → A1[k]? = some a) (hA : ∀ a ∈ A1, a ∈ A') : ∀ (d : D) (u v : V), RV K A H d u → RV K A' H' d v → RV K A1 H' d v
  | .non, _, _, _, k => k
  | .bl _, _, _, _, k => k
  | .int _, _, _, _, k => k
  | .str _, _, _, _, k => k
  | .raw _, _, _, _, k => k
  | .ptr n, _, _, j, k => by
    simp only [RV] at j k ⊢
    obtain ⟨a, rfl, ha⟩ := j
    obtain ⟨b, rfl, hb⟩ := k
    exact ⟨b, rfl, h1 n b a ha hb⟩
  | .tup ds, _, _, j, k => by
    simp only [RV] at j k ⊢
    obtain ⟨a, us, q, j1, j2⟩ := j
    obtain ⟨b, vs, q', k1, k2⟩ := k
    exact ⟨b, vs, q', k1, RVs.old h1 hA ds us vs j2 k2⟩
  | .rol ds, _, _, j, k => by
    simp only [RV] at j k ⊢
    obtain ⟨a, us, q, j1, j2⟩ := j
    obtain ⟨b, vs, q', k1, k2⟩ := k
    exact ⟨b, vs, q', ⟨k1.1, fun z => k1.2 (hA b z)⟩, RVs.old h1 hA ds us vs j2 k2⟩
  | .kst ds, _, _, j, k => by
    simp only [RV] at j k ⊢
    obtain ⟨a, us, q, j1, j2⟩ := j
    obtain ⟨b, vs, q', k1, k2⟩ := k
    refine ⟨b, vs, q', ?_, RVs.old h1 hA ds us vs j2 k2⟩
    rcases k1 with k1 | ⟨k1, n⟩ | k1
    · exact .inl k1
    · exact .inr (.inl ⟨k1, fun z => n (hA b z)⟩)
    · exact .inr (.inr k1)
  | .lam L cl ws ds, _, _, j, k => by
    simp only [RV] at j k ⊢
    obtain ⟨f, c, q, _, _, j2⟩ := j
    obtain ⟨f', c', q', k1, k2, k3⟩ := k
    exact ⟨f', c', q', k1, k2, RVs.old h1 hA ds ws ws j2 k3⟩
theorem RVs.old {K : PySem.W.Frag} {A1 : List Addr} (h1 : ∀ (k : Nat) (a b : Addr), A[k]? = some b → A'[k]? = some a → A1[k]? = some a) (hA : ∀ a ∈ A1, a ∈ A') : ∀ (ds : List D) (us vs : List V), RVs K A H ds us → RVs K A' H' ds vs → RVs K A1 H' ds vs
  | [], _, _, _, k => k
  | d :: ds, _, _, j, k => by
    simp only [RVs] at j k ⊢
    obtain ⟨u, us, rfl, j1, j2⟩ := j
    obtain ⟨v, vs, rfl, k1, k2⟩ := k
    exact ⟨v, vs, rfl, RV.old h1 hA d u v j1 k1, RVs.old h1 hA ds us vs j2 k2⟩
end
theorem RFs.old {K : PySem.W.Frag} {A1 : List Addr} (h1 : ∀ (k : Nat) (a b : Addr), A[k]? = some b → A'[k]? = some a → A1[k]? = some a) (hA : ∀ a ∈ A1, a ∈ A') : ∀ (ds : List (Str × D)) (us vs : List (Str × V)), RFs K A H ds us → RFs K A' H' ds vs → RFs K A1 H' ds vs
  | [], _, _, _, k => k
  | (f, d) :: ds, _, _, j, k => by
    obtain ⟨u, us, rfl, j1, j2⟩ := j
    obtain ⟨v, vs, rfl, k1, k2⟩ := k
    exact ⟨v, vs, rfl, RV.old h1 hA d u v j1 k1, RFs.old h1 hA ds us vs j2 k2⟩
theorem RKs.old {κ : Type} {K : PySem.W.Frag} {A1 : List Addr} (h1 : ∀ (k : Nat) (a b : Addr), A[k]? = some b → A'[k]? = some a → A1[k]? = some a) (hA : ∀ a ∈ A1, a ∈ A') : ∀ (ds : List (κ × D)) (us vs : List (κ × V)), RKs K A H ds us → RKs K A' H' ds vs → RKs K A1 H' ds vs
  | [], _, _, _, k => k
  | (f, d) :: ds, _, _, j, k => by
    obtain ⟨u, us, rfl, j1, j2⟩ := j
    obtain ⟨v, vs, rfl, k1, k2⟩ := k
    exact ⟨v, vs, rfl, RV.old h1 hA d u v j1 k1, RKs.old h1 hA ds us vs j2 k2⟩
theorem gc_rep {k : Nat} (rp : Rep g A μ H) (e : Ext A H A' H') (r' : Rep g A' ν H') (hs : gcS k μ ν = some ν') : Ext A H (A'.take (μ.length + k)) H' ∧ Rep g (A'.take (μ.length + k)) ν' H' ∧
    ∀ (n : Nat) (d' : D) (v : V), frzH true (μ.length + k) ν 4 n = some d' → RV g.K A' H' (.ptr n) v → RV g.K (A'.take (μ.length + k)) H' d' v := by
  obtain ⟨B, hB, hf⟩ := e.pre
  have hl := rp.len
  have hl' := r'.len
  have hsub : ∀ a ∈ A'.take (μ.length + k), a ∈ A' := fun a h => List.mem_of_mem_take h
  have hge : ∀ (j : Nat) (a : Addr), j < μ.length + k → A'[j]? = some a → (A'.take (μ.length + k))[j]? = some a := fun j a hj ha => by
    rw [List.getElem?_take_of_lt hj]; exact ha
  have hfr := frzH_ok (A1 := A'.take (μ.length + k)) (r := true) (L := μ.length + k) r' (fun j a hj ha => hge j a hj ha) (fun j a hj ha z => by
    obtain ⟨i, hi, hi2⟩ := List.mem_iff_getElem?.mp z |>.imp fun i hi => (⟨(List.getElem?_eq_some_iff.mp hi).1, hi⟩ : i < (A'.take (μ.length + k)).length ∧ (A'.take (μ.length + k))[i]? = some a)
    have hik : i < μ.length + k := by rw [List.length_take] at hi; omega
    rw [List.getElem?_take_of_lt hik] at hi2
    obtain ⟨l1, e1⟩ := List.getElem?_eq_some_iff.mp hi2
    obtain ⟨l2, e2⟩ := List.getElem?_eq_some_iff.mp ha
    have := (List.getElem_inj r'.nd).mp (e1.trans e2.symm)
    omega) (fun _ => hsub)
  have htk : A'.take (μ.length + k) = A ++ B.take k := by
    rw [hB, List.take_append, hl, List.take_of_length_le (by omega), show μ.length + k - μ.length = k by omega]
  refine ⟨⟨⟨B.take k, htk, fun b hb => hf b (List.mem_of_mem_take hb)⟩, e.frm, e.nn, e.dom, fun a ha => e.dom' a (hsub a ha)⟩, ?_, hfr 4⟩
  unfold gcS at hs
  split at hs
  · rename_i a b e1 e2
    cases hs
    obtain ⟨g1, g2, g3⟩ := gcL_get e1
    obtain ⟨m1, m2⟩ := mapO_get e2
    refine ⟨r'.tab, ?_, r'.nd.sublist (List.take_sublist _ _), fun n c o hc ho => ?_⟩
    · rw [List.length_take, hl', List.length_append, g1, m1, List.length_take, List.length_drop]; omega
    · have hn : n < μ.length + k := by
        have := (List.getElem?_eq_some_iff.mp hc).1
        rw [List.length_take] at this; omega
      have hc' : A'[n]? = some c := by rw [List.getElem?_take_of_lt hn] at hc; exact hc
      by_cases hlt : n < μ.length
      · rw [List.getElem?_append_left (by omega)] at ho
        obtain ⟨o', q1, q2⟩ := g3 n o ho
        have ro := r'.obj n c o' hc' q1
        rcases q2 with ⟨rfl, q2⟩ | q2
        · have hA : A[n]? = some c := by
            rw [hB, List.getElem?_append_left (by omega)] at hc'; exact hc'
          have ro0 := rp.obj n c o' hA q2
          have key : ∀ (k' : Nat) (a' b' : Addr), A[k']? = some b' → A'[k']? = some a' → (A'.take (μ.length + k))[k']? = some a' := fun k' a' b' x y => by
            have := (List.getElem?_eq_some_iff.mp x).1
            exact hge k' a' (by omega) y
          cases o' with
          | lst ds =>
            obtain ⟨us, p1, p2⟩ := ro0
            obtain ⟨vs, p3, p4⟩ := ro
            exact ⟨vs, p3, RVs.old key hsub _ _ _ p2 p4⟩
          | ins c' fs =>
            obtain ⟨_, _, us, _, p1, p2⟩ := ro0
            obtain ⟨C, dx, vs, p3, p5, p4⟩ := ro
            exact ⟨C, dx, vs, p3, p5, RFs.old key hsub _ _ _ p2 p4⟩
          | dK kvs =>
            obtain ⟨us, p1, p2⟩ := ro0
            obtain ⟨vs, p3, p4⟩ := ro
            exact ⟨vs, p3, RKs.old key hsub _ _ _ p2 p4⟩
          | dT kvs =>
            obtain ⟨us, p1, p2⟩ := ro0
            obtain ⟨vs, p3, p4⟩ := ro
            exact ⟨vs, p3, RKs.old key hsub _ _ _ p2 p4⟩
        · exact gcO_ok (hfr 4) hsub q2 ro
      · rw [List.getElem?_append_right (by omega), g1] at ho
        obtain ⟨o', q1, q2⟩ := m2 _ o ho
        have q1' : ν[n]? = some o' := by
          have hlt2 : n - μ.length < k := by omega
          rw [List.getElem?_take_of_lt hlt2, List.getElem?_drop, show μ.length + (n - μ.length) = n by omega] at q1
          exact q1
        exact gcO_ok (hfr 4) hsub q2 (r'.obj n c o' hc' q1')
  · cases hs
theorem gc_ok {k : Nat} {W : WX} {σ : L2.St} {Q : VK} {o : Out (D × Store)} (rp : Rep g A μ H) (h : PV g (RE g) W σ A H (gcOut k μ o) Q) : PV g (RE g) W σ A H o Q := by
  cases o with
  | no => exact h
  | ok p =>
    obtain ⟨d, ν⟩ := p
    simp only [gcOut] at h
    split at h
    · rename_i d' ν' e1 e2
      intro v A' H' e r' rd
      obtain ⟨q1, q2, q3⟩ := gc_rep rp e r' e2
      exact h v _ H' q1 q2 (mapD_ok q3 (fun _ a z => List.mem_of_mem_take z) d d' v e1 rd)
    · exact h.elim
  | ex c fs ν =>
    simp only [gcOut] at h
    split at h
    · rename_i d' ν' e1 e2
      intro C dd fvs A' H' hm e r' hx hf
      obtain ⟨q1, q2, q3⟩ := gc_rep rp e r' e2
      exact h C dd fvs _ H' hm q1 q2 hx (mapFs_ok q3 (fun _ a z => List.mem_of_mem_take z) fs d' fvs e1 hf)
    · exact h.elim
end
/-- an expression's worth, what it made on the way forgotten -/
noncomputable def mGc (m : M D) : M D := fun ρ μ => gcOut 0 μ (m ρ μ)
theorem de_gc {X : Cx} {W : WX} {e : Expr} {m : M D} (h : DE X W e m) : DE X W e (mGc m) := pe_imp h fun σ H Q q => by
  obtain ⟨ρ, μ, A, rs, rp, q⟩ := q
  exact ⟨ρ, μ, A, rs, rp, gc_ok rp q⟩
section
variable {X : Cx} {W : WX}
theorem ds_lcG {i : Nat} {y : Str} {py : Pos} {elt tgt iter : Expr} {ifs : List Expr} {scope : Scope} {own : List (Str × Nat)} {pos spos : Pos} {wi : M Src} {tg : TG} {g : Tg} {t : M Bool} {e : M D} (hc : X.calm = true) (hN : X.N.Nodup) (hi : DI X W tgt iter wi) (ok : BlkOk X.N X.env.scope scope own)
    (hL : LTg X.K (own.map (·.2)) tg g)
    (hg : ∀ (s : Shared) (H : Hp) (C : Addr) (cl : List (Str × Addr)) (fp : List Addr), PG (X.blk s H scope (compEnvC scope cl C X.env) fp) tgt tg) (ht : ∀ (s : Shared) (H : Hp) (C : Addr) (cl : List (Str × Addr)) (fp : List Addr), DTs (X.blk s H scope (compEnvC scope cl C X.env) fp) W0 ifs t)
    (he : ∀ (s : Shared) (H : Hp) (C : Addr) (cl : List (Str × Addr)) (fp : List Addr), DE (X.blk s H scope (compEnvC scope cl C X.env) fp) W0 elt e) (hsw : swapsWith (.ListComp elt [⟨tgt, iter, ifs, 0⟩] scope pos) (some (.Name y py)) spos.line X.env = pure true)
    (hy : X.N[i]? = some y := by rfl) (hyl : X.env.scope.names.lookup y = some .local := by rfl)
    (hs : ∀ x, foldedSetIterable iter X.env x = pure x := by intro _; rfl) :
    DS X W (.Assign [.Name y py] (.ListComp elt [⟨tgt, iter, ifs, 0⟩] scope pos) spos) (sSet (mGc (mLc wi (own.map (·.2)) g t e)) (gNm i)) :=
  ps_imp (ps_setLc (tt := T (Xg X) REq W0 t) (te := T (Xg X) (RE (Xg X)) W0 e) hc hN hy hyl hsw hi ok hg ht he hs) fun D σ H h => by
    have q : T (Xg X) (RE (Xg X)) W (mGc (mLc wi (own.map (·.2)) g t e)) σ H (fun x H1 => gName i x σ H1 D.nx) := sE_imp (k := fun d ρ μ => only (gNm i d ρ μ)) h fun d v ρ μ A H1 rs rp rv h => h _ A H1 (Ext.refl rp) rp (RS.set rs i rv)
    obtain ⟨ρ, μ, A, rs, rp, q⟩ := q
    exact lc_imp hL ⟨ρ, μ, A, rs, rp, gc_ok rp q⟩
end
/-- a def's worth, what it made on the way forgotten, but for the first k new things -/
noncomputable def gcF (k : Nat) (m : List D → Store → Out (D × Store)) (ds : List D) (μ : Store) : Out (D × Store) := gcOut k μ (m ds μ)
theorem fn_gc {P : Program} {w : World} {K : PySem.W.Frag} {mg : Str → Option Value} {base : Heap} {k j : Nat} {f : Addr} {fd : FuncData} {ps : List Str} {n : Nat} {m : List D → Store → Out (D × Store)} (F : FnOk P w K mg base (L2.CX P w) k f fd ps (spF ⟨K, mg⟩ n m)) :
    FnOk P w K mg base (L2.CX P w) k f fd ps (spF ⟨K, mg⟩ n (gcF j m)) := F.imp fun vs H Q E q => by
  obtain ⟨ds, μ, A, rp, rv, hn, q⟩ := q
  exact ⟨ds, μ, A, rp, rv, hn, gc_ok rp q⟩
/-! ### calls -/
def mCall (n : Nat) (f : List D → Store → Out (D × Store)) (a : M (List D)) : M D := fun ρ μ => (a ρ μ).bind fun p => if p.1.length = n then f p.1 p.2 else .no
section
variable {X : Cx} {W : WX} {k n : Nat} {f : Addr} {fd : FuncData} {ps : List Str} {m : List D → Store → Out (D × Store)} {x : Str} {p pos apos : Pos} {e : Expr} {es : List Expr} {ms : M (List D)}
theorem pf_of {g : G} {σ : L2.St} {A : List Addr} {H : Hp} {o : Out (D × Store)} {Q : VK} (h : PV g (RE g) W σ A H o Q) : PF g (L2.WE W σ) A H o Q := by
  cases o with
  | ok p => exact h
  | ex c fs μ => exact h
  | no => exact h
theorem call_imp {g : G} {σ : L2.St} {H : Hp} {Q : VK} (h : T g (RE g) W (mCall n m ms) σ H Q) : tCallS (spF g n m) (L2.WE W) (T g (REs g) W ms) σ H Q := by
  obtain ⟨ρ, μ, A, rs, rp, h⟩ := h
  refine ⟨ρ, μ, A, rs, rp, PV.bind h fun ds μ1 vs A1 H1 e1 r1 rv h => ?_⟩
  simp only at h
  split at h
  · rename_i hn
    exact ⟨ds, μ1, A1, r1, rv, hn, pf_of h⟩
  · exact h.elim
theorem de_call (F : FnOk X.prog X.w X.K X.mg X.base (L2.CX X.prog X.w) k f fd ps (spF (Xg X) n m)) (hr : Room k X.A) (hm : X.mg x = some (.ref f)) (hk : PySem.W.keepIn X.K (.ref f) = true) (hb : Binds X.K fd ps []) (tk : Takes X W) (ha : DA X W (e :: es) ms)
    (hg : Gl X x := by rfl) (hdb : (x == ("__debug__" : Str)) = false := by decide) (he : starEach (e :: es) X.env = (false, eval e X.env) :: starEach es X.env := by rfl) (hpl : (backTo pos (starEach es X.env)).any (·.1) = false := by rfl) :
    DE X W (.Call (.Name x p) (e :: es) [] pos) (mCall n m ms) := pe_imp (pe_callS F hr hg hm hk hb (fun σ => passAt tk σ) ha hdb he hpl) fun σ H Q h => call_imp h
theorem de_call0 (F : FnOk X.prog X.w X.K X.mg X.base (L2.CX X.prog X.w) k f fd ps (spF (Xg X) n m)) (hr : Room k X.A) (hm : X.mg x = some (.ref f)) (hk : PySem.W.keepIn X.K (.ref f) = true) (hb : Binds X.K fd ps []) (tk : Takes X W)
    (hg : Gl X x := by rfl) (hdb : (x == ("__debug__" : Str)) = false := by decide) : DE X W (.Call (.Name x p) [] [] pos) (mCall n m aNil) := pe_imp (pe_callQ0 F hr hg hm hk hb (fun σ => passAt tk σ) hdb) fun σ H Q h => by
  obtain ⟨ρ, μ, A, rs, rp, h⟩ := h
  have h : PV (Xg X) (RE (Xg X)) W σ A H (if ([] : List D).length = n then m [] μ else .no) Q := h
  split at h
  · rename_i hn
    exact ⟨[], μ, A, rp, rfl, hn, pf_of h⟩
  · exact h.elim
/-! ### objects -/
def insAt (μ : Store) (c : Str) (n : Nat) : Option (List (Str × D)) := match μ[n]? with
  | some (.ins c' fs) => if c' = c then some fs else none
  | _ => none
theorem insAt_eq {μ : Store} {c : Str} {n : Nat} {fs : List (Str × D)} (h : insAt μ c n = some fs) : μ[n]? = some (.ins c fs) := by
  unfold insAt at h
  split at h
  · rename_i c' fs' e
    split at h
    · rename_i q; subst q; cases h; exact e
    · cases h
  · cases h
theorem insAt_of {μ : Store} {c : Str} {n : Nat} {fs : List (Str × D)} (h : μ[n]? = some (.ins c fs)) : insAt μ c n = some fs := by unfold insAt; rw [h]; simp
def fldD (c f : Str) : D → Store → Option (D × Store)
  | .ptr n, μ => match insAt μ c n with
    | some fs => (fs.lookup f).map fun d => (d, μ)
    | none => none
  | _, _ => none
theorem fld_ok {g : G} {C : Addr} {c f : Str} (hC : g.mg c = some (.ref C)) (hc : Cls g.K C) (hn : NoAttr g.K C f) : R1D g (fun x H1 Q => ∃ a C dx fs v, x = .ref a ∧ H1 a = some (.ins C dx fs) ∧ Cls g.K C ∧ NoAttr g.K C f ∧ fs.lookup f = some v ∧ Q v H1) (fldD c f) := fun {μ A H x v Q} r rx h => by
  cases x with
  | ptr n =>
    simp only [RV] at rx
    obtain ⟨a, rfl, ha⟩ := rx
    simp only [fldD] at h
    split at h
    · rename_i fs e
      obtain ⟨C', dx, fvs, k1, k2, k3⟩ := r.obj n a _ ha (insAt_eq e)
      rw [hC] at k1
      cases k1
      cases q : fs.lookup f with
      | none => rw [q] at h; exact h.elim
      | some d =>
        rw [q] at h
        obtain ⟨v, l1, l2⟩ := RFs.look k3 q
        exact ⟨a, C, dx, fvs, v, rfl, k2, hc, hn, l1, Res.val r l2 h⟩
    · exact h.elim
  | _ => exact h.elim
theorem de_fld {C : Addr} {c f : Str} {o : Expr} {mo : M D} (hC : X.mg c = some (.ref C)) (hc : Cls X.K C) (hn : NoAttr X.K C f) (ho : DE X W o mo) (hb : attributeBase o f X.env (eval o X.env) = eval o X.env := by rfl) : DE X W (.Attribute o f pos) (mUn (fldD c f) mo) := pe_imp (pe_fld ho hb) fun σ H Q h => by
  have q := un_imp (fld_ok (g := Xg X) hC hc hn) h
  exact q
/-- o.f = e: the value first -/
def sFldD (c f : Str) (mv mo : M D) : S := sE mv fun d => sE mo fun o ρ μ => match o with
  | .ptr n => match insAt μ c n with
    | some fs => if fs.length < 1000 then .nx ρ (μ.set n (.ins c (putD f d fs))) else .no
    | none => .no
  | _ => .no
theorem ds_fld {C : Addr} {c f : Str} {o value : Expr} {mo mv : M D} {pos' : Pos} (hC : X.mg c = some (.ref C)) (hc : Cls X.K C) (hn : NoAttr X.K C f) (ho : DE X W o mo) (hv : DE X W value mv) (hs : swapsWith value (some (.Attribute o f pos')) pos.line X.env = pure false := by rfl) :
    DS X W (.Assign [.Attribute o f pos'] value pos) (sFldD c f mv mo) := ps_imp (ps_fld ho hv hs) fun D σ H h => by
  obtain ⟨ρ, μ, A, rs, rp, h⟩ := h
  refine ⟨ρ, μ, A, rs, rp, PSo.bind rs rp h fun d v μ1 A1 H1 e1 rs1 r1 rv h => ?_⟩
  refine ⟨ρ, μ1, A1, rs1, r1, PSo.bind rs1 r1 h fun od ov μ2 A2 H2 e2 rs2 r2 ro h => ?_⟩
  cases od with
  | ptr n =>
    simp only [RV] at ro
    obtain ⟨a, rfl, ha⟩ := ro
    simp only at h
    split at h
    · rename_i fs e
      split at h
      · rename_i hl
        obtain ⟨C', dx, fvs, k1, k2, k3⟩ := r2.obj n a _ ha (insAt_eq e)
        have k1 : X.mg c = some (.ref C') := k1
        rw [hC] at k1
        cases k1
        have ew := Ext.write (o := .ins C dx (putF f v fvs)) r2 ha
        refine ⟨a, C, dx, fvs, rfl, k2, hc, hn, by rw [RFs.len k3]; exact hl, h σ A2 _ ew (Rep.write r2 ha ⟨C, dx, _, hC, upd_same, RFs.ext r2 ew _ _ ?_⟩) (RS.ext r2 ew rs2)⟩
        exact RFs.put (fun _ _ _ _ _ => rfl) (fun _ _ => rfl) k3 (RV.ext r1 e2 _ _ rv)
      · exact h.elim
    · exact h.elim
  | _ => exact h.elim
/-- o.m(..) -/
def mMeth (c mt : Str) (n : Nat) (f : List D → Store → Out (D × Store)) (o : M D) (a : M (List D)) : M D := fun ρ μ => (o ρ μ).bind fun p => match p.1 with
  | .ptr j => match insAt p.2 c j with
    | some fs => if (fs.lookup mt).isNone = true then (a ρ p.2).bind fun q => if q.1.length + 1 = n then f (.ptr j :: q.1) q.2 else .no else .no
    | none => .no
  | _ => .no
theorem meth_imp {g : G} {C : Addr} {c mt : Str} {mo : M D} {σ : L2.St} {H : Hp} {Q : VK} (hC : g.mg c = some (.ref C)) (h : T g (RE g) W (mMeth c mt n m mo ms) σ H Q) : tMethQ C mt (spF g n m) (L2.WE W) (T g (RE g) W mo) (T g (REs g) W ms) σ H Q := by
  obtain ⟨ρ, μ, A, rs, rp, h⟩ := h
  refine ⟨ρ, μ, A, rs, rp, PV.bind h fun od μ1 ov A1 H1 e1 r1 ro h => ?_⟩
  cases od with
  | ptr j =>
    have ro0 := ro
    simp only [RV] at ro
    obtain ⟨a, rfl, ha⟩ := ro
    simp only at h
    split at h
    · rename_i fs e
      split at h
      · rename_i hl
        obtain ⟨C', dx, fvs, k1, k2, k3⟩ := r1.obj j a _ ha (insAt_eq e)
        rw [hC] at k1
        cases k1
        refine ⟨a, dx, fvs, rfl, k2, RFs.none k3 (by simpa using hl), ρ, μ1, A1, RS.ext rp e1 rs, r1, PV.bind h fun ds μ2 vs A2 H2 e2 r2 rv h => ?_⟩
        simp only at h
        split at h
        · rename_i hn
          exact ⟨.ptr j :: ds, μ2, A2, r2, RVs.consI (RV.ext r1 e2 _ _ ro0) rv, by simpa using hn, pf_of h⟩
        · exact h.elim
      · exact h.elim
    · exact h.elim
  | _ => exact h.elim
theorem de_meth {pl : Sem Bool} {C : Addr} {c mt : Str} {o : Expr} {mo : M D} (hC : X.mg c = some (.ref C)) (hc : Cls X.K C) (hm : Meth X.K C mt f) (F : FnOk X.prog X.w X.K X.mg X.base (L2.CX X.prog X.w) k f fd ps (spF (Xg X) n m)) (hr : Room k X.A) (hb : Binds X.K fd ps []) (tk : Takes X W) (ho : DE X W o mo) (ha : DA X W (e :: es) ms)
    (hst : starEach (e :: es) X.env = (false, eval e X.env) :: starEach es X.env := by rfl) (hpl : (backTo pos (starEach es X.env)).any (·.1) = false := by rfl)
    (ht : eval (.Call (.Attribute o mt apos) (e :: es) [] pos) X.env = (do
      let ov ← eval o X.env
      standAt apos.atName
      let (f, first) ← holding [ov] (getMethod ov mt pl)
      callWith pos f first (backTo pos (starEach (e :: es) X.env)) (backToKw pos (keywordEach [] X.env))) := by rfl) :
    DE X W (.Call (.Attribute o mt apos) (e :: es) [] pos) (mMeth c mt n m mo ms) := pe_imp (pe_methQ (pl := pl) ho hc hm F hr hb (fun σ => passAt tk σ) ha hst hpl ht) fun σ H Q h => meth_imp hC h
theorem de_meth0 {pl : Sem Bool} {C : Addr} {c mt : Str} {o : Expr} {mo : M D} (hC : X.mg c = some (.ref C)) (hc : Cls X.K C) (hm : Meth X.K C mt f) (F : FnOk X.prog X.w X.K X.mg X.base (L2.CX X.prog X.w) k f fd ps (spF (Xg X) n m)) (hr : Room k X.A) (hb : Binds X.K fd ps []) (tk : Takes X W) (ho : DE X W o mo)
    (ht : eval (.Call (.Attribute o mt apos) [] [] pos) X.env = (do
      let ov ← eval o X.env
      standAt apos.atName
      let (f, first) ← holding [ov] (getMethod ov mt pl)
      callWith pos f first (backTo pos (starEach [] X.env)) (backToKw pos (keywordEach [] X.env))) := by rfl) :
    DE X W (.Call (.Attribute o mt apos) [] [] pos) (mMeth c mt n m mo aNil) := pe_imp (pe_methQ0 (pl := pl) ho hc hm F hr hb (fun σ => passAt tk σ) ht) fun σ H Q h => by
  obtain ⟨ρ, μ, A, rs, rp, h⟩ := h
  refine ⟨ρ, μ, A, rs, rp, PV.bind h fun od μ1 ov A1 H1 e1 r1 ro h => ?_⟩
  cases od with
  | ptr j =>
    have ro0 := ro
    simp only [RV] at ro
    obtain ⟨a, rfl, ha⟩ := ro
    simp only at h
    split at h
    · rename_i fs e
      split at h
      · rename_i hl
        obtain ⟨C', dx, fvs, k1, k2, k3⟩ := r1.obj j a _ ha (insAt_eq e)
        have k1 : X.mg c = some (.ref C') := k1
        rw [hC] at k1
        cases k1
        refine ⟨a, dx, fvs, rfl, k2, RFs.none k3 (by simpa using hl), ?_⟩
        have h : PV (Xg X) (RE (Xg X)) W σ A1 H1 (if ([] : List D).length + 1 = n then m (.ptr j :: []) μ1 else .no) Q := h
        split at h
        · rename_i hn
          exact ⟨[.ptr j], μ1, A1, r1, RVs.consI ro0 rfl, by simpa using hn, pf_of h⟩
        · exact h.elim
      · exact h.elim
    · exact h.elim
  | _ => exact h.elim
end
end DL

-- DL8
set_option Elab.async false
set_option linter.all false
set_option maxRecDepth 100000
set_option maxHeartbeats 2000000
/-! DL8: methods of lists, isinstance, ranges as sequences, written dicts, new objects. -/
namespace DL
open PySem L2
variable [Tab]
section
variable {g : G}
/-! ### list methods -/
def appendD (x : D) (xs : List D) (μ : Store) : Option (D × Store) := match x, xs with
  | .ptr n, [y] => match lstAt μ n with
    | some ds => if ds.length < 16777216 then some (.non, μ.set n (.lst (ds ++ [y]))) else none
    | none => none
  | _, _ => none
theorem append_ok : RMD g "list" rAppend appendD := fun {μ A H x v xs vs Q} r rx rxs h => by
  unfold appendD at h
  split at h
  · rename_i n y
    simp only [RV] at rx
    obtain ⟨a, rfl, ha⟩ := rx
    obtain ⟨w, ws, rfl, rw_, rz⟩ := rxs
    cases (show ws = [] from rz)
    split at h
    · rename_i ds e
      split at h
      · rename_i hz
        obtain ⟨us, k1, k2⟩ := Rep.lstA r ha e
        refine ⟨a, us, w, rfl, rfl, k1, by rw [sizeLine_eq, RVs.length k2]; exact hz, ?_⟩
        exact Res.wrote (d := .non) r ha (RVs.append k2 (RVs.one rw_)) rfl h
      · exact h.elim
    · exact h.elim
  · exact h.elim
def popD (x : D) (xs : List D) (μ : Store) : Option (D × Store) := match x, xs with
  | .ptr n, [] => match lstAt μ n with
    | some ds => match ds[ds.length - 1]? with
      | some y => some (y, μ.set n (.lst ds.dropLast))
      | none => none
    | none => none
  | _, _ => none
theorem RVs.dropLast {K : PySem.W.Frag} {A : List Addr} {H : Hp} {ds : List D} {vs : List V} (h : RVs K A H ds vs) : RVs K A H ds.dropLast vs.dropLast := by
  rw [List.dropLast_eq_take, List.dropLast_eq_take, RVs.length h]
  exact RVs.take _ h
theorem pop_ok : RMD g "list" rPop popD := fun {μ A H x v xs vs Q} r rx rxs h => by
  unfold popD at h
  split at h
  · rename_i n
    simp only [RV] at rx
    obtain ⟨a, rfl, ha⟩ := rx
    cases (show vs = [] from rxs)
    split at h
    · rename_i ds e
      split at h
      · rename_i y ey
        obtain ⟨us, k1, k2⟩ := Rep.lstA r ha e
        obtain ⟨w, hw, rw_⟩ := RVs.get k2 ey
        refine ⟨a, us, w, rfl, rfl, k1, by rw [RVs.length k2]; exact hw, ?_⟩
        exact Res.wrote r ha (RVs.dropLast k2) rw_ h
      · exact h.elim
    · exact h.elim
  · exact h.elim
/-- l.index(y), flat items -/
def indexD (x : D) (xs : List D) (μ : Store) : Option (D × Store) := match xs with
  | [y] => match lstOf μ x with
    | some ds => if (flatD y && ds.all flatD) = true then match ds.findIdx? fun d => eqF d y with
        | some j => some (.int (j : Nat), μ)
        | none => none
      else if (good 59 y && ds.all (good 59)) = true then match ds.findIdx? fun d => PyData.eqv (py d) (py y) with
        | some j => some (.int (j : Nat), μ)
        | none => none
      else none
    | none => none
  | _ => none
def rIndexA (K : PySem.W.Frag) : V → List V → Hp → VK → Prop := fun x xs H Q => rIndex K x xs H Q ∨ rIndexD K x xs H Q
theorem mtr_or {X : Cx} {id : String} {r r' : V → List V → Hp → VK → Prop} (h : MtR X id r) (h' : MtR X id r') : MtR X id (fun x xs H Q => r x xs H Q ∨ r' x xs H Q) := by
  intro pins s σ H x xs v us Q I rx rxs q
  rcases q with q | q
  · exact h pins s σ H x xs v us Q I rx rxs q
  · exact h' pins s σ H x xs v us Q I rx rxs q
theorem mt_indexA {X : Cx} (hu : X.A.units + 65 < cLine) : MtR X "list.index" (rIndexA X.K) := mtr_or mt_index (mt_indexD hu)
theorem index_ok : RMD g "list" (rIndexA g.K) indexD := fun {μ A H x v xs vs Q} r rx rxs h => by
  unfold indexD at h
  split at h
  · rename_i y
    obtain ⟨w, ws, rfl, rw_, rz⟩ := rxs
    cases (show ws = [] from rz)
    split at h
    · rename_i ds e
      split at h
      · rename_i hf
        rw [Bool.and_eq_true] at hf
        split at h
        · rename_i j ej
          obtain ⟨a, us, rfl, k1, k2⟩ := lstOf_ok r e rx
          obtain ⟨hj, h1, h2⟩ := List.findIdx?_eq_some_iff_getElem.mp ej
          obtain ⟨z, hz, rz⟩ := RVs.get k2 (List.getElem?_eq_getElem hj)
          have fz : flatD ds[j] = true := List.all_eq_true.mp hf.2 _ (List.getElem_mem hj)
          refine .inl ⟨a, us, w, j, z, rfl, rfl, k1, flat_ok rw_ hf.1, (flats_ok rw_ hf.1 k2 hf.2).1, hz, ?_, fun m z' hm hz' => ?_, Res.val (d := .int (j : Nat)) r rfl h⟩
          · rw [eqF_ok rz rw_ fz hf.1]; exact h1
          · obtain ⟨d, hd, rd⟩ := RVs.getV k2 hz'
            obtain ⟨hm', rfl⟩ := List.getElem?_eq_some_iff.mp hd
            rw [eqF_ok rd rw_ (List.all_eq_true.mp hf.2 _ (List.getElem_mem hm')) hf.1]
            exact Bool.eq_false_iff.mpr (h2 m hm)
        · exact h.elim
      · split at h
        · rename_i hg
          rw [Bool.and_eq_true] at hg
          have hg2 : goods 59 ds = true := by rw [goods_all]; exact hg.2
          split at h
          · rename_i j ej
            obtain ⟨a, us, ev, k1, k2⟩ := lstOf_ok r e rx
            obtain ⟨hj, h1, h2⟩ := List.findIdx?_eq_some_iff_getElem.mp ej
            obtain ⟨p1, p2, p3⟩ := good_py μ 59 y hg.1
            have dl := lst_dp r e hg2 rx
            subst ev
            refine .inr ⟨a, w, py y, pys ds, j, py ds[j], rfl, rfl, dl, toPy_dp r _ _ _ _ p1 rw_, shaped_pys hg2, shaped_py hg.1, by rw [pys_get, List.getElem?_eq_getElem hj]; rfl, h1, fun m z' hm hz' => ?_, Res.val (d := .int (j : Nat)) r rfl h⟩
            rw [pys_get, List.getElem?_eq_getElem (by omega)] at hz'
            cases hz'
            exact Bool.eq_false_iff.mpr (h2 m hm)
          · exact h.elim
        · exact h.elim
    · exact h.elim
  · exact h.elim
def extendD (x : D) (xs : List D) (μ : Store) : Option (D × Store) := match x, xs with
  | .ptr n, [y] => match lstAt μ n, lstOf μ y with
    | some ds, some es => if ds.length + es.length ≤ 16777216 then some (.non, μ.set n (.lst (ds ++ es))) else none
    | _, _ => none
  | _, _ => none
theorem extend_ok : RMD g "list" rExtend extendD := fun {μ A H x v xs vs Q} r rx rxs h => by
  unfold extendD at h
  split at h
  · rename_i n y
    simp only [RV] at rx
    obtain ⟨a, rfl, ha⟩ := rx
    obtain ⟨w, ws, rfl, rw_, rz⟩ := rxs
    cases (show ws = [] from rz)
    split at h
    · rename_i ds es e e'
      split at h
      · rename_i hz
        obtain ⟨us, k1, k2⟩ := Rep.lstA r ha e
        obtain ⟨b, ws, rfl, k3, k4⟩ := lstOf_h r e' rw_
        refine ⟨a, b, us, ws, rfl, rfl, k1, k3, by rw [sizeLine_eq, RVs.length k2, RVs.length k4]; exact hz, ?_⟩
        exact Res.wrote (d := .non) r ha (RVs.append k2 k4) rfl h
      · exact h.elim
    · exact h.elim
  · exact h.elim
end

/-! ### isinstance of a built-in type -/
def tyN (μ : Store) : D → Option String
  | .non => some "NoneType"
  | .bl _ => some "bool"
  | .int _ => some "int"
  | .str _ => some "str"
  | .tup _ => some "tuple"
  | .rol _ => some "list"
  | .ptr n => match μ[n]? with
    | some (.lst _) => some "list"
    | some (.dK _) => some "dict"
    | some (.dT _) => some "dict"
    | _ => none
  | _ => none
theorem tyN_ok {g : G} {A : List Addr} {μ : Store} {H : Hp} (r : Rep g A μ H) {d : D} {v : V} {t : String} (h : tyN μ d = some t) (rv : RV g.K A H d v) : TyX g.K H v (.type t) := by
  cases d with
  | non => cases (show v = _ from rv); cases h; exact .base .non
  | bl b => cases (show v = _ from rv); cases h; exact .base (.bl b)
  | int b => cases (show v = _ from rv); cases h; exact .base (.int b)
  | str b => cases (show v = _ from rv); cases h; exact .base (.str b)
  | tup ds =>
    cases h
    simp only [RV] at rv
    obtain ⟨a, vs, rfl, h1, h2⟩ := rv
    rcases h1 with h1 | ⟨o, h1⟩
    · exact .base (.tup h1)
    · exact .fTuple h1
  | rol ds =>
    cases h
    simp only [RV] at rv
    obtain ⟨a, vs, rfl, h1, h2⟩ := rv
    exact .base (.lst h1.1)
  | ptr n =>
    simp only [RV] at rv
    obtain ⟨a, rfl, ha⟩ := rv
    simp only [tyN] at h
    split at h
    · rename_i ds e
      cases h
      obtain ⟨vs, k1, _⟩ := r.obj n a _ ha e
      exact .base (.lst k1)
    · rename_i ds e
      cases h
      obtain ⟨vs, k1, _⟩ := r.obj n a _ ha e
      exact .base (.dK k1)
    · rename_i ds e
      cases h
      obtain ⟨vs, k1, _⟩ := r.obj n a _ ha e
      exact .base (.dT k1)
    · cases h
  | _ => cases h
/-- the answers for the types that stand here -/
def isT (t T : String) : Bool := t == T || (t == "bool" && T == "int")
def isiD (T : String) (x : D) (μ : Store) : Option (D × Store) := (tyN μ x).map fun t => (.bl (isT t T), μ)
/-- T's answers are the kit's -/
def TOk (T : String) : Prop := ∀ t ∈ (["NoneType", "bool", "int", "str", "tuple", "list", "dict"] : List String), kitB t T = some (isT t T)
theorem tok_of {T : String} (h : (["NoneType", "bool", "int", "str", "tuple", "list", "dict"] : List String).all (fun t => decide (kitB t T = some (isT t T))) = true) : TOk T := fun t ht => by
  simpa using List.all_eq_true.mp h t ht
theorem tyN_mem {μ : Store} {d : D} {t : String} (h : tyN μ d = some t) : t ∈ (["NoneType", "bool", "int", "str", "tuple", "list", "dict"] : List String) := by
  cases d with
  | ptr n =>
    simp only [tyN] at h
    split at h <;> cases h <;> simp
  | non => cases h; simp
  | bl _ => cases h; simp
  | int _ => cases h; simp
  | str _ => cases h; simp
  | tup _ => cases h; simp
  | rol _ => cases h; simp
  | _ => cases h
theorem tok_int : TOk "int" := tok_of (by decide +kernel)
theorem tok_bool : TOk "bool" := tok_of (by decide +kernel)
theorem tok_str : TOk "str" := tok_of (by decide +kernel)
theorem tok_tuple : TOk "tuple" := tok_of (by decide +kernel)
theorem tok_list : TOk "list" := tok_of (by decide +kernel)
theorem tok_dict : TOk "dict" := tok_of (by decide +kernel)
section
variable {X : Cx} {W : WX} {a : Expr} {ma : M D} {pos apos : Pos} {e : Expr} {es : List Expr} {ms : M (List D)}
theorem de_isi {T : String} {x : Str} {p p1 : Pos} (hT : TOk T) (hi : X.mg "isinstance" = none) (hm : X.mg x = none) (ha : DE X W a ma) (hv : bootBuiltins x = some (.type T) := by decide +kernel) (hg : Gl X "isinstance" := by rfl) (hgx : Gl X x := by rfl)
    (hn : x ≠ "__name__" := by decide) (hdb : (x == ("__debug__" : Str)) = false := by decide)
    (hs : starEach [a, .Name x p1] X.env = (false, eval a X.env) :: starEach [.Name x p1] X.env := by rfl) (hs2 : starEach [.Name x p1] X.env = (false, eval (.Name x p1) X.env) :: starEach [] X.env := by rfl)
    (hpl : (backTo pos (starEach [.Name x p1] X.env)).any (·.1) = false := by rfl) :
    DE X W (.Call (.Name "isinstance" p) [a, .Name x p1] [] pos) (mUn (isiD T) ma) :=
  pe_imp (pe_callB call_isi hg hi (by decide +kernel) (pa_cons ha (pa_cons (pe_bltn hgx hm hv (v := .ty T) rfl hn hdb) pa_nil hs2) hs) (by decide) (by decide) hs hpl) fun σ H Q h => by
    obtain ⟨ρ, μ, A, rs, rp, h⟩ := h
    refine ⟨ρ, μ, A, rs, rp, PV.bind h fun d μ1 v A1 H1 e1 r1 rv h => ?_⟩
    unfold isiD at h
    cases e : tyN μ1 d with
    | none => simp only [e] at h; exact h.elim
    | some t =>
      simp only [e] at h
      refine ⟨v, .ty T, .type t, .type T, isT t T, rfl, .ty T, tyN_ok r1 e rv, kit_ty (hT t (tyN_mem e)), ?_⟩
      exact h (.bl _) A1 H1 (Ext.refl r1) r1 rfl
/-! ### ranges as sequences -/
def DRg (X : Cx) (W : WX) (e : Expr) (m : M (Int × Int)) : Prop := PRg X e fun σ H Q => T (Xg X) REq W m σ H fun p H1 => Q p.1 p.2 H1
def mRg1 (a : M D) : M (Int × Int) := fun ρ μ => (a ρ μ).bind fun p => match p.1 with
  | .int n => .ok ((0, n), p.2)
  | _ => .no
def mRg2 (a b : M D) : M (Int × Int) := fun ρ μ => (a ρ μ).bind fun p => (b ρ p.2).bind fun q => match p.1, q.1 with
  | .int i, .int j => .ok ((i, j), q.2)
  | _, _ => .no
theorem prg_imp {e : Expr} {t t' : L2.St → Hp → (Int → Int → Hp → Prop) → Prop} (h : PRg X e t) (i : ∀ σ H Q, t' σ H Q → t σ H Q) : PRg X e t' := fun pins s σ H Q I k => h pins s σ H Q I (i σ H Q k)
theorem drg_1 {p : Pos} (hm : X.mg "range" = none) (ha : DE X W a ma) (hg : Gl X "range" := by rfl) (na : starEach [a] X.env = (false, eval a X.env) :: starEach [] X.env := by rfl) : DRg X W (.Call (.Name "range" p) [a] [] pos) (mRg1 ma) := prg_imp (prg_1 hg hm ha na) fun σ H Q h => by
  obtain ⟨ρ, μ, A, rs, rp, h⟩ := h
  refine ⟨ρ, μ, A, rs, rp, PV.bind h fun d μ1 v A1 H1 e1 r1 rv h => ?_⟩
  cases d with
  | int n => cases (show v = _ from rv); exact ⟨n, rfl, h (0, n) A1 H1 (Ext.refl r1) r1 rfl⟩
  | _ => exact h.elim
theorem drg_2 {p : Pos} {b : Expr} {mb : M D} (hm : X.mg "range" = none) (ha : DE X W a ma) (hb : DE X W b mb) (hg : Gl X "range" := by rfl) (na : starEach [a, b] X.env = (false, eval a X.env) :: starEach [b] X.env := by rfl)
    (nb : starEach [b] X.env = (false, eval b X.env) :: starEach [] X.env := by rfl) (hp : (backTo pos (starEach [b] X.env)).any (·.1) = false := by rfl) : DRg X W (.Call (.Name "range" p) [a, b] [] pos) (mRg2 ma mb) := prg_imp (prg_2 hg hm ha hb na nb hp) fun σ H Q h => by
  obtain ⟨ρ, μ, A, rs, rp, h⟩ := h
  refine ⟨ρ, μ, A, rs, rp, PV.bind h fun d μ1 v A1 H1 e1 r1 rv h => ?_⟩
  refine ⟨ρ, μ1, A1, RS.ext rp e1 rs, r1, PV.bind h fun d2 μ2 v2 A2 H2 e2 r2 rv2 h => ?_⟩
  cases d with
  | int i =>
    cases d2 with
    | int j =>
      cases (show v = _ from rv)
      cases (show v2 = _ from rv2)
      exact ⟨i, j, rfl, rfl, h (i, j) A2 H2 (Ext.refl r2) r2 rfl⟩
    | _ => exact h.elim
  | _ => cases d2 <;> exact h.elim
def rgB (a b : Int) : Bool := decide (-(2 ^ 62) ≤ a) && decide (a < 2 ^ 62) && decide (-(2 ^ 62) ≤ b) && decide (b < 2 ^ 62) && decide ((b - a).toNat ≤ 16777216)
theorem rgB_ok {a b : Int} (h : rgB a b = true) : RgOk a b := by
  unfold rgB at h
  simp only [Bool.and_eq_true, decide_eq_true_eq] at h
  obtain ⟨⟨⟨⟨h1, h2⟩, h3⟩, h4⟩, h5⟩ := h
  exact ⟨h1, h2, h3, h4, h5⟩
def rgD (a b : Int) : List D := (List.range (b - a).toNat).map fun i => D.int (a + (i : Nat))
theorem rg_rv {K : PySem.W.Frag} {A : List Addr} {H : Hp} (a b : Int) : RVs K A H (rgD a b) (rgV a b) := by
  unfold rgD rgV
  generalize List.range (b - a).toNat = l
  induction l with
  | nil => rfl
  | cons i l ih => exact ⟨_, _, rfl, rfl, ih⟩
def mTupRg (m : M (Int × Int)) : M D := fun ρ μ => (m ρ μ).bind fun p => if rgB p.1.1 p.1.2 = true then .ok (.tup (rgD p.1.1 p.1.2), p.2) else .no
def mLstRg (m : M (Int × Int)) : M D := fun ρ μ => (m ρ μ).bind fun p => if rgB p.1.1 p.1.2 = true then .ok (.ptr p.2.length, p.2 ++ [.lst (rgD p.1.1 p.1.2)]) else .no
theorem de_tupRg {p : Pos} {m : M (Int × Int)} (hc : X.calm = true) (hm : X.mg "tuple" = none) (he : DRg X W e m) (hg : Gl X "tuple" := by rfl) (na : starEach [e] X.env = (false, eval e X.env) :: starEach [] X.env := by rfl) : DE X W (.Call (.Name "tuple" p) [e] [] pos) (mTupRg m) :=
  pe_imp (pe_tupRg hc hg hm he na) fun σ H Q h => by
    obtain ⟨ρ, μ, A, rs, rp, h⟩ := h
    refine ⟨ρ, μ, A, rs, rp, PV.bind h fun p μ1 p' A1 H1 e1 r1 rv h => ?_⟩
    cases (show p = p' from rv)
    by_cases hz : rgB p.1 p.2 = true
    · simp only [if_pos hz] at h
      exact ⟨rgB_ok hz, Res.tup r1 (rg_rv _ _) h⟩
    · simp only [if_neg hz] at h
      exact h.elim
theorem de_lstRg {p : Pos} {m : M (Int × Int)} (hc : X.calm = true) (hm : X.mg "list" = none) (he : DRg X W e m) (hg : Gl X "list" := by rfl) (na : starEach [e] X.env = (false, eval e X.env) :: starEach [] X.env := by rfl) : DE X W (.Call (.Name "list" p) [e] [] pos) (mLstRg m) :=
  pe_imp (pe_listRg hc hg hm he na) fun σ H Q h => by
    obtain ⟨ρ, μ, A, rs, rp, h⟩ := h
    refine ⟨ρ, μ, A, rs, rp, PV.bind h fun p μ1 p' A1 H1 e1 r1 rv h => ?_⟩
    cases (show p = p' from rv)
    by_cases hz : rgB p.1 p.2 = true
    · simp only [if_pos hz] at h
      exact ⟨rgB_ok hz, Res.lst r1 (rg_rv _ _) h⟩
    · simp only [if_neg hz] at h
      exact h.elim
end
/-! ### dicts of the module -/
/-- what stands in a written dict: text keys, flat values -/
def KTab (K : PySem.W.Frag) : List DictEntry → List (Str × D) → Prop
  | [], tbl => tbl = []
  | e :: es, tbl => ∃ x d r, tbl = (x, d) :: r ∧ (∃ t, e.key = .str x t) ∧ (∃ v, (∀ A H, RV K A H d v) ∧ RelV v e.val) ∧ KTab K es r
structure KD (K : PySem.W.Frag) (w : World) (d : Addr) (tbl : List (Str × D)) : Prop where
  of : ∃ es n, KDict K w d es n ∧ KTab K es.toList tbl
theorem ktab_find {K : PySem.W.Frag} : ∀ {es : List DictEntry} {tbl : List (Str × D)} (z : Str), KTab K es tbl → (es.any (·.refKey) = false ∧ match tbl.lookup z with
    | some d => ∃ e v, es.find? (·.key.isStr z) = some e ∧ (∀ A H, RV K A H d v) ∧ RelV v e.val
    | none => es.find? (·.key.isStr z) = none)
  | [], _, z, h => by cases (show _ = [] from h); exact ⟨rfl, rfl⟩
  | e :: es, _, z, h => by
    obtain ⟨x, d, r, rfl, ⟨t, hk⟩, ⟨v, h1, h2⟩, h3⟩ := h
    obtain ⟨i1, i2⟩ := ktab_find z h3
    refine ⟨?_, ?_⟩
    · rw [List.any_cons, i1, Bool.or_false]
      unfold DictEntry.refKey
      rw [hk]
    · rw [List.lookup_cons, List.find?_cons]
      have e1 : e.key.isStr z = (x == z) := by rw [hk]; rfl
      rw [e1]
      by_cases hz : x = z
      · subst hz
        have b1 : (x == x) = true := by simp
        rw [b1]
        exact ⟨e, v, rfl, h1, h2⟩
      · have b1 : (x == z) = false := by simpa using hz
        have b2 : (z == x) = false := by simpa using fun q : z = x => hz q.symm
        rw [b1, b2]
        exact i2
theorem KD.ns {K : PySem.W.Frag} {w : World} {d : Addr} {tbl : List (Str × D)} (k : KD K w d tbl) (z : Str) : ∃ es n, KDict K w d es n ∧ match tbl.lookup z with
    | some d' => ∃ u v, PySem.W.nsIn K d z = some (some u) ∧ (∀ A H, RV K A H d' v) ∧ RelV v u
    | none => PySem.W.nsIn K d z = some none := by
  obtain ⟨es, n, kd, kt⟩ := k.of
  obtain ⟨i1, i2⟩ := ktab_find z kt
  refine ⟨es, n, kd, ?_⟩
  cases e : tbl.lookup z with
  | none =>
    rw [e] at i2
    simp only at i2 ⊢
    unfold PySem.W.nsIn
    rw [kd.at_]
    simp only [i2, i1]
    rfl
  | some d' =>
    rw [e] at i2
    simp only at i2 ⊢
    obtain ⟨en, v, f1, f2, f3⟩ := i2
    refine ⟨en.val, v, ?_, f2, f3⟩
    unfold PySem.W.nsIn
    rw [kd.at_]
    simp only [f1]
def kdIn (tbl : List (Str × D)) (x : D) (μ : Store) : Option (D × Store) := match x with
  | .str z => some (.bl (tbl.lookup z).isSome, μ)
  | _ => none
def kdNin (tbl : List (Str × D)) (x : D) (μ : Store) : Option (D × Store) := match x with
  | .str z => some (.bl (!(tbl.lookup z).isSome), μ)
  | _ => none
def kdIx (tbl : List (Str × D)) (x : D) (μ : Store) : Option (D × Store) := match x with
  | .str z => (tbl.lookup z).map fun d => (d, μ)
  | _ => none
section
variable {X : Cx} {W : WX} {a : Expr} {ma : M D} {pos p : Pos} {x : Str} {d : Addr} {tbl : List (Str × D)}
theorem kd_bin {r : R2} {f : D → Store → Option (D × Store)} (hr : ∀ {μ A H z w Q}, Rep (Xg X) A μ H → RV X.K A H z w → Res (Xg X) A H (f z μ) Q → r w (.ref d) H Q) {σ : L2.St} {H : Hp} {Q : VK} (h : T (Xg X) (RE (Xg X)) W (mUn f ma) σ H Q) :
    tOp r (T (Xg X) (RE (Xg X)) W ma) (tC (.ref d)) σ H Q := by
  obtain ⟨ρ, μ, A, rs, rp, h⟩ := h
  refine ⟨ρ, μ, A, rs, rp, PV.bind h fun o μ1 v A1 H1 e1 r1 rv h => ?_⟩
  exact hr r1 rv (Res.of h)
theorem kdIn_ok (k : KD X.K X.w d tbl) {μ : Store} {A : List Addr} {H : Hp} {z : D} {w : V} {Q : VK} (r : Rep (Xg X) A μ H) (rz : RV X.K A H z w) (h : Res (Xg X) A H (kdIn tbl z μ) Q) :
    ∃ (z : Str) (r : Option Value), w = .str z ∧ V.ref d = .ref d ∧ PySem.W.nsIn X.K d z = some r ∧ Q (.bl r.isSome) H := by
  cases z with
  | str y =>
    cases (show w = _ from rz)
    have q : Q (.bl (tbl.lookup y).isSome) H := Res.val (d := .bl _) r rfl h
    obtain ⟨es, n, kd, e⟩ := k.ns y
    cases c : tbl.lookup y with
    | none => rw [c] at e q; exact ⟨y, _, rfl, rfl, e, q⟩
    | some d' => rw [c] at e q; obtain ⟨u, v, e, _⟩ := e; exact ⟨y, _, rfl, rfl, e, q⟩
  | _ => exact h.elim
theorem kdNin_ok (k : KD X.K X.w d tbl) {μ : Store} {A : List Addr} {H : Hp} {z : D} {w : V} {Q : VK} (r : Rep (Xg X) A μ H) (rz : RV X.K A H z w) (h : Res (Xg X) A H (kdNin tbl z μ) Q) :
    ∃ (z : Str) (r : Option Value), w = .str z ∧ V.ref d = .ref d ∧ PySem.W.nsIn X.K d z = some r ∧ Q (.bl (!r.isSome)) H := by
  cases z with
  | str y =>
    cases (show w = _ from rz)
    have q : Q (.bl (!(tbl.lookup y).isSome)) H := Res.val (d := .bl _) r rfl h
    obtain ⟨es, n, kd, e⟩ := k.ns y
    cases c : tbl.lookup y with
    | none => rw [c] at e q; exact ⟨y, _, rfl, rfl, e, q⟩
    | some d' => rw [c] at e q; obtain ⟨u, v, e, _⟩ := e; exact ⟨y, _, rfl, rfl, e, q⟩
  | _ => exact h.elim
theorem dt_nin_kd (k : KD X.K X.w d tbl) (hm : X.mg x = some (.ref d)) (ha : DE X W a ma) (hg : Gl X x := by rfl) (hd : (x == ("__debug__" : Str)) = false := by decide) (hb : behindInMarks .NotIn (.Name x p) = false := by rfl) :
    DT X W (.Compare a [.NotIn] [.Name x p] pos) (mTest (mUn (kdNin tbl) ma)) := by
  obtain ⟨es, n, kd, _⟩ := k.of
  refine pt_imp (pt_cmpR (op_notIn_kd kd) ha (pe_glob hg hm (v := .ref d) rfl hd) hb) fun σ H Q h => ?_
  exact kd_bin (kdNin_ok k) (test_imp h)
theorem dt_in_kd (k : KD X.K X.w d tbl) (hm : X.mg x = some (.ref d)) (ha : DE X W a ma) (hg : Gl X x := by rfl) (hd : (x == ("__debug__" : Str)) = false := by decide) (hb : behindInMarks .In (.Name x p) = false := by rfl) :
    DT X W (.Compare a [.In] [.Name x p] pos) (mTest (mUn (kdIn tbl) ma)) := by
  obtain ⟨es, n, kd, _⟩ := k.of
  refine pt_imp (pt_cmpR (op_in_kd kd) ha (pe_glob hg hm (v := .ref d) rfl hd) hb) fun σ H Q h => ?_
  exact kd_bin (kdIn_ok k) (test_imp h)
theorem de_ix_kd (k : KD X.K X.w d tbl) (hm : X.mg x = some (.ref d)) (ha : DE X W a ma) (hg : Gl X x := by rfl) (hd : (x == ("__debug__" : Str)) = false := by decide) (hs : PlainIx a := by exact fun _ _ => rfl) :
    DE X W (.Subscript (.Name x p) a pos) (mUn (kdIx tbl) ma) := pe_imp (pe_ix ix_kdict (pe_glob hg hm (v := .ref d) rfl hd) ha hs) fun σ H Q h => by
  obtain ⟨ρ, μ, A, rs, rp, h⟩ := h
  refine ⟨ρ, μ, A, rs, rp, PV.bind h fun o μ1 v A1 H1 e1 r1 rv h => ?_⟩
  cases o with
  | str y =>
    cases (show v = _ from rv)
    obtain ⟨es, n, kd, e⟩ := k.ns y
    simp only [kdIx] at h
    cases c : tbl.lookup y with
    | none => rw [c] at h; exact h.elim
    | some d' =>
      rw [c] at h e
      obtain ⟨u, v, k1, k2, k3⟩ := e
      exact ⟨d, y, v, rfl, rfl, ⟨es, n, u, kd.at_, kd.lit, k1, k3⟩, h v A1 H1 (Ext.refl r1) r1 (k2 _ _)⟩
  | _ => exact h.elim
end
/-! ### new objects -/
/-- C(..): the init writes the fields -/
def mMake (c : Str) (n : Nat) (f : List D → Store → Out (D × Store)) (a : M (List D)) : M D := fun ρ μ => (a ρ μ).bind fun p => if p.1.length + 1 = n then (f (.ptr p.2.length :: p.1) (p.2 ++ [.ins c []])).bind fun q => match q.1 with
    | .non => .ok (.ptr p.2.length, q.2)
    | _ => .no
  else .no
section
variable {X : Cx} {W : WX} {k n : Nat} {f C : Addr} {fd : FuncData} {ps : List Str} {m : List D → Store → Out (D × Store)} {x : Str} {p pos apos : Pos} {e : Expr} {es : List Expr} {ms : M (List D)}
theorem make_body {g : G} {c : Str} {σ : L2.St} {A : List Addr} {μ : Store} {H : Hp} {Q : VK} {ds : List D} {vs : List V} (hC : g.mg c = some (.ref C)) (r : Rep g A μ H) (rv : RVs g.K A H ds vs)
    (h : PV g (RE g) W σ A H (if ds.length + 1 = n then (m (.ptr μ.length :: ds) (μ ++ [.ins c []])).bind fun q => match q.1 with
      | .non => .ok (.ptr μ.length, q.2)
      | _ => .no
    else .no) Q) : ∀ x dx, H x = none → H dx = none → dx ≠ x → spF g n m (.ref x :: vs) (upd (upd H dx (.own x)) x (.ins C dx [])) (fun v H2 => v = .non ∧ Q (.ref x) H2) (L2.WE W σ) := fun x dx hx hdx hne => by
  split at h
  · rename_i hn
    have e1 := Ext.new (o := .own x) r hdx
    have r1 := Rep.new (o := .own x) r hdx
    have hx1 : upd H dx (.own x) x = none := by rw [upd_ne (fun z => hne z.symm)]; exact hx
    have e2 := Ext.push (o := .ins C dx []) r1 hx1
    have r2 : Rep g (A ++ [x]) (μ ++ [.ins c []]) (upd (upd H dx (.own x)) x (.ins C dx [])) := Rep.push r1 hx1 ⟨C, dx, [], hC, upd_same, rfl⟩
    have hD : (A ++ [x])[μ.length]? = some x := by rw [← r.len]; simp
    refine ⟨.ptr μ.length :: ds, _, _, r2, RVs.consI ⟨x, rfl, hD⟩ (RVs.ext r1 e2 _ _ (RVs.ext r e1 _ _ rv)), by simpa using hn, ?_⟩
    have h := PV.ext (e1.trans e2) h
    unfold PF
    cases ho : m (.ptr μ.length :: ds) (μ ++ [.ins c []]) with
    | ok q =>
      obtain ⟨d, μ'⟩ := q
      rw [ho] at h
      intro v A' H' e' r' rd
      cases d with
      | non => exact ⟨rd, h (.ref x) A' H' e' r' ⟨x, rfl, e'.ix hD⟩⟩
      | _ => exact h.elim
    | ex c' fs μ' => rw [ho] at h; exact h
    | no => rw [ho] at h; exact h.elim
  · exact h.elim
theorem de_make {c : Str} (M : Mk X.K C f) (F : FnOk X.prog X.w X.K X.mg X.base (L2.CX X.prog X.w) k f fd ps (spF (Xg X) n m)) (hr : Room (k + 1) X.A) (hm : X.mg c = some (.ref C)) (hb : Binds X.K fd ps []) (tk : Takes X W) (ha : DA X W (e :: es) ms)
    (hg : Gl X c := by rfl) (hdb : (c == ("__debug__" : Str)) = false := by decide) (he : starEach (e :: es) X.env = (false, eval e X.env) :: starEach es X.env := by rfl) (hpl : (backTo pos (starEach es X.env)).any (·.1) = false := by rfl) :
    DE X W (.Call (.Name c p) (e :: es) [] pos) (mMake c n m ms) := pe_imp (pe_makeQ M F hr hg hm hb (fun σ => passAt tk σ) ha hdb he hpl) fun σ H Q h => by
  obtain ⟨ρ, μ, A, rs, rp, h⟩ := h
  exact ⟨ρ, μ, A, rs, rp, PV.bind h fun ds μ1 vs A1 H1 e1 r1 rv h => make_body (g := Xg X) hm r1 rv h⟩
theorem de_make0 {c : Str} (M : Mk X.K C f) (F : FnOk X.prog X.w X.K X.mg X.base (L2.CX X.prog X.w) k f fd ps (spF (Xg X) n m)) (hr : Room (k + 1) X.A) (hm : X.mg c = some (.ref C)) (hb : Binds X.K fd ps []) (tk : Takes X W)
    (hg : Gl X c := by rfl) (hdb : (c == ("__debug__" : Str)) = false := by decide) : DE X W (.Call (.Name c p) [] [] pos) (mMake c n m aNil) := pe_imp (pe_makeQ0 M F hr hg hm hb (fun σ => passAt tk σ) hdb) fun σ H Q h => by
  obtain ⟨ρ, μ, A, rs, rp, h⟩ := h
  exact make_body (g := Xg X) (ds := []) (vs := []) hm rp rfl h
end
end DL

-- DL9
set_option Elab.async false
set_option linter.all false
set_option maxRecDepth 100000
set_option maxHeartbeats 2000000
/-! DL9: lambdas: made, handed to a def, called there. -/
namespace LamD
open PySem PySem.Spec PyProof.Rows L2 LamX NdefX DL
abbrev lamNF (L : LamC) (cl : List (Str × Addr)) (c : Addr) : NF := ⟨"<lambda>", L.qual, L.params, [], L.scope, cl, c⟩
section
variable {X : Cx} {pins : List (Addr × Obj)} {σ : L2.St} {H : Hp} {s : Shared}
theorem inv_lam {c : Addr} {L : LamC} {cl : List (Str × Addr)} {o : Obj} {t' : Nat} {pm ctv : Value} (I : Inv X pins σ H s) (ho : o = { cls := .type "function", data := .func (PySem.W.kla_fn "<lambda>" L.qual L.params L.body L.scope cl pm (.ref c) ctv) }) :
    Inv X pins σ (upd H s.heap.objs.size (LamO s.heap.objs.size c L cl)) { s with heap := s.heap.push o, toks := t' } := by
  subst ho
  refine I.laid (a := s.heap.objs.size) (fun b u e => Heap.get?_push_of_some _ e) (Nat.le_refl _) ?_
  have e : (s.heap.push ({ cls := .type "function", data := .func (PySem.W.kla_fn "<lambda>" L.qual L.params L.body L.scope cl pm (.ref c) ctv) } : Obj)).get? s.heap.objs.size = some ({ cls := .type "function", data := .func (PySem.W.kla_fn "<lambda>" L.qual L.params L.body L.scope cl pm (.ref c) ctv) } : Obj) := Heap.get?_push_size _ rfl
  exact ⟨⟨_, _, pm, ctv, e⟩, ⟨_, e⟩, fun h1 h2 ⟨od, sl, p, t, z⟩ st => ⟨od, sl, p, t, st _ z⟩⟩
/-- the lambda is made and tracked -/
theorem lam_make3 {T : List (Addr × Str)} {c P : Addr} {params : Arguments} {body : Expr} {scope : Scope} {pos : Pos} {E : Value → Shared → Prop} {Q : Value → Shared → Prop} (I : Inv X pins σ H s) (TB : TabB X.base X.mg c P) (hcode : X.env.code = .ref c)
    (hm : (P, X.env.qual ++ "<lambda>") ∈ T) (hu : ∀ p ∈ T, p.1 = P → p.2 = X.env.qual ++ "<lambda>") (hT : Tabs T H) (hdef : defaultsOf params X.env = ([], [])) (hfree : ∀ y ∈ scope.names, y.2 = .free → ∃ c, X.env.cells.lookup y.1 = some c)
    (h : ∀ (f c' : Addr) (H1 : Hp) (s' : Shared), Inv X pins σ H1 s' → ExtN H H1 → (∀ b, H1 b = none → H b = none) → Tabs T H1 → H1 f = some (LamO f c' ⟨X.env.qual ++ "<lambda>", params, body, scope⟩ (cloFrom X.env.cells scope.names [])) → H1 c' = some (CodeO c' (X.env.qual ++ "<lambda>")) → Q (.ref f) s') :
    wpAny (model X.prog X.w) X.A (eval (.Lambda params body scope pos) X.env) Q E s := by
  obtain ⟨ps, hP, ht, ha⟩ := hT _ hm
  refine PySem.W.kla_eval hdef ?_
  have bP : s.heap.BuiltinsAt X.mg P := TB.bm.keeps I.bk
  have hP' : s.heap.get? P = some { cls := .none, data := .fields ps } := I.hok P _ hP
  cases hc : codeAmong pos ps.toList with
  | none =>
    refine PySem.W.kla_makeFunction (mg := X.mg) (c := c) (P := P) (ps := ps) (closure_ok hfree) I.ok.glob (I.mod.glob.keeps I.bk) hcode (TB.code.keeps I.bk) hP' ht hc TB.gP bP fun c' ctv h' tk hx hge hlt hrec htb => ?_
    obtain ⟨c2, oc, vs, t, e2, hoc, hd, hv⟩ := hrec
    cases e2
    have nC : H c' = none := I.hok.fresh hge
    have I1 := inv_table (t' := tk) (more := #[rawInt pos.line, rawInt pos.col, .ref c']) (h' := h') I hP (fun b o hb e => hx b o hb e) htb hge ⟨oc, vs, t, hoc, hd, hv⟩
    have hE : ExtN H (upd (upd H P (.tbl (ps ++ #[rawInt pos.line, rawInt pos.col, .ref c']))) c' (CodeO c' (X.env.qual ++ "<lambda>"))) := fun b o e n => by
      rw [upd_ne (ne_of_none e nC), upd_ne (fun z => n ps (Option.some.inj (e.symm.trans (by rw [z]; exact hP))))]
      exact e
    have eL : (ps ++ #[rawInt pos.line, rawInt pos.col, .ref c']).toList = ps.toList ++ [rawInt pos.line, rawInt pos.col, .ref c'] := by simp
    have T1 : Tabs T (upd (upd H P (.tbl (ps ++ #[rawInt pos.line, rawInt pos.col, .ref c']))) c' (CodeO c' (X.env.qual ++ "<lambda>"))) := fun p hp => by
      by_cases hb : p.1 = P
      · rw [hu p hp hb, hb]
        refine ⟨_, by rw [upd_ne (ne_of_none hP nC), upd_same], by rw [eL]; exact PySem.TriplesOk_snoc _ _ _ _ ht, fun p' cv hcv => ?_⟩
        rw [eL] at hcv
        rcases among_app _ ht hcv with z | z
        · obtain ⟨c0, e1, e2⟩ := ha p' cv z
          exact ⟨c0, e1, hE _ _ e2 codeO_ne⟩
        · exact ⟨c', z, upd_same⟩
      · obtain ⟨ps', a1, a2, a3⟩ := hT p hp
        refine ⟨ps', by rw [upd_ne (ne_of_none a1 nC), upd_ne hb]; exact a1, a2, fun p' cv hcv => ?_⟩
        obtain ⟨c0, e1, e2⟩ := a3 p' cv hcv
        exact ⟨c0, e1, hE _ _ e2 codeO_ne⟩
    have nF := I1.hok.fresh (Nat.le_refl _)
    have I2 := inv_lam (L := ⟨X.env.qual ++ "<lambda>", params, body, scope⟩) (cl := cloFrom X.env.cells scope.names []) (c := c') (t' := tk) (pm := (X.mg "__name__").getD .none) (ctv := ctv) I1 rfl
    refine h h'.objs.size c' _ _ I2 (fun b o e n => ?_) (fun b e => upd_none (upd_none (upd_none e))) (T1.ext fun b o e => ?_) upd_same ?_
    · have e1 := hE b o e n
      exact (upd_ne (ne_of_none e1 nF)).trans e1
    · exact (upd_ne (ne_of_none e nF)).trans e
    · exact (upd_ne (Nat.ne_of_lt hlt)).trans upd_same
  | some cv =>
    obtain ⟨c', e, hco⟩ := ha pos cv hc
    subst e
    refine PySem.W.kla_makeFunctionHit (mg := X.mg) (c := c) (P := P) (ps := ps) (closure_ok hfree) I.ok.glob (I.mod.glob.keeps I.bk) hcode (TB.code.keeps I.bk) hP' ht hc bP fun ctv h' tk hx hsz => ?_
    have I1 : Inv X pins σ H { s with heap := h', toks := tk } := I.kept hx
    have nF : H h'.objs.size = none := I1.hok.fresh (Nat.le_refl _)
    have I2 := inv_lam (L := ⟨X.env.qual ++ "<lambda>", params, body, scope⟩) (cl := cloFrom X.env.cells scope.names []) (c := c') (t' := tk) (pm := (X.mg "__name__").getD .none) (ctv := ctv) I1 rfl
    refine h h'.objs.size c' _ _ I2 (fun b o e n => ?_) (fun b e => upd_none e) (hT.ext fun b o e => ?_) upd_same ?_
    · exact (upd_ne (ne_of_none e nF)).trans e
    · exact (upd_ne (ne_of_none e nF)).trans e
    · exact (upd_ne (ne_of_none hco nF)).trans hco
/-- what captured cells hold, they hold at a later state of a frame that is not theirs -/
theorem cells_later {cl : List (Str × Addr)} {fr : List Str} {ws : List (Option V)} (C : CellsAt cl fr ws X.s_0.heap X.H_0) (hx : X.ex = []) (I : Inv X pins σ H s) : CellsAt cl fr ws s.heap H := by
  have kp : ∀ y c, cl.lookup y = some c → ∀ v, X.s_0.heap.IsCell c v → s.heap.IsCell c v := fun y c e v ⟨o, ho, hd⟩ => by
    obtain ⟨sl, q⟩ := I.base.any ho (C.all y c e).1 (by rw [hx]; simp)
    exact ⟨_, q, hd⟩
  refine ⟨C.len, fun y c e => ?_, C.inj, fun i y e => ?_⟩
  · obtain ⟨n, v, z⟩ := C.all y c e
    refine ⟨?_, v, kp y c e v z⟩
    obtain ⟨o, ho, _⟩ := z
    exact I.base.free c o ho n (by rw [hx]; simp)
  · obtain ⟨c, hc, hv⟩ := C.has i y e
    refine ⟨c, hc, fun v ev => ?_⟩
    obtain ⟨u, r, z⟩ := hv v ev
    exact ⟨u, r, kp y c hc _ z⟩
theorem lamO_at {P : Program} {w : World} {H : Hp} {h : Heap} {f c : Addr} {L : LamC} {cl : List (Str × Addr)} (hok : HOk P w H h) (e : H f = some (LamO f c L cl)) : ∃ (od : Option Addr) (sl : Array (Option Value)) (pm ctv : Value), h.get? f = some (⟨.type "function", od, .func (PySem.W.kla_fn "<lambda>" L.qual L.params L.body L.scope cl pm (.ref c) ctv), sl⟩ : Obj) := by
  obtain ⟨z, _, _⟩ := hok f _ e
  exact z
theorem lam_fnAt {f c : Addr} {L : LamC} {cl : List (Str × Addr)} (I : Inv X pins σ H s) (e : H f = some (LamO f c L cl)) : PySem.W.FnAt f s.heap := by
  obtain ⟨od, sl, pm, ctv, ho⟩ := lamO_at I.hok e
  exact ⟨_, od, _, sl, ho⟩
end
end LamD
namespace DL
open PySem PySem.Spec PyProof.Rows L2 LamX NdefX LamD
variable [Tab]
/-- what a lambda promises: it is worth what φ tells, while its cells hold us (data cs) -/
def spL (g : G) (n : Nat) (φ : List D → Store → Out (D × Store)) (cs : List D) (us : List V) : Sp := fun vs H Q E => ∃ ds μ A, Rep g A μ H ∧ RVs g.K A H ds vs ∧ RVs g.K A H cs us ∧ ds.length = n ∧ PF g E A H (φ ds μ) Q
structure LamOk (P : Program) (w : World) (K : PySem.W.Frag) (mg : Str → Option Value) (base : Heap) (k : Nat) (L : LamC) (cl : List (Str × Addr)) (us : List V) (cs : List D) (fr : List Str) (n : Nat) (φ : List D → Store → Out (D × Store)) : Prop where
  run : ∀ (f c : Addr) (A : Around) (outer : List PySem.Env) (s : Shared) (H : Hp) (args : List Value) (vs : List V) (Q : VK) (E : XK), Room k A → Env0 P w K mg base A outer s H → H f = some (LamO f c L cl) → H c = some (CodeO c L.qual) → CellsAt cl fr (us.map some) s.heap H → Vals vs args →
    spL ⟨K, mg⟩ n φ cs us vs H Q E → codeAny (model P w) A (.call (.ref f) ⟨args, []⟩) (CR (L2.CX P w) outer P w H s Q E) s
def lamF (N : Nat) (cs : List D) (mb : M D) (ds : List D) (μ : Store) : Out (D × Store) := mb (ds.map some ++ (cs.map some ++ List.replicate (N - ds.length - cs.length) none)) μ
theorem RS.app {K : PySem.W.Frag} {A : List Addr} {H : Hp} {ρ ρ' : Env} {σ σ' : L2.St} (h : RS K A H ρ σ) (h' : RS K A H ρ' σ') : RS K A H (ρ ++ ρ') (σ ++ σ') := by
  refine ⟨by rw [List.length_append, List.length_append, h.len, h'.len], fun i d e => ?_⟩
  by_cases hi : i < ρ.length
  · rw [List.getElem?_append_left hi] at e
    rw [List.getElem?_append_left (by rw [← h.len]; exact hi)]
    exact h.at_ i d e
  · rw [List.getElem?_append_right (by omega)] at e
    rw [List.getElem?_append_right (by rw [← h.len]; omega), ← h.len]
    exact h'.at_ _ d e
theorem rs_map {K : PySem.W.Frag} {A : List Addr} {H : Hp} {ds : List D} {vs : List V} (h : RVs K A H ds vs) : RS K A H (ds.map some) (vs.map some) := by
  refine ⟨by simp [RVs.length h], fun i d e => ?_⟩
  rw [List.getElem?_map] at e
  cases q : ds[i]? with
  | none => rw [q] at e; cases e
  | some d' =>
    rw [q] at e
    cases e
    obtain ⟨v, hv, rv⟩ := RVs.get h q
    exact ⟨v, by rw [List.getElem?_map, hv]; rfl, rv⟩
theorem rs_none {K : PySem.W.Frag} {A : List Addr} {H : Hp} (n : Nat) : RS K A H (List.replicate n none) (List.replicate n none) := by
  refine ⟨by simp, fun i d e => ?_⟩
  rw [List.getElem?_replicate] at e
  split at e <;> cases e
section
variable {P : Program} {w : World} {K : PySem.W.Frag} {mg : Str → Option Value} {base : Heap}
/-- a lambda by its body -/
theorem lamOk_of {N ps fr : List Str} {L : LamC} {cl : List (Str × Addr)} {us : List V} {cs : List D} {k : Nat} {mb : M D} (S : NScope N ps fr L.scope)
    (hb : ∀ (cl : List (Str × Addr)) (pm c ctv : Value) (args : List Value), args.length = ps.length → bindArgs (PySem.W.kla_fn "<lambda>" L.qual L.params L.body L.scope cl pm c ctv) ⟨args, []⟩ = pure (ps.zip args))
    (hbody : ∀ (f c : Addr) (A : Around) (outer : List PySem.Env) (s : Shared) (H : Hp) (E : XK), Room k (A.deeper (envF (lamNF L cl c) f s.heap.objs.size)) → DE (ncx (L2.CX P w) P w K mg base N (lamNF L cl c) f A outer s H E) (WD E) L.body mb) :
    LamOk P w K mg base (k + 1) L cl us cs fr ps.length (lamF N.length cs mb) := by
  refine ⟨fun f c A outer s H args vs Q E hr e0 hf hc C r hsp => ?_⟩
  obtain ⟨ds, μ, A1, rp, rv, rc, hn, h⟩ := hsp
  have hl : vs.length = ps.length := by rw [RVs.length rv]; exact hn
  have lim : s.heap.NoLimit := e0.mod.nolimit.keeps fun b o e => (e0.bs b o e).1
  obtain ⟨od, sl, pm, ctv, ho⟩ := lamO_at e0.hok hf
  refine PySem.W.kla_callFunE hr.depth ho rfl S.co S.gen rfl (codeO_at e0.hok hc) ?_
  rw [hb cl pm (.ref c) ctv args (by rw [← r.length]; exact hl)]
  refine wpAny_pure (wpAny_newFunctionEnv S.nocell (fun ⟨n, _⟩ hy => S.par n (List.of_mem_zip hy).1) (fun h₁ hns hsb => ⟨lim.fresh _ hsb, ?_⟩) S.kind)
  show codeAny _ _ (.expr L.body (envF (lamNF L cl c) f s.heap.objs.size)) _ _
  have kp : ∀ b o, s.heap.get? b = some o → h₁.get? b = some o := fun b o e => hsb.extBut b o (Nat.ne_of_lt (Heap.lt_size e)) (Heap.get?_push_of_some _ e)
  have I : Inv (ncx (L2.CX P w) P w K mg base N (lamNF L cl c) f A outer s H E) [] (startF N vs (us.map some)) H { s with heap := h₁, toks := s.toks + (ps.zip args).length } := inv_startN (F := lamNF L cl c) S hr.hd e0 hl r C hns kp
  have ht : T ⟨K, mg⟩ (RE ⟨K, mg⟩) (WD E) mb (startF N vs (us.map some)) H Q := by
    refine ⟨ds.map some ++ (cs.map some ++ List.replicate (N.length - ds.length - cs.length) none), μ, A1, ?_, rp, ?_⟩
    · unfold startF
      rw [RVs.length rv, List.length_map, RVs.length rc]
      exact RS.app (rs_map rv) (RS.app (rs_map rc) (rs_none _))
    · unfold PF lamF at h
      cases e : mb (ds.map some ++ (cs.map some ++ List.replicate (N.length - ds.length - cs.length) none)) μ with
      | ok p => rw [e] at h; exact h
      | ex c fs μ' => rw [e] at h; exact h
      | no => rw [e] at h; exact h.elim
  refine PySem.W.kla_codeExpr (wpAny_mono ((hbody f c A outer s H E (hr.deeper _)).run [] _ _ H Q I ht) (fun v s' hq => ?_) fun e s' hq => hq)
  obtain ⟨w', H', J', rv', q⟩ := hq
  exact ⟨w', H', J'.os, J'.bare, J'.base, J'.hok, rv', q⟩
end
/-- the frame Z was entered with that lambda at hand -/
structure LamIn (Z : Cx) (k : Nat) (L : LamC) (cl : List (Str × Addr)) (us : List V) (cs : List D) (n : Nat) (φ : List D → Store → Out (D × Store)) : Prop where
  of : ∃ fr, CellsAt cl fr (us.map some) Z.s_0.heap Z.H_0 ∧ LamOk Z.prog Z.w Z.K Z.mg Z.base k L cl us cs fr n φ
open Classical in
noncomputable def mAct (i : Nat) (Lv : D) (n : Nat) (φ : List D → Store → Out (D × Store)) (a : M (List D)) : M D := fun ρ μ => if ρ[i]? = some (some Lv) then (a ρ μ).bind fun p => if p.1.length = n then φ p.1 p.2 else .no else .no
def tLamCall (i : Nat) (Z : Cx) (L : LamC) (cl : List (Str × Addr)) (us : List V) (cs : List D) (n : Nat) (φ : List D → Store → Out (D × Store)) (W : WX) (t : TA) : TE := fun σ H Q => ∃ f c, σ[i]? = some (some (.ref f)) ∧ H f = some (LamO f c L cl) ∧
  t σ H fun vs H1 => H1 f = some (LamO f c L cl) ∧ H1 c = some (CodeO c L.qual) ∧ spL (Xg Z) n φ cs us vs H1 Q (WE W σ)
section
variable {Z : Cx} {k n : Nat} {L : LamC} {cl : List (Str × Addr)} {us : List V} {cs : List D} {φ : List D → Store → Out (D × Store)} {W : WX} {i : Nat} {x : Str} {p pos : Pos} {e : Expr} {es : List Expr} {ms : M (List D)} {t : TA}
theorem run_lam {pins : List (Addr × Obj)} {σ : L2.St} {H : Hp} {s : Shared} {Q : VK} {f c : Addr} {args : List Value} {vs : List V} (In : LamIn Z k L cl us cs n φ) (hex : Z.ex = []) (hr : Room k Z.A) (tk : Takes Z W) (I : Inv Z pins σ H s)
    (hf : H f = some (LamO f c L cl)) (hc : H c = some (CodeO c L.qual)) (r : Vals vs args) (q : spL (Xg Z) n φ cs us vs H Q (WE W σ)) : wpAny (model Z.prog Z.w) Z.A (call (.ref f) args) (EP Z pins σ Q) Z.xe s := by
  obtain ⟨fr, C, Ok⟩ := In.of
  refine wpAny_call (codeAny_mono (Ok.run f c Z.A Z.stack s H args vs Q (WE W σ) hr I.env0 hf hc (cells_later C hex I) r q) fun r s' hq => ?_)
  cases r with
  | error e => exact passAt tk σ pins H s e s' I hq
  | ok fl =>
    cases fl with
    | ret u => exact I.after hq
    | next => exact False.elim hq
    | brk => exact False.elim hq
    | cont => exact False.elim hq
theorem pe_lamCall (In : LamIn Z k L cl us cs n φ) (hex : Z.ex = []) (hr : Room k Z.A) (tk : Takes Z W) (hN : Z.N[i]? = some x) (hv : Vis Z.env.scope x) (ha : PA Z (e :: es) t)
    (hd : (x == ("__debug__" : Str)) = false := by decide) (hcd : (x == ("__classdict__" : Str)) = false := by decide)
    (he : starEach (e :: es) Z.env = (false, eval e Z.env) :: starEach es Z.env := by rfl) (hpl : (backTo pos (starEach es Z.env)).any (·.1) = false := by rfl) : PE Z (.Call (.Name x p) (e :: es) [] pos) (tLamCall i Z L cl us cs n φ W t) := by
  refine ⟨fun pins s σ H Q I h => ?_⟩
  obtain ⟨f, c, hs, hf, ht⟩ := h
  refine wpAny_Call_Name_kw (thn ((pe_var (pos := p) hN hv hd hcd).run pins s σ H (fun v H1 => v = .ref f ∧ H1 = H) I ⟨.ref f, hs, rfl, rfl⟩) fun u s1 ⟨v, H1, I1, r1, q1⟩ => ?_)
  obtain ⟨rfl, rfl⟩ := q1
  obtain rfl : u = Value.ref f := r1
  refine PySem.W.callWith_F (first := []) (lam_fnAt I1 hf) (thn (ha.run pos pins s1 σ _ _ I1 ht) fun us s2 ⟨vs, H2, I2, r, h1, h2, q⟩ => ⟨lam_fnAt I2 h1, ?_⟩) he hpl
  exact run_lam In hex hr tk I2 h1 h2 r q
theorem pe_lamCall0 (In : LamIn Z k L cl us cs n φ) (hex : Z.ex = []) (hr : Room k Z.A) (tk : Takes Z W) (hN : Z.N[i]? = some x) (hv : Vis Z.env.scope x)
    (hd : (x == ("__debug__" : Str)) = false := by decide) (hcd : (x == ("__classdict__" : Str)) = false := by decide) : PE Z (.Call (.Name x p) [] [] pos) (tLamCall i Z L cl us cs n φ W tNil) := by
  refine ⟨fun pins s σ H Q I h => ?_⟩
  obtain ⟨f, c, hs, hf, h1, h2, q⟩ := h
  refine wpAny_Call_Name_kw (thn ((pe_var (pos := p) hN hv hd hcd).run pins s σ H (fun v H1 => v = .ref f ∧ H1 = H) I ⟨.ref f, hs, rfl, rfl⟩) fun u s1 ⟨v, H1, I1, r1, q1⟩ => ?_)
  obtain ⟨rfl, rfl⟩ := q1
  obtain rfl : u = Value.ref f := r1
  refine PySem.W.callWith_F0 (first := []) (lam_fnAt I1 hf) ?_
  exact run_lam (args := []) In hex hr tk I1 h1 h2 .nil q
theorem act_start {σ : L2.St} {H : Hp} {Q : VK} (h : T (Xg Z) (RE (Xg Z)) W (mAct i (.lam L cl us cs) n φ ms) σ H Q) : ∃ ρ μ A f c, RS Z.K A H ρ σ ∧ Rep (Xg Z) A μ H ∧ σ[i]? = some (some (.ref f)) ∧ H f = some (LamO f c L cl) ∧ H c = some (CodeO c L.qual) ∧ RVs Z.K A H cs us ∧
    PV (Xg Z) (RE (Xg Z)) W σ A H ((ms ρ μ).bind fun p => if p.1.length = n then φ p.1 p.2 else .no) Q := by
  obtain ⟨ρ, μ, A, rs, rp, h⟩ := h
  unfold mAct at h
  split at h
  · rename_i e
    obtain ⟨v, hv, rv⟩ := rs.at_ i _ e
    simp only [RV] at rv
    obtain ⟨f, c, rfl, h1, h2, h3⟩ := rv
    exact ⟨ρ, μ, A, f, c, rs, rp, hv, h1, h2, h3, h⟩
  · exact h.elim
theorem de_act (In : LamIn Z k L cl us cs n φ) (hex : Z.ex = []) (hr : Room k Z.A) (tk : Takes Z W) (hN : Z.N[i]? = some x) (hv : Vis Z.env.scope x) (ha : DA Z W (e :: es) ms)
    (hd : (x == ("__debug__" : Str)) = false := by decide) (hcd : (x == ("__classdict__" : Str)) = false := by decide)
    (he : starEach (e :: es) Z.env = (false, eval e Z.env) :: starEach es Z.env := by rfl) (hpl : (backTo pos (starEach es Z.env)).any (·.1) = false := by rfl) : DE Z W (.Call (.Name x p) (e :: es) [] pos) (mAct i (.lam L cl us cs) n φ ms) :=
  pe_imp (pe_lamCall In hex hr tk hN hv ha hd hcd he hpl) fun σ H Q h => by
    obtain ⟨ρ, μ, A, f, c, rs, rp, h1, h2, h3, h4, h⟩ := act_start h
    have f1 : f ∉ A := rp.apart h2 (fun _ z => nomatch z) (fun _ _ _ z => nomatch z) (fun _ z => nomatch z) (fun _ z => nomatch z)
    have c1 : c ∉ A := rp.apart h3 (fun _ z => nomatch z) (fun _ _ _ z => nomatch z) (fun _ z => nomatch z) (fun _ z => nomatch z)
    refine ⟨f, c, h1, h2, ρ, μ, A, rs, rp, PV.bind h fun ds μ1 vs A1 H1 e1 r1 rv h => ?_⟩
    simp only at h
    refine ⟨e1.frm _ _ f1 h2 (fun _ z => nomatch z), e1.frm _ _ c1 h3 (fun _ z => nomatch z), ?_⟩
    split at h
    · rename_i hn
      exact ⟨ds, μ1, A1, r1, rv, RVs.ext rp e1 _ _ h4, hn, pf_of h⟩
    · exact h.elim
theorem de_act0 (In : LamIn Z k L cl us cs n φ) (hex : Z.ex = []) (hr : Room k Z.A) (tk : Takes Z W) (hN : Z.N[i]? = some x) (hv : Vis Z.env.scope x)
    (hd : (x == ("__debug__" : Str)) = false := by decide) (hcd : (x == ("__classdict__" : Str)) = false := by decide) : DE Z W (.Call (.Name x p) [] [] pos) (mAct i (.lam L cl us cs) n φ aNil) :=
  pe_imp (pe_lamCall0 In hex hr tk hN hv hd hcd) fun σ H Q h => by
    obtain ⟨ρ, μ, A, f, c, rs, rp, h1, h2, h3, h4, h⟩ := act_start h
    have h : PV (Xg Z) (RE (Xg Z)) W σ A H (if ([] : List D).length = n then φ [] μ else .no) Q := h
    refine ⟨f, c, h1, h2, h2, h3, ?_⟩
    split at h
    · rename_i hn
      exact ⟨[], μ, A, rp, rfl, h4, hn, pf_of h⟩
    · exact h.elim
end
/-! ### a def that is handed a lambda -/
structure HoFn (P : Program) (w : World) (K : PySem.W.Frag) (mg : Str → Option Value) (base : Heap) (k kl : Nat) (g : Addr) (fd : FuncData) (ps : List Str) (nl : Nat) (m : D → (List D → Store → Out (D × Store)) → List D → Store → Out (D × Store)) : Prop where
  run : ∀ (A : Around) (outer : List PySem.Env) (s : Shared) (H : Hp) (args : Args) (us : List Value) (vs : List V) (Q : VK) (E : XK) (L : LamC) (cl : List (Str × Addr)) (ls : List V) (cs : List D) (fr : List Str) (φ : List D → Store → Out (D × Store)), Room k A → Env0 P w K mg base A outer s H →
    BindsTo s fd args (ps.zip us) → Vals vs us → CellsAt cl fr (ls.map some) s.heap H → LamOk P w K mg base kl L cl ls cs fr nl φ → spF ⟨K, mg⟩ ps.length (m (.lam L cl ls cs) φ) vs H Q E → codeAny (model P w) A (.call (.ref g) args) (CR (L2.CX P w) outer P w H s Q E) s
theorem hofn_body {P : Program} {w : World} {K : PySem.W.Frag} {mg : Str → Option Value} {base : Heap} {x qual : Str} {st : Stmt} {g : Addr} {fd : FuncData} {N ps : List Str} {k kl nl : Nat} (F : Fun K x qual st g fd) (Sc : FnScope N ps (defScope st)) {b : D → (List D → Store → Out (D × Store)) → S}
    (hb : ∀ (cdv : Value) (A : Around) (outer : List PySem.Env) (s : Shared) (H : Hp) (E : XK) (L : LamC) (cl : List (Str × Addr)) (ls : List V) (cs : List D) (φ : List D → Store → Out (D × Store)), Room k (A.deeper (envOfC qual (defScope st) s.heap.objs.size g cdv)) →
      LamIn (cxOf (L2.CX P w) P w K mg base N qual (defScope st) g cdv A outer s H E) kl L cl ls cs nl φ →
      DSs (cxOf (L2.CX P w) P w K mg base N qual (defScope st) g cdv A outer s H E) (WD E) (defBody st) (b (.lam L cl ls cs) φ)) :
    HoFn P w K mg base (k + 1) kl g fd ps nl fun Lv φ => runF N.length (b Lv φ) := by
  obtain ⟨oc, od, kV, doc, pm, an, cdv, ct, osl, rfl, lk, hcd⟩ := F.ex
  refine ⟨fun A outer s H args us vs Q E L cl ls cs fr φ hr e0 hbd r C Ok hsp => ?_⟩
  have hl : vs.length = ps.length := by
    obtain ⟨ds, μ, A1, rp, rv, hn, h⟩ := hsp
    rw [RVs.length rv]; exact hn
  refine run_ofS (N := N) lk hcd Sc hr e0 hbd r hl fun hr' => ?_
  exact ⟨_, hb cdv A outer s H E L cl ls cs φ hr' ⟨fr, C, Ok⟩, run_imp hsp⟩
/-! ### calls that hand a lambda over -/
def RAL (g : G) (i : Nat) (L : LamC) (cl : List (Str × Addr)) : List Addr → Hp → List D → List V → Prop := fun A H ds vs => ∃ f c ds1 ds2 vs1 vs2, ds = ds1 ++ ds2 ∧ vs = vs1 ++ .ref f :: vs2 ∧ ds1.length = i ∧ RVs g.K A H ds1 vs1 ∧ RVs g.K A H ds2 vs2 ∧ H f = some (LamO f c L cl) ∧ H c = some (CodeO c L.qual)
abbrev DAL (X : Cx) (W : WX) (i : Nat) (L : LamC) (cl : List (Str × Addr)) (es : List Expr) (m : M (List D)) : Prop := PA X es (T (Xg X) (RAL (Xg X) i L cl) W m)
section
variable {X : Cx} {W : WX} {a : Expr} {ma : M D} {es : List Expr} {ms : M (List D)} {L : LamC} {cl : List (Str × Addr)} {i : Nat} {pos : Pos}
theorem dal_cons (ha : DE X W a ma) (hr : DAL X W i L cl es ms) (hs : starEach (a :: es) X.env = (false, eval a X.env) :: starEach es X.env := by rfl) : DAL X W (i + 1) L cl (a :: es) (aCons ma ms) := pa_imp (pa_cons ha hr hs) fun σ H Q h => by
  obtain ⟨ρ, μ, A, rs, rp, h⟩ := h
  refine ⟨ρ, μ, A, rs, rp, PV.bind h fun d μ1 v A1 H1 e1 r1 rv h => ?_⟩
  refine ⟨ρ, μ1, A1, RS.ext rp e1 rs, r1, PV.bind h fun ds μ2 vs A2 H2 e2 r2 rvs h => ?_⟩
  obtain ⟨f, c, ds1, ds2, vs1, vs2, rfl, rfl, hi, k1, k2, k3, k4⟩ := rvs
  exact h (v :: (vs1 ++ .ref f :: vs2)) A2 H2 (Ext.refl r2) r2 ⟨f, c, d :: ds1, ds2, v :: vs1, vs2, rfl, rfl, by simp [hi], RVs.consI (RV.ext r1 e2 _ _ rv) k1, k2, k3, k4⟩
theorem Ext.lam {g : G} {A : List Addr} {μ : Store} {H H1 : Hp} (rp : Rep g A μ H) (e : ExtN H H1) (nn : ∀ b, H1 b = none → H b = none) : Ext A H A H1 := ⟨⟨[], by simp, by simp⟩, fun b o _ h n => e b o h n, nn, rp.dom, fun a ha z => rp.dom a ha (nn a z)⟩
theorem Rep.lam {g : G} {A : List Addr} {μ : Store} {H H1 : Hp} (rp : Rep g A μ H) (e : ExtN H H1) (nn : ∀ b, H1 b = none → H b = none) (ht : Tabs Tab.T H1) : Rep g A μ H1 := by
  refine ⟨ht, rp.len, rp.nd, fun n a o ha ho => RO.ext rp (Ext.lam rp e nn) ?_ (rp.obj n a o ha ho)⟩
  cases h : H a with
  | none => exact absurd h (rp.dom a (List.mem_of_getElem? ha))
  | some u =>
    refine e a u h fun ps z => ?_
    subst z
    exact rp.apart h (fun _ z => nomatch z) (fun _ _ _ z => nomatch z) (fun _ z => nomatch z) (fun _ z => nomatch z) (List.mem_of_getElem? ha)
/-- what the frame's def must have, to make a lambda -/
structure Makes (X : Cx) : Prop where
  of : ∃ c P, TabB X.base X.mg c P ∧ X.env.code = .ref c ∧ (P, X.env.qual ++ "<lambda>") ∈ Tab.T ∧ ∀ p ∈ Tab.T, p.1 = P → p.2 = X.env.qual ++ "<lambda>"
theorem dal_lam {params : Arguments} {body : Expr} {scope : Scope} {lpos : Pos} (M : Makes X) (hdef : defaultsOf params X.env = ([], [])) (hfree : ∀ y ∈ scope.names, y.2 = .free → X.env.scope.names.lookup y.1 = some .cell ∨ X.env.scope.names.lookup y.1 = some .free) (hr : DA X W es ms)
    (hs : starEach (.Lambda params body scope lpos :: es) X.env = (false, eval (.Lambda params body scope lpos) X.env) :: starEach es X.env := by rfl) :
    DAL X W 0 ⟨X.env.qual ++ "<lambda>", params, body, scope⟩ (cloFrom X.env.cells scope.names []) (.Lambda params body scope lpos :: es) ms := by
  obtain ⟨c, P, TB, hcode, hm, hu⟩ := M.of
  have pl : PE X (.Lambda params body scope lpos) (fun σ H Q => Tabs Tab.T H ∧ ∀ f c' H1, ExtN H H1 → (∀ b, H1 b = none → H b = none) → Tabs Tab.T H1 → H1 f = some (LamO f c' ⟨X.env.qual ++ "<lambda>", params, body, scope⟩ (cloFrom X.env.cells scope.names [])) →
      H1 c' = some (CodeO c' (X.env.qual ++ "<lambda>")) → Q (.ref f) H1) := ⟨fun pins s σ H Q I h => by
    obtain ⟨hT, h⟩ := h
    exact lam_make3 I TB hcode hm hu hT hdef (fun y hy e => (hfree y hy e).elim (fun z => I.ok.has _ (.inl z)) fun z => I.ok.has _ (.inr z)) fun f c' H1 s' I1 eN nn T1 f1 c1 => ⟨.ref f, H1, I1, rfl, h f c' H1 eN nn T1 f1 c1⟩⟩
  refine pa_imp (pa_cons pl hr hs) fun σ H Q h => ?_
  obtain ⟨ρ, μ, A, rs, rp, h⟩ := h
  refine ⟨rp.tab, fun f c' H1 eN nn T1 f1 c1 => ?_⟩
  have e1 := Ext.lam rp eN nn
  have r1 := Rep.lam rp eN nn T1
  have nf : f ∉ A := r1.apart f1 (fun _ z => nomatch z) (fun _ _ _ z => nomatch z) (fun _ z => nomatch z) (fun _ z => nomatch z)
  have nc : c' ∉ A := r1.apart c1 (fun _ z => nomatch z) (fun _ _ _ z => nomatch z) (fun _ z => nomatch z) (fun _ z => nomatch z)
  refine ⟨ρ, μ, A, RS.ext rp e1 rs, r1, ?_⟩
  have h := PV.ext e1 h
  cases ho : ms ρ μ with
  | ok q =>
    obtain ⟨ds, μ2⟩ := q
    rw [ho] at h
    exact fun vs A2 H2 e2 r2 rvs => h (.ref f :: vs) A2 H2 e2 r2 ⟨f, c', [], ds, [], vs, rfl, rfl, rfl, rfl, rvs, e2.frm _ _ nf f1 (fun _ z => nomatch z), e2.frm _ _ nc c1 (fun _ z => nomatch z)⟩
  | ex cc fs μ2 => rw [ho] at h; exact h
  | no => rw [ho] at h; exact h.elim
/-- what the names at js hold -/
def capD (ρ : Env) : List Nat → Option (List D)
  | [] => some []
  | j :: js => match ρ[j]?, capD ρ js with
    | some (some d), some ds => some (d :: ds)
    | _, _ => none
theorem capD_ok {K : PySem.W.Frag} {A : List Addr} {H : Hp} {ρ : Env} {σ : L2.St} (rs : RS K A H ρ σ) : ∀ {js : List Nat} {cs : List D}, capD ρ js = some cs → ∃ us : List V, js.map (slotAt σ) = us.map some ∧ RVs K A H cs us
  | [], cs, h => by cases h; exact ⟨[], rfl, rfl⟩
  | j :: js, cs, h => by
    unfold capD at h
    split at h
    · rename_i d ds e1 e2
      cases h
      obtain ⟨v, hv, rv⟩ := rs.at_ j d e1
      obtain ⟨us, h1, h2⟩ := capD_ok rs e2
      exact ⟨v :: us, by rw [List.map_cons, List.map_cons, h1, slotAt_of hv], RVs.consI rv h2⟩
    · cases h
/-- g(.., lambda, ..) -/
noncomputable def mHoL (js : List Nat) (nl : Nat) (mb : M D) (n : Nat) (F : (List D → Store → Out (D × Store)) → List D → Store → Out (D × Store)) (a : M (List D)) : M D := fun ρ μ => (a ρ μ).bind fun p => match capD ρ js with
  | some cs => if p.1.length + 1 = n then F (lamF nl cs mb) p.1 p.2 else .no
  | none => .no
theorem de_hoL {x : Str} {p : Pos} {e : Expr} {g : Addr} {fd : FuncData} {ps fr Nl psl : List Str} {js : List Nat} {k kl : Nat} {params : Arguments} {body : Expr} {scope : Scope} {mb : M D} {m : D → (List D → Store → Out (D × Store)) → List D → Store → Out (D × Store)} {F : (List D → Store → Out (D × Store)) → List D → Store → Out (D × Store)}
    (G : HoFn X.prog X.w X.K X.mg X.base k (kl + 1) g fd ps psl.length m) (hF : ∀ (L : LamC) (cl : List (Str × Addr)) (us : List V) (cs : List D) (φ : List D → Store → Out (D × Store)) (ds1 ds2 : List D) (μ : Store), ds1.length = i → F φ (ds1 ++ ds2) μ = .no ∨ F φ (ds1 ++ ds2) μ = m (.lam L cl us cs) φ (ds1 ++ .lam L cl us cs :: ds2) μ)
    (hr : Room k X.A) (hm : X.mg x = some (.ref g)) (hk : PySem.W.keepIn X.K (.ref g) = true) (hb : Binds X.K fd ps []) (tk : Takes X W)
    (ha : DAL X W i ⟨X.env.qual ++ "<lambda>", params, body, scope⟩ (cloFrom X.env.cells scope.names []) (e :: es) ms)
    (S : NScope Nl psl fr scope) (hbl : ∀ (q : Str) (cl : List (Str × Addr)) (pm c ctv : Value) (args : List Value), args.length = psl.length → bindArgs (PySem.W.kla_fn "<lambda>" q params body scope cl pm c ctv) ⟨args, []⟩ = pure (psl.zip args))
    (hfree : ∀ y ∈ scope.names, y.2 = .free → X.env.scope.names.lookup y.1 = some .cell ∨ X.env.scope.names.lookup y.1 = some .free) (hfr : ∀ y ∈ fr, (y, NameKind.free) ∈ scope.names) (hjs : js.map (fun j => X.N[j]?) = fr.map some)
    (hbody : ∀ (cl : List (Str × Addr)) (f c : Addr) (A : Around) (outer : List PySem.Env) (s : Shared) (H : Hp) (E : XK), Room kl (A.deeper (envF (lamNF ⟨X.env.qual ++ "<lambda>", params, body, scope⟩ cl c) f s.heap.objs.size)) →
      DE (ncx (L2.CX X.prog X.w) X.prog X.w X.K X.mg X.base Nl (lamNF ⟨X.env.qual ++ "<lambda>", params, body, scope⟩ cl c) f A outer s H E) (WD E) body mb)
    (hg : Gl X x := by rfl) (hdb : (x == ("__debug__" : Str)) = false := by decide) (he : starEach (e :: es) X.env = (false, eval e X.env) :: starEach es X.env := by rfl) (hpl : (backTo pos (starEach es X.env)).any (·.1) = false := by rfl) :
    DE X W (.Call (.Name x p) (e :: es) [] pos) (mHoL js Nl.length mb ps.length F ms) := by
  refine ⟨fun pins s σ H Q I h => ?_⟩
  obtain ⟨ρ, μ, A, rs, rp, h⟩ := h
  have cp : Caps X (cloFrom X.env.cells scope.names []) fr js := Caps.made I.ok hfree hfr hjs
  refine wpAny_Call_Name_kw (ld_glob I hg hm ?_ hdb)
  refine PySem.W.callWith_K (h₀ := X.base) I.ok.mod.kin hk (thn (ha.run pos pins s σ H (fun vs H1 => ∃ f c ds1 ds2 vs1 vs2 cs us μ1 A1, vs = vs1 ++ .ref f :: vs2 ∧ ds1.length = i ∧ RVs X.K A1 H1 ds1 vs1 ∧ RVs X.K A1 H1 ds2 vs2 ∧ H1 f = some (LamO f c ⟨X.env.qual ++ "<lambda>", params, body, scope⟩ (cloFrom X.env.cells scope.names [])) ∧
    H1 c = some (CodeO c (X.env.qual ++ "<lambda>")) ∧ js.map (slotAt σ) = us.map some ∧ RVs X.K A1 H1 cs us ∧ Rep (Xg X) A1 μ1 H1 ∧ ds1.length + ds2.length + 1 = ps.length ∧ PV (Xg X) (RE (Xg X)) W σ A1 H1 (F (lamF Nl.length cs mb) (ds1 ++ ds2) μ1) Q) I ⟨ρ, μ, A, rs, rp, PV.bind h fun ds μ1 vs A1 H1 e1 r1 rv h => ?_⟩) fun us s1 ⟨vs, H1, I1, r, q⟩ => ⟨I1.kIn, ?_⟩) he hpl
  · obtain ⟨f, c, ds1, ds2, vs1, vs2, rfl, rfl, hi, k1, k2, k3, k4⟩ := rv
    simp only at h
    split at h
    · rename_i cs ec
      split at h
      · rename_i hn
        obtain ⟨us, u1, u2⟩ := capD_ok rs ec
        exact ⟨f, c, ds1, ds2, vs1, vs2, cs, us, μ1, A1, rfl, hi, k1, k2, k3, k4, u1, RVs.ext rp e1 _ _ u2, r1, by rw [List.length_append] at hn; omega, h⟩
      · exact h.elim
    · exact h.elim
  · obtain ⟨f, c, ds1, ds2, vs1, vs2, cs, ls, μ1, A1, rfl, hi, k1, k2, k3, k4, u1, u2, r1, hn, q⟩ := q
    have C := cells_of I1 cp
    rw [u1] at C
    have rl : (us ++ []).length = ps.length := by
      rw [List.append_nil, ← r.length, List.length_append, List.length_cons, RVs.length k1, RVs.length k2]; omega
    have b := hb s1 us I1.kIn rl
    rw [List.append_nil] at b
    refine wpAny_call (codeAny_mono (G.run X.A X.stack s1 H1 ⟨us, []⟩ us _ Q (WE W σ) ⟨X.env.qual ++ "<lambda>", params, body, scope⟩ (cloFrom X.env.cells scope.names []) ls cs fr (lamF Nl.length cs mb) hr I1.env0 b r C (lamOk_of S (fun cl pm c ctv args h => hbl _ cl pm c ctv args h) fun f c A outer s H E hr => hbody _ f c A outer s H E hr) ?_) fun r s' hq => ?_)
    · refine ⟨ds1 ++ .lam ⟨X.env.qual ++ "<lambda>", params, body, scope⟩ (cloFrom X.env.cells scope.names []) ls cs :: ds2, μ1, A1, r1, RVs.append k1 (RVs.consI ⟨f, c, rfl, k3, k4, u2⟩ k2), by rw [List.length_append, List.length_cons]; omega, ?_⟩
      rcases hF ⟨X.env.qual ++ "<lambda>", params, body, scope⟩ (cloFrom X.env.cells scope.names []) ls cs (lamF Nl.length cs mb) ds1 ds2 μ1 hi with z | z
      · rw [z] at q; exact q.elim
      · rw [z] at q; exact pf_of q
    · cases r with
      | error e => exact passAt tk σ pins H1 s1 e s' I1 hq
      | ok fl =>
        cases fl with
        | ret u => exact I1.after hq
        | next => exact False.elim hq
        | brk => exact False.elim hq
        | cont => exact False.elim hq
end
end DL

-- DL10
set_option Elab.async false
set_option linter.all false
set_option maxRecDepth 100000
set_option maxHeartbeats 2000000
/-! DL10: defs by the head's facts. -/
namespace DL
open PySem PySem.Spec PyProof.Rows L2 LamX NdefX LamD
variable [Tab]
/-- what the head tells -/
structure Ctx (fa : List He.Fa) (fn : List He.DefD) (K : PySem.W.Frag) (mg : Str → Option Value) : Prop where
  s : He.SaysD fa fn K
  hh : ∃ h : Heap, K.In h ∧ h.Ns mainGlobals mg
section
variable {fa : List He.Fa} {fn : List He.DefD} {K : PySem.W.Frag} {mg : Str → Option Value}
theorem Ctx.glo (G : Ctx fa fn K mg) (i : Nat) {x : Str} (e : fa[i]? = some (.glo x) := by rfl) : mg x = some (.ref (He.ga K x)) := by
  obtain ⟨h, X, N⟩ := G.hh
  exact He.glo_ok X N (G.s.fact i e)
theorem Ctx.free (G : Ctx fa fn K mg) (i : Nat) {x : Str} (e : fa[i]? = some (.free x) := by rfl) : mg x = none := by
  obtain ⟨h, X, N⟩ := G.hh
  exact He.free_ok X N (G.s.fact i e)
theorem Ctx.int (G : Ctx fa fn K mg) (i : Nat) {x : Str} {z : Int} (e : fa[i]? = some (.int x z) := by rfl) : ∃ t, mg x = some (.int z t) := by
  obtain ⟨h, X, N⟩ := G.hh
  exact He.int_ok X N (G.s.fact i e)
theorem Ctx.str (G : Ctx fa fn K mg) (i : Nat) {x z : Str} (e : fa[i]? = some (.str x z) := by rfl) : ∃ t, mg x = some (.str z t) := by
  obtain ⟨h, X, N⟩ := G.hh
  exact He.str_ok X N (G.s.fact i e)
theorem Ctx.cls (G : Ctx fa fn K mg) (i : Nat) {x : Str} (e : fa[i]? = some (.cls x) := by rfl) : Cls K (He.ga K x) := He.cls_ok (G.s.fact i e)
theorem Ctx.noat (G : Ctx fa fn K mg) (i : Nat) {x f : Str} (e : fa[i]? = some (.noat x f) := by rfl) : NoAttr K (He.ga K x) f := He.noat_ok (G.s.fact i e)
theorem Ctx.meth (G : Ctx fa fn K mg) (i : Nat) {x m : Str} (e : fa[i]? = some (.meth x m) := by rfl) : Meth K (He.ga K x) m (He.ma K (He.ga K x) m) := He.meth_ok (G.s.fact i e)
theorem Ctx.mkr (G : Ctx fa fn K mg) (i : Nat) {x : Str} (e : fa[i]? = some (.mkr x) := by rfl) : Mk K (He.ga K x) (He.ma K (He.ga K x) "__init__") := He.mkr_ok (G.s.fact i e)
end
/-- a def, as it may be called -/
structure DFn (P : Program) (w : World) (K : PySem.W.Frag) (mg : Str → Option Value) (base : Heap) (k : Nat) (at_ : Str × Option Str) (n : Nat) (m : List D → Store → Out (D × Store)) : Prop where
  ex : ∃ fd ps, FnOk P w K mg base (L2.CX P w) k (He.fAd K at_) fd ps (spF ⟨K, mg⟩ n m) ∧ Binds K fd ps [] ∧ PySem.W.keepIn K (.ref (He.fAd K at_)) = true
theorem DFn.mono {P : Program} {w : World} {K : PySem.W.Frag} {mg : Str → Option Value} {base : Heap} {j k : Nat} {at_ : Str × Option Str} {n : Nat} {m : List D → Store → Out (D × Store)} (F : DFn P w K mg base j at_ n m) (h : j ≤ k) : DFn P w K mg base k at_ n m := by
  obtain ⟨fd, ps, h1, h2, h3⟩ := F.ex
  exact ⟨fd, ps, h1.mono h, h2, h3⟩
theorem DFn.pure {P : Program} {w : World} {K : PySem.W.Frag} {mg : Str → Option Value} {base : Heap} {k : Nat} {at_ : Str × Option Str} {n : Nat} {m : List D → Store → Out (D × Store)} (F : DFn P w K mg base k at_ n m) : DFn P w K mg base k at_ n (pureF m) := by
  obtain ⟨fd, ps, h1, h2, h3⟩ := F.ex
  exact ⟨fd, ps, fn_pure h1, h2, h3⟩
theorem DFn.gc {P : Program} {w : World} {K : PySem.W.Frag} {mg : Str → Option Value} {base : Heap} {k : Nat} {at_ : Str × Option Str} {n : Nat} {m : List D → Store → Out (D × Store)} (j : Nat) (F : DFn P w K mg base k at_ n m) : DFn P w K mg base k at_ n (gcF j m) := by
  obtain ⟨fd, ps, h1, h2, h3⟩ := F.ex
  exact ⟨fd, ps, fn_gc h1, h2, h3⟩
/-- the lambdas of the def at p -/
structure LamTab (K : PySem.W.Frag) (mg : Str → Option Value) (base : Heap) (p : Str × Option Str) (q : Str) : Prop where
  tb : TabB base mg (He.cT K p).1 (He.cT K p).2
  mem : ((He.cT K p).2, q ++ ".<locals>." ++ "<lambda>") ∈ Tab.T
  un : ∀ r ∈ Tab.T, r.1 = (He.cT K p).2 → r.2 = q ++ ".<locals>." ++ "<lambda>"
section
variable {P : Program} {w : World} {K : PySem.W.Frag} {mg : Str → Option Value} {base : Heap}
theorem LamTab.makes {N : List Str} {p : Str × Option Str} {qual : Str} {scope : Scope} {f : Addr} {cdv : Value} {A : Around} {outer : List PySem.Env} {s : Shared} {H : Hp} {E : XK} (T : LamTab K mg base p qual) (hc : cdv = .ref (He.codeOf K p)) :
    Makes (cxOf (L2.CX P w) P w K mg base N qual scope f cdv A outer s H E) := ⟨(He.cT K p).1, (He.cT K p).2, T.tb, hc, T.mem, T.un⟩
theorem fn_bodyD {d : He.DefD} {fd : FuncData} {N ps : List Str} {k : Nat} (F : FunD K d.name d.qual d.params d.body d.scope (d.dvs K) (d.kws K) (He.fAd K d.at_) fd) (Sc : FnScope N ps d.scope) {b : S}
    (hb : ∀ (cdv : Value) (A : Around) (outer : List PySem.Env) (s : Shared) (H : Hp) (E : XK), cdv = .ref (He.codeOf K d.at_) → Room k (A.deeper (envOfC d.qual d.scope s.heap.objs.size (He.fAd K d.at_) cdv)) →
      DSs (cxOf (L2.CX P w) P w K mg base N d.qual d.scope (He.fAd K d.at_) cdv A outer s H E) (WD E) d.body b) : FnOk P w K mg base (L2.CX P w) (k + 1) (He.fAd K d.at_) fd ps (spF ⟨K, mg⟩ ps.length (runF N.length b)) := by
  obtain ⟨oc, od, dV, kV, doc, pm, an, cdv, ct, osl, rfl, lk, hcd, _, _⟩ := F.ex
  obtain ⟨c, ec⟩ := He.codeIn_ref hcd
  have e2 : cdv = .ref (He.codeOf K d.at_) := by rw [He.codeOf_eq lk ec]; exact ec
  refine fn_of lk hcd Sc (fun vs H Q E h => ?_) fun A outer s H vs Q E hr hsp => ⟨_, hb cdv A outer s H E e2 hr, run_imp hsp⟩
  obtain ⟨ds, μ, A, rp, rv, hn, h⟩ := h
  rw [RVs.length rv, hn]
theorem dfn_of {d : He.DefD} {N ps : List Str} {k : Nat} (hF : ∃ fd, FunD K d.name d.qual d.params d.body d.scope (d.dvs K) (d.kws K) (He.fAd K d.at_) fd) (Sc : FnScope N ps d.scope) (h0 : d.dfl = [] := by rfl) (h1 : d.kwd = [] := by rfl)
    (hbd : ∀ (kV doc pm : Value) (an : Option Addr) (cdv ct : Value) (us : List Value), us.length = ps.length → bindArgs (PySem.W.fnOf d.name d.qual d.params d.body d.scope .none kV doc pm an cdv ct) ⟨us, []⟩ = pure (ps.zip us)) {b : S}
    (hb : ∀ (cdv : Value) (A : Around) (outer : List PySem.Env) (s : Shared) (H : Hp) (E : XK), cdv = .ref (He.codeOf K d.at_) → Room k (A.deeper (envOfC d.qual d.scope s.heap.objs.size (He.fAd K d.at_) cdv)) →
      DSs (cxOf (L2.CX P w) P w K mg base N d.qual d.scope (He.fAd K d.at_) cdv A outer s H E) (WD E) d.body b) : DFn P w K mg base (k + 1) d.at_ ps.length (runF N.length b) := by
  obtain ⟨fd, F⟩ := hF
  have F' := F
  have e0 : d.dvs K = [] := by unfold He.DefD.dvs; rw [h0]; rfl
  rw [e0] at F'
  exact ⟨fd, ps, fn_bodyD F Sc hb, F'.bindsN hbd, F.kp⟩
/-- the def that tells nothing: where a recursion's fuel ends -/
theorem dfn_no {d : He.DefD} {ps : List Str} {k : Nat} (hF : ∃ fd, FunD K d.name d.qual d.params d.body d.scope (d.dvs K) (d.kws K) (He.fAd K d.at_) fd) (h0 : d.dfl = [] := by rfl)
    (hbd : ∀ (kV doc pm : Value) (an : Option Addr) (cdv ct : Value) (us : List Value), us.length = ps.length → bindArgs (PySem.W.fnOf d.name d.qual d.params d.body d.scope .none kV doc pm an cdv ct) ⟨us, []⟩ = pure (ps.zip us)) : DFn P w K mg base k d.at_ ps.length (fun _ _ => .no) := by
  obtain ⟨fd, F⟩ := hF
  have F' := F
  have e0 : d.dvs K = [] := by unfold He.DefD.dvs; rw [h0]; rfl
  rw [e0] at F'
  refine ⟨fd, ps, ⟨fun vs H Q E h => ?_, fun A outer s H args us vs Q E _ _ _ _ h => ?_⟩, F'.bindsN hbd, F.kp⟩
  · obtain ⟨ds, μ, A, rp, rv, hn, h⟩ := h
    exact h.elim
  · obtain ⟨ds, μ, A, rp, rv, hn, h⟩ := h
    exact h.elim
/-- a def that is handed a lambda, as it may be called -/
structure DHo (P : Program) (w : World) (K : PySem.W.Frag) (mg : Str → Option Value) (base : Heap) (k kl : Nat) (at_ : Str × Option Str) (n nl : Nat) (m : D → (List D → Store → Out (D × Store)) → List D → Store → Out (D × Store)) : Prop where
  ex : ∃ fd ps, ps.length = n ∧ HoFn P w K mg base k kl (He.fAd K at_) fd ps nl m ∧ Binds K fd ps [] ∧ PySem.W.keepIn K (.ref (He.fAd K at_)) = true
theorem dho_of {d : He.DefD} {N ps : List Str} {k kl nl : Nat} (hF : ∃ fd, FunD K d.name d.qual d.params d.body d.scope (d.dvs K) (d.kws K) (He.fAd K d.at_) fd) (Sc : FnScope N ps d.scope) (h0 : d.dfl = [] := by rfl)
    (hbd : ∀ (kV doc pm : Value) (an : Option Addr) (cdv ct : Value) (us : List Value), us.length = ps.length → bindArgs (PySem.W.fnOf d.name d.qual d.params d.body d.scope .none kV doc pm an cdv ct) ⟨us, []⟩ = pure (ps.zip us)) {b : D → (List D → Store → Out (D × Store)) → S}
    (hb : ∀ (cdv : Value) (A : Around) (outer : List PySem.Env) (s : Shared) (H : Hp) (E : XK) (L : LamC) (cl : List (Str × Addr)) (ls : List V) (cs : List D) (φ : List D → Store → Out (D × Store)), cdv = .ref (He.codeOf K d.at_) → Room k (A.deeper (envOfC d.qual d.scope s.heap.objs.size (He.fAd K d.at_) cdv)) →
      LamIn (cxOf (L2.CX P w) P w K mg base N d.qual d.scope (He.fAd K d.at_) cdv A outer s H E) kl L cl ls cs nl φ →
      DSs (cxOf (L2.CX P w) P w K mg base N d.qual d.scope (He.fAd K d.at_) cdv A outer s H E) (WD E) d.body (b (.lam L cl ls cs) φ)) : DHo P w K mg base (k + 1) kl d.at_ ps.length nl fun Lv φ => runF N.length (b Lv φ) := by
  obtain ⟨fd, F⟩ := hF
  have F' := F
  have e0 : d.dvs K = [] := by unfold He.DefD.dvs; rw [h0]; rfl
  rw [e0] at F'
  obtain ⟨oc, od, dV, kV, doc, pm, an, cdv, ct, osl, rfl, lk, hcd, _, _⟩ := F.ex
  obtain ⟨c, ec⟩ := He.codeIn_ref hcd
  have e2 : cdv = .ref (He.codeOf K d.at_) := by rw [He.codeOf_eq lk ec]; exact ec
  refine ⟨_, ps, rfl, ⟨fun A outer s H args us vs Q E L cl ls cs fr φ hr e0 hbd r C Ok hsp => ?_⟩, F'.bindsN hbd, F.kp⟩
  have hl : vs.length = ps.length := by
    obtain ⟨ds, μ, A1, rp, rv, hn, h⟩ := hsp
    rw [RVs.length rv]; exact hn
  refine run_ofS (N := N) lk hcd Sc hr e0 hbd r hl fun hr' => ?_
  exact ⟨_, hb cdv A outer s H E L cl ls cs φ e2 hr' ⟨fr, C, Ok⟩, run_imp hsp⟩
end
/-! ### calls -/
section
variable {X : Cx} {W : WX} {k n : Nat} {m : List D → Store → Out (D × Store)} {x c mt : Str} {p pos apos : Pos} {e o : Expr} {es : List Expr} {ms : M (List D)} {mo : M D}
theorem de_gi {i : Int} (hm : ∃ t, X.mg x = some (.int i t)) (hg : Gl X x := by rfl) (hd : (x == ("__debug__" : Str)) = false := by decide) : DE X W (.Name x pos) (mC (.int i)) := by
  obtain ⟨t, h⟩ := hm
  exact de_globI h ⟨t, rfl⟩ hg hd
theorem de_gs {i : Str} (hm : ∃ t, X.mg x = some (.str i t)) (hg : Gl X x := by rfl) (hd : (x == ("__debug__" : Str)) = false := by decide) : DE X W (.Name x pos) (mC (.str i)) := by
  obtain ⟨t, h⟩ := hm
  exact de_globS h ⟨t, rfl⟩ hg hd
theorem de_cf (F : DFn X.prog X.w X.K X.mg X.base k (x, none) n m) (hr : Room k X.A) (hm : X.mg x = some (.ref (He.ga X.K x))) (tk : Takes X W) (ha : DA X W (e :: es) ms)
    (hg : Gl X x := by rfl) (hdb : (x == ("__debug__" : Str)) = false := by decide) (he : starEach (e :: es) X.env = (false, eval e X.env) :: starEach es X.env := by rfl) (hpl : (backTo pos (starEach es X.env)).any (·.1) = false := by rfl) :
    DE X W (.Call (.Name x p) (e :: es) [] pos) (mCall n m ms) := by
  obtain ⟨fd, ps, h1, h2, h3⟩ := F.ex
  exact de_call h1 hr hm h3 h2 tk ha hg hdb he hpl
theorem de_cf0 (F : DFn X.prog X.w X.K X.mg X.base k (x, none) n m) (hr : Room k X.A) (hm : X.mg x = some (.ref (He.ga X.K x))) (tk : Takes X W)
    (hg : Gl X x := by rfl) (hdb : (x == ("__debug__" : Str)) = false := by decide) : DE X W (.Call (.Name x p) [] [] pos) (mCall n m aNil) := by
  obtain ⟨fd, ps, h1, h2, h3⟩ := F.ex
  exact de_call0 h1 hr hm h3 h2 tk hg hdb
theorem de_mf {pl : Sem Bool} (F : DFn X.prog X.w X.K X.mg X.base k (c, some mt) n m) (hr : Room k X.A) (hC : X.mg c = some (.ref (He.ga X.K c))) (hc : Cls X.K (He.ga X.K c)) (hm : Meth X.K (He.ga X.K c) mt (He.ma X.K (He.ga X.K c) mt)) (tk : Takes X W) (ho : DE X W o mo) (ha : DA X W (e :: es) ms)
    (hst : starEach (e :: es) X.env = (false, eval e X.env) :: starEach es X.env := by rfl) (hpl : (backTo pos (starEach es X.env)).any (·.1) = false := by rfl)
    (ht : eval (.Call (.Attribute o mt apos) (e :: es) [] pos) X.env = (do
      let ov ← eval o X.env
      standAt apos.atName
      let (f, first) ← holding [ov] (getMethod ov mt pl)
      callWith pos f first (backTo pos (starEach (e :: es) X.env)) (backToKw pos (keywordEach [] X.env))) := by rfl) :
    DE X W (.Call (.Attribute o mt apos) (e :: es) [] pos) (mMeth c mt n m mo ms) := by
  obtain ⟨fd, ps, h1, h2, h3⟩ := F.ex
  exact de_meth (pl := pl) hC hc hm h1 hr h2 tk ho ha hst hpl ht
theorem de_mf0 {pl : Sem Bool} (F : DFn X.prog X.w X.K X.mg X.base k (c, some mt) n m) (hr : Room k X.A) (hC : X.mg c = some (.ref (He.ga X.K c))) (hc : Cls X.K (He.ga X.K c)) (hm : Meth X.K (He.ga X.K c) mt (He.ma X.K (He.ga X.K c) mt)) (tk : Takes X W) (ho : DE X W o mo)
    (ht : eval (.Call (.Attribute o mt apos) [] [] pos) X.env = (do
      let ov ← eval o X.env
      standAt apos.atName
      let (f, first) ← holding [ov] (getMethod ov mt pl)
      callWith pos f first (backTo pos (starEach [] X.env)) (backToKw pos (keywordEach [] X.env))) := by rfl) :
    DE X W (.Call (.Attribute o mt apos) [] [] pos) (mMeth c mt n m mo aNil) := by
  obtain ⟨fd, ps, h1, h2, h3⟩ := F.ex
  exact de_meth0 (pl := pl) hC hc hm h1 hr h2 tk ho ht
theorem de_mk (F : DFn X.prog X.w X.K X.mg X.base k (c, some "__init__") n m) (hr : Room (k + 1) X.A) (hC : X.mg c = some (.ref (He.ga X.K c))) (M : Mk X.K (He.ga X.K c) (He.ma X.K (He.ga X.K c) "__init__")) (tk : Takes X W) (ha : DA X W (e :: es) ms)
    (hg : Gl X c := by rfl) (hdb : (c == ("__debug__" : Str)) = false := by decide) (he : starEach (e :: es) X.env = (false, eval e X.env) :: starEach es X.env := by rfl) (hpl : (backTo pos (starEach es X.env)).any (·.1) = false := by rfl) :
    DE X W (.Call (.Name c p) (e :: es) [] pos) (mMake c n m ms) := by
  obtain ⟨fd, ps, h1, h2, h3⟩ := F.ex
  exact de_make M h1 hr hC h2 tk ha hg hdb he hpl
theorem de_mk0 (F : DFn X.prog X.w X.K X.mg X.base k (c, some "__init__") n m) (hr : Room (k + 1) X.A) (hC : X.mg c = some (.ref (He.ga X.K c))) (M : Mk X.K (He.ga X.K c) (He.ma X.K (He.ga X.K c) "__init__")) (tk : Takes X W)
    (hg : Gl X c := by rfl) (hdb : (c == ("__debug__" : Str)) = false := by decide) :
    DE X W (.Call (.Name c p) [] [] pos) (mMake c n m aNil) := by
  obtain ⟨fd, ps, h1, h2, h3⟩ := F.ex
  exact de_make0 M h1 hr hC h2 tk hg hdb
end
/-! ### a def that is handed a lambda, its worth told without the lambda -/
def noLam : LamC := ⟨"", ⟨[], [], none, [], [], none, []⟩, .Constant .none 0 ⟨0, 0, 0, 0⟩, ⟨.function, [], false, false, []⟩⟩
open Classical in
noncomputable def hoF (i : Nat) (m : D → (List D → Store → Out (D × Store)) → List D → Store → Out (D × Store)) (φ : List D → Store → Out (D × Store)) (ds : List D) (μ : Store) : Out (D × Store) :=
  if h : ∃ o, ∀ (L : LamC) (cl : List (Str × Addr)) (us : List V) (cs : List D), m (.lam L cl us cs) φ (ds.take i ++ .lam L cl us cs :: ds.drop i) μ = o then h.choose else .no
theorem hoF_ok {i : Nat} {m : D → (List D → Store → Out (D × Store)) → List D → Store → Out (D × Store)} (L : LamC) (cl : List (Str × Addr)) (us : List V) (cs : List D) (φ : List D → Store → Out (D × Store)) (ds1 ds2 : List D) (μ : Store) (hi : ds1.length = i) :
    hoF i m φ (ds1 ++ ds2) μ = .no ∨ hoF i m φ (ds1 ++ ds2) μ = m (.lam L cl us cs) φ (ds1 ++ .lam L cl us cs :: ds2) μ := by
  unfold hoF
  split
  · rename_i h
    refine .inr ?_
    refine (h.choose_spec L cl us cs).symm.trans ?_
    rw [List.take_left' hi, List.drop_left' hi]
  · exact .inl rfl
theorem hoF_eq {i : Nat} {m : D → (List D → Store → Out (D × Store)) → List D → Store → Out (D × Store)} {φ : List D → Store → Out (D × Store)} {ds : List D} {μ : Store} {o : Out (D × Store)}
    (h : ∀ (L : LamC) (cl : List (Str × Addr)) (us : List V) (cs : List D), m (.lam L cl us cs) φ (ds.take i ++ .lam L cl us cs :: ds.drop i) μ = o) : hoF i m φ ds μ = o := by
  unfold hoF
  have e : ∃ o, ∀ (L : LamC) (cl : List (Str × Addr)) (us : List V) (cs : List D), m (.lam L cl us cs) φ (ds.take i ++ .lam L cl us cs :: ds.drop i) μ = o := ⟨o, h⟩
  rw [dif_pos e]
  exact (e.choose_spec noLam [] [] []).symm.trans (h noLam [] [] [])
theorem de_ho {X : Cx} {W : WX} {i n : Nat} {pos : Pos} {es : List Expr} {ms : M (List D)} {x : Str} {p : Pos} {e : Expr} {fr Nl psl : List Str} {js : List Nat} {k kl : Nat} {params : Arguments} {body : Expr} {scope : Scope} {mb : M D} {m : D → (List D → Store → Out (D × Store)) → List D → Store → Out (D × Store)}
    (G : DHo X.prog X.w X.K X.mg X.base k (kl + 1) (x, none) n psl.length m)
    (hr : Room k X.A) (hm : X.mg x = some (.ref (He.ga X.K x))) (tk : Takes X W)
    (ha : DAL X W i ⟨X.env.qual ++ "<lambda>", params, body, scope⟩ (cloFrom X.env.cells scope.names []) (e :: es) ms)
    (S : NScope Nl psl fr scope) (hbl : ∀ (q : Str) (cl : List (Str × Addr)) (pm c ctv : Value) (args : List Value), args.length = psl.length → bindArgs (PySem.W.kla_fn "<lambda>" q params body scope cl pm c ctv) ⟨args, []⟩ = pure (psl.zip args))
    (hfree : ∀ y ∈ scope.names, y.2 = .free → X.env.scope.names.lookup y.1 = some .cell ∨ X.env.scope.names.lookup y.1 = some .free) (hfr : ∀ y ∈ fr, (y, NameKind.free) ∈ scope.names) (hjs : js.map (fun j => X.N[j]?) = fr.map some)
    (hbody : ∀ (cl : List (Str × Addr)) (f c : Addr) (A : Around) (outer : List PySem.Env) (s : Shared) (H : Hp) (E : XK), Room kl (A.deeper (envF (lamNF ⟨X.env.qual ++ "<lambda>", params, body, scope⟩ cl c) f s.heap.objs.size)) →
      DE (ncx (L2.CX X.prog X.w) X.prog X.w X.K X.mg X.base Nl (lamNF ⟨X.env.qual ++ "<lambda>", params, body, scope⟩ cl c) f A outer s H E) (WD E) body mb)
    (hg : Gl X x := by rfl) (hdb : (x == ("__debug__" : Str)) = false := by decide) (he : starEach (e :: es) X.env = (false, eval e X.env) :: starEach es X.env := by rfl) (hpl : (backTo pos (starEach es X.env)).any (·.1) = false := by rfl) :
    DE X W (.Call (.Name x p) (e :: es) [] pos) (mHoL js Nl.length mb n (hoF i m) ms) := by
  obtain ⟨fd, ps, rfl, h1, h2, h3⟩ := G.ex
  exact de_hoL (i := i) h1 (fun L cl us cs φ ds1 ds2 μ hi => hoF_ok L cl us cs φ ds1 ds2 μ hi) hr hm h3 h2 tk ha S hbl hfree hfr hjs hbody hg hdb he hpl
end DL

-- DL11
set_option Elab.async false
set_option linter.all false
set_option maxRecDepth 100000
set_option maxHeartbeats 2000000
/-! DL11: the end. -/
namespace DL
open PySem PySem.Spec PyProof.Rows L2 LamX NdefX LamD
/-! ### written dicts -/
def relDB : D → Value → Bool
  | .non, .none => true
  | .bl b, .bool c => b == c
  | .int i, .int j _ => decide (i = j)
  | .str x, .str y _ => decide (x = y)
  | _, _ => false
theorem relDB_ok {K : PySem.W.Frag} {d : D} {u : Value} (h : relDB d u = true) : ∃ v, (∀ A H, RV K A H d v) ∧ RelV v u := by
  cases d with
  | non => cases u with
    | none => exact ⟨.non, fun _ _ => rfl, rfl⟩
    | _ => cases h
  | bl b => cases u with
    | bool c => exact ⟨.bl b, fun _ _ => rfl, by rw [beq_iff_eq.mp (show (b == c) = true from h)]; rfl⟩
    | _ => cases h
  | int i => cases u with
    | int j t => exact ⟨.int i, fun _ _ => rfl, ⟨t, by rw [of_decide_eq_true (show decide (i = j) = true from h)]⟩⟩
    | _ => cases h
  | str x => cases u with
    | str y t => exact ⟨.str x, fun _ _ => rfl, ⟨t, by rw [of_decide_eq_true (show decide (x = y) = true from h)]⟩⟩
    | _ => cases h
  | _ => cases u <;> cases h
def relTabB : List DictEntry → List (Str × D) → Bool
  | [], [] => true
  | e :: es, (x, d) :: r => (match e.key with
    | .str y _ => decide (y = x)
    | _ => false) && (relDB d e.val && relTabB es r)
  | _, _ => false
theorem relTabB_ok {K : PySem.W.Frag} : ∀ {es : List DictEntry} {tbl : List (Str × D)}, relTabB es tbl = true → KTab K es tbl
  | [], [], _ => rfl
  | [], _ :: _, h => by cases h
  | _ :: _, [], h => by cases h
  | e :: es, (x, d) :: r, h => by
    obtain ⟨h1, h2⟩ := He.ba (show ((match e.key with
      | .str y _ => decide (y = x)
      | _ => false) && (relDB d e.val && relTabB es r)) = true from h)
    obtain ⟨h3, h4⟩ := He.ba h2
    refine ⟨x, d, r, rfl, ?_, relDB_ok h3, relTabB_ok h4⟩
    split at h1
    · rename_i y t q
      exact ⟨t, by rw [q, of_decide_eq_true h1]⟩
    · cases h1
def ktabB (K : PySem.W.Frag) (a : Addr) (tbl : List (Str × D)) : Bool := match K.lookup a with
  | some ⟨_, _, .dict es _, _⟩ => relTabB es.toList tbl
  | _ => false
theorem kd_of {K : PySem.W.Frag} {w : World} {a : Addr} {tbl : List (Str × D)} (k : ∃ es n, KDict K w a es n) (h : ktabB K a tbl = true) : KD K w a tbl := by
  obtain ⟨es, n, kd⟩ := k
  unfold ktabB at h
  rw [kd.at_] at h
  exact ⟨es, n, kd, relTabB_ok h⟩
/-! ### the tables -/
/-- the defs that make lambdas: where they stand, their qualified names -/
abbrev TFs := List ((Str × Option Str) × Str)
@[reducible] def tabT (K : PySem.W.Frag) (tf : TFs) : DL.Tab := ⟨tf.map fun p => ((He.cT K p.1).2, p.2 ++ ".<locals>." ++ "<lambda>")⟩
def apartB (K : PySem.W.Frag) (tf : TFs) : Bool := decide ((tf.map fun p => (He.cT K p.1).2).Nodup)
theorem lamTab_of {K : PySem.W.Frag} {mg : Str → Option Value} {base : Heap} {tf : TFs} (hn : apartB K tf = true) (hb : ∀ p ∈ tf, TabB base mg (He.cT K p.1).1 (He.cT K p.1).2) {p : (Str × Option Str) × Str} (hp : p ∈ tf) : @LamTab (tabT K tf) K mg base p.1 p.2 := by
  have nd : (tf.map fun p => (He.cT K p.1).2).Nodup := of_decide_eq_true hn
  refine @LamTab.mk (tabT K tf) K mg base p.1 p.2 (hb p hp) (List.mem_map.mpr ⟨p, hp, rfl⟩) fun r hr e => ?_
  obtain ⟨q, hq, rfl⟩ := List.mem_map.mp hr
  have e : (He.cT K q.1).2 = (He.cT K p.1).2 := e
  have key : ∀ (l : TFs), (l.map fun p => (He.cT K p.1).2).Nodup → ∀ a ∈ l, ∀ b ∈ l, (He.cT K a.1).2 = (He.cT K b.1).2 → a = b := by
    intro l
    induction l with
    | nil => intro _ a ha; cases ha
    | cons x l ih =>
      intro hn a ha b hb hab
      rw [List.map_cons, List.nodup_cons] at hn
      rcases List.mem_cons.mp ha with ea | ha'
      · rcases List.mem_cons.mp hb with eb | hb'
        · rw [ea, eb]
        · exact (hn.1 (List.mem_map.mpr ⟨b, hb', by rw [← ea]; exact hab.symm⟩)).elim
      · rcases List.mem_cons.mp hb with eb | hb'
        · exact (hn.1 (List.mem_map.mpr ⟨a, ha', by rw [← eb]; exact hab⟩)).elim
        · exact ih hn.2 a ha' b hb' hab
  rw [key tf nd q hq p hp e]
/-! ### the end -/
theorem tabs_start {K : PySem.W.Frag} {tf : TFs} {H : Hp} (h : ∀ p ∈ tf, H (He.cT K p.1).2 = some (.tbl #[])) : Tabs (tabT K tf).T H := fun r hr => by
  obtain ⟨q, hq, rfl⟩ := List.mem_map.mp hr
  exact TabS.nil (h q hq)
theorem sp_start {K : PySem.W.Frag} {mg : Str → Option Value} {tf : TFs} {F : List D → Store → Out (D × Store)} {H : Hp} {a : Addr} {ns : List Int} (hT : ∀ p ∈ tf, H (He.cT K p.1).2 = some (.tbl #[])) (hS : SqL K H a (ns.map V.int)) (ht : ∃ μ, F [.kst (ns.map D.int)] [] = .ok (.bl true, μ)) :
    @spF (tabT K tf) ⟨K, mg⟩ 1 F [.ref a] H (fun v _ => v = .bl true) fun _ _ _ => False := by
  letI := tabT K tf
  obtain ⟨μ, e⟩ := ht
  have rv : ∀ l : List Int, RVs K [] H (l.map D.int) (l.map V.int) := fun l => by
    induction l with
    | nil => rfl
    | cons i l ih => exact ⟨_, _, rfl, rfl, ih⟩
  have rp : Rep ⟨K, mg⟩ [] [] H := ⟨tabs_start hT, rfl, List.nodup_nil, fun n a o h _ => by simp at h⟩
  refine ⟨[.kst (ns.map D.int)], [], [], rp, ⟨.ref a, [], rfl, ⟨a, ns.map V.int, rfl, ?_, rv ns⟩, rfl⟩, rfl, ?_⟩
  · rcases hS with (h | ⟨o, h⟩) | h
    · exact .inr (.inl ⟨h, by simp⟩)
    · exact .inl ⟨o, h⟩
    · exact .inr (.inr h)
  · rw [e]
    exact fun v A' H' _ _ rd => rd
theorem cx_no {w : World} {P : Program} (H : Hp) (s : Shared) (e : Value) (s' : Shared) (h : L2.CX P w [] H s (fun _ _ _ => False) e s') : False := by
  obtain ⟨_, _, _, _, _, _, _, _, _, _, _, _, z⟩ := h
  exact z
theorem law_end {l : PySem.W.OpenLaw} {n k m : Nat} {q : Program} {loose : List Str} {XP : (Str → Option Value) → Heap → Prop} {d : DefRec} {fa : List He.Fa} {fn : List He.DefD} {ts : List He.Tab} {tf : TFs} {ex : PySem.W.Frag → Bool} {dp : Nat} {dl : He.DefD} {F : List D → Store → Out (D × Store)}
    (hn : l.most = some n) (hn2 : n ≤ sizeLine) (hdf : d.params.defaults = []) (hr : Room k callerA) (hx : ∀ K, ex K = true → apartB K tf = true) (hd : d.name = "law") (hl : fn[m]? = some dl) (hl1 : dl.at_ = (("law" : Str), none)) (hl2 : dl.dfl = []) (hl3 : dl.kwd = []) (hfa : He.Fa.glo "law" ∈ fa)
    (hbd : ∀ (kV doc pm : Value) (an : Option Addr) (cdv ct : Value) (us : List Value), us.length = 1 → bindArgs (PySem.W.fnOf dl.name dl.qual dl.params dl.body dl.scope .none kV doc pm an cdv ct) ⟨us, []⟩ = pure ((["script"] : List Str).zip us))
    (hF : ∀ (w : World) (K : PySem.W.Frag) (mg : Str → Option Value) (base : Heap) (fd : FuncData), He.SaysT fa fn ts w K → ex K = true → Ctx fa fn K mg → (∀ p ∈ tf, @LamTab (tabT K tf) K mg base p.1 p.2) → FunD K dl.name dl.qual dl.params dl.body dl.scope (dl.dvs K) (dl.kws K) (He.fAd K dl.at_) fd →
      @FnOk l.prog w K mg base (L2.CX l.prog w) k (He.fAd K dl.at_) fd ["script"] (@spF (tabT K tf) ⟨K, mg⟩ 1 F))
    (htrue : ∀ ns : List Int, ns.length ≤ n → (∀ z ∈ ns, Builtin.Int.intBits z ≤ 1048576) → ∃ μ, F [.kst (ns.map D.int)] [] = .ok (.bl true, μ)) :
    PySem.W.WalkO q loose XP (He.hookX dp fa fn ts (tf.map (·.1)) ex).says l.row.toRowW d [] (fun f vs => PySem.call f vs) := by
  refine walk_ofTsE (l := l) (n := n) (k := k) (x := "script") (CX := fun w => L2.CX l.prog w) hn hn2 hdf hr (fun w mg fa' h Y G hmg => ?_) fun w H s e s' z => cx_no H s e s' z
  obtain ⟨K, KX, c⟩ := Y
  have cs := c.t.d
  obtain ⟨fd, FD⟩ := cs.def_ m hl
  have C : Ctx fa fn K mg := ⟨cs, ⟨h, KX, G⟩⟩
  have e0 : mg "law" = some (.ref (He.ga K "law")) := He.glo_ok KX G (cs.facts hfa)
  rw [hd, e0] at hmg
  cases hmg
  refine ⟨K, KX, fd, tf.map fun p => He.cT K p.1, @spF (tabT K tf) ⟨K, mg⟩ 1 F, fun p hp => ?_, fun p hp => ?_, fun p hp => ?_, fun s u => ?_, fun H a ns hl hb hH hS => ?_, fun base KB GB hb => ?_⟩
  · obtain ⟨r, hr, rfl⟩ := List.mem_map.mp hp
    exact c.empty r.1 (List.mem_map.mpr ⟨r, hr, rfl⟩)
  · obtain ⟨r, hr, rfl⟩ := List.mem_map.mp hp
    exact c.out r.1 (List.mem_map.mpr ⟨r, hr, rfl⟩)
  · obtain ⟨r, hr, rfl⟩ := List.mem_map.mp hp
    exact PySem.W.codeHd_of_K KX (c.hd r.1 (List.mem_map.mpr ⟨r, hr, rfl⟩))
  · have FD' := FD
    have e1 : dl.dvs K = [] := by unfold He.DefD.dvs; rw [hl2]; rfl
    rw [e1] at FD'
    exact FD'.bindsA (ps := ["script"]) (fun kV doc pm an cdv ct us h => hbd kV doc pm an cdv ct us h) s [u] rfl
  · exact sp_start (fun p hp => hH _ (List.mem_map.mpr ⟨p, hp, rfl⟩)) hS (htrue ns hl hb)
  · have q := hF w K mg base fd c.t c.more C (fun p hp => lamTab_of (hx K c.more) (fun p hp => hb _ (List.mem_map.mpr ⟨p, hp, rfl⟩)) hp) FD
    rw [hl1] at q
    exact q
end DL

-- DL12
set_option Elab.async false
set_option linter.all false
set_option maxRecDepth 100000
set_option maxHeartbeats 2000000
/-! DL12: what a meaning is worth, read forwards. -/
namespace DL
open PySem
/-- what simp does not rewrite in -/
class Tk0 : Type where
instance : Tk0 := ⟨⟩
abbrev Tok {α : Sort _} (_ : α) : Type := Tk0
abbrev XP := Str → List (Str × D) → Store → Prop
def X0 : XP := fun _ _ _ => False
section
variable {α β : Type}
/-- the meaning m ends in a value that P takes, or in an exception that X takes -/
def wm (m : M α) (ρ : Env) (μ : Store) (X : XP) (P : α → Store → Prop) [tk : Tok P] : Prop := match m ρ μ with
  | .ok (a, μ') => P a μ'
  | .ex c fs μ' => X c fs μ'
  | .no => False
def wo (o : Out (α × Store)) (X : XP) (P : α → Store → Prop) [tk : Tok P] : Prop := match o with
  | .ok (a, μ') => P a μ'
  | .ex c fs μ' => X c fs μ'
  | .no => False
/-- an operation's answer -/
def wr (o : Option (α × Store)) (P : α → Store → Prop) [tk : Tok P] : Prop := match o with
  | some (a, μ') => P a μ'
  | none => False
theorem wo_c {o : Out (α × Store)} {X : XP} {P Q : α → Store → Prop} (h : ∀ a μ, P a μ = Q a μ) : wo o X P = wo o X Q := by
  have e : P = Q := funext fun a => funext fun μ => h a μ
  subst e
  rfl
/-- one way or the other -/
def br (c A B : Prop) : Prop := (c → A) ∧ (¬ c → B)
@[simp, simp ↓] theorem br_tt (A B : Prop) : br (true = true) A B = A := by simp [br]
@[simp, simp ↓] theorem br_ft (A B : Prop) : br (false = true) A B = B := by simp [br]
@[simp] theorem br_True (A B : Prop) : br True A B = A := by simp [br]
@[simp] theorem br_False (A B : Prop) : br False A B = B := by simp [br]
@[simp] theorem br_FR (c A : Prop) : br c A False = (c ∧ A) := by
  unfold br
  refine propext ⟨fun h => ?_, fun h => ⟨fun _ => h.2, fun n => n h.1⟩⟩
  have hc : c := Classical.byContradiction fun n => h.2 n
  exact ⟨hc, h.1 hc⟩
@[simp] theorem br_FL (c B : Prop) : br c False B = (¬ c ∧ B) := by
  unfold br
  exact propext ⟨fun h => ⟨h.1, h.2 h.1⟩, fun h => ⟨h.1, fun _ => h.2⟩⟩
@[simp] theorem br_TR (c A : Prop) : br c A True = (c → A) := by simp [br]
@[simp] theorem br_TL (c B : Prop) : br c True B = (¬ c → B) := by simp [br]
@[simp] theorem br_same (c A : Prop) : br c A A = A := by
  unfold br
  exact propext ⟨fun h => Classical.byCases h.1 h.2, fun h => ⟨fun _ => h, fun _ => h⟩⟩
@[simp] theorem br_not (c A B : Prop) : br (¬ c) A B = br c B A := by
  unfold br
  exact propext ⟨fun h => ⟨fun z => h.2 fun n => n z, h.1⟩, fun h => ⟨h.2, fun n => h.1 (Classical.byContradiction n)⟩⟩
theorem br_of {c A B : Prop} (h : c → A) (k : ¬ c → B) : br c A B := ⟨h, k⟩
theorem br_pos {c A B : Prop} (h : c) : br c A B = A := by rw [show c = True from propext ⟨fun _ => trivial, fun _ => h⟩, br_True]
theorem br_neg {c A B : Prop} (h : ¬ c) : br c A B = B := by rw [show c = False from propext ⟨h, False.elim⟩, br_False]
theorem ite_br {c : Prop} [Decidable c] {A B : Prop} : (if c then A else B) = br c A B := by
  split
  · rename_i h; exact (br_pos h).symm
  · rename_i h; exact (br_neg h).symm
theorem ite_and {c : Prop} [Decidable c] {A : Prop} : (if c then A else False) = (c ∧ A) := by rw [ite_br, br_FR]
theorem wr_some_i (a : α) (μ : Store) (P : α → Store → Prop) : wr (some (a, μ)) P = P a μ := Eq.trans rfl rfl
@[simp, simp ↓] theorem wr_some (a : α) (μ : Store) (P : α → Store → Prop) {tk0 : Tok P} : wr (some (a, μ)) P (tk := tk0) = P a μ := wr_some_i ..
theorem wr_none_i (P : α → Store → Prop) : wr none P = False := Eq.trans rfl rfl
@[simp, simp ↓] theorem wr_none (P : α → Store → Prop) {tk0 : Tok P} : wr none P (tk := tk0) = False := wr_none_i ..
theorem wr_map_i (o : Option β) (f : β → α) (μ : Store) (P : α → Store → Prop) : wr (o.map fun b => (f b, μ)) P = (match o with | some b => P (f b) μ | none => False) := by cases o <;> rfl
@[simp, simp ↓] theorem wr_map (o : Option β) (f : β → α) (μ : Store) (P : α → Store → Prop) {tk0 : Tok P} : wr (o.map fun b => (f b, μ)) P (tk := tk0) = (match o with | some b => P (f b) μ | none => False) := wr_map_i ..
theorem wr_ite_i (c : Prop) [Decidable c] (a b : Option (α × Store)) (P : α → Store → Prop) : wr (if c then a else b) P = br c (wr a P) (wr b P) := by
  split
  · rename_i h; exact (br_pos h).symm
  · rename_i h; exact (br_neg h).symm
@[simp, simp ↓] theorem wr_ite (c : Prop) [Decidable c] (a b : Option (α × Store)) (P : α → Store → Prop) {tk0 : Tok P} : wr (if c then a else b) P (tk := tk0) = br c (wr a P) (wr b P) := wr_ite_i ..
theorem wo_ok_i (a : α) (μ : Store) (X : XP) (P : α → Store → Prop) : wo (.ok (a, μ)) X P = P a μ := Eq.trans rfl rfl
@[simp, simp ↓] theorem wo_ok (a : α) (μ : Store) (X : XP) (P : α → Store → Prop) {tk0 : Tok P} : wo (.ok (a, μ)) X P (tk := tk0) = P a μ := wo_ok_i ..
theorem wo_no_i (X : XP) (P : α → Store → Prop) : wo (.no) X P = False := Eq.trans rfl rfl
@[simp, simp ↓] theorem wo_no (X : XP) (P : α → Store → Prop) {tk0 : Tok P} : wo (.no) X P (tk := tk0) = False := wo_no_i ..
theorem wo_of (o : Option (α × Store)) (X : XP) (P : α → Store → Prop) : wo (Out.of o) X P = wr o P := by cases o <;> rfl
theorem wo_bind (o : Out (β × Store)) (f : β × Store → Out (α × Store)) (X : XP) (P : α → Store → Prop) : wo (o.bind f) X P = wo o X fun b μ => wo (f (b, μ)) X P := by cases o <;> rfl
theorem wm_wo (m : M α) (ρ : Env) (μ : Store) (X : XP) (P : α → Store → Prop) : wm m ρ μ X P = wo (m ρ μ) X P := rfl
theorem wo_imp {o : Out (α × Store)} {X X' : XP} {P P' : α → Store → Prop} (h : wo o X P) (hp : ∀ a μ, P a μ → P' a μ) (hx : ∀ c fs μ, X c fs μ → X' c fs μ) : wo o X' P' := by
  cases o with
  | ok p => exact hp _ _ h
  | ex c fs μ => exact hx _ _ _ h
  | no => exact h
theorem wo_get {o : Out (α × Store)} {P : α → Store → Prop} (h : wo o X0 P) : ∃ a μ, o = .ok (a, μ) ∧ P a μ := by
  cases o with
  | ok p => exact ⟨_, _, rfl, h⟩
  | ex c fs μ => exact h.elim
  | no => exact h.elim
theorem wm_cc {m : M α} {ρ : Env} {μ : Store} {X : XP} {P Q : α → Store → Prop} (h : ∀ a μ, P a μ = Q a μ) : wm m ρ μ X P = wm m ρ μ X Q := by
  have e : P = Q := funext fun a => funext fun μ => h a μ
  subst e
  rfl
variable {ρ : Env} {μ : Store} {X : XP}
theorem wm_var_i (i : Nat) (P : D → Store → Prop) : wm (mVar i) ρ μ X P = (match ρ[i]? with | some (some d) => P d μ | _ => False) := by
  unfold wm mVar
  cases ρ[i]? with
  | none => rfl
  | some o => cases o <;> rfl
@[simp, simp ↓] theorem wm_var (i : Nat) (P : D → Store → Prop) {tk0 : Tok P} : wm (mVar i) ρ μ X P (tk := tk0) = (match ρ[i]? with | some (some d) => P d μ | _ => False) := wm_var_i ..
theorem wm_c_i (d : D) (P : D → Store → Prop) : wm (mC d) ρ μ X P = P d μ := Eq.trans rfl rfl
@[simp, simp ↓] theorem wm_c (d : D) (P : D → Store → Prop) {tk0 : Tok P} : wm (mC d) ρ μ X P (tk := tk0) = P d μ := wm_c_i ..
theorem wm_bin_i (f : D → D → Store → Option (D × Store)) (a b : M D) (P : D → Store → Prop) : wm (mBin f a b) ρ μ X P = wm a ρ μ X fun x μ => wm b ρ μ X fun y μ => wr (f x y μ) P := by
  rw [wm_wo, wm_wo, mBin, wo_bind]
  refine wo_c fun x μ => ?_
  rw [wm_wo, wo_bind]
  refine wo_c fun y μ => ?_
  exact wo_of _ _ _
@[simp, simp ↓] theorem wm_bin (f : D → D → Store → Option (D × Store)) (a b : M D) (P : D → Store → Prop) {tk0 : Tok P} : wm (mBin f a b) ρ μ X P (tk := tk0) = wm a ρ μ X fun x μ => wm b ρ μ X fun y μ => wr (f x y μ) P := wm_bin_i ..
theorem wm_un_i (f : D → Store → Option (D × Store)) (a : M D) (P : D → Store → Prop) : wm (mUn f a) ρ μ X P = wm a ρ μ X fun x μ => wr (f x μ) P := by
  rw [wm_wo, wm_wo, mUn, wo_bind]
  refine wo_c fun x μ => ?_
  exact wo_of _ _ _
@[simp, simp ↓] theorem wm_un (f : D → Store → Option (D × Store)) (a : M D) (P : D → Store → Prop) {tk0 : Tok P} : wm (mUn f a) ρ μ X P (tk := tk0) = wm a ρ μ X fun x μ => wr (f x μ) P := wm_un_i ..
theorem wo_m1 (o : Out (D × Store)) (P : Bool → Store → Prop) : wo (o.bind fun p => match p.1 with | .bl b => .ok (b, p.2) | _ => .no) X P = wo o X fun d μ => match d with | .bl b => P b μ | _ => False := by
  rw [wo_bind]
  refine wo_c fun d μ => ?_
  cases d <;> rfl
theorem wm_test_i (a : M D) (P : Bool → Store → Prop) : wm (mTest a) ρ μ X P = wm a ρ μ X fun d μ => match d with | .bl b => P b μ | _ => False := wo_m1 _ _
@[simp, simp ↓] theorem wm_test (a : M D) (P : Bool → Store → Prop) {tk0 : Tok P} : wm (mTest a) ρ μ X P (tk := tk0) = wm a ρ μ X fun d μ => match d with | .bl b => P b μ | _ => False := wm_test_i ..
theorem wm_tru_i (a : M D) (P : Bool → Store → Prop) : wm (mTru a) ρ μ X P = wm a ρ μ X fun d μ => match truD μ d with | some b => P b μ | none => False := by
  simp only [wm_wo, mTru, wo_bind, wo_of]
  refine wo_c fun d μ => ?_
  cases truD μ d <;> rfl
@[simp, simp ↓] theorem wm_tru (a : M D) (P : Bool → Store → Prop) {tk0 : Tok P} : wm (mTru a) ρ μ X P (tk := tk0) = wm a ρ μ X fun d μ => match truD μ d with | some b => P b μ | none => False := wm_tru_i ..
theorem wm_chain0 (f g : D → D → Store → Option (D × Store)) (a b c : M D) (P : D → Store → Prop) : wm (mChain f g a b c) ρ μ X P = wm a ρ μ X fun x μ => wm b ρ μ X fun y μ => wr (f x y μ) fun t μ => match t with
    | .bl k => if k = true then wm c ρ μ X fun z μ => wr (g y z μ) P else P (.bl false) μ
    | _ => False := by
  rw [wm_wo, wm_wo, mChain, wo_bind]
  refine wo_c fun x μ => ?_
  rw [wm_wo, wo_bind]
  refine wo_c fun y μ => ?_
  rw [wo_bind, ← wo_of (f x y μ) X]
  refine wo_c fun t μ => ?_
  cases t with
  | bl k => cases k with
    | true =>
      simp only [if_true]
      rw [wm_wo, wo_bind]
      refine wo_c fun z μ => ?_
      exact wo_of _ _ _
    | false => rfl
  | _ => rfl
theorem wm_chain_i (f g : D → D → Store → Option (D × Store)) (a b c : M D) (P : D → Store → Prop) : wm (mChain f g a b c) ρ μ X P = wm a ρ μ X fun x μ => wm b ρ μ X fun y μ => wr (f x y μ) fun t μ => match t with
    | .bl k => br (k = true) (wm c ρ μ X fun z μ => wr (g y z μ) P) (P (.bl false) μ)
    | _ => False := by
  rw [wm_chain0]
  refine wm_cc fun x μ => wm_cc fun y μ => ?_
  rw [← wo_of (f x y μ) X, ← wo_of (f x y μ) X]
  refine wo_c fun t μ => ?_
  cases t with
  | bl k => exact ite_br
  | _ => rfl
@[simp, simp ↓] theorem wm_chain (f g : D → D → Store → Option (D × Store)) (a b c : M D) (P : D → Store → Prop) {tk0 : Tok P} : wm (mChain f g a b c) ρ μ X P (tk := tk0) = wm a ρ μ X fun x μ => wm b ρ μ X fun y μ => wr (f x y μ) fun t μ => match t with
    | .bl k => br (k = true) (wm c ρ μ X fun z μ => wr (g y z μ) P) (P (.bl false) μ)
    | _ => False := wm_chain_i ..
theorem wm_andT0 (a b : M Bool) (P : Bool → Store → Prop) : wm (mAndT a b) ρ μ X P = wm a ρ μ X fun k μ => if k = true then wm b ρ μ X P else P false μ := by
  simp only [wm_wo, mAndT, wo_bind]
  refine wo_c fun k μ => ?_
  cases k <;> rfl
theorem wm_andT_i (a b : M Bool) (P : Bool → Store → Prop) : wm (mAndT a b) ρ μ X P = wm a ρ μ X fun k μ => br (k = true) (wm b ρ μ X P) (P false μ) := by
  rw [wm_andT0]
  exact wm_cc fun k μ => ite_br
@[simp, simp ↓] theorem wm_andT (a b : M Bool) (P : Bool → Store → Prop) {tk0 : Tok P} : wm (mAndT a b) ρ μ X P (tk := tk0) = wm a ρ μ X fun k μ => br (k = true) (wm b ρ μ X P) (P false μ) := wm_andT_i ..
theorem wm_orT0 (a b : M Bool) (P : Bool → Store → Prop) : wm (mOrT a b) ρ μ X P = wm a ρ μ X fun k μ => if k = true then P true μ else wm b ρ μ X P := by
  simp only [wm_wo, mOrT, wo_bind]
  refine wo_c fun k μ => ?_
  cases k <;> rfl
theorem wm_orT_i (a b : M Bool) (P : Bool → Store → Prop) : wm (mOrT a b) ρ μ X P = wm a ρ μ X fun k μ => br (k = true) (P true μ) (wm b ρ μ X P) := by
  rw [wm_orT0]
  exact wm_cc fun k μ => ite_br
@[simp, simp ↓] theorem wm_orT (a b : M Bool) (P : Bool → Store → Prop) {tk0 : Tok P} : wm (mOrT a b) ρ μ X P (tk := tk0) = wm a ρ μ X fun k μ => br (k = true) (P true μ) (wm b ρ μ X P) := wm_orT_i ..
theorem wm_notT_i (a : M Bool) (P : Bool → Store → Prop) : wm (mNotT a) ρ μ X P = wm a ρ μ X fun k μ => P (!k) μ := by
  simp only [wm_wo, mNotT, wo_bind]
  rfl
@[simp, simp ↓] theorem wm_notT (a : M Bool) (P : Bool → Store → Prop) {tk0 : Tok P} : wm (mNotT a) ρ μ X P (tk := tk0) = wm a ρ μ X fun k μ => P (!k) μ := wm_notT_i ..
theorem wm_and0 (a b : M D) (P : D → Store → Prop) : wm (mAnd a b) ρ μ X P = wm a ρ μ X fun d μ => match truD μ d with | some k => if k = true then wm b ρ μ X P else P d μ | none => False := by
  simp only [wm_wo, mAnd, wo_bind]
  refine wo_c fun d μ => ?_
  cases truD μ d with
  | none => rfl
  | some k => cases k <;> rfl
theorem wm_and_i (a b : M D) (P : D → Store → Prop) : wm (mAnd a b) ρ μ X P = wm a ρ μ X fun d μ => match truD μ d with | some k => br (k = true) (wm b ρ μ X P) (P d μ) | none => False := by
  rw [wm_and0]
  exact wm_cc fun d μ => by
    cases truD μ d with
    | none => rfl
    | some k => exact ite_br
@[simp, simp ↓] theorem wm_and (a b : M D) (P : D → Store → Prop) {tk0 : Tok P} : wm (mAnd a b) ρ μ X P (tk := tk0) = wm a ρ μ X fun d μ => match truD μ d with | some k => br (k = true) (wm b ρ μ X P) (P d μ) | none => False := wm_and_i ..
theorem wm_or0 (a b : M D) (P : D → Store → Prop) : wm (mOr a b) ρ μ X P = wm a ρ μ X fun d μ => match truD μ d with | some k => if k = true then P d μ else wm b ρ μ X P | none => False := by
  simp only [wm_wo, mOr, wo_bind]
  refine wo_c fun d μ => ?_
  cases truD μ d with
  | none => rfl
  | some k => cases k <;> rfl
theorem wm_or_i (a b : M D) (P : D → Store → Prop) : wm (mOr a b) ρ μ X P = wm a ρ μ X fun d μ => match truD μ d with | some k => br (k = true) (P d μ) (wm b ρ μ X P) | none => False := by
  rw [wm_or0]
  exact wm_cc fun d μ => by
    cases truD μ d with
    | none => rfl
    | some k => exact ite_br
@[simp, simp ↓] theorem wm_or (a b : M D) (P : D → Store → Prop) {tk0 : Tok P} : wm (mOr a b) ρ μ X P (tk := tk0) = wm a ρ μ X fun d μ => match truD μ d with | some k => br (k = true) (P d μ) (wm b ρ μ X P) | none => False := wm_or_i ..
theorem wm_not_i (a : M D) (P : D → Store → Prop) : wm (mNot a) ρ μ X P = wm a ρ μ X fun d μ => match truD μ d with | some k => P (.bl (!k)) μ | none => False := by
  simp only [wm_wo, mNot, wo_bind]
  refine wo_c fun d μ => ?_
  cases truD μ d <;> rfl
@[simp, simp ↓] theorem wm_not (a : M D) (P : D → Store → Prop) {tk0 : Tok P} : wm (mNot a) ρ μ X P (tk := tk0) = wm a ρ μ X fun d μ => match truD μ d with | some k => P (.bl (!k)) μ | none => False := wm_not_i ..
theorem wm_if0 (c : M Bool) (a b : M D) (P : D → Store → Prop) : wm (mIf c a b) ρ μ X P = wm c ρ μ X fun k μ => if k = true then wm a ρ μ X P else wm b ρ μ X P := by
  simp only [wm_wo, mIf, wo_bind]
  refine wo_c fun k μ => ?_
  cases k <;> rfl
theorem wm_if_i (c : M Bool) (a b : M D) (P : D → Store → Prop) : wm (mIf c a b) ρ μ X P = wm c ρ μ X fun k μ => br (k = true) (wm a ρ μ X P) (wm b ρ μ X P) := by
  rw [wm_if0]
  exact wm_cc fun k μ => ite_br
@[simp, simp ↓] theorem wm_if (c : M Bool) (a b : M D) (P : D → Store → Prop) {tk0 : Tok P} : wm (mIf c a b) ρ μ X P (tk := tk0) = wm c ρ μ X fun k μ => br (k = true) (wm a ρ μ X P) (wm b ρ μ X P) := wm_if_i ..
theorem wm_anil_i (P : List D → Store → Prop) : wm aNil ρ μ X P = P [] μ := Eq.trans rfl rfl
@[simp, simp ↓] theorem wm_anil (P : List D → Store → Prop) {tk0 : Tok P} : wm aNil ρ μ X P (tk := tk0) = P [] μ := wm_anil_i ..
theorem wm_acons_i (a : M D) (b : M (List D)) (P : List D → Store → Prop) : wm (aCons a b) ρ μ X P = wm a ρ μ X fun d μ => wm b ρ μ X fun ds μ => P (d :: ds) μ := by
  rw [wm_wo, wm_wo, aCons, wo_bind]
  refine wo_c fun d μ => ?_
  rw [wm_wo, wo_bind]
  rfl
@[simp, simp ↓] theorem wm_acons (a : M D) (b : M (List D)) (P : List D → Store → Prop) {tk0 : Tok P} : wm (aCons a b) ρ μ X P (tk := tk0) = wm a ρ μ X fun d μ => wm b ρ μ X fun ds μ => P (d :: ds) μ := wm_acons_i ..
theorem wm_tup0 (a : M (List D)) (P : D → Store → Prop) : wm (mTup a) ρ μ X P = wm a ρ μ X fun ds μ => if ds.length ≤ 16777216 then P (.tup ds) μ else False := by
  simp only [wm_wo, mTup, wo_bind]
  refine wo_c fun ds μ => ?_
  split <;> rfl
theorem wm_tup_i (a : M (List D)) (P : D → Store → Prop) : wm (mTup a) ρ μ X P = wm a ρ μ X fun ds μ => ds.length ≤ 16777216 ∧ P (.tup ds) μ := by
  rw [wm_tup0]
  exact wm_cc fun ds μ => ite_and
@[simp, simp ↓] theorem wm_tup (a : M (List D)) (P : D → Store → Prop) {tk0 : Tok P} : wm (mTup a) ρ μ X P (tk := tk0) = wm a ρ μ X fun ds μ => ds.length ≤ 16777216 ∧ P (.tup ds) μ := wm_tup_i ..
theorem wm_lst0 (a : M (List D)) (P : D → Store → Prop) : wm (mLst a) ρ μ X P = wm a ρ μ X fun ds μ => if ds.length ≤ 16777216 then P (.ptr μ.length) (μ ++ [.lst ds]) else False := by
  simp only [wm_wo, mLst, wo_bind]
  refine wo_c fun ds μ => ?_
  split <;> rfl
theorem wm_lst_i (a : M (List D)) (P : D → Store → Prop) : wm (mLst a) ρ μ X P = wm a ρ μ X fun ds μ => ds.length ≤ 16777216 ∧ P (.ptr μ.length) (μ ++ [.lst ds]) := by
  rw [wm_lst0]
  exact wm_cc fun ds μ => ite_and
@[simp, simp ↓] theorem wm_lst (a : M (List D)) (P : D → Store → Prop) {tk0 : Tok P} : wm (mLst a) ρ μ X P (tk := tk0) = wm a ρ μ X fun ds μ => ds.length ≤ 16777216 ∧ P (.ptr μ.length) (μ ++ [.lst ds]) := wm_lst_i ..
theorem wm_onone_i (P : Option Int → Store → Prop) : wm oNone ρ μ X P = P none μ := Eq.trans rfl rfl
@[simp, simp ↓] theorem wm_onone (P : Option Int → Store → Prop) {tk0 : Tok P} : wm oNone ρ μ X P (tk := tk0) = P none μ := wm_onone_i ..
theorem wm_osome_i (a : M D) (P : Option Int → Store → Prop) : wm (oSome a) ρ μ X P = wm a ρ μ X fun d μ => match d with | .int i => P (some i) μ | _ => False := by
  simp only [wm_wo, oSome, wo_bind]
  refine wo_c fun d μ => ?_
  cases d <;> rfl
@[simp, simp ↓] theorem wm_osome (a : M D) (P : Option Int → Store → Prop) {tk0 : Tok P} : wm (oSome a) ρ μ X P (tk := tk0) = wm a ρ μ X fun d μ => match d with | .int i => P (some i) μ | _ => False := wm_osome_i ..
theorem wm_cb_i (f : List D → Store → Option (D × Store)) (a : M (List D)) (P : D → Store → Prop) : wm (mCB f a) ρ μ X P = wm a ρ μ X fun ds μ => wr (f ds μ) P := by
  rw [wm_wo, wm_wo, mCB, wo_bind]
  refine wo_c fun ds μ => ?_
  exact wo_of _ _ _
@[simp, simp ↓] theorem wm_cb (f : List D → Store → Option (D × Store)) (a : M (List D)) (P : D → Store → Prop) {tk0 : Tok P} : wm (mCB f a) ρ μ X P (tk := tk0) = wm a ρ μ X fun ds μ => wr (f ds μ) P := wm_cb_i ..
theorem wm_sl_i (f : D → Option Int → Option Int → Store → Option (D × Store)) (a : M D) (l h : M (Option Int)) (P : D → Store → Prop) : wm (mSl f a l h) ρ μ X P = wm a ρ μ X fun d μ => wm l ρ μ X fun lo μ => wm h ρ μ X fun hi μ => wr (f d lo hi μ) P := by
  rw [wm_wo, wm_wo, mSl, wo_bind]
  refine wo_c fun d μ => ?_
  rw [wm_wo, wo_bind]
  refine wo_c fun lo μ => ?_
  rw [wm_wo, wo_bind]
  refine wo_c fun hi μ => ?_
  exact wo_of _ _ _
@[simp, simp ↓] theorem wm_sl (f : D → Option Int → Option Int → Store → Option (D × Store)) (a : M D) (l h : M (Option Int)) (P : D → Store → Prop) {tk0 : Tok P} : wm (mSl f a l h) ρ μ X P (tk := tk0) = wm a ρ μ X fun d μ => wm l ρ μ X fun lo μ => wm h ρ μ X fun hi μ => wr (f d lo hi μ) P := wm_sl_i ..
theorem wm_bm0 (ty : Store → D → Bool) (f : D → List D → Store → Option (D × Store)) (a : M D) (b : M (List D)) (P : D → Store → Prop) : wm (mBM ty f a b) ρ μ X P = wm a ρ μ X fun d μ => if ty μ d = true then wm b ρ μ X fun ds μ => wr (f d ds μ) P else False := by
  rw [wm_wo, wm_wo, mBM, wo_bind]
  refine wo_c fun d μ => ?_
  split
  · rw [wm_wo, wo_bind]
    refine wo_c fun ds μ => ?_
    exact wo_of _ _ _
  · rfl
theorem wm_bm_i (ty : Store → D → Bool) (f : D → List D → Store → Option (D × Store)) (a : M D) (b : M (List D)) (P : D → Store → Prop) : wm (mBM ty f a b) ρ μ X P = wm a ρ μ X fun d μ => ty μ d = true ∧ wm b ρ μ X fun ds μ => wr (f d ds μ) P := by
  rw [wm_bm0]
  exact wm_cc fun d μ => ite_and
@[simp, simp ↓] theorem wm_bm (ty : Store → D → Bool) (f : D → List D → Store → Option (D × Store)) (a : M D) (b : M (List D)) (P : D → Store → Prop) {tk0 : Tok P} : wm (mBM ty f a b) ρ μ X P (tk := tk0) = wm a ρ μ X fun d μ => ty μ d = true ∧ wm b ρ μ X fun ds μ => wr (f d ds μ) P := wm_bm_i ..
theorem wm_call0 (n : Nat) (f : List D → Store → Out (D × Store)) (a : M (List D)) (P : D → Store → Prop) : wm (mCall n f a) ρ μ X P = wm a ρ μ X fun ds μ => if ds.length = n then wo (f ds μ) X P else False := by
  simp only [wm_wo, mCall, wo_bind]
  refine wo_c fun ds μ => ?_
  split <;> rfl
theorem wm_call_i (n : Nat) (f : List D → Store → Out (D × Store)) (a : M (List D)) (P : D → Store → Prop) : wm (mCall n f a) ρ μ X P = wm a ρ μ X fun ds μ => ds.length = n ∧ wo (f ds μ) X P := by
  rw [wm_call0]
  exact wm_cc fun ds μ => ite_and
@[simp, simp ↓] theorem wm_call (n : Nat) (f : List D → Store → Out (D × Store)) (a : M (List D)) (P : D → Store → Prop) {tk0 : Tok P} : wm (mCall n f a) ρ μ X P (tk := tk0) = wm a ρ μ X fun ds μ => ds.length = n ∧ wo (f ds μ) X P := wm_call_i ..
theorem wm_meth0 (c mt : Str) (n : Nat) (f : List D → Store → Out (D × Store)) (o : M D) (a : M (List D)) (P : D → Store → Prop) : wm (mMeth c mt n f o a) ρ μ X P = wm o ρ μ X fun d μ => match d with
    | .ptr j => match insAt μ c j with
      | some fs => if (fs.lookup mt).isNone = true then wm a ρ μ X fun ds μ => if ds.length + 1 = n then wo (f (.ptr j :: ds) μ) X P else False else False
      | none => False
    | _ => False := by
  simp only [wm_wo, mMeth, wo_bind]
  refine wo_c fun d μ => ?_
  cases d with
  | ptr j =>
    simp only
    cases insAt μ c j with
    | none => rfl
    | some fs =>
      simp only
      split
      · rw [wo_bind]
        refine wo_c fun ds μ => ?_
        split <;> rfl
      · rfl
  | _ => rfl
theorem wm_meth_i (c mt : Str) (n : Nat) (f : List D → Store → Out (D × Store)) (o : M D) (a : M (List D)) (P : D → Store → Prop) : wm (mMeth c mt n f o a) ρ μ X P = wm o ρ μ X fun d μ => match d with
    | .ptr j => match insAt μ c j with
      | some fs => (fs.lookup mt).isNone = true ∧ wm a ρ μ X fun ds μ => ds.length + 1 = n ∧ wo (f (.ptr j :: ds) μ) X P
      | none => False
    | _ => False := by
  rw [wm_meth0]
  exact wm_cc fun d μ => by
    cases d with
    | ptr j =>
      simp only
      cases insAt μ c j with
      | none => rfl
      | some fs =>
        simp only
        rw [ite_and]
        congr 1
        exact wm_cc fun ds μ => ite_and
    | _ => rfl
@[simp, simp ↓] theorem wm_meth (c mt : Str) (n : Nat) (f : List D → Store → Out (D × Store)) (o : M D) (a : M (List D)) (P : D → Store → Prop) {tk0 : Tok P} : wm (mMeth c mt n f o a) ρ μ X P (tk := tk0) = wm o ρ μ X fun d μ => match d with
    | .ptr j => match insAt μ c j with
      | some fs => (fs.lookup mt).isNone = true ∧ wm a ρ μ X fun ds μ => ds.length + 1 = n ∧ wo (f (.ptr j :: ds) μ) X P
      | none => False
    | _ => False := wm_meth_i ..
theorem wm_make0 (c : Str) (n : Nat) (f : List D → Store → Out (D × Store)) (a : M (List D)) (P : D → Store → Prop) : wm (mMake c n f a) ρ μ X P = wm a ρ μ X fun ds μ => if ds.length + 1 = n then wo (f (.ptr μ.length :: ds) (μ ++ [.ins c []])) X fun v μ' => match v with | .non => P (.ptr μ.length) μ' | _ => False else False := by
  simp only [wm_wo, mMake, wo_bind]
  refine wo_c fun ds μ => ?_
  split
  · rw [wo_bind]
    refine wo_c fun v μ => ?_
    cases v <;> rfl
  · rfl
theorem wm_make_i (c : Str) (n : Nat) (f : List D → Store → Out (D × Store)) (a : M (List D)) (P : D → Store → Prop) : wm (mMake c n f a) ρ μ X P = wm a ρ μ X fun ds μ => ds.length + 1 = n ∧ wo (f (.ptr μ.length :: ds) (μ ++ [.ins c []])) X fun v μ' => match v with | .non => P (.ptr μ.length) μ' | _ => False := by
  rw [wm_make0]
  exact wm_cc fun ds μ => ite_and
@[simp, simp ↓] theorem wm_make (c : Str) (n : Nat) (f : List D → Store → Out (D × Store)) (a : M (List D)) (P : D → Store → Prop) {tk0 : Tok P} : wm (mMake c n f a) ρ μ X P (tk := tk0) = wm a ρ μ X fun ds μ => ds.length + 1 = n ∧ wo (f (.ptr μ.length :: ds) (μ ++ [.ins c []])) X fun v μ' => match v with | .non => P (.ptr μ.length) μ' | _ => False := wm_make_i ..
theorem wm_act0 (i : Nat) (Lv : D) (n : Nat) (φ : List D → Store → Out (D × Store)) (a : M (List D)) (P : D → Store → Prop) (h : ρ[i]? = some (some Lv)) : wm (mAct i Lv n φ a) ρ μ X P = wm a ρ μ X fun ds μ => if ds.length = n then wo (φ ds μ) X P else False := by
  simp only [wm_wo, mAct, if_pos h, wo_bind]
  refine wo_c fun ds μ => ?_
  split <;> rfl
theorem wm_act_i (i : Nat) (Lv : D) (n : Nat) (φ : List D → Store → Out (D × Store)) (a : M (List D)) (P : D → Store → Prop) (h : ρ[i]? = some (some Lv)) : wm (mAct i Lv n φ a) ρ μ X P = wm a ρ μ X fun ds μ => ds.length = n ∧ wo (φ ds μ) X P := by
  rw [wm_act0]
  exact wm_cc fun ds μ => ite_and
  exact h
@[simp, simp ↓] theorem wm_act (i : Nat) (Lv : D) (n : Nat) (φ : List D → Store → Out (D × Store)) (a : M (List D)) (P : D → Store → Prop) (h : ρ[i]? = some (some Lv)) {tk0 : Tok P} : wm (mAct i Lv n φ a) ρ μ X P (tk := tk0) = wm a ρ μ X fun ds μ => ds.length = n ∧ wo (φ ds μ) X P := wm_act_i (h := h) ..
theorem wm_ho0 (js : List Nat) (nl : Nat) (mb : M D) (n : Nat) (F : (List D → Store → Out (D × Store)) → List D → Store → Out (D × Store)) (a : M (List D)) (P : D → Store → Prop) : wm (mHoL js nl mb n F a) ρ μ X P = wm a ρ μ X fun ds μ => match capD ρ js with
    | some cs => if ds.length + 1 = n then wo (F (lamF nl cs mb) ds μ) X P else False
    | none => False := by
  simp only [wm_wo, mHoL, wo_bind]
  refine wo_c fun ds μ => ?_
  cases capD ρ js with
  | none => rfl
  | some cs => simp only; split <;> rfl
theorem wm_ho_i (js : List Nat) (nl : Nat) (mb : M D) (n : Nat) (F : (List D → Store → Out (D × Store)) → List D → Store → Out (D × Store)) (a : M (List D)) (P : D → Store → Prop) : wm (mHoL js nl mb n F a) ρ μ X P = wm a ρ μ X fun ds μ => match capD ρ js with
    | some cs => ds.length + 1 = n ∧ wo (F (lamF nl cs mb) ds μ) X P
    | none => False := by
  rw [wm_ho0]
  exact wm_cc fun ds μ => by
    cases capD ρ js with
    | none => rfl
    | some cs => exact ite_and
@[simp, simp ↓] theorem wm_ho (js : List Nat) (nl : Nat) (mb : M D) (n : Nat) (F : (List D → Store → Out (D × Store)) → List D → Store → Out (D × Store)) (a : M (List D)) (P : D → Store → Prop) {tk0 : Tok P} : wm (mHoL js nl mb n F a) ρ μ X P (tk := tk0) = wm a ρ μ X fun ds μ => match capD ρ js with
    | some cs => ds.length + 1 = n ∧ wo (F (lamF nl cs mb) ds μ) X P
    | none => False := wm_ho_i ..
theorem wm_tuprg0 (m : M (Int × Int)) (P : D → Store → Prop) : wm (mTupRg m) ρ μ X P = wm m ρ μ X fun p μ => if rgB p.1 p.2 = true then P (.tup (rgD p.1 p.2)) μ else False := by
  simp only [wm_wo, mTupRg, wo_bind]
  refine wo_c fun p μ => ?_
  split <;> rfl
theorem wm_tuprg_i (m : M (Int × Int)) (P : D → Store → Prop) : wm (mTupRg m) ρ μ X P = wm m ρ μ X fun p μ => rgB p.1 p.2 = true ∧ P (.tup (rgD p.1 p.2)) μ := by
  rw [wm_tuprg0]
  exact wm_cc fun ds μ => ite_and
@[simp, simp ↓] theorem wm_tuprg (m : M (Int × Int)) (P : D → Store → Prop) {tk0 : Tok P} : wm (mTupRg m) ρ μ X P (tk := tk0) = wm m ρ μ X fun p μ => rgB p.1 p.2 = true ∧ P (.tup (rgD p.1 p.2)) μ := wm_tuprg_i ..
theorem wm_lstrg0 (m : M (Int × Int)) (P : D → Store → Prop) : wm (mLstRg m) ρ μ X P = wm m ρ μ X fun p μ => if rgB p.1 p.2 = true then P (.ptr μ.length) (μ ++ [.lst (rgD p.1 p.2)]) else False := by
  simp only [wm_wo, mLstRg, wo_bind]
  refine wo_c fun p μ => ?_
  split <;> rfl
theorem wm_lstrg_i (m : M (Int × Int)) (P : D → Store → Prop) : wm (mLstRg m) ρ μ X P = wm m ρ μ X fun p μ => rgB p.1 p.2 = true ∧ P (.ptr μ.length) (μ ++ [.lst (rgD p.1 p.2)]) := by
  rw [wm_lstrg0]
  exact wm_cc fun ds μ => ite_and
@[simp, simp ↓] theorem wm_lstrg (m : M (Int × Int)) (P : D → Store → Prop) {tk0 : Tok P} : wm (mLstRg m) ρ μ X P (tk := tk0) = wm m ρ μ X fun p μ => rgB p.1 p.2 = true ∧ P (.ptr μ.length) (μ ++ [.lst (rgD p.1 p.2)]) := wm_lstrg_i ..
theorem wm_rg1_i (a : M D) (P : Int × Int → Store → Prop) : wm (mRg1 a) ρ μ X P = wm a ρ μ X fun d μ => match d with | .int n => P (0, n) μ | _ => False := by
  simp only [wm_wo, mRg1, wo_bind]
  refine wo_c fun d μ => ?_
  cases d <;> rfl
@[simp, simp ↓] theorem wm_rg1 (a : M D) (P : Int × Int → Store → Prop) {tk0 : Tok P} : wm (mRg1 a) ρ μ X P (tk := tk0) = wm a ρ μ X fun d μ => match d with | .int n => P (0, n) μ | _ => False := wm_rg1_i ..
theorem wm_rg2_i (a b : M D) (P : Int × Int → Store → Prop) : wm (mRg2 a b) ρ μ X P = wm a ρ μ X fun d μ => wm b ρ μ X fun e μ => match d, e with | .int i, .int j => P (i, j) μ | _, _ => False := by
  rw [wm_wo, wm_wo, mRg2, wo_bind]
  refine wo_c fun d μ => ?_
  rw [wm_wo, wo_bind]
  refine wo_c fun e μ => ?_
  cases d <;> cases e <;> rfl
@[simp, simp ↓] theorem wm_rg2 (a b : M D) (P : Int × Int → Store → Prop) {tk0 : Tok P} : wm (mRg2 a b) ρ μ X P (tk := tk0) = wm a ρ μ X fun d μ => wm b ρ μ X fun e μ => match d, e with | .int i, .int j => P (i, j) μ | _, _ => False := wm_rg2_i ..
@[simp, simp ↓] theorem wm_rangeN (a : M (List D)) (P : Src → Store → Prop) {tk0 : Tok P} : wm (mRangeN a) ρ μ X P (tk := tk0) = wm a ρ μ X fun ds μ => match ds with
    | [.int i, .int j, .int k] => (k = -1 ∧ -(2 ^ 62) ≤ i ∧ i < 2 ^ 62 ∧ -(2 ^ 62) ≤ j ∧ j < 2 ^ 62) ∧ P ⟨rangeC i (-1) (i - j).toNat, []⟩ μ
    | _ => False := by
  rw [wm_wo, wm_wo, mRangeN, wo_bind]
  refine wo_c fun ds μ => ?_
  match ds with
  | [] => rfl
  | [d] => cases d <;> rfl
  | [d, e] => cases d <;> first | rfl | (cases e <;> rfl)
  | [d, e, f] =>
    cases d with
    | int i =>
      cases e with
      | int j =>
        cases f with
        | int k =>
          by_cases hk : k = -1
          · subst hk
            show wo (if -(2 ^ 62) ≤ i ∧ i < 2 ^ 62 ∧ -(2 ^ 62) ≤ j ∧ j < 2 ^ 62 then .ok (⟨rangeC i (-1) (i - j).toNat, []⟩, μ) else .no) X P = (((-1 : Int) = -1 ∧ -(2 ^ 62) ≤ i ∧ i < 2 ^ 62 ∧ -(2 ^ 62) ≤ j ∧ j < 2 ^ 62) ∧ P ⟨rangeC i (-1) (i - j).toNat, []⟩ μ)
            split
            · rename_i h
              exact propext ⟨fun z => ⟨⟨rfl, h⟩, z⟩, fun z => z.2⟩
            · rename_i h
              exact propext ⟨fun z => z.elim, fun z => h z.1.2⟩
          · refine propext ⟨fun z => ?_, fun z => absurd z.1.1 hk⟩
            match k, hk, z with
            | .ofNat _, _, z => exact z.elim
            | .negSucc 0, hk, _ => exact absurd rfl hk
            | .negSucc (_ + 1), _, z => exact z.elim
        | _ => rfl
      | _ => rfl
    | _ => rfl
  | d :: e :: f :: _ :: _ => cases d <;> first | rfl | (cases e <;> first | rfl | (cases f <;> first | rfl | (rename_i k; match k with | .ofNat _ => rfl | .negSucc 0 => rfl | .negSucc (_ + 1) => rfl)))
theorem wm_yes_i (P : Bool → Store → Prop) : wm mYes ρ μ X P = P true μ := Eq.trans rfl rfl
@[simp, simp ↓] theorem wm_yes (P : Bool → Store → Prop) {tk0 : Tok P} : wm mYes ρ μ X P (tk := tk0) = P true μ := wm_yes_i ..
theorem wm_src_i (a : M D) (P : Src → Store → Prop) : wm (mSrc a) ρ μ X P = wm a ρ μ X fun d μ => match srcD μ d with | some s => P s μ | none => False := by
  simp only [wm_wo, mSrc, wo_bind]
  refine wo_c fun d μ => ?_
  cases srcD μ d <;> rfl
@[simp, simp ↓] theorem wm_src (a : M D) (P : Src → Store → Prop) {tk0 : Tok P} : wm (mSrc a) ρ μ X P (tk := tk0) = wm a ρ μ X fun d μ => match srcD μ d with | some s => P s μ | none => False := wm_src_i ..
theorem wm_enum_i (a : M (List D)) (P : Src → Store → Prop) : wm (mEnum a) ρ μ X P = wm a ρ μ X fun ds μ => match ds with
    | [d] => match srcD μ d with
        | some s => P ⟨enumFrom 0 s.items, s.gs⟩ μ
        | none => False
    | _ => False := by
  simp only [wm_wo, mEnum, wo_bind]
  refine wo_c fun ds μ => ?_
  match ds with
  | [] => rfl
  | [d] =>
    simp only
    cases srcD μ d <;> rfl
  | _ :: _ :: _ => rfl
@[simp, simp ↓] theorem wm_enum (a : M (List D)) (P : Src → Store → Prop) {tk0 : Tok P} : wm (mEnum a) ρ μ X P (tk := tk0) = wm a ρ μ X fun ds μ => match ds with
    | [d] => match srcD μ d with
        | some s => P ⟨enumFrom 0 s.items, s.gs⟩ μ
        | none => False
    | _ => False := wm_enum_i ..
theorem wm_zip_i (a : M (List D)) (P : Src → Store → Prop) : wm (mZip a) ρ μ X P = wm a ρ μ X fun ds μ => match ds with
    | [d, e] => match srcD μ d, srcD μ e with
        | some s, some t => P ⟨zipD s.items t.items, s.gs ++ t.gs⟩ μ
        | _, _ => False
    | _ => False := by
  simp only [wm_wo, mZip, wo_bind]
  refine wo_c fun ds μ => ?_
  match ds with
  | [] => rfl
  | [_] => rfl
  | [d, e] =>
    simp only
    cases srcD μ d <;> cases srcD μ e <;> rfl
  | _ :: _ :: _ :: _ => rfl
@[simp, simp ↓] theorem wm_zip (a : M (List D)) (P : Src → Store → Prop) {tk0 : Tok P} : wm (mZip a) ρ μ X P (tk := tk0) = wm a ρ μ X fun ds μ => match ds with
    | [d, e] => match srcD μ d, srcD μ e with
        | some s, some t => P ⟨zipD s.items t.items, s.gs ++ t.gs⟩ μ
        | _, _ => False
    | _ => False := wm_zip_i ..
theorem wm_range10 (a : M (List D)) (P : Src → Store → Prop) : wm (mRange1 a) ρ μ X P = wm a ρ μ X fun ds μ => match ds with
    | [.int j] => if -(2 ^ 62) ≤ j ∧ j < 2 ^ 62 then P ⟨rangeD 0 j.toNat, []⟩ μ else False
    | _ => False := by
  rw [wm_wo, wm_wo, mRange1, wo_bind]
  refine wo_c fun ds μ => ?_
  match ds with
  | [] => rfl
  | [d] =>
    cases d with
    | int j =>
      show wo (if -(2 ^ 62) ≤ j ∧ j < 2 ^ 62 then .ok (⟨rangeD 0 j.toNat, []⟩, μ) else .no) X P = if -(2 ^ 62) ≤ j ∧ j < 2 ^ 62 then P ⟨rangeD 0 j.toNat, []⟩ μ else False
      split <;> rfl
    | _ => rfl
  | d :: _ :: _ => cases d <;> rfl
theorem wm_range1_i (a : M (List D)) (P : Src → Store → Prop) : wm (mRange1 a) ρ μ X P = wm a ρ μ X fun ds μ => match ds with
    | [.int j] => (-(2 ^ 62) ≤ j ∧ j < 2 ^ 62) ∧ P ⟨rangeD 0 j.toNat, []⟩ μ
    | _ => False := by
  rw [wm_range10]
  exact wm_cc fun ds μ => by
    match ds with
    | [] => rfl
    | [d] =>
      cases d with
      | int j => exact ite_and
      | _ => rfl
    | d :: _ :: _ => cases d <;> rfl
@[simp, simp ↓] theorem wm_range1 (a : M (List D)) (P : Src → Store → Prop) {tk0 : Tok P} : wm (mRange1 a) ρ μ X P (tk := tk0) = wm a ρ μ X fun ds μ => match ds with
    | [.int j] => (-(2 ^ 62) ≤ j ∧ j < 2 ^ 62) ∧ P ⟨rangeD 0 j.toNat, []⟩ μ
    | _ => False := wm_range1_i ..
theorem wm_range20 (a : M (List D)) (P : Src → Store → Prop) : wm (mRange2 a) ρ μ X P = wm a ρ μ X fun ds μ => match ds with
    | [.int i, .int j] => if -(2 ^ 62) ≤ i ∧ i < 2 ^ 62 ∧ -(2 ^ 62) ≤ j ∧ j < 2 ^ 62 then P ⟨rangeD i (j - i).toNat, []⟩ μ else False
    | _ => False := by
  rw [wm_wo, wm_wo, mRange2, wo_bind]
  refine wo_c fun ds μ => ?_
  match ds with
  | [] => rfl
  | [d] => cases d <;> rfl
  | [d, e] =>
    cases d with
    | int i =>
      cases e with
      | int j =>
        show wo (if -(2 ^ 62) ≤ i ∧ i < 2 ^ 62 ∧ -(2 ^ 62) ≤ j ∧ j < 2 ^ 62 then .ok (⟨rangeD i (j - i).toNat, []⟩, μ) else .no) X P = if -(2 ^ 62) ≤ i ∧ i < 2 ^ 62 ∧ -(2 ^ 62) ≤ j ∧ j < 2 ^ 62 then P ⟨rangeD i (j - i).toNat, []⟩ μ else False
        split <;> rfl
      | _ => rfl
    | _ => rfl
  | d :: e :: _ :: _ => cases d <;> first | rfl | (cases e <;> rfl)
theorem wm_range2_i (a : M (List D)) (P : Src → Store → Prop) : wm (mRange2 a) ρ μ X P = wm a ρ μ X fun ds μ => match ds with
    | [.int i, .int j] => (-(2 ^ 62) ≤ i ∧ i < 2 ^ 62 ∧ -(2 ^ 62) ≤ j ∧ j < 2 ^ 62) ∧ P ⟨rangeD i (j - i).toNat, []⟩ μ
    | _ => False := by
  rw [wm_range20]
  exact wm_cc fun ds μ => by
    match ds with
    | [] => rfl
    | [d] => cases d <;> rfl
    | [d, e] =>
      cases d with
      | int i =>
        cases e with
        | int j => exact ite_and
        | _ => rfl
      | _ => rfl
    | d :: e :: _ :: _ => cases d <;> first | rfl | (cases e <;> rfl)
@[simp, simp ↓] theorem wm_range2 (a : M (List D)) (P : Src → Store → Prop) {tk0 : Tok P} : wm (mRange2 a) ρ μ X P (tk := tk0) = wm a ρ μ X fun ds μ => match ds with
    | [.int i, .int j] => (-(2 ^ 62) ≤ i ∧ i < 2 ^ 62 ∧ -(2 ^ 62) ≤ j ∧ j < 2 ^ 62) ∧ P ⟨rangeD i (j - i).toNat, []⟩ μ
    | _ => False := wm_range2_i ..
end
/-! ### statements -/
structure KE where
  N : Env → Store → Prop
  R : D → Store → Prop
  B : Env → Store → Prop
  C : Env → Store → Prop
  X : XP
def ws (o : SOut) (k : KE) : Prop := match o with
  | .nx ρ μ => k.N ρ μ
  | .rt d μ => k.R d μ
  | .bk ρ μ => k.B ρ μ
  | .ct ρ μ => k.C ρ μ
  | .ex c fs _ μ => k.X c fs μ
  | .no => False
def wp (m : S) (ρ : Env) (μ : Store) (k : KE) [tk : Tok k] : Prop := ws (m ρ μ) k
/-- the end of a def's body -/
def kF (X : XP) (P : D → Store → Prop) : KE := ⟨fun _ μ => P .non μ, P, fun _ _ => False, fun _ _ => False, X⟩
@[simp, simp ↓] theorem kF_N (X : XP) (P : D → Store → Prop) : (kF X P).N = fun _ μ => P .non μ := Eq.trans rfl rfl
@[simp, simp ↓] theorem kF_R (X : XP) (P : D → Store → Prop) : (kF X P).R = P := Eq.trans rfl rfl
@[simp, simp ↓] theorem kF_X (X : XP) (P : D → Store → Prop) : (kF X P).X = X := Eq.trans rfl rfl
theorem wo_run_i (n : Nat) (b : S) (ds : List D) (μ : Store) (X : XP) (P : D → Store → Prop) : wo (runF n b ds μ) X P = wp b (ds.map some ++ List.replicate (n - ds.length) none) μ (kF X P) := by
  unfold runF wp
  cases b (ds.map some ++ List.replicate (n - ds.length) none) μ <;> rfl
@[simp, simp ↓] theorem wo_run (n : Nat) (b : S) (ds : List D) (μ : Store) (X : XP) (P : D → Store → Prop) {tk0 : Tok P} : wo (runF n b ds μ) X P (tk := tk0) = wp b (ds.map some ++ List.replicate (n - ds.length) none) μ (kF X P) := wo_run_i ..
section
variable {ρ : Env} {μ : Store} {k : KE}
theorem wp_nx_i : wp sNx ρ μ k = k.N ρ μ := Eq.trans rfl rfl
@[simp, simp ↓] theorem wp_nx {tk0 : Tok k} : wp sNx ρ μ k (tk := tk0) = k.N ρ μ := wp_nx_i ..
theorem wp_seq_i (a b : S) : wp (sSeq a b) ρ μ k = wp a ρ μ { k with N := fun ρ μ => wp b ρ μ k } := by
  unfold wp sSeq
  cases a ρ μ <;> rfl
@[simp, simp ↓] theorem wp_seq (a b : S) {tk0 : Tok k} : wp (sSeq a b) ρ μ k (tk := tk0) = wp a ρ μ { k with N := fun ρ μ => wp b ρ μ k } := wp_seq_i ..
theorem wp_e_i {α : Type} (m : M α) (f : α → S) : wp (sE m f) ρ μ k = wm m ρ μ k.X fun a μ => wp (f a) ρ μ k := by
  unfold wp sE wm
  cases m ρ μ <;> rfl
@[simp, simp ↓] theorem wp_e {α : Type} (m : M α) (f : α → S) {tk0 : Tok k} : wp (sE m f) ρ μ k (tk := tk0) = wm m ρ μ k.X fun a μ => wp (f a) ρ μ k := wp_e_i ..
theorem wp_ret_i (d : D) : wp (fun _ μ => .rt d μ) ρ μ k = k.R d μ := Eq.trans rfl rfl
@[simp, simp ↓] theorem wp_ret (d : D) {tk0 : Tok k} : wp (fun _ μ => .rt d μ) ρ μ k (tk := tk0) = k.R d μ := wp_ret_i ..
theorem wp_bk_i : wp (fun ρ μ => .bk ρ μ) ρ μ k = k.B ρ μ := Eq.trans rfl rfl
@[simp, simp ↓] theorem wp_bk {tk0 : Tok k} : wp (fun ρ μ => .bk ρ μ) ρ μ k (tk := tk0) = k.B ρ μ := wp_bk_i ..
theorem wp_ct_i : wp (fun ρ μ => .ct ρ μ) ρ μ k = k.C ρ μ := Eq.trans rfl rfl
@[simp, simp ↓] theorem wp_ct {tk0 : Tok k} : wp (fun ρ μ => .ct ρ μ) ρ μ k (tk := tk0) = k.C ρ μ := wp_ct_i ..
theorem wp_no_i : wp (fun _ _ => .no) ρ μ k = False := Eq.trans rfl rfl
@[simp, simp ↓] theorem wp_no {tk0 : Tok k} : wp (fun _ _ => .no) ρ μ k (tk := tk0) = False := wp_no_i ..
theorem wp_if0 (t : M Bool) (a b : S) : wp (sIf t a b) ρ μ k = wm t ρ μ k.X fun c μ => if c = true then wp a ρ μ k else wp b ρ μ k := by
  unfold sIf
  rw [wp_e]
  refine wo_c fun c μ => ?_
  cases c <;> rfl
theorem wp_if_i (t : M Bool) (a b : S) : wp (sIf t a b) ρ μ k = wm t ρ μ k.X fun c μ => br (c = true) (wp a ρ μ k) (wp b ρ μ k) := by
  rw [wp_if0]
  exact wm_cc fun c μ => ite_br
@[simp, simp ↓] theorem wp_if (t : M Bool) (a b : S) {tk0 : Tok k} : wp (sIf t a b) ρ μ k (tk := tk0) = wm t ρ μ k.X fun c μ => br (c = true) (wp a ρ μ k) (wp b ρ μ k) := wp_if_i ..
/-- a target's end -/
def wg (o : SOut) (P : Env → Store → Prop) [tk : Tok P] : Prop := match o with
  | .nx ρ μ => P ρ μ
  | _ => False
theorem ws_only (o : SOut) : ws (only o) k = wg o k.N := by cases o <;> rfl
theorem wp_set_i (m : M D) (g : Tg) : wp (sSet m g) ρ μ k = wm m ρ μ k.X fun d μ => wg (g d ρ μ) k.N := by
  unfold sSet
  rw [wp_e]
  refine wo_c fun d μ => ?_
  exact ws_only _
@[simp, simp ↓] theorem wp_set (m : M D) (g : Tg) {tk0 : Tok k} : wp (sSet m g) ρ μ k (tk := tk0) = wm m ρ μ k.X fun d μ => wg (g d ρ μ) k.N := wp_set_i ..
theorem wg_nm_i (i : Nat) (d : D) (P : Env → Store → Prop) : wg (gNm i d ρ μ) P = P (ρ.set i (some d)) μ := Eq.trans rfl rfl
@[simp, simp ↓] theorem wg_nm (i : Nat) (d : D) (P : Env → Store → Prop) {tk0 : Tok P} : wg (gNm i d ρ μ) P (tk := tk0) = P (ρ.set i (some d)) μ := wg_nm_i ..
theorem wg_snil_i (ds : List D) (P : Env → Store → Prop) : wg (gsNil ds ρ μ) P = (match ds with | [] => P ρ μ | _ => False) := by cases ds <;> rfl
@[simp, simp ↓] theorem wg_snil (ds : List D) (P : Env → Store → Prop) {tk0 : Tok P} : wg (gsNil ds ρ μ) P (tk := tk0) = (match ds with | [] => P ρ μ | _ => False) := wg_snil_i ..
theorem wg_scons_i (g : Tg) (gs : List D → S) (ds : List D) (P : Env → Store → Prop) : wg (gsCons g gs ds ρ μ) P = (match ds with | d :: r => wg (g d ρ μ) fun ρ μ => wg (gs r ρ μ) P | [] => False) := by
  cases ds with
  | nil => rfl
  | cons d r =>
    show wg (sSeq (g d) (gs r) ρ μ) P = wg (g d ρ μ) fun ρ μ => wg (gs r ρ μ) P
    unfold sSeq
    cases g d ρ μ <;> rfl
@[simp, simp ↓] theorem wg_scons (g : Tg) (gs : List D → S) (ds : List D) (P : Env → Store → Prop) {tk0 : Tok P} : wg (gsCons g gs ds ρ μ) P (tk := tk0) = (match ds with | d :: r => wg (g d ρ μ) fun ρ μ => wg (gs r ρ μ) P | [] => False) := wg_scons_i ..
theorem wg_tup0 (n : Nat) (gs : List D → S) (d : D) (P : Env → Store → Prop) : wg (gTupD n gs d ρ μ) P = (match seqD μ d with | some ds => if ds.length = n then wg (gs ds ρ μ) P else False | none => False) := by
  unfold gTupD
  cases seqD μ d with
  | none => rfl
  | some ds => simp only; split <;> rfl
theorem wg_tup_i (n : Nat) (gs : List D → S) (d : D) (P : Env → Store → Prop) : wg (gTupD n gs d ρ μ) P = (match seqD μ d with | some ds => ds.length = n ∧ wg (gs ds ρ μ) P | none => False) := by
  rw [wg_tup0]
  cases seqD μ d with
  | none => rfl
  | some ds => exact ite_and
@[simp, simp ↓] theorem wg_tup (n : Nat) (gs : List D → S) (d : D) (P : Env → Store → Prop) {tk0 : Tok P} : wg (gTupD n gs d ρ μ) P (tk := tk0) = (match seqD μ d with | some ds => ds.length = n ∧ wg (gs ds ρ μ) P | none => False) := wg_tup_i ..
theorem wp_par_i (i j : Nat) (m : M (List D)) : wp (sPar i j m) ρ μ k = wm m ρ μ k.X fun ds μ => match ds with
    | [a, b] => k.N ((ρ.set i (some a)).set j (some b)) μ
    | _ => False := by
  unfold sPar
  rw [wp_e]
  refine wo_c fun ds μ => ?_
  match ds with
  | [] => rfl
  | [_] => rfl
  | [_, _] => rfl
  | _ :: _ :: _ :: _ => rfl
@[simp, simp ↓] theorem wp_par (i j : Nat) (m : M (List D)) {tk0 : Tok k} : wp (sPar i j m) ρ μ k (tk := tk0) = wm m ρ μ k.X fun ds μ => match ds with
    | [a, b] => k.N ((ρ.set i (some a)).set j (some b)) μ
    | _ => False := wp_par_i ..
theorem wp_par3_i (i j l : Nat) (m : M (List D)) : wp (sPar3 i j l m) ρ μ k = wm m ρ μ k.X fun ds μ => match ds with
    | [a, b, c] => k.N (((ρ.set i (some a)).set j (some b)).set l (some c)) μ
    | _ => False := by
  unfold sPar3
  rw [wp_e]
  refine wo_c fun ds μ => ?_
  match ds with
  | [] => rfl
  | [_] => rfl
  | [_, _] => rfl
  | [_, _, _] => rfl
  | _ :: _ :: _ :: _ :: _ => rfl
@[simp, simp ↓] theorem wp_par3 (i j l : Nat) (m : M (List D)) {tk0 : Tok k} : wp (sPar3 i j l m) ρ μ k (tk := tk0) = wm m ρ μ k.X fun ds μ => match ds with
    | [a, b, c] => k.N (((ρ.set i (some a)).set j (some b)).set l (some c)) μ
    | _ => False := wp_par3_i ..
theorem wp_fld0 (c f : Str) (mv mo : M D) : wp (sFldD c f mv mo) ρ μ k = wm mv ρ μ k.X fun d μ => wm mo ρ μ k.X fun o μ => match o with
    | .ptr n => match insAt μ c n with
      | some fs => if fs.length < 1000 then k.N ρ (μ.set n (.ins c (putD f d fs))) else False
      | none => False
    | _ => False := by
  unfold sFldD
  rw [wp_e]
  refine wo_c fun d μ => ?_
  rw [wp_e]
  refine wo_c fun o μ => ?_
  cases o with
  | ptr n =>
    unfold wp
    simp only
    cases insAt μ c n with
    | none => rfl
    | some fs => simp only; split <;> rfl
  | _ => rfl
theorem wp_fld_i (c f : Str) (mv mo : M D) : wp (sFldD c f mv mo) ρ μ k = wm mv ρ μ k.X fun d μ => wm mo ρ μ k.X fun o μ => match o with
    | .ptr n => match insAt μ c n with
      | some fs => fs.length < 1000 ∧ k.N ρ (μ.set n (.ins c (putD f d fs)))
      | none => False
    | _ => False := by
  rw [wp_fld0]
  refine wm_cc fun d μ => wm_cc fun o μ => ?_
  cases o with
  | ptr n =>
    simp only
    cases insAt μ c n with
    | none => rfl
    | some fs => exact ite_and
  | _ => rfl
@[simp, simp ↓] theorem wp_fld (c f : Str) (mv mo : M D) {tk0 : Tok k} : wp (sFldD c f mv mo) ρ μ k (tk := tk0) = wm mv ρ μ k.X fun d μ => wm mo ρ μ k.X fun o μ => match o with
    | .ptr n => match insAt μ c n with
      | some fs => fs.length < 1000 ∧ k.N ρ (μ.set n (.ins c (putD f d fs)))
      | none => False
    | _ => False := wp_fld_i ..
/-- a for loop: I what stands before the rest -/
theorem wp_for {wi : M Src} {g : Tg} {b : S} (I : List D → Env → Store → Prop)
    (h : wm wi ρ μ k.X fun s μ => I s.items ρ μ ∧ (∀ l ρ μ, I l ρ μ → s.ok μ)) (hs : ∀ d l ρ μ, I (d :: l) ρ μ → wg (g d ρ μ) fun ρ μ => wp b ρ μ { k with N := fun ρ μ => I l ρ μ, C := fun ρ μ => I l ρ μ, B := k.N })
    (he : ∀ ρ μ, I [] ρ μ → k.N ρ μ) : wp (sFor wi g b) ρ μ k := by
  unfold sFor
  rw [wp_e]
  unfold wm at h ⊢
  cases e : wi ρ μ with
  | no => rw [e] at h; exact h
  | ex c fs μ => rw [e] at h; exact h
  | ok p =>
    obtain ⟨s, μ1⟩ := p
    rw [e] at h
    obtain ⟨h1, hok⟩ := h
    have key : ∀ (l : List D) (ρ : Env) (μ : Store), I l ρ μ → wp (forGo s g b l) ρ μ k := by
      intro l
      induction l with
      | nil =>
        intro ρ μ hI
        show ws (forGo s g b [] ρ μ) k
        simp only [forGo, if_pos (hok _ _ _ hI)]
        exact he ρ μ hI
      | cons d l ih =>
        intro ρ μ hI
        show ws (forGo s g b (d :: l) ρ μ) k
        simp only [forGo, if_pos (hok _ _ _ hI)]
        have q := hs d l ρ μ hI
        cases eg : g d ρ μ with
        | nx ρ1 μ1 =>
          rw [eg] at q
          simp only [only]
          have q : ws (b ρ1 μ1) _ := q
          cases eb : b ρ1 μ1 with
          | nx ρ2 μ2 => rw [eb] at q; exact ih ρ2 μ2 q
          | ct ρ2 μ2 => rw [eb] at q; exact ih ρ2 μ2 q
          | bk ρ2 μ2 => rw [eb] at q; exact q
          | rt d μ2 => rw [eb] at q; exact q
          | ex c fs ρ2 μ2 => rw [eb] at q; exact q
          | no => rw [eb] at q; exact q
        | _ => rw [eg] at q; exact q.elim
    exact key _ _ _ h1
/-- a while loop: I before each test, f falls -/
theorem wp_while {c : M Bool} {b : S} (I : Env → Store → Prop) (f : Env → Store → Nat) (h : I ρ μ)
    (hs : ∀ ρ μ, I ρ μ → wm c ρ μ k.X fun t μ1 => br (t = true) (wp b ρ μ1 { k with N := fun ρ' μ' => I ρ' μ' ∧ f ρ' μ' < f ρ μ, C := fun ρ' μ' => I ρ' μ' ∧ f ρ' μ' < f ρ μ, B := k.N }) (k.N ρ μ1)) : wp (sWhile c b) ρ μ k := by
  have key : ∀ (n : Nat) (ρ : Env) (μ : Store), I ρ μ → f ρ μ < n → ws (whileN c b n ρ μ) k := by
    intro n
    induction n with
    | zero => intro ρ μ _ h; omega
    | succ n ih =>
      intro ρ μ hI hn
      have q := hs ρ μ hI
      unfold wm at q
      simp only [whileN]
      cases ec : c ρ μ with
      | no => rw [ec] at q; exact q.elim
      | ex c fs μ => rw [ec] at q; exact q
      | ok p =>
        obtain ⟨t, μ1⟩ := p
        rw [ec] at q
        cases t with
        | false => replace q := q.2 Bool.false_ne_true; exact q
        | true =>
          replace q := q.1 rfl
          have q : ws (b ρ μ1) _ := q
          simp only
          cases eb : b ρ μ1 with
          | nx ρ2 μ2 => rw [eb] at q; exact ih ρ2 μ2 q.1 (by have := q.2; omega)
          | ct ρ2 μ2 => rw [eb] at q; exact ih ρ2 μ2 q.1 (by have := q.2; omega)
          | bk ρ2 μ2 => rw [eb] at q; exact q
          | rt d μ2 => rw [eb] at q; exact q
          | ex c fs ρ2 μ2 => rw [eb] at q; exact q
          | no => rw [eb] at q; exact q
  have q := key (f ρ μ + 1) ρ μ h (by omega)
  have mono : ∀ (n m : Nat) (ρ : Env) (μ : Store), n ≤ m → whileN c b n ρ μ ≠ .no → whileN c b m ρ μ = whileN c b n ρ μ := by
    intro n
    induction n with
    | zero => intro m ρ μ _ hn; exact absurd rfl hn
    | succ n ih =>
      intro m ρ μ hm hn
      obtain ⟨m, rfl⟩ : ∃ m', m = m' + 1 := ⟨m - 1, by omega⟩
      simp only [whileN] at hn ⊢
      cases ec : c ρ μ with
      | no => rfl
      | ex _ _ _ => rfl
      | ok p =>
        obtain ⟨t, μ1⟩ := p
        rw [ec] at hn
        cases t with
        | false => rfl
        | true =>
          simp only at hn ⊢
          cases eb : b ρ μ1 with
          | nx ρ2 μ2 => rw [eb] at hn; exact ih m ρ2 μ2 (by omega) hn
          | ct ρ2 μ2 => rw [eb] at hn; exact ih m ρ2 μ2 (by omega) hn
          | _ => rfl
  show ws (sWhile c b ρ μ) k
  unfold sWhile
  have hne : whileN c b (f ρ μ + 1) ρ μ ≠ .no := fun z => by rw [z] at q; exact q
  have hex : ∃ n, whileN c b n ρ μ ≠ .no := ⟨_, hne⟩
  rw [dif_pos hex]
  have e : whileN c b hex.choose ρ μ = whileN c b (f ρ μ + 1) ρ μ := by
    rcases Nat.le_total hex.choose (f ρ μ + 1) with hle | hle
    · exact (mono _ _ ρ μ hle hex.choose_spec).symm
    · exact mono _ _ ρ μ hle hne
  rw [e]
  exact q
/-- a comprehension: I what stands before the rest, acc what is made -/
theorem wm_lc {X : XP} {wi : M Src} {vs : List Nat} {g : Tg} {t : M Bool} {e : M D} {P : D → Store → Prop} (I : List D → List D → Store → Prop)
    (h : wm wi ρ μ X fun s μ => I s.items [] (μ ++ [.lst []]) ∧ (∀ l acc μ', I l acc μ' → s.ok μ' ∧ lstAt μ' μ.length = some acc) ∧
      (∀ d l acc μ', I (d :: l) acc μ' → wg (g d (wipeD ρ vs) μ') fun ρ1 μ1 => wm t ρ1 μ1 X0 fun c μ2 => br (c = true) (wm e ρ1 μ2 X0 fun y μ3 => match lstAt μ3 μ.length with
        | some a => a.length < 16777216 ∧ I l (a ++ [y]) (μ3.set μ.length (.lst (a ++ [y])))
        | none => False) (I l acc μ2)) ∧ ∀ acc μ', I [] acc μ' → P (.ptr μ.length) μ') : wm (mLc wi vs g t e) ρ μ X P := by
  unfold wm at h ⊢
  unfold mLc
  cases ew : wi ρ μ with
  | no => rw [ew] at h; exact h
  | ex c fs μ => rw [ew] at h; exact h
  | ok p =>
    obtain ⟨s, μ0⟩ := p
    rw [ew] at h
    obtain ⟨h1, hok, hs, he⟩ := h
    simp only [Out.bind_ok]
    have key : ∀ (l acc : List D) (μ' : Store), I l acc μ' → ∃ acc2 μ2, lcGo s μ0.length g t e (wipeD ρ vs) l μ' = .ok μ2 ∧ I [] acc2 μ2 := by
      intro l
      induction l with
      | nil =>
        intro acc μ' hI
        exact ⟨acc, μ', by simp only [lcGo, if_pos (hok _ _ _ hI).1], hI⟩
      | cons d l ih =>
        intro acc μ' hI
        simp only [lcGo, if_pos (hok _ _ _ hI).1]
        have q := hs d l acc μ' hI
        cases eg : g d (wipeD ρ vs) μ' with
        | nx ρ1 μ1 =>
          rw [eg] at q
          have q : wm t ρ1 μ1 X0 _ := q
          unfold wm at q
          simp only [only]
          cases et : t ρ1 μ1 with
          | no => rw [et] at q; exact q.elim
          | ex c fs μ => rw [et] at q; exact q.elim
          | ok p =>
            obtain ⟨c, μ2⟩ := p
            rw [et] at q
            simp only at q ⊢
            cases c with
            | false => replace q := q.2 Bool.false_ne_true; exact ih acc μ2 q
            | true =>
              replace q := q.1 rfl
              simp only [if_true]
              cases ee : e ρ1 μ2 with
              | no => rw [ee] at q; exact q.elim
              | ex c fs μ => rw [ee] at q; exact q.elim
              | ok p =>
                obtain ⟨y, μ3⟩ := p
                rw [ee] at q
                simp only at q ⊢
                cases el : lstAt μ3 μ0.length with
                | none => rw [el] at q; exact q.elim
                | some a =>
                  rw [el] at q
                  simp only at q ⊢
                  rw [if_pos q.1]
                  exact ih _ _ q.2
        | _ => rw [eg] at q; exact q.elim
    obtain ⟨acc2, μ2, e1, e2⟩ := key _ _ _ h1
    rw [e1]
    exact he acc2 μ2 e2
end
/-! ### defs that touch nothing -/
mutual
theorem mapD_np (r : Bool) (h : Nat → Option D) : ∀ d : D, noPtr d = true → mapD r h d = some d
  | .non, _ => rfl
  | .bl _, _ => rfl
  | .int _, _ => rfl
  | .str _, _ => rfl
  | .raw _, _ => rfl
  | .ptr _, n => by simp [noPtr] at n
  | .rol _, n => by simp [noPtr] at n
  | .kst _, n => by simp [noPtr] at n
  | .tup ds, n => by simp [mapD, mapDs_np r h ds (by simpa [noPtr] using n)]
  | .lam L cl us ds, n => by simp [mapD, mapDs_np r h ds (by simpa [noPtr] using n)]
theorem mapDs_np (r : Bool) (h : Nat → Option D) : ∀ ds : List D, noPtr.noPtrs ds = true → mapDs r h ds = some ds
  | [], _ => rfl
  | d :: ds, n => by
    simp only [noPtr.noPtrs, Bool.and_eq_true] at n
    simp [mapDs, mapD_np r h d n.1, mapDs_np r h ds n.2]
end
theorem wo_pure {F : List D → Store → Out (D × Store)} {ds : List D} {μ : Store} {P : D → Store → Prop} (hp : noPtr.noPtrs ds = true) (h : wo (F ds []) X0 fun d _ => noPtr d = true ∧ P d μ) : wo (pureF F ds μ) X0 P := by
  unfold pureF
  simp only [mapDs_np true _ ds hp]
  unfold wo at h
  cases e : F ds [] with
  | no => rw [e] at h; exact h.elim
  | ex c fs μ => rw [e] at h; exact h.elim
  | ok p =>
    obtain ⟨d, μ'⟩ := p
    rw [e] at h
    simp only at h ⊢
    rw [mapD_np _ _ d h.1]
    exact h.2
/-- .. as an equation -/
theorem pure_eq {F : List D → Store → Out (D × Store)} {ds : List D} {v : D} (hp : noPtr.noPtrs ds = true) (hv : noPtr v = true) (h : wo (F ds []) X0 fun d _ => d = v) (μ : Store) : pureF F ds μ = .ok (v, μ) := by
  unfold pureF
  simp only [mapDs_np true _ ds hp]
  unfold wo at h
  cases e : F ds [] with
  | no => rw [e] at h; exact h.elim
  | ex c fs μ => rw [e] at h; exact h.elim
  | ok p =>
    obtain ⟨d, μ'⟩ := p
    rw [e] at h
    have h : d = v := h
    subst h
    simp only [mapD_np _ _ d hv]
/-- .. with lists among what is handed in, or in what comes back -/
theorem pure_eqR {F : List D → Store → Out (D × Store)} {ds es : List D} {v : D} {μ : Store} (hp : mapDs true (frzH true 0 μ 4) ds = some es) (h : wo (F es []) X0 fun d ν => mapD false (frzH false 0 ν 4) d = some v) : pureF F ds μ = .ok (v, μ) := by
  unfold pureF
  simp only [hp]
  unfold wo at h
  cases e : F es [] with
  | no => rw [e] at h; exact h.elim
  | ex c fs μ => rw [e] at h; exact h.elim
  | ok p =>
    obtain ⟨d, μ'⟩ := p
    rw [e] at h
    have h : mapD false _ d = some v := h
    simp only [h]
end DL

-- DL13
set_option Elab.async false
set_option linter.all false
set_option maxRecDepth 100000
set_option maxHeartbeats 2000000
/-! DL13: operations on plain shapes; the store's looks. -/
namespace DL
open PySem
open L2 (atI ixN)
section
variable {μ : Store} {i j : Int} {n m : Nat} {a b : List D} {x y : Str}
@[simp] theorem intD0_int (f : Int → Int → D) : intD0 f (.int i) (.int j) μ = some (f i j, μ) := rfl
@[simp] theorem intD_int (C : Int → Int → Prop) [∀ i j, Decidable (C i j)] (f : Int → Int → D) : intD C f (.int i) (.int j) μ = if C i j then some (f i j, μ) else none := rfl
@[simp] theorem addD_int : addD (.int i) (.int j) μ = some (.int (i + j), μ) := rfl
@[simp] theorem addD_str : addD (.str x) (.str y) μ = if x.length + y.length ≤ 16777216 then some (.str (x ++ y), μ) else none := rfl
@[simp] theorem addD_tup : addD (.tup a) (.tup b) μ = if a.length + b.length ≤ 16777216 then some (.tup (a ++ b), μ) else none := rfl
@[simp] theorem negD_int : negD (.int i) μ = some (.int (-i), μ) := rfl
@[simp] theorem seqD_tup : seqD μ (.tup a) = some a := rfl
@[simp] theorem seqD_rol : seqD μ (.rol a) = some a := rfl
@[simp] theorem seqD_ptr : seqD μ (.ptr n) = lstAt μ n := rfl
@[simp] theorem srcD_tup : srcD μ (.tup a) = some ⟨a, []⟩ := rfl
@[simp] theorem srcD_rol : srcD μ (.rol a) = some ⟨a, []⟩ := rfl
@[simp] theorem srcD_str : srcD μ (.str x) = some ⟨signsD x, []⟩ := rfl
@[simp] theorem srcD_ptr : srcD μ (.ptr n) = (match lstAt μ n with | some ds => some ⟨ds, [(n, ds)]⟩ | none => none) := rfl
@[simp] theorem ok_nil (ds : List D) : Src.ok ⟨ds, []⟩ μ := fun p hp => by cases hp
theorem ok_one (ds : List D) {n : Nat} {gs : List D} : Src.ok ⟨ds, [(n, gs)]⟩ μ ↔ lstAt μ n = some gs := ⟨fun h => h (n, gs) (by simp), fun h p hp => by rw [List.mem_singleton.mp hp]; exact h⟩
@[simp] theorem truD_bl (k : Bool) : truD μ (.bl k) = some k := rfl
@[simp] theorem truD_int : truD μ (.int i) = some (i != 0) := rfl
@[simp] theorem truD_tup : truD μ (.tup a) = some (!a.isEmpty) := rfl
@[simp] theorem truD_non : truD μ .non = some false := rfl
@[simp] theorem lenD_tup : lenD [.tup a] μ = some (.int a.length, μ) := rfl
@[simp] theorem lenD_rol : lenD [.rol a] μ = some (.int a.length, μ) := rfl
@[simp] theorem lenD_str : lenD [.str x] μ = if x.length ≤ 16777216 then some (.int x.length, μ) else none := rfl
@[simp] theorem lenD_ptr : lenD [.ptr n] μ = (match lstAt μ n with | some ds => some (.int ds.length, μ) | none => none) := rfl
@[simp] theorem isiD_int (T : String) : isiD T (.int i) μ = some (.bl (isT "int" T), μ) := rfl
@[simp] theorem isiD_bl (T : String) (k : Bool) : isiD T (.bl k) μ = some (.bl (isT "bool" T), μ) := rfl
@[simp] theorem isiD_str (T : String) : isiD T (.str x) μ = some (.bl (isT "str" T), μ) := rfl
@[simp] theorem isiD_tup (T : String) : isiD T (.tup a) μ = some (.bl (isT "tuple" T), μ) := rfl
@[simp] theorem isiD_non (T : String) : isiD T .non μ = some (.bl (isT "NoneType" T), μ) := rfl
@[simp] theorem isT_1 : isT "int" "int" = true := by decide
@[simp] theorem isT_2 : isT "int" "bool" = false := by decide
@[simp] theorem isT_3 : isT "int" "str" = false := by decide
@[simp] theorem isT_4 : isT "int" "tuple" = false := by decide
@[simp] theorem isT_5 : isT "str" "str" = true := by decide
@[simp] theorem isT_6 : isT "str" "tuple" = false := by decide
@[simp] theorem isT_7 : isT "str" "int" = false := by decide
@[simp] theorem isT_8 : isT "str" "bool" = false := by decide
@[simp] theorem isT_9 : isT "tuple" "tuple" = true := by decide
@[simp] theorem isT_10 : isT "tuple" "str" = false := by decide
@[simp] theorem isT_11 : isT "tuple" "int" = false := by decide
@[simp] theorem isT_12 : isT "tuple" "bool" = false := by decide
@[simp] theorem isT_13 : isT "bool" "bool" = true := by decide
@[simp] theorem isT_14 : isT "bool" "int" = true := by decide
@[simp] theorem isT_15 : isT "bool" "tuple" = false := by decide
@[simp] theorem isT_16 : isT "bool" "str" = false := by decide
@[simp] theorem isT_17 : isT "NoneType" "int" = false := by decide
@[simp] theorem isT_18 : isT "NoneType" "bool" = false := by decide
@[simp] theorem isT_19 : isT "NoneType" "str" = false := by decide
@[simp] theorem isT_20 : isT "NoneType" "tuple" = false := by decide
@[simp] theorem eqD_int : eqD (.int i) (.int j) μ = some (.bl (i == j), μ) := rfl
@[simp] theorem eqD_str : eqD (.str x) (.str y) μ = some (.bl (x == y), μ) := rfl
@[simp] theorem eqD_bl (k l : Bool) : eqD (.bl k) (.bl l) μ = some (.bl (k == l), μ) := rfl
@[simp] theorem neD_int : neD (.int i) (.int j) μ = some (.bl (!(i == j)), μ) := rfl
@[simp] theorem neD_str : neD (.str x) (.str y) μ = some (.bl (!(x == y)), μ) := rfl
@[simp] theorem isD_non (d : D) : isD d .non μ = some (.bl (isNon d), μ) := by cases d <;> rfl
@[simp] theorem slD_tup (lo hi : Option Int) : slD (.tup a) lo hi μ = some (.tup (cutD a lo hi), μ) := rfl
@[simp] theorem slD_rol (lo hi : Option Int) : slD (.rol a) lo hi μ = some (.ptr μ.length, μ ++ [.lst (cutD a lo hi)]) := rfl
@[simp] theorem slD_ptr (lo hi : Option Int) : slD (.ptr n) lo hi μ = (match lstAt μ n with | some ds => some (.ptr μ.length, μ ++ [.lst (cutD ds lo hi)]) | none => none) := rfl
@[simp] theorem revD_tup : revD (.tup a) μ = some (.tup a.reverse, μ) := rfl
@[simp] theorem tupleD_ptr : tupleD [.ptr n] μ = (match lstAt μ n with | some ds => some (.tup ds, μ) | none => none) := rfl
@[simp] theorem tupleD_tup : tupleD [.tup a] μ = some (.tup a, μ) := rfl
@[simp] theorem ixD_tup : ixD (.tup a) (.int i) μ = (atI a i).map fun d => (d, μ) := rfl
theorem ixD_lst {ds : List D} (h : lstAt μ n = some ds) : ixD (.ptr n) (.int i) μ = (atI ds i).map fun d => (d, μ) := by
  unfold ixD ixB
  simp only [seqD_ptr, h]
@[simp] theorem max2D_int : max2D [.int i, .int j] μ = some (.int (if j > i then j else i), μ) := rfl
@[simp] theorem min2D_int : min2D [.int i, .int j] μ = some (.int (if j < i then j else i), μ) := rfl
@[simp] theorem appendD_ptr (d : D) : appendD (.ptr n) [d] μ = (match lstAt μ n with | some ds => if ds.length < 16777216 then some (.non, μ.set n (.lst (ds ++ [d]))) else none | none => none) := rfl
@[simp] theorem tyList_ptr : tyList μ (.ptr n) = (lstAt μ n).isSome := rfl
theorem atI_nat (ds : List D) (n : Nat) : atI ds (n : Int) = ds[n]? := by
  unfold atI L2.ixN
  by_cases h : n < ds.length
  · simp [h]
  · simp [h]
@[simp] theorem atI_zero (d : D) (ds : List D) : atI (d :: ds) 0 = some d := by
  have := atI_nat (d :: ds) 0
  simpa using this
@[simp] theorem atI_one (d e : D) (ds : List D) : atI (d :: e :: ds) 1 = some e := by
  have := atI_nat (d :: e :: ds) 1
  simpa using this
@[simp] theorem atI_two (d e f : D) (ds : List D) : atI (d :: e :: f :: ds) 2 = some f := by
  have := atI_nat (d :: e :: f :: ds) 2
  simpa using this
@[simp] theorem atI_three (d e f g : D) (ds : List D) : atI (d :: e :: f :: g :: ds) 3 = some g := by
  have := atI_nat (d :: e :: f :: g :: ds) 3
  simpa using this
/-! ### the store -/
@[simp] theorem lstAt_new (o : MO) : lstAt (μ ++ [o]) μ.length = (match o with | .lst ds => some ds | _ => none) := by
  unfold lstAt
  simp
  cases o <;> rfl
theorem lstAt_old {o : MO} (h : n < μ.length) : lstAt (μ ++ [o]) n = lstAt μ n := by
  unfold lstAt
  rw [List.getElem?_append_left h]
theorem lstAt_lt {ds : List D} (h : lstAt μ n = some ds) : n < μ.length := (List.getElem?_eq_some_iff.mp (@lstAt_eq ⟨[]⟩ _ _ _ h)).1
theorem lstAt_set {ds : List D} (h : n < μ.length) : lstAt (μ.set n (.lst ds)) n = some ds := by
  unfold lstAt
  rw [List.getElem?_set_self h]
theorem lstAt_set_ne {o : MO} (h : m ≠ n) : lstAt (μ.set m o) n = lstAt μ n := by
  unfold lstAt
  rw [List.getElem?_set_ne h]
theorem insAt_old {o : MO} {c : Str} (h : n < μ.length) : insAt (μ ++ [o]) c n = insAt μ c n := by
  unfold insAt
  rw [List.getElem?_append_left h]
theorem insAt_set_ne {o : MO} {c : Str} (h : m ≠ n) : insAt (μ.set m o) c n = insAt μ c n := by
  unfold insAt
  rw [List.getElem?_set_ne h]
end
/-! ### slices of tuples -/
theorem sIx_none0 (n d : Nat) : HT.sIx n d none = d := rfl
theorem cut_to (l : List D) (n : Nat) : cutD l none (some (n : Int)) = l.take n := by
  unfold cutD
  rw [HT.sIx_nat, HT.sIx_none, Nat.sub_zero, List.drop_zero]
  by_cases h : n ≤ l.length
  · rw [Nat.min_eq_left h]
  · rw [Nat.min_eq_right (by omega), List.take_of_length_le (by omega), List.take_of_length_le (by omega)]
theorem cut_from (l : List D) (n : Nat) : cutD l (some (n : Int)) none = l.drop n := by
  unfold cutD
  rw [HT.sIx_nat, HT.sIx_none]
  by_cases h : n ≤ l.length
  · rw [Nat.min_eq_left h, List.take_of_length_le (by rw [List.length_drop]; omega)]
  · rw [Nat.min_eq_right (by omega), List.drop_of_length_le (by omega), List.drop_of_length_le (by omega)]
    simp
theorem cut_fromto (l : List D) (n m : Nat) : cutD l (some (n : Int)) (some (m : Int)) = (l.drop n).take (m - n) := by
  unfold cutD
  rw [HT.sIx_nat, HT.sIx_nat]
  by_cases h : n ≤ l.length
  · rw [Nat.min_eq_left h]
    by_cases h2 : m ≤ l.length
    · rw [Nat.min_eq_left h2]
    · rw [Nat.min_eq_right (by omega), List.take_of_length_le (by rw [List.length_drop]; omega), List.take_of_length_le (by rw [List.length_drop]; omega)]
  · rw [Nat.min_eq_right (by omega : l.length ≤ n), List.drop_of_length_le (by omega), List.drop_of_length_le (by omega)]
    simp
/-! ### a comprehension whose parts touch nothing -/
theorem wm_lcP {ρ : Env} {μ : Store} {X : XP} {wi : M Src} {vs : List Nat} {g : Tg} {t : M Bool} {e : M D} {P : D → Store → Prop} (f : D → Option D)
    (h : wm wi ρ μ X fun s μ => s.ok μ ∧ s.items.length < 16777216 ∧
      (∀ d ∈ s.items, ∀ μ', wg (g d (wipeD ρ vs) μ') fun ρ1 μ1 => wm t ρ1 μ1 X0 fun c μ2 => br (c = true) (wm e ρ1 μ2 X0 fun y μ3 => μ3 = μ' ∧ f d = some y) (μ2 = μ' ∧ f d = none)) ∧
      P (.ptr μ.length) (μ ++ [.lst (s.items.filterMap f)])) : wm (mLc wi vs g t e) ρ μ X P := by
  unfold wm at h
  cases ew : wi ρ μ with
  | no => rw [ew] at h; exact h.elim
  | ex c fs μ1 =>
    rw [ew] at h
    unfold wm mLc
    rw [ew]
    exact h
  | ok p =>
    obtain ⟨s, μ0⟩ := p
    rw [ew] at h
    obtain ⟨hok, hlen, hs, hP⟩ := h
    refine Eq.mp (congrArg (fun o => wo o X P) (show (mLc wi vs g t e) ρ μ = (mLc (fun _ μ => .ok (s, μ)) vs g t e) ρ μ0 by simp only [mLc, ew, Out.bind_ok])).symm ?_
    show wm (mLc (fun _ μ => .ok (s, μ)) vs g t e) ρ μ0 X P
    refine wm_lc (fun l acc μ' => μ' = μ0 ++ [.lst acc] ∧ ∃ done, s.items = done ++ l ∧ acc = done.filterMap f) ?_
    show _ ∧ _ ∧ _ ∧ _
    refine ⟨⟨rfl, [], rfl, rfl⟩, ?_, ?_, ?_⟩
    · rintro l acc μ' ⟨rfl, _⟩
      refine ⟨fun p hp => ?_, by simp⟩
      have q := hok p hp
      rw [lstAt_old (lstAt_lt q)]
      exact q
    · rintro d l acc μ' ⟨rfl, done, hd, rfl⟩
      have hm : d ∈ s.items := by rw [hd]; simp
      have q := hs d hm (μ0 ++ [.lst (done.filterMap f)])
      have hl : done.length + (l.length + 1) < 16777216 := by rw [hd] at hlen; simpa using hlen
      have hl2 := List.length_filterMap_le f done
      unfold wg at q ⊢
      cases eg : g d (wipeD ρ vs) (μ0 ++ [.lst (done.filterMap f)]) with
      | nx ρ1 μ1 =>
        rw [eg] at q
        simp only at q ⊢
        refine wo_imp (o := t ρ1 μ1) q (fun c μ2 q => ?_) fun _ _ _ z => z
        cases c with
        | true =>
          replace q := q.1 rfl
          refine br_of (fun _ => ?_) (fun n => absurd rfl n)
          refine wo_imp (o := e ρ1 μ2) q (fun y μ3 q => ?_) fun _ _ _ z => z
          obtain ⟨rfl, ef⟩ := q
          simp only [lstAt_new]
          refine ⟨by omega, ?_, done ++ [d], by simp [hd], by simp [List.filterMap_append, ef]⟩
          simp
        | false =>
          replace q := q.2 Bool.false_ne_true
          refine br_of (fun z => nomatch z) (fun _ => ?_)
          obtain ⟨rfl, ef⟩ := q
          exact ⟨rfl, done ++ [d], by simp [hd], by simp [List.filterMap_append, ef]⟩
      | _ => rw [eg] at q; exact q.elim
    · rintro acc μ' ⟨rfl, done, hd, rfl⟩
      rw [hd, List.append_nil] at hP
      exact hP
@[simp] theorem wipeD_nil (ρ : Env) : wipeD ρ [] = ρ := rfl
@[simp] theorem wipeD_cons (ρ : Env) (v : Nat) (vs : List Nat) : wipeD ρ (v :: vs) = (wipeD ρ vs).set v none := rfl
/-! ### flat lists -/
theorem flat_strs (l : List Str) : (l.map D.str).all flatD = true := by simp [flatD]
theorem inD_strs {l : List Str} {x : Str} {n : Nat} {μ : Store} (h : lstAt μ n = some (l.map D.str)) : inD (.str x) (.ptr n) μ = some (.bl (decide (x ∈ l)), μ) := by
  unfold inD inB
  simp only [seqD_ptr, h]
  rw [flat_strs]
  simp only [flatD, Bool.and_self, if_true, Option.map_some]
  congr 3
  rw [List.any_map]
  by_cases hx : x ∈ l
  · rw [decide_eq_true hx, List.any_eq_true]
    exact ⟨x, hx, by simp [eqF]⟩
  · rw [decide_eq_false hx, List.any_eq_false]
    intro y hy
    simp [eqF]
    rintro rfl
    exact hx hy
theorem indexD_strs {pre post : List Str} {x : Str} {n : Nat} {μ : Store} (h : lstAt μ n = some ((pre ++ x :: post).map D.str)) (hx : x ∉ pre) : indexD (.ptr n) [.str x] μ = some (.int pre.length, μ) := by
  unfold indexD lstOf
  simp only [h]
  rw [flat_strs]
  simp only [flatD, Bool.and_self, if_true]
  have e : List.findIdx? (fun d => eqF d (.str x)) ((pre ++ x :: post).map D.str) = some pre.length := by
    rw [List.findIdx?_eq_some_iff_getElem]
    refine ⟨by simp, by simp [eqF], fun j hj => ?_⟩
    simp only [List.getElem_map, eqF]
    rw [List.getElem_append_left hj]
    simp
    intro e
    exact hx (e ▸ List.getElem_mem hj)
  rw [e]
end DL

-- DL14
set_option Elab.async false
set_option linter.all false
set_option maxRecDepth 100000
set_option maxHeartbeats 2000000
/-! DL14: what is forgotten, read forwards; loops and comprehensions over encoded lists. -/
namespace DL
open PySem
open L2 (atI ixN)
/-! ### mapD on plain shapes -/
section
variable {r : Bool} {h : Nat → Option D} {α : Type}
@[simp] theorem mapD_non : mapD r h .non = some .non := rfl
@[simp] theorem mapD_bl (b : Bool) : mapD r h (.bl b) = some (.bl b) := rfl
@[simp] theorem mapD_int (i : Int) : mapD r h (.int i) = some (.int i) := rfl
@[simp] theorem mapD_str (x : Str) : mapD r h (.str x) = some (.str x) := rfl
@[simp] theorem mapD_tup (ds : List D) : mapD r h (.tup ds) = (mapDs r h ds).map .tup := rfl
@[simp] theorem mapD_rol (ds : List D) : mapD true h (.rol ds) = (mapDs true h ds).map .rol := by simp [mapD]
@[simp] theorem mapD_ptr (n : Nat) : mapD r h (.ptr n) = h n := rfl
@[simp] theorem mapDs_nil : mapDs r h [] = some [] := rfl
@[simp] theorem mapDs_cons (d : D) (ds : List D) : mapDs r h (d :: ds) = (match mapD r h d, mapDs r h ds with | some a, some b => some (a :: b) | _, _ => none) := rfl
@[simp] theorem mapFs_nil : mapFs r h [] = some [] := rfl
@[simp] theorem mapFs_cons (f : Str) (d : D) (ds : List (Str × D)) : mapFs r h ((f, d) :: ds) = (match mapD r h d, mapFs r h ds with | some a, some b => some ((f, a) :: b) | _, _ => none) := rfl
@[simp] theorem mapFs_one (f : Str) (d : D) : mapFs r h [(f, d)] = (mapD r h d).map fun a => [(f, a)] := by
  simp only [mapFs]; cases mapD r h d <;> rfl
theorem mapDs_map {f g : α → D} {l : List α} (e : ∀ a ∈ l, mapD r h (f a) = some (g a)) : mapDs r h (l.map f) = some (l.map g) := by
  induction l with
  | nil => rfl
  | cons a l ih =>
    simp only [List.map_cons, mapDs, e a (by simp), ih fun b hb => e b (by simp [hb])]
theorem mapDs_id {l : List D} (e : ∀ a ∈ l, mapD r h a = some a) : mapDs r h l = some l := by
  have := mapDs_map (r := r) (h := h) (f := id) (g := id) (l := l) e
  simpa using this
@[simp] theorem mapDs_append (a b : List D) : mapDs r h (a ++ b) = (match mapDs r h a, mapDs r h b with | some x, some y => some (x ++ y) | _, _ => none) := by
  induction a with
  | nil => simp only [List.nil_append, mapDs_nil]; cases mapDs r h b <;> rfl
  | cons d a ih =>
    simp only [List.cons_append, mapDs_cons, ih]
    cases mapD r h d with
    | none => simp
    | some x =>
      cases mapDs r h a with
      | none => simp
      | some y => cases mapDs r h b <;> simp
end
/-! ### data without pointers: lists may be frozen -/
mutual
/-- no pointer stands in it -/
def fz : D → Bool
  | .ptr _ => false
  | .tup ds => fzs ds
  | .rol ds => fzs ds
  | .kst ds => fzs ds
  | .lam _ _ _ ds => fzs ds
  | _ => true
def fzs : List D → Bool
  | [] => true
  | d :: ds => fz d && fzs ds
end
@[simp] theorem fz_non : fz .non = true := rfl
@[simp] theorem fz_bl (b : Bool) : fz (.bl b) = true := rfl
@[simp] theorem fz_int (i : Int) : fz (.int i) = true := rfl
@[simp] theorem fz_str (x : Str) : fz (.str x) = true := rfl
@[simp] theorem fz_tup (ds : List D) : fz (.tup ds) = fzs ds := rfl
@[simp] theorem fz_rol (ds : List D) : fz (.rol ds) = fzs ds := rfl
@[simp] theorem fzs_nil : fzs [] = true := rfl
@[simp] theorem fzs_cons (d : D) (ds : List D) : fzs (d :: ds) = (fz d && fzs ds) := rfl
theorem fzs_all (ds : List D) : fzs ds = ds.all fz := by
  induction ds with
  | nil => rfl
  | cons d ds ih => simp [ih]
@[simp] theorem fzs_append (a b : List D) : fzs (a ++ b) = (fzs a && fzs b) := by simp [fzs_all]
theorem fzs_map {α : Type} {f : α → D} {l : List α} (e : ∀ a ∈ l, fz (f a) = true) : fzs (l.map f) = true := by
  rw [fzs_all, List.all_map, List.all_eq_true]; exact e
@[simp] theorem fzs_ints (l : List Int) : fzs (l.map D.int) = true := fzs_map fun _ _ => rfl
@[simp] theorem fzs_strs (l : List Str) : fzs (l.map D.str) = true := fzs_map fun _ _ => rfl
mutual
theorem mapD_fz (h : Nat → Option D) : ∀ d : D, fz d = true → mapD true h d = some d
  | .non, _ => rfl
  | .bl _, _ => rfl
  | .int _, _ => rfl
  | .str _, _ => rfl
  | .raw _, _ => rfl
  | .ptr _, n => by simp [fz] at n
  | .rol ds, n => by simp [mapD, mapDs_fz h ds (by simpa [fz] using n)]
  | .kst ds, n => by simp [mapD, mapDs_fz h ds (by simpa [fz] using n)]
  | .tup ds, n => by simp [mapD, mapDs_fz h ds (by simpa [fz] using n)]
  | .lam L cl us ds, n => by simp [mapD, mapDs_fz h ds (by simpa [fz] using n)]
theorem mapDs_fz (h : Nat → Option D) : ∀ ds : List D, fzs ds = true → mapDs true h ds = some ds
  | [], _ => rfl
  | d :: ds, n => by
    simp only [fzs, Bool.and_eq_true] at n
    simp [mapDs, mapD_fz h d n.1, mapDs_fz h ds n.2]
end
mutual
theorem fz_np : ∀ d : D, noPtr d = true → fz d = true
  | .non, _ => rfl
  | .bl _, _ => rfl
  | .int _, _ => rfl
  | .str _, _ => rfl
  | .raw _, _ => rfl
  | .ptr _, n => by simp [noPtr] at n
  | .rol ds, n => by simp [noPtr] at n
  | .kst ds, n => by simp [noPtr] at n
  | .tup ds, n => by simp only [fz]; exact fzs_np ds (by simpa [noPtr] using n)
  | .lam L cl us ds, n => by simp only [fz]; exact fzs_np ds (by simpa [noPtr] using n)
theorem fzs_np : ∀ ds : List D, noPtr.noPtrs ds = true → fzs ds = true
  | [], _ => rfl
  | d :: ds, n => by
    simp only [noPtr.noPtrs, Bool.and_eq_true] at n
    simp [fz_np d n.1, fzs_np ds n.2]
end
@[simp] theorem fzs_take {ds : List D} (n : Nat) (h : fzs ds = true) : fzs (ds.take n) = true := by
  rw [fzs_all, List.all_eq_true] at h ⊢
  exact fun d hd => h d (List.mem_of_mem_take hd)
@[simp] theorem fzs_drop {ds : List D} (n : Nat) (h : fzs ds = true) : fzs (ds.drop n) = true := by
  rw [fzs_all, List.all_eq_true] at h ⊢
  exact fun d hd => h d (List.mem_of_mem_drop hd)
@[simp] theorem fzs_dropLast {ds : List D} (h : fzs ds = true) : fzs ds.dropLast = true := by
  rw [fzs_all, List.all_eq_true] at h ⊢
  exact fun d hd => h d ((List.dropLast_sublist ds).subset hd)
@[simp] theorem fzs_reverse {ds : List D} : fzs ds.reverse = fzs ds := by simp [fzs_all]
@[simp] theorem fzs_takeI (l : List Int) (n : Nat) : fzs ((l.map D.int).take n) = true := fzs_take n (fzs_ints l)
@[simp] theorem fzs_dropI (l : List Int) (n : Nat) : fzs ((l.map D.int).drop n) = true := fzs_drop n (fzs_ints l)
@[simp] theorem fzs_tdI (l : List Int) (n m : Nat) : fzs (((l.map D.int).drop m).take n) = true := fzs_take n (fzs_drop m (fzs_ints l))
@[simp] theorem fzs_dlI (l : List Int) : fzs (l.map D.int).dropLast = true := fzs_dropLast (fzs_ints l)
@[simp] theorem mapDs_fzS {f : Nat → Option D} {ds : List D} (h : fzs ds = true) : mapDs true f ds = some ds := mapDs_fz f ds h
@[simp] theorem mapD_fzS {f : Nat → Option D} {d : D} (h : fz d = true) : mapD true f d = some d := mapD_fz f d h
/-! ### the store's end is forgotten -/
theorem frzH_lt {r : Bool} {L : Nat} {μ : Store} {f n : Nat} (h : n < L) : frzH r L μ f n = some (.ptr n) := by
  cases f <;> simp [frzH, h]
theorem frzH_new {r : Bool} {L : Nat} {μ : Store} {f n : Nat} {ds : List D} (h : L ≤ n) (e : lstAt μ n = some ds) : frzH r L μ (f + 1) n = (mapDs r (frzH r L μ f) ds).map .rol := by
  simp [frzH, Nat.not_lt.mpr h, e]
theorem gcL_same (h : Nat → Option D) (μ : Store) (r : Store) : gcL h μ (μ ++ r) = some μ := by
  induction μ with
  | nil => simp [gcL]
  | cons o μ ih => simp [gcL, ih]
@[simp] theorem gcS_app (μ r : Store) : gcS 0 μ (μ ++ r) = some μ := by
  unfold gcS
  rw [gcL_same]
  simp [mapO]
@[simp] theorem gcS_same (μ : Store) : gcS 0 μ μ = some μ := by
  have := gcS_app μ []
  simpa using this
theorem gcS_keep {k : Nat} {μ r s : Store} (h : mapO (gcO (frzH true (μ.length + k) (μ ++ r) 4)) (r.take k) = some s) : gcS k μ (μ ++ r) = some (μ ++ s) := by
  unfold gcS
  rw [gcL_same]
  simp [h]
theorem gcL_set {h : Nat → Option D} {μ r : Store} {n : Nat} {o o' : MO} (ho : gcO h o = some o') (hne : μ[n]? ≠ some o ∨ o' = o) : gcL h μ (μ.set n o ++ r) = some (μ.set n o') := by
  induction μ generalizing n with
  | nil => simp [gcL]
  | cons x μ ih =>
    cases n with
    | zero =>
      simp only [List.set_cons_zero, List.cons_append, gcL, gcL_same]
      by_cases e : o = x
      · rw [if_pos e]
        rcases hne with hne | hne
        · simp [e] at hne
        · rw [hne, e]
      · rw [if_neg e, ho]
    | succ n =>
      simp only [List.set_cons_succ, List.cons_append, gcL, if_true]
      rw [ih (by simpa using hne)]
theorem gcS_set {μ r : Store} {n : Nat} {o o' : MO} (ho : gcO (frzH true μ.length (μ.set n o ++ r) 4) o = some o') (hne : μ[n]? ≠ some o ∨ o' = o) : gcS 0 μ (μ.set n o ++ r) = some (μ.set n o') := by
  unfold gcS
  rw [Nat.add_zero, gcL_set ho hne]
  simp [mapO]
theorem gcS_setI {μ r : Store} {n : Nat} {ds : List D} (h : fzs ds = true) : gcS 0 μ (μ.set n (.lst ds) ++ r) = some (μ.set n (.lst ds)) :=
  gcS_set (by simp [gcO, mapDs_fz _ ds h]) (.inr rfl)
theorem gcS_setI0 {μ : Store} {n : Nat} {ds : List D} (h : fzs ds = true) : gcS 0 μ (μ.set n (.lst ds)) = some (μ.set n (.lst ds)) := by
  have := gcS_setI (μ := μ) (r := []) (n := n) h
  simpa using this
/-! ### wp -/
def gcP (k : Nat) (μ : Store) (P : D → Store → Prop) [tk : Tok P] (d : D) (ν : Store) : Prop := match mapD true (frzH true (μ.length + k) ν 4) d, gcS k μ ν with
  | some d', some ν' => P d' ν'
  | _, _ => False
def gcX (k : Nat) (μ : Store) (X : XP) : XP := fun c fs ν => match mapFs true (frzH true (μ.length + k) ν 4) fs, gcS k μ ν with
  | some fs', some ν' => X c fs' ν'
  | _, _ => False
@[simp] theorem gcX_X0 (k : Nat) (μ : Store) : gcX k μ X0 = X0 := by
  funext c fs ν
  unfold gcX X0
  split <;> rfl
theorem wo_gc (k : Nat) (μ : Store) (o : Out (D × Store)) (X : XP) (P : D → Store → Prop) : wo (gcOut k μ o) X P = wo o (gcX k μ X) (gcP k μ P) := by
  cases o with
  | ok p =>
    obtain ⟨d, ν⟩ := p
    simp only [gcOut, wo, gcP]
    cases mapD true (frzH true (μ.length + k) ν 4) d <;> cases gcS k μ ν <;> rfl
  | ex c fs ν =>
    simp only [gcOut, wo, gcX]
    cases mapFs true (frzH true (μ.length + k) ν 4) fs <;> cases gcS k μ ν <;> rfl
  | no => rfl
theorem wo_gcF_i (k : Nat) (m : List D → Store → Out (D × Store)) (ds : List D) (μ : Store) (X : XP) (P : D → Store → Prop) : wo (gcF k m ds μ) X P = wo (m ds μ) (gcX k μ X) (gcP k μ P) := wo_gc k μ _ X P
@[simp, simp ↓] theorem wo_gcF (k : Nat) (m : List D → Store → Out (D × Store)) (ds : List D) (μ : Store) (X : XP) (P : D → Store → Prop) {tk0 : Tok P} : wo (gcF k m ds μ) X P (tk := tk0) = wo (m ds μ) (gcX k μ X) (gcP k μ P) := wo_gcF_i ..
theorem wm_gc_i (m : M D) (ρ : DL.Env) (μ : Store) (X : XP) (P : D → Store → Prop) : wm (mGc m) ρ μ X P = wm m ρ μ (gcX 0 μ X) (gcP 0 μ P) := wo_gc 0 μ _ X P
@[simp, simp ↓] theorem wm_gc (m : M D) (ρ : DL.Env) (μ : Store) (X : XP) (P : D → Store → Prop) {tk0 : Tok P} : wm (mGc m) ρ μ X P (tk := tk0) = wm m ρ μ (gcX 0 μ X) (gcP 0 μ P) := wm_gc_i ..
section
variable {μ r : Store} {P : D → Store → Prop} {d : D}
theorem gcP_of {k : Nat} {ν ν' : Store} {d' : D} (h1 : mapD true (frzH true (μ.length + k) ν 4) d = some d') (h2 : gcS k μ ν = some ν') (h3 : P d' ν') : gcP k μ P d ν := by
  unfold gcP
  rw [h1, h2]
  exact h3
theorem gcP_app (h : fz d = true) : gcP 0 μ P d (μ ++ r) = P d μ := by
  unfold gcP
  rw [mapD_fz _ d h, gcS_app]
theorem gcP_same (h : fz d = true) : gcP 0 μ P d μ = P d μ := by
  unfold gcP
  rw [mapD_fz _ d h, gcS_same]
theorem gcP_int_i (i : Int) : gcP 0 μ P (.int i) μ = P (.int i) μ := gcP_same rfl
@[simp, simp ↓] theorem gcP_int (i : Int) {tk0 : Tok P} : gcP 0 μ P (tk := tk0) (.int i) μ = P (.int i) μ := gcP_int_i ..
theorem gcP_bl_i (i : Bool) : gcP 0 μ P (.bl i) μ = P (.bl i) μ := gcP_same rfl
@[simp, simp ↓] theorem gcP_bl (i : Bool) {tk0 : Tok P} : gcP 0 μ P (tk := tk0) (.bl i) μ = P (.bl i) μ := gcP_bl_i ..
theorem gcP_non_i : gcP 0 μ P .non μ = P .non μ := gcP_same rfl
@[simp, simp ↓] theorem gcP_non {tk0 : Tok P} : gcP 0 μ P (tk := tk0) .non μ = P .non μ := gcP_non_i ..
theorem gcP_str_i (i : Str) : gcP 0 μ P (.str i) μ = P (.str i) μ := gcP_same rfl
@[simp, simp ↓] theorem gcP_str (i : Str) {tk0 : Tok P} : gcP 0 μ P (tk := tk0) (.str i) μ = P (.str i) μ := gcP_str_i ..
theorem gcP_inta_i (i : Int) : gcP 0 μ P (.int i) (μ ++ r) = P (.int i) μ := gcP_app rfl
@[simp, simp ↓] theorem gcP_inta (i : Int) {tk0 : Tok P} : gcP 0 μ P (tk := tk0) (.int i) (μ ++ r) = P (.int i) μ := gcP_inta_i ..
theorem gcP_bla_i (i : Bool) : gcP 0 μ P (.bl i) (μ ++ r) = P (.bl i) μ := gcP_app rfl
@[simp, simp ↓] theorem gcP_bla (i : Bool) {tk0 : Tok P} : gcP 0 μ P (tk := tk0) (.bl i) (μ ++ r) = P (.bl i) μ := gcP_bla_i ..
@[simp, simp ↓] theorem gcP_stra (x : Str) (P : D → Store → Prop) {tk0 : Tok P} : gcP 0 μ P (tk := tk0) (.str x) (μ ++ r) = P (.str x) μ := gcP_app rfl
theorem gcP_stra_i (x : Str) : gcP 0 μ P (.str x) (μ ++ r) = P (.str x) μ := gcP_app rfl
theorem gcP_nona_i : gcP 0 μ P .non (μ ++ r) = P .non μ := gcP_app rfl
@[simp, simp ↓] theorem gcP_nona {tk0 : Tok P} : gcP 0 μ P (tk := tk0) .non (μ ++ r) = P .non μ := gcP_nona_i ..
theorem gcP_tup_i (ds : List D) : gcP 0 μ P (.tup ds) μ = (match mapDs true (frzH true μ.length μ 4) ds with | some es => P (.tup es) μ | none => False) := by
  unfold gcP
  simp only [mapD_tup, Nat.add_zero, gcS_same]
  cases mapDs true (frzH true μ.length μ 4) ds <;> rfl
@[simp, simp ↓] theorem gcP_tup (ds : List D) {tk0 : Tok P} : gcP 0 μ P (tk := tk0) (.tup ds) μ = (match mapDs true (frzH true μ.length μ 4) ds with | some es => P (.tup es) μ | none => False) := gcP_tup_i ..
theorem gcP_tupa_i (ds : List D) : gcP 0 μ P (.tup ds) (μ ++ r) = (match mapDs true (frzH true μ.length (μ ++ r) 4) ds with | some es => P (.tup es) μ | none => False) := by
  unfold gcP
  simp only [mapD_tup, Nat.add_zero, gcS_app]
  cases mapDs true (frzH true μ.length (μ ++ r) 4) ds <;> rfl
@[simp, simp ↓] theorem gcP_tupa (ds : List D) {tk0 : Tok P} : gcP 0 μ P (tk := tk0) (.tup ds) (μ ++ r) = (match mapDs true (frzH true μ.length (μ ++ r) 4) ds with | some es => P (.tup es) μ | none => False) := gcP_tupa_i ..
theorem gcP_rol_i (ds : List D) : gcP 0 μ P (.rol ds) μ = (match mapDs true (frzH true μ.length μ 4) ds with | some es => P (.rol es) μ | none => False) := by
  unfold gcP
  simp only [mapD_rol, Nat.add_zero, gcS_same]
  cases mapDs true (frzH true μ.length μ 4) ds <;> rfl
@[simp, simp ↓] theorem gcP_rol (ds : List D) {tk0 : Tok P} : gcP 0 μ P (tk := tk0) (.rol ds) μ = (match mapDs true (frzH true μ.length μ 4) ds with | some es => P (.rol es) μ | none => False) := gcP_rol_i ..
theorem gcP_rola_i (ds : List D) : gcP 0 μ P (.rol ds) (μ ++ r) = (match mapDs true (frzH true μ.length (μ ++ r) 4) ds with | some es => P (.rol es) μ | none => False) := by
  unfold gcP
  simp only [mapD_rol, Nat.add_zero, gcS_app]
  cases mapDs true (frzH true μ.length (μ ++ r) 4) ds <;> rfl
@[simp, simp ↓] theorem gcP_rola (ds : List D) {tk0 : Tok P} : gcP 0 μ P (tk := tk0) (.rol ds) (μ ++ r) = (match mapDs true (frzH true μ.length (μ ++ r) 4) ds with | some es => P (.rol es) μ | none => False) := gcP_rola_i ..
/-- a new list -/
theorem gcP_new_i (ds : List D) : gcP 0 μ P (.ptr μ.length) (μ ++ [.lst ds]) = (match mapDs true (frzH true μ.length (μ ++ [.lst ds]) 3) ds with | some es => P (.rol es) μ | none => False) := by
  unfold gcP
  simp only [mapD_ptr, Nat.add_zero, gcS_app]
  rw [frzH_new (Nat.le_refl _) (show lstAt (μ ++ [MO.lst ds]) μ.length = some ds by simp)]
  cases mapDs true (frzH true μ.length (μ ++ [.lst ds]) 3) ds <;> rfl
@[simp, simp ↓] theorem gcP_new (ds : List D) {tk0 : Tok P} : gcP 0 μ P (tk := tk0) (.ptr μ.length) (μ ++ [.lst ds]) = (match mapDs true (frzH true μ.length (μ ++ [.lst ds]) 3) ds with | some es => P (.rol es) μ | none => False) := gcP_new_i ..
@[simp, simp ↓] theorem gcP_newL {n : Nat} (ds : List D) (P : D → Store → Prop) {tk0 : Tok P} (h : μ.length = n) : gcP 0 μ P (tk := tk0) (.ptr n) (μ ++ [.lst ds]) = (match mapDs true (frzH true n (μ ++ [.lst ds]) 3) ds with | some es => P (.rol es) μ | none => False) := by
  subst h
  exact gcP_new_i ..
@[simp, simp ↓] theorem gcP_newM1 {m : Nat} (a0 : MO) (ds : List D) (P : D → Store → Prop) {tk0 : Tok P} (h : μ.length + 1 = m) : gcP 0 (μ ++ [a0]) P (tk := tk0) (.ptr m) (μ ++ [a0, .lst ds]) = (match mapDs true (frzH true m (μ ++ [a0, .lst ds]) 3) ds with | some es => P (.rol es) (μ ++ [a0]) | none => False) := by
  have e : μ ++ [a0, .lst ds] = (μ ++ [a0]) ++ [.lst ds] := by simp
  rw [e]
  exact gcP_newL (μ := μ ++ [a0]) ds P (by simpa using h)
@[simp, simp ↓] theorem gcP_intM1 (a0 : MO) (i : Int) (P : D → Store → Prop) {tk0 : Tok P} : gcP 0 (μ ++ [a0]) P (tk := tk0) (.int i) (μ ++ a0 :: r) = P (.int i) (μ ++ [a0]) := by
  have e : μ ++ a0 :: r = (μ ++ [a0]) ++ r := by simp
  rw [e]
  exact gcP_inta_i (μ := μ ++ [a0]) ..
@[simp, simp ↓] theorem gcP_blM1 (a0 : MO) (i : Bool) (P : D → Store → Prop) {tk0 : Tok P} : gcP 0 (μ ++ [a0]) P (tk := tk0) (.bl i) (μ ++ a0 :: r) = P (.bl i) (μ ++ [a0]) := by
  have e : μ ++ a0 :: r = (μ ++ [a0]) ++ r := by simp
  rw [e]
  exact gcP_bla_i (μ := μ ++ [a0]) ..
@[simp, simp ↓] theorem gcP_strM1 (a0 : MO) (i : Str) (P : D → Store → Prop) {tk0 : Tok P} : gcP 0 (μ ++ [a0]) P (tk := tk0) (.str i) (μ ++ a0 :: r) = P (.str i) (μ ++ [a0]) := by
  have e : μ ++ a0 :: r = (μ ++ [a0]) ++ r := by simp
  rw [e]
  exact gcP_stra_i (μ := μ ++ [a0]) ..
@[simp, simp ↓] theorem gcP_nonM1 (a0 : MO)  (P : D → Store → Prop) {tk0 : Tok P} : gcP 0 (μ ++ [a0]) P (tk := tk0) (.non) (μ ++ a0 :: r) = P (.non) (μ ++ [a0]) := by
  have e : μ ++ a0 :: r = (μ ++ [a0]) ++ r := by simp
  rw [e]
  exact gcP_nona_i (μ := μ ++ [a0]) ..
@[simp, simp ↓] theorem gcP_tupM1 (a0 : MO) (ds : List D) (P : D → Store → Prop) {tk0 : Tok P} : gcP 0 (μ ++ [a0]) P (tk := tk0) (.tup ds) (μ ++ a0 :: r) = (match mapDs true (frzH true (μ ++ [a0]).length (μ ++ a0 :: r) 4) ds with | some es => P (.tup es) (μ ++ [a0]) | none => False) := by
  have e : μ ++ a0 :: r = (μ ++ [a0]) ++ r := by simp
  rw [e]
  exact gcP_tupa_i (μ := μ ++ [a0]) ..
@[simp, simp ↓] theorem gcP_rolM1 (a0 : MO) (ds : List D) (P : D → Store → Prop) {tk0 : Tok P} : gcP 0 (μ ++ [a0]) P (tk := tk0) (.rol ds) (μ ++ a0 :: r) = (match mapDs true (frzH true (μ ++ [a0]).length (μ ++ a0 :: r) 4) ds with | some es => P (.rol es) (μ ++ [a0]) | none => False) := by
  have e : μ ++ a0 :: r = (μ ++ [a0]) ++ r := by simp
  rw [e]
  exact gcP_rola_i (μ := μ ++ [a0]) ..
@[simp, simp ↓] theorem gcP_newM2 {m : Nat} (a0 a1 : MO) (ds : List D) (P : D → Store → Prop) {tk0 : Tok P} (h : μ.length + 2 = m) : gcP 0 (μ ++ [a0, a1]) P (tk := tk0) (.ptr m) (μ ++ [a0, a1, .lst ds]) = (match mapDs true (frzH true m (μ ++ [a0, a1, .lst ds]) 3) ds with | some es => P (.rol es) (μ ++ [a0, a1]) | none => False) := by
  have e : μ ++ [a0, a1, .lst ds] = (μ ++ [a0, a1]) ++ [.lst ds] := by simp
  rw [e]
  exact gcP_newL (μ := μ ++ [a0, a1]) ds P (by simpa using h)
@[simp, simp ↓] theorem gcP_intM2 (a0 a1 : MO) (i : Int) (P : D → Store → Prop) {tk0 : Tok P} : gcP 0 (μ ++ [a0, a1]) P (tk := tk0) (.int i) (μ ++ a0 :: a1 :: r) = P (.int i) (μ ++ [a0, a1]) := by
  have e : μ ++ a0 :: a1 :: r = (μ ++ [a0, a1]) ++ r := by simp
  rw [e]
  exact gcP_inta_i (μ := μ ++ [a0, a1]) ..
@[simp, simp ↓] theorem gcP_blM2 (a0 a1 : MO) (i : Bool) (P : D → Store → Prop) {tk0 : Tok P} : gcP 0 (μ ++ [a0, a1]) P (tk := tk0) (.bl i) (μ ++ a0 :: a1 :: r) = P (.bl i) (μ ++ [a0, a1]) := by
  have e : μ ++ a0 :: a1 :: r = (μ ++ [a0, a1]) ++ r := by simp
  rw [e]
  exact gcP_bla_i (μ := μ ++ [a0, a1]) ..
@[simp, simp ↓] theorem gcP_strM2 (a0 a1 : MO) (i : Str) (P : D → Store → Prop) {tk0 : Tok P} : gcP 0 (μ ++ [a0, a1]) P (tk := tk0) (.str i) (μ ++ a0 :: a1 :: r) = P (.str i) (μ ++ [a0, a1]) := by
  have e : μ ++ a0 :: a1 :: r = (μ ++ [a0, a1]) ++ r := by simp
  rw [e]
  exact gcP_stra_i (μ := μ ++ [a0, a1]) ..
@[simp, simp ↓] theorem gcP_nonM2 (a0 a1 : MO)  (P : D → Store → Prop) {tk0 : Tok P} : gcP 0 (μ ++ [a0, a1]) P (tk := tk0) (.non) (μ ++ a0 :: a1 :: r) = P (.non) (μ ++ [a0, a1]) := by
  have e : μ ++ a0 :: a1 :: r = (μ ++ [a0, a1]) ++ r := by simp
  rw [e]
  exact gcP_nona_i (μ := μ ++ [a0, a1]) ..
@[simp, simp ↓] theorem gcP_tupM2 (a0 a1 : MO) (ds : List D) (P : D → Store → Prop) {tk0 : Tok P} : gcP 0 (μ ++ [a0, a1]) P (tk := tk0) (.tup ds) (μ ++ a0 :: a1 :: r) = (match mapDs true (frzH true (μ ++ [a0, a1]).length (μ ++ a0 :: a1 :: r) 4) ds with | some es => P (.tup es) (μ ++ [a0, a1]) | none => False) := by
  have e : μ ++ a0 :: a1 :: r = (μ ++ [a0, a1]) ++ r := by simp
  rw [e]
  exact gcP_tupa_i (μ := μ ++ [a0, a1]) ..
@[simp, simp ↓] theorem gcP_rolM2 (a0 a1 : MO) (ds : List D) (P : D → Store → Prop) {tk0 : Tok P} : gcP 0 (μ ++ [a0, a1]) P (tk := tk0) (.rol ds) (μ ++ a0 :: a1 :: r) = (match mapDs true (frzH true (μ ++ [a0, a1]).length (μ ++ a0 :: a1 :: r) 4) ds with | some es => P (.rol es) (μ ++ [a0, a1]) | none => False) := by
  have e : μ ++ a0 :: a1 :: r = (μ ++ [a0, a1]) ++ r := by simp
  rw [e]
  exact gcP_rola_i (μ := μ ++ [a0, a1]) ..
@[simp, simp ↓] theorem gcP_newM3 {m : Nat} (a0 a1 a2 : MO) (ds : List D) (P : D → Store → Prop) {tk0 : Tok P} (h : μ.length + 3 = m) : gcP 0 (μ ++ [a0, a1, a2]) P (tk := tk0) (.ptr m) (μ ++ [a0, a1, a2, .lst ds]) = (match mapDs true (frzH true m (μ ++ [a0, a1, a2, .lst ds]) 3) ds with | some es => P (.rol es) (μ ++ [a0, a1, a2]) | none => False) := by
  have e : μ ++ [a0, a1, a2, .lst ds] = (μ ++ [a0, a1, a2]) ++ [.lst ds] := by simp
  rw [e]
  exact gcP_newL (μ := μ ++ [a0, a1, a2]) ds P (by simpa using h)
@[simp, simp ↓] theorem gcP_intM3 (a0 a1 a2 : MO) (i : Int) (P : D → Store → Prop) {tk0 : Tok P} : gcP 0 (μ ++ [a0, a1, a2]) P (tk := tk0) (.int i) (μ ++ a0 :: a1 :: a2 :: r) = P (.int i) (μ ++ [a0, a1, a2]) := by
  have e : μ ++ a0 :: a1 :: a2 :: r = (μ ++ [a0, a1, a2]) ++ r := by simp
  rw [e]
  exact gcP_inta_i (μ := μ ++ [a0, a1, a2]) ..
@[simp, simp ↓] theorem gcP_blM3 (a0 a1 a2 : MO) (i : Bool) (P : D → Store → Prop) {tk0 : Tok P} : gcP 0 (μ ++ [a0, a1, a2]) P (tk := tk0) (.bl i) (μ ++ a0 :: a1 :: a2 :: r) = P (.bl i) (μ ++ [a0, a1, a2]) := by
  have e : μ ++ a0 :: a1 :: a2 :: r = (μ ++ [a0, a1, a2]) ++ r := by simp
  rw [e]
  exact gcP_bla_i (μ := μ ++ [a0, a1, a2]) ..
@[simp, simp ↓] theorem gcP_strM3 (a0 a1 a2 : MO) (i : Str) (P : D → Store → Prop) {tk0 : Tok P} : gcP 0 (μ ++ [a0, a1, a2]) P (tk := tk0) (.str i) (μ ++ a0 :: a1 :: a2 :: r) = P (.str i) (μ ++ [a0, a1, a2]) := by
  have e : μ ++ a0 :: a1 :: a2 :: r = (μ ++ [a0, a1, a2]) ++ r := by simp
  rw [e]
  exact gcP_stra_i (μ := μ ++ [a0, a1, a2]) ..
@[simp, simp ↓] theorem gcP_nonM3 (a0 a1 a2 : MO)  (P : D → Store → Prop) {tk0 : Tok P} : gcP 0 (μ ++ [a0, a1, a2]) P (tk := tk0) (.non) (μ ++ a0 :: a1 :: a2 :: r) = P (.non) (μ ++ [a0, a1, a2]) := by
  have e : μ ++ a0 :: a1 :: a2 :: r = (μ ++ [a0, a1, a2]) ++ r := by simp
  rw [e]
  exact gcP_nona_i (μ := μ ++ [a0, a1, a2]) ..
@[simp, simp ↓] theorem gcP_tupM3 (a0 a1 a2 : MO) (ds : List D) (P : D → Store → Prop) {tk0 : Tok P} : gcP 0 (μ ++ [a0, a1, a2]) P (tk := tk0) (.tup ds) (μ ++ a0 :: a1 :: a2 :: r) = (match mapDs true (frzH true (μ ++ [a0, a1, a2]).length (μ ++ a0 :: a1 :: a2 :: r) 4) ds with | some es => P (.tup es) (μ ++ [a0, a1, a2]) | none => False) := by
  have e : μ ++ a0 :: a1 :: a2 :: r = (μ ++ [a0, a1, a2]) ++ r := by simp
  rw [e]
  exact gcP_tupa_i (μ := μ ++ [a0, a1, a2]) ..
@[simp, simp ↓] theorem gcP_rolM3 (a0 a1 a2 : MO) (ds : List D) (P : D → Store → Prop) {tk0 : Tok P} : gcP 0 (μ ++ [a0, a1, a2]) P (tk := tk0) (.rol ds) (μ ++ a0 :: a1 :: a2 :: r) = (match mapDs true (frzH true (μ ++ [a0, a1, a2]).length (μ ++ a0 :: a1 :: a2 :: r) 4) ds with | some es => P (.rol es) (μ ++ [a0, a1, a2]) | none => False) := by
  have e : μ ++ a0 :: a1 :: a2 :: r = (μ ++ [a0, a1, a2]) ++ r := by simp
  rw [e]
  exact gcP_rola_i (μ := μ ++ [a0, a1, a2]) ..
theorem gcP_new0_i (ds : List D) : gcP 0 [] P (.ptr 0) [.lst ds] = (match mapDs true (frzH true 0 [.lst ds] 3) ds with | some es => P (.rol es) [] | none => False) := gcP_new (μ := []) ds
@[simp, simp ↓] theorem gcP_new0 (ds : List D) {tk0 : Tok P} : gcP 0 [] P (tk := tk0) (.ptr 0) [.lst ds] = (match mapDs true (frzH true 0 [.lst ds] 3) ds with | some es => P (.rol es) [] | none => False) := gcP_new0_i ..
theorem gcP_int0_i (i : Int) : gcP 0 [] P (.int i) (r) = P (.int i) [] := gcP_app (μ := []) rfl
@[simp, simp ↓] theorem gcP_int0 (i : Int) {tk0 : Tok P} : gcP 0 [] P (tk := tk0) (.int i) (r) = P (.int i) [] := gcP_int0_i ..
theorem gcP_bl0_i (i : Bool) : gcP 0 [] P (.bl i) (r) = P (.bl i) [] := gcP_app (μ := []) rfl
@[simp, simp ↓] theorem gcP_bl0 (i : Bool) {tk0 : Tok P} : gcP 0 [] P (tk := tk0) (.bl i) (r) = P (.bl i) [] := gcP_bl0_i ..
theorem gcP_str0_i (i : Str) : gcP 0 [] P (.str i) (r) = P (.str i) [] := gcP_app (μ := []) rfl
@[simp, simp ↓] theorem gcP_str0 (i : Str) {tk0 : Tok P} : gcP 0 [] P (tk := tk0) (.str i) (r) = P (.str i) [] := gcP_str0_i ..
theorem gcP_non0_i  : gcP 0 [] P (.non) (r) = P (.non) [] := gcP_app (μ := []) rfl
@[simp, simp ↓] theorem gcP_non0  {tk0 : Tok P} : gcP 0 [] P (tk := tk0) (.non) (r) = P (.non) [] := gcP_non0_i ..
theorem gcP_tup0_i (ds : List D) : gcP 0 [] P (.tup ds) (r) = (match mapDs true (frzH true 0 (r) 4) ds with | some es => P (.tup es) [] | none => False) := gcP_tupa (μ := []) ds
@[simp, simp ↓] theorem gcP_tup0 (ds : List D) {tk0 : Tok P} : gcP 0 [] P (tk := tk0) (.tup ds) (r) = (match mapDs true (frzH true 0 (r) 4) ds with | some es => P (.tup es) [] | none => False) := gcP_tup0_i ..
theorem gcP_rol0_i (ds : List D) : gcP 0 [] P (.rol ds) (r) = (match mapDs true (frzH true 0 (r) 4) ds with | some es => P (.rol es) [] | none => False) := gcP_rola (μ := []) ds
@[simp, simp ↓] theorem gcP_rol0 (ds : List D) {tk0 : Tok P} : gcP 0 [] P (tk := tk0) (.rol ds) (r) = (match mapDs true (frzH true 0 (r) 4) ds with | some es => P (.rol es) [] | none => False) := gcP_rol0_i ..
theorem gcP_new1_i (a0 : MO) (ds : List D) : gcP 0 [a0] P (.ptr 1) [a0, .lst ds] = (match mapDs true (frzH true 1 [a0, .lst ds] 3) ds with | some es => P (.rol es) [a0] | none => False) := gcP_new (μ := [a0]) ds
@[simp, simp ↓] theorem gcP_new1 (a0 : MO) (ds : List D) {tk0 : Tok P} : gcP 0 [a0] P (tk := tk0) (.ptr 1) [a0, .lst ds] = (match mapDs true (frzH true 1 [a0, .lst ds] 3) ds with | some es => P (.rol es) [a0] | none => False) := gcP_new1_i ..
theorem gcP_int1_i (a0 : MO) (i : Int) : gcP 0 [a0] P (.int i) (a0 :: r) = P (.int i) [a0] := gcP_app (μ := [a0]) rfl
@[simp, simp ↓] theorem gcP_int1 (a0 : MO) (i : Int) {tk0 : Tok P} : gcP 0 [a0] P (tk := tk0) (.int i) (a0 :: r) = P (.int i) [a0] := gcP_int1_i ..
theorem gcP_bl1_i (a0 : MO) (i : Bool) : gcP 0 [a0] P (.bl i) (a0 :: r) = P (.bl i) [a0] := gcP_app (μ := [a0]) rfl
@[simp, simp ↓] theorem gcP_bl1 (a0 : MO) (i : Bool) {tk0 : Tok P} : gcP 0 [a0] P (tk := tk0) (.bl i) (a0 :: r) = P (.bl i) [a0] := gcP_bl1_i ..
theorem gcP_str1_i (a0 : MO) (i : Str) : gcP 0 [a0] P (.str i) (a0 :: r) = P (.str i) [a0] := gcP_app (μ := [a0]) rfl
@[simp, simp ↓] theorem gcP_str1 (a0 : MO) (i : Str) {tk0 : Tok P} : gcP 0 [a0] P (tk := tk0) (.str i) (a0 :: r) = P (.str i) [a0] := gcP_str1_i ..
theorem gcP_non1_i (a0 : MO)  : gcP 0 [a0] P (.non) (a0 :: r) = P (.non) [a0] := gcP_app (μ := [a0]) rfl
@[simp, simp ↓] theorem gcP_non1 (a0 : MO)  {tk0 : Tok P} : gcP 0 [a0] P (tk := tk0) (.non) (a0 :: r) = P (.non) [a0] := gcP_non1_i ..
theorem gcP_tup1_i (a0 : MO) (ds : List D) : gcP 0 [a0] P (.tup ds) (a0 :: r) = (match mapDs true (frzH true 1 (a0 :: r) 4) ds with | some es => P (.tup es) [a0] | none => False) := gcP_tupa (μ := [a0]) ds
@[simp, simp ↓] theorem gcP_tup1 (a0 : MO) (ds : List D) {tk0 : Tok P} : gcP 0 [a0] P (tk := tk0) (.tup ds) (a0 :: r) = (match mapDs true (frzH true 1 (a0 :: r) 4) ds with | some es => P (.tup es) [a0] | none => False) := gcP_tup1_i ..
theorem gcP_rol1_i (a0 : MO) (ds : List D) : gcP 0 [a0] P (.rol ds) (a0 :: r) = (match mapDs true (frzH true 1 (a0 :: r) 4) ds with | some es => P (.rol es) [a0] | none => False) := gcP_rola (μ := [a0]) ds
@[simp, simp ↓] theorem gcP_rol1 (a0 : MO) (ds : List D) {tk0 : Tok P} : gcP 0 [a0] P (tk := tk0) (.rol ds) (a0 :: r) = (match mapDs true (frzH true 1 (a0 :: r) 4) ds with | some es => P (.rol es) [a0] | none => False) := gcP_rol1_i ..
theorem gcP_new2_i (a0 a1 : MO) (ds : List D) : gcP 0 [a0, a1] P (.ptr 2) [a0, a1, .lst ds] = (match mapDs true (frzH true 2 [a0, a1, .lst ds] 3) ds with | some es => P (.rol es) [a0, a1] | none => False) := gcP_new (μ := [a0, a1]) ds
@[simp, simp ↓] theorem gcP_new2 (a0 a1 : MO) (ds : List D) {tk0 : Tok P} : gcP 0 [a0, a1] P (tk := tk0) (.ptr 2) [a0, a1, .lst ds] = (match mapDs true (frzH true 2 [a0, a1, .lst ds] 3) ds with | some es => P (.rol es) [a0, a1] | none => False) := gcP_new2_i ..
theorem gcP_int2_i (a0 a1 : MO) (i : Int) : gcP 0 [a0, a1] P (.int i) (a0 :: a1 :: r) = P (.int i) [a0, a1] := gcP_app (μ := [a0, a1]) rfl
@[simp, simp ↓] theorem gcP_int2 (a0 a1 : MO) (i : Int) {tk0 : Tok P} : gcP 0 [a0, a1] P (tk := tk0) (.int i) (a0 :: a1 :: r) = P (.int i) [a0, a1] := gcP_int2_i ..
theorem gcP_bl2_i (a0 a1 : MO) (i : Bool) : gcP 0 [a0, a1] P (.bl i) (a0 :: a1 :: r) = P (.bl i) [a0, a1] := gcP_app (μ := [a0, a1]) rfl
@[simp, simp ↓] theorem gcP_bl2 (a0 a1 : MO) (i : Bool) {tk0 : Tok P} : gcP 0 [a0, a1] P (tk := tk0) (.bl i) (a0 :: a1 :: r) = P (.bl i) [a0, a1] := gcP_bl2_i ..
theorem gcP_str2_i (a0 a1 : MO) (i : Str) : gcP 0 [a0, a1] P (.str i) (a0 :: a1 :: r) = P (.str i) [a0, a1] := gcP_app (μ := [a0, a1]) rfl
@[simp, simp ↓] theorem gcP_str2 (a0 a1 : MO) (i : Str) {tk0 : Tok P} : gcP 0 [a0, a1] P (tk := tk0) (.str i) (a0 :: a1 :: r) = P (.str i) [a0, a1] := gcP_str2_i ..
theorem gcP_non2_i (a0 a1 : MO)  : gcP 0 [a0, a1] P (.non) (a0 :: a1 :: r) = P (.non) [a0, a1] := gcP_app (μ := [a0, a1]) rfl
@[simp, simp ↓] theorem gcP_non2 (a0 a1 : MO)  {tk0 : Tok P} : gcP 0 [a0, a1] P (tk := tk0) (.non) (a0 :: a1 :: r) = P (.non) [a0, a1] := gcP_non2_i ..
theorem gcP_tup2_i (a0 a1 : MO) (ds : List D) : gcP 0 [a0, a1] P (.tup ds) (a0 :: a1 :: r) = (match mapDs true (frzH true 2 (a0 :: a1 :: r) 4) ds with | some es => P (.tup es) [a0, a1] | none => False) := gcP_tupa (μ := [a0, a1]) ds
@[simp, simp ↓] theorem gcP_tup2 (a0 a1 : MO) (ds : List D) {tk0 : Tok P} : gcP 0 [a0, a1] P (tk := tk0) (.tup ds) (a0 :: a1 :: r) = (match mapDs true (frzH true 2 (a0 :: a1 :: r) 4) ds with | some es => P (.tup es) [a0, a1] | none => False) := gcP_tup2_i ..
theorem gcP_rol2_i (a0 a1 : MO) (ds : List D) : gcP 0 [a0, a1] P (.rol ds) (a0 :: a1 :: r) = (match mapDs true (frzH true 2 (a0 :: a1 :: r) 4) ds with | some es => P (.rol es) [a0, a1] | none => False) := gcP_rola (μ := [a0, a1]) ds
@[simp, simp ↓] theorem gcP_rol2 (a0 a1 : MO) (ds : List D) {tk0 : Tok P} : gcP 0 [a0, a1] P (tk := tk0) (.rol ds) (a0 :: a1 :: r) = (match mapDs true (frzH true 2 (a0 :: a1 :: r) 4) ds with | some es => P (.rol es) [a0, a1] | none => False) := gcP_rol2_i ..
theorem gcP_new3_i (a0 a1 a2 : MO) (ds : List D) : gcP 0 [a0, a1, a2] P (.ptr 3) [a0, a1, a2, .lst ds] = (match mapDs true (frzH true 3 [a0, a1, a2, .lst ds] 3) ds with | some es => P (.rol es) [a0, a1, a2] | none => False) := gcP_new (μ := [a0, a1, a2]) ds
@[simp, simp ↓] theorem gcP_new3 (a0 a1 a2 : MO) (ds : List D) {tk0 : Tok P} : gcP 0 [a0, a1, a2] P (tk := tk0) (.ptr 3) [a0, a1, a2, .lst ds] = (match mapDs true (frzH true 3 [a0, a1, a2, .lst ds] 3) ds with | some es => P (.rol es) [a0, a1, a2] | none => False) := gcP_new3_i ..
theorem gcP_int3_i (a0 a1 a2 : MO) (i : Int) : gcP 0 [a0, a1, a2] P (.int i) (a0 :: a1 :: a2 :: r) = P (.int i) [a0, a1, a2] := gcP_app (μ := [a0, a1, a2]) rfl
@[simp, simp ↓] theorem gcP_int3 (a0 a1 a2 : MO) (i : Int) {tk0 : Tok P} : gcP 0 [a0, a1, a2] P (tk := tk0) (.int i) (a0 :: a1 :: a2 :: r) = P (.int i) [a0, a1, a2] := gcP_int3_i ..
theorem gcP_bl3_i (a0 a1 a2 : MO) (i : Bool) : gcP 0 [a0, a1, a2] P (.bl i) (a0 :: a1 :: a2 :: r) = P (.bl i) [a0, a1, a2] := gcP_app (μ := [a0, a1, a2]) rfl
@[simp, simp ↓] theorem gcP_bl3 (a0 a1 a2 : MO) (i : Bool) {tk0 : Tok P} : gcP 0 [a0, a1, a2] P (tk := tk0) (.bl i) (a0 :: a1 :: a2 :: r) = P (.bl i) [a0, a1, a2] := gcP_bl3_i ..
theorem gcP_str3_i (a0 a1 a2 : MO) (i : Str) : gcP 0 [a0, a1, a2] P (.str i) (a0 :: a1 :: a2 :: r) = P (.str i) [a0, a1, a2] := gcP_app (μ := [a0, a1, a2]) rfl
@[simp, simp ↓] theorem gcP_str3 (a0 a1 a2 : MO) (i : Str) {tk0 : Tok P} : gcP 0 [a0, a1, a2] P (tk := tk0) (.str i) (a0 :: a1 :: a2 :: r) = P (.str i) [a0, a1, a2] := gcP_str3_i ..
theorem gcP_non3_i (a0 a1 a2 : MO)  : gcP 0 [a0, a1, a2] P (.non) (a0 :: a1 :: a2 :: r) = P (.non) [a0, a1, a2] := gcP_app (μ := [a0, a1, a2]) rfl
@[simp, simp ↓] theorem gcP_non3 (a0 a1 a2 : MO)  {tk0 : Tok P} : gcP 0 [a0, a1, a2] P (tk := tk0) (.non) (a0 :: a1 :: a2 :: r) = P (.non) [a0, a1, a2] := gcP_non3_i ..
theorem gcP_tup3_i (a0 a1 a2 : MO) (ds : List D) : gcP 0 [a0, a1, a2] P (.tup ds) (a0 :: a1 :: a2 :: r) = (match mapDs true (frzH true 3 (a0 :: a1 :: a2 :: r) 4) ds with | some es => P (.tup es) [a0, a1, a2] | none => False) := gcP_tupa (μ := [a0, a1, a2]) ds
@[simp, simp ↓] theorem gcP_tup3 (a0 a1 a2 : MO) (ds : List D) {tk0 : Tok P} : gcP 0 [a0, a1, a2] P (tk := tk0) (.tup ds) (a0 :: a1 :: a2 :: r) = (match mapDs true (frzH true 3 (a0 :: a1 :: a2 :: r) 4) ds with | some es => P (.tup es) [a0, a1, a2] | none => False) := gcP_tup3_i ..
theorem gcP_rol3_i (a0 a1 a2 : MO) (ds : List D) : gcP 0 [a0, a1, a2] P (.rol ds) (a0 :: a1 :: a2 :: r) = (match mapDs true (frzH true 3 (a0 :: a1 :: a2 :: r) 4) ds with | some es => P (.rol es) [a0, a1, a2] | none => False) := gcP_rola (μ := [a0, a1, a2]) ds
@[simp, simp ↓] theorem gcP_rol3 (a0 a1 a2 : MO) (ds : List D) {tk0 : Tok P} : gcP 0 [a0, a1, a2] P (tk := tk0) (.rol ds) (a0 :: a1 :: a2 :: r) = (match mapDs true (frzH true 3 (a0 :: a1 :: a2 :: r) 4) ds with | some es => P (.rol es) [a0, a1, a2] | none => False) := gcP_rol3_i ..
theorem gcP_new4_i (a0 a1 a2 a3 : MO) (ds : List D) : gcP 0 [a0, a1, a2, a3] P (.ptr 4) [a0, a1, a2, a3, .lst ds] = (match mapDs true (frzH true 4 [a0, a1, a2, a3, .lst ds] 3) ds with | some es => P (.rol es) [a0, a1, a2, a3] | none => False) := gcP_new (μ := [a0, a1, a2, a3]) ds
@[simp, simp ↓] theorem gcP_new4 (a0 a1 a2 a3 : MO) (ds : List D) {tk0 : Tok P} : gcP 0 [a0, a1, a2, a3] P (tk := tk0) (.ptr 4) [a0, a1, a2, a3, .lst ds] = (match mapDs true (frzH true 4 [a0, a1, a2, a3, .lst ds] 3) ds with | some es => P (.rol es) [a0, a1, a2, a3] | none => False) := gcP_new4_i ..
theorem gcP_int4_i (a0 a1 a2 a3 : MO) (i : Int) : gcP 0 [a0, a1, a2, a3] P (.int i) (a0 :: a1 :: a2 :: a3 :: r) = P (.int i) [a0, a1, a2, a3] := gcP_app (μ := [a0, a1, a2, a3]) rfl
@[simp, simp ↓] theorem gcP_int4 (a0 a1 a2 a3 : MO) (i : Int) {tk0 : Tok P} : gcP 0 [a0, a1, a2, a3] P (tk := tk0) (.int i) (a0 :: a1 :: a2 :: a3 :: r) = P (.int i) [a0, a1, a2, a3] := gcP_int4_i ..
theorem gcP_bl4_i (a0 a1 a2 a3 : MO) (i : Bool) : gcP 0 [a0, a1, a2, a3] P (.bl i) (a0 :: a1 :: a2 :: a3 :: r) = P (.bl i) [a0, a1, a2, a3] := gcP_app (μ := [a0, a1, a2, a3]) rfl
@[simp, simp ↓] theorem gcP_bl4 (a0 a1 a2 a3 : MO) (i : Bool) {tk0 : Tok P} : gcP 0 [a0, a1, a2, a3] P (tk := tk0) (.bl i) (a0 :: a1 :: a2 :: a3 :: r) = P (.bl i) [a0, a1, a2, a3] := gcP_bl4_i ..
theorem gcP_str4_i (a0 a1 a2 a3 : MO) (i : Str) : gcP 0 [a0, a1, a2, a3] P (.str i) (a0 :: a1 :: a2 :: a3 :: r) = P (.str i) [a0, a1, a2, a3] := gcP_app (μ := [a0, a1, a2, a3]) rfl
@[simp, simp ↓] theorem gcP_str4 (a0 a1 a2 a3 : MO) (i : Str) {tk0 : Tok P} : gcP 0 [a0, a1, a2, a3] P (tk := tk0) (.str i) (a0 :: a1 :: a2 :: a3 :: r) = P (.str i) [a0, a1, a2, a3] := gcP_str4_i ..
theorem gcP_non4_i (a0 a1 a2 a3 : MO)  : gcP 0 [a0, a1, a2, a3] P (.non) (a0 :: a1 :: a2 :: a3 :: r) = P (.non) [a0, a1, a2, a3] := gcP_app (μ := [a0, a1, a2, a3]) rfl
@[simp, simp ↓] theorem gcP_non4 (a0 a1 a2 a3 : MO)  {tk0 : Tok P} : gcP 0 [a0, a1, a2, a3] P (tk := tk0) (.non) (a0 :: a1 :: a2 :: a3 :: r) = P (.non) [a0, a1, a2, a3] := gcP_non4_i ..
theorem gcP_tup4_i (a0 a1 a2 a3 : MO) (ds : List D) : gcP 0 [a0, a1, a2, a3] P (.tup ds) (a0 :: a1 :: a2 :: a3 :: r) = (match mapDs true (frzH true 4 (a0 :: a1 :: a2 :: a3 :: r) 4) ds with | some es => P (.tup es) [a0, a1, a2, a3] | none => False) := gcP_tupa (μ := [a0, a1, a2, a3]) ds
@[simp, simp ↓] theorem gcP_tup4 (a0 a1 a2 a3 : MO) (ds : List D) {tk0 : Tok P} : gcP 0 [a0, a1, a2, a3] P (tk := tk0) (.tup ds) (a0 :: a1 :: a2 :: a3 :: r) = (match mapDs true (frzH true 4 (a0 :: a1 :: a2 :: a3 :: r) 4) ds with | some es => P (.tup es) [a0, a1, a2, a3] | none => False) := gcP_tup4_i ..
theorem gcP_rol4_i (a0 a1 a2 a3 : MO) (ds : List D) : gcP 0 [a0, a1, a2, a3] P (.rol ds) (a0 :: a1 :: a2 :: a3 :: r) = (match mapDs true (frzH true 4 (a0 :: a1 :: a2 :: a3 :: r) 4) ds with | some es => P (.rol es) [a0, a1, a2, a3] | none => False) := gcP_rola (μ := [a0, a1, a2, a3]) ds
@[simp, simp ↓] theorem gcP_rol4 (a0 a1 a2 a3 : MO) (ds : List D) {tk0 : Tok P} : gcP 0 [a0, a1, a2, a3] P (tk := tk0) (.rol ds) (a0 :: a1 :: a2 :: a3 :: r) = (match mapDs true (frzH true 4 (a0 :: a1 :: a2 :: a3 :: r) 4) ds with | some es => P (.rol es) [a0, a1, a2, a3] | none => False) := gcP_rol4_i ..
@[simp] theorem mapDs_ints {b : Bool} {h : Nat → Option D} (l : List Int) : mapDs b h (l.map D.int) = some (l.map D.int) := mapDs_map fun _ _ => rfl
@[simp] theorem mapDs_strs {b : Bool} {h : Nat → Option D} (l : List Str) : mapDs b h (l.map D.str) = some (l.map D.str) := mapDs_map fun _ _ => rfl
end
/-- an object without pointers -/
def fzF (fs : List (Str × D)) : Bool := fs.all fun p => fz p.2
def fzO : MO → Bool
  | .lst ds => fzs ds
  | .ins _ fs => fzF fs
  | .dK kvs => kvs.all fun p => fz p.2
  | .dT kvs => kvs.all fun p => fz p.2
theorem mapFs_fz (h : Nat → Option D) : ∀ fs : List (Str × D), fzF fs = true → mapFs true h fs = some fs
  | [], _ => rfl
  | (f, d) :: fs, n => by
    simp only [fzF, List.all_cons, Bool.and_eq_true] at n
    simp [mapFs, mapD_fz h d n.1, mapFs_fz h fs n.2]
theorem mapKs_fz {κ : Type} (h : Nat → Option D) : ∀ fs : List (κ × D), (fs.all fun p => fz p.2) = true → mapKs true h fs = some fs
  | [], _ => rfl
  | (f, d) :: fs, n => by
    simp only [List.all_cons, Bool.and_eq_true] at n
    simp [mapKs, mapD_fz h d n.1, mapKs_fz h fs n.2]
theorem gcO_fz (h : Nat → Option D) (o : MO) (n : fzO o = true) : gcO h o = some o := by
  cases o with
  | lst ds => simp [gcO, mapDs_fz h ds n]
  | ins c fs => simp [gcO, mapFs_fz h fs n]
  | dK kvs => simp [gcO, mapKs_fz h kvs n]
  | dT kvs => simp [gcO, mapKs_fz h kvs n]
theorem gcS_setO {μ : Store} (r : Store) {n : Nat} {o : MO} (h : fzO o = true) : gcS 0 μ (μ.set n o ++ r) = some (μ.set n o) := gcS_set (gcO_fz _ o h) (.inr rfl)
theorem gcP_setr {μ r : Store} {P : D → Store → Prop} {d : D} {n : Nat} {o : MO} (hd : fz d = true) (ho : fzO o = true) : gcP 0 μ P d (μ.set n o ++ r) = P d (μ.set n o) := by
  unfold gcP
  rw [mapD_fz _ d hd, gcS_setO r ho]
theorem gcP_set {μ : Store} {P : D → Store → Prop} {d : D} {n : Nat} {o : MO} (hd : fz d = true) (ho : fzO o = true) : gcP 0 μ P d (μ.set n o) = P d (μ.set n o) := by
  have := gcP_setr (r := []) (μ := μ) (P := P) (n := n) hd ho
  simpa using this
/-- new things without pointers are kept -/
theorem gcP_keep {k : Nat} {μ s r : Store} {P : D → Store → Prop} {d : D} (hk : s.length = k) (hd : mapD true (frzH true (μ.length + k) (μ ++ s ++ r) 4) d = some d) (hs : s.all fzO = true) (h : P d (μ ++ s)) : gcP k μ P d (μ ++ s ++ r) := by
  refine gcP_of hd ?_ h
  rw [List.append_assoc]
  refine gcS_keep ?_
  rw [List.take_left' hk]
  clear hd h hk
  generalize frzH true _ _ 4 = f
  induction s with
  | nil => rfl
  | cons o s ih =>
    simp only [List.all_cons, Bool.and_eq_true] at hs
    simp [mapO, gcO_fz f o hs.1, ih hs.2]
/-- the equation of a def whose leavings are forgotten -/
theorem gc_eq {k : Nat} {m : List D → Store → Out (D × Store)} {ds : List D} {μ ν : Store} {v : D} (h : wo (m ds μ) X0 (gcP k μ fun d ν' => d = v ∧ ν' = ν)) : gcF k m ds μ = .ok (v, ν) := by
  have q : wo (gcF k m ds μ) X0 fun d ν' => d = v ∧ ν' = ν := by rw [wo_gcF, gcX_X0]; exact h
  obtain ⟨d, ν', e, rfl, rfl⟩ := wo_get q
  exact e
/-! ### for over an encoded list -/
/-- what stands: what is done, what is left -/
theorem wp_forL {α : Type} {ρ : DL.Env} {μ : Store} {k : KE} {wi : M Src} {g : Tg} {b : S} (l : List α) (f : α → D) (I : List α → List α → DL.Env → Store → Prop)
    (h : wm wi ρ μ k.X fun s μ => s.items = l.map f ∧ s.gs = [] ∧ I [] l ρ μ)
    (hs : ∀ done a rest ρ μ, l = done ++ a :: rest → I done (a :: rest) ρ μ → wg (g (f a) ρ μ) fun ρ μ => wp b ρ μ { k with N := fun ρ μ => I (done ++ [a]) rest ρ μ, C := fun ρ μ => I (done ++ [a]) rest ρ μ, B := k.N })
    (he : ∀ ρ μ, I l [] ρ μ → k.N ρ μ) : wp (sFor wi g b) ρ μ k := by
  refine wp_for (fun r ρ μ => ∃ done rest, l = done ++ rest ∧ r = rest.map f ∧ I done rest ρ μ) ?_ ?_ ?_
  · refine wo_imp (o := wi ρ μ) h (fun s μ' q => ?_) fun _ _ _ z => z
    obtain ⟨h1, h2, h3⟩ := q
    refine ⟨⟨[], l, rfl, h1, h3⟩, fun _ _ _ _ p hp => ?_⟩
    rw [h2] at hp
    cases hp
  · rintro d r ρ μ ⟨done, rest, hl, hr, hI⟩
    cases rest with
    | nil => cases hr
    | cons a rest =>
      rw [List.map_cons] at hr
      injection hr with h1 h2
      subst h1 h2
      have q := hs done a rest ρ μ hl hI
      have e : l = (done ++ [a]) ++ rest := by simp [hl]
      have mono : ∀ {ρ μ}, I (done ++ [a]) rest ρ μ → ∃ done' rest', l = done' ++ rest' ∧ rest.map f = rest'.map f ∧ I done' rest' ρ μ := fun hI => ⟨_, _, e, rfl, hI⟩
      unfold wg at q ⊢
      cases eg : g (f a) ρ μ with
      | nx ρ1 μ1 =>
        rw [eg] at q
        simp only at q ⊢
        unfold wp at q ⊢
        cases eb : b ρ1 μ1 with
        | nx ρ2 μ2 => rw [eb] at q; exact mono q
        | ct ρ2 μ2 => rw [eb] at q; exact mono q
        | bk ρ2 μ2 => rw [eb] at q; exact q
        | rt d μ2 => rw [eb] at q; exact q
        | ex c fs ρ2 μ2 => rw [eb] at q; exact q
        | no => rw [eb] at q; exact q
      | _ => rw [eg] at q; exact q.elim
  · rintro ρ μ ⟨done, rest, hl, hr, hI⟩
    cases rest with
    | cons a rest => cases hr
    | nil =>
      rw [List.append_nil] at hl
      subst hl
      exact he ρ μ hI
/-! ### a comprehension over an encoded list, its parts touch nothing; the list is frozen -/
theorem wm_lcL {α : Type} {ρ : DL.Env} {μ : Store} {X : XP} {wi : M Src} {vs : List Nat} {g : Tg} {t : M Bool} {e : M D} {P : D → Store → Prop} (l : List α) (f : α → D) (u : α → Option D)
    (h : wm wi ρ μ X fun s μ' => μ' = μ ∧ s.items = l.map f ∧ s.gs = [] ∧ l.length < 16777216 ∧
      (∀ a ∈ l, ∀ r, wg (g (f a) (wipeD ρ vs) (μ ++ r)) fun ρ1 μ1 => wm t ρ1 μ1 X0 fun c μ2 => br (c = true) (wm e ρ1 μ2 X0 fun y μ3 => μ3 = μ ++ r ∧ u a = some y) (μ2 = μ ++ r ∧ u a = none)) ∧
      P (.ptr μ.length) (μ ++ [.lst (l.filterMap u)])) : wm (mLc wi vs g t e) ρ μ X P := by
  refine wm_lc (fun rest acc μ' => μ' = μ ++ [.lst acc] ∧ ∃ done m, l = done ++ m ∧ rest = m.map f ∧ acc = done.filterMap u) ?_
  refine wo_imp (o := wi ρ μ) h (fun s μ' q => ?_) fun _ _ _ z => z
  obtain ⟨rfl, h1, h2, h3, h4, h5⟩ := q
  refine ⟨⟨rfl, [], l, rfl, h1, rfl⟩, ?_, ?_, ?_⟩
  · rintro rest acc μ2 ⟨rfl, _⟩
    exact ⟨fun p hp => (by rw [h2] at hp; cases hp), by simp⟩
  · rintro d rest acc μ2 ⟨rfl, done, m, hl, hr, rfl⟩
    cases m with
    | nil => cases hr
    | cons a m =>
      rw [List.map_cons] at hr
      injection hr with q1 q2
      subst q1 q2
      have q := h4 a (by rw [hl]; simp) [.lst (done.filterMap u)]
      have hlen : done.length + (m.length + 1) < 16777216 := by rw [hl] at h3; simpa using h3
      have hl2 := List.length_filterMap_le u done
      unfold wg at q ⊢
      cases eg : g (f a) (wipeD ρ vs) (μ' ++ [.lst (done.filterMap u)]) with
      | nx ρ1 μ1 =>
        rw [eg] at q
        simp only at q ⊢
        refine wo_imp (o := t ρ1 μ1) q (fun c μ2 q => ?_) fun _ _ _ z => z
        cases c with
        | true =>
          replace q := q.1 rfl
          refine br_of (fun _ => ?_) (fun n => absurd rfl n)
          refine wo_imp (o := e ρ1 μ2) q (fun y μ3 q => ?_) fun _ _ _ z => z
          obtain ⟨rfl, ef⟩ := q
          simp only [lstAt_new]
          refine ⟨by omega, ?_, done ++ [a], m, by simp [hl], rfl, by simp [List.filterMap_append, ef]⟩
          simp
        | false =>
          replace q := q.2 Bool.false_ne_true
          refine br_of (fun z => nomatch z) (fun _ => ?_)
          obtain ⟨rfl, ef⟩ := q
          exact ⟨rfl, done ++ [a], m, by simp [hl], rfl, by simp [List.filterMap_append, ef]⟩
      | _ => rw [eg] at q; exact q.elim
  · rintro acc μ2 ⟨rfl, done, m, hl, hr, rfl⟩
    cases m with
    | cons a m => cases hr
    | nil =>
      rw [List.append_nil] at hl
      subst hl
      exact h5
/-! ### shapes of encoded lists -/
section
variable {α β : Type} {f : α → D} {g : β → D}
theorem cut_map (l : List α) (lo hi : Option Int) : cutD (l.map f) lo hi = ((l.drop (HT.sIx l.length 0 lo)).take (HT.sIx l.length l.length hi - HT.sIx l.length 0 lo)).map f := by
  unfold cutD
  simp [List.map_take, List.map_drop]
theorem cut_map_to (l : List α) (n : Nat) : cutD (l.map f) none (some (n : Int)) = (l.take n).map f := by rw [cut_to, List.map_take]
theorem cut_map_from (l : List α) (n : Nat) : cutD (l.map f) (some (n : Int)) none = (l.drop n).map f := by rw [cut_from, List.map_drop]
theorem cut_map_fromto (l : List α) (n m : Nat) : cutD (l.map f) (some (n : Int)) (some (m : Int)) = ((l.drop n).take (m - n)).map f := by rw [cut_fromto, List.map_take, List.map_drop]
theorem enum_map (l : List α) (k : Nat) : enumFrom k (l.map f) = (l.zipIdx k).map fun p => .tup [.int (p.2 : Nat), f p.1] := by
  induction l generalizing k with
  | nil => rfl
  | cons a l ih => simp [enumFrom, ih]
theorem zip_map (l : List α) (m : List β) : zipD (l.map f) (m.map g) = (l.zip m).map fun p => .tup [f p.1, g p.2] := by
  induction l generalizing m with
  | nil => simp [zipD]
  | cons a l ih =>
    cases m with
    | nil => simp [zipD]
    | cons b m => simp [zipD, ih]
theorem range_map (n : Nat) : rangeD 0 n = (List.range n).map fun i : Nat => D.int (i : Int) := by simp [rangeD]
theorem range_mapL (lo : Int) (n : Nat) : rangeD lo n = (List.range n).map fun i : Nat => D.int (lo + (i : Int)) := rfl
theorem atI_map (l : List α) (n : Nat) : atI (l.map f) (n : Int) = (l[n]?).map f := by rw [atI_nat, List.getElem?_map]
end
/-! ### what can be compared -/
open Classical in
theorem eqB_good {x y : D} {μ : Store} (hx : good 60 x = true) (hy : good 60 y = true) : eqB μ x y = some (decide (x = y)) := by
  have key : PyData.eqv (py x) (py y) = decide (x = y) := by
    have := @good_eqv ⟨[]⟩ 60 60 x y hx hy
    by_cases e : x = y
    · rw [decide_eq_true e]; exact this.mpr e
    · rw [decide_eq_false e]; exact Bool.eq_false_iff.mpr fun z => e (this.mp z)
  obtain ⟨h1, h2, h3⟩ := @good_py ⟨[]⟩ μ 60 x hx
  obtain ⟨k1, k2, k3⟩ := @good_py ⟨[]⟩ μ 60 y hy
  have q : (match toPy μ 60 x, toPy μ 60 y with
    | some a, some b => if (SeqAt.shaped a && SeqAt.shaped b) = true then some (PyData.eqv a b) else none
    | _, _ => none) = some (decide (x = y)) := by
    rw [h1, k1]
    have s1 : SeqAt.shaped (py x) = true := by unfold SeqAt.shaped; simp [h2]; omega
    have s2 : SeqAt.shaped (py y) = true := by unfold SeqAt.shaped; simp [k2]; omega
    simp only [s1, s2, Bool.and_self, if_true, key]
  unfold eqB
  cases e : eqS x y with
  | none => exact q
  | some b =>
    simp only
    congr 1
    cases x <;> cases y <;> simp [eqS, good] at e hx hy <;> subst e <;> simp <;> exact Bool.eq_iff_iff.mpr (by simp)
open Classical in
theorem eqD_good {x y : D} {μ : Store} (hx : good 60 x = true) (hy : good 60 y = true) : eqD x y μ = some (.bl (decide (x = y)), μ) := by
  unfold eqD
  rw [eqB_good hx hy]
  rfl
open Classical in
theorem neD_good {x y : D} {μ : Store} (hx : good 60 x = true) (hy : good 60 y = true) : neD x y μ = some (.bl (!decide (x = y)), μ) := by
  unfold neD
  rw [eqB_good hx hy]
  rfl
end DL

-- DL15
set_option Elab.async false
set_option linter.all false
set_option maxRecDepth 100000
set_option maxHeartbeats 2000000
/-! DL15: more operations on plain shapes. -/
namespace DL
open PySem
open L2 (atI ixN)
theorem map_inj {α β : Type} {f : α → β} (hf : ∀ a b, f a = f b → a = b) : ∀ {l m : List α}, l.map f = m.map f → l = m
  | [], [], _ => rfl
  | [], _ :: _, h => by cases h
  | _ :: _, [], h => by cases h
  | a :: l, b :: m, h => by
    simp only [List.map_cons, List.cons.injEq] at h
    rw [hf a b h.1, map_inj hf h.2]
section
variable {μ : Store} {i j : Int} {n m : Nat} {a b : List D} {x y : Str} {l : List Int}
@[simp] theorem absD_int : absD [.int i] μ = some (.int (if i < 0 then -i else i), μ) := rfl
@[simp] theorem int1D_int : int1D [.int i] μ = some (.int i, μ) := rfl
@[simp] theorem int1D_bl (k : Bool) : int1D [.bl k] μ = some (.int (if k then 1 else 0), μ) := rfl
@[simp] theorem strIntD_int : strIntD [.int i] μ = if i.natAbs.log2 < 1920 then some (.str (toString i), μ) else none := rfl
@[simp] theorem mulD_int : mulD (.int i) (.int j) μ = if (-(2 ^ 64) < i ∧ i < 2 ^ 64) ∨ (-(2 ^ 64) < j ∧ j < 2 ^ 64) then some (.int (i * j), μ) else none := rfl
@[simp] theorem mulD_rol (k : Int) : mulD (.rol a) (.int k) μ = if -(2 ^ 63) ≤ k ∧ k < 2 ^ 63 ∧ a.length * k.toNat ≤ 16777216 then some (.ptr μ.length, μ ++ [.lst (List.replicate k.toNat a).flatten]) else none := rfl
@[simp] theorem lstOf_rol : lstOf μ (.rol a) = some a := rfl
@[simp] theorem lstOf_ptr : lstOf μ (.ptr n) = lstAt μ n := rfl
@[simp] theorem addD_rolrol : addD (.rol a) (.rol b) μ = if a.length + b.length ≤ 16777216 then some (.ptr μ.length, μ ++ [.lst (a ++ b)]) else none := rfl
@[simp] theorem ixD_rolI (i : Int) : ixD (.rol a) (.int i) μ = (atI a i).map fun d => (d, μ) := rfl
@[simp] theorem seqD_kst : seqD μ (.kst a) = some a := rfl
@[simp] theorem lenD_kst : lenD [.kst a] μ = some (.int a.length, μ) := rfl
@[simp] theorem slD_kst (lo hi : Option Int) : slD (.kst a) lo hi μ = some (.ptr μ.length, μ ++ [.lst (cutD a lo hi)]) := rfl
@[simp] theorem revD_rol : revD (.rol a) μ = some (.ptr μ.length, μ ++ [.lst a.reverse]) := rfl
@[simp] theorem revD_ptr : revD (.ptr n) μ = (match lstAt μ n with | some ds => some (.ptr μ.length, μ ++ [.lst ds.reverse]) | none => none) := rfl
@[simp] theorem tupleD_rol : tupleD [.rol a] μ = some (.tup a, μ) := rfl
@[simp] theorem listD_rol : listD [.rol a] μ = some (.ptr μ.length, μ ++ [.lst a]) := rfl
@[simp] theorem isiD_rol (T : String) : isiD T (.rol a) μ = some (.bl (isT "list" T), μ) := rfl
@[simp] theorem truD_rol : truD μ (.rol a) = some (!a.isEmpty) := rfl
@[simp] theorem truD_str : truD μ (.str x) = if x.length ≤ 16777216 then some ((x.length : Int) != 0) else none := rfl
@[simp] theorem tyList_rol : tyList μ (.rol a) = true := rfl
@[simp] theorem lstAt_0 (ds : List D) (r : Store) : lstAt (MO.lst ds :: r) 0 = some ds := rfl
@[simp] theorem set_0 (o p : MO) (r : Store) : List.set (o :: r) 0 p = p :: r := rfl
@[simp] theorem lstAt_1 (o0 : MO) (ds : List D) (r : Store) : lstAt (o0 :: MO.lst ds :: r) 1 = some ds := rfl
@[simp] theorem set_1 (o0 : MO) (o p : MO) (r : Store) : List.set (o0 :: o :: r) 1 p = o0 :: p :: r := rfl
@[simp] theorem lstAt_2 (o0 o1 : MO) (ds : List D) (r : Store) : lstAt (o0 :: o1 :: MO.lst ds :: r) 2 = some ds := rfl
@[simp] theorem set_2 (o0 o1 : MO) (o p : MO) (r : Store) : List.set (o0 :: o1 :: o :: r) 2 p = o0 :: o1 :: p :: r := rfl
@[simp] theorem lstAt_3 (o0 o1 o2 : MO) (ds : List D) (r : Store) : lstAt (o0 :: o1 :: o2 :: MO.lst ds :: r) 3 = some ds := rfl
@[simp] theorem set_3 (o0 o1 o2 : MO) (o p : MO) (r : Store) : List.set (o0 :: o1 :: o2 :: o :: r) 3 p = o0 :: o1 :: o2 :: p :: r := rfl
@[simp] theorem lstAt_4 (o0 o1 o2 o3 : MO) (ds : List D) (r : Store) : lstAt (o0 :: o1 :: o2 :: o3 :: MO.lst ds :: r) 4 = some ds := rfl
@[simp] theorem set_4 (o0 o1 o2 o3 : MO) (o p : MO) (r : Store) : List.set (o0 :: o1 :: o2 :: o3 :: o :: r) 4 p = o0 :: o1 :: o2 :: o3 :: p :: r := rfl
@[simp] theorem isNon_non : isNon .non = true := rfl
@[simp] theorem isNon_bl (b : Bool) : isNon (.bl b) = false := rfl
@[simp] theorem isNon_int (i : Int) : isNon (.int i) = false := rfl
@[simp] theorem isNon_str (x : Str) : isNon (.str x) = false := rfl
@[simp] theorem isNon_tup (x : List D) : isNon (.tup x) = false := rfl
@[simp] theorem isNon_rol (x : List D) : isNon (.rol x) = false := rfl
@[simp] theorem isNon_ptr (n : Nat) : isNon (.ptr n) = false := rfl
theorem fm_ite {α β : Type} (p : α → Prop) [DecidablePred p] (f : α → β) (l : List α) : List.filterMap (fun s => if p s then some (f s) else none) l = (l.filter fun s => decide (p s)).map f := by
  induction l with
  | nil => rfl
  | cons a l ih => by_cases h : p a <;> simp [h, ih]
theorem fm_some {α β : Type} (f : α → β) (l : List α) : List.filterMap (fun s => some (f s)) l = l.map f := by
  induction l with
  | nil => rfl
  | cons a l ih => simp [ih]
theorem intsD_ints : ∀ l : List Int, intsD (l.map D.int) = some l
  | [] => rfl
  | i :: l => by simp [intsD, intsD_ints l]
theorem sortedD_ints (h : l.length < 64) : sortedD [.rol (l.map D.int)] μ = some (.ptr μ.length, μ ++ [.lst ((sortI l).map .int)]) := by
  simp [sortedD, intsD_ints, h]
theorem popD_ints {l : List Int} (h : lstAt μ n = some (l.map D.int)) (hl : l ≠ []) : popD (.ptr n) [] μ = some (.int (l.getLast hl), μ.set n (.lst (l.dropLast.map D.int))) := by
  unfold popD
  simp only [h, List.length_map, List.getElem?_map]
  have : l[l.length - 1]? = some (l.getLast hl) := by rw [← List.getLast?_eq_getElem?, List.getLast?_eq_some_getLast hl]
  simp [this, List.map_dropLast]
theorem inD_intsT {l : List Int} {i : Int} : inD (.int i) (.tup (l.map D.int)) μ = some (.bl (decide (i ∈ l)), μ) := by
  unfold inD inB
  have hf : (l.map D.int).all flatD = true := by simp [flatD]
  simp only [seqD_tup, flatD, hf, Bool.and_self, if_true, Option.map_some, List.any_map]
  congr 3
  by_cases hx : i ∈ l
  · rw [decide_eq_true hx, List.any_eq_true]
    exact ⟨i, hx, by simp [eqF]⟩
  · rw [decide_eq_false hx, List.any_eq_false]
    intro y hy
    simp [eqF]
    rintro rfl
    exact hx hy
theorem inD_intsR {l : List Int} {i : Int} : inD (.int i) (.rol (l.map D.int)) μ = some (.bl (decide (i ∈ l)), μ) := by
  unfold inD inB
  have hf : (l.map D.int).all flatD = true := by simp [flatD]
  simp only [seqD_rol, flatD, hf, Bool.and_self, if_true, Option.map_some, List.any_map]
  congr 3
  by_cases hx : i ∈ l
  · rw [decide_eq_true hx, List.any_eq_true]
    exact ⟨i, hx, by simp [eqF]⟩
  · rw [decide_eq_false hx, List.any_eq_false]
    intro y hy
    simp [eqF]
    rintro rfl
    exact hx hy
@[simp] theorem goods_intsS (n : Nat) (l : List Int) : good (n + 2) (.rol (l.map D.int)) = true := by simp
/-- lists of ints, compared -/
theorem eqD_ints {l m : List Int} : eqD (.rol (l.map D.int)) (.rol (m.map D.int)) μ = some (.bl (decide (l = m)), μ) := by
  classical
  rw [eqD_good (by simp) (by simp)]
  congr 3
  simp only [D.rol.injEq, decide_eq_decide]
  exact ⟨fun h => map_inj (fun _ _ e => by cases e; rfl) h, fun h => by rw [h]⟩
theorem eqD_intsT {l m : List Int} : eqD (.tup (l.map D.int)) (.tup (m.map D.int)) μ = some (.bl (decide (l = m)), μ) := by
  classical
  rw [eqD_good (by simp) (by simp)]
  congr 3
  simp only [D.tup.injEq, decide_eq_decide]
  exact ⟨fun h => map_inj (fun _ _ e => by cases e; rfl) h, fun h => by rw [h]⟩
end
/-! ### a store with named ends -/
section
variable {μ : Store} {n : Nat}
@[simp] theorem lstAt_app0 (ds : List D) (r : Store) (h : μ.length = n) : lstAt (μ ++ .lst ds :: r) n = some ds := by
  subst h
  unfold lstAt
  rw [List.getElem?_append_right (by omega)]
  simp
@[simp] theorem set_app0 (o p : MO) (r : Store) (h : μ.length = n) : (μ ++ o :: r).set n p = μ ++ p :: r := by
  subst h
  rw [List.set_append_right _ _ (by omega)]
  simp
@[simp] theorem get_app0 (o : MO) (r : Store) (h : μ.length = n) : (μ ++ o :: r)[n]? = some o := by
  subst h
  rw [List.getElem?_append_right (by omega)]
  simp
@[simp] theorem lstAt_app1 (a0 : MO) (ds : List D) (r : Store) (h : μ.length + 1 = n) : lstAt (μ ++ a0 :: .lst ds :: r) n = some ds := by
  subst h
  unfold lstAt
  rw [List.getElem?_append_right (by omega)]
  simp
@[simp] theorem set_app1 (a0 : MO) (o p : MO) (r : Store) (h : μ.length + 1 = n) : (μ ++ a0 :: o :: r).set n p = μ ++ a0 :: p :: r := by
  subst h
  rw [List.set_append_right _ _ (by omega)]
  simp
@[simp] theorem get_app1 (a0 : MO) (o : MO) (r : Store) (h : μ.length + 1 = n) : (μ ++ a0 :: o :: r)[n]? = some o := by
  subst h
  rw [List.getElem?_append_right (by omega)]
  simp
@[simp] theorem lstAt_app2 (a0 a1 : MO) (ds : List D) (r : Store) (h : μ.length + 2 = n) : lstAt (μ ++ a0 :: a1 :: .lst ds :: r) n = some ds := by
  subst h
  unfold lstAt
  rw [List.getElem?_append_right (by omega)]
  simp
@[simp] theorem set_app2 (a0 a1 : MO) (o p : MO) (r : Store) (h : μ.length + 2 = n) : (μ ++ a0 :: a1 :: o :: r).set n p = μ ++ a0 :: a1 :: p :: r := by
  subst h
  rw [List.set_append_right _ _ (by omega)]
  simp
@[simp] theorem get_app2 (a0 a1 : MO) (o : MO) (r : Store) (h : μ.length + 2 = n) : (μ ++ a0 :: a1 :: o :: r)[n]? = some o := by
  subst h
  rw [List.getElem?_append_right (by omega)]
  simp
@[simp] theorem lstAt_app3 (a0 a1 a2 : MO) (ds : List D) (r : Store) (h : μ.length + 3 = n) : lstAt (μ ++ a0 :: a1 :: a2 :: .lst ds :: r) n = some ds := by
  subst h
  unfold lstAt
  rw [List.getElem?_append_right (by omega)]
  simp
@[simp] theorem set_app3 (a0 a1 a2 : MO) (o p : MO) (r : Store) (h : μ.length + 3 = n) : (μ ++ a0 :: a1 :: a2 :: o :: r).set n p = μ ++ a0 :: a1 :: a2 :: p :: r := by
  subst h
  rw [List.set_append_right _ _ (by omega)]
  simp
@[simp] theorem get_app3 (a0 a1 a2 : MO) (o : MO) (r : Store) (h : μ.length + 3 = n) : (μ ++ a0 :: a1 :: a2 :: o :: r)[n]? = some o := by
  subst h
  rw [List.getElem?_append_right (by omega)]
  simp
@[simp] theorem insAt_app0 (c : Str) (fs : List (Str × D)) (r : Store) (h : μ.length = n) : insAt (μ ++ .ins c fs :: r) c n = some fs := by
  subst h
  unfold insAt
  rw [List.getElem?_append_right (by omega)]
  simp
@[simp] theorem insAt_app1 (a0 : MO) (c : Str) (fs : List (Str × D)) (r : Store) (h : μ.length + 1 = n) : insAt (μ ++ a0 :: .ins c fs :: r) c n = some fs := by
  subst h
  unfold insAt
  rw [List.getElem?_append_right (by omega)]
  simp
@[simp] theorem insAt_app2 (a0 a1 : MO) (c : Str) (fs : List (Str × D)) (r : Store) (h : μ.length + 2 = n) : insAt (μ ++ a0 :: a1 :: .ins c fs :: r) c n = some fs := by
  subst h
  unfold insAt
  rw [List.getElem?_append_right (by omega)]
  simp
end
end DL

-- DLZ
set_option Elab.async false
set_option linter.all false
set_option maxRecDepth 100000
set_option maxHeartbeats 2000000
/-! DLZ: enumerate(zip(x, y)): two new tuples in each turn. -/
namespace L2
open PySem PySem.Spec PyProof.Rows
/-- a zip, whatever it knows of the tuple that it gave last -/
abbrev ZpF (h : Heap) (zz J O : Addr) (v : Value) (f : Bool) : Prop :=
  h.get? zz = some { cls := .type "zip", dict := none, data := .fields #[v, .bool f, .bool false, .ref J, .ref O], slots := #[] }
def ZpV (v : Value) : Prop := v = .none ∨ ∃ t : Nat, v = rawInt t
def ZpA (h : Heap) (zz J O : Addr) : Prop := ∃ v f, ZpF h zz J O v f ∧ ZpV v
theorem bH {α : Type} {β : Type} {M : Model} {A : Around} {m : Sem α} {k : α → Sem β} {Q : β → Shared → Prop} {E : Value → Shared → Prop} {s : Shared} (h : wpAny M A m (fun x t => wpAny M A (k x) Q E t) E s) : wpAny M A (m >>= k) Q E s := wpAny_bind h
section
variable {prog : Program} {w : World} {A : Around} {E : Value → Shared → Prop} {s : Shared} {zz J O i1 i2 : Addr} {g1 g2 : List Addr} {n1 n2 i : Nat} {P1 P2 : Nat → Value → Prop} {S1 S2 : Nat → Heap → Prop}
theorem zp_free {v : Value} {f : Bool} {Q : Bool → Shared → Prop} (hz : ZpF s.heap zz J O v f) (hv : ZpV v) (ht : Q true s)
    (hf : ∀ k, ZpF k zz J O v true → Heap.SameBut zz s.heap k → Q false { s with heap := k }) : wpAny (model prog w) A (Builtin.SmallTypes.ownedTupleIsFree (.ref zz)) Q E s := by
  unfold Builtin.SmallTypes.ownedTupleIsFree
  rcases hv with rfl | ⟨t, rfl⟩
  · exact bH (wpAny_field hz rfl (x := .none) rfl (wpAny_pure ht))
  · refine bH (wpAny_field hz rfl (x := rawInt t) rfl ?_)
    show wpAny _ _ (loadIfAlive ((t : Int).toNat) >>= _) _ _ _
    rw [Int.toNat_natCast]
    refine bH (show wpAny _ _ (loadIfAlive t) _ _ s from fun _ _ _ => ?_)
    show wpAny _ _ _ _ _ s
    cases ho : s.heap.get? t with
    | none => exact wpAny_pure ht
    | some o =>
      simp only [Option.isNone_some, Bool.false_eq_true, if_false]
      refine bH (wpAny_field hz rfl (x := .bool f) rfl ?_)
      cases f with
      | true =>
        rw [if_neg (show ¬ ((Value.bool true != Value.bool true) = true) from Bool.false_ne_true)]
        exact wpAny_pure (hf s.heap hz (Heap.SameBut.refl _ _))
      | false =>
        rw [if_pos (show (Value.bool false != Value.bool true) = true from rfl)]
        exact bH (wpAny_setField_rec hz (by simp) fun k hk hs => wpAny_pure (hf k hk hs))
/-- what a draw from the first does to the heap of the whole -/
theorem zp_item {v a1 a2 : Value} {f : Bool} {Q : Value → Shared → Prop} (S : ZipSep2 zz J O i1 i2 g1 g2) (D1 : Draws prog w A i1 g1 n1 P1 S1) (D2 : Draws prog w A i2 g2 n2 P2 S2)
    (hz : ZpF s.heap zz J O v f) (hv : ZpV v) (hJ : IsTupOf2 s.heap J (.ref i1) (.ref i2)) (hO : IsTupOf2 s.heap O a1 a2) (q1 : S1 i s.heap) (q2 : S2 i s.heap) (l1 : i < n1) (l2 : i < n2)
    (hQ : ∀ x y k tk, P1 i x → P2 i y → ZpA k zz J O → (∃ b1 b2, IsTupOf2 k O b1 b2) → S1 (i + 1) k → S2 (i + 1) k → IsTupOf2 k s.heap.objs.size x y → k.objs.size = s.heap.objs.size + 1 →
      (∀ c o, c ≠ zz → c ≠ O → c ≠ i1 → c ≠ i2 → s.heap.get? c = some o → k.get? c = some o) → Q (.ref s.heap.objs.size) { s with heap := k, toks := tk }) :
    wpAny (model prog w) A (Builtin.«zip.__next__» ⟨[.ref zz], []⟩) (fun fin t => ∃ r, fin = .done (.ret r) ∧ Q r t) E s := by
  obtain ⟨hp, g, d, tk0, os⟩ := s
  show wpAny _ _ (field (.ref zz) 2 >>= _) _ _ _
  refine bH (wpAny_field hz rfl (x := .bool false) rfl ?_)
  show wpAny _ _ (field (.ref zz) 3 >>= _) _ _ _
  refine bH (wpAny_field hz rfl (x := .ref J) rfl ?_)
  refine bH (wpAny_seqItems hJ rfl ?_)
  show wpAny _ _ (Builtin.SmallTypes.ownedTupleIsFree (.ref zz) >>= _) _ _ _
  refine bH (zp_free hz hv ?_ fun k0 hk0 b0 => ?_)
  · simp only [if_true]
    refine bH (wpAny_rule ?_)
    refine bH (wpAny_field hz rfl (x := .ref O) rfl ?_)
    refine bH (wpAny_setField_rec hz (by simp) fun k0 hk0 b0 => ?_)
    replace hk0 : ZpF k0 zz J O .ellipsis f := hk0
    replace b0 : Heap.SameBut zz hp k0 := b0
    refine bH ?_
    simp only [List.zipIdx_cons, List.zipIdx_nil, List.forIn_cons, List.forIn_nil]
    refine bH (bH (wpAny_onRaise ?_))
    show wpAny _ _ (Builtin.SmallTypes.nextOf (.ref i1) >>= _) _ _ ⟨k0, g, d, tk0, os⟩
    refine bH (D1.item i _ _ _ l1 (D1.over q1 b0 S.zf1) fun x m1 tk1 hx r1 c1 => wpAny_pure ?_)
    replace c1 : Heap.SameBut i1 k0 m1 := c1
    have hO1 : IsTupOf2 m1 O a1 a2 := c1.extBut _ _ S.Ti1 (b0.extBut _ _ S.TOz hO)
    refine bH (wpAny_seqItems (s := ⟨m1, g, d, tk1, os⟩) hO1 rfl ?_)
    refine bH (updateSeq_IsTupOf2 (s := ⟨m1, g, d, tk1, os⟩) hO1 fun k1 hO2 b1 => ?_)
    replace hO2 : IsTupOf2 k1 O x a2 := hO2
    replace b1 : Heap.SameBut O m1 k1 := b1
    refine bH (wpAny_letGo (wpAny_pure ?_))
    refine bH (bH (wpAny_onRaise ?_))
    show wpAny _ _ (Builtin.SmallTypes.nextOf (.ref i2) >>= _) _ _ ⟨k1, g, d, tk1, os⟩
    refine bH (D2.item i _ _ _ l2 (D2.over (D2.over (D2.over q2 b0 S.zf2) c1 S.sep1_2) b1 S.Tf2) fun y m2 tk2 hy r2 c2 => wpAny_pure ?_)
    replace c2 : Heap.SameBut i2 k1 m2 := c2
    have hO3 : IsTupOf2 m2 O x a2 := c2.extBut _ _ S.Ti2 hO2
    refine bH (wpAny_seqItems (s := ⟨m2, g, d, tk2, os⟩) hO3 rfl ?_)
    refine bH (updateSeq_IsTupOf2 (s := ⟨m2, g, d, tk2, os⟩) hO3 fun k2 hO4 b2 => ?_)
    replace hO4 : IsTupOf2 k2 O x y := hO4
    replace b2 : Heap.SameBut O m2 k2 := b2
    refine bH (wpAny_letGo (wpAny_pure (wpAny_pure ?_)))
    refine bH (wpAny_seqItems (s := ⟨k2, g, d, tk2, os⟩) hO4 rfl ?_)
    refine bH (wpAny_newTuple ?_)
    have e0 : k2.objs.size = hp.objs.size := by rw [b2.1, c2.1, b1.1, c1.1, b0.1]
    have hz2 : ZpF k2 zz J O .ellipsis f := (b2.extBut _ _ S.TOz.symm (c2.extBut _ _ S.zi2 (b1.extBut _ _ S.TOz.symm (c1.extBut _ _ S.zi1 hk0))))
    have kk : ∀ c o, c ≠ zz → c ≠ O → c ≠ i1 → c ≠ i2 → hp.get? c = some o → k2.get? c = some o := fun c o n n' n1 n2 e =>
      (b2.extBut _ _ n' (c2.extBut _ _ n2 (b1.extBut _ _ n' (c1.extBut _ _ n1 (b0.extBut _ _ n e)))))
    have j1 : S1 (i + 1) k2 := (D1.over (D1.over (D1.over r1 b1 S.Tf1) c2 S.sep2_1) b2 S.Tf1)
    have j2 : S2 (i + 1) k2 := (D2.over r2 b2 S.Tf2)
    have lz : zz < k2.objs.size := Heap.lt_size hz2
    show wpAny _ _ (Builtin.SmallTypes.ownedTupleHandOut (.ref zz) (.ref k2.objs.size) >>= _) _ _ ⟨k2.push { cls := .type "tuple", data := .seq #[x, y] }, g, d, tk2, os⟩
    refine bH ?_
    unfold Builtin.SmallTypes.ownedTupleHandOut
    have hz3 : ZpF (k2.push { cls := .type "tuple", data := .seq #[x, y] }) zz J O .ellipsis f := Heap.get?_push_of_some _ hz2
    refine bH (wpAny_setField_rec hz3 (by simp) fun k3 hz4 b3 => ?_)
    replace hz4 : ZpF k3 zz J O (rawInt k2.objs.size) f := hz4
    refine wpAny_setField_rec hz4 (by simp) fun k4 hz5 b4 => ?_
    replace hz5 : ZpF k4 zz J O (rawInt k2.objs.size) false := hz5
    replace b3 : Heap.SameBut zz (k2.push { cls := .type "tuple", data := .seq #[x, y] }) k3 := b3
    replace b4 : Heap.SameBut zz k3 k4 := b4
    have up : ∀ c o, c ≠ zz → k2.get? c = some o → k4.get? c = some o := fun c o n e => b4.extBut _ _ n (b3.extBut _ _ n (Heap.get?_push_of_some _ e))
    have hT : IsTupOf2 k4 k2.objs.size x y := b4.extBut _ _ (Nat.ne_of_gt lz) (b3.extBut _ _ (Nat.ne_of_gt lz) (Heap.get?_push_size _ rfl))
    have e4 : k4.objs.size = k2.objs.size + 1 := by rw [b4.1, b3.1, Heap.size_push]
    rw [e0] at hz5 hT e4
    refine wpAny_pure ⟨_, rfl, ?_⟩
    show Q (.ref k2.objs.size) ⟨k4, g, d, tk2, os⟩
    rw [e0]
    exact hQ x y k4 tk2 hx hy ⟨_, _, hz5, .inr ⟨_, rfl⟩⟩ ⟨_, _, up _ _ S.TOz hO4⟩ (D1.frame _ _ _ j1 fun b hb o e => up b o (fun q => S.zf1 (q ▸ hb)) e) (D2.frame _ _ _ j2 fun b hb o e => up b o (fun q => S.zf2 (q ▸ hb)) e) hT e4
      fun c o n n' n1 n2 e => up c o n (kk c o n n' n1 n2 e)
  · simp only [Bool.false_eq_true, if_false]
    replace b0 : Heap.SameBut zz hp k0 := b0
    refine bH ?_
    rw [← Array.forIn_toList]
    simp only [List.forIn_cons, List.forIn_nil]
    refine bH (bH (wpAny_holding ?_))
    show wpAny _ _ (Builtin.SmallTypes.nextOf (.ref i1) >>= _) _ _ _
    refine bH (D1.item i ⟨k0, g, d, tk0, os⟩ _ _ l1 (D1.over q1 b0 S.zf1) fun x m1 tk1 hx r1 c1 => wpAny_pure ?_)
    replace c1 : Heap.SameBut i1 k0 m1 := c1
    refine wpAny_pure ?_
    refine bH (bH (wpAny_holding ?_))
    show wpAny _ _ (Builtin.SmallTypes.nextOf (.ref i2) >>= _) _ _ _
    refine bH (D2.item i ⟨m1, g, d, tk1, os⟩ _ _ l2 (D2.over (D2.over q2 b0 S.zf2) c1 S.sep1_2) fun y m2 tk2 hy r2 c2 => wpAny_pure ?_)
    replace c2 : Heap.SameBut i2 m1 m2 := c2
    refine wpAny_pure (wpAny_pure ?_)
    show wpAny _ _ (newTuple [x, y] >>= _) _ _ _
    refine bH (wpAny_newTuple ?_)
    have e0 : m2.objs.size = hp.objs.size := by rw [c2.1, c1.1, b0.1]
    have hz2 : ZpF m2 zz J O v true := c2.extBut _ _ S.zi2 (c1.extBut _ _ S.zi1 hk0)
    have hO2 : IsTupOf2 m2 O a1 a2 := c2.extBut _ _ S.Ti2 (c1.extBut _ _ S.Ti1 (b0.extBut _ _ S.TOz hO))
    have kk : ∀ c o, c ≠ zz → c ≠ i1 → c ≠ i2 → hp.get? c = some o → m2.get? c = some o := fun c o n n1 n2 e => c2.extBut _ _ n2 (c1.extBut _ _ n1 (b0.extBut _ _ n e))
    have j1 : S1 (i + 1) m2 := D1.over r1 c2 S.sep2_1
    refine wpAny_pure ⟨_, rfl, ?_⟩
    show Q (.ref m2.objs.size) ⟨m2.push { cls := .type "tuple", data := .seq #[x, y] }, g, d, tk2, os⟩
    have hT : IsTupOf2 (m2.push { cls := .type "tuple", data := .seq #[x, y] }) m2.objs.size x y := Heap.get?_push_size _ rfl
    have e4 : (m2.push { cls := .type "tuple", data := .seq #[x, y] }).objs.size = m2.objs.size + 1 := Heap.size_push ..
    rw [e0] at hT e4 ⊢
    exact hQ x y _ tk2 hx hy ⟨_, _, Heap.get?_push_of_some _ hz2, hv⟩ ⟨_, _, Heap.get?_push_of_some _ hO2⟩ (D1.frame _ _ _ j1 fun b hb o e => Heap.get?_push_of_some _ e) (D2.frame _ _ _ r2 fun b hb o e => Heap.get?_push_of_some _ e) hT e4
      fun c o n n' n1 n2 e => Heap.get?_push_of_some _ (kk c o n n1 n2 e)
theorem zp_end {v a1 a2 : Value} {f : Bool} {Q : Fin → Shared → Prop} (S : ZipSep2 zz J O i1 i2 g1 g2) (D1 : Draws prog w A i1 g1 n1 P1 S1) (D2 : Draws prog w A i2 g2 n2 P2 S2)
    (hz : ZpF s.heap zz J O v f) (hv : ZpV v) (hJ : IsTupOf2 s.heap J (.ref i1) (.ref i2)) (hO : IsTupOf2 s.heap O a1 a2) (q1 : S1 i s.heap) (q2 : S2 i s.heap) (l1 : i ≤ n1) (l2 : i ≤ n2) (le : i = n1 ∨ i = n2)
    (hE : ∀ k tk e, (∀ c o, c ≠ zz → c ≠ O → c ≠ i1 → c ≠ i2 → s.heap.get? c = some o → k.get? c = some o) → (∃ o, k.get? e = some o ∧ o.cls = .type "StopIteration") → E (.ref e) { s with heap := k, toks := tk }) :
    wpAny (model prog w) A (Builtin.«zip.__next__» ⟨[.ref zz], []⟩) Q E s := by
  obtain ⟨hp, g, d, tk0, os⟩ := s
  show wpAny _ _ (field (.ref zz) 2 >>= _) _ _ _
  refine bH (wpAny_field hz rfl (x := .bool false) rfl ?_)
  show wpAny _ _ (field (.ref zz) 3 >>= _) _ _ _
  refine bH (wpAny_field hz rfl (x := .ref J) rfl ?_)
  refine bH (wpAny_seqItems hJ rfl ?_)
  show wpAny _ _ (Builtin.SmallTypes.ownedTupleIsFree (.ref zz) >>= _) _ _ _
  refine bH (zp_free hz hv ?_ fun k0 hk0 b0 => ?_)
  · simp only [if_true]
    refine bH (wpAny_rule ?_)
    refine bH (wpAny_field hz rfl (x := .ref O) rfl ?_)
    refine bH (wpAny_setField_rec hz (by simp) fun k0 hk0 b0 => ?_)
    replace hk0 : ZpF k0 zz J O .ellipsis f := hk0
    replace b0 : Heap.SameBut zz hp k0 := b0
    refine bH ?_
    simp only [List.zipIdx_cons, List.zipIdx_nil, List.forIn_cons, List.forIn_nil]
    refine bH (bH (wpAny_onRaise ?_))
    show wpAny _ _ (Builtin.SmallTypes.nextOf (.ref i1) >>= _) _ _ ⟨k0, g, d, tk0, os⟩
    by_cases lt : i < n1
    · refine bH (D1.item i _ _ _ lt (D1.over q1 b0 S.zf1) fun x m1 tk1 hx r1 c1 => wpAny_pure ?_)
      replace c1 : Heap.SameBut i1 k0 m1 := c1
      have hO1 : IsTupOf2 m1 O a1 a2 := c1.extBut _ _ S.Ti1 (b0.extBut _ _ S.TOz hO)
      refine bH (wpAny_seqItems (s := ⟨m1, g, d, tk1, os⟩) hO1 rfl ?_)
      refine bH (updateSeq_IsTupOf2 (s := ⟨m1, g, d, tk1, os⟩) hO1 fun k1 hO2 b1 => ?_)
      replace b1 : Heap.SameBut O m1 k1 := b1
      refine bH (wpAny_letGo (wpAny_pure ?_))
      have e2 : i = n2 := by omega
      refine bH (bH (wpAny_onRaise ?_))
      show wpAny _ _ (Builtin.SmallTypes.nextOf (.ref i2) >>= _) _ _ ⟨k1, g, d, tk1, os⟩
      refine bH (D2.done ⟨k1, g, d, tk1, os⟩ _ _ (by rw [← e2]; exact (D2.over (D2.over (D2.over q2 b0 S.zf2) c1 S.sep1_2) b1 S.Tf2)) fun q e hq he => ?_)
      replace hq : Heap.ExtBut i2 k1 q := hq
      obtain ⟨oe, hoe, hce⟩ := he
      replace hoe : q.get? e = some oe := hoe
      have hzq : ZpF q zz J O .ellipsis f := hq _ _ S.zi2 (b1.extBut _ _ S.TOz.symm (c1.extBut _ _ S.zi1 hk0))
      have nez : e ≠ zz := fun x => by subst x; rw [hzq] at hoe; cases hoe; simp at hce
      refine wpAny_setField_rec (s := ⟨q, g, d, tk1, os⟩) hzq (by simp) fun q' _ hq' => ?_
      replace hq' : Heap.SameBut zz q q' := hq'
      exact hE q' tk1 e (fun c o n n' n1 n2 x => hq'.extBut _ _ n (hq _ _ n2 (b1.extBut _ _ n' (c1.extBut _ _ n1 (b0.extBut _ _ n x))))) ⟨oe, hq'.extBut _ _ nez hoe, hce⟩
    · have e1 : i = n1 := by omega
      refine bH (D1.done ⟨k0, g, d, tk0, os⟩ _ _ (by rw [← e1]; exact (D1.over q1 b0 S.zf1)) fun q e hq he => ?_)
      replace hq : Heap.ExtBut i1 k0 q := hq
      obtain ⟨oe, hoe, hce⟩ := he
      replace hoe : q.get? e = some oe := hoe
      have hzq : ZpF q zz J O .ellipsis f := hq _ _ S.zi1 hk0
      have nez : e ≠ zz := fun x => by subst x; rw [hzq] at hoe; cases hoe; simp at hce
      refine wpAny_setField_rec (s := ⟨q, g, d, tk0, os⟩) hzq (by simp) fun q' _ hq' => ?_
      replace hq' : Heap.SameBut zz q q' := hq'
      exact hE q' tk0 e (fun c o n n' n1 n2 x => hq'.extBut _ _ n (hq _ _ n1 (b0.extBut _ _ n x))) ⟨oe, hq'.extBut _ _ nez hoe, hce⟩
  · simp only [Bool.false_eq_true, if_false]
    replace b0 : Heap.SameBut zz hp k0 := b0
    refine bH ?_
    rw [← Array.forIn_toList]
    simp only [List.forIn_cons, List.forIn_nil]
    refine bH (bH (wpAny_holding ?_))
    show wpAny _ _ (Builtin.SmallTypes.nextOf (.ref i1) >>= _) _ _ _
    by_cases lt : i < n1
    · refine bH (D1.item i ⟨k0, g, d, tk0, os⟩ _ _ lt (D1.over q1 b0 S.zf1) fun x m1 tk1 hx r1 c1 => wpAny_pure ?_)
      replace c1 : Heap.SameBut i1 k0 m1 := c1
      have e2 : i = n2 := by omega
      refine wpAny_pure ?_
      refine bH (bH (wpAny_holding ?_))
      show wpAny _ _ (Builtin.SmallTypes.nextOf (.ref i2) >>= _) _ _ _
      refine bH (D2.done ⟨m1, g, d, tk1, os⟩ _ _ (by rw [← e2]; exact (D2.over (D2.over q2 b0 S.zf2) c1 S.sep1_2)) fun q e hq he => ?_)
      replace hq : Heap.ExtBut i2 m1 q := hq
      exact hE q tk1 e (fun c o n n' n1 n2 x => hq _ _ n2 (c1.extBut _ _ n1 (b0.extBut _ _ n x))) he
    · have e1 : i = n1 := by omega
      refine bH (D1.done ⟨k0, g, d, tk0, os⟩ _ _ (by rw [← e1]; exact (D1.over q1 b0 S.zf1)) fun q e hq he => ?_)
      replace hq : Heap.ExtBut i1 k0 q := hq
      exact hE q tk0 e (fun c o n n' n1 n2 x => hq _ _ n1 (b0.extBut _ _ n x)) he
end
/-! a zip as the inner iterator of an enumerate -/
section
variable {prog : Program} {w : World} {A : Around} {E : Value → Shared → Prop} {s : Shared} {zz J O i1 i2 : Addr} {g1 g2 : List Addr} {n1 n2 i : Nat} {P1 P2 : Nat → Value → Prop} {S1 S2 : Nat → Heap → Prop}
def ZpS (zz J O i1 i2 : Addr) (S1 S2 : Nat → Heap → Prop) (i : Nat) (h : Heap) : Prop :=
  ZpA h zz J O ∧ IsTupOf2 h J (.ref i1) (.ref i2) ∧ (∃ b1 b2, IsTupOf2 h O b1 b2) ∧ S1 i h ∧ S2 i h
theorem zps_frame (D1 : Draws prog w A i1 g1 n1 P1 S1) (D2 : Draws prog w A i2 g2 n2 P2 S2) {h k : Heap} (q : ZpS zz J O i1 i2 S1 S2 i h) (ka : ∀ b ∈ zz :: J :: O :: (g1 ++ g2), ∀ o, h.get? b = some o → k.get? b = some o) : ZpS zz J O i1 i2 S1 S2 i k := by
  obtain ⟨⟨v, f, hz, hv⟩, hJ, ⟨b1, b2, hO⟩, q1, q2⟩ := q
  exact ⟨⟨v, f, ka _ (by simp) _ hz, hv⟩, ka _ (by simp) _ hJ, ⟨b1, b2, ka _ (by simp) _ hO⟩, D1.frame _ _ _ q1 fun b hb => ka b (by simp [hb]), D2.frame _ _ _ q2 fun b hb => ka b (by simp [hb])⟩
theorem zp_nextOf {Q : Value → Shared → Prop} (S : ZipSep2 zz J O i1 i2 g1 g2) (D1 : Draws prog w A.in1 i1 g1 n1 P1 S1) (D2 : Draws prog w A.in1 i2 g2 n2 P2 S2)
    (q : ZpS zz J O i1 i2 S1 S2 i s.heap) (l1 : i < n1) (l2 : i < n2)
    (hQ : ∀ x y k tk, P1 i x → P2 i y → ZpS zz J O i1 i2 S1 S2 (i + 1) k → IsTupOf2 k s.heap.objs.size x y → k.objs.size = s.heap.objs.size + 1 →
      (∀ c o, c ∉ [zz, O, i1, i2] → s.heap.get? c = some o → k.get? c = some o) → Q (.ref s.heap.objs.size) { s with heap := k, toks := tk }) :
    wpAny (model prog w) A (Builtin.SmallTypes.nextOf (.ref zz)) Q E s := by
  obtain ⟨⟨v, f, hz, hv⟩, hJ, ⟨b1, b2, hO⟩, q1, q2⟩ := q
  have hT : s.TypeIs (.ref zz) "zip" := ⟨_, hz, rfl⟩
  unfold Builtin.SmallTypes.nextOf
  refine bH (wpAny_callSpecial?_slot (name := Str.ofString "__next__") hT F.slot_zip_next
    (wpAny_call_entry F.slot_zip_next hT F.entry_zip_next (zp_item S D1 D2 hz hv hJ hO q1 q2 l1 l2 fun x y k tk hx hy a1 a2 a3 a4 a5 a6 a7 => ?_) (F.args_zip_next_1 _)))
  exact wpAny_pure (hQ x y k tk hx hy ⟨a1, a7 _ _ S.TIz S.TITO S.TIi1 S.TIi2 hJ, a2, a3, a4⟩ a5 a6 fun c o hc e => a7 c o (fun z => hc (by simp [z])) (fun z => hc (by simp [z])) (fun z => hc (by simp [z])) (fun z => hc (by simp [z])) e)
theorem zp_nextEnd {Q : Value → Shared → Prop} (S : ZipSep2 zz J O i1 i2 g1 g2) (D1 : Draws prog w A.in1 i1 g1 n1 P1 S1) (D2 : Draws prog w A.in1 i2 g2 n2 P2 S2)
    (q : ZpS zz J O i1 i2 S1 S2 (min n1 n2) s.heap)
    (hE : ∀ k tk e, (∀ c o, c ∉ [zz, O, i1, i2] → s.heap.get? c = some o → k.get? c = some o) → (∃ o, k.get? e = some o ∧ o.cls = .type "StopIteration") → E (.ref e) { s with heap := k, toks := tk }) :
    wpAny (model prog w) A (Builtin.SmallTypes.nextOf (.ref zz)) Q E s := by
  obtain ⟨⟨v, f, hz, hv⟩, hJ, ⟨b1, b2, hO⟩, q1, q2⟩ := q
  have hT : s.TypeIs (.ref zz) "zip" := ⟨_, hz, rfl⟩
  unfold Builtin.SmallTypes.nextOf
  refine bH (wpAny_callSpecial?_slot (name := Str.ofString "__next__") hT F.slot_zip_next
    (wpAny_call_entry F.slot_zip_next hT F.entry_zip_next (zp_end S D1 D2 hz hv hJ hO q1 q2 (Nat.min_le_left ..) (Nat.min_le_right ..) (by omega) fun k tk e a he => ?_) (F.args_zip_next_1 _)))
  exact hE k tk e (fun c o hc x => a c o (fun z => hc (by simp [z])) (fun z => hc (by simp [z])) (fun z => hc (by simp [z])) (fun z => hc (by simp [z])) x) he
end
section
variable {prog : Program} {w : World} {A : Around} {E : Value → Shared → Prop} {s : Shared} {e zz J O i1 i2 : Addr} {g1 g2 : List Addr} {n1 n2 i : Nat} {P1 P2 : Nat → Value → Prop} {S1 S2 : Nat → Heap → Prop} {c : Int} {old : Value}
theorem ez_item {Q : Value → Shared → Prop} (S : ZipSep2 zz J O i1 i2 g1 g2) (D1 : Draws prog w A.in1 i1 g1 n1 P1 S1) (D2 : Draws prog w A.in1 i2 g2 n2 P2 S2) (he : IsEnum s.heap e zz c old) (q : ZpS zz J O i1 i2 S1 S2 i s.heap)
    (l1 : i < n1) (l2 : i < n2) (ne : e ∉ zz :: J :: O :: (g1 ++ g2))
    (hQ : ∀ x y k t tk, P1 i x → P2 i y → IsEnumOut k e zz (c + 1) (.ref s.heap.objs.size) (s.heap.objs.size + 1) → ZpS zz J O i1 i2 S1 S2 (i + 1) k → IsTupOf2 k s.heap.objs.size x y →
      IsTupOf2 k (s.heap.objs.size + 1) (.int c t) (.ref s.heap.objs.size) → k.objs.size = s.heap.objs.size + 2 →
      (∀ b o, b ∉ [e, zz, O, i1, i2] → s.heap.get? b = some o → k.get? b = some o) → Q (.ref (s.heap.objs.size + 1)) { s with heap := k, toks := tk }) :
    wpAny (model prog w) A (Builtin.«enumerate.__next__» ⟨[.ref e], []⟩) (fun fin t => ∃ r, fin = .done (.ret r) ∧ Q r t) E s := by
  obtain ⟨hp, g, d, tk₀, os⟩ := s
  have nw : ∀ b ∈ [zz, O, i1, i2], e ≠ b := fun b hb z => ne (by
    subst z
    have hb' : e = zz ∨ e = O ∨ e = i1 ∨ e = i2 := by simpa using hb
    rcases hb' with z | z | z | z
    · simp [z]
    · simp [z]
    · have := S.mem1; rw [← z] at this; simp [this]
    · have := S.mem2; rw [← z] at this; simp [this])
  have new : e ∉ [zz, O, i1, i2] := fun z => nw e z rfl
  show wpAny _ _ (field (.ref e) 2 >>= _) _ _ _
  refine bH (wpAny_field he rfl (x := .ref zz) rfl ?_)
  refine bH (zp_nextOf S D1 D2 q l1 l2 fun x y m1 tk hx hy q1 hT z1 ka => ?_)
  replace hT : IsTupOf2 m1 hp.objs.size x y := hT
  replace z1 : m1.objs.size = hp.objs.size + 1 := z1
  replace ka : ∀ c o, c ∉ [zz, O, i1, i2] → hp.get? c = some o → m1.get? c = some o := ka
  have f1 : IsEnum m1 e zz c old := ka _ _ new he
  show wpAny _ _ (field (.ref e) 3 >>= _) _ _ ⟨m1, g, d, tk, os⟩
  refine bH (wpAny_field f1 rfl (x := rawInt c) rfl ?_)
  show wpAny _ _ (field (.ref e) 4 >>= _) _ _ ⟨m1, g, d, tk, os⟩
  refine bH (wpAny_field f1 rfl (x := .none) rfl ?_)
  show wpAny _ _ (mkInt c >>= _) _ _ ⟨m1, g, d, tk, os⟩
  refine bH (wpAny_mkInt ?_)
  show wpAny _ _ (setField (.ref e) 3 (rawInt (c + 1)) >>= _) _ _ ⟨m1, g, d, tk + 1, os⟩
  refine bH (wpAny_setField_rec f1 (by simp) fun m2 f2 b2 => ?_)
  replace b2 : Heap.SameBut e m1 m2 := b2
  replace f2 : IsEnum m2 e zz (c + 1) old := f2
  show wpAny _ _ (setField (.ref e) 4 .none >>= _) _ _ ⟨m2, g, d, tk + 1, os⟩
  refine bH (wpAny_setField_rec f2 (by simp) fun m3 f3 b3 => ?_)
  replace b3 : Heap.SameBut e m2 m3 := b3
  replace f3 : IsEnum m3 e zz (c + 1) old := f3
  show wpAny _ _ (newTuple [.int c tk, .ref hp.objs.size] >>= _) _ _ ⟨m3, g, d, tk + 1, os⟩
  refine bH (wpAny_newTuple ?_)
  have z3 : m3.objs.size = hp.objs.size + 1 := by rw [b3.1, b2.1, z1]
  have le : e < hp.objs.size := Heap.lt_size he
  have f4 : IsEnum (m3.push { cls := .type "tuple", data := .seq #[.int c tk, .ref hp.objs.size] }) e zz (c + 1) old := Heap.get?_push_of_some _ f3
  have t4 : IsTupOf2 (m3.push { cls := .type "tuple", data := .seq #[.int c tk, .ref hp.objs.size] }) m3.objs.size (.int c tk) (.ref hp.objs.size) := Heap.get?_push_size _ rfl
  have z4 : (m3.push { cls := .type "tuple", data := .seq #[.int c tk, .ref hp.objs.size] }).objs.size = hp.objs.size + 2 := by rw [Heap.size_push, z3]
  have k4 : ∀ b o, b ≠ e → m1.get? b = some o → (m3.push { cls := .type "tuple", data := .seq #[.int c tk, .ref hp.objs.size] }).get? b = some o := fun b o n x =>
    Heap.get?_push_of_some _ (b3.extBut b o n (b2.extBut b o n x))
  show wpAny _ _ (Builtin.SmallTypes.ownedTupleIsFree (.ref e) >>= _) _ _ ⟨m3.push { cls := .type "tuple", data := .seq #[.int c tk, .ref hp.objs.size] }, g, d, tk + 1, os⟩
  rw [z3] at t4 ⊢
  generalize m3.push { cls := .type "tuple", data := .seq #[.int c tk, .ref hp.objs.size] } = m4 at f4 t4 z4 k4
  refine bH ?_
  unfold Builtin.SmallTypes.ownedTupleIsFree
  refine bH (wpAny_field f4 rfl (x := .none) rfl (wpAny_pure ?_))
  simp only [if_true]
  refine bH (wpAny_rule ?_)
  refine bH (wpAny_field f4 rfl (x := old) rfl ?_)
  refine bH (wpAny_setField_rec f4 (by simp) fun m5 f5 b5 => ?_)
  replace b5 : Heap.SameBut e m4 m5 := b5
  replace f5 : IsEnum m5 e zz (c + 1) (.ref hp.objs.size) := f5
  show wpAny _ _ (Builtin.SmallTypes.ownedTupleHandOut (.ref e) (.ref (hp.objs.size + 1)) >>= _) _ _ ⟨m5, g, d, tk + 1, os⟩
  refine bH ?_
  unfold Builtin.SmallTypes.ownedTupleHandOut
  refine bH (wpAny_setField_rec f5 (by simp) fun m6 f6 b6 => ?_)
  replace b6 : Heap.SameBut e m5 m6 := b6
  replace f6 : IsEnumOut m6 e zz (c + 1) (.ref hp.objs.size) (hp.objs.size + 1) := f6
  refine wpAny_setField_rec f6 (by simp) fun m7 f7 b7 => ?_
  replace b7 : Heap.SameBut e m6 m7 := b7
  replace f7 : IsEnumOut m7 e zz (c + 1) (.ref hp.objs.size) (hp.objs.size + 1) := f7
  have k7 : ∀ b o, b ≠ e → m4.get? b = some o → m7.get? b = some o := fun b o n x => b7.extBut b o n (b6.extBut b o n (b5.extBut b o n x))
  refine bH (wpAny_letGo (wpAny_pure ⟨_, rfl, hQ x y m7 tk (tk + 1) hx hy f7 ?_ ?_ ?_ ?_ ?_⟩))
  · exact zps_frame D1 D2 q1 fun b hb o x => by
      have nb : b ≠ e := fun z => ne (z ▸ hb)
      exact k7 b o nb (k4 b o nb x)
  · exact k7 _ _ (Nat.ne_of_gt le) (k4 _ _ (Nat.ne_of_gt le) hT)
  · exact k7 _ _ (Nat.ne_of_gt (Nat.lt_succ_of_lt le)) t4
  · rw [b7.1, b6.1, b5.1, z4]
  · exact fun b o nb x => by
      have n1 : b ≠ e := fun z => nb (by simp [z])
      have n2 : b ∉ [zz, O, i1, i2] := fun z => nb (List.mem_cons_of_mem _ z)
      exact k7 b o n1 (k4 b o n1 (ka b o n2 x))
theorem ez_next {Q : Option Value → Shared → Prop} (S : ZipSep2 zz J O i1 i2 g1 g2) (D1 : Draws prog w A.in1.in1 i1 g1 n1 P1 S1) (D2 : Draws prog w A.in1.in1 i2 g2 n2 P2 S2) (he : IsEnum s.heap e zz c old) (q : ZpS zz J O i1 i2 S1 S2 i s.heap)
    (l1 : i < n1) (l2 : i < n2) (ne : e ∉ zz :: J :: O :: (g1 ++ g2))
    (hQ : ∀ x y k t tk, P1 i x → P2 i y → IsEnumOut k e zz (c + 1) (.ref s.heap.objs.size) (s.heap.objs.size + 1) → ZpS zz J O i1 i2 S1 S2 (i + 1) k → IsTupOf2 k s.heap.objs.size x y →
      IsTupOf2 k (s.heap.objs.size + 1) (.int c t) (.ref s.heap.objs.size) → k.objs.size = s.heap.objs.size + 2 →
      (∀ b o, b ∉ [e, zz, O, i1, i2] → s.heap.get? b = some o → k.get? b = some o) → Q (some (.ref (s.heap.objs.size + 1))) { s with heap := k, toks := tk }) :
    wpAny (model prog w) A (pyNext (.ref e)) Q E s := by
  have hT : s.TypeIs (.ref e) "enumerate" := ⟨_, he, rfl⟩
  unfold pyNext
  exact bH (wpAny_attempt (wpAny_callSpecial?_slot (name := Str.ofString "__next__") hT F.slot_enumerate_next
    (wpAny_call_entry F.slot_enumerate_next hT F.entry_enumerate_next
      (ez_item S D1 D2 he q l1 l2 ne fun x y k t tk a1 a2 a3 a4 a5 a6 a7 a8 => wpAny_pure (hQ x y k t tk a1 a2 a3 a4 a5 a6 a7 a8)) (F.args_enumerate_next_1 _))))
theorem ez_end {Q : Option Value → Shared → Prop} (S : ZipSep2 zz J O i1 i2 g1 g2) (D1 : Draws prog w A.in1.in1 i1 g1 n1 P1 S1) (D2 : Draws prog w A.in1.in1 i2 g2 n2 P2 S2) (he : IsEnum s.heap e zz c old) (q : ZpS zz J O i1 i2 S1 S2 (min n1 n2) s.heap)
    (hQ : ∀ k tk, (∀ b o, b ∉ [e, zz, O, i1, i2] → s.heap.get? b = some o → k.get? b = some o) → Q none { s with heap := k, toks := tk }) : wpAny (model prog w) A (pyNext (.ref e)) Q E s := by
  have hT : s.TypeIs (.ref e) "enumerate" := ⟨_, he, rfl⟩
  unfold pyNext
  refine bH (wpAny_attempt (wpAny_callSpecial?_slot (name := Str.ofString "__next__") hT F.slot_enumerate_next
    (wpAny_call_entry F.slot_enumerate_next hT F.entry_enumerate_next ?_ (F.args_enumerate_next_1 _))))
  show wpAny _ _ (field (.ref e) 2 >>= _) _ _ _
  refine bH (wpAny_field he rfl (x := .ref zz) rfl ?_)
  refine bH (zp_nextEnd S D1 D2 q fun k tk x ka hx => ?_)
  obtain ⟨o, ho, hc⟩ := hx
  refine bH (wpAny_isInstance (T := "StopIteration") (b := true) ⟨o, ho, hc⟩ isSubtype_stop ?_)
  exact wpAny_pure (hQ k tk fun b o nb y => ka b o (fun z => nb (List.mem_cons_of_mem _ z)) y)
end
/-! two new objects at once -/
section
variable {X : Cx} {pins : List (Addr × Obj)} {σ : St} {H : Hp} {s : Shared} {h' : Heap}
theorem Inv.turned2 {t' : Nat} {ch : List Addr} {T T2 : Addr} {ob ob2 : HO} (I : Inv X pins σ H s) (k : ∀ b o, b ∉ ch → s.heap.get? b = some o → h'.get? b = some o) (hf : ∀ b ∈ ch, FpOk X pins H b) (hT : s.heap.objs.size ≤ T)
    (hT2 : s.heap.objs.size ≤ T2) (new : ObjOk X.prog X.w (upd (upd H T2 ob2) T ob) h' T ob) (new2 : ObjOk X.prog X.w (upd (upd H T2 ob2) T ob) h' T2 ob2) : Inv X pins σ (upd (upd H T2 ob2) T ob) { s with heap := h', toks := t' } := by
  have m1 : H T = none := I.hok.fresh hT
  have m2 : H T2 = none := I.hok.fresh hT2
  have old : ∀ {b u}, H b = some u → upd (upd H T2 ob2) T ob b = some u := fun {b u} e => by rw [upd_ne (ne_of_none e m1), upd_ne (ne_of_none e m2)]; exact e
  have off : ∀ b u, H b = some u → b ∉ ch := fun b u e z => by
    have q := (hf b z).1
    rw [q] at e; cases e
  refine I.step (g' := s.gens) (d' := s.drawn) (ch := ch) (fun b hb => ⟨(hf b hb).2.2.2.1, (hf b hb).2.1, (hf b hb).2.2.2.2.1, (hf b hb).2.2.2.2.2⟩) (fun b o _ _ hc e _ => k b o hc e) (fun b o _ _ hc e _ => ⟨o.slots, k b o hc e⟩)
    (fun b o _ e n => ?_) (fun b o hc e => ⟨o, k b o hc e⟩) (fun b xs e => old e) (fun b o u e => old e) (fun b ps e => ⟨#[], ?_⟩) (fun m hm => ?_) (fun b u e => ?_) I.bare
  · have lb := Heap.lt_size e
    rw [upd_ne (Nat.ne_of_lt (Nat.lt_of_lt_of_le lb hT)), upd_ne (Nat.ne_of_lt (Nat.lt_of_lt_of_le lb hT2))]; exact n
  · rw [old e]; simp
  · obtain ⟨o, es, ep, ho, r⟩ := hm
    exact ⟨o, es, ep, k _ o (fun z => (hf _ z).2.1 rfl) ho, r⟩
  · by_cases hb : b = T
    · subst hb
      rw [upd_same] at e
      cases e
      exact new
    · rw [upd_ne hb] at e
      by_cases hb2 : b = T2
      · subst hb2
        rw [upd_same] at e
        cases e
        exact new2
      · rw [upd_ne hb2] at e
        refine (I.hok b u e).stay (fun c v hc q => k c v ?_ q) (fun c q => old q) fun c xs q => old q
        rcases hc with z | z
        · rw [z]; exact off b u e
        · exact off c _ z
end
/-- new pairs of a number and a new pair -/
def JE (G : Hp → Prop) (n : Nat) (items : Hp → Nat → V → V → Prop) : It :=
  ⟨fun i H => i < n ∧ G H, fun i H v H' => ∃ T2 T x y, v = .ref T ∧ H T2 = none ∧ (upd H T2 (.tup [x, y])) T = none ∧ H' = upd (upd H T2 (.tup [x, y])) T (.tup [.int (i : Nat), .ref T2]) ∧ items H i x y, fun i H => i = n ∧ G H⟩
theorem turn_ez {P : Program} {w : World} {K : PySem.W.Frag} {elts : List Expr} {kk : Nat} {tpos : Pos} (k1 k2 : SK) {e z TI TO i1 i2 : Addr} (Z : Zp2 z TI TO i1 i2) (ne : e ∉ [z, TI, TO, i1, i2]) :
    Turn P w K (.Tuple elts kk tpos) (JE (fun H => k1.holds H ∧ k2.holds H) (min k1.len k2.len) (fun H i x y => k1.item H i x ∧ k2.item H i y)) [e, z, TI, TO, i1, i2] e
      (fun i h => (∃ old, IsEnum h e z ((i : Nat) : Int) old) ∧ ZpS z TI TO i1 i2 (k1.it i1) (k2.it i2) i h) := by
  have main : ∀ (X : Cx), X.calm = true → ∀ (i : Nat) (pins : List (Addr × Obj)) (s : Shared) (σ : St) (H : Hp), Inv X pins σ H s → (∀ b ∈ [e, z, TI, TO, i1, i2], FpOk X pins H b) → (k1.holds H ∧ k2.holds H) → k1.it i1 i s.heap → k2.it i2 i s.heap →
      ∃ g1 g2 P1 P2 S1 S2, ZipSep2 z TI TO i1 i2 g1 g2 ∧ Draws X.prog X.w X.A.in1.in1 i1 g1 k1.len P1 S1 ∧ Draws X.prog X.w X.A.in1.in1 i2 g2 k2.len P2 S2 ∧ e ∉ z :: TI :: TO :: (g1 ++ g2) ∧ S1 i s.heap ∧ S2 i s.heap ∧
        (∀ j h, S1 j h → k1.it i1 j h) ∧ (∀ j h, S2 j h → k2.it i2 j h) ∧ (∀ j v, P1 j v → ∃ x, k1.item H j x ∧ RelV x v) ∧ ∀ j v, P2 j v → ∃ x, k2.item H j x ∧ RelV x v := by
    intro X hc i pins s σ H I hf hG h1 h2
    obtain ⟨src1, Pd1, St1, Dr1, hS1, hsrc1, hk1, hP1⟩ := k1.draws I (A := X.A.in1.in1) (I.ok.hd hc) hG.1 (hf i1 (by simp)).1 h1
    obtain ⟨src2, Pd2, St2, Dr2, hS2, hsrc2, hk2, hP2⟩ := k2.draws I (A := X.A.in1.in1) (I.ok.hd hc) hG.2 (hf i2 (by simp)).1 h2
    have m1 : ∀ b ∈ [e, z, TI, TO, i1, i2], b ≠ i1 → b ∉ i1 :: src1 := fun b hb h q => by
      rcases List.mem_cons.mp q with q | q
      · exact h q
      · exact hsrc1 b q (hf b hb).1
    have m2 : ∀ b ∈ [e, z, TI, TO, i1, i2], b ≠ i2 → b ∉ i2 :: src2 := fun b hb h q => by
      rcases List.mem_cons.mp q with q | q
      · exact h q
      · exact hsrc2 b q (hf b hb).1
    refine ⟨_, _, _, _, _, _, ?_, Dr1, Dr2, ?_, hS1, hS2, hk1, hk2, hP1, hP2⟩
    · exact { TIz := Z.a, TOz := Z.b, TITO := Z.c, TIi1 := Z.d, mem1 := List.mem_cons_self, zf1 := m1 z (by simp) Z.f, Tf1 := m1 TO (by simp) Z.h, TIi2 := Z.e, mem2 := List.mem_cons_self, zf2 := m2 z (by simp) Z.g, Tf2 := m2 TO (by simp) Z.i,
              sep1_2 := m2 i1 (by simp) Z.j, sep2_1 := m1 i2 (by simp) Z.j.symm }
    · have a1 := m1 e (by simp) (fun q => ne (by simp [q]))
      have a2 := m2 e (by simp) (fun q => ne (by simp [q]))
      intro q
      have q' : e = z ∨ e = TI ∨ e = TO ∨ e ∈ i1 :: src1 ∨ e ∈ i2 :: src2 := by simpa [or_assoc] using q
      rcases q' with q | q | q | q | q
      · exact ne (by simp [q])
      · exact ne (by simp [q])
      · exact ne (by simp [q])
      · exact a1 q
      · exact a2 q
  have sub : ∀ b, b ∉ [e, z, TI, TO, i1, i2] → b ∉ [e, z, TO, i1, i2] := fun b hb q => by
    simp only [List.mem_cons, List.not_mem_nil, or_false, not_or] at hb q
    rcases q with q | q | q | q | q
    · exact hb.1 q
    · exact hb.2.1 q
    · exact hb.2.2.2.1 q
    · exact hb.2.2.2.2.1 q
    · exact hb.2.2.2.2.2 q
  refine ⟨by simp, fun i h st b hb => ?_, fun i h h' st hk => ?_, ?_, ?_, fun A i s Q E st h => ?_⟩
  · obtain ⟨⟨old, he⟩, ⟨v, f, hz, hv⟩, hTI, ⟨a1, a2, hTO⟩, h1, h2⟩ := st
    have e' : b = e ∨ b = z ∨ b = TI ∨ b = TO ∨ b = i1 ∨ b = i2 := by simpa using hb
    rcases e' with q | q | q | q | q | q
    · rw [q]; exact ⟨_, he, fun v q => nomatch q⟩
    · rw [q]; exact ⟨_, hz, fun v q => nomatch q⟩
    · rw [q]; exact ⟨_, hTI, fun v q => nomatch q⟩
    · rw [q]; exact ⟨_, hTO, fun v q => nomatch q⟩
    · rw [q]; exact SK.live h1
    · rw [q]; exact SK.live h2
  · obtain ⟨⟨old, he⟩, ⟨v, f, hz, hv⟩, hTI, ⟨a1, a2, hTO⟩, h1, h2⟩ := st
    exact ⟨⟨old, hk e (by simp) _ he⟩, ⟨v, f, hk z (by simp) _ hz, hv⟩, hk TI (by simp) _ hTI, ⟨a1, a2, hk TO (by simp) _ hTO⟩, SK.keep h1 fun o q => hk i1 (by simp) o q, SK.keep h2 fun o q => hk i2 (by simp) o q⟩
  · intro X hP hw hK hc i pins s σ H E I hf st hg
    obtain ⟨⟨old, he⟩, hA, hTI, hTO, h1, h2⟩ := st
    obtain ⟨hi, hG⟩ := hg
    subst hP hw hK
    obtain ⟨g1, g2, P1, P2, S1, S2, S, D1, D2, en, s1, s2, c1, c2, p1, p2⟩ := main X hc i pins s σ H I hf hG h1 h2
    have lt1 : i < k1.len := Nat.lt_of_lt_of_le hi (Nat.min_le_left ..)
    have lt2 : i < k2.len := Nat.lt_of_lt_of_le hi (Nat.min_le_right ..)
    refine ez_next S D1 D2 he ⟨hA, hTI, hTO, s1, s2⟩ lt1 lt2 en fun x y k t tk hx hy ho q1 t2 t1 hsz ka => ?_
    refine ⟨.ref (s.heap.objs.size + 1), rfl, ?_⟩
    refine wpAny_letOwnedTupleGo_enum (s := { s with heap := k, toks := tk }) ho fun k' he' b' => ?_
    replace b' : Heap.SameBut e k k' := b'
    have lz : e < s.heap.objs.size := Heap.lt_size he
    obtain ⟨x', hx', rx⟩ := p1 i x hx
    obtain ⟨y', hy', ry⟩ := p2 i y hy
    have kk : ∀ b o, b ∉ [e, z, TI, TO, i1, i2] → s.heap.get? b = some o → k'.get? b = some o := fun b o hb q => b'.extBut b o (fun z => hb (by simp [z])) (ka b o (sub b hb) q)
    have t2' : IsTupOf2 k' s.heap.objs.size x y := b'.extBut _ _ (Nat.ne_of_gt lz) t2
    have t1' : IsTupOf2 k' (s.heap.objs.size + 1) (.int (i : Nat) t) (.ref s.heap.objs.size) := b'.extBut _ _ (Nat.ne_of_gt (Nat.lt_succ_of_lt lz)) t1
    have n2 : H s.heap.objs.size = none := I.hok.fresh (Nat.le_refl _)
    have n1 : H (s.heap.objs.size + 1) = none := I.hok.fresh (Nat.le_succ _)
    have nn : s.heap.objs.size ≠ s.heap.objs.size + 1 := Nat.ne_of_lt (Nat.lt_succ_self _)
    have o1 : ObjOk X.prog X.w (upd (upd H s.heap.objs.size (.tup [x', y'])) (s.heap.objs.size + 1) (.tup [.int (i : Nat), .ref s.heap.objs.size])) k' (s.heap.objs.size + 1) (.tup [.int (i : Nat), .ref s.heap.objs.size]) :=
      ⟨by show 2 ≤ sizeLine; decide, [.int (i : Nat) t, .ref s.heap.objs.size], .cons ⟨t, rfl⟩ (.cons rfl .nil), ⟨_, t1', rfl, _, rfl⟩⟩
    have o2 : ObjOk X.prog X.w (upd (upd H s.heap.objs.size (.tup [x', y'])) (s.heap.objs.size + 1) (.tup [.int (i : Nat), .ref s.heap.objs.size])) k' s.heap.objs.size (.tup [x', y']) :=
      ⟨by show 2 ≤ sizeLine; decide, [x, y], .cons rx (.cons ry .nil), ⟨_, t2', rfl, _, rfl⟩⟩
    have I1 := I.turned2 (t' := tk) (ch := [e, z, TI, TO, i1, i2]) kk hf (Nat.le_succ _) (Nat.le_refl _) o1 o2
    refine ⟨.ref (s.heap.objs.size + 1), _, I1, rfl, ⟨s.heap.objs.size, s.heap.objs.size + 1, x', y', rfl, n2, by rw [upd_ne (Ne.symm nn)]; exact n1, rfl, hx', hy'⟩, ?_, fun b hb => ?_⟩
    · have q2 : ZpS z TI TO i1 i2 S1 S2 (i + 1) k' := zps_frame (n1 := k1.len) (n2 := k2.len) D1 D2 q1 fun b hb o q => b'.extBut b o (fun z => en (z ▸ hb)) q
      obtain ⟨q3, q4, q5, q6, q7⟩ := q2
      refine ⟨⟨(.ref s.heap.objs.size), ?_⟩, q3, q4, q5, c1 _ _ q6, c2 _ _ q7⟩
      rw [show (((i + 1 : Nat) : Nat) : Int) = (i : Int) + 1 by omega]
      exact he'
    · have hlt : b < s.heap.objs.size := by
        have e' : b = e ∨ b = z ∨ b = TI ∨ b = TO ∨ b = i1 ∨ b = i2 := by simpa using hb
        obtain ⟨v, f, hz, hv⟩ := hA
        obtain ⟨a1, a2, hTO⟩ := hTO
        rcases e' with q | q | q | q | q | q
        · rw [q]; exact lz
        · rw [q]; exact Heap.lt_size hz
        · rw [q]; exact Heap.lt_size hTI
        · rw [q]; exact Heap.lt_size hTO
        · rw [q]; obtain ⟨o, ho, _⟩ := SK.live h1; exact Heap.lt_size ho
        · rw [q]; obtain ⟨o, ho, _⟩ := SK.live h2; exact Heap.lt_size ho
      rw [upd_ne (Nat.ne_of_lt (Nat.lt_succ_of_lt hlt)), upd_ne (Nat.ne_of_lt hlt)]
      exact (hf b hb).1
  · intro X hP hw hK hc i pins s σ H E I hf st hg
    obtain ⟨⟨old, he⟩, hA, hTI, hTO, h1, h2⟩ := st
    obtain ⟨rfl, hG⟩ := hg
    subst hP hw hK
    obtain ⟨g1, g2, P1, P2, S1, S2, S, D1, D2, en, s1, s2, c1, c2, p1, p2⟩ := main X hc _ pins s σ H I hf hG h1 h2
    exact ez_end S D1 D2 he ⟨hA, hTI, hTO, s1, s2⟩ fun k tk ka => ⟨rfl, I.turnedL (t' := tk) (ch := [e, z, TI, TO, i1, i2]) (fun b o hb q => ka b o (sub b hb) q) hf⟩
  · obtain ⟨⟨_, he⟩, _⟩ := st
    exact wpAny_pyIter_enum he h
/-! enumerate of a thing that is its own iterator -/
theorem meets_enum_self {z : Addr} :
    Meets (Builtin.«enumerate.__new__» ⟨[.type "enumerate", .ref z], []⟩) (fun _ R s => s.TypeIs (.ref z) "zip" ∧ (∃ J O, IsZip s.heap z J O .none) ∧
      R (.ok (.ret (.ref s.heap.objs.size))) { s with heap := s.heap.push { cls := .type "enumerate", data := .fields #[.none, .bool false, .ref z, rawInt 0, .none, .none] } }) :=
  .of_wp fun prog w A R s h => by
    obtain ⟨hp, g, d, tk, os⟩ := s; obtain ⟨hT, ⟨J, O, hz⟩, h⟩ := h
    have hsub := sub_enumerate
    have q1 : ∀ {A' : Around} {E : Value → Shared → Prop} {Q : Value → Shared → Prop}, Q (.ref z) ⟨hp, g, d, tk, os⟩ → wpAny (model prog w) A' (pyIter (.ref z)) Q E ⟨hp, g, d, tk, os⟩ :=
      fun q => wpAny_pyIter_zip hz q
    wp_walk using q1
    refine wpAny_stack_any fun st => wpAny_pure ?_
    split
    · rename_i c _ _ _ _ _
      cases (c == Value.type "enumerate")
      · wp_walk using q1
        exact ⟨_, rfl, h⟩
      · wp_walk using q1
        exact ⟨_, rfl, h⟩
    · wp_walk using q1
      exact ⟨_, rfl, h⟩
theorem enum_self {prog : Program} {w : World} {A : Around} {E : Value → Shared → Prop} {s : Shared} {z J O : Addr} {Q : Value → Shared → Prop} (hz : IsZip s.heap z J O .none)
    (h : ∀ k, IsEnum k s.heap.objs.size z 0 .none → (∀ b o, s.heap.get? b = some o → k.get? b = some o) → Q (.ref s.heap.objs.size) { s with heap := k }) :
    wpAny (model prog w) A (call (.type "enumerate") [.ref z]) Q E s := by
  refine callType_new F.called_enumerate (by decide) (F.typeCall_enumerate_1 _) (F.newCall_enumerate_1 _) (fun obj => F.args_object_init_2 obj _) F.entry_enumerate_new
    meets_enum_self ⟨⟨_, hz, rfl⟩, ⟨_, _, hz⟩, ?_⟩
  have he : IsEnum (s.heap.push { cls := .type "enumerate", data := .fields #[.none, .bool false, .ref z, rawInt 0, .none, .none] }) s.heap.objs.size z 0 .none := Heap.get?_push_size _ rfl
  exact ⟨⟨_, he, rfl⟩, h _ he fun b o x => Heap.get?_push_of_some _ x⟩
def iEZ (ta : TA) : TI := fun σ H R => ta σ H fun vs H1 => ∃ k1 k2 : SK, vs = [k1.val, k2.val] ∧ k1.holds H1 ∧ k2.holds H1 ∧ R (JE (fun H => k1.holds H ∧ k2.holds H) (min k1.len k2.len) (fun H i x y => k1.item H i x ∧ k2.item H i y)) H1
theorem pi_ez {X : Cx} {e e2 : Expr} {ta : TA} {p p' pos pos' tpos : Pos} {elts : List Expr} {kk : Nat} (hg : Gl X "zip") (hm : X.mg "zip" = none) (hg' : Gl X "enumerate") (hm' : X.mg "enumerate" = none) (ha : PA X [e, e2] ta)
    (hs : starEach [e, e2] X.env = (false, eval e X.env) :: starEach [e2] X.env := by rfl) (hpl : (backTo pos (starEach [e2] X.env)).any (·.1) = false := by rfl) :
    PI X (.Tuple elts kk tpos) (.Call (.Name "enumerate" p') [.Call (.Name "zip" p) [e, e2] [] pos] [] pos') (iEZ ta) := by
  refine ⟨fun pins s σ H R I h => ?_⟩
  refine Call_ (ld_blt I hg' hm' boot_enumerate (PyProof.Rows.callWith_type1 (rest := []) (PySem.Calls.spliced_cons (thn ?_ fun v s1 h1 => PySem.Calls.spliced_nil h1)) rfl rfl))
  refine thn (Call_ (ld_blt I hg hm PyProof.Rows.boot_zip (PyProof.Rows.callWith_type1 (thn (ha.run pos pins s σ H _ I h) fun us s1 ⟨vs, H1, I1, r1, q1⟩ => ?_) hs hpl))) fun _ _ x => x
  obtain ⟨k1, k2, rfl, hk1, hk2, q⟩ := q1
  obtain ⟨u, u', rfl, ru, ru'⟩ := vals2 r1
  obtain ⟨o, Hh, B, h1, hit⟩ := k1.begins I1 hk1 ru
  obtain ⟨o', Hh', B', h1', hit'⟩ := k2.begins I1 hk2 ru'
  refine zip_begins2 B B' h1 h1' fun h' hz hTI hTO ho ho' hsz hkk => ?_
  generalize hN : s1.heap.objs.size = N at hz hTI hTO ho ho' hsz
  refine enum_self (s := { s1 with heap := h' }) hz fun k he kk => ?_
  replace he : IsEnum k h'.objs.size (N + 4) 0 .none := he
  rw [hsz] at he
  have hN' : (h'.objs.size : Nat) = N + 5 := hsz
  refine wpAny_pyIter_enum (s := { s1 with heap := k }) (e := h'.objs.size) (by rw [hsz]; exact he) ?_
  have I2 : Inv X pins σ H1 { s1 with heap := k } := I1.kept (t' := s1.toks) fun b o e => kk b o (hkk b o e)
  have Z : Zp2 (N + 4) (N + 2) (N + 3) N (N + 1) := by
    have q : ∀ n m : Nat, n ≠ m → ∀ N : Nat, N + n ≠ N + m := fun n m h N => by omega
    exact ⟨q 2 4 (by decide) N, q 3 4 (by decide) N, q 2 3 (by decide) N, q 2 0 (by decide) N, q 2 1 (by decide) N, q 4 0 (by decide) N, q 4 1 (by decide) N, q 3 0 (by decide) N, q 3 1 (by decide) N, q 0 1 (by decide) N⟩
  have en : N + 5 ∉ [N + 4, N + 2, N + 3, N, N + 1] := by
    have q : ∀ N : Nat, N + 5 ∉ [N + 4, N + 2, N + 3, N, N + 1] := fun N z => by
      simp only [List.mem_cons, List.not_mem_nil, or_false] at z
      omega
    exact q N
  refine ⟨N + 5, [N + 5, N + 4, N + 2, N + 3, N, N + 1], _, _, H1, by rw [hsz], I2, turn_ez k1 k2 Z en, ⟨⟨.none, he⟩, ⟨.none, false, kk _ _ hz, .inl rfl⟩, kk _ _ hTI, ⟨_, _, kk _ _ hTO⟩, hit _ _ (kk _ _ ho), hit' _ _ (kk _ _ ho')⟩, fun c hcm => ?_, q⟩
  have e' : c = N + 5 ∨ c = N + 4 ∨ c = N + 2 ∨ c = N + 3 ∨ c = N ∨ c = N + 1 := by simpa using hcm
  have hle : s1.heap.objs.size ≤ c := by
    rw [hN]
    rcases e' with z | z | z | z | z | z
    · rw [z]; exact Nat.le_add_right _ _
    · rw [z]; exact Nat.le_add_right _ _
    · rw [z]; exact Nat.le_add_right _ _
    · rw [z]; exact Nat.le_add_right _ _
    · rw [z]; exact Nat.le_refl _
    · rw [z]; exact Nat.le_add_right _ _
  exact I1.fpOk hle (I1.hok.fresh hle)
/-! ### what is walked, in data -/
theorem walk_JE {G : Hp → Prop} {n : Nat} {items : Hp → Nat → V → V → Prop} : Walk (JE G n items) n G (fun i H v H' => ∃ T2 T x y, v = .ref T ∧ H T2 = none ∧ (upd H T2 (.tup [x, y])) T = none ∧ H' = upd (upd H T2 (.tup [x, y])) T (.tup [.int (i : Nat), .ref T2]) ∧ items H i x y) :=
  ⟨fun i H hi q => ⟨hi, q⟩, fun H q => ⟨rfl, q⟩, fun i H x H' _ _ y => y⟩
end L2
namespace DL
open PySem PySem.Spec PyProof.Rows L2
variable [Tab]
def mEnumZip (ms : M (List D)) : M Src := fun ρ μ => (ms ρ μ).bind fun p => match p.1 with
  | [d, e] => match srcD p.2 d, srcD p.2 e with
      | some s, some t => .ok (⟨enumFrom 0 (zipD s.items t.items), s.gs ++ t.gs⟩, p.2)
      | _, _ => .no
  | _ => .no
section
variable {X : Cx} {W : WX} {e e2 : Expr} {ms : M (List D)} {p p' pos pos' tpos : Pos}
theorem di_enumZip {elts : List Expr} {kk : Nat} (hm : X.mg "zip" = none) (hm' : X.mg "enumerate" = none) (ha : DA X W [e, e2] ms) (hg : Gl X "zip" := by rfl) (hg' : Gl X "enumerate" := by rfl)
    (hs : starEach [e, e2] X.env = (false, eval e X.env) :: starEach [e2] X.env := by rfl) (hpl : (backTo pos (starEach [e2] X.env)).any (·.1) = false := by rfl) :
    DI X W (.Tuple elts kk tpos) (.Call (.Name "enumerate" p') [.Call (.Name "zip" p) [e, e2] [] pos] [] pos') (mEnumZip ms) := pi_imp (pi_ez hg hm hg' hm' ha hs hpl) fun σ H Q h => by
  obtain ⟨ρ, μ, A, rs, rp, h⟩ := h
  refine ⟨ρ, μ, A, rs, rp, PV.bind h fun ds μ1 vs A1 H1 e1 r1 rv h => ?_⟩
  match ds, rv, h with
  | [d, e], rv, h =>
    obtain ⟨v, w, rfl, rv1, rv2⟩ := two_of rv
    simp only at h
    · cases hs : srcD μ1 d with
      | none => simp only [hs] at h; exact h.elim
      | some s =>
        cases ht : srcD μ1 e with
        | none => simp only [hs, ht] at h; exact h.elim
        | some t =>
          simp only [hs, ht] at h
          obtain ⟨k, rfl, hk, hl, hrun⟩ := sk_of r1 hs rv1
          obtain ⟨j, rfl, hj, hl', hrun'⟩ := sk_of r1 ht rv2
          have hR : RSrc (Xg X) A1 H1 ⟨enumFrom 0 (zipD s.items t.items), s.gs ++ t.gs⟩ (JE (fun H => k.holds H ∧ j.holds H) (min k.len j.len) (fun H i x y => k.item H i x ∧ j.item H i y)) := by
            refine ⟨fun H => k.holds H ∧ j.holds H, fun i H v H' => ∃ T2 T x y, v = .ref T ∧ H T2 = none ∧ (upd H T2 (.tup [x, y])) T = none ∧ H' = upd (upd H T2 (.tup [x, y])) T (.tup [.int (i : Nat), .ref T2]) ∧ k.item H i x ∧ j.item H i y, ?_, fun A2 μ2 H2 e2 r2 ok => ?_⟩
            · show Walk _ (enumFrom 0 (zipD s.items t.items)).length _ _
              rw [enumFrom_length, zipD_length, ← hl, ← hl']
              exact walk_JE
            · obtain ⟨k1, k2⟩ := hrun A2 μ2 H2 e2 r2 fun p hp => ok p (List.mem_append_left _ hp)
              obtain ⟨j1, j2⟩ := hrun' A2 μ2 H2 e2 r2 fun p hp => ok p (List.mem_append_right _ hp)
              refine ⟨⟨k1, j1⟩, fun i x H3 hi y => ?_⟩
              obtain ⟨T2, T, z, z', rfl, hT2, hT, rfl, hz, hz'⟩ := y
              obtain ⟨d', hd, rd⟩ := k2 i z hz
              obtain ⟨d'', hd', rd'⟩ := j2 i z' hz'
              have e3 := Ext.new (o := .tup [z, z']) r2 hT2
              have r3 := Rep.new (o := .tup [z, z']) r2 hT2
              have e4 := Ext.new (o := .tup [.int (i : Nat), .ref T2]) r3 hT
              have r4 := Rep.new (o := .tup [.int (i : Nat), .ref T2]) r3 hT
              have in2 : RV (Xg X).K A2 (upd H2 T2 (.tup [z, z'])) (.tup [d', d'']) (.ref T2) := by
                refine ⟨T2, _, rfl, .inl upd_same, _, _, rfl, RV.ext r2 e3 _ _ rd, _, _, rfl, RV.ext r2 e3 _ _ rd', rfl⟩
              refine ⟨_, enumFrom_get 0 _ i _ (zipD_get _ _ i d' d'' hd hd'), e3.trans e4, r4, T, _, rfl, .inl upd_same, ?_⟩
              rw [Nat.zero_add]
              exact ⟨_, _, rfl, rfl, _, _, rfl, RV.ext r3 e4 _ _ in2, rfl⟩
          exact ⟨k, j, rfl, hk, hj, h _ A1 H1 (Ext.refl r1) r1 hR⟩
  | [], rv, h => exact h.elim
  | [_], rv, h => exact h.elim
  | _ :: _ :: _ :: _, rv, h => exact h.elim
end
section
variable {ρ : Env} {μ : Store} {X : XP}
theorem wm_enumZip_i (a : M (List D)) (P : Src → Store → Prop) : wm (mEnumZip a) ρ μ X P = wm a ρ μ X fun ds μ => match ds with
    | [d, e] => match srcD μ d, srcD μ e with
        | some s, some t => P ⟨enumFrom 0 (zipD s.items t.items), s.gs ++ t.gs⟩ μ
        | _, _ => False
    | _ => False := by
  simp only [wm_wo, mEnumZip, wo_bind]
  refine wo_c fun ds μ => ?_
  match ds with
  | [] => rfl
  | [_] => rfl
  | [d, e] =>
    simp only
    cases srcD μ d <;> cases srcD μ e <;> rfl
  | _ :: _ :: _ :: _ => rfl
@[simp, simp ↓] theorem wm_enumZip (a : M (List D)) (P : Src → Store → Prop) {tk0 : Tok P} : wm (mEnumZip a) ρ μ X P (tk := tk0) = wm a ρ μ X fun ds μ => match ds with
    | [d, e] => match srcD μ d, srcD μ e with
        | some s, some t => P ⟨enumFrom 0 (zipD s.items t.items), s.gs ++ t.gs⟩ μ
        | _, _ => False
    | _ => False := wm_enumZip_i ..
end
end DL

-- SW
set_option Elab.async false
set_option linter.all false
/-! SW: longest common sublists, and what combing tells of them. Plain lists, no program. -/
namespace SW
def lcs : List Int → List Int → Nat
  | [], _ => 0
  | _ :: _, [] => 0
  | a :: s, b :: t => if a = b then lcs s t + 1 else max (lcs s (b :: t)) (lcs (a :: s) t)
termination_by s t => s.length + t.length
theorem lcs_nil_left (t : List Int) : lcs [] t = 0 := by rw [lcs]
theorem lcs_nil_right (s : List Int) : lcs s [] = 0 := by cases s <;> rw [lcs]
theorem lcs_cons (a b : Int) (s t : List Int) : lcs (a :: s) (b :: t) = if a = b then lcs s t + 1 else max (lcs s (b :: t)) (lcs (a :: s) t) := by rw [lcs]
theorem lcs_ge : ∀ (s t u : List Int), u.Sublist s → u.Sublist t → u.length ≤ lcs s t
  | [], t, u, h, _ => by simp [List.sublist_nil.mp h]
  | a :: s, [], u, _, h => by simp [List.sublist_nil.mp h]
  | a :: s, b :: t, u, h, k => by
    rw [lcs_cons]
    split
    · next e =>
      subst e
      cases u with
      | nil => simp
      | cons c u =>
        have h1 : u.Sublist s := by
          cases h with
          | cons _ h => exact (List.sublist_cons_self c u).trans h
          | cons_cons _ h => exact h
        have h2 : u.Sublist t := by
          cases k with
          | cons _ h => exact (List.sublist_cons_self c u).trans h
          | cons_cons _ h => exact h
        have := lcs_ge s t u h1 h2
        simp; omega
    · next e =>
      cases h with
      | cons _ h =>
        have := lcs_ge s (b :: t) u h k
        omega
      | cons_cons _ h =>
        cases k with
        | cons _ k =>
          have := lcs_ge (a :: s) t _ (List.Sublist.cons_cons a h) k
          omega
        | cons_cons _ k => exact absurd rfl e
termination_by s t => s.length + t.length
theorem lcs_ex : ∀ (s t : List Int), ∃ u : List Int, u.Sublist s ∧ u.Sublist t ∧ u.length = lcs s t
  | [], t => ⟨[], by simp, by simp, by rw [lcs]; rfl⟩
  | a :: s, [] => ⟨[], by simp, by simp, by rw [lcs]; rfl⟩
  | a :: s, b :: t => by
    rw [lcs_cons]
    split
    · next e =>
      subst e
      obtain ⟨u, h1, h2, h3⟩ := lcs_ex s t
      exact ⟨a :: u, h1.cons_cons a, h2.cons_cons a, by simp [h3]⟩
    · obtain ⟨u, h1, h2, h3⟩ := lcs_ex s (b :: t)
      obtain ⟨v, k1, k2, k3⟩ := lcs_ex (a :: s) t
      by_cases hle : lcs s (b :: t) ≤ lcs (a :: s) t
      · exact ⟨v, k1, k2.cons b, by omega⟩
      · exact ⟨u, h1.cons a, h2, by omega⟩
termination_by s t => s.length + t.length
theorem lcs_mono {s s' t t' : List Int} (h : s.Sublist s') (k : t.Sublist t') : lcs s t ≤ lcs s' t' := by
  obtain ⟨u, h1, h2, h3⟩ := lcs_ex s t
  rw [← h3]
  exact lcs_ge _ _ _ (h1.trans h) (h2.trans k)
theorem lcs_reverse (s t : List Int) : lcs s.reverse t.reverse = lcs s t := by
  have one : ∀ s t : List Int, lcs s t ≤ lcs s.reverse t.reverse := fun s t => by
    obtain ⟨u, h1, h2, h3⟩ := lcs_ex s t
    rw [← h3, ← List.length_reverse]
    exact lcs_ge _ _ _ (List.reverse_sublist.mpr h1) (List.reverse_sublist.mpr h2)
  have h := one s.reverse t.reverse
  simp only [List.reverse_reverse] at h
  exact Nat.le_antisymm h (one s t)
theorem lcs_comm (s t : List Int) : lcs s t = lcs t s := by
  have one : ∀ s t : List Int, lcs s t ≤ lcs t s := fun s t => by
    obtain ⟨u, h1, h2, h3⟩ := lcs_ex s t
    rw [← h3]
    exact lcs_ge _ _ _ h2 h1
  exact Nat.le_antisymm (one s t) (one t s)
theorem lcs_le_left (s t : List Int) : lcs s t ≤ s.length := by
  obtain ⟨u, h1, h2, h3⟩ := lcs_ex s t
  rw [← h3]; exact h1.length_le
theorem lcs_le_right (s t : List Int) : lcs s t ≤ t.length := by
  obtain ⟨u, h1, h2, h3⟩ := lcs_ex s t
  rw [← h3]; exact h2.length_le
theorem lcs_of_sub {s t : List Int} (h : t.Sublist s) : lcs s t = t.length := Nat.le_antisymm (lcs_le_right s t) (lcs_ge _ _ _ h (List.Sublist.refl t))
theorem sub_of_lcs {s t : List Int} (h : lcs s t = t.length) : t.Sublist s := by
  obtain ⟨u, h1, h2, h3⟩ := lcs_ex s t
  have e : u = t := h2.eq_of_length (by omega)
  rw [← e]; exact h1
/-- what is left of a common part when signs go -/
theorem thin {s s' : List Int} (h : s.Sublist s') : ∀ u : List Int, u.Sublist s' → ∃ v : List Int, v.Sublist u ∧ v.Sublist s ∧ u.length + s.length ≤ v.length + s'.length := by
  induction h with
  | slnil => intro u hu; exact ⟨[], by simp, by simp, by simp [List.sublist_nil.mp hu]⟩
  | @cons s s' a h ih =>
    intro u hu
    cases hu with
    | cons _ hu =>
      obtain ⟨v, h1, h2, h3⟩ := ih u hu
      exact ⟨v, h1, h2, by simp; omega⟩
    | @cons_cons u _ _ hu =>
      obtain ⟨v, h1, h2, h3⟩ := ih u hu
      exact ⟨v, h1.cons a, h2, by simp; omega⟩
  | @cons_cons s s' a h ih =>
    intro u hu
    cases hu with
    | cons _ hu =>
      obtain ⟨v, h1, h2, h3⟩ := ih u hu
      exact ⟨v, h1, h2.cons a, by simp; omega⟩
    | @cons_cons u _ _ hu =>
      obtain ⟨v, h1, h2, h3⟩ := ih u hu
      exact ⟨a :: v, h1.cons_cons a, h2.cons_cons a, by simp; omega⟩
theorem lcs_more {s s' : List Int} (h : s.Sublist s') (t : List Int) : lcs s' t + s.length ≤ lcs s t + s'.length := by
  obtain ⟨u, h1, h2, h3⟩ := lcs_ex s' t
  obtain ⟨v, k1, k2, k3⟩ := thin h u h1
  have := lcs_ge s t v k2 (k1.trans h2)
  omega
/-! ### combing -/
/-- one sign's way through the row -/
def comb (a : Int) : List Int → List Int → Int → List Int × Int
  | r :: rs, b :: bs, t => if b = a ∨ t > r then ((comb a rs bs r).1.cons t, (comb a rs bs r).2) else ((comb a rs bs t).1.cons r, (comb a rs bs t).2)
  | rs, _, t => (rs, t)
theorem comb_length (a : Int) : ∀ (rs bs : List Int) (t : Int), (comb a rs bs t).1.length = rs.length
  | [], _, t => by simp [comb]
  | _ :: _, [], t => by simp [comb]
  | r :: rs, b :: bs, t => by
    simp only [comb]
    split <;> simp [comb_length a rs bs]
def below (i : Int) (rs : List Int) : Nat := rs.countP (fun r => decide (r < i))
theorem below_cons (i r : Int) (rs : List Int) : below i (r :: rs) = below i rs + if r < i then 1 else 0 := by
  simp [below, List.countP_cons]
/-- combing keeps the tale of the indicators: u is what lies before, backwards -/
theorem comb_tale (i a : Int) (s : List Int) : ∀ (bs rs u : List Int) (t : Int), rs.length = bs.length →
    lcs (a :: s) u + (if t < i then 1 else 0) = lcs s u + 1 →
    (∀ k, lcs s ((bs.take k).reverse ++ u) = lcs s u + below i (rs.take k)) →
    ∀ k, lcs (a :: s) ((bs.take k).reverse ++ u) = lcs (a :: s) u + below i ((comb a rs bs t).1.take k)
  | [], [], u, t, _, _, _, k => by simp [comb, below]
  | [], _ :: _, _, _, h, _, _, _ => by simp at h
  | _ :: _, [], _, _, h, _, _, _ => by simp at h
  | b :: bs, r :: rs, u, t, hl, ht, hh, k => by
    cases k with
    | zero => simp [below]
    | succ k =>
      have h1 := hh 1
      simp only [List.take_succ_cons, List.take_zero, List.reverse_cons, List.reverse_nil, List.nil_append, List.cons_append, below_cons] at h1
      have hb : below i ([] : List Int) = 0 := rfl
      rw [hb] at h1
      have hc := lcs_cons a b s u
      have hn : ∀ j, lcs s ((bs.take j).reverse ++ (b :: u)) = lcs s (b :: u) + below i (rs.take j) := fun j => by
        have := hh (j + 1)
        simp only [List.take_succ_cons, List.reverse_cons, List.append_assoc, List.singleton_append, below_cons] at this
        omega
      have go : ∀ t' r' : Int, lcs (a :: s) (b :: u) + (if t' < i then 1 else 0) = lcs s (b :: u) + 1 → lcs (a :: s) (b :: u) = lcs (a :: s) u + (if r' < i then 1 else 0) →
          lcs (a :: s) (((b :: bs).take (k + 1)).reverse ++ u) = lcs (a :: s) u + below i ((r' :: (comb a rs bs t').1).take (k + 1)) := fun t' r' q1 q2 => by
        have ih := comb_tale i a s bs rs (b :: u) t' (by simpa using hl) q1 hn k
        simp only [List.take_succ_cons, List.reverse_cons, List.append_assoc, List.singleton_append, below_cons]
        omega
      have hT : (t < i ∧ (if t < i then 1 else 0) = 1) ∨ (¬ t < i ∧ (if t < i then 1 else 0) = 0) := by by_cases x : t < i <;> simp [x]
      have hR : (r < i ∧ (if r < i then 1 else 0) = 1) ∨ (¬ r < i ∧ (if r < i then 1 else 0) = 0) := by by_cases x : r < i <;> simp [x]
      simp only [comb]
      by_cases e : b = a
      · rw [if_pos (Or.inl e)]
        rw [if_pos e.symm] at hc
        exact go r t (by omega) (by omega)
      · rw [if_neg (fun z => e z.symm)] at hc
        by_cases g : t > r
        · rw [if_pos (Or.inr g)]
          exact go r t (by omega) (by omega)
        · rw [if_neg (by simp [e, g])]
          exact go t r (by omega) (by omega)
theorem comb_perm (a : Int) : ∀ (rs bs : List Int) (t : Int), ((comb a rs bs t).2 :: (comb a rs bs t).1).Perm (t :: rs)
  | [], _, t => by simp [comb]
  | _ :: _, [], t => by simp [comb]
  | r :: rs, b :: bs, t => by
    simp only [comb]
    split
    · have ih := comb_perm a rs bs r
      exact (List.Perm.swap ..).trans (List.Perm.cons t ih)
    · have ih := comb_perm a rs bs t
      exact (List.Perm.swap ..).trans ((List.Perm.cons r ih).trans (List.Perm.swap ..))
theorem comb_le (a : Int) : ∀ (rs bs : List Int) (t k : Int), t < k → (∀ p (h : p < rs.length), rs[p] ≤ k + p) → (comb a rs bs t).2 < k + rs.length ∧ ∀ p (h : p < (comb a rs bs t).1.length), (comb a rs bs t).1[p] ≤ k + p
  | [], bs, t, k, h, _ => by simp [comb]; exact h
  | r :: rs, [], t, k, h, g => ⟨by simp [comb]; omega, by simpa [comb] using g⟩
  | r :: rs, b :: bs, t, k, h, g => by
    have h0 := g 0 (by simp)
    have hs : ∀ p (h : p < rs.length), rs[p] ≤ (k + 1) + p := fun p h => by
      have := g (p + 1) (by simp; exact h)
      simp at this
      omega
    simp at h0
    have go : ∀ t' r' : Int, t' < k + 1 → r' ≤ k → (comb a rs bs t').2 < k + ((r :: rs).length : Nat) ∧ ∀ p (h : p < (r' :: (comb a rs bs t').1).length), (r' :: (comb a rs bs t').1)[p] ≤ k + p := fun t' r' q1 q2 => by
      obtain ⟨i1, i2⟩ := comb_le a rs bs t' (k + 1) q1 hs
      refine ⟨by simp; omega, fun p hp => ?_⟩
      cases p with
      | zero => simpa using q2
      | succ p =>
        have := i2 p (by simpa using hp)
        simp
        omega
    simp only [comb]
    split
    · exact go r t (by omega) (by omega)
    · exact go t r (by omega) (by omega)
theorem comb_drop (a : Int) : ∀ (i : Nat) (rs bs : List Int) (t : Int), rs.length = bs.length →
    (comb a rs bs t).1.drop i = (comb a (rs.drop i) (bs.drop i) (comb a (rs.take i) (bs.take i) t).2).1
  | 0, rs, bs, t, _ => by cases rs <;> simp [comb]
  | i + 1, [], [], t, _ => by simp [comb]
  | i + 1, [], _ :: _, t, h => by simp at h
  | i + 1, _ :: _, [], t, h => by simp at h
  | i + 1, r :: rs, b :: bs, t, h => by
    have hl : rs.length = bs.length := by simpa using h
    simp only [comb, List.drop_succ_cons, List.take_succ_cons]
    split
    · simp only [List.drop_succ_cons]
      exact comb_drop a i rs bs r hl
    · simp only [List.drop_succ_cons]
      exact comb_drop a i rs bs t hl
/-- a row behind some signs (s: these, the last one first) -/
structure RowOf (s base row : List Int) : Prop where
  len : row.length = base.length
  le : ∀ p (h : p < row.length), row[p] ≤ p
  nd : (row.filter fun r => decide (0 ≤ r)).Nodup
  tale : ∀ i k : Nat, lcs s ((base.drop i).take k).reverse = below i ((row.drop i).take k)
def row0 (n : Nat) : List Int := (List.range n).map fun i : Nat => (i : Int)
theorem rowOf_zero (base : List Int) : RowOf [] base (row0 base.length) := by
  refine ⟨by simp [row0], fun p h => by simp [row0], ?_, fun i k => ?_⟩
  · refine List.Nodup.sublist List.filter_sublist ?_
    unfold row0 List.Nodup
    rw [List.pairwise_map]
    exact List.nodup_range.imp fun h e => h (by exact_mod_cast e)
  · rw [lcs_nil_left]
    symm
    unfold below
    rw [List.countP_eq_zero]
    intro r hr
    have h1 : r ∈ (row0 base.length).drop i := List.mem_of_mem_take hr
    obtain ⟨j, hj, e⟩ := List.mem_iff_getElem.mp h1
    simp [row0] at e
    simp
    omega
theorem rowOf_step {s base row : List Int} (R : RowOf s base row) (a : Int) : RowOf (a :: s) base (comb a row base (-1)).1 := by
  have hle := comb_le a row base (-1) 0 (by omega) (fun p h => by have := R.le p h; omega)
  refine ⟨by rw [comb_length, R.len], fun p h => by have := hle.2 p h; omega, ?_, fun i k => ?_⟩
  · have hp := (comb_perm a row base (-1)).filter fun r => decide (0 ≤ r)
    have hn : ((-1 :: row).filter fun r => decide (0 ≤ r)).Nodup := by simpa [List.filter_cons] using R.nd
    have := (hp.nodup_iff).mpr hn
    refine List.Nodup.sublist ?_ this
    exact (List.sublist_cons_self _ _).filter _
  · rw [comb_drop a i row base (-1) R.len]
    have ht : (comb a (row.take i) (base.take i) (-1)).2 < (i : Int) ∨ row.length < i := by
      by_cases hi : row.length < i
      · exact .inr hi
      · have := (comb_le a (row.take i) (base.take i) (-1) 0 (by omega) (fun p h => by
          have := R.le p (by simp at h; omega)
          simp
          omega)).1
        simp at this
        left
        omega
    rcases ht with ht | hi
    · have := comb_tale i a s (base.drop i) (row.drop i) [] _ (by simp [R.len]) (by rw [lcs_nil_right, lcs_nil_right, if_pos ht]) (fun k => by rw [List.append_nil, R.tale, lcs_nil_right]; omega) k
      rw [List.append_nil, lcs_nil_right] at this
      omega
    · have h1 : base.drop i = [] := List.drop_eq_nil_of_le (by have := R.len; omega)
      have h2 : row.drop i = [] := List.drop_eq_nil_of_le (by omega)
      rw [h1, h2]
      simp [lcs_nil_right, comb, below]
def combs (base : List Int) (text row : List Int) : List Int := text.foldl (fun row a => (comb a row base (-1)).1) row
theorem rowOf_combs (base : List Int) : ∀ (text s row : List Int), RowOf s base row → RowOf (text.reverse ++ s) base (combs base text row)
  | [], s, row, R => by simpa [combs] using R
  | a :: text, s, row, R => by
    have := rowOf_combs base text (a :: s) _ (rowOf_step R a)
    simpa [combs] using this
/-- the row behind a text -/
def rowT (text base : List Int) : List Int := combs base text (row0 base.length)
theorem rowT_of (text base : List Int) : RowOf text.reverse base (rowT text base) := by
  have := rowOf_combs base text [] _ (rowOf_zero base)
  simpa [rowT] using this
theorem rowT_tale (text base : List Int) (i k : Nat) : lcs text ((base.drop i).take k) = below i (((rowT text base).drop i).take k) := by
  rw [← (rowT_of text base).tale i k, lcs_reverse]
/-! ### passages -/
def isAt (q : Nat) (r : Int) : Bool := r == (q : Int)
/-- where each thread goes out -/
def pas (row : List Int) (n : Nat) : List (Option Nat) := (List.range n).map fun q => row.findIdx? (isAt q)
def out (j : Nat) : Option Nat → Bool
  | some p => decide (p < j)
  | none => false
def lost (ps : List (Option Nat)) (i j : Nat) : Nat := (ps.drop i).countP (out j)
theorem count_at (v : Int) : ∀ (m i : Nat), (List.range' i m).countP (fun q => isAt q v) = if (i : Int) ≤ v ∧ v < i + m then 1 else 0
  | 0, i => by
    rw [if_neg (by omega)]; rfl
  | m + 1, i => by
    rw [List.range'_succ, List.countP_cons, count_at v m (i + 1)]
    by_cases e : v = (i : Int)
    · subst e
      have h1 : ¬ (((i + 1 : Nat) : Int) ≤ (i : Int) ∧ (i : Int) < ((i + 1 : Nat) : Int) + m) := by omega
      have h2 : (i : Int) ≤ i ∧ (i : Int) < i + ((m + 1 : Nat) : Int) := by omega
      have h3 : isAt i (i : Int) = true := by simp [isAt]
      rw [if_neg h1, if_pos h2, if_pos h3]
    · have : isAt i v = false := by simp [isAt, e]
      rw [this]
      simp only [Bool.false_eq_true, if_false, Nat.add_zero]
      by_cases g : (i : Int) + 1 ≤ v ∧ v < (i : Int) + 1 + m
      · rw [if_pos (by omega), if_pos (by omega)]
      · rw [if_neg (by omega), if_neg (by omega)]
theorem countP_split {α : Type} (l : List α) (p q r : α → Bool) (h : ∀ x ∈ l, (p x).toNat = (q x).toNat + (r x).toNat) : l.countP p = l.countP q + l.countP r := by
  induction l with
  | nil => rfl
  | cons x l ih =>
    have hx := h x (by simp)
    have := ih fun y hy => h y (by simp [hy])
    simp only [List.countP_cons]
    cases hp : p x <;> cases hq : q x <;> cases hr : r x <;> simp_all <;> omega
theorem nodup_nn {row : List Int} (nd : (row.filter fun r => decide (0 ≤ r)).Nodup) {p k : Nat} (hp : p < row.length) (hk : k < row.length) (h0 : 0 ≤ row[p]) (he : row[p] = row[k]) : p = k := by
  induction row generalizing p k with
  | nil => simp at hp
  | cons r row ih =>
    have nd' : (row.filter fun r => decide (0 ≤ r)).Nodup := by
      rw [List.filter_cons] at nd
      split at nd
      · exact (List.nodup_cons.mp nd).2
      · exact nd
    have head : ∀ j (hj : j < row.length), 0 ≤ r → r = row[j] → False := fun j hj h e => by
      rw [List.filter_cons, if_pos (by simpa using h)] at nd
      refine (List.nodup_cons.mp nd).1 (List.mem_filter.mpr ⟨?_, by simpa using h⟩)
      rw [e]; exact List.getElem_mem hj
    cases p with
    | zero =>
      cases k with
      | zero => rfl
      | succ k => exact (head k (by simpa using hk) (by simpa using h0) (by simpa using he)).elim
    | succ p =>
      cases k with
      | zero => exact (head p (by simpa using hp) (by simp at he; simp at h0; omega) (by simpa using he.symm)).elim
      | succ k => exact congrArg (· + 1) (ih (p := p) (k := k) nd' (by simpa using hp) (by simpa using hk) (by simpa using h0) (by simpa using he))
theorem find_succ {row : List Int} (nd : (row.filter fun r => decide (0 ≤ r)).Nodup) (q k : Nat) (hk : k < row.length) :
    (out (k + 1) (row.findIdx? (isAt q))).toNat = (out k (row.findIdx? (isAt q))).toNat + (isAt q row[k]).toNat := by
  cases hf : row.findIdx? (isAt q) with
  | none =>
    have := List.findIdx?_eq_none_iff.mp hf row[k] (List.getElem_mem hk)
    rw [this]; rfl
  | some p =>
    obtain ⟨hp, hq, hb⟩ := List.findIdx?_eq_some_iff_getElem.mp hf
    simp only [out]
    by_cases e : p = k
    · subst e
      simp [hq]
    · have hn : isAt q row[k] = false := by
        cases hc : isAt q row[k] with
        | false => rfl
        | true =>
          exfalso
          have e1 : row[p] = (q : Int) := by simpa [isAt] using hq
          have e2 : row[k] = (q : Int) := by simpa [isAt] using hc
          exact e (nodup_nn nd hp hk (by omega) (by omega))
      rw [hn]
      by_cases g : p < k
      · simp [g, Nat.lt_succ_of_lt g]
      · have g2 : ¬ p < k + 1 := by omega
        simp [g, g2]
/-- how many threads are out of a window -/
theorem lost_row {row : List Int} (nd : (row.filter fun r => decide (0 ≤ r)).Nodup) (le : ∀ p (h : p < row.length), row[p] ≤ p) (i : Nat) :
    ∀ j, j ≤ row.length → lost (pas row row.length) i j = (row.take j).countP fun r => decide ((i : Int) ≤ r)
  | 0, _ => by
    rw [List.take_zero, List.countP_nil]
    unfold lost
    rw [List.countP_eq_zero]
    intro e _
    cases e <;> simp [out]
  | j + 1, hj => by
    have ih := lost_row nd le i j (by omega)
    have hk : j < row.length := by omega
    rw [List.take_add_one, List.countP_append, ← ih]
    rw [List.getElem?_eq_getElem hk]
    unfold lost pas
    have hd : ((List.range row.length).map fun q => row.findIdx? (isAt q)).drop i = (List.range' i (row.length - i)).map fun q => row.findIdx? (isAt q) := by
      rw [← List.map_drop, List.range_eq_range', List.drop_range']
      simp
    rw [hd, List.countP_map, List.countP_map]
    rw [countP_split _ ((out (j + 1)) ∘ fun q => row.findIdx? (isAt q)) ((out j) ∘ fun q => row.findIdx? (isAt q)) (fun q => isAt q row[j]) (fun q _ => find_succ nd q j hk)]
    rw [count_at]
    have hl := le j hk
    by_cases g : (i : Int) ≤ row[j]
    · rw [if_pos (by omega)]
      simp [g]
    · rw [if_neg (by omega)]
      simp [g]
theorem lost_below {row : List Int} (nd : (row.filter fun r => decide (0 ≤ r)).Nodup) (le : ∀ p (h : p < row.length), row[p] ≤ p) {i j : Nat} (hj : j ≤ row.length) (hij : i ≤ j) :
    lost (pas row row.length) i j + below i ((row.drop i).take (j - i)) = j - i := by
  rw [lost_row nd le i j hj]
  have e : row.take j = row.take i ++ (row.drop i).take (j - i) := by
    rw [← List.take_add]; congr 1; omega
  have z : (row.take i).countP (fun r => decide ((i : Int) ≤ r)) = 0 := by
    rw [List.countP_eq_zero]
    intro r hr
    obtain ⟨p, hp, e⟩ := List.mem_iff_getElem.mp hr
    simp at hp
    have := le p (by omega)
    simp at e
    simp
    omega
  rw [e, List.countP_append, z, Nat.zero_add]
  have hlen : ((row.drop i).take (j - i)).length = j - i := by simp; omega
  have := List.length_eq_countP_add_countP (l := (row.drop i).take (j - i)) (fun r => decide ((i : Int) ≤ r))
  rw [hlen] at this
  have e2 : below i ((row.drop i).take (j - i)) = ((row.drop i).take (j - i)).countP (fun a => decide ¬(decide ((i : Int) ≤ a) = true)) := by
    unfold below
    refine List.countP_congr fun r _ => ?_
    simp
  omega
theorem lost_none {row : List Int} (nd : (row.filter fun r => decide (0 ≤ r)).Nodup) (le : ∀ p (h : p < row.length), row[p] ≤ p) {i j : Nat} (hj : j ≤ row.length) (hij : j ≤ i) : lost (pas row row.length) i j = 0 := by
  rw [lost_row nd le i j hj, List.countP_eq_zero]
  intro r hr
  obtain ⟨p, hp, e⟩ := List.mem_iff_getElem.mp hr
  simp at hp
  have := le p (by omega)
  simp at e
  simp
  omega
/-- the passage of a text over a base -/
def psg (text base : List Int) : List (Option Nat) := pas (rowT text base) base.length
theorem psg_length (text base : List Int) : (psg text base).length = base.length := by simp [psg, pas]
theorem psg_lost {text base : List Int} {i j : Nat} (hj : j ≤ base.length) (hij : i ≤ j) : lost (psg text base) i j + lcs text ((base.drop i).take (j - i)) = j - i := by
  have R := rowT_of text base
  rw [rowT_tale, psg, ← R.len]
  exact lost_below R.nd R.le (by rw [R.len]; exact hj) hij
theorem psg_lost0 {text base : List Int} {i j : Nat} (hj : j ≤ base.length) (hij : j ≤ i) : lost (psg text base) i j = 0 := by
  have R := rowT_of text base
  rw [psg, ← R.len]
  exact lost_none R.nd R.le (by rw [R.len]; exact hj) hij
end SW
-- DL16
set_option Elab.async false
set_option linter.all false
set_option maxRecDepth 100000
set_option maxHeartbeats 2000000
/-! DL16: o[i] = v; lists of lists in the store. -/
namespace DL
open PySem
open L2 (atI ixN)
section
variable {ρ : Env} {μ : Store}
theorem wg_sub_i (mo mi : M D) (d : D) (P : Env → Store → Prop) : wg (gSubD mo mi d ρ μ) P = wm mo ρ μ X0 fun x μ1 => wm mi ρ μ1 X0 fun y μ2 => match setB μ2 x y d with | some μ3 => P ρ μ3 | none => False := by
  unfold gSubD wm
  cases e : mo ρ μ with
  | no => rfl
  | ex c fs ν => rfl
  | ok p =>
    obtain ⟨x, μ1⟩ := p
    show _ = wo (mi ρ μ1) X0 _
    simp only
    cases e2 : mi ρ μ1 with
    | no => rfl
    | ex c fs ν => rfl
    | ok p2 =>
      obtain ⟨y, μ2⟩ := p2
      show _ = (match setB μ2 x y d with | some μ3 => P ρ μ3 | none => False)
      simp only
      cases setB μ2 x y d <;> rfl
@[simp, simp ↓] theorem wg_sub (mo mi : M D) (d : D) (P : Env → Store → Prop) {tk0 : Tok P} : wg (gSubD mo mi d ρ μ) P (tk := tk0) = wm mo ρ μ X0 fun x μ1 => wm mi ρ μ1 X0 fun y μ2 => match setB μ2 x y d with | some μ3 => P ρ μ3 | none => False := wg_sub_i ..
theorem setB_nat {n k : Nat} {ds : List D} {v : D} (h : lstAt μ n = some ds) (hk : k < ds.length) : setB μ (.ptr n) (.int (k : Int)) v = some (μ.set n (.lst (ds.set k v))) := by
  unfold setB
  have e : μ[n]? = some (.lst ds) := @lstAt_eq ⟨[]⟩ _ _ _ h
  simp only [e]
  have : ixN ds.length (k : Int) = some k := by
    unfold ixN
    simp [hk]
  rw [this]
  rfl
end
@[simp, simp ↓] theorem wm_enumZ {ρ : DL.Env} {μ : Store} {X : XP} (a : M (List D)) (P : Src → Store → Prop) {tk0 : Tok P} : wm (mEnumZip a) ρ μ X P (tk := tk0) = wm a ρ μ X fun ds μ => match ds with
    | [d, e] => match srcD μ d, srcD μ e with
        | some s, some t => P ⟨enumFrom 0 (zipD s.items t.items), s.gs ++ t.gs⟩ μ
        | _, _ => False
    | _ => False := by
  letI : DL.Tab := ⟨[]⟩
  exact wm_enumZip_i ..
/-- for over enumerate -/
theorem wp_forE {α : Type} {ρ : DL.Env} {μ : Store} {k : KE} {wi : M Src} {g : Tg} {b : S} (l : List α) (f : α → D) (I : List α → List α → DL.Env → Store → Prop)
    (h : wm wi ρ μ k.X fun s μ => s.items = enumFrom 0 (l.map f) ∧ s.gs = [] ∧ I [] l ρ μ)
    (hs : ∀ done a rest ρ μ, l = done ++ a :: rest → I done (a :: rest) ρ μ → wg (g (.tup [.int (done.length : Nat), f a]) ρ μ) fun ρ μ => wp b ρ μ { k with N := fun ρ μ => I (done ++ [a]) rest ρ μ, C := fun ρ μ => I (done ++ [a]) rest ρ μ, B := k.N })
    (he : ∀ ρ μ, I l [] ρ μ → k.N ρ μ) : wp (sFor wi g b) ρ μ k := by
  refine wp_for (fun r ρ μ => ∃ done rest, l = done ++ rest ∧ r = enumFrom done.length (rest.map f) ∧ I done rest ρ μ) ?_ ?_ ?_
  · refine wo_imp (o := wi ρ μ) h (fun s μ' q => ?_) fun _ _ _ z => z
    obtain ⟨h1, h2, h3⟩ := q
    refine ⟨⟨[], l, rfl, h1, h3⟩, fun _ _ _ _ p hp => ?_⟩
    rw [h2] at hp
    cases hp
  · rintro d r ρ μ ⟨done, rest, hl, hr, hI⟩
    cases rest with
    | nil => cases hr
    | cons a rest =>
      simp only [List.map_cons, enumFrom] at hr
      injection hr with h1 h2
      subst h1 h2
      have q := hs done a rest ρ μ hl hI
      have e : l = (done ++ [a]) ++ rest := by simp [hl]
      have mono : ∀ {ρ μ}, I (done ++ [a]) rest ρ μ → ∃ done' rest', l = done' ++ rest' ∧ enumFrom (done.length + 1) (rest.map f) = enumFrom done'.length (rest'.map f) ∧ I done' rest' ρ μ := fun hI => ⟨_, _, e, by simp, hI⟩
      unfold wg at q ⊢
      cases eg : g (.tup [.int (done.length : Nat), f a]) ρ μ with
      | nx ρ1 μ1 =>
        rw [eg] at q
        simp only at q ⊢
        unfold wp at q ⊢
        cases eb : b ρ1 μ1 with
        | nx ρ2 μ2 => rw [eb] at q; exact mono q
        | ct ρ2 μ2 => rw [eb] at q; exact mono q
        | bk ρ2 μ2 => rw [eb] at q; exact q
        | rt d μ2 => rw [eb] at q; exact q
        | ex c fs ρ2 μ2 => rw [eb] at q; exact q
        | no => rw [eb] at q; exact q
      | _ => rw [eg] at q; exact q.elim
  · rintro ρ μ ⟨done, rest, hl, hr, hI⟩
    cases rest with
    | nil => rw [List.append_nil] at hl; subst hl; exact he _ _ hI
    | cons a rest => cases hr
/-- for over enumerate -/
theorem wp_forEG {α : Type} {ρ : DL.Env} {μ : Store} {k : KE} {wi : M Src} {g : Tg} {b : S} (l : List α) (f : α → D) (I : List α → List α → DL.Env → Store → Prop)
    (h : wm wi ρ μ k.X fun s μ => s.items = enumFrom 0 (l.map f) ∧ (∀ done rest ρ μ', I done rest ρ μ' → s.ok μ') ∧ I [] l ρ μ)
    (hs : ∀ done a rest ρ μ, l = done ++ a :: rest → I done (a :: rest) ρ μ → wg (g (.tup [.int (done.length : Nat), f a]) ρ μ) fun ρ μ => wp b ρ μ { k with N := fun ρ μ => I (done ++ [a]) rest ρ μ, C := fun ρ μ => I (done ++ [a]) rest ρ μ, B := k.N })
    (he : ∀ ρ μ, I l [] ρ μ → k.N ρ μ) : wp (sFor wi g b) ρ μ k := by
  refine wp_for (fun r ρ μ => ∃ done rest, l = done ++ rest ∧ r = enumFrom done.length (rest.map f) ∧ I done rest ρ μ) ?_ ?_ ?_
  · refine wo_imp (o := wi ρ μ) h (fun s μ' q => ?_) fun _ _ _ z => z
    obtain ⟨h1, h2, h3⟩ := q
    exact ⟨⟨[], l, rfl, h1, h3⟩, fun _ _ _ ⟨_, _, _, _, hI⟩ => h2 _ _ _ _ hI⟩
  · rintro d r ρ μ ⟨done, rest, hl, hr, hI⟩
    cases rest with
    | nil => cases hr
    | cons a rest =>
      simp only [List.map_cons, enumFrom] at hr
      injection hr with h1 h2
      subst h1 h2
      have q := hs done a rest ρ μ hl hI
      have e : l = (done ++ [a]) ++ rest := by simp [hl]
      have mono : ∀ {ρ μ}, I (done ++ [a]) rest ρ μ → ∃ done' rest', l = done' ++ rest' ∧ enumFrom (done.length + 1) (rest.map f) = enumFrom done'.length (rest'.map f) ∧ I done' rest' ρ μ := fun hI => ⟨_, _, e, by simp, hI⟩
      unfold wg at q ⊢
      cases eg : g (.tup [.int (done.length : Nat), f a]) ρ μ with
      | nx ρ1 μ1 =>
        rw [eg] at q
        simp only at q ⊢
        unfold wp at q ⊢
        cases eb : b ρ1 μ1 with
        | nx ρ2 μ2 => rw [eb] at q; exact mono q
        | ct ρ2 μ2 => rw [eb] at q; exact mono q
        | bk ρ2 μ2 => rw [eb] at q; exact q
        | rt d μ2 => rw [eb] at q; exact q
        | ex c fs ρ2 μ2 => rw [eb] at q; exact q
        | no => rw [eb] at q; exact q
      | _ => rw [eg] at q; exact q.elim
  · rintro ρ μ ⟨done, rest, hl, hr, hI⟩
    cases rest with
    | nil => rw [List.append_nil] at hl; subst hl; exact he _ _ hI
    | cons a rest => cases hr
/-- for over a list of the store that stays -/
theorem wp_forLG {α : Type} {ρ : DL.Env} {μ : Store} {k : KE} {wi : M Src} {g : Tg} {b : S} (l : List α) (f : α → D) (I : List α → List α → DL.Env → Store → Prop)
    (h : wm wi ρ μ k.X fun s μ => s.items = l.map f ∧ (∀ done rest ρ μ', I done rest ρ μ' → s.ok μ') ∧ I [] l ρ μ)
    (hs : ∀ done a rest ρ μ, l = done ++ a :: rest → I done (a :: rest) ρ μ → wg (g (f a) ρ μ) fun ρ μ => wp b ρ μ { k with N := fun ρ μ => I (done ++ [a]) rest ρ μ, C := fun ρ μ => I (done ++ [a]) rest ρ μ, B := k.N })
    (he : ∀ ρ μ, I l [] ρ μ → k.N ρ μ) : wp (sFor wi g b) ρ μ k := by
  refine wp_for (fun r ρ μ => ∃ done rest, l = done ++ rest ∧ r = rest.map f ∧ I done rest ρ μ) ?_ ?_ ?_
  · refine wo_imp (o := wi ρ μ) h (fun s μ' q => ?_) fun _ _ _ z => z
    obtain ⟨h1, h2, h3⟩ := q
    exact ⟨⟨[], l, rfl, h1, h3⟩, fun _ _ _ ⟨_, _, _, _, hI⟩ => h2 _ _ _ _ hI⟩
  · rintro d r ρ μ ⟨done, rest, hl, hr, hI⟩
    cases rest with
    | nil => cases hr
    | cons a rest =>
      rw [List.map_cons] at hr
      injection hr with h1 h2
      subst h1 h2
      have q := hs done a rest ρ μ hl hI
      have e : l = (done ++ [a]) ++ rest := by simp [hl]
      have mono : ∀ {ρ μ}, I (done ++ [a]) rest ρ μ → ∃ done' rest', l = done' ++ rest' ∧ rest.map f = rest'.map f ∧ I done' rest' ρ μ := fun hI => ⟨_, _, e, rfl, hI⟩
      unfold wg at q ⊢
      cases eg : g (f a) ρ μ with
      | nx ρ1 μ1 =>
        rw [eg] at q
        simp only at q ⊢
        unfold wp at q ⊢
        cases eb : b ρ1 μ1 with
        | nx ρ2 μ2 => rw [eb] at q; exact mono q
        | ct ρ2 μ2 => rw [eb] at q; exact mono q
        | bk ρ2 μ2 => rw [eb] at q; exact q
        | rt d μ2 => rw [eb] at q; exact q
        | ex c fs ρ2 μ2 => rw [eb] at q; exact q
        | no => rw [eb] at q; exact q
      | _ => rw [eg] at q; exact q.elim
  · rintro ρ μ ⟨done, rest, hl, hr, hI⟩
    cases rest with
    | nil => rw [List.append_nil] at hl; subst hl; exact he _ _ hI
    | cons a rest => cases hr
/-! ### a list of lists -/
structure TabAt (μ ν : Store) (p : Nat) (as : List Nat) (rows : List (List D)) : Prop where
  ext : ∃ r, ν = μ ++ r
  at_ : lstAt ν p = some (as.map D.ptr)
  low : μ.length ≤ p
  len : as.length = rows.length
  nd : as.Nodup
  off : ∀ a ∈ as, μ.length ≤ a ∧ a ≠ p
  row : ∀ (i a : Nat), as[i]? = some a → lstAt ν a = rows[i]?
section
variable {μ ν : Store} {p : Nat} {as : List Nat} {rows : List (List D)}
theorem lstAt_appR {ν r : Store} {n : Nat} {ds : List D} (h : lstAt ν n = some ds) : lstAt (ν ++ r) n = some ds := by
  have hn := lstAt_lt h
  have e : (ν ++ r)[n]? = ν[n]? := List.getElem?_append_left hn
  unfold lstAt at h ⊢
  rw [e]; exact h
theorem TabAt.app (T : TabAt μ ν p as rows) (r : Store) : TabAt μ (ν ++ r) p as rows := by
  obtain ⟨q, hq⟩ := T.ext
  refine ⟨⟨q ++ r, by rw [hq, List.append_assoc]⟩, lstAt_appR T.at_, T.low, T.len, T.nd, T.off, fun i a h => ?_⟩
  have := T.row i a h
  have hi : i < rows.length := by rw [← T.len]; exact (List.getElem?_eq_some_iff.mp h).1
  rw [List.getElem?_eq_getElem hi] at this ⊢
  exact lstAt_appR this
theorem TabAt.get (T : TabAt μ ν p as rows) {i : Nat} {ds : List D} (h : rows[i]? = some ds) : ∃ a, as[i]? = some a ∧ ixD (.ptr p) (.int (i : Nat)) ν = some (.ptr a, ν) ∧ lstAt ν a = some ds := by
  have hi : i < as.length := by rw [T.len]; exact (List.getElem?_eq_some_iff.mp h).1
  refine ⟨as[i], List.getElem?_eq_getElem hi, ?_, ?_⟩
  · rw [ixD_lst T.at_, atI_map, List.getElem?_eq_getElem hi]; rfl
  · rw [T.row i _ (List.getElem?_eq_getElem hi)]; exact h
theorem set_ext {μ r : Store} {n : Nat} (o : MO) (h : μ.length ≤ n) : ∃ r', (μ ++ r).set n o = μ ++ r' := ⟨r.set (n - μ.length) o, List.set_append_right _ _ h⟩
theorem TabAt.set (T : TabAt μ ν p as rows) {i a : Nat} (h : as[i]? = some a) (ds : List D) : TabAt μ (ν.set a (.lst ds)) p as (rows.set i ds) := by
  have ho := T.off a (List.mem_of_getElem? h)
  have hi : i < rows.length := by rw [← T.len]; exact (List.getElem?_eq_some_iff.mp h).1
  have ha : a < ν.length := lstAt_lt (show lstAt ν a = some rows[i] by rw [T.row i a h, List.getElem?_eq_getElem hi])
  obtain ⟨q, hq⟩ := T.ext
  refine ⟨?_, by rw [lstAt_set_ne ho.2]; exact T.at_, T.low, by rw [T.len, List.length_set], T.nd, T.off, fun j b hb => ?_⟩
  · rw [hq]; exact set_ext _ ho.1
  · by_cases e : i = j
    · subst e
      rw [h] at hb; cases hb
      rw [lstAt_set ha, List.getElem?_set_self hi]
    · have : a ≠ b := fun z => by
        subst z
        have h1 := List.getElem?_eq_some_iff.mp h
        have h2 := List.getElem?_eq_some_iff.mp hb
        exact e ((List.getElem_inj T.nd).mp (h1.2.trans h2.2.symm))
      rw [lstAt_set_ne this, List.getElem?_set_ne e]
      exact T.row j b hb
theorem TabAt.snoc (T : TabAt μ ν p as rows) {a : Nat} {ds : List D} (h : lstAt ν a = some ds) (ha : a ∉ as) (hp : a ≠ p) (hl : μ.length ≤ a) : TabAt μ (ν.set p (.lst ((as ++ [a]).map D.ptr))) p (as ++ [a]) (rows ++ [ds]) := by
  obtain ⟨q, hq⟩ := T.ext
  refine ⟨by rw [hq]; exact set_ext _ T.low, lstAt_set (lstAt_lt T.at_), T.low, by simp [T.len], ?_, fun b hb => ?_, fun j b hb => ?_⟩
  · rw [List.nodup_append]
    exact ⟨T.nd, by simp, fun x hx y hy e => by simp at hy; subst hy; exact ha (e ▸ hx)⟩
  · rcases List.mem_append.mp hb with hb | hb
    · exact T.off b hb
    · simp at hb; subst hb; exact ⟨hl, hp⟩
  · by_cases hj : j < as.length
    · rw [List.getElem?_append_left hj] at hb
      have := T.off b (List.mem_of_getElem? hb)
      rw [lstAt_set_ne (Ne.symm this.2), T.row j b hb, List.getElem?_append_left (by rw [← T.len]; exact hj)]
    · rw [List.getElem?_append_right (by omega)] at hb
      have hj2 : j = as.length := by
        have := (List.getElem?_eq_some_iff.mp hb).1
        simp at this; omega
      subst hj2
      simp at hb
      subst hb
      rw [lstAt_set_ne (Ne.symm hp), h, T.len]; simp
theorem mapDs_ptrs (f : Nat → Option D) : ∀ (as : List Nat) (es : List D), as.length = es.length → (∀ (i a : Nat) (e : D), as[i]? = some a → es[i]? = some e → f a = some e) → mapDs true f (as.map D.ptr) = some es
  | [], [], _, _ => by simp [mapDs]
  | [], _ :: _, h, _ => by simp at h
  | _ :: _, [], h, _ => by simp at h
  | a :: as, e :: es, h, q => by
    have h1 : f a = some e := q 0 a e rfl rfl
    have h2 := mapDs_ptrs f as es (by simpa using h) fun i b x hb hx => q (i + 1) b x (by simpa using hb) (by simpa using hx)
    simp [mapDs, mapD, h1, h2]
theorem TabAt.gc (T : TabAt μ ν p as rows) (hf : ∀ r ∈ rows, fzs r = true) (P : D → Store → Prop) {tk0 : Tok P} : gcP 0 μ P (tk := tk0) (.ptr p) ν = P (.rol (rows.map .rol)) μ := by
  obtain ⟨q, hq⟩ := T.ext
  have e1 : frzH true μ.length ν 4 p = some (.rol (rows.map .rol)) := by
    rw [frzH_new T.low T.at_, mapDs_ptrs _ as (rows.map .rol) (by simp [T.len])]
    · rfl
    · intro i a e ha he
      rw [List.getElem?_map] at he
      obtain ⟨r, hr, rfl⟩ := Option.map_eq_some_iff.mp he
      have := T.row i a ha
      rw [hr] at this
      rw [frzH_new (T.off a (List.mem_of_getElem? ha)).1 this, mapDs_fz _ r (hf r (List.mem_of_getElem? hr))]
      rfl
  unfold gcP
  have e2 : mapD true (frzH true (μ.length + 0) ν 4) (.ptr p) = some (.rol (rows.map .rol)) := by simpa [mapD] using e1
  rw [e2, hq, gcS_app]
end
end DL

-- G81d
set_option Elab.async false
set_option linter.all false
set_option maxRecDepth 100000
namespace LW
open PySem DL
def T_KINDS : List (Str × D) := [("text", .str "nt"), ("gone", .str "n"), ("put", .str "npt"), ("out", .str "npp"), ("sign", .str "nps"), ("turn", .str "n"), ("join", .str "nn"), ("mark", .str "nnpp"), ("drop", .str "n"), ("lift", .str "nn")]
noncomputable def b__law_tape : S := (sSeq (sSet (mLst aNil) (gNm 3))
  (sSeq (sFor (mSrc (mGc (mSl slD (mVar 0) oNone (oSome (mC (.int 63)))))) (gNm 4) (sSeq (sSet (mCB absD (aCons (mVar 4) aNil)) (gNm 5))
  (sIf (mTest (mBin geD (mVar 5) (mBin powD (mC (.int 10)) (mC (.int 18))))) (sFor (mRange1 (aCons (mC (.int 60)) aNil)) (gNm 6) (sSeq (sIf (mTest (mBin eqD (mVar 5) (mC (.int 0)))) (fun ρ μ => .bk ρ μ) sNx)
  (sSeq (sE (mBM tyList appendD (mVar 3) (aCons (mBin modD (mVar 5) (mC (.int 1000))) aNil)) fun _ => sNx)
  (sSet (mBin divD (mVar 5) (mC (.int 1000))) (gNm 5))))) sNx)))
  (sSeq (sSet (mBin addD (mBin mulD (mCB lenD (aCons (mVar 0) aNil)) (mC (.int 31))) (mBin mulD (mVar 2) (mC (.int 7919)))) (gNm 7))
  (sSeq (sFor (mSrc (mGc (mSl slD (mVar 0) oNone (oSome (mC (.int 63)))))) (gNm 4) (sSet (mBin modD (mCB int1D (aCons (mBin addD (mBin addD (mBin mulD (mVar 7) (mC (.int 48271))) (mBin modD (mCB int1D (aCons (mVar 4) aNil)) (mC (.int 1000003)))) (mC (.int 11))) aNil)) (mC (.int 2147483647))) (gNm 7)))
  (sSeq (sFor (mRange1 (aCons (mVar 1) aNil)) (gNm 6) (sSeq (sIf (mTest (mBin geD (mCB lenD (aCons (mVar 3) aNil)) (mVar 1))) (fun ρ μ => .bk ρ μ) sNx)
  (sSeq (sSet (mBin modD (mCB int1D (aCons (mBin addD (mBin addD (mBin mulD (mVar 7) (mC (.int 69621))) (mVar 6)) (mC (.int 12345))) aNil)) (mC (.int 2147483647))) (gNm 7))
  (sSeq (sSet (mBin modD (mCB int1D (aCons (mBin mulD (mVar 7) (mBin addD (mVar 7) (mC (.int 7)))) aNil)) (mC (.int 2147483629))) (gNm 8))
  (sE (mBM tyList appendD (mVar 3) (aCons (mBin modD (mBin divD (mVar 8) (mC (.int 13))) (mC (.int 1000))) aNil)) fun _ => sNx)))))
  (sE (mUn revD (mSl slD (mVar 3) oNone (oSome (mVar 1)))) fun d _ μ => .rt d μ))))))
noncomputable def F__law_tape : List D → Store → Out (D × Store) := runF 9 b__law_tape
noncomputable def b_Book___init__ : S := (sSeq (sFldD "Book" "own_states" (mGc (mLst (aCons (mTup (aCons (mTup aNil) (aCons (mTup aNil) aNil))) aNil))) (mVar 0))
  (sSeq (sFldD "Book" "own_changes" (mGc (mLst aNil)) (mVar 0))
  (sFldD "Book" "own_at" (mC (.int 0)) (mVar 0))))
noncomputable def F_Book___init__ : List D → Store → Out (D × Store) := gcF 0 (runF 1 b_Book___init__)
noncomputable def b__law_take : S := (sSeq (sIf (mTest (mBin eqD (mVar 0) (mGc (mLst aNil)))) (sE (mC (.int 0)) fun d _ μ => .rt d μ) sNx)
  (sE (mBin modD (mBM tyList popD (mVar 0) aNil) (mVar 1)) fun d _ μ => .rt d μ))
noncomputable def F__law_take : List D → Store → Out (D × Store) := gcF 0 (runF 2 b__law_take)
noncomputable def b__law_drawn_text : S := (sE (mCB tupleD (aCons (mGc (mLc (mRange1 (aCons (mCall 2 F__law_take (aCons (mVar 0) (aCons (mBin addD (mVar 1) (mC (.int 1))) aNil))) aNil)) [3, 4] (gNm 4) mYes (mCall 2 F__law_take (aCons (mVar 0) (aCons (mVar 2) aNil))))) aNil)) fun d _ μ => .rt d μ)
noncomputable def F__law_drawn_text : List D → Store → Out (D × Store) := gcF 0 (runF 5 b__law_drawn_text)
noncomputable def b_with_named : S := (sSeq (sSet (mLc (mSrc (mVar 0)) [6, 7] (gNm 7) mYes (mBin ixD (mVar 7) (mC (.int 0)))) (gNm 4))
  (sSeq (sIf (mTest (mBin inD (mVar 1) (mVar 4))) (sSeq (sSet (mBM tyList indexD (mVar 4) (aCons (mVar 1) aNil)) (gNm 5))
  (sE (mBin addD (mBin addD (mSl slD (mVar 0) oNone (oSome (mVar 5))) (mTup (aCons (mTup (aCons (mVar 1) (aCons (mVar 2) aNil))) aNil))) (mSl slD (mVar 0) (oSome (mBin addD (mVar 5) (mC (.int 1)))) oNone)) fun d _ μ => .rt d μ)) sNx)
  (sSeq (sIf (mTest (mBin geD (mCB lenD (aCons (mVar 0) aNil)) (mVar 3))) (fun _ _ => .no) sNx)
  (sE (mBin addD (mVar 0) (mTup (aCons (mTup (aCons (mVar 1) (aCons (mVar 2) aNil))) aNil))) fun d _ μ => .rt d μ))))
noncomputable def F_with_named : List D → Store → Out (D × Store) := runF 8 b_with_named
noncomputable def b_marks_left : S := (sE (mCB tupleD (aCons (mLc (mSrc (mVar 0)) [2, 3] (gNm 3) (mTest (mBin neD (mBin ixD (mBin ixD (mVar 3) (mC (.int 1))) (mC (.int 0))) (mVar 1))) (mVar 3)) aNil)) fun d _ μ => .rt d μ)
noncomputable def F_marks_left : List D → Store → Out (D × Store) := runF 4 b_marks_left
noncomputable def b_renamed_text : S := (sSeq (sSet (mVar 0) (gTupD 2 (gsCons (gNm 3) (gsCons (gNm 4) gsNil))))
  (sE (mTup (aCons (mCall 4 (pureF F_with_named) (aCons (mVar 3) (aCons (mVar 1) (aCons (mVar 2) (aCons (mC (.int 8)) aNil))))) (aCons (mCall 2 (pureF F_marks_left) (aCons (mVar 4) (aCons (mVar 1) aNil))) aNil))) fun d _ μ => .rt d μ))
noncomputable def F_renamed_text : List D → Store → Out (D × Store) := runF 5 b_renamed_text
noncomputable def b_is_tuple_of : S := (sE (mAnd (mUn (isiD "tuple") (mVar 0)) (mChain leD leD (mVar 1) (mCB lenD (aCons (mVar 0) aNil)) (mVar 2))) fun d _ μ => .rt d μ)
noncomputable def F_is_tuple_of : List D → Store → Out (D × Store) := runF 3 b_is_tuple_of
noncomputable def b_is_number : S := (sE (mAnd (mUn (isiD "int") (mVar 0)) (mNot (mUn (isiD "bool") (mVar 0)))) fun d _ μ => .rt d μ)
noncomputable def F_is_number : List D → Store → Out (D × Store) := runF 1 b_is_number
noncomputable def b_is_among : S := (sE (mAnd (mCall 1 (pureF F_is_number) (aCons (mVar 0) aNil)) (mChain leD leD (mVar 1) (mVar 0) (mVar 2))) fun d _ μ => .rt d μ)
noncomputable def F_is_among : List D → Store → Out (D × Store) := runF 3 b_is_among
noncomputable def b_is_sign : S := (sE (mCall 3 (pureF F_is_among) (aCons (mVar 0) (aCons (mC (.int 0)) (aCons (mC (.int 999)) aNil)))) fun d _ μ => .rt d μ)
noncomputable def F_is_sign : List D → Store → Out (D × Store) := runF 1 b_is_sign
noncomputable def b_need_text : S := (sSeq (sIf (mNotT (mTru (mCall 3 (pureF F_is_tuple_of) (aCons (mVar 0) (aCons (mC (.int 0)) (aCons (mC (.int 400)) aNil)))))) (fun _ _ => .no) sNx)
  (sSeq (sFor (mEnum (aCons (mVar 0) aNil)) (gTupD 2 (gsCons (gNm 1) (gsCons (gNm 2) gsNil))) (sIf (mNotT (mTru (mCall 1 (pureF F_is_sign) (aCons (mVar 2) aNil)))) (fun _ _ => .no) sNx))
  (sE (mVar 0) fun d _ μ => .rt d μ)))
noncomputable def F_need_text : List D → Store → Out (D × Store) := runF 3 b_need_text
noncomputable def b_spot_of : S := (sSeq (sFor (mEnum (aCons (mVar 0) aNil)) (gTupD 2 (gsCons (gNm 2) (gsCons (gNm 3) gsNil))) (sIf (mTest (mBin eqD (mBin ixD (mVar 3) (mC (.int 0))) (mVar 1))) (sE (mVar 2) fun d _ μ => .rt d μ) sNx))
  (fun _ _ => .no))
noncomputable def F_spot_of : List D → Store → Out (D × Store) := runF 4 b_spot_of
noncomputable def b_without_named : S := (sSeq (sSet (mCall 2 (pureF F_spot_of) (aCons (mVar 0) (aCons (mVar 1) aNil))) (gNm 2))
  (sE (mBin addD (mSl slD (mVar 0) oNone (oSome (mVar 2))) (mSl slD (mVar 0) (oSome (mBin addD (mVar 2) (mC (.int 1)))) oNone)) fun d _ μ => .rt d μ))
noncomputable def F_without_named : List D → Store → Out (D × Store) := runF 3 b_without_named
noncomputable def b_marks_moved (Lv : D) (φ : List D → Store → Out (D × Store)) : S := (sSeq (sSet (mLst aNil) (gNm 3))
  (sSeq (sFor (mSrc (mVar 0)) (gTupD 2 (gsCons (gNm 4) (gsCons (gTupD 3 (gsCons (gNm 5) (gsCons (gNm 6) (gsCons (gNm 7) gsNil)))) gsNil))) (sE (mBM tyList appendD (mVar 3) (aCons (mTup (aCons (mVar 4) (aCons (mIf (mTest (mBin eqD (mVar 5) (mVar 1))) (mTup (aCons (mVar 5) (aCons (mAct 2 Lv 1 φ (aCons (mVar 6) aNil)) (aCons (mAct 2 Lv 1 φ (aCons (mVar 7) aNil)) aNil)))) (mTup (aCons (mVar 5) (aCons (mVar 6) (aCons (mVar 7) aNil))))) aNil))) aNil)) fun _ => sNx))
  (sE (mCB tupleD (aCons (mVar 3) aNil)) fun d _ μ => .rt d μ)))
noncomputable def b_grown : S := (sSeq (sIf (mTest (mBin gtD (mCB lenD (aCons (mVar 2) aNil)) (mC (.int 400)))) (fun _ _ => .no) sNx)
  (sE (mTup (aCons (mCall 4 (pureF F_with_named) (aCons (mBin ixD (mVar 0) (mC (.int 0))) (aCons (mVar 1) (aCons (mVar 2) (aCons (mC (.int 8)) aNil))))) (aCons (mVar 3) aNil))) fun d _ μ => .rt d μ))
noncomputable def F_grown : List D → Store → Out (D × Store) := runF 4 b_grown
noncomputable def b_behind_put : S := (sSeq (sSet (mVar 1) (gTupD 4 (gsCons (gNm 2) (gsCons (gNm 3) (gsCons (gNm 9) (gsCons (gNm 8) gsNil))))))
  (sSeq (sSet (mVar 0) (gTupD 2 (gsCons (gNm 4) (gsCons (gNm 5) gsNil))))
  (sSeq (sSet (mBin ixD (mBin ixD (mVar 4) (mCall 2 (pureF F_spot_of) (aCons (mVar 4) (aCons (mVar 3) aNil)))) (mC (.int 1))) (gNm 6))
  (sSeq (sE (mCall 1 (pureF F_need_text) (aCons (mVar 8) aNil)) fun _ => sNx)
  (sSeq (sIf (mTest (mBin gtD (mVar 9) (mCB lenD (aCons (mVar 6) aNil)))) (fun _ _ => .no) sNx)
  (sSeq (sSet (mHoL [8, 9] 3 (mIf (mTest (mBin gtD (mVar 0) (mVar 2))) (mBin addD (mVar 0) (mCB lenD (aCons (mVar 1) aNil))) (mVar 0)) 3 (hoF 2 (fun Lv φ => runF 8 (b_marks_moved Lv φ))) (aCons (mVar 5) (aCons (mVar 3) aNil))) (gNm 7))
  (sE (mCall 4 (pureF F_grown) (aCons (mVar 0) (aCons (mVar 3) (aCons (mBin addD (mBin addD (mSl slD (mVar 6) oNone (oSome (mVar 9))) (mVar 8)) (mSl slD (mVar 6) (oSome (mVar 9)) oNone)) (aCons (mVar 7) aNil))))) fun d _ μ => .rt d μ)))))))
noncomputable def F_behind_put : List D → Store → Out (D × Store) := runF 10 b_behind_put
noncomputable def b_need_text_window : S := (sIf (mNotT (mTest (mChain leD leD (mVar 1) (mVar 2) (mCB lenD (aCons (mVar 0) aNil))))) (fun _ _ => .no) sNx)
noncomputable def F_need_text_window : List D → Store → Out (D × Store) := runF 3 b_need_text_window
noncomputable def b_behind_out : S := (sSeq (sSet (mVar 1) (gTupD 4 (gsCons (gNm 2) (gsCons (gNm 3) (gsCons (gNm 8) (gsCons (gNm 9) gsNil))))))
  (sSeq (sSet (mVar 0) (gTupD 2 (gsCons (gNm 4) (gsCons (gNm 5) gsNil))))
  (sSeq (sSet (mBin ixD (mBin ixD (mVar 4) (mCall 2 (pureF F_spot_of) (aCons (mVar 4) (aCons (mVar 3) aNil)))) (mC (.int 1))) (gNm 6))
  (sSeq (sE (mCall 3 (pureF F_need_text_window) (aCons (mVar 6) (aCons (mVar 8) (aCons (mVar 9) aNil)))) fun _ => sNx)
  (sSeq (sSet (mHoL [8, 9] 3 (mBin subD (mVar 0) (mCB min2D (aCons (mCB max2D (aCons (mC (.int 0)) (aCons (mBin subD (mVar 0) (mVar 1)) aNil))) (aCons (mBin subD (mVar 2) (mVar 1)) aNil)))) 3 (hoF 2 (fun Lv φ => runF 8 (b_marks_moved Lv φ))) (aCons (mVar 5) (aCons (mVar 3) aNil))) (gNm 7))
  (sE (mTup (aCons (mCall 4 (pureF F_with_named) (aCons (mVar 4) (aCons (mVar 3) (aCons (mBin addD (mSl slD (mVar 6) oNone (oSome (mVar 8))) (mSl slD (mVar 6) (oSome (mVar 9)) oNone)) (aCons (mC (.int 8)) aNil))))) (aCons (mVar 7) aNil))) fun d _ μ => .rt d μ))))))
noncomputable def F_behind_out : List D → Store → Out (D × Store) := runF 10 b_behind_out
noncomputable def b_need_sign : S := (sSeq (sIf (mNotT (mTru (mCall 1 (pureF F_is_sign) (aCons (mVar 0) aNil)))) (fun _ _ => .no) sNx)
  (sE (mVar 0) fun d _ μ => .rt d μ))
noncomputable def F_need_sign : List D → Store → Out (D × Store) := runF 1 b_need_sign
noncomputable def b_behind_sign : S := (sSeq (sSet (mVar 1) (gTupD 4 (gsCons (gNm 2) (gsCons (gNm 3) (gsCons (gNm 4) (gsCons (gNm 5) gsNil))))))
  (sSeq (sSet (mVar 0) (gTupD 2 (gsCons (gNm 6) (gsCons (gNm 7) gsNil))))
  (sSeq (sSet (mBin ixD (mBin ixD (mVar 6) (mCall 2 (pureF F_spot_of) (aCons (mVar 6) (aCons (mVar 3) aNil)))) (mC (.int 1))) (gNm 8))
  (sSeq (sE (mCall 1 (pureF F_need_sign) (aCons (mVar 5) aNil)) fun _ => sNx)
  (sSeq (sIf (mTest (mBin geD (mVar 4) (mCB lenD (aCons (mVar 8) aNil)))) (fun _ _ => .no) sNx)
  (sE (mTup (aCons (mCall 4 (pureF F_with_named) (aCons (mVar 6) (aCons (mVar 3) (aCons (mBin addD (mBin addD (mSl slD (mVar 8) oNone (oSome (mVar 4))) (mTup (aCons (mVar 5) aNil))) (mSl slD (mVar 8) (oSome (mBin addD (mVar 4) (mC (.int 1)))) oNone)) (aCons (mC (.int 8)) aNil))))) (aCons (mVar 7) aNil))) fun d _ μ => .rt d μ))))))
noncomputable def F_behind_sign : List D → Store → Out (D × Store) := runF 9 b_behind_sign
noncomputable def b_behind_turn : S := (sSeq (sSet (mVar 0) (gTupD 2 (gsCons (gNm 2) (gsCons (gNm 3) gsNil))))
  (sSeq (sPar 4 5 (aCons (mBin ixD (mBin ixD (mVar 2) (mCall 2 (pureF F_spot_of) (aCons (mVar 2) (aCons (mBin ixD (mVar 1) (mC (.int 1))) aNil)))) (mC (.int 1))) (aCons (mLst aNil) aNil)))
  (sSeq (sFor (mSrc (mVar 3)) (gTupD 2 (gsCons (gNm 6) (gsCons (gTupD 3 (gsCons (gNm 7) (gsCons (gNm 8) (gsCons (gNm 9) gsNil)))) gsNil))) (sSeq (sIf (mTest (mBin eqD (mVar 7) (mBin ixD (mVar 1) (mC (.int 1))))) (sPar 8 9 (aCons (mBin subD (mCB lenD (aCons (mVar 4) aNil)) (mVar 9)) (aCons (mBin subD (mCB lenD (aCons (mVar 4) aNil)) (mVar 8)) aNil))) sNx)
  (sE (mBM tyList appendD (mVar 5) (aCons (mTup (aCons (mVar 6) (aCons (mTup (aCons (mVar 7) (aCons (mVar 8) (aCons (mVar 9) aNil)))) aNil))) aNil)) fun _ => sNx)))
  (sE (mTup (aCons (mCall 4 (pureF F_with_named) (aCons (mVar 2) (aCons (mBin ixD (mVar 1) (mC (.int 1))) (aCons (mUn revD (mVar 4)) (aCons (mC (.int 8)) aNil))))) (aCons (mCB tupleD (aCons (mVar 5) aNil)) aNil))) fun d _ μ => .rt d μ))))
noncomputable def F_behind_turn : List D → Store → Out (D × Store) := runF 10 b_behind_turn
noncomputable def b_behind_mark : S := (sSeq (sSet (mVar 1) (gTupD 5 (gsCons (gNm 2) (gsCons (gNm 3) (gsCons (gNm 4) (gsCons (gNm 5) (gsCons (gNm 6) gsNil)))))))
  (sSeq (sSet (mVar 0) (gTupD 2 (gsCons (gNm 7) (gsCons (gNm 8) gsNil))))
  (sSeq (sE (mCall 3 (pureF F_need_text_window) (aCons (mBin ixD (mBin ixD (mVar 7) (mCall 2 (pureF F_spot_of) (aCons (mVar 7) (aCons (mVar 4) aNil)))) (mC (.int 1))) (aCons (mVar 5) (aCons (mVar 6) aNil)))) fun _ => sNx)
  (sE (mTup (aCons (mVar 7) (aCons (mCall 4 (pureF F_with_named) (aCons (mVar 8) (aCons (mVar 3) (aCons (mTup (aCons (mVar 4) (aCons (mVar 5) (aCons (mVar 6) aNil)))) (aCons (mC (.int 24)) aNil))))) aNil))) fun d _ μ => .rt d μ))))
noncomputable def F_behind_mark : List D → Store → Out (D × Store) := runF 9 b_behind_mark
noncomputable def b_behind_lift : S := (sSeq (sSet (mVar 0) (gTupD 2 (gsCons (gNm 2) (gsCons (gNm 3) gsNil))))
  (sSeq (sSet (mBin ixD (mBin ixD (mVar 3) (mCall 2 (pureF F_spot_of) (aCons (mVar 3) (aCons (mBin ixD (mVar 1) (mC (.int 2))) aNil)))) (mC (.int 1))) (gTupD 3 (gsCons (gNm 4) (gsCons (gNm 5) (gsCons (gNm 6) gsNil)))))
  (sE (mCall 3 (pureF F_renamed_text) (aCons (mVar 0) (aCons (mBin ixD (mVar 1) (mC (.int 1))) (aCons (mSl slD (mBin ixD (mBin ixD (mVar 2) (mCall 2 (pureF F_spot_of) (aCons (mVar 2) (aCons (mVar 4) aNil)))) (mC (.int 1))) (oSome (mVar 5)) (oSome (mVar 6))) aNil)))) fun d _ μ => .rt d μ)))
noncomputable def F_behind_lift : List D → Store → Out (D × Store) := runF 7 b_behind_lift
noncomputable def b_behind_join : S := (sSeq (sSet (mVar 0) (gTupD 2 (gsCons (gNm 2) (gsCons (gNm 3) gsNil))))
  (sSeq (sPar 4 5 (aCons (mBin ixD (mBin ixD (mVar 2) (mCall 2 (pureF F_spot_of) (aCons (mVar 2) (aCons (mBin ixD (mVar 1) (mC (.int 1))) aNil)))) (mC (.int 1))) (aCons (mBin ixD (mBin ixD (mVar 2) (mCall 2 (pureF F_spot_of) (aCons (mVar 2) (aCons (mBin ixD (mVar 1) (mC (.int 2))) aNil)))) (mC (.int 1))) aNil)))
  (sE (mCall 4 (pureF F_grown) (aCons (mVar 0) (aCons (mBin ixD (mVar 1) (mC (.int 1))) (aCons (mBin addD (mVar 4) (mVar 5)) (aCons (mVar 3) aNil))))) fun d _ μ => .rt d μ)))
noncomputable def F_behind_join : List D → Store → Out (D × Store) := runF 6 b_behind_join
noncomputable def b_behind_single : S := (sSeq (sSet (mVar 0) (gTupD 2 (gsCons (gNm 2) (gsCons (gNm 3) gsNil))))
  (sSeq (sPar 4 5 (aCons (mBin ixD (mVar 1) (mC (.int 0))) (aCons (mBin ixD (mVar 1) (mC (.int 1))) aNil)))
  (sSeq (sIf (mTest (mBin eqD (mVar 4) (mC (.str "text")))) (sE (mCall 3 (pureF F_renamed_text) (aCons (mVar 0) (aCons (mVar 5) (aCons (mCall 1 (pureF F_need_text) (aCons (mBin ixD (mVar 1) (mC (.int 2))) aNil)) aNil)))) fun d _ μ => .rt d μ) sNx)
  (sSeq (sIf (mTest (mBin eqD (mVar 4) (mC (.str "gone")))) (sE (mTup (aCons (mCall 2 (pureF F_without_named) (aCons (mVar 2) (aCons (mVar 5) aNil))) (aCons (mCall 2 (pureF F_marks_left) (aCons (mVar 3) (aCons (mVar 5) aNil))) aNil))) fun d _ μ => .rt d μ) sNx)
  (sSeq (sIf (mTest (mBin eqD (mVar 4) (mC (.str "drop")))) (sE (mTup (aCons (mVar 2) (aCons (mCall 2 (pureF F_without_named) (aCons (mVar 3) (aCons (mVar 5) aNil))) aNil))) fun d _ μ => .rt d μ) sNx)
  (sSeq (sIf (mTest (mBin eqD (mVar 4) (mC (.str "put")))) (sE (mCall 2 (pureF F_behind_put) (aCons (mVar 0) (aCons (mVar 1) aNil))) fun d _ μ => .rt d μ) sNx)
  (sSeq (sIf (mTest (mBin eqD (mVar 4) (mC (.str "out")))) (sE (mCall 2 (pureF F_behind_out) (aCons (mVar 0) (aCons (mVar 1) aNil))) fun d _ μ => .rt d μ) sNx)
  (sSeq (sIf (mTest (mBin eqD (mVar 4) (mC (.str "sign")))) (sE (mCall 2 (pureF F_behind_sign) (aCons (mVar 0) (aCons (mVar 1) aNil))) fun d _ μ => .rt d μ) sNx)
  (sSeq (sIf (mTest (mBin eqD (mVar 4) (mC (.str "turn")))) (sE (mCall 2 (pureF F_behind_turn) (aCons (mVar 0) (aCons (mVar 1) aNil))) fun d _ μ => .rt d μ) sNx)
  (sSeq (sIf (mTest (mBin eqD (mVar 4) (mC (.str "mark")))) (sE (mCall 2 (pureF F_behind_mark) (aCons (mVar 0) (aCons (mVar 1) aNil))) fun d _ μ => .rt d μ) sNx)
  (sE (mIf (mTest (mBin eqD (mVar 4) (mC (.str "lift")))) (mCall 2 (pureF F_behind_lift) (aCons (mVar 0) (aCons (mVar 1) aNil))) (mCall 2 (pureF F_behind_join) (aCons (mVar 0) (aCons (mVar 1) aNil)))) fun d _ μ => .rt d μ)))))))))))
noncomputable def F_behind_single : List D → Store → Out (D × Store) := runF 6 b_behind_single
noncomputable def b_behind_change : S := (sSeq (sSet (mIf (mTest (mBin eqD (mBin ixD (mVar 1) (mC (.int 0))) (mC (.str "all")))) (mSl slD (mVar 1) (oSome (mC (.int 1))) oNone) (mTup (aCons (mVar 1) aNil))) (gNm 2))
  (sSeq (sFor (mSrc (mVar 2)) (gNm 3) (sSet (mCall 2 (pureF F_behind_single) (aCons (mVar 0) (aCons (mVar 3) aNil))) (gNm 0)))
  (sE (mVar 0) fun d _ μ => .rt d μ)))
noncomputable def F_behind_change : List D → Store → Out (D × Store) := runF 4 b_behind_change
noncomputable def b_is_name : S := (sSeq (sIf (mOrT (mNotT (mTru (mUn (isiD "str") (mVar 0)))) (mOrT (mNotT (mTest (mChain leD leD (mC (.int 1)) (mCB lenD (aCons (mVar 0) aNil)) (mC (.int 8))))) (mTest (mBin ninD (mBin ixD (mVar 0) (mC (.int 0))) (mC (.str "abcdefghijklmnopqrstuvwxyz")))))) (sE (mC (.bl false)) fun d _ μ => .rt d μ) sNx)
  (sE (mCB allD (aCons (mLc (mSrc (mVar 0)) [1, 2] (gNm 2) mYes (mBin inD (mVar 2) (mBin addD (mC (.str "abcdefghijklmnopqrstuvwxyz")) (mC (.str "0123456789"))))) aNil)) fun d _ μ => .rt d μ))
noncomputable def F_is_name : List D → Store → Out (D × Store) := runF 3 b_is_name
noncomputable def b_is_thing_of_kind : S := (sSeq (sIf (mTest (mBin eqD (mVar 0) (mC (.str "n")))) (sE (mCall 1 (pureF F_is_name) (aCons (mVar 1) aNil)) fun d _ μ => .rt d μ) sNx)
  (sE (mOr (mBin neD (mVar 0) (mC (.str "p"))) (mAnd (mCall 1 (pureF F_is_number) (aCons (mVar 1) aNil)) (mBin geD (mVar 1) (mC (.int 0))))) fun d _ μ => .rt d μ))
noncomputable def F_is_thing_of_kind : List D → Store → Out (D × Store) := runF 2 b_is_thing_of_kind
noncomputable def b_is_single : S := (sSeq (sIf (mOrT (mNotT (mTru (mUn (isiD "tuple") (mVar 0)))) (mOrT (mTest (mBin eqD (mCB lenD (aCons (mVar 0) aNil)) (mC (.int 0)))) (mOrT (mNotT (mTru (mUn (isiD "str") (mBin ixD (mVar 0) (mC (.int 0)))))) (mTest (mUn (kdNin T_KINDS) (mBin ixD (mVar 0) (mC (.int 0)))))))) (sE (mC (.bl false)) fun d _ μ => .rt d μ) sNx)
  (sSeq (sSet (mUn (kdIx T_KINDS) (mBin ixD (mVar 0) (mC (.int 0)))) (gNm 1))
  (sE (mAnd (mBin eqD (mCB lenD (aCons (mVar 0) aNil)) (mBin addD (mCB lenD (aCons (mVar 1) aNil)) (mC (.int 1)))) (mCB allD (aCons (mLc (mZip (aCons (mVar 1) (aCons (mSl slD (mVar 0) (oSome (mC (.int 1))) oNone) aNil))) [2, 3, 4] (gTupN 2 [3, 4]) mYes (mCall 2 (pureF F_is_thing_of_kind) (aCons (mVar 3) (aCons (mVar 4) aNil)))) aNil))) fun d _ μ => .rt d μ)))
noncomputable def F_is_single : List D → Store → Out (D × Store) := runF 5 b_is_single
noncomputable def b_need_change : S := (sSeq (sSet (mAnd (mUn (isiD "tuple") (mVar 0)) (mAnd (mBin gtD (mCB lenD (aCons (mVar 0) aNil)) (mC (.int 0))) (mAnd (mUn (isiD "str") (mBin ixD (mVar 0) (mC (.int 0)))) (mBin eqD (mBin ixD (mVar 0) (mC (.int 0))) (mC (.str "all")))))) (gNm 1))
  (sSeq (sSet (mIf (mTru (mVar 1)) (mSl slD (mVar 0) (oSome (mC (.int 1))) oNone) (mTup (aCons (mVar 0) aNil))) (gNm 2))
  (sSeq (sIf (mOrT (mNotT (mTest (mChain leD leD (mC (.int 1)) (mCB lenD (aCons (mVar 2) aNil)) (mC (.int 20))))) (mNotT (mTru (mCB allD (aCons (mLc (mSrc (mVar 2)) [3, 4] (gNm 4) mYes (mCall 1 (pureF F_is_single) (aCons (mVar 4) aNil))) aNil))))) (fun _ _ => .no) sNx)
  (sE (mVar 0) fun d _ μ => .rt d μ))))
noncomputable def F_need_change : List D → Store → Out (D × Store) := runF 5 b_need_change
noncomputable def b_Book_change : S := (sSeq (sSet (mCall 2 (pureF F_behind_change) (aCons (mBin ixD (mUn (fldD "Book" "own_states") (mVar 0)) (mUn (fldD "Book" "own_at") (mVar 0))) (aCons (mCall 1 (pureF F_need_change) (aCons (mVar 1) aNil)) aNil))) (gNm 2))
  (sSeq (sIf (mTest (mBin eqD (mUn (fldD "Book" "own_at") (mVar 0)) (mC (.int 200)))) (fun _ _ => .no) sNx)
  (sSeq (sFldD "Book" "own_states" (mGc (mBin addD (mGc (mSl slD (mUn (fldD "Book" "own_states") (mVar 0)) oNone (oSome (mBin addD (mUn (fldD "Book" "own_at") (mVar 0)) (mC (.int 1)))))) (mGc (mLst (aCons (mVar 2) aNil))))) (mVar 0))
  (sSeq (sFldD "Book" "own_changes" (mGc (mBin addD (mGc (mSl slD (mUn (fldD "Book" "own_changes") (mVar 0)) oNone (oSome (mUn (fldD "Book" "own_at") (mVar 0))))) (mGc (mLst (aCons (mVar 1) aNil))))) (mVar 0))
  (sFldD "Book" "own_at" (mBin addD (mUn (fldD "Book" "own_at") (mVar 0)) (mC (.int 1))) (mVar 0))))))
noncomputable def F_Book_change : List D → Store → Out (D × Store) := gcF 0 (runF 3 b_Book_change)
noncomputable def b_Book_texts : S := (sE (mBin ixD (mBin ixD (mUn (fldD "Book" "own_states") (mVar 0)) (mUn (fldD "Book" "own_at") (mVar 0))) (mC (.int 0))) fun d _ μ => .rt d μ)
noncomputable def F_Book_texts : List D → Store → Out (D × Store) := gcF 0 (runF 1 b_Book_texts)
noncomputable def b_Book_text : S := (sSeq (sSet (mMeth "Book" "texts" 1 F_Book_texts (mVar 0) aNil) (gNm 2))
  (sE (mBin ixD (mBin ixD (mVar 2) (mCall 2 (pureF F_spot_of) (aCons (mVar 2) (aCons (mVar 1) aNil)))) (mC (.int 1))) fun d _ μ => .rt d μ))
noncomputable def F_Book_text : List D → Store → Out (D × Store) := gcF 0 (runF 3 b_Book_text)
noncomputable def b_Book_marks : S := (sE (mBin ixD (mBin ixD (mUn (fldD "Book" "own_states") (mVar 0)) (mUn (fldD "Book" "own_at") (mVar 0))) (mC (.int 1))) fun d _ μ => .rt d μ)
noncomputable def F_Book_marks : List D → Store → Out (D × Store) := gcF 0 (runF 1 b_Book_marks)
noncomputable def b_Book_mark : S := (sSeq (sSet (mMeth "Book" "marks" 1 F_Book_marks (mVar 0) aNil) (gNm 2))
  (sE (mBin ixD (mBin ixD (mVar 2) (mCall 2 (pureF F_spot_of) (aCons (mVar 2) (aCons (mVar 1) aNil)))) (mC (.int 1))) fun d _ μ => .rt d μ))
noncomputable def F_Book_mark : List D → Store → Out (D × Store) := gcF 0 (runF 3 b_Book_mark)
noncomputable def b_Book_marked : S := (sSeq (sSet (mMeth "Book" "mark" 2 F_Book_mark (mVar 0) (aCons (mVar 1) aNil)) (gTupD 3 (gsCons (gNm 2) (gsCons (gNm 3) (gsCons (gNm 4) gsNil)))))
  (sE (mSl slD (mMeth "Book" "text" 2 F_Book_text (mVar 0) (aCons (mVar 2) aNil)) (oSome (mVar 3)) (oSome (mVar 4))) fun d _ μ => .rt d μ))
noncomputable def F_Book_marked : List D → Store → Out (D × Store) := gcF 0 (runF 5 b_Book_marked)
noncomputable def b_Book_across : S := (sSeq (sSet (mMeth "Book" "marked" 2 F_Book_marked (mVar 0) (aCons (mVar 1) aNil)) (gNm 2))
  (sSeq (sIf (mTest (mBin gtD (mCB lenD (aCons (mVar 2) aNil)) (mC (.int 60)))) (fun _ _ => .no) sNx)
  (sE (mVar 2) fun d _ μ => .rt d μ)))
noncomputable def F_Book_across : List D → Store → Out (D × Store) := gcF 0 (runF 3 b_Book_across)
noncomputable def b_rows_of : S := (sSeq (sSet (mCB lenD (aCons (mVar 0) aNil)) (gNm 1))
  (sSeq (sSet (mLc (mRange1 (aCons (mBin addD (mVar 1) (mC (.int 1))) aNil)) [8, 2] (gNm 2) mYes (mBin mulD (mLst (aCons (mC (.int 0)) aNil)) (mBin addD (mVar 1) (mC (.int 1))))) (gNm 3))
  (sSeq (sFor (mRangeN (aCons (mBin subD (mVar 1) (mC (.int 1))) (aCons (mUn negD (mC (.int 1))) (aCons (mUn negD (mC (.int 1))) aNil)))) (gNm 2) (sSeq (sPar3 4 5 6 (aCons (mBin ixD (mVar 0) (mVar 2)) (aCons (mBin ixD (mVar 3) (mBin addD (mVar 2) (mC (.int 1)))) (aCons (mBin ixD (mVar 3) (mVar 2)) aNil))))
  (sFor (mRange1 (aCons (mBin addD (mVar 1) (mC (.int 1))) aNil)) (gNm 7) (sSet (mBin addD (mBin ixD (mVar 5) (mVar 7)) (mIf (mAndT (mTest (mBin nisD (mVar 4) (mC .non))) (mTest (mBin ltD (mVar 4) (mVar 7)))) (mC (.int 1)) (mC (.int 0)))) (gSubD (mVar 6) (mVar 7))))))
  (sE (mVar 3) fun d _ μ => .rt d μ))))
noncomputable def F_rows_of : List D → Store → Out (D × Store) := gcF 0 (runF 9 b_rows_of)
noncomputable def b_first_more : S := (sSeq (sFor (mEnumZip (aCons (mCall 1 F_rows_of (aCons (mVar 0) aNil)) (aCons (mCall 1 F_rows_of (aCons (mVar 1) aNil)) aNil))) (gTupD 2 (gsCons (gNm 2) (gsCons (gTupD 2 (gsCons (gNm 3) (gsCons (gNm 4) gsNil))) gsNil))) (sFor (mEnumZip (aCons (mVar 3) (aCons (mVar 4) aNil))) (gTupD 2 (gsCons (gNm 5) (gsCons (gTupD 2 (gsCons (gNm 6) (gsCons (gNm 7) gsNil))) gsNil))) (sIf (mTest (mBin gtD (mVar 6) (mVar 7))) (sE (mTup (aCons (mVar 2) (aCons (mVar 5) aNil))) fun d _ μ => .rt d μ) sNx)))
  (sE (mC .non) fun d _ μ => .rt d μ))
noncomputable def F_first_more : List D → Store → Out (D × Store) := gcF 0 (runF 8 b_first_more)
noncomputable def b_comb : S := (sSeq (sFor (mEnum (aCons (mVar 2) aNil)) (gTupD 2 (gsCons (gNm 4) (gsCons (gNm 5) gsNil))) (sIf (mOrT (mTest (mBin eqD (mVar 5) (mVar 1))) (mTest (mBin gtD (mVar 3) (mBin ixD (mVar 0) (mVar 4))))) (sSet (mTup (aCons (mVar 3) (aCons (mBin ixD (mVar 0) (mVar 4)) aNil))) (gTupD 2 (gsCons (gSubD (mVar 0) (mVar 4)) (gsCons (gNm 3) gsNil)))) sNx))
  (sE (mVar 3) fun d _ μ => .rt d μ))
noncomputable def F_comb : List D → Store → Out (D × Store) := gcF 0 (runF 6 b_comb)
noncomputable def b_passage_of_row : S := (sSeq (sSet (mBin mulD (mGc (mLst (aCons (mC .non) aNil))) (mVar 1)) (gNm 2))
  (sSeq (sFor (mEnum (aCons (mVar 0) aNil)) (gTupD 2 (gsCons (gNm 3) (gsCons (gNm 4) gsNil))) (sIf (mTest (mBin geD (mVar 4) (mC (.int 0)))) (sSet (mVar 3) (gSubD (mVar 2) (mVar 4))) sNx))
  (sE (mCB tupleD (aCons (mVar 2) aNil)) fun d _ μ => .rt d μ)))
noncomputable def F_passage_of_row : List D → Store → Out (D × Store) := gcF 0 (runF 5 b_passage_of_row)
noncomputable def b_combed : S := (sSeq (sSet (mLstRg (mRg1 (mCB lenD (aCons (mVar 1) aNil)))) (gNm 2))
  (sSeq (sFor (mSrc (mVar 0)) (gNm 3) (sE (mCall 4 F_comb (aCons (mVar 2) (aCons (mVar 3) (aCons (mVar 1) (aCons (mUn negD (mC (.int 1))) aNil))))) fun _ => sNx))
  (sE (mCall 2 F_passage_of_row (aCons (mVar 2) (aCons (mCB lenD (aCons (mVar 1) aNil)) aNil))) fun d _ μ => .rt d μ)))
noncomputable def F_combed : List D → Store → Out (D × Store) := gcF 0 (runF 4 b_combed)
noncomputable def b_need_across : S := (sSeq (sIf (mTest (mBin gtD (mCB lenD (aCons (mCall 1 (pureF F_need_text) (aCons (mVar 0) aNil)) aNil)) (mC (.int 60)))) (fun _ _ => .no) sNx)
  (sE (mVar 0) fun d _ μ => .rt d μ))
noncomputable def F_need_across : List D → Store → Out (D × Store) := runF 1 b_need_across
noncomputable def b_passage_over : S := (sSeq (sE (mCall 1 (pureF F_need_text) (aCons (mVar 0) aNil)) fun _ => sNx)
  (sE (mCall 2 F_combed (aCons (mVar 0) (aCons (mCall 1 (pureF F_need_across) (aCons (mVar 1) aNil)) aNil))) fun d _ μ => .rt d μ))
noncomputable def F_passage_over : List D → Store → Out (D × Store) := gcF 0 (runF 2 b_passage_over)
noncomputable def b_Book_first_less : S := (sSeq (sSet (mMeth "Book" "text" 2 F_Book_text (mVar 0) (aCons (mVar 1) aNil)) (gNm 4))
  (sSeq (sSet (mMeth "Book" "text" 2 F_Book_text (mVar 0) (aCons (mVar 2) aNil)) (gNm 5))
  (sSeq (sSet (mMeth "Book" "across" 2 F_Book_across (mVar 0) (aCons (mVar 3) aNil)) (gNm 6))
  (sE (mCall 2 F_first_more (aCons (mCall 2 F_passage_over (aCons (mVar 4) (aCons (mVar 6) aNil))) (aCons (mCall 2 F_passage_over (aCons (mVar 5) (aCons (mVar 6) aNil))) aNil))) fun d _ μ => .rt d μ))))
noncomputable def F_Book_first_less : List D → Store → Out (D × Store) := gcF 0 (runF 7 b_Book_first_less)
noncomputable def b_Book_is_never_less : S := (sE (mBin isD (mMeth "Book" "first_less" 4 F_Book_first_less (mVar 0) (aCons (mVar 1) (aCons (mVar 2) (aCons (mVar 3) aNil)))) (mC .non)) fun d _ μ => .rt d μ)
noncomputable def F_Book_is_never_less : List D → Store → Out (D × Store) := gcF 0 (runF 4 b_Book_is_never_less)
noncomputable def b_Book_passage : S := (sSeq (sSet (mMeth "Book" "text" 2 F_Book_text (mVar 0) (aCons (mVar 1) aNil)) (gNm 3))
  (sE (mCall 2 F_passage_over (aCons (mVar 3) (aCons (mMeth "Book" "across" 2 F_Book_across (mVar 0) (aCons (mVar 2) aNil)) aNil))) fun d _ μ => .rt d μ))
noncomputable def F_Book_passage : List D → Store → Out (D × Store) := gcF 0 (runF 4 b_Book_passage)
noncomputable def b__law_like (rec : List D → Store → Out (D × Store)) : S := (sSeq (sIf (mTru (mUn (isiD "tuple") (mVar 1))) (sSeq (sIf (mOrT (mNotT (mTru (mUn (isiD "tuple") (mVar 0)))) (mTest (mBin neD (mCB lenD (aCons (mVar 0) aNil)) (mCB lenD (aCons (mVar 1) aNil))))) (sE (mC (.bl false)) fun d _ μ => .rt d μ) sNx)
  (sSeq (sFor (mZip (aCons (mVar 0) (aCons (mVar 1) aNil))) (gTupD 2 (gsCons (gNm 2) (gsCons (gNm 3) gsNil))) (sIf (mNotT (mTru (mCall 2 rec (aCons (mVar 2) (aCons (mVar 3) aNil))))) (sE (mC (.bl false)) fun d _ μ => .rt d μ) sNx))
  (sE (mC (.bl true)) fun d _ μ => .rt d μ))) sNx)
  (sSeq (sIf (mTest (mBin isD (mVar 1) (mC .non))) (sE (mBin isD (mVar 0) (mC .non)) fun d _ μ => .rt d μ) sNx)
  (sSeq (sIf (mTru (mUn (isiD "bool") (mVar 1))) (sE (mAnd (mUn (isiD "bool") (mVar 0)) (mBin eqD (mVar 0) (mVar 1))) fun d _ μ => .rt d μ) sNx)
  (sSeq (sIf (mTru (mUn (isiD "int") (mVar 1))) (sE (mAnd (mUn (isiD "int") (mVar 0)) (mAnd (mNot (mUn (isiD "bool") (mVar 0))) (mBin eqD (mVar 0) (mVar 1)))) fun d _ μ => .rt d μ) sNx)
  (sE (mAnd (mUn (isiD "str") (mVar 0)) (mBin eqD (mVar 0) (mVar 1))) fun d _ μ => .rt d μ)))))
noncomputable def F__law_like : Nat → List D → Store → Out (D × Store)
  | 0 => fun _ _ => .no
  | n + 1 => runF 4 (b__law_like (pureF (F__law_like n)))
noncomputable def b_common_of : S := (sSeq (sSet (mBin mulD (mGc (mLst (aCons (mC (.int 0)) aNil))) (mBin addD (mCB lenD (aCons (mVar 1) aNil)) (mC (.int 1)))) (gNm 2))
  (sSeq (sFor (mSrc (mVar 0)) (gNm 3) (sSeq (sSet (mC (.int 0)) (gNm 4))
  (sFor (mEnum (aCons (mVar 1) aNil)) (gTupD 2 (gsCons (gNm 5) (gsCons (gNm 6) gsNil))) (sSeq (sSet (mBin ixD (mVar 2) (mBin addD (mVar 5) (mC (.int 1)))) (gNm 7))
  (sSeq (sSet (mIf (mTest (mBin eqD (mVar 6) (mVar 3))) (mBin addD (mVar 4) (mC (.int 1))) (mCB max2D (aCons (mVar 7) (aCons (mBin ixD (mVar 2) (mVar 5)) aNil)))) (gSubD (mVar 2) (mBin addD (mVar 5) (mC (.int 1)))))
  (sSet (mVar 7) (gNm 4)))))))
  (sE (mBin ixD (mVar 2) (mUn negD (mC (.int 1)))) fun d _ μ => .rt d μ)))
noncomputable def F_common_of : List D → Store → Out (D × Store) := gcF 0 (runF 8 b_common_of)
noncomputable def b_Book_common : S := (sSeq (sSet (mMeth "Book" "text" 2 F_Book_text (mVar 0) (aCons (mVar 1) aNil)) (gNm 3))
  (sE (mCall 2 F_common_of (aCons (mVar 3) (aCons (mMeth "Book" "text" 2 F_Book_text (mVar 0) (aCons (mVar 2) aNil)) aNil))) fun d _ μ => .rt d μ))
noncomputable def F_Book_common : List D → Store → Out (D × Store) := gcF 0 (runF 4 b_Book_common)
noncomputable def b_Book_distance : S := (sSeq (sSet (mMeth "Book" "text" 2 F_Book_text (mVar 0) (aCons (mVar 1) aNil)) (gNm 3))
  (sSeq (sSet (mMeth "Book" "text" 2 F_Book_text (mVar 0) (aCons (mVar 2) aNil)) (gNm 4))
  (sE (mBin subD (mBin addD (mCB lenD (aCons (mVar 3) aNil)) (mCB lenD (aCons (mVar 4) aNil))) (mBin mulD (mC (.int 2)) (mCall 2 F_common_of (aCons (mVar 3) (aCons (mVar 4) aNil))))) fun d _ μ => .rt d μ)))
noncomputable def F_Book_distance : List D → Store → Out (D × Store) := gcF 0 (runF 5 b_Book_distance)
noncomputable def b_Book_holders : S := (sSeq (sSet (mMeth "Book" "marked" 2 F_Book_marked (mVar 0) (aCons (mVar 1) aNil)) (gNm 2))
  (sE (mCB tupleD (aCons (mGc (mLc (mSrc (mMeth "Book" "texts" 1 F_Book_texts (mVar 0) aNil)) [3, 4, 5] (gTupN 2 [4, 5]) (mTest (mBin eqD (mCall 2 F_common_of (aCons (mVar 5) (aCons (mVar 2) aNil))) (mCB lenD (aCons (mVar 2) aNil)))) (mVar 4))) aNil)) fun d _ μ => .rt d μ))
noncomputable def F_Book_holders : List D → Store → Out (D × Store) := gcF 0 (runF 6 b_Book_holders)
noncomputable def b__law_others_right : S := (sSeq (sE (mMeth "Book" "change" 2 F_Book_change (mVar 0) (aCons (mTup (aCons (mC (.str "all")) (aCons (mTup (aCons (mC (.str "text")) (aCons (mC (.str "x")) (aCons (mMeth "Book" "text" 2 F_Book_text (mVar 0) (aCons (mC (.str "a")) aNil)) aNil)))) (aCons (mTup (aCons (mC (.str "join")) (aCons (mC (.str "x")) (aCons (mC (.str "b")) aNil)))) aNil)))) aNil)) fun _ => sNx)
  (sSeq (sIf (mOrT (mTest (mBin nisD (mMeth "Book" "is_never_less" 4 F_Book_is_never_less (mVar 0) (aCons (mC (.str "x")) (aCons (mC (.str "a")) (aCons (mC (.str "m")) aNil)))) (mC (.bl true)))) (mOrT (mTest (mBin nisD (mMeth "Book" "is_never_less" 4 F_Book_is_never_less (mVar 0) (aCons (mC (.str "x")) (aCons (mC (.str "b")) (aCons (mC (.str "m")) aNil)))) (mC (.bl true)))) (mTest (mBin neD (mMeth "Book" "text" 2 F_Book_text (mVar 0) (aCons (mC (.str "x")) aNil)) (mBin addD (mMeth "Book" "text" 2 F_Book_text (mVar 0) (aCons (mC (.str "a")) aNil)) (mMeth "Book" "text" 2 F_Book_text (mVar 0) (aCons (mC (.str "b")) aNil))))))) (sE (mC (.bl false)) fun d _ μ => .rt d μ) sNx)
  (sSeq (sPar 1 2 (aCons (mMeth "Book" "marked" 2 F_Book_marked (mVar 0) (aCons (mC (.str "m")) aNil)) (aCons (mMeth "Book" "passage" 3 F_Book_passage (mVar 0) (aCons (mC (.str "a")) (aCons (mC (.str "m")) aNil))) aNil)))
  (sSeq (sSet (mCB lenD (aCons (mVar 1) aNil)) (gNm 3))
  (sSeq (sSet (mBin mulD (mGc (mLst (aCons (mC .non) aNil))) (mVar 3)) (gNm 4))
  (sSeq (sFor (mEnum (aCons (mVar 2) aNil)) (gTupD 2 (gsCons (gNm 5) (gsCons (gNm 6) gsNil))) (sIf (mTest (mBin nisD (mVar 6) (mC .non))) (sSet (mBin subD (mBin subD (mVar 3) (mC (.int 1))) (mVar 5)) (gSubD (mVar 4) (mBin subD (mBin subD (mVar 3) (mC (.int 1))) (mVar 6)))) sNx))
  (sSeq (sE (mMeth "Book" "change" 2 F_Book_change (mVar 0) (aCons (mTup (aCons (mC (.str "all")) (aCons (mTup (aCons (mC (.str "turn")) (aCons (mC (.str "a")) aNil))) (aCons (mTup (aCons (mC (.str "turn")) (aCons (mC (.str "b")) aNil))) aNil)))) aNil)) fun _ => sNx)
  (sSeq (sIf (mOrT (mTest (mBin neD (mMeth "Book" "marked" 2 F_Book_marked (mVar 0) (aCons (mC (.str "m")) aNil)) (mGc (mUn revD (mVar 1))))) (mNotT (mTru (mCall 2 (pureF (F__law_like 6)) (aCons (mMeth "Book" "passage" 3 F_Book_passage (mVar 0) (aCons (mC (.str "a")) (aCons (mC (.str "m")) aNil))) (aCons (mCB tupleD (aCons (mVar 4) aNil)) aNil)))))) (sE (mC (.bl false)) fun d _ μ => .rt d μ) sNx)
  (sSeq (sE (mMeth "Book" "change" 2 F_Book_change (mVar 0) (aCons (mTup (aCons (mC (.str "lift")) (aCons (mC (.str "z")) (aCons (mC (.str "m")) aNil)))) aNil)) fun _ => sNx)
  (sSeq (sIf (mNotT (mTru (mCall 2 (pureF (F__law_like 6)) (aCons (mMeth "Book" "passage" 3 F_Book_passage (mVar 0) (aCons (mC (.str "z")) (aCons (mC (.str "m")) aNil))) (aCons (mBin mulD (mTup (aCons (mC .non) aNil)) (mVar 3)) aNil))))) (sE (mC (.bl false)) fun d _ μ => .rt d μ) sNx)
  (sE (mAnd (mBin inD (mC (.str "z")) (mMeth "Book" "holders" 2 F_Book_holders (mVar 0) (aCons (mC (.str "m")) aNil))) (mAnd (mBin eqD (mMeth "Book" "distance" 3 F_Book_distance (mVar 0) (aCons (mC (.str "z")) (aCons (mC (.str "z")) aNil))) (mC (.int 0))) (mBin eqD (mMeth "Book" "common" 3 F_Book_common (mVar 0) (aCons (mC (.str "z")) (aCons (mC (.str "z")) aNil))) (mVar 3)))) fun d _ μ => .rt d μ)))))))))))
noncomputable def F__law_others_right : List D → Store → Out (D × Store) := gcF 0 (runF 7 b__law_others_right)
noncomputable def b__law_commons_by : S := (sSeq (sPar 1 2 (aCons (mCB lenD (aCons (mVar 0) aNil)) (aCons (mLst aNil) aNil)))
  (sSeq (sFor (mRange1 (aCons (mBin addD (mVar 1) (mC (.int 1))) aNil)) (gNm 3) (sSeq (sSet (mLst aNil) (gNm 4))
  (sSeq (sFor (mRange1 (aCons (mBin addD (mVar 1) (mC (.int 1))) aNil)) (gNm 5) (sE (mBM tyList appendD (mVar 4) (aCons (mBin subD (mCB max2D (aCons (mC (.int 0)) (aCons (mBin subD (mVar 5) (mVar 3)) aNil))) (mCB lenD (aCons (mGc (mLc (mSrc (mGc (mSl slD (mVar 0) (oSome (mVar 3)) oNone))) [6, 7] (gNm 7) (mAndT (mTest (mBin nisD (mVar 7) (mC .non))) (mTest (mBin ltD (mVar 7) (mVar 5)))) (mC (.int 1)))) aNil))) aNil)) fun _ => sNx))
  (sE (mBM tyList appendD (mVar 2) (aCons (mVar 4) aNil)) fun _ => sNx))))
  (sE (mVar 2) fun d _ μ => .rt d μ)))
noncomputable def F__law_commons_by : List D → Store → Out (D × Store) := gcF 0 (runF 8 b__law_commons_by)
noncomputable def b__law_between : S := (sSeq (sFor (mRange1 (aCons (mCB lenD (aCons (mVar 0) aNil)) aNil)) (gNm 3) (sIf (mTest (mBin neD (mGc (mLc (mRange2 (aCons (mVar 3) (aCons (mCB lenD (aCons (mVar 0) aNil)) aNil))) [4, 5] (gNm 5) (mNotT (mTest (mChain leD leD (mC (.int 0)) (mBin subD (mBin ixD (mBin ixD (mVar 1) (mVar 3)) (mVar 5)) (mBin ixD (mBin ixD (mVar 0) (mVar 3)) (mVar 5))) (mVar 2)))) (mC (.int 1)))) (mGc (mLst aNil)))) (sE (mC (.bl false)) fun d _ μ => .rt d μ) sNx))
  (sE (mC (.bl true)) fun d _ μ => .rt d μ))
noncomputable def F__law_between : List D → Store → Out (D × Store) := gcF 0 (runF 6 b__law_between)
noncomputable def b__law_put_right : S := (sSeq (sSet (mMeth "Book" "text" 2 F_Book_text (mVar 1) (aCons (mC (.str "a")) aNil)) (gNm 2))
  (sSeq (sPar3 3 4 5 (aCons (mCall 1 F__law_commons_by (aCons (mMeth "Book" "passage" 3 F_Book_passage (mVar 1) (aCons (mC (.str "a")) (aCons (mC (.str "m")) aNil))) aNil)) (aCons (mCall 2 F__law_take (aCons (mVar 0) (aCons (mBin addD (mCB lenD (aCons (mVar 2) aNil)) (mC (.int 1))) aNil))) (aCons (mCall 3 F__law_drawn_text (aCons (mVar 0) (aCons (mC (.int 4)) (aCons (mC (.int 3)) aNil)))) aNil))))
  (sSeq (sE (mMeth "Book" "change" 2 F_Book_change (mVar 1) (aCons (mTup (aCons (mC (.str "put")) (aCons (mC (.str "a")) (aCons (mVar 4) (aCons (mVar 5) aNil))))) aNil)) fun _ => sNx)
  (sSeq (sSet (mCall 1 F__law_commons_by (aCons (mMeth "Book" "passage" 3 F_Book_passage (mVar 1) (aCons (mC (.str "a")) (aCons (mC (.str "m")) aNil))) aNil)) (gNm 6))
  (sSeq (sIf (mNotT (mTru (mCall 3 F__law_between (aCons (mVar 3) (aCons (mVar 6) (aCons (mCB lenD (aCons (mVar 5) aNil)) aNil)))))) (sE (mC (.bl false)) fun d _ μ => .rt d μ) sNx)
  (sSeq (sE (mMeth "Book" "change" 2 F_Book_change (mVar 1) (aCons (mTup (aCons (mC (.str "lift")) (aCons (mC (.str "z")) (aCons (mC (.str "m")) aNil)))) aNil)) fun _ => sNx)
  (sSeq (sE (mMeth "Book" "change" 2 F_Book_change (mVar 1) (aCons (mTup (aCons (mC (.str "text")) (aCons (mC (.str "y")) (aCons (mVar 2) aNil)))) aNil)) fun _ => sNx)
  (sSeq (sIf (mOrT (mTest (mBin nisD (mMeth "Book" "is_never_less" 4 F_Book_is_never_less (mVar 1) (aCons (mC (.str "a")) (aCons (mC (.str "y")) (aCons (mC (.str "m")) aNil)))) (mC (.bl true)))) (mNotT (mTest (mChain leD leD (mC (.int 0)) (mBin subD (mMeth "Book" "common" 3 F_Book_common (mVar 1) (aCons (mC (.str "a")) (aCons (mC (.str "b")) aNil))) (mMeth "Book" "common" 3 F_Book_common (mVar 1) (aCons (mC (.str "y")) (aCons (mC (.str "b")) aNil)))) (mCB lenD (aCons (mVar 5) aNil)))))) (sE (mC (.bl false)) fun d _ μ => .rt d μ) sNx)
  (sSeq (sSet (mMeth "Book" "text" 2 F_Book_text (mVar 1) (aCons (mC (.str "a")) aNil)) (gNm 2))
  (sSeq (sSet (mCall 2 F__law_take (aCons (mVar 0) (aCons (mBin addD (mCB lenD (aCons (mVar 2) aNil)) (mC (.int 1))) aNil))) (gNm 7))
  (sSeq (sSet (mCB min2D (aCons (mCB lenD (aCons (mVar 2) aNil)) (aCons (mBin addD (mVar 7) (mCall 2 F__law_take (aCons (mVar 0) (aCons (mC (.int 4)) aNil)))) aNil))) (gNm 8))
  (sSeq (sE (mMeth "Book" "change" 2 F_Book_change (mVar 1) (aCons (mTup (aCons (mC (.str "out")) (aCons (mC (.str "a")) (aCons (mVar 7) (aCons (mVar 8) aNil))))) aNil)) fun _ => sNx)
  (sSeq (sSet (mCall 1 F__law_commons_by (aCons (mMeth "Book" "passage" 3 F_Book_passage (mVar 1) (aCons (mC (.str "a")) (aCons (mC (.str "m")) aNil))) aNil)) (gNm 9))
  (sSeq (sIf (mNotT (mTru (mCall 3 F__law_between (aCons (mVar 9) (aCons (mVar 6) (aCons (mBin subD (mVar 8) (mVar 7)) aNil)))))) (sE (mC (.bl false)) fun d _ μ => .rt d μ) sNx)
  (sSeq (sSet (mMeth "Book" "text" 2 F_Book_text (mVar 1) (aCons (mC (.str "a")) aNil)) (gNm 2))
  (sSeq (sIf (mTest (mBin neD (mVar 2) (mTup aNil))) (sSeq (sE (mMeth "Book" "change" 2 F_Book_change (mVar 1) (aCons (mTup (aCons (mC (.str "sign")) (aCons (mC (.str "a")) (aCons (mCall 2 F__law_take (aCons (mVar 0) (aCons (mCB lenD (aCons (mVar 2) aNil)) aNil))) (aCons (mCall 2 F__law_take (aCons (mVar 0) (aCons (mC (.int 4)) aNil))) aNil))))) aNil)) fun _ => sNx)
  (sSeq (sSet (mCall 1 F__law_commons_by (aCons (mMeth "Book" "passage" 3 F_Book_passage (mVar 1) (aCons (mC (.str "a")) (aCons (mC (.str "m")) aNil))) aNil)) (gNm 10))
  (sFor (mRange1 (aCons (mCB lenD (aCons (mVar 9) aNil)) aNil)) (gNm 11) (sIf (mTest (mBin neD (mGc (mLc (mRange2 (aCons (mVar 11) (aCons (mCB lenD (aCons (mVar 9) aNil)) aNil))) [12, 13] (gNm 13) (mTest (mBin gtD (mCB absD (aCons (mBin subD (mBin ixD (mBin ixD (mVar 9) (mVar 11)) (mVar 13)) (mBin ixD (mBin ixD (mVar 10) (mVar 11)) (mVar 13))) aNil)) (mC (.int 1)))) (mC (.int 1)))) (mGc (mLst aNil)))) (sE (mC (.bl false)) fun d _ μ => .rt d μ) sNx)))) sNx)
  (sE (mC (.bl true)) fun d _ μ => .rt d μ)))))))))))))))))
noncomputable def F__law_put_right : List D → Store → Out (D × Store) := gcF 0 (runF 14 b__law_put_right)
noncomputable def b_law : S := (sSeq (sSet (mCall 3 F__law_tape (aCons (mVar 0) (aCons (mC (.int 900)) (aCons (mC (.int 81)) aNil)))) (gNm 1))
  (sSeq (sFor (mRange1 (aCons (mC (.int 3)) aNil)) (gNm 2) (sSeq (sPar 3 4 (aCons (mMake "Book" 1 F_Book___init__ aNil) (aCons (mCall 3 F__law_drawn_text (aCons (mVar 1) (aCons (mC (.int 9)) (aCons (mC (.int 3)) aNil)))) aNil)))
  (sSeq (sE (mMeth "Book" "change" 2 F_Book_change (mVar 3) (aCons (mTup (aCons (mC (.str "all")) (aCons (mTup (aCons (mC (.str "text")) (aCons (mC (.str "a")) (aCons (mCall 3 F__law_drawn_text (aCons (mVar 1) (aCons (mC (.int 9)) (aCons (mC (.int 3)) aNil)))) aNil)))) (aCons (mTup (aCons (mC (.str "text")) (aCons (mC (.str "b")) (aCons (mVar 4) aNil)))) aNil)))) aNil)) fun _ => sNx)
  (sSeq (sSet (mCall 2 F__law_take (aCons (mVar 1) (aCons (mBin addD (mCB lenD (aCons (mVar 4) aNil)) (mC (.int 1))) aNil))) (gNm 5))
  (sSeq (sE (mMeth "Book" "change" 2 F_Book_change (mVar 3) (aCons (mTup (aCons (mC (.str "mark")) (aCons (mC (.str "m")) (aCons (mC (.str "b")) (aCons (mVar 5) (aCons (mBin addD (mVar 5) (mCall 2 F__law_take (aCons (mVar 1) (aCons (mBin subD (mBin addD (mCB lenD (aCons (mVar 4) aNil)) (mC (.int 1))) (mVar 5)) aNil)))) aNil)))))) aNil)) fun _ => sNx)
  (sIf (mOrT (mNotT (mTru (mCall 2 F__law_put_right (aCons (mVar 1) (aCons (mVar 3) aNil))))) (mNotT (mTru (mCall 1 F__law_others_right (aCons (mVar 3) aNil))))) (sE (mC (.bl false)) fun d _ μ => .rt d μ) sNx))))))
  (sE (mC (.bl true)) fun d _ μ => .rt d μ)))
noncomputable def F_law : List D → Store → Out (D × Store) := runF 6 b_law
end LW

-- G81
set_option Elab.async false
set_option linter.all false
set_option maxRecDepth 100000
set_option maxHeartbeats 4000000
namespace LW
open PySem PySem.Spec PyProof.Rows L2 LamX NdefX LamD DL
def top (i : Nat) : Stmt := PySem.Challenge.pw_weedcomb_k81_whole_changes_and_what_is_c.main.body.getD i (.Pass ⟨0, 0, 0, 0⟩)
abbrev st__law_tape : Stmt := (top 63)
def D__law_tape : He.DefD := ⟨("_law_tape", none), "_law_tape", "_law_tape", defArgs st__law_tape, defBody st__law_tape, defScope st__law_tape, [], []⟩
abbrev st_Book___init__ : Stmt := (inClass (top 61) 0)
def D_Book___init__ : He.DefD := ⟨("Book", some "__init__"), "__init__", "Book.__init__", defArgs st_Book___init__, defBody st_Book___init__, defScope st_Book___init__, [], []⟩
abbrev st__law_take : Stmt := (top 64)
def D__law_take : He.DefD := ⟨("_law_take", none), "_law_take", "_law_take", defArgs st__law_take, defBody st__law_take, defScope st__law_take, [], []⟩
abbrev st__law_drawn_text : Stmt := (top 66)
def D__law_drawn_text : He.DefD := ⟨("_law_drawn_text", none), "_law_drawn_text", "_law_drawn_text", defArgs st__law_drawn_text, defBody st__law_drawn_text, defScope st__law_drawn_text, [], []⟩
abbrev st_with_named : Stmt := (top 39)
def D_with_named : He.DefD := ⟨("with_named", none), "with_named", "with_named", defArgs st_with_named, defBody st_with_named, defScope st_with_named, [], []⟩
abbrev st_marks_left : Stmt := (top 42)
def D_marks_left : He.DefD := ⟨("marks_left", none), "marks_left", "marks_left", defArgs st_marks_left, defBody st_marks_left, defScope st_marks_left, [], []⟩
abbrev st_renamed_text : Stmt := (top 44)
def D_renamed_text : He.DefD := ⟨("renamed_text", none), "renamed_text", "renamed_text", defArgs st_renamed_text, defBody st_renamed_text, defScope st_renamed_text, [], []⟩
abbrev st_is_tuple_of : Stmt := (top 12)
def D_is_tuple_of : He.DefD := ⟨("is_tuple_of", none), "is_tuple_of", "is_tuple_of", defArgs st_is_tuple_of, defBody st_is_tuple_of, defScope st_is_tuple_of, [], []⟩
abbrev st_is_number : Stmt := (top 10)
def D_is_number : He.DefD := ⟨("is_number", none), "is_number", "is_number", defArgs st_is_number, defBody st_is_number, defScope st_is_number, [], []⟩
abbrev st_is_among : Stmt := (top 11)
def D_is_among : He.DefD := ⟨("is_among", none), "is_among", "is_among", defArgs st_is_among, defBody st_is_among, defScope st_is_among, [], []⟩
abbrev st_is_sign : Stmt := (top 17)
def D_is_sign : He.DefD := ⟨("is_sign", none), "is_sign", "is_sign", defArgs st_is_sign, defBody st_is_sign, defScope st_is_sign, [], []⟩
abbrev st_need_text : Stmt := (top 19)
def D_need_text : He.DefD := ⟨("need_text", none), "need_text", "need_text", defArgs st_need_text, defBody st_need_text, defScope st_need_text, [], []⟩
abbrev st_spot_of : Stmt := (top 38)
def D_spot_of : He.DefD := ⟨("spot_of", none), "spot_of", "spot_of", defArgs st_spot_of, defBody st_spot_of, defScope st_spot_of, [], []⟩
abbrev st_without_named : Stmt := (top 40)
def D_without_named : He.DefD := ⟨("without_named", none), "without_named", "without_named", defArgs st_without_named, defBody st_without_named, defScope st_without_named, [], []⟩
abbrev st_marks_moved : Stmt := (top 41)
def D_marks_moved : He.DefD := ⟨("marks_moved", none), "marks_moved", "marks_moved", defArgs st_marks_moved, defBody st_marks_moved, defScope st_marks_moved, [], []⟩
abbrev st_grown : Stmt := (top 45)
def D_grown : He.DefD := ⟨("grown", none), "grown", "grown", defArgs st_grown, defBody st_grown, defScope st_grown, [], []⟩
abbrev st_behind_put : Stmt := (top 46)
def D_behind_put : He.DefD := ⟨("behind_put", none), "behind_put", "behind_put", defArgs st_behind_put, defBody st_behind_put, defScope st_behind_put, [], []⟩
abbrev st_need_text_window : Stmt := (top 43)
def D_need_text_window : He.DefD := ⟨("need_text_window", none), "need_text_window", "need_text_window", defArgs st_need_text_window, defBody st_need_text_window, defScope st_need_text_window, [], []⟩
abbrev st_behind_out : Stmt := (top 47)
def D_behind_out : He.DefD := ⟨("behind_out", none), "behind_out", "behind_out", defArgs st_behind_out, defBody st_behind_out, defScope st_behind_out, [], []⟩
abbrev st_need_sign : Stmt := (top 18)
def D_need_sign : He.DefD := ⟨("need_sign", none), "need_sign", "need_sign", defArgs st_need_sign, defBody st_need_sign, defScope st_need_sign, [], []⟩
abbrev st_behind_sign : Stmt := (top 48)
def D_behind_sign : He.DefD := ⟨("behind_sign", none), "behind_sign", "behind_sign", defArgs st_behind_sign, defBody st_behind_sign, defScope st_behind_sign, [], []⟩
abbrev st_behind_turn : Stmt := (top 49)
def D_behind_turn : He.DefD := ⟨("behind_turn", none), "behind_turn", "behind_turn", defArgs st_behind_turn, defBody st_behind_turn, defScope st_behind_turn, [], []⟩
abbrev st_behind_mark : Stmt := (top 50)
def D_behind_mark : He.DefD := ⟨("behind_mark", none), "behind_mark", "behind_mark", defArgs st_behind_mark, defBody st_behind_mark, defScope st_behind_mark, [], []⟩
abbrev st_behind_lift : Stmt := (top 51)
def D_behind_lift : He.DefD := ⟨("behind_lift", none), "behind_lift", "behind_lift", defArgs st_behind_lift, defBody st_behind_lift, defScope st_behind_lift, [], []⟩
abbrev st_behind_join : Stmt := (top 52)
def D_behind_join : He.DefD := ⟨("behind_join", none), "behind_join", "behind_join", defArgs st_behind_join, defBody st_behind_join, defScope st_behind_join, [], []⟩
abbrev st_behind_single : Stmt := (top 53)
def D_behind_single : He.DefD := ⟨("behind_single", none), "behind_single", "behind_single", defArgs st_behind_single, defBody st_behind_single, defScope st_behind_single, [], []⟩
abbrev st_behind_change : Stmt := (top 54)
def D_behind_change : He.DefD := ⟨("behind_change", none), "behind_change", "behind_change", defArgs st_behind_change, defBody st_behind_change, defScope st_behind_change, [], []⟩
abbrev st_is_name : Stmt := (top 34)
def D_is_name : He.DefD := ⟨("is_name", none), "is_name", "is_name", defArgs st_is_name, defBody st_is_name, defScope st_is_name, [], []⟩
abbrev st_is_thing_of_kind : Stmt := (top 35)
def D_is_thing_of_kind : He.DefD := ⟨("is_thing_of_kind", none), "is_thing_of_kind", "is_thing_of_kind", defArgs st_is_thing_of_kind, defBody st_is_thing_of_kind, defScope st_is_thing_of_kind, [], []⟩
abbrev st_is_single : Stmt := (top 36)
def D_is_single : He.DefD := ⟨("is_single", none), "is_single", "is_single", defArgs st_is_single, defBody st_is_single, defScope st_is_single, [], []⟩
abbrev st_need_change : Stmt := (top 37)
def D_need_change : He.DefD := ⟨("need_change", none), "need_change", "need_change", defArgs st_need_change, defBody st_need_change, defScope st_need_change, [], []⟩
abbrev st_Book_change : Stmt := (inClass (top 61) 5)
def D_Book_change : He.DefD := ⟨("Book", some "change"), "change", "Book.change", defArgs st_Book_change, defBody st_Book_change, defScope st_Book_change, [], []⟩
abbrev st_Book_texts : Stmt := (inClass (top 61) 1)
def D_Book_texts : He.DefD := ⟨("Book", some "texts"), "texts", "Book.texts", defArgs st_Book_texts, defBody st_Book_texts, defScope st_Book_texts, [], []⟩
abbrev st_Book_text : Stmt := (inClass (top 61) 8)
def D_Book_text : He.DefD := ⟨("Book", some "text"), "text", "Book.text", defArgs st_Book_text, defBody st_Book_text, defScope st_Book_text, [], []⟩
abbrev st_Book_marks : Stmt := (inClass (top 61) 2)
def D_Book_marks : He.DefD := ⟨("Book", some "marks"), "marks", "Book.marks", defArgs st_Book_marks, defBody st_Book_marks, defScope st_Book_marks, [], []⟩
abbrev st_Book_mark : Stmt := (inClass (top 61) 9)
def D_Book_mark : He.DefD := ⟨("Book", some "mark"), "mark", "Book.mark", defArgs st_Book_mark, defBody st_Book_mark, defScope st_Book_mark, [], []⟩
abbrev st_Book_marked : Stmt := (inClass (top 61) 10)
def D_Book_marked : He.DefD := ⟨("Book", some "marked"), "marked", "Book.marked", defArgs st_Book_marked, defBody st_Book_marked, defScope st_Book_marked, [], []⟩
abbrev st_Book_across : Stmt := (inClass (top 61) 15)
def D_Book_across : He.DefD := ⟨("Book", some "across"), "across", "Book.across", defArgs st_Book_across, defBody st_Book_across, defScope st_Book_across, [], []⟩
abbrev st_rows_of : Stmt := (top 56)
def D_rows_of : He.DefD := ⟨("rows_of", none), "rows_of", "rows_of", defArgs st_rows_of, defBody st_rows_of, defScope st_rows_of, [], []⟩
abbrev st_first_more : Stmt := (top 57)
def D_first_more : He.DefD := ⟨("first_more", none), "first_more", "first_more", defArgs st_first_more, defBody st_first_more, defScope st_first_more, [], []⟩
abbrev st_comb : Stmt := (top 22)
def D_comb : He.DefD := ⟨("comb", none), "comb", "comb", defArgs st_comb, defBody st_comb, defScope st_comb, [], []⟩
abbrev st_passage_of_row : Stmt := (top 23)
def D_passage_of_row : He.DefD := ⟨("passage_of_row", none), "passage_of_row", "passage_of_row", defArgs st_passage_of_row, defBody st_passage_of_row, defScope st_passage_of_row, [], []⟩
abbrev st_combed : Stmt := (top 24)
def D_combed : He.DefD := ⟨("combed", none), "combed", "combed", defArgs st_combed, defBody st_combed, defScope st_combed, [], []⟩
abbrev st_need_across : Stmt := (top 20)
def D_need_across : He.DefD := ⟨("need_across", none), "need_across", "need_across", defArgs st_need_across, defBody st_need_across, defScope st_need_across, [], []⟩
abbrev st_passage_over : Stmt := (top 25)
def D_passage_over : He.DefD := ⟨("passage_over", none), "passage_over", "passage_over", defArgs st_passage_over, defBody st_passage_over, defScope st_passage_over, [], []⟩
abbrev st_Book_first_less : Stmt := (inClass (top 61) 17)
def D_Book_first_less : He.DefD := ⟨("Book", some "first_less"), "first_less", "Book.first_less", defArgs st_Book_first_less, defBody st_Book_first_less, defScope st_Book_first_less, [], []⟩
abbrev st_Book_is_never_less : Stmt := (inClass (top 61) 18)
def D_Book_is_never_less : He.DefD := ⟨("Book", some "is_never_less"), "is_never_less", "Book.is_never_less", defArgs st_Book_is_never_less, defBody st_Book_is_never_less, defScope st_Book_is_never_less, [], []⟩
abbrev st_Book_passage : Stmt := (inClass (top 61) 16)
def D_Book_passage : He.DefD := ⟨("Book", some "passage"), "passage", "Book.passage", defArgs st_Book_passage, defBody st_Book_passage, defScope st_Book_passage, [], []⟩
abbrev st__law_like : Stmt := (top 65)
def D__law_like : He.DefD := ⟨("_law_like", none), "_law_like", "_law_like", defArgs st__law_like, defBody st__law_like, defScope st__law_like, [], []⟩
abbrev st_common_of : Stmt := (top 21)
def D_common_of : He.DefD := ⟨("common_of", none), "common_of", "common_of", defArgs st_common_of, defBody st_common_of, defScope st_common_of, [], []⟩
abbrev st_Book_common : Stmt := (inClass (top 61) 11)
def D_Book_common : He.DefD := ⟨("Book", some "common"), "common", "Book.common", defArgs st_Book_common, defBody st_Book_common, defScope st_Book_common, [], []⟩
abbrev st_Book_distance : Stmt := (inClass (top 61) 12)
def D_Book_distance : He.DefD := ⟨("Book", some "distance"), "distance", "Book.distance", defArgs st_Book_distance, defBody st_Book_distance, defScope st_Book_distance, [], []⟩
abbrev st_Book_holders : Stmt := (inClass (top 61) 14)
def D_Book_holders : He.DefD := ⟨("Book", some "holders"), "holders", "Book.holders", defArgs st_Book_holders, defBody st_Book_holders, defScope st_Book_holders, [], []⟩
abbrev st__law_others_right : Stmt := (top 70)
def D__law_others_right : He.DefD := ⟨("_law_others_right", none), "_law_others_right", "_law_others_right", defArgs st__law_others_right, defBody st__law_others_right, defScope st__law_others_right, [], []⟩
abbrev st__law_commons_by : Stmt := (top 67)
def D__law_commons_by : He.DefD := ⟨("_law_commons_by", none), "_law_commons_by", "_law_commons_by", defArgs st__law_commons_by, defBody st__law_commons_by, defScope st__law_commons_by, [], []⟩
abbrev st__law_between : Stmt := (top 68)
def D__law_between : He.DefD := ⟨("_law_between", none), "_law_between", "_law_between", defArgs st__law_between, defBody st__law_between, defScope st__law_between, [], []⟩
abbrev st__law_put_right : Stmt := (top 69)
def D__law_put_right : He.DefD := ⟨("_law_put_right", none), "_law_put_right", "_law_put_right", defArgs st__law_put_right, defBody st__law_put_right, defScope st__law_put_right, [], []⟩
abbrev st_law : Stmt := (top 71)
def D_law : He.DefD := ⟨("law", none), "law", "law", defArgs st_law, defBody st_law, defScope st_law, [], []⟩
def fa : List He.Fa := [
  .free "abs",
  .free "range",
  .free "len",
  .free "int",
  .glo "_law_tape",
  .glo "Book",
  .cls "Book",
  .noat "Book" "own_states",
  .noat "Book" "own_changes",
  .noat "Book" "own_at",
  .mkr "Book",
  .free "tuple",
  .glo "_law_take",
  .glo "_law_drawn_text",
  .glo "with_named",
  .int "MOST_TEXTS" 8,
  .glo "marks_left",
  .glo "renamed_text",
  .free "isinstance",
  .glo "is_tuple_of",
  .int "MOST_SIGNS" 400,
  .free "enumerate",
  .free "bool",
  .glo "is_number",
  .glo "is_among",
  .int "MOST_SIGN" 999,
  .glo "is_sign",
  .glo "need_text",
  .glo "spot_of",
  .glo "without_named",
  .glo "marks_moved",
  .int "MOST_LONG" 400,
  .glo "grown",
  .glo "behind_put",
  .glo "need_text_window",
  .free "min",
  .free "max",
  .glo "behind_out",
  .glo "need_sign",
  .glo "behind_sign",
  .glo "behind_turn",
  .int "MOST_MARKS" 24,
  .glo "behind_mark",
  .glo "behind_lift",
  .glo "behind_join",
  .glo "behind_single",
  .glo "behind_change",
  .free "str",
  .free "all",
  .glo "KINDS",
  .free "zip",
  .str "LETTERS" "abcdefghijklmnopqrstuvwxyz",
  .str "FIGURES" "0123456789",
  .glo "is_name",
  .glo "is_thing_of_kind",
  .glo "is_single",
  .int "MOST_JOINED" 20,
  .glo "need_change",
  .int "MOST_CHANGES" 200,
  .meth "Book" "change",
  .meth "Book" "texts",
  .meth "Book" "text",
  .meth "Book" "marks",
  .meth "Book" "mark",
  .meth "Book" "marked",
  .int "MOST_ACROSS_books" 60,
  .meth "Book" "across",
  .glo "rows_of",
  .glo "first_more",
  .free "list",
  .glo "comb",
  .glo "passage_of_row",
  .glo "combed",
  .int "MOST_ACROSS_over" 60,
  .glo "need_across",
  .glo "passage_over",
  .meth "Book" "first_less",
  .meth "Book" "is_never_less",
  .meth "Book" "passage",
  .glo "_law_like",
  .glo "common_of",
  .meth "Book" "common",
  .meth "Book" "distance",
  .meth "Book" "holders",
  .glo "_law_others_right",
  .glo "_law_commons_by",
  .glo "_law_between",
  .glo "_law_put_right",
  .glo "law"]
def fn : List He.DefD := [D__law_tape, D_Book___init__, D__law_take, D__law_drawn_text, D_with_named, D_marks_left, D_renamed_text, D_is_tuple_of, D_is_number, D_is_among, D_is_sign, D_need_text, D_spot_of, D_without_named, D_marks_moved, D_grown, D_behind_put, D_need_text_window, D_behind_out, D_need_sign, D_behind_sign, D_behind_turn, D_behind_mark, D_behind_lift, D_behind_join, D_behind_single, D_behind_change, D_is_name, D_is_thing_of_kind, D_is_single, D_need_change, D_Book_change, D_Book_texts, D_Book_text, D_Book_marks, D_Book_mark, D_Book_marked, D_Book_across, D_rows_of, D_first_more, D_comb, D_passage_of_row, D_combed, D_need_across, D_passage_over, D_Book_first_less, D_Book_is_never_less, D_Book_passage, D__law_like, D_common_of, D_Book_common, D_Book_distance, D_Book_holders, D__law_others_right, D__law_commons_by, D__law_between, D__law_put_right, D_law]
variable [DL.Tab]
structure Row (w : World) (K : PySem.W.Frag) (mg : Str → Option Value) (base : Heap) : Prop where
  c : Ctx fa fn K mg
  T_KINDS : KD K w (He.ga K "KINDS") T_KINDS
  lt_behind_put : LamTab K mg base ("behind_put", none) "behind_put"
  lt_behind_out : LamTab K mg base ("behind_out", none) "behind_out"
/-! #### _law_tape -/
def N__law_tape : List Str := ["script", "many", "salt", "found", "cell", "rest", "turn", "start", "mixed"]
theorem sc__law_tape : FnScope N__law_tape ["script", "many", "salt"] D__law_tape.scope := ⟨rfl, rfl, rfl, by decide +kernel, rfl, by decide +kernel, by decide +kernel⟩
theorem d__law_tape {P : Program} {w : World} {K : PySem.W.Frag} {mg : Str → Option Value} {base : Heap} (G : Row w K mg base) : DFn P w K mg base 1 ("_law_tape", none) 3 F__law_tape :=
  dfn_of (d := D__law_tape) (N := N__law_tape) (G.c.s.def_ 0) sc__law_tape rfl rfl (fun _ _ _ _ _ _ us hl => match us, hl with | [_, _, _], _ => rfl) fun cdv A outer s H E hcd hr => by
    have hN := sc__law_tape.nd
    have hu := hr.units
    have hu1 := L2.hu_of hr
    have hu65 := hu65_of hr
    have tk : Takes (cxOf (L2.CX P w) P w K mg base N__law_tape D__law_tape.qual D__law_tape.scope (He.fAd K D__law_tape.at_) cdv A outer s H E) (WD E) := takes_of rfl rfl rfl rfl
    exact (dss_cons (ds_set (i := 3) hN (de_lst da_nil))
      (dss_cons (ds_for (passes_of rfl) rfl (di_any (de_gc (de_sl (de_var (i := 0)) do_none (do_some de_int)))) (dg_name (i := 4) hN) (dss_cons (ds_set (i := 5) hN (de_callB call_abs abs_ok (G.c.free 0) (da_cons (de_var (i := 4)) da_nil)))
      (dss_one (ds_if (dt_ge (de_var (i := 5)) (de_pow de_int de_int)) (dss_one (ds_for (passes_of rfl) rfl (di_range1 (G.c.free 1) (da_cons de_int da_nil)) (dg_name (i := 6) hN) (dss_cons (ds_if (dt_eq hu (de_var (i := 5)) de_int) (dss_one ds_break) dss_nil)
      (dss_cons (ds_expr (de_bm (T := "list") ty_list append_ok PySem.F.plainAttrs_list PySem.F.slot_list_append PySem.F.type_list_append mt_append (de_var (i := 3)) (da_cons (de_mod (de_var (i := 5)) de_int) da_nil)))
      (dss_one (ds_set (i := 5) hN (de_div (de_var (i := 5)) de_int))))))) dss_nil))))
      (dss_cons (ds_set (i := 7) hN (de_add (de_mul (de_callB call_len len_ok (G.c.free 2) (da_cons (de_var (i := 0)) da_nil)) de_int) (de_mul (de_var (i := 2)) de_int)))
      (dss_cons (ds_for (passes_of rfl) rfl (di_any (de_gc (de_sl (de_var (i := 0)) do_none (do_some de_int)))) (dg_name (i := 4) hN) (dss_one (ds_set (i := 7) hN (de_mod (de_callTy call_int1 int1_ok (G.c.free 3) (da_cons (de_add (de_add (de_mul (de_var (i := 7)) de_int) (de_mod (de_callTy call_int1 int1_ok (G.c.free 3) (da_cons (de_var (i := 4)) da_nil)) de_int)) de_int) da_nil)) de_int))))
      (dss_cons (ds_for (passes_of rfl) rfl (di_range1 (G.c.free 1) (da_cons (de_var (i := 1)) da_nil)) (dg_name (i := 6) hN) (dss_cons (ds_if (dt_ge (de_callB call_len len_ok (G.c.free 2) (da_cons (de_var (i := 3)) da_nil)) (de_var (i := 1))) (dss_one ds_break) dss_nil)
      (dss_cons (ds_set (i := 7) hN (de_mod (de_callTy call_int1 int1_ok (G.c.free 3) (da_cons (de_add (de_add (de_mul (de_var (i := 7)) de_int) (de_var (i := 6))) de_int) da_nil)) de_int))
      (dss_cons (ds_set (i := 8) hN (de_mod (de_callTy call_int1 int1_ok (G.c.free 3) (da_cons (de_mul (de_var (i := 7)) (de_add (de_var (i := 7)) de_int)) da_nil)) de_int))
      (dss_one (ds_expr (de_bm (T := "list") ty_list append_ok PySem.F.plainAttrs_list PySem.F.slot_list_append PySem.F.type_list_append mt_append (de_var (i := 3)) (da_cons (de_mod (de_div (de_var (i := 8)) de_int) de_int) da_nil))))))))
      (dss_one (ds_ret (de_rev (de_sl (de_var (i := 3)) do_none (do_some (de_var (i := 1))))))))))))
/-! #### Book.__init__ -/
def N_Book___init__ : List Str := ["self"]
theorem sc_Book___init__ : FnScope N_Book___init__ ["self"] D_Book___init__.scope := ⟨rfl, rfl, rfl, by decide +kernel, rfl, by decide +kernel, by decide +kernel⟩
theorem d_Book___init__ {P : Program} {w : World} {K : PySem.W.Frag} {mg : Str → Option Value} {base : Heap} (G : Row w K mg base) : DFn P w K mg base 1 ("Book", some "__init__") 1 F_Book___init__ :=
  DFn.gc 0 (dfn_of (d := D_Book___init__) (N := N_Book___init__) (G.c.s.def_ 1) sc_Book___init__ rfl rfl (fun _ _ _ _ _ _ us hl => match us, hl with | [_], _ => rfl) fun cdv A outer s H E hcd hr => by
    have hN := sc_Book___init__.nd
    have hu := hr.units
    have hu1 := L2.hu_of hr
    have hu65 := hu65_of hr
    have tk : Takes (cxOf (L2.CX P w) P w K mg base N_Book___init__ D_Book___init__.qual D_Book___init__.scope (He.fAd K D_Book___init__.at_) cdv A outer s H E) (WD E) := takes_of rfl rfl rfl rfl
    exact (dss_cons (ds_fld (c := "Book") (G.c.glo 5) (G.c.cls 6) (G.c.noat 7) (de_var (i := 0)) (de_gc (de_lst (da_cons (de_tup (da_cons (de_tup da_nil) (da_cons (de_tup da_nil) da_nil))) da_nil))))
      (dss_cons (ds_fld (c := "Book") (G.c.glo 5) (G.c.cls 6) (G.c.noat 8) (de_var (i := 0)) (de_gc (de_lst da_nil)))
      (dss_one (ds_fld (c := "Book") (G.c.glo 5) (G.c.cls 6) (G.c.noat 9) (de_var (i := 0)) de_int)))))
/-! #### _law_take -/
def N__law_take : List Str := ["tape", "limit"]
theorem sc__law_take : FnScope N__law_take ["tape", "limit"] D__law_take.scope := ⟨rfl, rfl, rfl, by decide +kernel, rfl, by decide +kernel, by decide +kernel⟩
theorem d__law_take {P : Program} {w : World} {K : PySem.W.Frag} {mg : Str → Option Value} {base : Heap} (G : Row w K mg base) : DFn P w K mg base 1 ("_law_take", none) 2 F__law_take :=
  DFn.gc 0 (dfn_of (d := D__law_take) (N := N__law_take) (G.c.s.def_ 2) sc__law_take rfl rfl (fun _ _ _ _ _ _ us hl => match us, hl with | [_, _], _ => rfl) fun cdv A outer s H E hcd hr => by
    have hN := sc__law_take.nd
    have hu := hr.units
    have hu1 := L2.hu_of hr
    have hu65 := hu65_of hr
    have tk : Takes (cxOf (L2.CX P w) P w K mg base N__law_take D__law_take.qual D__law_take.scope (He.fAd K D__law_take.at_) cdv A outer s H E) (WD E) := takes_of rfl rfl rfl rfl
    exact (dss_cons (ds_if (dt_eq hu (de_var (i := 0)) (de_gc (de_lst da_nil))) (dss_one (ds_ret de_int)) dss_nil)
      (dss_one (ds_ret (de_mod (de_bm0 (T := "list") ty_list pop_ok PySem.F.plainAttrs_list PySem.F.slot_list_pop PySem.F.type_list_pop mt_pop (de_var (i := 0))) (de_var (i := 1)))))))
/-! #### _law_drawn_text -/
def N__law_drawn_text : List Str := ["tape", "many", "signs", ".0", "turn"]
theorem sc__law_drawn_text : FnScope N__law_drawn_text ["tape", "many", "signs"] D__law_drawn_text.scope := ⟨rfl, rfl, rfl, by decide +kernel, rfl, by decide +kernel, by decide +kernel⟩
theorem d__law_drawn_text {P : Program} {w : World} {K : PySem.W.Frag} {mg : Str → Option Value} {base : Heap} (G : Row w K mg base) : DFn P w K mg base 2 ("_law_drawn_text", none) 3 F__law_drawn_text :=
  DFn.gc 0 (dfn_of (d := D__law_drawn_text) (N := N__law_drawn_text) (G.c.s.def_ 3) sc__law_drawn_text rfl rfl (fun _ _ _ _ _ _ us hl => match us, hl with | [_, _, _], _ => rfl) fun cdv A outer s H E hcd hr => by
    have hN := sc__law_drawn_text.nd
    have hu := hr.units
    have hu1 := L2.hu_of hr
    have hu65 := hu65_of hr
    have tk : Takes (cxOf (L2.CX P w) P w K mg base N__law_drawn_text D__law_drawn_text.qual D__law_drawn_text.scope (He.fAd K D__law_drawn_text.at_) cdv A outer s H E) (WD E) := takes_of rfl rfl rfl rfl
    exact (dss_one (ds_ret (de_callTy call_tuple_of tuple_ok (G.c.free 11) (da_cons (de_gc (de_lc (own := [(".0", 3), ("turn", 4)]) rfl hN (di_range1 (G.c.free 1) (da_cons (de_cf (d__law_take G) (hr.mono (by omega)) (G.c.glo 12) tk (da_cons (de_var (i := 0)) (da_cons (de_add (de_var (i := 1)) de_int) da_nil))) da_nil)) (by exact blkOk_by (N := N__law_drawn_text) (sc := D__law_drawn_text.scope) (own := [(".0", 3), ("turn", 4)]) (by decide +kernel)) (ltg_name (i := 4) (by decide)) (fun _ _ _ _ _ => pg_name (i := 4) hN rfl (by first | exact Or.inl rfl | exact Or.inr rfl) (by first | exact .inl rfl | exact .inr rfl)) (fun _ _ _ _ _ => dts_nil) (fun _ _ _ _ _ => (de_cf (d__law_take G) (hr.mono (by omega)) (G.c.glo 12) L2.takes0 (da_cons (de_var (i := 0)) (da_cons (de_var (i := 2)) da_nil)))))) da_nil)))))
/-! #### with_named -/
def N_with_named : List Str := ["rows", "name", "thing", "most", "names", "place", ".0", "row"]
theorem sc_with_named : FnScope N_with_named ["rows", "name", "thing", "most"] D_with_named.scope := ⟨rfl, rfl, rfl, by decide +kernel, rfl, by decide +kernel, by decide +kernel⟩
theorem d_with_named {P : Program} {w : World} {K : PySem.W.Frag} {mg : Str → Option Value} {base : Heap} (G : Row w K mg base) : DFn P w K mg base 1 ("with_named", none) 4 F_with_named :=
  dfn_of (d := D_with_named) (N := N_with_named) (G.c.s.def_ 4) sc_with_named rfl rfl (fun _ _ _ _ _ _ us hl => match us, hl with | [_, _, _, _], _ => rfl) fun cdv A outer s H E hcd hr => by
    have hN := sc_with_named.nd
    have hu := hr.units
    have hu1 := L2.hu_of hr
    have hu65 := hu65_of hr
    have tk : Takes (cxOf (L2.CX P w) P w K mg base N_with_named D_with_named.qual D_with_named.scope (He.fAd K D_with_named.at_) cdv A outer s H E) (WD E) := takes_of rfl rfl rfl rfl
    exact (dss_cons (ds_lc (i := 4) (own := [(".0", 6), ("row", 7)]) rfl hN (di_any (de_var (i := 0))) (by exact blkOk_by (N := N_with_named) (sc := D_with_named.scope) (own := [(".0", 6), ("row", 7)]) (by decide +kernel)) (ltg_name (i := 7) (by decide)) (fun _ _ _ _ _ => pg_name (i := 7) hN rfl (by first | exact Or.inl rfl | exact Or.inr rfl) (by first | exact .inl rfl | exact .inr rfl)) (fun _ _ _ _ _ => dts_nil) (fun _ _ _ _ _ => (de_sub_ix hu1 (de_var (i := 7)) de_int)) (sw_true rfl rfl rfl (by decide +kernel)))
      (dss_cons (ds_if (dt_in hu65 (de_var (i := 1)) (de_var (i := 4))) (dss_cons (ds_set (i := 5) hN (de_bm (T := "list") ty_list index_ok PySem.F.plainAttrs_list PySem.F.slot_list_index PySem.F.type_list_index (mt_indexA hu65) (de_var (i := 4)) (da_cons (de_var (i := 1)) da_nil)))
      (dss_one (ds_ret (de_add (de_add (de_sl (de_var (i := 0)) do_none (do_some (de_var (i := 5)))) (de_tup (da_cons (de_tup (da_cons (de_var (i := 1)) (da_cons (de_var (i := 2)) da_nil))) da_nil))) (de_sl (de_var (i := 0)) (do_some (de_add (de_var (i := 5)) de_int)) do_none))))) dss_nil)
      (dss_cons (ds_if (dt_ge (de_callB call_len len_ok (G.c.free 2) (da_cons (de_var (i := 0)) da_nil)) (de_var (i := 3))) (dss_one ds_never) dss_nil)
      (dss_one (ds_ret (de_add (de_var (i := 0)) (de_tup (da_cons (de_tup (da_cons (de_var (i := 1)) (da_cons (de_var (i := 2)) da_nil))) da_nil))))))))
/-! #### marks_left -/
def N_marks_left : List Str := ["marks", "name", ".0", "row"]
theorem sc_marks_left : FnScope N_marks_left ["marks", "name"] D_marks_left.scope := ⟨rfl, rfl, rfl, by decide +kernel, rfl, by decide +kernel, by decide +kernel⟩
theorem d_marks_left {P : Program} {w : World} {K : PySem.W.Frag} {mg : Str → Option Value} {base : Heap} (G : Row w K mg base) : DFn P w K mg base 1 ("marks_left", none) 2 F_marks_left :=
  dfn_of (d := D_marks_left) (N := N_marks_left) (G.c.s.def_ 5) sc_marks_left rfl rfl (fun _ _ _ _ _ _ us hl => match us, hl with | [_, _], _ => rfl) fun cdv A outer s H E hcd hr => by
    have hN := sc_marks_left.nd
    have hu := hr.units
    have hu1 := L2.hu_of hr
    have hu65 := hu65_of hr
    have tk : Takes (cxOf (L2.CX P w) P w K mg base N_marks_left D_marks_left.qual D_marks_left.scope (He.fAd K D_marks_left.at_) cdv A outer s H E) (WD E) := takes_of rfl rfl rfl rfl
    exact (dss_one (ds_ret (de_callTy call_tuple_of tuple_ok (G.c.free 11) (da_cons (de_lc (own := [(".0", 2), ("row", 3)]) rfl hN (di_any (de_var (i := 0))) (by exact blkOk_by (N := N_marks_left) (sc := D_marks_left.scope) (own := [(".0", 2), ("row", 3)]) (by decide +kernel)) (ltg_name (i := 3) (by decide)) (fun _ _ _ _ _ => pg_name (i := 3) hN rfl (by first | exact Or.inl rfl | exact Or.inr rfl) (by first | exact .inl rfl | exact .inr rfl)) (fun _ _ _ _ _ => (dts_one (dt_ne hu (de_sub_ix hu1 (de_sub_ix hu1 (de_var (i := 3)) de_int) de_int) (de_var (i := 1))))) (fun _ _ _ _ _ => (de_var (i := 3)))) da_nil))))
/-! #### renamed_text -/
def N_renamed_text : List Str := ["state", "name", "text", "texts", "marks"]
theorem sc_renamed_text : FnScope N_renamed_text ["state", "name", "text"] D_renamed_text.scope := ⟨rfl, rfl, rfl, by decide +kernel, rfl, by decide +kernel, by decide +kernel⟩
theorem d_renamed_text {P : Program} {w : World} {K : PySem.W.Frag} {mg : Str → Option Value} {base : Heap} (G : Row w K mg base) : DFn P w K mg base 2 ("renamed_text", none) 3 F_renamed_text :=
  dfn_of (d := D_renamed_text) (N := N_renamed_text) (G.c.s.def_ 6) sc_renamed_text rfl rfl (fun _ _ _ _ _ _ us hl => match us, hl with | [_, _, _], _ => rfl) fun cdv A outer s H E hcd hr => by
    have hN := sc_renamed_text.nd
    have hu := hr.units
    have hu1 := L2.hu_of hr
    have hu65 := hu65_of hr
    have tk : Takes (cxOf (L2.CX P w) P w K mg base N_renamed_text D_renamed_text.qual D_renamed_text.scope (He.fAd K D_renamed_text.at_) cdv A outer s H E) (WD E) := takes_of rfl rfl rfl rfl
    exact (dss_cons (ds_asg (de_var (i := 0)) (dg_tup rfl (dgs_cons (dg_name (i := 3) hN) (dgs_cons (dg_name (i := 4) hN) dgs_nil))))
      (dss_one (ds_ret (de_tup (da_cons (de_cf (d_with_named G).pure (hr.mono (by omega)) (G.c.glo 14) tk (da_cons (de_var (i := 3)) (da_cons (de_var (i := 1)) (da_cons (de_var (i := 2)) (da_cons (de_gi (G.c.int 15)) da_nil))))) (da_cons (de_cf (d_marks_left G).pure (hr.mono (by omega)) (G.c.glo 16) tk (da_cons (de_var (i := 4)) (da_cons (de_var (i := 1)) da_nil))) da_nil))))))
/-! #### is_tuple_of -/
def N_is_tuple_of : List Str := ["thing", "least", "most"]
theorem sc_is_tuple_of : FnScope N_is_tuple_of ["thing", "least", "most"] D_is_tuple_of.scope := ⟨rfl, rfl, rfl, by decide +kernel, rfl, by decide +kernel, by decide +kernel⟩
theorem d_is_tuple_of {P : Program} {w : World} {K : PySem.W.Frag} {mg : Str → Option Value} {base : Heap} (G : Row w K mg base) : DFn P w K mg base 1 ("is_tuple_of", none) 3 F_is_tuple_of :=
  dfn_of (d := D_is_tuple_of) (N := N_is_tuple_of) (G.c.s.def_ 7) sc_is_tuple_of rfl rfl (fun _ _ _ _ _ _ us hl => match us, hl with | [_, _, _], _ => rfl) fun cdv A outer s H E hcd hr => by
    have hN := sc_is_tuple_of.nd
    have hu := hr.units
    have hu1 := L2.hu_of hr
    have hu65 := hu65_of hr
    have tk : Takes (cxOf (L2.CX P w) P w K mg base N_is_tuple_of D_is_tuple_of.qual D_is_tuple_of.scope (He.fAd K D_is_tuple_of.at_) cdv A outer s H E) (WD E) := takes_of rfl rfl rfl rfl
    exact (dss_one (ds_ret (de_and (de_isi tok_tuple (G.c.free 18) (G.c.free 11) (de_var (i := 0))) (de_one (de_lele (de_var (i := 1)) (de_callB call_len len_ok (G.c.free 2) (da_cons (de_var (i := 0)) da_nil)) (de_var (i := 2)))))))
/-! #### is_number -/
def N_is_number : List Str := ["thing"]
theorem sc_is_number : FnScope N_is_number ["thing"] D_is_number.scope := ⟨rfl, rfl, rfl, by decide +kernel, rfl, by decide +kernel, by decide +kernel⟩
theorem d_is_number {P : Program} {w : World} {K : PySem.W.Frag} {mg : Str → Option Value} {base : Heap} (G : Row w K mg base) : DFn P w K mg base 1 ("is_number", none) 1 F_is_number :=
  dfn_of (d := D_is_number) (N := N_is_number) (G.c.s.def_ 8) sc_is_number rfl rfl (fun _ _ _ _ _ _ us hl => match us, hl with | [_], _ => rfl) fun cdv A outer s H E hcd hr => by
    have hN := sc_is_number.nd
    have hu := hr.units
    have hu1 := L2.hu_of hr
    have hu65 := hu65_of hr
    have tk : Takes (cxOf (L2.CX P w) P w K mg base N_is_number D_is_number.qual D_is_number.scope (He.fAd K D_is_number.at_) cdv A outer s H E) (WD E) := takes_of rfl rfl rfl rfl
    exact (dss_one (ds_ret (de_and (de_isi tok_int (G.c.free 18) (G.c.free 3) (de_var (i := 0))) (de_one (de_not (de_isi tok_bool (G.c.free 18) (G.c.free 22) (de_var (i := 0))))))))
/-! #### is_among -/
def N_is_among : List Str := ["thing", "least", "most"]
theorem sc_is_among : FnScope N_is_among ["thing", "least", "most"] D_is_among.scope := ⟨rfl, rfl, rfl, by decide +kernel, rfl, by decide +kernel, by decide +kernel⟩
theorem d_is_among {P : Program} {w : World} {K : PySem.W.Frag} {mg : Str → Option Value} {base : Heap} (G : Row w K mg base) : DFn P w K mg base 2 ("is_among", none) 3 F_is_among :=
  dfn_of (d := D_is_among) (N := N_is_among) (G.c.s.def_ 9) sc_is_among rfl rfl (fun _ _ _ _ _ _ us hl => match us, hl with | [_, _, _], _ => rfl) fun cdv A outer s H E hcd hr => by
    have hN := sc_is_among.nd
    have hu := hr.units
    have hu1 := L2.hu_of hr
    have hu65 := hu65_of hr
    have tk : Takes (cxOf (L2.CX P w) P w K mg base N_is_among D_is_among.qual D_is_among.scope (He.fAd K D_is_among.at_) cdv A outer s H E) (WD E) := takes_of rfl rfl rfl rfl
    exact (dss_one (ds_ret (de_and (de_cf (d_is_number G).pure (hr.mono (by omega)) (G.c.glo 23) tk (da_cons (de_var (i := 0)) da_nil)) (de_one (de_lele (de_var (i := 1)) (de_var (i := 0)) (de_var (i := 2)))))))
/-! #### is_sign -/
def N_is_sign : List Str := ["thing"]
theorem sc_is_sign : FnScope N_is_sign ["thing"] D_is_sign.scope := ⟨rfl, rfl, rfl, by decide +kernel, rfl, by decide +kernel, by decide +kernel⟩
theorem d_is_sign {P : Program} {w : World} {K : PySem.W.Frag} {mg : Str → Option Value} {base : Heap} (G : Row w K mg base) : DFn P w K mg base 3 ("is_sign", none) 1 F_is_sign :=
  dfn_of (d := D_is_sign) (N := N_is_sign) (G.c.s.def_ 10) sc_is_sign rfl rfl (fun _ _ _ _ _ _ us hl => match us, hl with | [_], _ => rfl) fun cdv A outer s H E hcd hr => by
    have hN := sc_is_sign.nd
    have hu := hr.units
    have hu1 := L2.hu_of hr
    have hu65 := hu65_of hr
    have tk : Takes (cxOf (L2.CX P w) P w K mg base N_is_sign D_is_sign.qual D_is_sign.scope (He.fAd K D_is_sign.at_) cdv A outer s H E) (WD E) := takes_of rfl rfl rfl rfl
    exact (dss_one (ds_ret (de_cf (d_is_among G).pure (hr.mono (by omega)) (G.c.glo 24) tk (da_cons (de_var (i := 0)) (da_cons de_int (da_cons (de_gi (G.c.int 25)) da_nil))))))
/-! #### need_text -/
def N_need_text : List Str := ["text", "number", "sign"]
theorem sc_need_text : FnScope N_need_text ["text"] D_need_text.scope := ⟨rfl, rfl, rfl, by decide +kernel, rfl, by decide +kernel, by decide +kernel⟩
theorem d_need_text {P : Program} {w : World} {K : PySem.W.Frag} {mg : Str → Option Value} {base : Heap} (G : Row w K mg base) : DFn P w K mg base 4 ("need_text", none) 1 F_need_text :=
  dfn_of (d := D_need_text) (N := N_need_text) (G.c.s.def_ 11) sc_need_text rfl rfl (fun _ _ _ _ _ _ us hl => match us, hl with | [_], _ => rfl) fun cdv A outer s H E hcd hr => by
    have hN := sc_need_text.nd
    have hu := hr.units
    have hu1 := L2.hu_of hr
    have hu65 := hu65_of hr
    have tk : Takes (cxOf (L2.CX P w) P w K mg base N_need_text D_need_text.qual D_need_text.scope (He.fAd K D_need_text.at_) cdv A outer s H E) (WD E) := takes_of rfl rfl rfl rfl
    exact (dss_cons (ds_if (dt_not (dt_tru (de_cf (d_is_tuple_of G).pure (hr.mono (by omega)) (G.c.glo 19) tk (da_cons (de_var (i := 0)) (da_cons de_int (da_cons (de_gi (G.c.int 20)) da_nil)))))) (dss_one ds_never) dss_nil)
      (dss_cons (ds_for (passes_of rfl) rfl (di_enum (G.c.free 21) (da_cons (de_var (i := 0)) da_nil)) (dg_tup rfl (dgs_cons (dg_name (i := 1) hN) (dgs_cons (dg_name (i := 2) hN) dgs_nil))) (dss_one (ds_if (dt_not (dt_tru (de_cf (d_is_sign G).pure (hr.mono (by omega)) (G.c.glo 26) tk (da_cons (de_var (i := 2)) da_nil)))) (dss_one ds_never) dss_nil)))
      (dss_one (ds_ret (de_var (i := 0))))))
/-! #### spot_of -/
def N_spot_of : List Str := ["rows", "name", "place", "row"]
theorem sc_spot_of : FnScope N_spot_of ["rows", "name"] D_spot_of.scope := ⟨rfl, rfl, rfl, by decide +kernel, rfl, by decide +kernel, by decide +kernel⟩
theorem d_spot_of {P : Program} {w : World} {K : PySem.W.Frag} {mg : Str → Option Value} {base : Heap} (G : Row w K mg base) : DFn P w K mg base 1 ("spot_of", none) 2 F_spot_of :=
  dfn_of (d := D_spot_of) (N := N_spot_of) (G.c.s.def_ 12) sc_spot_of rfl rfl (fun _ _ _ _ _ _ us hl => match us, hl with | [_, _], _ => rfl) fun cdv A outer s H E hcd hr => by
    have hN := sc_spot_of.nd
    have hu := hr.units
    have hu1 := L2.hu_of hr
    have hu65 := hu65_of hr
    have tk : Takes (cxOf (L2.CX P w) P w K mg base N_spot_of D_spot_of.qual D_spot_of.scope (He.fAd K D_spot_of.at_) cdv A outer s H E) (WD E) := takes_of rfl rfl rfl rfl
    exact (dss_cons (ds_for (passes_of rfl) rfl (di_enum (G.c.free 21) (da_cons (de_var (i := 0)) da_nil)) (dg_tup rfl (dgs_cons (dg_name (i := 2) hN) (dgs_cons (dg_name (i := 3) hN) dgs_nil))) (dss_one (ds_if (dt_eq hu (de_sub_ix hu1 (de_var (i := 3)) de_int) (de_var (i := 1))) (dss_one (ds_ret (de_var (i := 2)))) dss_nil)))
      (dss_one ds_never))
/-! #### without_named -/
def N_without_named : List Str := ["rows", "name", "place"]
theorem sc_without_named : FnScope N_without_named ["rows", "name"] D_without_named.scope := ⟨rfl, rfl, rfl, by decide +kernel, rfl, by decide +kernel, by decide +kernel⟩
theorem d_without_named {P : Program} {w : World} {K : PySem.W.Frag} {mg : Str → Option Value} {base : Heap} (G : Row w K mg base) : DFn P w K mg base 2 ("without_named", none) 2 F_without_named :=
  dfn_of (d := D_without_named) (N := N_without_named) (G.c.s.def_ 13) sc_without_named rfl rfl (fun _ _ _ _ _ _ us hl => match us, hl with | [_, _], _ => rfl) fun cdv A outer s H E hcd hr => by
    have hN := sc_without_named.nd
    have hu := hr.units
    have hu1 := L2.hu_of hr
    have hu65 := hu65_of hr
    have tk : Takes (cxOf (L2.CX P w) P w K mg base N_without_named D_without_named.qual D_without_named.scope (He.fAd K D_without_named.at_) cdv A outer s H E) (WD E) := takes_of rfl rfl rfl rfl
    exact (dss_cons (ds_set (i := 2) hN (de_cf (d_spot_of G).pure (hr.mono (by omega)) (G.c.glo 28) tk (da_cons (de_var (i := 0)) (da_cons (de_var (i := 1)) da_nil))))
      (dss_one (ds_ret (de_add (de_sl (de_var (i := 0)) do_none (do_some (de_var (i := 2)))) (de_sl (de_var (i := 0)) (do_some (de_add (de_var (i := 2)) de_int)) do_none)))))
/-! #### marks_moved -/
def N_marks_moved : List Str := ["marks", "name", "moved", "found", "mark", "text", "first", "last"]
theorem sc_marks_moved : FnScope N_marks_moved ["marks", "name", "moved"] D_marks_moved.scope := ⟨rfl, rfl, rfl, by decide +kernel, rfl, by decide +kernel, by decide +kernel⟩
theorem d_marks_moved {P : Program} {w : World} {K : PySem.W.Frag} {mg : Str → Option Value} {base : Heap} (G : Row w K mg base) (kl j : Nat) (hj : 0 ≤ j) (hkl : kl ≤ j) : DHo P w K mg base (j + 1) kl ("marks_moved", none) 3 1 (fun Lv φ => runF 8 (b_marks_moved Lv φ)) :=
  dho_of (d := D_marks_moved) (N := N_marks_moved) (G.c.s.def_ 14) sc_marks_moved rfl (fun _ _ _ _ _ _ us hl => match us, hl with | [_, _, _], _ => rfl) fun cdv A outer s H E L cl ls cs φ hcd hr hIn => by
    have hN := sc_marks_moved.nd
    have hu := hr.units
    have hu1 := L2.hu_of hr
    have hu65 := hu65_of hr
    have tk : Takes (cxOf (L2.CX P w) P w K mg base N_marks_moved D_marks_moved.qual D_marks_moved.scope (He.fAd K D_marks_moved.at_) cdv A outer s H E) (WD E) := takes_of rfl rfl rfl rfl
    exact (dss_cons (ds_set (i := 3) hN (de_lst da_nil))
      (dss_cons (ds_for (passes_of rfl) rfl (di_any (de_var (i := 0))) (dg_tup rfl (dgs_cons (dg_name (i := 4) hN) (dgs_cons (dg_tup rfl (dgs_cons (dg_name (i := 5) hN) (dgs_cons (dg_name (i := 6) hN) (dgs_cons (dg_name (i := 7) hN) dgs_nil)))) dgs_nil))) (dss_one (ds_expr (de_bm (T := "list") ty_list append_ok PySem.F.plainAttrs_list PySem.F.slot_list_append PySem.F.type_list_append mt_append (de_var (i := 3)) (da_cons (de_tup (da_cons (de_var (i := 4)) (da_cons (de_if (dt_eq hu (de_var (i := 5)) (de_var (i := 1))) (de_tup (da_cons (de_var (i := 5)) (da_cons (de_act (i := 2) hIn rfl (hr.mono hkl) tk rfl (by first | exact Or.inl rfl | exact Or.inr (Or.inl rfl) | exact Or.inr (Or.inr rfl)) (da_cons (de_var (i := 6)) da_nil)) (da_cons (de_act (i := 2) hIn rfl (hr.mono hkl) tk rfl (by first | exact Or.inl rfl | exact Or.inr (Or.inl rfl) | exact Or.inr (Or.inr rfl)) (da_cons (de_var (i := 7)) da_nil)) da_nil)))) (de_tup (da_cons (de_var (i := 5)) (da_cons (de_var (i := 6)) (da_cons (de_var (i := 7)) da_nil))))) da_nil))) da_nil)))))
      (dss_one (ds_ret (de_callTy call_tuple_of tuple_ok (G.c.free 11) (da_cons (de_var (i := 3)) da_nil))))))
/-! #### grown -/
def N_grown : List Str := ["state", "name", "text", "marks"]
theorem sc_grown : FnScope N_grown ["state", "name", "text", "marks"] D_grown.scope := ⟨rfl, rfl, rfl, by decide +kernel, rfl, by decide +kernel, by decide +kernel⟩
theorem d_grown {P : Program} {w : World} {K : PySem.W.Frag} {mg : Str → Option Value} {base : Heap} (G : Row w K mg base) : DFn P w K mg base 2 ("grown", none) 4 F_grown :=
  dfn_of (d := D_grown) (N := N_grown) (G.c.s.def_ 15) sc_grown rfl rfl (fun _ _ _ _ _ _ us hl => match us, hl with | [_, _, _, _], _ => rfl) fun cdv A outer s H E hcd hr => by
    have hN := sc_grown.nd
    have hu := hr.units
    have hu1 := L2.hu_of hr
    have hu65 := hu65_of hr
    have tk : Takes (cxOf (L2.CX P w) P w K mg base N_grown D_grown.qual D_grown.scope (He.fAd K D_grown.at_) cdv A outer s H E) (WD E) := takes_of rfl rfl rfl rfl
    exact (dss_cons (ds_if (dt_gt (de_callB call_len len_ok (G.c.free 2) (da_cons (de_var (i := 2)) da_nil)) (de_gi (G.c.int 31))) (dss_one ds_never) dss_nil)
      (dss_one (ds_ret (de_tup (da_cons (de_cf (d_with_named G).pure (hr.mono (by omega)) (G.c.glo 14) tk (da_cons (de_sub_ix hu1 (de_var (i := 0)) de_int) (da_cons (de_var (i := 1)) (da_cons (de_var (i := 2)) (da_cons (de_gi (G.c.int 15)) da_nil))))) (da_cons (de_var (i := 3)) da_nil))))))
/-! #### behind_put -/
def N_behind_put : List Str := ["state", "change", "word", "name", "texts", "marks", "text", "moved", "more", "place"]
theorem sc_behind_put : FnScope N_behind_put ["state", "change"] D_behind_put.scope := ⟨rfl, rfl, rfl, by decide +kernel, rfl, by decide +kernel, by decide +kernel⟩
theorem d_behind_put {P : Program} {w : World} {K : PySem.W.Frag} {mg : Str → Option Value} {base : Heap} (G : Row w K mg base) : DFn P w K mg base 5 ("behind_put", none) 2 F_behind_put :=
  dfn_of (d := D_behind_put) (N := N_behind_put) (G.c.s.def_ 16) sc_behind_put rfl rfl (fun _ _ _ _ _ _ us hl => match us, hl with | [_, _], _ => rfl) fun cdv A outer s H E hcd hr => by
    have hN := sc_behind_put.nd
    have hu := hr.units
    have hu1 := L2.hu_of hr
    have hu65 := hu65_of hr
    have tk : Takes (cxOf (L2.CX P w) P w K mg base N_behind_put D_behind_put.qual D_behind_put.scope (He.fAd K D_behind_put.at_) cdv A outer s H E) (WD E) := takes_of rfl rfl rfl rfl
    exact (dss_cons (ds_asg (de_var (i := 1)) (dg_tup rfl (dgs_cons (dg_name (i := 2) hN) (dgs_cons (dg_name (i := 3) hN) (dgs_cons (dg_name (i := 9) hN) (dgs_cons (dg_name (i := 8) hN) dgs_nil))))))
      (dss_cons (ds_asg (de_var (i := 0)) (dg_tup rfl (dgs_cons (dg_name (i := 4) hN) (dgs_cons (dg_name (i := 5) hN) dgs_nil))))
      (dss_cons (ds_set (i := 6) hN (de_sub_ix hu1 (de_sub_ix hu1 (de_var (i := 4)) (de_cf (d_spot_of G).pure (hr.mono (by omega)) (G.c.glo 28) tk (da_cons (de_var (i := 4)) (da_cons (de_var (i := 3)) da_nil)))) de_int))
      (dss_cons (ds_expr (de_cf (d_need_text G).pure (hr.mono (by omega)) (G.c.glo 27) tk (da_cons (de_var (i := 8)) da_nil)))
      (dss_cons (ds_if (dt_gt (de_var (i := 9)) (de_callB call_len len_ok (G.c.free 2) (da_cons (de_var (i := 6)) da_nil))) (dss_one ds_never) dss_nil)
      (dss_cons (ds_set (i := 7) hN (de_ho (i := 2) (js := [8, 9]) (Nl := ["end", "more", "place"]) (psl := ["end"]) (fr := ["more", "place"]) (kl := 0) (d_marks_moved G 1 1 (by omega) (by omega)) (hr.mono (by omega)) (G.c.glo 30) tk (dal_cons (de_var (i := 5)) (dal_cons (de_var (i := 3)) (dal_lam (G.lt_behind_put.makes hcd) rfl (by exact ndef_free (sc := D_behind_put.scope) (fr := ["more", "place"]) (by decide +kernel)) da_nil))) (nscope_by (by decide +kernel)) (fun _ _ _ _ _ args hl => match args, hl with | [_], _ => rfl) (by exact ndef_free (sc := D_behind_put.scope) (fr := ["more", "place"]) (by decide +kernel)) (by exact ndef_fr (sc := D_behind_put.scope) (fr := ["more", "place"]) (by decide +kernel)) rfl (fun cl f c A outer s H E hr => by
        have hN : (["end", "more", "place"] : List Str).Nodup := by decide +kernel
        have hu := hr.units
        have hu1 := L2.hu_of hr
        have hu65 := hu65_of hr
        exact (de_if (dt_gt (de_var (i := 0)) (de_var (i := 2))) (de_add (de_var (i := 0)) (de_callB call_len len_ok (G.c.free 2) (da_cons (de_var (i := 1)) da_nil))) (de_var (i := 0))))))
      (dss_one (ds_ret (de_cf (d_grown G).pure (hr.mono (by omega)) (G.c.glo 32) tk (da_cons (de_var (i := 0)) (da_cons (de_var (i := 3)) (da_cons (de_add (de_add (de_sl (de_var (i := 6)) do_none (do_some (de_var (i := 9)))) (de_var (i := 8))) (de_sl (de_var (i := 6)) (do_some (de_var (i := 9))) do_none)) (da_cons (de_var (i := 7)) da_nil)))))))))))))
/-! #### need_text_window -/
def N_need_text_window : List Str := ["text", "first", "last"]
theorem sc_need_text_window : FnScope N_need_text_window ["text", "first", "last"] D_need_text_window.scope := ⟨rfl, rfl, rfl, by decide +kernel, rfl, by decide +kernel, by decide +kernel⟩
theorem d_need_text_window {P : Program} {w : World} {K : PySem.W.Frag} {mg : Str → Option Value} {base : Heap} (G : Row w K mg base) : DFn P w K mg base 1 ("need_text_window", none) 3 F_need_text_window :=
  dfn_of (d := D_need_text_window) (N := N_need_text_window) (G.c.s.def_ 17) sc_need_text_window rfl rfl (fun _ _ _ _ _ _ us hl => match us, hl with | [_, _, _], _ => rfl) fun cdv A outer s H E hcd hr => by
    have hN := sc_need_text_window.nd
    have hu := hr.units
    have hu1 := L2.hu_of hr
    have hu65 := hu65_of hr
    have tk : Takes (cxOf (L2.CX P w) P w K mg base N_need_text_window D_need_text_window.qual D_need_text_window.scope (He.fAd K D_need_text_window.at_) cdv A outer s H E) (WD E) := takes_of rfl rfl rfl rfl
    exact (dss_one (ds_if (dt_not (dt_lele (de_var (i := 1)) (de_var (i := 2)) (de_callB call_len len_ok (G.c.free 2) (da_cons (de_var (i := 0)) da_nil)))) (dss_one ds_never) dss_nil))
/-! #### behind_out -/
def N_behind_out : List Str := ["state", "change", "word", "name", "texts", "marks", "text", "moved", "first", "last"]
theorem sc_behind_out : FnScope N_behind_out ["state", "change"] D_behind_out.scope := ⟨rfl, rfl, rfl, by decide +kernel, rfl, by decide +kernel, by decide +kernel⟩
theorem d_behind_out {P : Program} {w : World} {K : PySem.W.Frag} {mg : Str → Option Value} {base : Heap} (G : Row w K mg base) : DFn P w K mg base 3 ("behind_out", none) 2 F_behind_out :=
  dfn_of (d := D_behind_out) (N := N_behind_out) (G.c.s.def_ 18) sc_behind_out rfl rfl (fun _ _ _ _ _ _ us hl => match us, hl with | [_, _], _ => rfl) fun cdv A outer s H E hcd hr => by
    have hN := sc_behind_out.nd
    have hu := hr.units
    have hu1 := L2.hu_of hr
    have hu65 := hu65_of hr
    have tk : Takes (cxOf (L2.CX P w) P w K mg base N_behind_out D_behind_out.qual D_behind_out.scope (He.fAd K D_behind_out.at_) cdv A outer s H E) (WD E) := takes_of rfl rfl rfl rfl
    exact (dss_cons (ds_asg (de_var (i := 1)) (dg_tup rfl (dgs_cons (dg_name (i := 2) hN) (dgs_cons (dg_name (i := 3) hN) (dgs_cons (dg_name (i := 8) hN) (dgs_cons (dg_name (i := 9) hN) dgs_nil))))))
      (dss_cons (ds_asg (de_var (i := 0)) (dg_tup rfl (dgs_cons (dg_name (i := 4) hN) (dgs_cons (dg_name (i := 5) hN) dgs_nil))))
      (dss_cons (ds_set (i := 6) hN (de_sub_ix hu1 (de_sub_ix hu1 (de_var (i := 4)) (de_cf (d_spot_of G).pure (hr.mono (by omega)) (G.c.glo 28) tk (da_cons (de_var (i := 4)) (da_cons (de_var (i := 3)) da_nil)))) de_int))
      (dss_cons (ds_expr (de_cf (d_need_text_window G).pure (hr.mono (by omega)) (G.c.glo 34) tk (da_cons (de_var (i := 6)) (da_cons (de_var (i := 8)) (da_cons (de_var (i := 9)) da_nil)))))
      (dss_cons (ds_set (i := 7) hN (de_ho (i := 2) (js := [8, 9]) (Nl := ["end", "first", "last"]) (psl := ["end"]) (fr := ["first", "last"]) (kl := 0) (d_marks_moved G 1 1 (by omega) (by omega)) (hr.mono (by omega)) (G.c.glo 30) tk (dal_cons (de_var (i := 5)) (dal_cons (de_var (i := 3)) (dal_lam (G.lt_behind_out.makes hcd) rfl (by exact ndef_free (sc := D_behind_out.scope) (fr := ["first", "last"]) (by decide +kernel)) da_nil))) (nscope_by (by decide +kernel)) (fun _ _ _ _ _ args hl => match args, hl with | [_], _ => rfl) (by exact ndef_free (sc := D_behind_out.scope) (fr := ["first", "last"]) (by decide +kernel)) (by exact ndef_fr (sc := D_behind_out.scope) (fr := ["first", "last"]) (by decide +kernel)) rfl (fun cl f c A outer s H E hr => by
        have hN : (["end", "first", "last"] : List Str).Nodup := by decide +kernel
        have hu := hr.units
        have hu1 := L2.hu_of hr
        have hu65 := hu65_of hr
        exact (de_sub (de_var (i := 0)) (de_callB (call_min2 rfl) min2_ok (G.c.free 35) (da_cons (de_callB (call_max2 rfl) max2_ok (G.c.free 36) (da_cons de_int (da_cons (de_sub (de_var (i := 0)) (de_var (i := 1))) da_nil))) (da_cons (de_sub (de_var (i := 2)) (de_var (i := 1))) da_nil)))))))
      (dss_one (ds_ret (de_tup (da_cons (de_cf (d_with_named G).pure (hr.mono (by omega)) (G.c.glo 14) tk (da_cons (de_var (i := 4)) (da_cons (de_var (i := 3)) (da_cons (de_add (de_sl (de_var (i := 6)) do_none (do_some (de_var (i := 8)))) (de_sl (de_var (i := 6)) (do_some (de_var (i := 9))) do_none)) (da_cons (de_gi (G.c.int 15)) da_nil))))) (da_cons (de_var (i := 7)) da_nil))))))))))
/-! #### need_sign -/
def N_need_sign : List Str := ["sign"]
theorem sc_need_sign : FnScope N_need_sign ["sign"] D_need_sign.scope := ⟨rfl, rfl, rfl, by decide +kernel, rfl, by decide +kernel, by decide +kernel⟩
theorem d_need_sign {P : Program} {w : World} {K : PySem.W.Frag} {mg : Str → Option Value} {base : Heap} (G : Row w K mg base) : DFn P w K mg base 4 ("need_sign", none) 1 F_need_sign :=
  dfn_of (d := D_need_sign) (N := N_need_sign) (G.c.s.def_ 19) sc_need_sign rfl rfl (fun _ _ _ _ _ _ us hl => match us, hl with | [_], _ => rfl) fun cdv A outer s H E hcd hr => by
    have hN := sc_need_sign.nd
    have hu := hr.units
    have hu1 := L2.hu_of hr
    have hu65 := hu65_of hr
    have tk : Takes (cxOf (L2.CX P w) P w K mg base N_need_sign D_need_sign.qual D_need_sign.scope (He.fAd K D_need_sign.at_) cdv A outer s H E) (WD E) := takes_of rfl rfl rfl rfl
    exact (dss_cons (ds_if (dt_not (dt_tru (de_cf (d_is_sign G).pure (hr.mono (by omega)) (G.c.glo 26) tk (da_cons (de_var (i := 0)) da_nil)))) (dss_one ds_never) dss_nil)
      (dss_one (ds_ret (de_var (i := 0)))))
/-! #### behind_sign -/
def N_behind_sign : List Str := ["state", "change", "word", "name", "place", "sign", "texts", "marks", "text"]
theorem sc_behind_sign : FnScope N_behind_sign ["state", "change"] D_behind_sign.scope := ⟨rfl, rfl, rfl, by decide +kernel, rfl, by decide +kernel, by decide +kernel⟩
theorem d_behind_sign {P : Program} {w : World} {K : PySem.W.Frag} {mg : Str → Option Value} {base : Heap} (G : Row w K mg base) : DFn P w K mg base 5 ("behind_sign", none) 2 F_behind_sign :=
  dfn_of (d := D_behind_sign) (N := N_behind_sign) (G.c.s.def_ 20) sc_behind_sign rfl rfl (fun _ _ _ _ _ _ us hl => match us, hl with | [_, _], _ => rfl) fun cdv A outer s H E hcd hr => by
    have hN := sc_behind_sign.nd
    have hu := hr.units
    have hu1 := L2.hu_of hr
    have hu65 := hu65_of hr
    have tk : Takes (cxOf (L2.CX P w) P w K mg base N_behind_sign D_behind_sign.qual D_behind_sign.scope (He.fAd K D_behind_sign.at_) cdv A outer s H E) (WD E) := takes_of rfl rfl rfl rfl
    exact (dss_cons (ds_asg (de_var (i := 1)) (dg_tup rfl (dgs_cons (dg_name (i := 2) hN) (dgs_cons (dg_name (i := 3) hN) (dgs_cons (dg_name (i := 4) hN) (dgs_cons (dg_name (i := 5) hN) dgs_nil))))))
      (dss_cons (ds_asg (de_var (i := 0)) (dg_tup rfl (dgs_cons (dg_name (i := 6) hN) (dgs_cons (dg_name (i := 7) hN) dgs_nil))))
      (dss_cons (ds_set (i := 8) hN (de_sub_ix hu1 (de_sub_ix hu1 (de_var (i := 6)) (de_cf (d_spot_of G).pure (hr.mono (by omega)) (G.c.glo 28) tk (da_cons (de_var (i := 6)) (da_cons (de_var (i := 3)) da_nil)))) de_int))
      (dss_cons (ds_expr (de_cf (d_need_sign G).pure (hr.mono (by omega)) (G.c.glo 38) tk (da_cons (de_var (i := 5)) da_nil)))
      (dss_cons (ds_if (dt_ge (de_var (i := 4)) (de_callB call_len len_ok (G.c.free 2) (da_cons (de_var (i := 8)) da_nil))) (dss_one ds_never) dss_nil)
      (dss_one (ds_ret (de_tup (da_cons (de_cf (d_with_named G).pure (hr.mono (by omega)) (G.c.glo 14) tk (da_cons (de_var (i := 6)) (da_cons (de_var (i := 3)) (da_cons (de_add (de_add (de_sl (de_var (i := 8)) do_none (do_some (de_var (i := 4)))) (de_tup (da_cons (de_var (i := 5)) da_nil))) (de_sl (de_var (i := 8)) (do_some (de_add (de_var (i := 4)) de_int)) do_none)) (da_cons (de_gi (G.c.int 15)) da_nil))))) (da_cons (de_var (i := 7)) da_nil))))))))))
/-! #### behind_turn -/
def N_behind_turn : List Str := ["state", "change", "texts", "marks", "text", "found", "mark", "name", "first", "last"]
theorem sc_behind_turn : FnScope N_behind_turn ["state", "change"] D_behind_turn.scope := ⟨rfl, rfl, rfl, by decide +kernel, rfl, by decide +kernel, by decide +kernel⟩
theorem d_behind_turn {P : Program} {w : World} {K : PySem.W.Frag} {mg : Str → Option Value} {base : Heap} (G : Row w K mg base) : DFn P w K mg base 2 ("behind_turn", none) 2 F_behind_turn :=
  dfn_of (d := D_behind_turn) (N := N_behind_turn) (G.c.s.def_ 21) sc_behind_turn rfl rfl (fun _ _ _ _ _ _ us hl => match us, hl with | [_, _], _ => rfl) fun cdv A outer s H E hcd hr => by
    have hN := sc_behind_turn.nd
    have hu := hr.units
    have hu1 := L2.hu_of hr
    have hu65 := hu65_of hr
    have tk : Takes (cxOf (L2.CX P w) P w K mg base N_behind_turn D_behind_turn.qual D_behind_turn.scope (He.fAd K D_behind_turn.at_) cdv A outer s H E) (WD E) := takes_of rfl rfl rfl rfl
    exact (dss_cons (ds_asg (de_var (i := 0)) (dg_tup rfl (dgs_cons (dg_name (i := 2) hN) (dgs_cons (dg_name (i := 3) hN) dgs_nil))))
      (dss_cons (ds_par (i := 4) (j := 5) rfl hN (da_cons (de_sub_ix hu1 (de_sub_ix hu1 (de_var (i := 2)) (de_cf (d_spot_of G).pure (hr.mono (by omega)) (G.c.glo 28) tk (da_cons (de_var (i := 2)) (da_cons (de_sub_ix hu1 (de_var (i := 1)) de_int) da_nil)))) de_int) (da_cons (de_lst da_nil) da_nil)))
      (dss_cons (ds_for (passes_of rfl) rfl (di_any (de_var (i := 3))) (dg_tup rfl (dgs_cons (dg_name (i := 6) hN) (dgs_cons (dg_tup rfl (dgs_cons (dg_name (i := 7) hN) (dgs_cons (dg_name (i := 8) hN) (dgs_cons (dg_name (i := 9) hN) dgs_nil)))) dgs_nil))) (dss_cons (ds_if (dt_eq hu (de_var (i := 7)) (de_sub_ix hu1 (de_var (i := 1)) de_int)) (dss_one (ds_par (i := 8) (j := 9) rfl hN (da_cons (de_sub (de_callB call_len len_ok (G.c.free 2) (da_cons (de_var (i := 4)) da_nil)) (de_var (i := 9))) (da_cons (de_sub (de_callB call_len len_ok (G.c.free 2) (da_cons (de_var (i := 4)) da_nil)) (de_var (i := 8))) da_nil)))) dss_nil)
      (dss_one (ds_expr (de_bm (T := "list") ty_list append_ok PySem.F.plainAttrs_list PySem.F.slot_list_append PySem.F.type_list_append mt_append (de_var (i := 5)) (da_cons (de_tup (da_cons (de_var (i := 6)) (da_cons (de_tup (da_cons (de_var (i := 7)) (da_cons (de_var (i := 8)) (da_cons (de_var (i := 9)) da_nil)))) da_nil))) da_nil))))))
      (dss_one (ds_ret (de_tup (da_cons (de_cf (d_with_named G).pure (hr.mono (by omega)) (G.c.glo 14) tk (da_cons (de_var (i := 2)) (da_cons (de_sub_ix hu1 (de_var (i := 1)) de_int) (da_cons (de_rev (de_var (i := 4))) (da_cons (de_gi (G.c.int 15)) da_nil))))) (da_cons (de_callTy call_tuple_of tuple_ok (G.c.free 11) (da_cons (de_var (i := 5)) da_nil)) da_nil))))))))
/-! #### behind_mark -/
def N_behind_mark : List Str := ["state", "change", "word", "mark", "name", "first", "last", "texts", "marks"]
theorem sc_behind_mark : FnScope N_behind_mark ["state", "change"] D_behind_mark.scope := ⟨rfl, rfl, rfl, by decide +kernel, rfl, by decide +kernel, by decide +kernel⟩
theorem d_behind_mark {P : Program} {w : World} {K : PySem.W.Frag} {mg : Str → Option Value} {base : Heap} (G : Row w K mg base) : DFn P w K mg base 2 ("behind_mark", none) 2 F_behind_mark :=
  dfn_of (d := D_behind_mark) (N := N_behind_mark) (G.c.s.def_ 22) sc_behind_mark rfl rfl (fun _ _ _ _ _ _ us hl => match us, hl with | [_, _], _ => rfl) fun cdv A outer s H E hcd hr => by
    have hN := sc_behind_mark.nd
    have hu := hr.units
    have hu1 := L2.hu_of hr
    have hu65 := hu65_of hr
    have tk : Takes (cxOf (L2.CX P w) P w K mg base N_behind_mark D_behind_mark.qual D_behind_mark.scope (He.fAd K D_behind_mark.at_) cdv A outer s H E) (WD E) := takes_of rfl rfl rfl rfl
    exact (dss_cons (ds_asg (de_var (i := 1)) (dg_tup rfl (dgs_cons (dg_name (i := 2) hN) (dgs_cons (dg_name (i := 3) hN) (dgs_cons (dg_name (i := 4) hN) (dgs_cons (dg_name (i := 5) hN) (dgs_cons (dg_name (i := 6) hN) dgs_nil)))))))
      (dss_cons (ds_asg (de_var (i := 0)) (dg_tup rfl (dgs_cons (dg_name (i := 7) hN) (dgs_cons (dg_name (i := 8) hN) dgs_nil))))
      (dss_cons (ds_expr (de_cf (d_need_text_window G).pure (hr.mono (by omega)) (G.c.glo 34) tk (da_cons (de_sub_ix hu1 (de_sub_ix hu1 (de_var (i := 7)) (de_cf (d_spot_of G).pure (hr.mono (by omega)) (G.c.glo 28) tk (da_cons (de_var (i := 7)) (da_cons (de_var (i := 4)) da_nil)))) de_int) (da_cons (de_var (i := 5)) (da_cons (de_var (i := 6)) da_nil)))))
      (dss_one (ds_ret (de_tup (da_cons (de_var (i := 7)) (da_cons (de_cf (d_with_named G).pure (hr.mono (by omega)) (G.c.glo 14) tk (da_cons (de_var (i := 8)) (da_cons (de_var (i := 3)) (da_cons (de_tup (da_cons (de_var (i := 4)) (da_cons (de_var (i := 5)) (da_cons (de_var (i := 6)) da_nil)))) (da_cons (de_gi (G.c.int 41)) da_nil))))) da_nil))))))))
/-! #### behind_lift -/
def N_behind_lift : List Str := ["state", "change", "texts", "marks", "name", "first", "last"]
theorem sc_behind_lift : FnScope N_behind_lift ["state", "change"] D_behind_lift.scope := ⟨rfl, rfl, rfl, by decide +kernel, rfl, by decide +kernel, by decide +kernel⟩
theorem d_behind_lift {P : Program} {w : World} {K : PySem.W.Frag} {mg : Str → Option Value} {base : Heap} (G : Row w K mg base) : DFn P w K mg base 3 ("behind_lift", none) 2 F_behind_lift :=
  dfn_of (d := D_behind_lift) (N := N_behind_lift) (G.c.s.def_ 23) sc_behind_lift rfl rfl (fun _ _ _ _ _ _ us hl => match us, hl with | [_, _], _ => rfl) fun cdv A outer s H E hcd hr => by
    have hN := sc_behind_lift.nd
    have hu := hr.units
    have hu1 := L2.hu_of hr
    have hu65 := hu65_of hr
    have tk : Takes (cxOf (L2.CX P w) P w K mg base N_behind_lift D_behind_lift.qual D_behind_lift.scope (He.fAd K D_behind_lift.at_) cdv A outer s H E) (WD E) := takes_of rfl rfl rfl rfl
    exact (dss_cons (ds_asg (de_var (i := 0)) (dg_tup rfl (dgs_cons (dg_name (i := 2) hN) (dgs_cons (dg_name (i := 3) hN) dgs_nil))))
      (dss_cons (ds_asg (de_sub_ix hu1 (de_sub_ix hu1 (de_var (i := 3)) (de_cf (d_spot_of G).pure (hr.mono (by omega)) (G.c.glo 28) tk (da_cons (de_var (i := 3)) (da_cons (de_sub_ix hu1 (de_var (i := 1)) de_int) da_nil)))) de_int) (dg_tup rfl (dgs_cons (dg_name (i := 4) hN) (dgs_cons (dg_name (i := 5) hN) (dgs_cons (dg_name (i := 6) hN) dgs_nil)))))
      (dss_one (ds_ret (de_cf (d_renamed_text G).pure (hr.mono (by omega)) (G.c.glo 17) tk (da_cons (de_var (i := 0)) (da_cons (de_sub_ix hu1 (de_var (i := 1)) de_int) (da_cons (de_sl (de_sub_ix hu1 (de_sub_ix hu1 (de_var (i := 2)) (de_cf (d_spot_of G).pure (hr.mono (by omega)) (G.c.glo 28) tk (da_cons (de_var (i := 2)) (da_cons (de_var (i := 4)) da_nil)))) de_int) (do_some (de_var (i := 5))) (do_some (de_var (i := 6)))) da_nil))))))))
/-! #### behind_join -/
def N_behind_join : List Str := ["state", "change", "texts", "marks", "one", "other"]
theorem sc_behind_join : FnScope N_behind_join ["state", "change"] D_behind_join.scope := ⟨rfl, rfl, rfl, by decide +kernel, rfl, by decide +kernel, by decide +kernel⟩
theorem d_behind_join {P : Program} {w : World} {K : PySem.W.Frag} {mg : Str → Option Value} {base : Heap} (G : Row w K mg base) : DFn P w K mg base 3 ("behind_join", none) 2 F_behind_join :=
  dfn_of (d := D_behind_join) (N := N_behind_join) (G.c.s.def_ 24) sc_behind_join rfl rfl (fun _ _ _ _ _ _ us hl => match us, hl with | [_, _], _ => rfl) fun cdv A outer s H E hcd hr => by
    have hN := sc_behind_join.nd
    have hu := hr.units
    have hu1 := L2.hu_of hr
    have hu65 := hu65_of hr
    have tk : Takes (cxOf (L2.CX P w) P w K mg base N_behind_join D_behind_join.qual D_behind_join.scope (He.fAd K D_behind_join.at_) cdv A outer s H E) (WD E) := takes_of rfl rfl rfl rfl
    exact (dss_cons (ds_asg (de_var (i := 0)) (dg_tup rfl (dgs_cons (dg_name (i := 2) hN) (dgs_cons (dg_name (i := 3) hN) dgs_nil))))
      (dss_cons (ds_par (i := 4) (j := 5) rfl hN (da_cons (de_sub_ix hu1 (de_sub_ix hu1 (de_var (i := 2)) (de_cf (d_spot_of G).pure (hr.mono (by omega)) (G.c.glo 28) tk (da_cons (de_var (i := 2)) (da_cons (de_sub_ix hu1 (de_var (i := 1)) de_int) da_nil)))) de_int) (da_cons (de_sub_ix hu1 (de_sub_ix hu1 (de_var (i := 2)) (de_cf (d_spot_of G).pure (hr.mono (by omega)) (G.c.glo 28) tk (da_cons (de_var (i := 2)) (da_cons (de_sub_ix hu1 (de_var (i := 1)) de_int) da_nil)))) de_int) da_nil)))
      (dss_one (ds_ret (de_cf (d_grown G).pure (hr.mono (by omega)) (G.c.glo 32) tk (da_cons (de_var (i := 0)) (da_cons (de_sub_ix hu1 (de_var (i := 1)) de_int) (da_cons (de_add (de_var (i := 4)) (de_var (i := 5))) (da_cons (de_var (i := 3)) da_nil)))))))))
/-! #### behind_single -/
def N_behind_single : List Str := ["state", "change", "texts", "marks", "word", "name"]
theorem sc_behind_single : FnScope N_behind_single ["state", "change"] D_behind_single.scope := ⟨rfl, rfl, rfl, by decide +kernel, rfl, by decide +kernel, by decide +kernel⟩
theorem d_behind_single {P : Program} {w : World} {K : PySem.W.Frag} {mg : Str → Option Value} {base : Heap} (G : Row w K mg base) : DFn P w K mg base 6 ("behind_single", none) 2 F_behind_single :=
  dfn_of (d := D_behind_single) (N := N_behind_single) (G.c.s.def_ 25) sc_behind_single rfl rfl (fun _ _ _ _ _ _ us hl => match us, hl with | [_, _], _ => rfl) fun cdv A outer s H E hcd hr => by
    have hN := sc_behind_single.nd
    have hu := hr.units
    have hu1 := L2.hu_of hr
    have hu65 := hu65_of hr
    have tk : Takes (cxOf (L2.CX P w) P w K mg base N_behind_single D_behind_single.qual D_behind_single.scope (He.fAd K D_behind_single.at_) cdv A outer s H E) (WD E) := takes_of rfl rfl rfl rfl
    exact (dss_cons (ds_asg (de_var (i := 0)) (dg_tup rfl (dgs_cons (dg_name (i := 2) hN) (dgs_cons (dg_name (i := 3) hN) dgs_nil))))
      (dss_cons (ds_par (i := 4) (j := 5) rfl hN (da_cons (de_sub_ix hu1 (de_var (i := 1)) de_int) (da_cons (de_sub_ix hu1 (de_var (i := 1)) de_int) da_nil)))
      (dss_cons (ds_if (dt_eq hu (de_var (i := 4)) de_str) (dss_one (ds_ret (de_cf (d_renamed_text G).pure (hr.mono (by omega)) (G.c.glo 17) tk (da_cons (de_var (i := 0)) (da_cons (de_var (i := 5)) (da_cons (de_cf (d_need_text G).pure (hr.mono (by omega)) (G.c.glo 27) tk (da_cons (de_sub_ix hu1 (de_var (i := 1)) de_int) da_nil)) da_nil)))))) dss_nil)
      (dss_cons (ds_if (dt_eq hu (de_var (i := 4)) de_str) (dss_one (ds_ret (de_tup (da_cons (de_cf (d_without_named G).pure (hr.mono (by omega)) (G.c.glo 29) tk (da_cons (de_var (i := 2)) (da_cons (de_var (i := 5)) da_nil))) (da_cons (de_cf (d_marks_left G).pure (hr.mono (by omega)) (G.c.glo 16) tk (da_cons (de_var (i := 3)) (da_cons (de_var (i := 5)) da_nil))) da_nil))))) dss_nil)
      (dss_cons (ds_if (dt_eq hu (de_var (i := 4)) de_str) (dss_one (ds_ret (de_tup (da_cons (de_var (i := 2)) (da_cons (de_cf (d_without_named G).pure (hr.mono (by omega)) (G.c.glo 29) tk (da_cons (de_var (i := 3)) (da_cons (de_var (i := 5)) da_nil))) da_nil))))) dss_nil)
      (dss_cons (ds_if (dt_eq hu (de_var (i := 4)) de_str) (dss_one (ds_ret (de_cf (d_behind_put G).pure (hr.mono (by omega)) (G.c.glo 33) tk (da_cons (de_var (i := 0)) (da_cons (de_var (i := 1)) da_nil))))) dss_nil)
      (dss_cons (ds_if (dt_eq hu (de_var (i := 4)) de_str) (dss_one (ds_ret (de_cf (d_behind_out G).pure (hr.mono (by omega)) (G.c.glo 37) tk (da_cons (de_var (i := 0)) (da_cons (de_var (i := 1)) da_nil))))) dss_nil)
      (dss_cons (ds_if (dt_eq hu (de_var (i := 4)) de_str) (dss_one (ds_ret (de_cf (d_behind_sign G).pure (hr.mono (by omega)) (G.c.glo 39) tk (da_cons (de_var (i := 0)) (da_cons (de_var (i := 1)) da_nil))))) dss_nil)
      (dss_cons (ds_if (dt_eq hu (de_var (i := 4)) de_str) (dss_one (ds_ret (de_cf (d_behind_turn G).pure (hr.mono (by omega)) (G.c.glo 40) tk (da_cons (de_var (i := 0)) (da_cons (de_var (i := 1)) da_nil))))) dss_nil)
      (dss_cons (ds_if (dt_eq hu (de_var (i := 4)) de_str) (dss_one (ds_ret (de_cf (d_behind_mark G).pure (hr.mono (by omega)) (G.c.glo 42) tk (da_cons (de_var (i := 0)) (da_cons (de_var (i := 1)) da_nil))))) dss_nil)
      (dss_one (ds_ret (de_if (dt_eq hu (de_var (i := 4)) de_str) (de_cf (d_behind_lift G).pure (hr.mono (by omega)) (G.c.glo 43) tk (da_cons (de_var (i := 0)) (da_cons (de_var (i := 1)) da_nil))) (de_cf (d_behind_join G).pure (hr.mono (by omega)) (G.c.glo 44) tk (da_cons (de_var (i := 0)) (da_cons (de_var (i := 1)) da_nil))))))))))))))))
/-! #### behind_change -/
def N_behind_change : List Str := ["state", "change", "singles", "one"]
theorem sc_behind_change : FnScope N_behind_change ["state", "change"] D_behind_change.scope := ⟨rfl, rfl, rfl, by decide +kernel, rfl, by decide +kernel, by decide +kernel⟩
theorem d_behind_change {P : Program} {w : World} {K : PySem.W.Frag} {mg : Str → Option Value} {base : Heap} (G : Row w K mg base) : DFn P w K mg base 7 ("behind_change", none) 2 F_behind_change :=
  dfn_of (d := D_behind_change) (N := N_behind_change) (G.c.s.def_ 26) sc_behind_change rfl rfl (fun _ _ _ _ _ _ us hl => match us, hl with | [_, _], _ => rfl) fun cdv A outer s H E hcd hr => by
    have hN := sc_behind_change.nd
    have hu := hr.units
    have hu1 := L2.hu_of hr
    have hu65 := hu65_of hr
    have tk : Takes (cxOf (L2.CX P w) P w K mg base N_behind_change D_behind_change.qual D_behind_change.scope (He.fAd K D_behind_change.at_) cdv A outer s H E) (WD E) := takes_of rfl rfl rfl rfl
    exact (dss_cons (ds_set (i := 2) hN (de_if (dt_eq hu (de_sub_ix hu1 (de_var (i := 1)) de_int) de_str) (de_sl (de_var (i := 1)) (do_some de_int) do_none) (de_tup (da_cons (de_var (i := 1)) da_nil))))
      (dss_cons (ds_for (passes_of rfl) rfl (di_any (de_var (i := 2))) (dg_name (i := 3) hN) (dss_one (ds_set (i := 0) hN (de_cf (d_behind_single G).pure (hr.mono (by omega)) (G.c.glo 45) tk (da_cons (de_var (i := 0)) (da_cons (de_var (i := 3)) da_nil))))))
      (dss_one (ds_ret (de_var (i := 0))))))
/-! #### is_name -/
def N_is_name : List Str := ["thing", ".0", "sign"]
theorem sc_is_name : FnScope N_is_name ["thing"] D_is_name.scope := ⟨rfl, rfl, rfl, by decide +kernel, rfl, by decide +kernel, by decide +kernel⟩
theorem d_is_name {P : Program} {w : World} {K : PySem.W.Frag} {mg : Str → Option Value} {base : Heap} (G : Row w K mg base) : DFn P w K mg base 1 ("is_name", none) 1 F_is_name :=
  dfn_of (d := D_is_name) (N := N_is_name) (G.c.s.def_ 27) sc_is_name rfl rfl (fun _ _ _ _ _ _ us hl => match us, hl with | [_], _ => rfl) fun cdv A outer s H E hcd hr => by
    have hN := sc_is_name.nd
    have hu := hr.units
    have hu1 := L2.hu_of hr
    have hu65 := hu65_of hr
    have tk : Takes (cxOf (L2.CX P w) P w K mg base N_is_name D_is_name.qual D_is_name.scope (He.fAd K D_is_name.at_) cdv A outer s H E) (WD E) := takes_of rfl rfl rfl rfl
    exact (dss_cons (ds_if (dt_w (dw_or (dt_not (dt_tru (de_isi tok_str (G.c.free 18) (G.c.free 47) (de_var (i := 0))))) (dw_or (dt_not (dt_lele de_int (de_callB call_len len_ok (G.c.free 2) (da_cons (de_var (i := 0)) da_nil)) de_int)) (dw_or1 (dt_nin hu65 (de_sub_ix hu1 (de_var (i := 0)) de_int) (de_gs (G.c.str 51))))))) (dss_one (ds_ret de_bl)) dss_nil)
      (dss_one (ds_ret (de_callB (cr_all rfl) all_ok (G.c.free 48) (da_cons (de_lc (own := [(".0", 1), ("sign", 2)]) rfl hN (di_any (de_var (i := 0))) (by exact blkOk_by (N := N_is_name) (sc := D_is_name.scope) (own := [(".0", 1), ("sign", 2)]) (by decide +kernel)) (ltg_name (i := 2) (by decide)) (fun _ _ _ _ _ => pg_name (i := 2) hN rfl (by first | exact Or.inl rfl | exact Or.inr rfl) (by first | exact .inl rfl | exact .inr rfl)) (fun _ _ _ _ _ => dts_nil) (fun _ _ _ _ _ => (de_in hu65 (de_var (i := 2)) (de_add (de_gs (G.c.str 51)) (de_gs (G.c.str 52)))))) da_nil)))))
/-! #### is_thing_of_kind -/
def N_is_thing_of_kind : List Str := ["kind", "thing"]
theorem sc_is_thing_of_kind : FnScope N_is_thing_of_kind ["kind", "thing"] D_is_thing_of_kind.scope := ⟨rfl, rfl, rfl, by decide +kernel, rfl, by decide +kernel, by decide +kernel⟩
theorem d_is_thing_of_kind {P : Program} {w : World} {K : PySem.W.Frag} {mg : Str → Option Value} {base : Heap} (G : Row w K mg base) : DFn P w K mg base 2 ("is_thing_of_kind", none) 2 F_is_thing_of_kind :=
  dfn_of (d := D_is_thing_of_kind) (N := N_is_thing_of_kind) (G.c.s.def_ 28) sc_is_thing_of_kind rfl rfl (fun _ _ _ _ _ _ us hl => match us, hl with | [_, _], _ => rfl) fun cdv A outer s H E hcd hr => by
    have hN := sc_is_thing_of_kind.nd
    have hu := hr.units
    have hu1 := L2.hu_of hr
    have hu65 := hu65_of hr
    have tk : Takes (cxOf (L2.CX P w) P w K mg base N_is_thing_of_kind D_is_thing_of_kind.qual D_is_thing_of_kind.scope (He.fAd K D_is_thing_of_kind.at_) cdv A outer s H E) (WD E) := takes_of rfl rfl rfl rfl
    exact (dss_cons (ds_if (dt_eq hu (de_var (i := 0)) de_str) (dss_one (ds_ret (de_cf (d_is_name G).pure (hr.mono (by omega)) (G.c.glo 53) tk (da_cons (de_var (i := 1)) da_nil)))) dss_nil)
      (dss_one (ds_ret (de_or (de_ne hu (de_var (i := 0)) de_str) (de_one (de_and (de_cf (d_is_number G).pure (hr.mono (by omega)) (G.c.glo 23) tk (da_cons (de_var (i := 1)) da_nil)) (de_one (de_ge (de_var (i := 1)) de_int))))))))
/-! #### is_single -/
def N_is_single : List Str := ["thing", "kinds", ".0", "kind", "one"]
theorem sc_is_single : FnScope N_is_single ["thing"] D_is_single.scope := ⟨rfl, rfl, rfl, by decide +kernel, rfl, by decide +kernel, by decide +kernel⟩
theorem d_is_single {P : Program} {w : World} {K : PySem.W.Frag} {mg : Str → Option Value} {base : Heap} (G : Row w K mg base) : DFn P w K mg base 3 ("is_single", none) 1 F_is_single :=
  dfn_of (d := D_is_single) (N := N_is_single) (G.c.s.def_ 29) sc_is_single rfl rfl (fun _ _ _ _ _ _ us hl => match us, hl with | [_], _ => rfl) fun cdv A outer s H E hcd hr => by
    have hN := sc_is_single.nd
    have hu := hr.units
    have hu1 := L2.hu_of hr
    have hu65 := hu65_of hr
    have tk : Takes (cxOf (L2.CX P w) P w K mg base N_is_single D_is_single.qual D_is_single.scope (He.fAd K D_is_single.at_) cdv A outer s H E) (WD E) := takes_of rfl rfl rfl rfl
    exact (dss_cons (ds_if (dt_w (dw_or (dt_not (dt_tru (de_isi tok_tuple (G.c.free 18) (G.c.free 11) (de_var (i := 0))))) (dw_or (dt_eq hu (de_callB call_len len_ok (G.c.free 2) (da_cons (de_var (i := 0)) da_nil)) de_int) (dw_or (dt_not (dt_tru (de_isi tok_str (G.c.free 18) (G.c.free 47) (de_sub_ix hu1 (de_var (i := 0)) de_int)))) (dw_or1 (dt_nin_kd G.T_KINDS (G.c.glo 49) (de_sub_ix hu1 (de_var (i := 0)) de_int))))))) (dss_one (ds_ret de_bl)) dss_nil)
      (dss_cons (ds_set (i := 1) hN (de_ix_kd G.T_KINDS (G.c.glo 49) (de_sub_ix hu1 (de_var (i := 0)) de_int)))
      (dss_one (ds_ret (de_and (de_eq hu (de_callB call_len len_ok (G.c.free 2) (da_cons (de_var (i := 0)) da_nil)) (de_add (de_callB call_len len_ok (G.c.free 2) (da_cons (de_var (i := 1)) da_nil)) de_int)) (de_one (de_callB (cr_all rfl) all_ok (G.c.free 48) (da_cons (de_lc (own := [(".0", 2), ("kind", 3), ("one", 4)]) rfl hN (di_zip (G.c.free 50) (da_cons (de_var (i := 1)) (da_cons (de_sl (de_var (i := 0)) (do_some de_int) do_none) da_nil))) (by exact blkOk_by (N := N_is_single) (sc := D_is_single.scope) (own := [(".0", 2), ("kind", 3), ("one", 4)]) (by decide +kernel)) (ltg_tup (n := 2) (is := [3, 4]) (by decide)) (fun _ _ _ _ _ => (pg_tup rfl (pgs_cons (pg_name (i := 3) hN rfl (by first | exact Or.inl rfl | exact Or.inr rfl) (by first | exact .inl rfl | exact .inr rfl)) (pgs_cons (pg_name (i := 4) hN rfl (by first | exact Or.inl rfl | exact Or.inr rfl) (by first | exact .inl rfl | exact .inr rfl)) pgs_nil rfl) rfl) rfl rfl).or (pg_unl rfl (pgs_cons (pg_name (i := 3) hN rfl (by first | exact Or.inl rfl | exact Or.inr rfl) (by first | exact .inl rfl | exact .inr rfl)) (pgs_cons (pg_name (i := 4) hN rfl (by first | exact Or.inl rfl | exact Or.inr rfl) (by first | exact .inl rfl | exact .inr rfl)) pgs_nil rfl) rfl) rfl rfl)) (fun _ _ _ _ _ => dts_nil) (fun _ _ _ _ _ => (de_cf (d_is_thing_of_kind G).pure (hr.mono (by omega)) (G.c.glo 54) L2.takes0 (da_cons (de_var (i := 3)) (da_cons (de_var (i := 4)) da_nil))))) da_nil))))))))
/-! #### need_change -/
def N_need_change : List Str := ["thing", "is_all", "singles", ".0", "one"]
theorem sc_need_change : FnScope N_need_change ["thing"] D_need_change.scope := ⟨rfl, rfl, rfl, by decide +kernel, rfl, by decide +kernel, by decide +kernel⟩
theorem d_need_change {P : Program} {w : World} {K : PySem.W.Frag} {mg : Str → Option Value} {base : Heap} (G : Row w K mg base) : DFn P w K mg base 4 ("need_change", none) 1 F_need_change :=
  dfn_of (d := D_need_change) (N := N_need_change) (G.c.s.def_ 30) sc_need_change rfl rfl (fun _ _ _ _ _ _ us hl => match us, hl with | [_], _ => rfl) fun cdv A outer s H E hcd hr => by
    have hN := sc_need_change.nd
    have hu := hr.units
    have hu1 := L2.hu_of hr
    have hu65 := hu65_of hr
    have tk : Takes (cxOf (L2.CX P w) P w K mg base N_need_change D_need_change.qual D_need_change.scope (He.fAd K D_need_change.at_) cdv A outer s H E) (WD E) := takes_of rfl rfl rfl rfl
    exact (dss_cons (ds_set (i := 1) hN (de_and (de_isi tok_tuple (G.c.free 18) (G.c.free 11) (de_var (i := 0))) (de_and (de_gt (de_callB call_len len_ok (G.c.free 2) (da_cons (de_var (i := 0)) da_nil)) de_int) (de_and (de_isi tok_str (G.c.free 18) (G.c.free 47) (de_sub_ix hu1 (de_var (i := 0)) de_int)) (de_one (de_eq hu (de_sub_ix hu1 (de_var (i := 0)) de_int) de_str))))))
      (dss_cons (ds_set (i := 2) hN (de_if (dt_tru (de_var (i := 1))) (de_sl (de_var (i := 0)) (do_some de_int) do_none) (de_tup (da_cons (de_var (i := 0)) da_nil))))
      (dss_cons (ds_if (dt_w (dw_or (dt_not (dt_lele de_int (de_callB call_len len_ok (G.c.free 2) (da_cons (de_var (i := 2)) da_nil)) (de_gi (G.c.int 56)))) (dw_or1 (dt_not (dt_tru (de_callB (cr_all rfl) all_ok (G.c.free 48) (da_cons (de_lc (own := [(".0", 3), ("one", 4)]) rfl hN (di_any (de_var (i := 2))) (by exact blkOk_by (N := N_need_change) (sc := D_need_change.scope) (own := [(".0", 3), ("one", 4)]) (by decide +kernel)) (ltg_name (i := 4) (by decide)) (fun _ _ _ _ _ => pg_name (i := 4) hN rfl (by first | exact Or.inl rfl | exact Or.inr rfl) (by first | exact .inl rfl | exact .inr rfl)) (fun _ _ _ _ _ => dts_nil) (fun _ _ _ _ _ => (de_cf (d_is_single G).pure (hr.mono (by omega)) (G.c.glo 55) L2.takes0 (da_cons (de_var (i := 4)) da_nil)))) da_nil))))))) (dss_one ds_never) dss_nil)
      (dss_one (ds_ret (de_var (i := 0)))))))
/-! #### Book.change -/
def N_Book_change : List Str := ["self", "change", "state"]
theorem sc_Book_change : FnScope N_Book_change ["self", "change"] D_Book_change.scope := ⟨rfl, rfl, rfl, by decide +kernel, rfl, by decide +kernel, by decide +kernel⟩
theorem d_Book_change {P : Program} {w : World} {K : PySem.W.Frag} {mg : Str → Option Value} {base : Heap} (G : Row w K mg base) : DFn P w K mg base 8 ("Book", some "change") 2 F_Book_change :=
  DFn.gc 0 (dfn_of (d := D_Book_change) (N := N_Book_change) (G.c.s.def_ 31) sc_Book_change rfl rfl (fun _ _ _ _ _ _ us hl => match us, hl with | [_, _], _ => rfl) fun cdv A outer s H E hcd hr => by
    have hN := sc_Book_change.nd
    have hu := hr.units
    have hu1 := L2.hu_of hr
    have hu65 := hu65_of hr
    have tk : Takes (cxOf (L2.CX P w) P w K mg base N_Book_change D_Book_change.qual D_Book_change.scope (He.fAd K D_Book_change.at_) cdv A outer s H E) (WD E) := takes_of rfl rfl rfl rfl
    exact (dss_cons (ds_set (i := 2) hN (de_cf (d_behind_change G).pure (hr.mono (by omega)) (G.c.glo 46) tk (da_cons (de_sub_ix hu1 (de_fld (c := "Book") (G.c.glo 5) (G.c.cls 6) (G.c.noat 7) (de_var (i := 0))) (de_fld (c := "Book") (G.c.glo 5) (G.c.cls 6) (G.c.noat 9) (de_var (i := 0)))) (da_cons (de_cf (d_need_change G).pure (hr.mono (by omega)) (G.c.glo 57) tk (da_cons (de_var (i := 1)) da_nil)) da_nil))))
      (dss_cons (ds_if (dt_eq hu (de_fld (c := "Book") (G.c.glo 5) (G.c.cls 6) (G.c.noat 9) (de_var (i := 0))) (de_gi (G.c.int 58))) (dss_one ds_never) dss_nil)
      (dss_cons (ds_fld (c := "Book") (G.c.glo 5) (G.c.cls 6) (G.c.noat 7) (de_var (i := 0)) (de_gc (de_add (de_gc (de_sl (de_fld (c := "Book") (G.c.glo 5) (G.c.cls 6) (G.c.noat 7) (de_var (i := 0))) do_none (do_some (de_add (de_fld (c := "Book") (G.c.glo 5) (G.c.cls 6) (G.c.noat 9) (de_var (i := 0))) de_int)))) (de_gc (de_lst (da_cons (de_var (i := 2)) da_nil))))))
      (dss_cons (ds_fld (c := "Book") (G.c.glo 5) (G.c.cls 6) (G.c.noat 8) (de_var (i := 0)) (de_gc (de_add (de_gc (de_sl (de_fld (c := "Book") (G.c.glo 5) (G.c.cls 6) (G.c.noat 8) (de_var (i := 0))) do_none (do_some (de_fld (c := "Book") (G.c.glo 5) (G.c.cls 6) (G.c.noat 9) (de_var (i := 0)))))) (de_gc (de_lst (da_cons (de_var (i := 1)) da_nil))))))
      (dss_one (ds_fld (c := "Book") (G.c.glo 5) (G.c.cls 6) (G.c.noat 9) (de_var (i := 0)) (de_add (de_fld (c := "Book") (G.c.glo 5) (G.c.cls 6) (G.c.noat 9) (de_var (i := 0))) de_int))))))))
/-! #### Book.texts -/
def N_Book_texts : List Str := ["self"]
theorem sc_Book_texts : FnScope N_Book_texts ["self"] D_Book_texts.scope := ⟨rfl, rfl, rfl, by decide +kernel, rfl, by decide +kernel, by decide +kernel⟩
theorem d_Book_texts {P : Program} {w : World} {K : PySem.W.Frag} {mg : Str → Option Value} {base : Heap} (G : Row w K mg base) : DFn P w K mg base 1 ("Book", some "texts") 1 F_Book_texts :=
  DFn.gc 0 (dfn_of (d := D_Book_texts) (N := N_Book_texts) (G.c.s.def_ 32) sc_Book_texts rfl rfl (fun _ _ _ _ _ _ us hl => match us, hl with | [_], _ => rfl) fun cdv A outer s H E hcd hr => by
    have hN := sc_Book_texts.nd
    have hu := hr.units
    have hu1 := L2.hu_of hr
    have hu65 := hu65_of hr
    have tk : Takes (cxOf (L2.CX P w) P w K mg base N_Book_texts D_Book_texts.qual D_Book_texts.scope (He.fAd K D_Book_texts.at_) cdv A outer s H E) (WD E) := takes_of rfl rfl rfl rfl
    exact (dss_one (ds_ret (de_sub_ix hu1 (de_sub_ix hu1 (de_fld (c := "Book") (G.c.glo 5) (G.c.cls 6) (G.c.noat 7) (de_var (i := 0))) (de_fld (c := "Book") (G.c.glo 5) (G.c.cls 6) (G.c.noat 9) (de_var (i := 0)))) de_int))))
/-! #### Book.text -/
def N_Book_text : List Str := ["self", "name", "rows"]
theorem sc_Book_text : FnScope N_Book_text ["self", "name"] D_Book_text.scope := ⟨rfl, rfl, rfl, by decide +kernel, rfl, by decide +kernel, by decide +kernel⟩
theorem d_Book_text {P : Program} {w : World} {K : PySem.W.Frag} {mg : Str → Option Value} {base : Heap} (G : Row w K mg base) : DFn P w K mg base 2 ("Book", some "text") 2 F_Book_text :=
  DFn.gc 0 (dfn_of (d := D_Book_text) (N := N_Book_text) (G.c.s.def_ 33) sc_Book_text rfl rfl (fun _ _ _ _ _ _ us hl => match us, hl with | [_, _], _ => rfl) fun cdv A outer s H E hcd hr => by
    have hN := sc_Book_text.nd
    have hu := hr.units
    have hu1 := L2.hu_of hr
    have hu65 := hu65_of hr
    have tk : Takes (cxOf (L2.CX P w) P w K mg base N_Book_text D_Book_text.qual D_Book_text.scope (He.fAd K D_Book_text.at_) cdv A outer s H E) (WD E) := takes_of rfl rfl rfl rfl
    exact (dss_cons (ds_set (i := 2) hN (de_mf0 (d_Book_texts G) (hr.mono (by omega)) (G.c.glo 5) (G.c.cls 6) (G.c.meth 60) tk (de_var (i := 0))))
      (dss_one (ds_ret (de_sub_ix hu1 (de_sub_ix hu1 (de_var (i := 2)) (de_cf (d_spot_of G).pure (hr.mono (by omega)) (G.c.glo 28) tk (da_cons (de_var (i := 2)) (da_cons (de_var (i := 1)) da_nil)))) de_int)))))
/-! #### Book.marks -/
def N_Book_marks : List Str := ["self"]
theorem sc_Book_marks : FnScope N_Book_marks ["self"] D_Book_marks.scope := ⟨rfl, rfl, rfl, by decide +kernel, rfl, by decide +kernel, by decide +kernel⟩
theorem d_Book_marks {P : Program} {w : World} {K : PySem.W.Frag} {mg : Str → Option Value} {base : Heap} (G : Row w K mg base) : DFn P w K mg base 1 ("Book", some "marks") 1 F_Book_marks :=
  DFn.gc 0 (dfn_of (d := D_Book_marks) (N := N_Book_marks) (G.c.s.def_ 34) sc_Book_marks rfl rfl (fun _ _ _ _ _ _ us hl => match us, hl with | [_], _ => rfl) fun cdv A outer s H E hcd hr => by
    have hN := sc_Book_marks.nd
    have hu := hr.units
    have hu1 := L2.hu_of hr
    have hu65 := hu65_of hr
    have tk : Takes (cxOf (L2.CX P w) P w K mg base N_Book_marks D_Book_marks.qual D_Book_marks.scope (He.fAd K D_Book_marks.at_) cdv A outer s H E) (WD E) := takes_of rfl rfl rfl rfl
    exact (dss_one (ds_ret (de_sub_ix hu1 (de_sub_ix hu1 (de_fld (c := "Book") (G.c.glo 5) (G.c.cls 6) (G.c.noat 7) (de_var (i := 0))) (de_fld (c := "Book") (G.c.glo 5) (G.c.cls 6) (G.c.noat 9) (de_var (i := 0)))) de_int))))
/-! #### Book.mark -/
def N_Book_mark : List Str := ["self", "mark", "rows"]
theorem sc_Book_mark : FnScope N_Book_mark ["self", "mark"] D_Book_mark.scope := ⟨rfl, rfl, rfl, by decide +kernel, rfl, by decide +kernel, by decide +kernel⟩
theorem d_Book_mark {P : Program} {w : World} {K : PySem.W.Frag} {mg : Str → Option Value} {base : Heap} (G : Row w K mg base) : DFn P w K mg base 2 ("Book", some "mark") 2 F_Book_mark :=
  DFn.gc 0 (dfn_of (d := D_Book_mark) (N := N_Book_mark) (G.c.s.def_ 35) sc_Book_mark rfl rfl (fun _ _ _ _ _ _ us hl => match us, hl with | [_, _], _ => rfl) fun cdv A outer s H E hcd hr => by
    have hN := sc_Book_mark.nd
    have hu := hr.units
    have hu1 := L2.hu_of hr
    have hu65 := hu65_of hr
    have tk : Takes (cxOf (L2.CX P w) P w K mg base N_Book_mark D_Book_mark.qual D_Book_mark.scope (He.fAd K D_Book_mark.at_) cdv A outer s H E) (WD E) := takes_of rfl rfl rfl rfl
    exact (dss_cons (ds_set (i := 2) hN (de_mf0 (d_Book_marks G) (hr.mono (by omega)) (G.c.glo 5) (G.c.cls 6) (G.c.meth 62) tk (de_var (i := 0))))
      (dss_one (ds_ret (de_sub_ix hu1 (de_sub_ix hu1 (de_var (i := 2)) (de_cf (d_spot_of G).pure (hr.mono (by omega)) (G.c.glo 28) tk (da_cons (de_var (i := 2)) (da_cons (de_var (i := 1)) da_nil)))) de_int)))))
/-! #### Book.marked -/
def N_Book_marked : List Str := ["self", "mark", "name", "first", "last"]
theorem sc_Book_marked : FnScope N_Book_marked ["self", "mark"] D_Book_marked.scope := ⟨rfl, rfl, rfl, by decide +kernel, rfl, by decide +kernel, by decide +kernel⟩
theorem d_Book_marked {P : Program} {w : World} {K : PySem.W.Frag} {mg : Str → Option Value} {base : Heap} (G : Row w K mg base) : DFn P w K mg base 3 ("Book", some "marked") 2 F_Book_marked :=
  DFn.gc 0 (dfn_of (d := D_Book_marked) (N := N_Book_marked) (G.c.s.def_ 36) sc_Book_marked rfl rfl (fun _ _ _ _ _ _ us hl => match us, hl with | [_, _], _ => rfl) fun cdv A outer s H E hcd hr => by
    have hN := sc_Book_marked.nd
    have hu := hr.units
    have hu1 := L2.hu_of hr
    have hu65 := hu65_of hr
    have tk : Takes (cxOf (L2.CX P w) P w K mg base N_Book_marked D_Book_marked.qual D_Book_marked.scope (He.fAd K D_Book_marked.at_) cdv A outer s H E) (WD E) := takes_of rfl rfl rfl rfl
    exact (dss_cons (ds_asg (de_mf (d_Book_mark G) (hr.mono (by omega)) (G.c.glo 5) (G.c.cls 6) (G.c.meth 63) tk (de_var (i := 0)) (da_cons (de_var (i := 1)) da_nil)) (dg_tup rfl (dgs_cons (dg_name (i := 2) hN) (dgs_cons (dg_name (i := 3) hN) (dgs_cons (dg_name (i := 4) hN) dgs_nil)))))
      (dss_one (ds_ret (de_sl (de_mf (d_Book_text G) (hr.mono (by omega)) (G.c.glo 5) (G.c.cls 6) (G.c.meth 61) tk (de_var (i := 0)) (da_cons (de_var (i := 2)) da_nil)) (do_some (de_var (i := 3))) (do_some (de_var (i := 4))))))))
/-! #### Book.across -/
def N_Book_across : List Str := ["self", "mark", "signs"]
theorem sc_Book_across : FnScope N_Book_across ["self", "mark"] D_Book_across.scope := ⟨rfl, rfl, rfl, by decide +kernel, rfl, by decide +kernel, by decide +kernel⟩
theorem d_Book_across {P : Program} {w : World} {K : PySem.W.Frag} {mg : Str → Option Value} {base : Heap} (G : Row w K mg base) : DFn P w K mg base 4 ("Book", some "across") 2 F_Book_across :=
  DFn.gc 0 (dfn_of (d := D_Book_across) (N := N_Book_across) (G.c.s.def_ 37) sc_Book_across rfl rfl (fun _ _ _ _ _ _ us hl => match us, hl with | [_, _], _ => rfl) fun cdv A outer s H E hcd hr => by
    have hN := sc_Book_across.nd
    have hu := hr.units
    have hu1 := L2.hu_of hr
    have hu65 := hu65_of hr
    have tk : Takes (cxOf (L2.CX P w) P w K mg base N_Book_across D_Book_across.qual D_Book_across.scope (He.fAd K D_Book_across.at_) cdv A outer s H E) (WD E) := takes_of rfl rfl rfl rfl
    exact (dss_cons (ds_set (i := 2) hN (de_mf (d_Book_marked G) (hr.mono (by omega)) (G.c.glo 5) (G.c.cls 6) (G.c.meth 64) tk (de_var (i := 0)) (da_cons (de_var (i := 1)) da_nil)))
      (dss_cons (ds_if (dt_gt (de_callB call_len len_ok (G.c.free 2) (da_cons (de_var (i := 2)) da_nil)) (de_gi (G.c.int 65))) (dss_one ds_never) dss_nil)
      (dss_one (ds_ret (de_var (i := 2)))))))
/-! #### rows_of -/
def N_rows_of : List Str := ["passage", "many", "number", "rows", "end", "below", "row", "last", ".0"]
theorem sc_rows_of : FnScope N_rows_of ["passage"] D_rows_of.scope := ⟨rfl, rfl, rfl, by decide +kernel, rfl, by decide +kernel, by decide +kernel⟩
theorem d_rows_of {P : Program} {w : World} {K : PySem.W.Frag} {mg : Str → Option Value} {base : Heap} (G : Row w K mg base) : DFn P w K mg base 1 ("rows_of", none) 1 F_rows_of :=
  DFn.gc 0 (dfn_of (d := D_rows_of) (N := N_rows_of) (G.c.s.def_ 38) sc_rows_of rfl rfl (fun _ _ _ _ _ _ us hl => match us, hl with | [_], _ => rfl) fun cdv A outer s H E hcd hr => by
    have hN := sc_rows_of.nd
    have hu := hr.units
    have hu1 := L2.hu_of hr
    have hu65 := hu65_of hr
    have tk : Takes (cxOf (L2.CX P w) P w K mg base N_rows_of D_rows_of.qual D_rows_of.scope (He.fAd K D_rows_of.at_) cdv A outer s H E) (WD E) := takes_of rfl rfl rfl rfl
    exact (dss_cons (ds_set (i := 1) hN (de_callB call_len len_ok (G.c.free 2) (da_cons (de_var (i := 0)) da_nil)))
      (dss_cons (ds_lc (i := 3) (own := [(".0", 8), ("number", 2)]) rfl hN (di_range1 (G.c.free 1) (da_cons (de_add (de_var (i := 1)) de_int) da_nil)) (by exact blkOk_by (N := N_rows_of) (sc := D_rows_of.scope) (own := [(".0", 8), ("number", 2)]) (by decide +kernel)) (ltg_name (i := 2) (by decide)) (fun _ _ _ _ _ => pg_name (i := 2) hN rfl (by first | exact Or.inl rfl | exact Or.inr rfl) (by first | exact .inl rfl | exact .inr rfl)) (fun _ _ _ _ _ => dts_nil) (fun _ _ _ _ _ => (de_mul (de_lst (da_cons de_int da_nil)) (de_add (de_var (i := 1)) de_int))) (sw_true rfl rfl rfl (by decide +kernel)))
      (dss_cons (ds_for (passes_of rfl) rfl (di_range3 (G.c.free 1) (da_cons (de_sub (de_var (i := 1)) de_int) (da_cons (de_neg de_int) (da_cons (de_neg de_int) da_nil)))) (dg_name (i := 2) hN) (dss_cons (ds_par3 (i := 4) (j := 5) (l := 6) rfl hN (da_cons (de_sub_ix hu1 (de_var (i := 0)) (de_var (i := 2))) (da_cons (de_sub_ix hu1 (de_var (i := 3)) (de_add (de_var (i := 2)) de_int)) (da_cons (de_sub_ix hu1 (de_var (i := 3)) (de_var (i := 2))) da_nil))))
      (dss_one (ds_for (passes_of rfl) rfl (di_range1 (G.c.free 1) (da_cons (de_add (de_var (i := 1)) de_int) da_nil)) (dg_name (i := 7) hN) (dss_one (ds_asg (de_add (de_sub_ix hu1 (de_var (i := 5)) (de_var (i := 7))) (de_if (dt_w (dw_and (dt_nis (de_var (i := 4)) de_non) (dw_and1 (dt_lt (de_var (i := 4)) (de_var (i := 7)))))) de_int de_int)) (dg_sub (de_var (i := 6)) (de_var (i := 7)))))))))
      (dss_one (ds_ret (de_var (i := 3))))))))
/-! #### first_more -/
def N_first_more : List Str := ["one", "other", "first", "left", "right", "last", "here", "there"]
theorem sc_first_more : FnScope N_first_more ["one", "other"] D_first_more.scope := ⟨rfl, rfl, rfl, by decide +kernel, rfl, by decide +kernel, by decide +kernel⟩
theorem d_first_more {P : Program} {w : World} {K : PySem.W.Frag} {mg : Str → Option Value} {base : Heap} (G : Row w K mg base) : DFn P w K mg base 2 ("first_more", none) 2 F_first_more :=
  DFn.gc 0 (dfn_of (d := D_first_more) (N := N_first_more) (G.c.s.def_ 39) sc_first_more rfl rfl (fun _ _ _ _ _ _ us hl => match us, hl with | [_, _], _ => rfl) fun cdv A outer s H E hcd hr => by
    have hN := sc_first_more.nd
    have hu := hr.units
    have hu1 := L2.hu_of hr
    have hu65 := hu65_of hr
    have tk : Takes (cxOf (L2.CX P w) P w K mg base N_first_more D_first_more.qual D_first_more.scope (He.fAd K D_first_more.at_) cdv A outer s H E) (WD E) := takes_of rfl rfl rfl rfl
    exact (dss_cons (ds_for (passes_of rfl) rfl (di_enumZip (G.c.free 50) (G.c.free 21) (da_cons (de_cf (d_rows_of G) (hr.mono (by omega)) (G.c.glo 67) tk (da_cons (de_var (i := 0)) da_nil)) (da_cons (de_cf (d_rows_of G) (hr.mono (by omega)) (G.c.glo 67) tk (da_cons (de_var (i := 1)) da_nil)) da_nil))) (dg_tup rfl (dgs_cons (dg_name (i := 2) hN) (dgs_cons (dg_tup rfl (dgs_cons (dg_name (i := 3) hN) (dgs_cons (dg_name (i := 4) hN) dgs_nil))) dgs_nil))) (dss_one (ds_for (passes_of rfl) rfl (di_enumZip (G.c.free 50) (G.c.free 21) (da_cons (de_var (i := 3)) (da_cons (de_var (i := 4)) da_nil))) (dg_tup rfl (dgs_cons (dg_name (i := 5) hN) (dgs_cons (dg_tup rfl (dgs_cons (dg_name (i := 6) hN) (dgs_cons (dg_name (i := 7) hN) dgs_nil))) dgs_nil))) (dss_one (ds_if (dt_gt (de_var (i := 6)) (de_var (i := 7))) (dss_one (ds_ret (de_tup (da_cons (de_var (i := 2)) (da_cons (de_var (i := 5)) da_nil))))) dss_nil)))))
      (dss_one (ds_ret de_non))))
/-! #### comb -/
def N_comb : List Str := ["row", "sign", "base", "thread", "place", "one"]
theorem sc_comb : FnScope N_comb ["row", "sign", "base", "thread"] D_comb.scope := ⟨rfl, rfl, rfl, by decide +kernel, rfl, by decide +kernel, by decide +kernel⟩
theorem d_comb {P : Program} {w : World} {K : PySem.W.Frag} {mg : Str → Option Value} {base : Heap} (G : Row w K mg base) : DFn P w K mg base 1 ("comb", none) 4 F_comb :=
  DFn.gc 0 (dfn_of (d := D_comb) (N := N_comb) (G.c.s.def_ 40) sc_comb rfl rfl (fun _ _ _ _ _ _ us hl => match us, hl with | [_, _, _, _], _ => rfl) fun cdv A outer s H E hcd hr => by
    have hN := sc_comb.nd
    have hu := hr.units
    have hu1 := L2.hu_of hr
    have hu65 := hu65_of hr
    have tk : Takes (cxOf (L2.CX P w) P w K mg base N_comb D_comb.qual D_comb.scope (He.fAd K D_comb.at_) cdv A outer s H E) (WD E) := takes_of rfl rfl rfl rfl
    exact (dss_cons (ds_for (passes_of rfl) rfl (di_enum (G.c.free 21) (da_cons (de_var (i := 2)) da_nil)) (dg_tup rfl (dgs_cons (dg_name (i := 4) hN) (dgs_cons (dg_name (i := 5) hN) dgs_nil))) (dss_one (ds_if (dt_w (dw_or (dt_eq hu (de_var (i := 5)) (de_var (i := 1))) (dw_or1 (dt_gt (de_var (i := 3)) (de_sub_ix hu1 (de_var (i := 0)) (de_var (i := 4))))))) (dss_one (ds_asg (de_tup (da_cons (de_var (i := 3)) (da_cons (de_sub_ix hu1 (de_var (i := 0)) (de_var (i := 4))) da_nil))) (dg_tup rfl (dgs_cons (dg_sub (de_var (i := 0)) (de_var (i := 4))) (dgs_cons (dg_name (i := 3) hN) dgs_nil))))) dss_nil)))
      (dss_one (ds_ret (de_var (i := 3))))))
/-! #### passage_of_row -/
def N_passage_of_row : List Str := ["row", "many", "found", "place", "thread"]
theorem sc_passage_of_row : FnScope N_passage_of_row ["row", "many"] D_passage_of_row.scope := ⟨rfl, rfl, rfl, by decide +kernel, rfl, by decide +kernel, by decide +kernel⟩
theorem d_passage_of_row {P : Program} {w : World} {K : PySem.W.Frag} {mg : Str → Option Value} {base : Heap} (G : Row w K mg base) : DFn P w K mg base 1 ("passage_of_row", none) 2 F_passage_of_row :=
  DFn.gc 0 (dfn_of (d := D_passage_of_row) (N := N_passage_of_row) (G.c.s.def_ 41) sc_passage_of_row rfl rfl (fun _ _ _ _ _ _ us hl => match us, hl with | [_, _], _ => rfl) fun cdv A outer s H E hcd hr => by
    have hN := sc_passage_of_row.nd
    have hu := hr.units
    have hu1 := L2.hu_of hr
    have hu65 := hu65_of hr
    have tk : Takes (cxOf (L2.CX P w) P w K mg base N_passage_of_row D_passage_of_row.qual D_passage_of_row.scope (He.fAd K D_passage_of_row.at_) cdv A outer s H E) (WD E) := takes_of rfl rfl rfl rfl
    exact (dss_cons (ds_set (i := 2) hN (de_mul (de_gc (de_lst (da_cons de_non da_nil))) (de_var (i := 1))))
      (dss_cons (ds_for (passes_of rfl) rfl (di_enum (G.c.free 21) (da_cons (de_var (i := 0)) da_nil)) (dg_tup rfl (dgs_cons (dg_name (i := 3) hN) (dgs_cons (dg_name (i := 4) hN) dgs_nil))) (dss_one (ds_if (dt_ge (de_var (i := 4)) de_int) (dss_one (ds_asg (de_var (i := 3)) (dg_sub (de_var (i := 2)) (de_var (i := 4))))) dss_nil)))
      (dss_one (ds_ret (de_callTy call_tuple_of tuple_ok (G.c.free 11) (da_cons (de_var (i := 2)) da_nil)))))))
/-! #### combed -/
def N_combed : List Str := ["text", "base", "row", "sign"]
theorem sc_combed : FnScope N_combed ["text", "base"] D_combed.scope := ⟨rfl, rfl, rfl, by decide +kernel, rfl, by decide +kernel, by decide +kernel⟩
theorem d_combed {P : Program} {w : World} {K : PySem.W.Frag} {mg : Str → Option Value} {base : Heap} (G : Row w K mg base) : DFn P w K mg base 2 ("combed", none) 2 F_combed :=
  DFn.gc 0 (dfn_of (d := D_combed) (N := N_combed) (G.c.s.def_ 42) sc_combed rfl rfl (fun _ _ _ _ _ _ us hl => match us, hl with | [_, _], _ => rfl) fun cdv A outer s H E hcd hr => by
    have hN := sc_combed.nd
    have hu := hr.units
    have hu1 := L2.hu_of hr
    have hu65 := hu65_of hr
    have tk : Takes (cxOf (L2.CX P w) P w K mg base N_combed D_combed.qual D_combed.scope (He.fAd K D_combed.at_) cdv A outer s H E) (WD E) := takes_of rfl rfl rfl rfl
    exact (dss_cons (ds_set (i := 2) hN (de_lstRg rfl (G.c.free 69) (drg_1 (G.c.free 1) (de_callB call_len len_ok (G.c.free 2) (da_cons (de_var (i := 1)) da_nil)))))
      (dss_cons (ds_for (passes_of rfl) rfl (di_any (de_var (i := 0))) (dg_name (i := 3) hN) (dss_one (ds_expr (de_cf (d_comb G) (hr.mono (by omega)) (G.c.glo 70) tk (da_cons (de_var (i := 2)) (da_cons (de_var (i := 3)) (da_cons (de_var (i := 1)) (da_cons (de_neg de_int) da_nil))))))))
      (dss_one (ds_ret (de_cf (d_passage_of_row G) (hr.mono (by omega)) (G.c.glo 71) tk (da_cons (de_var (i := 2)) (da_cons (de_callB call_len len_ok (G.c.free 2) (da_cons (de_var (i := 1)) da_nil)) da_nil))))))))
/-! #### need_across -/
def N_need_across : List Str := ["base"]
theorem sc_need_across : FnScope N_need_across ["base"] D_need_across.scope := ⟨rfl, rfl, rfl, by decide +kernel, rfl, by decide +kernel, by decide +kernel⟩
theorem d_need_across {P : Program} {w : World} {K : PySem.W.Frag} {mg : Str → Option Value} {base : Heap} (G : Row w K mg base) : DFn P w K mg base 5 ("need_across", none) 1 F_need_across :=
  dfn_of (d := D_need_across) (N := N_need_across) (G.c.s.def_ 43) sc_need_across rfl rfl (fun _ _ _ _ _ _ us hl => match us, hl with | [_], _ => rfl) fun cdv A outer s H E hcd hr => by
    have hN := sc_need_across.nd
    have hu := hr.units
    have hu1 := L2.hu_of hr
    have hu65 := hu65_of hr
    have tk : Takes (cxOf (L2.CX P w) P w K mg base N_need_across D_need_across.qual D_need_across.scope (He.fAd K D_need_across.at_) cdv A outer s H E) (WD E) := takes_of rfl rfl rfl rfl
    exact (dss_cons (ds_if (dt_gt (de_callB call_len len_ok (G.c.free 2) (da_cons (de_cf (d_need_text G).pure (hr.mono (by omega)) (G.c.glo 27) tk (da_cons (de_var (i := 0)) da_nil)) da_nil)) (de_gi (G.c.int 73))) (dss_one ds_never) dss_nil)
      (dss_one (ds_ret (de_var (i := 0)))))
/-! #### passage_over -/
def N_passage_over : List Str := ["text", "base"]
theorem sc_passage_over : FnScope N_passage_over ["text", "base"] D_passage_over.scope := ⟨rfl, rfl, rfl, by decide +kernel, rfl, by decide +kernel, by decide +kernel⟩
theorem d_passage_over {P : Program} {w : World} {K : PySem.W.Frag} {mg : Str → Option Value} {base : Heap} (G : Row w K mg base) : DFn P w K mg base 6 ("passage_over", none) 2 F_passage_over :=
  DFn.gc 0 (dfn_of (d := D_passage_over) (N := N_passage_over) (G.c.s.def_ 44) sc_passage_over rfl rfl (fun _ _ _ _ _ _ us hl => match us, hl with | [_, _], _ => rfl) fun cdv A outer s H E hcd hr => by
    have hN := sc_passage_over.nd
    have hu := hr.units
    have hu1 := L2.hu_of hr
    have hu65 := hu65_of hr
    have tk : Takes (cxOf (L2.CX P w) P w K mg base N_passage_over D_passage_over.qual D_passage_over.scope (He.fAd K D_passage_over.at_) cdv A outer s H E) (WD E) := takes_of rfl rfl rfl rfl
    exact (dss_cons (ds_expr (de_cf (d_need_text G).pure (hr.mono (by omega)) (G.c.glo 27) tk (da_cons (de_var (i := 0)) da_nil)))
      (dss_one (ds_ret (de_cf (d_combed G) (hr.mono (by omega)) (G.c.glo 72) tk (da_cons (de_var (i := 0)) (da_cons (de_cf (d_need_across G).pure (hr.mono (by omega)) (G.c.glo 74) tk (da_cons (de_var (i := 1)) da_nil)) da_nil)))))))
/-! #### Book.first_less -/
def N_Book_first_less : List Str := ["self", "name", "other", "mark", "one", "there", "signs"]
theorem sc_Book_first_less : FnScope N_Book_first_less ["self", "name", "other", "mark"] D_Book_first_less.scope := ⟨rfl, rfl, rfl, by decide +kernel, rfl, by decide +kernel, by decide +kernel⟩
theorem d_Book_first_less {P : Program} {w : World} {K : PySem.W.Frag} {mg : Str → Option Value} {base : Heap} (G : Row w K mg base) : DFn P w K mg base 7 ("Book", some "first_less") 4 F_Book_first_less :=
  DFn.gc 0 (dfn_of (d := D_Book_first_less) (N := N_Book_first_less) (G.c.s.def_ 45) sc_Book_first_less rfl rfl (fun _ _ _ _ _ _ us hl => match us, hl with | [_, _, _, _], _ => rfl) fun cdv A outer s H E hcd hr => by
    have hN := sc_Book_first_less.nd
    have hu := hr.units
    have hu1 := L2.hu_of hr
    have hu65 := hu65_of hr
    have tk : Takes (cxOf (L2.CX P w) P w K mg base N_Book_first_less D_Book_first_less.qual D_Book_first_less.scope (He.fAd K D_Book_first_less.at_) cdv A outer s H E) (WD E) := takes_of rfl rfl rfl rfl
    exact (dss_cons (ds_set (i := 4) hN (de_mf (d_Book_text G) (hr.mono (by omega)) (G.c.glo 5) (G.c.cls 6) (G.c.meth 61) tk (de_var (i := 0)) (da_cons (de_var (i := 1)) da_nil)))
      (dss_cons (ds_set (i := 5) hN (de_mf (d_Book_text G) (hr.mono (by omega)) (G.c.glo 5) (G.c.cls 6) (G.c.meth 61) tk (de_var (i := 0)) (da_cons (de_var (i := 2)) da_nil)))
      (dss_cons (ds_set (i := 6) hN (de_mf (d_Book_across G) (hr.mono (by omega)) (G.c.glo 5) (G.c.cls 6) (G.c.meth 66) tk (de_var (i := 0)) (da_cons (de_var (i := 3)) da_nil)))
      (dss_one (ds_ret (de_cf (d_first_more G) (hr.mono (by omega)) (G.c.glo 68) tk (da_cons (de_cf (d_passage_over G) (hr.mono (by omega)) (G.c.glo 75) tk (da_cons (de_var (i := 4)) (da_cons (de_var (i := 6)) da_nil))) (da_cons (de_cf (d_passage_over G) (hr.mono (by omega)) (G.c.glo 75) tk (da_cons (de_var (i := 5)) (da_cons (de_var (i := 6)) da_nil))) da_nil)))))))))
/-! #### Book.is_never_less -/
def N_Book_is_never_less : List Str := ["self", "name", "other", "mark"]
theorem sc_Book_is_never_less : FnScope N_Book_is_never_less ["self", "name", "other", "mark"] D_Book_is_never_less.scope := ⟨rfl, rfl, rfl, by decide +kernel, rfl, by decide +kernel, by decide +kernel⟩
theorem d_Book_is_never_less {P : Program} {w : World} {K : PySem.W.Frag} {mg : Str → Option Value} {base : Heap} (G : Row w K mg base) : DFn P w K mg base 8 ("Book", some "is_never_less") 4 F_Book_is_never_less :=
  DFn.gc 0 (dfn_of (d := D_Book_is_never_less) (N := N_Book_is_never_less) (G.c.s.def_ 46) sc_Book_is_never_less rfl rfl (fun _ _ _ _ _ _ us hl => match us, hl with | [_, _, _, _], _ => rfl) fun cdv A outer s H E hcd hr => by
    have hN := sc_Book_is_never_less.nd
    have hu := hr.units
    have hu1 := L2.hu_of hr
    have hu65 := hu65_of hr
    have tk : Takes (cxOf (L2.CX P w) P w K mg base N_Book_is_never_less D_Book_is_never_less.qual D_Book_is_never_less.scope (He.fAd K D_Book_is_never_less.at_) cdv A outer s H E) (WD E) := takes_of rfl rfl rfl rfl
    exact (dss_one (ds_ret (de_is (de_mf (d_Book_first_less G) (hr.mono (by omega)) (G.c.glo 5) (G.c.cls 6) (G.c.meth 76) tk (de_var (i := 0)) (da_cons (de_var (i := 1)) (da_cons (de_var (i := 2)) (da_cons (de_var (i := 3)) da_nil)))) de_non))))
/-! #### Book.passage -/
def N_Book_passage : List Str := ["self", "name", "mark", "one"]
theorem sc_Book_passage : FnScope N_Book_passage ["self", "name", "mark"] D_Book_passage.scope := ⟨rfl, rfl, rfl, by decide +kernel, rfl, by decide +kernel, by decide +kernel⟩
theorem d_Book_passage {P : Program} {w : World} {K : PySem.W.Frag} {mg : Str → Option Value} {base : Heap} (G : Row w K mg base) : DFn P w K mg base 7 ("Book", some "passage") 3 F_Book_passage :=
  DFn.gc 0 (dfn_of (d := D_Book_passage) (N := N_Book_passage) (G.c.s.def_ 47) sc_Book_passage rfl rfl (fun _ _ _ _ _ _ us hl => match us, hl with | [_, _, _], _ => rfl) fun cdv A outer s H E hcd hr => by
    have hN := sc_Book_passage.nd
    have hu := hr.units
    have hu1 := L2.hu_of hr
    have hu65 := hu65_of hr
    have tk : Takes (cxOf (L2.CX P w) P w K mg base N_Book_passage D_Book_passage.qual D_Book_passage.scope (He.fAd K D_Book_passage.at_) cdv A outer s H E) (WD E) := takes_of rfl rfl rfl rfl
    exact (dss_cons (ds_set (i := 3) hN (de_mf (d_Book_text G) (hr.mono (by omega)) (G.c.glo 5) (G.c.cls 6) (G.c.meth 61) tk (de_var (i := 0)) (da_cons (de_var (i := 1)) da_nil)))
      (dss_one (ds_ret (de_cf (d_passage_over G) (hr.mono (by omega)) (G.c.glo 75) tk (da_cons (de_var (i := 3)) (da_cons (de_mf (d_Book_across G) (hr.mono (by omega)) (G.c.glo 5) (G.c.cls 6) (G.c.meth 66) tk (de_var (i := 0)) (da_cons (de_var (i := 2)) da_nil)) da_nil)))))))
/-! #### _law_like -/
def N__law_like : List Str := ["told", "due", "one", "two"]
theorem sc__law_like : FnScope N__law_like ["told", "due"] D__law_like.scope := ⟨rfl, rfl, rfl, by decide +kernel, rfl, by decide +kernel, by decide +kernel⟩
theorem d__law_like {P : Program} {w : World} {K : PySem.W.Frag} {mg : Str → Option Value} {base : Heap} (G : Row w K mg base) : ∀ n : Nat, DFn P w K mg base (0 + n) ("_law_like", none) 2 (F__law_like n)
  | 0 => dfn_no (d := D__law_like) (ps := ["told", "due"]) (G.c.s.def_ 48) rfl (fun _ _ _ _ _ _ us hl => match us, hl with | [_, _], _ => rfl)
  | n + 1 => dfn_of (d := D__law_like) (N := N__law_like) (G.c.s.def_ 48) sc__law_like rfl rfl (fun _ _ _ _ _ _ us hl => match us, hl with | [_, _], _ => rfl) fun cdv A outer s H E hcd hr => by
    have hrec := (d__law_like (P := P) G n).pure
    have hN := sc__law_like.nd
    have hu := hr.units
    have hu1 := L2.hu_of hr
    have hu65 := hu65_of hr
    have tk : Takes (cxOf (L2.CX P w) P w K mg base N__law_like D__law_like.qual D__law_like.scope (He.fAd K D__law_like.at_) cdv A outer s H E) (WD E) := takes_of rfl rfl rfl rfl
    exact (dss_cons (ds_if (dt_tru (de_isi tok_tuple (G.c.free 18) (G.c.free 11) (de_var (i := 1)))) (dss_cons (ds_if (dt_w (dw_or (dt_not (dt_tru (de_isi tok_tuple (G.c.free 18) (G.c.free 11) (de_var (i := 0))))) (dw_or1 (dt_ne hu (de_callB call_len len_ok (G.c.free 2) (da_cons (de_var (i := 0)) da_nil)) (de_callB call_len len_ok (G.c.free 2) (da_cons (de_var (i := 1)) da_nil)))))) (dss_one (ds_ret de_bl)) dss_nil)
      (dss_cons (ds_for (passes_of rfl) rfl (di_zip (G.c.free 50) (da_cons (de_var (i := 0)) (da_cons (de_var (i := 1)) da_nil))) (dg_tup rfl (dgs_cons (dg_name (i := 2) hN) (dgs_cons (dg_name (i := 3) hN) dgs_nil))) (dss_one (ds_if (dt_not (dt_tru (de_cf hrec hr (G.c.glo 79) tk (da_cons (de_var (i := 2)) (da_cons (de_var (i := 3)) da_nil))))) (dss_one (ds_ret de_bl)) dss_nil)))
      (dss_one (ds_ret de_bl)))) dss_nil)
      (dss_cons (ds_if (dt_is (de_var (i := 1)) de_non) (dss_one (ds_ret (de_is (de_var (i := 0)) de_non))) dss_nil)
      (dss_cons (ds_if (dt_tru (de_isi tok_bool (G.c.free 18) (G.c.free 22) (de_var (i := 1)))) (dss_one (ds_ret (de_and (de_isi tok_bool (G.c.free 18) (G.c.free 22) (de_var (i := 0))) (de_one (de_eq hu (de_var (i := 0)) (de_var (i := 1))))))) dss_nil)
      (dss_cons (ds_if (dt_tru (de_isi tok_int (G.c.free 18) (G.c.free 3) (de_var (i := 1)))) (dss_one (ds_ret (de_and (de_isi tok_int (G.c.free 18) (G.c.free 3) (de_var (i := 0))) (de_and (de_not (de_isi tok_bool (G.c.free 18) (G.c.free 22) (de_var (i := 0)))) (de_one (de_eq hu (de_var (i := 0)) (de_var (i := 1)))))))) dss_nil)
      (dss_one (ds_ret (de_and (de_isi tok_str (G.c.free 18) (G.c.free 47) (de_var (i := 0))) (de_one (de_eq hu (de_var (i := 0)) (de_var (i := 1)))))))))))
/-! #### common_of -/
def N_common_of : List Str := ["text", "other", "row", "sign", "ahead", "place", "one", "above"]
theorem sc_common_of : FnScope N_common_of ["text", "other"] D_common_of.scope := ⟨rfl, rfl, rfl, by decide +kernel, rfl, by decide +kernel, by decide +kernel⟩
theorem d_common_of {P : Program} {w : World} {K : PySem.W.Frag} {mg : Str → Option Value} {base : Heap} (G : Row w K mg base) : DFn P w K mg base 1 ("common_of", none) 2 F_common_of :=
  DFn.gc 0 (dfn_of (d := D_common_of) (N := N_common_of) (G.c.s.def_ 49) sc_common_of rfl rfl (fun _ _ _ _ _ _ us hl => match us, hl with | [_, _], _ => rfl) fun cdv A outer s H E hcd hr => by
    have hN := sc_common_of.nd
    have hu := hr.units
    have hu1 := L2.hu_of hr
    have hu65 := hu65_of hr
    have tk : Takes (cxOf (L2.CX P w) P w K mg base N_common_of D_common_of.qual D_common_of.scope (He.fAd K D_common_of.at_) cdv A outer s H E) (WD E) := takes_of rfl rfl rfl rfl
    exact (dss_cons (ds_set (i := 2) hN (de_mul (de_gc (de_lst (da_cons de_int da_nil))) (de_add (de_callB call_len len_ok (G.c.free 2) (da_cons (de_var (i := 1)) da_nil)) de_int)))
      (dss_cons (ds_for (passes_of rfl) rfl (di_any (de_var (i := 0))) (dg_name (i := 3) hN) (dss_cons (ds_set (i := 4) hN de_int)
      (dss_one (ds_for (passes_of rfl) rfl (di_enum (G.c.free 21) (da_cons (de_var (i := 1)) da_nil)) (dg_tup rfl (dgs_cons (dg_name (i := 5) hN) (dgs_cons (dg_name (i := 6) hN) dgs_nil))) (dss_cons (ds_set (i := 7) hN (de_sub_ix hu1 (de_var (i := 2)) (de_add (de_var (i := 5)) de_int)))
      (dss_cons (ds_asg (de_if (dt_eq hu (de_var (i := 6)) (de_var (i := 3))) (de_add (de_var (i := 4)) de_int) (de_callB (call_max2 rfl) max2_ok (G.c.free 36) (da_cons (de_var (i := 7)) (da_cons (de_sub_ix hu1 (de_var (i := 2)) (de_var (i := 5))) da_nil)))) (dg_sub (de_var (i := 2)) (de_add (de_var (i := 5)) de_int)))
      (dss_one (ds_set (i := 4) hN (de_var (i := 7))))))))))
      (dss_one (ds_ret (de_sub_ix hu1 (de_var (i := 2)) (de_neg de_int)))))))
/-! #### Book.common -/
def N_Book_common : List Str := ["self", "name", "other", "one"]
theorem sc_Book_common : FnScope N_Book_common ["self", "name", "other"] D_Book_common.scope := ⟨rfl, rfl, rfl, by decide +kernel, rfl, by decide +kernel, by decide +kernel⟩
theorem d_Book_common {P : Program} {w : World} {K : PySem.W.Frag} {mg : Str → Option Value} {base : Heap} (G : Row w K mg base) : DFn P w K mg base 3 ("Book", some "common") 3 F_Book_common :=
  DFn.gc 0 (dfn_of (d := D_Book_common) (N := N_Book_common) (G.c.s.def_ 50) sc_Book_common rfl rfl (fun _ _ _ _ _ _ us hl => match us, hl with | [_, _, _], _ => rfl) fun cdv A outer s H E hcd hr => by
    have hN := sc_Book_common.nd
    have hu := hr.units
    have hu1 := L2.hu_of hr
    have hu65 := hu65_of hr
    have tk : Takes (cxOf (L2.CX P w) P w K mg base N_Book_common D_Book_common.qual D_Book_common.scope (He.fAd K D_Book_common.at_) cdv A outer s H E) (WD E) := takes_of rfl rfl rfl rfl
    exact (dss_cons (ds_set (i := 3) hN (de_mf (d_Book_text G) (hr.mono (by omega)) (G.c.glo 5) (G.c.cls 6) (G.c.meth 61) tk (de_var (i := 0)) (da_cons (de_var (i := 1)) da_nil)))
      (dss_one (ds_ret (de_cf (d_common_of G) (hr.mono (by omega)) (G.c.glo 80) tk (da_cons (de_var (i := 3)) (da_cons (de_mf (d_Book_text G) (hr.mono (by omega)) (G.c.glo 5) (G.c.cls 6) (G.c.meth 61) tk (de_var (i := 0)) (da_cons (de_var (i := 2)) da_nil)) da_nil)))))))
/-! #### Book.distance -/
def N_Book_distance : List Str := ["self", "name", "other", "one", "there"]
theorem sc_Book_distance : FnScope N_Book_distance ["self", "name", "other"] D_Book_distance.scope := ⟨rfl, rfl, rfl, by decide +kernel, rfl, by decide +kernel, by decide +kernel⟩
theorem d_Book_distance {P : Program} {w : World} {K : PySem.W.Frag} {mg : Str → Option Value} {base : Heap} (G : Row w K mg base) : DFn P w K mg base 3 ("Book", some "distance") 3 F_Book_distance :=
  DFn.gc 0 (dfn_of (d := D_Book_distance) (N := N_Book_distance) (G.c.s.def_ 51) sc_Book_distance rfl rfl (fun _ _ _ _ _ _ us hl => match us, hl with | [_, _, _], _ => rfl) fun cdv A outer s H E hcd hr => by
    have hN := sc_Book_distance.nd
    have hu := hr.units
    have hu1 := L2.hu_of hr
    have hu65 := hu65_of hr
    have tk : Takes (cxOf (L2.CX P w) P w K mg base N_Book_distance D_Book_distance.qual D_Book_distance.scope (He.fAd K D_Book_distance.at_) cdv A outer s H E) (WD E) := takes_of rfl rfl rfl rfl
    exact (dss_cons (ds_set (i := 3) hN (de_mf (d_Book_text G) (hr.mono (by omega)) (G.c.glo 5) (G.c.cls 6) (G.c.meth 61) tk (de_var (i := 0)) (da_cons (de_var (i := 1)) da_nil)))
      (dss_cons (ds_set (i := 4) hN (de_mf (d_Book_text G) (hr.mono (by omega)) (G.c.glo 5) (G.c.cls 6) (G.c.meth 61) tk (de_var (i := 0)) (da_cons (de_var (i := 2)) da_nil)))
      (dss_one (ds_ret (de_sub (de_add (de_callB call_len len_ok (G.c.free 2) (da_cons (de_var (i := 3)) da_nil)) (de_callB call_len len_ok (G.c.free 2) (da_cons (de_var (i := 4)) da_nil))) (de_mul de_int (de_cf (d_common_of G) (hr.mono (by omega)) (G.c.glo 80) tk (da_cons (de_var (i := 3)) (da_cons (de_var (i := 4)) da_nil))))))))))
/-! #### Book.holders -/
def N_Book_holders : List Str := ["self", "mark", "signs", ".0", "name", "text"]
theorem sc_Book_holders : FnScope N_Book_holders ["self", "mark"] D_Book_holders.scope := ⟨rfl, rfl, rfl, by decide +kernel, rfl, by decide +kernel, by decide +kernel⟩
theorem d_Book_holders {P : Program} {w : World} {K : PySem.W.Frag} {mg : Str → Option Value} {base : Heap} (G : Row w K mg base) : DFn P w K mg base 4 ("Book", some "holders") 2 F_Book_holders :=
  DFn.gc 0 (dfn_of (d := D_Book_holders) (N := N_Book_holders) (G.c.s.def_ 52) sc_Book_holders rfl rfl (fun _ _ _ _ _ _ us hl => match us, hl with | [_, _], _ => rfl) fun cdv A outer s H E hcd hr => by
    have hN := sc_Book_holders.nd
    have hu := hr.units
    have hu1 := L2.hu_of hr
    have hu65 := hu65_of hr
    have tk : Takes (cxOf (L2.CX P w) P w K mg base N_Book_holders D_Book_holders.qual D_Book_holders.scope (He.fAd K D_Book_holders.at_) cdv A outer s H E) (WD E) := takes_of rfl rfl rfl rfl
    exact (dss_cons (ds_set (i := 2) hN (de_mf (d_Book_marked G) (hr.mono (by omega)) (G.c.glo 5) (G.c.cls 6) (G.c.meth 64) tk (de_var (i := 0)) (da_cons (de_var (i := 1)) da_nil)))
      (dss_one (ds_ret (de_callTy call_tuple_of tuple_ok (G.c.free 11) (da_cons (de_gc (de_lc (own := [(".0", 3), ("name", 4), ("text", 5)]) rfl hN (di_any (de_mf0 (d_Book_texts G) (hr.mono (by omega)) (G.c.glo 5) (G.c.cls 6) (G.c.meth 60) tk (de_var (i := 0)))) (by exact blkOk_by (N := N_Book_holders) (sc := D_Book_holders.scope) (own := [(".0", 3), ("name", 4), ("text", 5)]) (by decide +kernel)) (ltg_tup (n := 2) (is := [4, 5]) (by decide)) (fun _ _ _ _ _ => (pg_tup rfl (pgs_cons (pg_name (i := 4) hN rfl (by first | exact Or.inl rfl | exact Or.inr rfl) (by first | exact .inl rfl | exact .inr rfl)) (pgs_cons (pg_name (i := 5) hN rfl (by first | exact Or.inl rfl | exact Or.inr rfl) (by first | exact .inl rfl | exact .inr rfl)) pgs_nil rfl) rfl) rfl rfl).or (pg_unl rfl (pgs_cons (pg_name (i := 4) hN rfl (by first | exact Or.inl rfl | exact Or.inr rfl) (by first | exact .inl rfl | exact .inr rfl)) (pgs_cons (pg_name (i := 5) hN rfl (by first | exact Or.inl rfl | exact Or.inr rfl) (by first | exact .inl rfl | exact .inr rfl)) pgs_nil rfl) rfl) rfl rfl)) (fun _ _ _ _ _ => (dts_one (dt_eq hu (de_cf (d_common_of G) (hr.mono (by omega)) (G.c.glo 80) L2.takes0 (da_cons (de_var (i := 5)) (da_cons (de_var (i := 2)) da_nil))) (de_callB call_len len_ok (G.c.free 2) (da_cons (de_var (i := 2)) da_nil))))) (fun _ _ _ _ _ => (de_var (i := 4))))) da_nil))))))
/-! #### _law_others_right -/
def N__law_others_right : List Str := ["book", "signs", "here", "many", "flipped", "number", "end"]
theorem sc__law_others_right : FnScope N__law_others_right ["book"] D__law_others_right.scope := ⟨rfl, rfl, rfl, by decide +kernel, rfl, by decide +kernel, by decide +kernel⟩
theorem d__law_others_right {P : Program} {w : World} {K : PySem.W.Frag} {mg : Str → Option Value} {base : Heap} (G : Row w K mg base) : DFn P w K mg base 9 ("_law_others_right", none) 1 F__law_others_right :=
  DFn.gc 0 (dfn_of (d := D__law_others_right) (N := N__law_others_right) (G.c.s.def_ 53) sc__law_others_right rfl rfl (fun _ _ _ _ _ _ us hl => match us, hl with | [_], _ => rfl) fun cdv A outer s H E hcd hr => by
    have hN := sc__law_others_right.nd
    have hu := hr.units
    have hu1 := L2.hu_of hr
    have hu65 := hu65_of hr
    have tk : Takes (cxOf (L2.CX P w) P w K mg base N__law_others_right D__law_others_right.qual D__law_others_right.scope (He.fAd K D__law_others_right.at_) cdv A outer s H E) (WD E) := takes_of rfl rfl rfl rfl
    exact (dss_cons (ds_expr (de_mf (d_Book_change G) (hr.mono (by omega)) (G.c.glo 5) (G.c.cls 6) (G.c.meth 59) tk (de_var (i := 0)) (da_cons (de_tup (da_cons de_str (da_cons (de_tup (da_cons de_str (da_cons de_str (da_cons (de_mf (d_Book_text G) (hr.mono (by omega)) (G.c.glo 5) (G.c.cls 6) (G.c.meth 61) tk (de_var (i := 0)) (da_cons de_str da_nil)) da_nil)))) (da_cons (de_tup (da_cons de_str (da_cons de_str (da_cons de_str da_nil)))) da_nil)))) da_nil)))
      (dss_cons (ds_if (dt_w (dw_or (dt_nis (de_mf (d_Book_is_never_less G) (hr.mono (by omega)) (G.c.glo 5) (G.c.cls 6) (G.c.meth 77) tk (de_var (i := 0)) (da_cons de_str (da_cons de_str (da_cons de_str da_nil)))) de_bl) (dw_or (dt_nis (de_mf (d_Book_is_never_less G) (hr.mono (by omega)) (G.c.glo 5) (G.c.cls 6) (G.c.meth 77) tk (de_var (i := 0)) (da_cons de_str (da_cons de_str (da_cons de_str da_nil)))) de_bl) (dw_or1 (dt_ne hu (de_mf (d_Book_text G) (hr.mono (by omega)) (G.c.glo 5) (G.c.cls 6) (G.c.meth 61) tk (de_var (i := 0)) (da_cons de_str da_nil)) (de_add (de_mf (d_Book_text G) (hr.mono (by omega)) (G.c.glo 5) (G.c.cls 6) (G.c.meth 61) tk (de_var (i := 0)) (da_cons de_str da_nil)) (de_mf (d_Book_text G) (hr.mono (by omega)) (G.c.glo 5) (G.c.cls 6) (G.c.meth 61) tk (de_var (i := 0)) (da_cons de_str da_nil)))))))) (dss_one (ds_ret de_bl)) dss_nil)
      (dss_cons (ds_par (i := 1) (j := 2) rfl hN (da_cons (de_mf (d_Book_marked G) (hr.mono (by omega)) (G.c.glo 5) (G.c.cls 6) (G.c.meth 64) tk (de_var (i := 0)) (da_cons de_str da_nil)) (da_cons (de_mf (d_Book_passage G) (hr.mono (by omega)) (G.c.glo 5) (G.c.cls 6) (G.c.meth 78) tk (de_var (i := 0)) (da_cons de_str (da_cons de_str da_nil))) da_nil)))
      (dss_cons (ds_set (i := 3) hN (de_callB call_len len_ok (G.c.free 2) (da_cons (de_var (i := 1)) da_nil)))
      (dss_cons (ds_set (i := 4) hN (de_mul (de_gc (de_lst (da_cons de_non da_nil))) (de_var (i := 3))))
      (dss_cons (ds_for (passes_of rfl) rfl (di_enum (G.c.free 21) (da_cons (de_var (i := 2)) da_nil)) (dg_tup rfl (dgs_cons (dg_name (i := 5) hN) (dgs_cons (dg_name (i := 6) hN) dgs_nil))) (dss_one (ds_if (dt_nis (de_var (i := 6)) de_non) (dss_one (ds_asg (de_sub (de_sub (de_var (i := 3)) de_int) (de_var (i := 5))) (dg_sub (de_var (i := 4)) (de_sub (de_sub (de_var (i := 3)) de_int) (de_var (i := 6)))))) dss_nil)))
      (dss_cons (ds_expr (de_mf (d_Book_change G) (hr.mono (by omega)) (G.c.glo 5) (G.c.cls 6) (G.c.meth 59) tk (de_var (i := 0)) (da_cons (de_tup (da_cons de_str (da_cons (de_tup (da_cons de_str (da_cons de_str da_nil))) (da_cons (de_tup (da_cons de_str (da_cons de_str da_nil))) da_nil)))) da_nil)))
      (dss_cons (ds_if (dt_w (dw_or (dt_ne hu (de_mf (d_Book_marked G) (hr.mono (by omega)) (G.c.glo 5) (G.c.cls 6) (G.c.meth 64) tk (de_var (i := 0)) (da_cons de_str da_nil)) (de_gc (de_rev (de_var (i := 1))))) (dw_or1 (dt_not (dt_tru (de_cf (d__law_like G 6).pure (hr.mono (by omega)) (G.c.glo 79) tk (da_cons (de_mf (d_Book_passage G) (hr.mono (by omega)) (G.c.glo 5) (G.c.cls 6) (G.c.meth 78) tk (de_var (i := 0)) (da_cons de_str (da_cons de_str da_nil))) (da_cons (de_callTy call_tuple_of tuple_ok (G.c.free 11) (da_cons (de_var (i := 4)) da_nil)) da_nil)))))))) (dss_one (ds_ret de_bl)) dss_nil)
      (dss_cons (ds_expr (de_mf (d_Book_change G) (hr.mono (by omega)) (G.c.glo 5) (G.c.cls 6) (G.c.meth 59) tk (de_var (i := 0)) (da_cons (de_tup (da_cons de_str (da_cons de_str (da_cons de_str da_nil)))) da_nil)))
      (dss_cons (ds_if (dt_not (dt_tru (de_cf (d__law_like G 6).pure (hr.mono (by omega)) (G.c.glo 79) tk (da_cons (de_mf (d_Book_passage G) (hr.mono (by omega)) (G.c.glo 5) (G.c.cls 6) (G.c.meth 78) tk (de_var (i := 0)) (da_cons de_str (da_cons de_str da_nil))) (da_cons (de_mul (de_tup (da_cons de_non da_nil)) (de_var (i := 3))) da_nil))))) (dss_one (ds_ret de_bl)) dss_nil)
      (dss_one (ds_ret (de_and (de_in hu65 de_str (de_mf (d_Book_holders G) (hr.mono (by omega)) (G.c.glo 5) (G.c.cls 6) (G.c.meth 83) tk (de_var (i := 0)) (da_cons de_str da_nil))) (de_and (de_eq hu (de_mf (d_Book_distance G) (hr.mono (by omega)) (G.c.glo 5) (G.c.cls 6) (G.c.meth 82) tk (de_var (i := 0)) (da_cons de_str (da_cons de_str da_nil))) de_int) (de_one (de_eq hu (de_mf (d_Book_common G) (hr.mono (by omega)) (G.c.glo 5) (G.c.cls 6) (G.c.meth 81) tk (de_var (i := 0)) (da_cons de_str (da_cons de_str da_nil))) (de_var (i := 3)))))))))))))))))))
/-! #### _law_commons_by -/
def N__law_commons_by : List Str := ["passage", "many", "found", "first", "row", "last", ".0", "end"]
theorem sc__law_commons_by : FnScope N__law_commons_by ["passage"] D__law_commons_by.scope := ⟨rfl, rfl, rfl, by decide +kernel, rfl, by decide +kernel, by decide +kernel⟩
theorem d__law_commons_by {P : Program} {w : World} {K : PySem.W.Frag} {mg : Str → Option Value} {base : Heap} (G : Row w K mg base) : DFn P w K mg base 1 ("_law_commons_by", none) 1 F__law_commons_by :=
  DFn.gc 0 (dfn_of (d := D__law_commons_by) (N := N__law_commons_by) (G.c.s.def_ 54) sc__law_commons_by rfl rfl (fun _ _ _ _ _ _ us hl => match us, hl with | [_], _ => rfl) fun cdv A outer s H E hcd hr => by
    have hN := sc__law_commons_by.nd
    have hu := hr.units
    have hu1 := L2.hu_of hr
    have hu65 := hu65_of hr
    have tk : Takes (cxOf (L2.CX P w) P w K mg base N__law_commons_by D__law_commons_by.qual D__law_commons_by.scope (He.fAd K D__law_commons_by.at_) cdv A outer s H E) (WD E) := takes_of rfl rfl rfl rfl
    exact (dss_cons (ds_par (i := 1) (j := 2) rfl hN (da_cons (de_callB call_len len_ok (G.c.free 2) (da_cons (de_var (i := 0)) da_nil)) (da_cons (de_lst da_nil) da_nil)))
      (dss_cons (ds_for (passes_of rfl) rfl (di_range1 (G.c.free 1) (da_cons (de_add (de_var (i := 1)) de_int) da_nil)) (dg_name (i := 3) hN) (dss_cons (ds_set (i := 4) hN (de_lst da_nil))
      (dss_cons (ds_for (passes_of rfl) rfl (di_range1 (G.c.free 1) (da_cons (de_add (de_var (i := 1)) de_int) da_nil)) (dg_name (i := 5) hN) (dss_one (ds_expr (de_bm (T := "list") ty_list append_ok PySem.F.plainAttrs_list PySem.F.slot_list_append PySem.F.type_list_append mt_append (de_var (i := 4)) (da_cons (de_sub (de_callB (call_max2 rfl) max2_ok (G.c.free 36) (da_cons de_int (da_cons (de_sub (de_var (i := 5)) (de_var (i := 3))) da_nil))) (de_callB call_len len_ok (G.c.free 2) (da_cons (de_gc (de_lc (own := [(".0", 6), ("end", 7)]) rfl hN (di_any (de_gc (de_sl (de_var (i := 0)) (do_some (de_var (i := 3))) do_none))) (by exact blkOk_by (N := N__law_commons_by) (sc := D__law_commons_by.scope) (own := [(".0", 6), ("end", 7)]) (by decide +kernel)) (ltg_name (i := 7) (by decide)) (fun _ _ _ _ _ => pg_name (i := 7) hN rfl (by first | exact Or.inl rfl | exact Or.inr rfl) (by first | exact .inl rfl | exact .inr rfl)) (fun _ _ _ _ _ => (dts_one (dt_w (dw_and (dt_nis (de_var (i := 7)) de_non) (dw_and1 (dt_lt (de_var (i := 7)) (de_var (i := 5)))))))) (fun _ _ _ _ _ => de_int))) da_nil))) da_nil)))))
      (dss_one (ds_expr (de_bm (T := "list") ty_list append_ok PySem.F.plainAttrs_list PySem.F.slot_list_append PySem.F.type_list_append mt_append (de_var (i := 2)) (da_cons (de_var (i := 4)) da_nil)))))))
      (dss_one (ds_ret (de_var (i := 2)))))))
/-! #### _law_between -/
def N__law_between : List Str := ["low", "high", "most", "first", ".0", "last"]
theorem sc__law_between : FnScope N__law_between ["low", "high", "most"] D__law_between.scope := ⟨rfl, rfl, rfl, by decide +kernel, rfl, by decide +kernel, by decide +kernel⟩
theorem d__law_between {P : Program} {w : World} {K : PySem.W.Frag} {mg : Str → Option Value} {base : Heap} (G : Row w K mg base) : DFn P w K mg base 1 ("_law_between", none) 3 F__law_between :=
  DFn.gc 0 (dfn_of (d := D__law_between) (N := N__law_between) (G.c.s.def_ 55) sc__law_between rfl rfl (fun _ _ _ _ _ _ us hl => match us, hl with | [_, _, _], _ => rfl) fun cdv A outer s H E hcd hr => by
    have hN := sc__law_between.nd
    have hu := hr.units
    have hu1 := L2.hu_of hr
    have hu65 := hu65_of hr
    have tk : Takes (cxOf (L2.CX P w) P w K mg base N__law_between D__law_between.qual D__law_between.scope (He.fAd K D__law_between.at_) cdv A outer s H E) (WD E) := takes_of rfl rfl rfl rfl
    exact (dss_cons (ds_for (passes_of rfl) rfl (di_range1 (G.c.free 1) (da_cons (de_callB call_len len_ok (G.c.free 2) (da_cons (de_var (i := 0)) da_nil)) da_nil)) (dg_name (i := 3) hN) (dss_one (ds_if (dt_ne hu (de_gc (de_lc (own := [(".0", 4), ("last", 5)]) rfl hN (di_range2 (G.c.free 1) (da_cons (de_var (i := 3)) (da_cons (de_callB call_len len_ok (G.c.free 2) (da_cons (de_var (i := 0)) da_nil)) da_nil))) (by exact blkOk_by (N := N__law_between) (sc := D__law_between.scope) (own := [(".0", 4), ("last", 5)]) (by decide +kernel)) (ltg_name (i := 5) (by decide)) (fun _ _ _ _ _ => pg_name (i := 5) hN rfl (by first | exact Or.inl rfl | exact Or.inr rfl) (by first | exact .inl rfl | exact .inr rfl)) (fun _ _ _ _ _ => (dts_one (dt_not (dt_lele de_int (de_sub (de_sub_ix hu1 (de_sub_ix hu1 (de_var (i := 1)) (de_var (i := 3))) (de_var (i := 5))) (de_sub_ix hu1 (de_sub_ix hu1 (de_var (i := 0)) (de_var (i := 3))) (de_var (i := 5)))) (de_var (i := 2)))))) (fun _ _ _ _ _ => de_int))) (de_gc (de_lst da_nil))) (dss_one (ds_ret de_bl)) dss_nil)))
      (dss_one (ds_ret de_bl))))
/-! #### _law_put_right -/
def N__law_put_right : List Str := ["tape", "book", "text", "was", "place", "more", "now", "first", "last", "later", "last_one", "low", ".0", "high"]
theorem sc__law_put_right : FnScope N__law_put_right ["tape", "book"] D__law_put_right.scope := ⟨rfl, rfl, rfl, by decide +kernel, rfl, by decide +kernel, by decide +kernel⟩
theorem d__law_put_right {P : Program} {w : World} {K : PySem.W.Frag} {mg : Str → Option Value} {base : Heap} (G : Row w K mg base) : DFn P w K mg base 9 ("_law_put_right", none) 2 F__law_put_right :=
  DFn.gc 0 (dfn_of (d := D__law_put_right) (N := N__law_put_right) (G.c.s.def_ 56) sc__law_put_right rfl rfl (fun _ _ _ _ _ _ us hl => match us, hl with | [_, _], _ => rfl) fun cdv A outer s H E hcd hr => by
    have hN := sc__law_put_right.nd
    have hu := hr.units
    have hu1 := L2.hu_of hr
    have hu65 := hu65_of hr
    have tk : Takes (cxOf (L2.CX P w) P w K mg base N__law_put_right D__law_put_right.qual D__law_put_right.scope (He.fAd K D__law_put_right.at_) cdv A outer s H E) (WD E) := takes_of rfl rfl rfl rfl
    exact (dss_cons (ds_set (i := 2) hN (de_mf (d_Book_text G) (hr.mono (by omega)) (G.c.glo 5) (G.c.cls 6) (G.c.meth 61) tk (de_var (i := 1)) (da_cons de_str da_nil)))
      (dss_cons (ds_par3 (i := 3) (j := 4) (l := 5) rfl hN (da_cons (de_cf (d__law_commons_by G) (hr.mono (by omega)) (G.c.glo 85) tk (da_cons (de_mf (d_Book_passage G) (hr.mono (by omega)) (G.c.glo 5) (G.c.cls 6) (G.c.meth 78) tk (de_var (i := 1)) (da_cons de_str (da_cons de_str da_nil))) da_nil)) (da_cons (de_cf (d__law_take G) (hr.mono (by omega)) (G.c.glo 12) tk (da_cons (de_var (i := 0)) (da_cons (de_add (de_callB call_len len_ok (G.c.free 2) (da_cons (de_var (i := 2)) da_nil)) de_int) da_nil))) (da_cons (de_cf (d__law_drawn_text G) (hr.mono (by omega)) (G.c.glo 13) tk (da_cons (de_var (i := 0)) (da_cons de_int (da_cons de_int da_nil)))) da_nil))))
      (dss_cons (ds_expr (de_mf (d_Book_change G) (hr.mono (by omega)) (G.c.glo 5) (G.c.cls 6) (G.c.meth 59) tk (de_var (i := 1)) (da_cons (de_tup (da_cons de_str (da_cons de_str (da_cons (de_var (i := 4)) (da_cons (de_var (i := 5)) da_nil))))) da_nil)))
      (dss_cons (ds_set (i := 6) hN (de_cf (d__law_commons_by G) (hr.mono (by omega)) (G.c.glo 85) tk (da_cons (de_mf (d_Book_passage G) (hr.mono (by omega)) (G.c.glo 5) (G.c.cls 6) (G.c.meth 78) tk (de_var (i := 1)) (da_cons de_str (da_cons de_str da_nil))) da_nil)))
      (dss_cons (ds_if (dt_not (dt_tru (de_cf (d__law_between G) (hr.mono (by omega)) (G.c.glo 86) tk (da_cons (de_var (i := 3)) (da_cons (de_var (i := 6)) (da_cons (de_callB call_len len_ok (G.c.free 2) (da_cons (de_var (i := 5)) da_nil)) da_nil)))))) (dss_one (ds_ret de_bl)) dss_nil)
      (dss_cons (ds_expr (de_mf (d_Book_change G) (hr.mono (by omega)) (G.c.glo 5) (G.c.cls 6) (G.c.meth 59) tk (de_var (i := 1)) (da_cons (de_tup (da_cons de_str (da_cons de_str (da_cons de_str da_nil)))) da_nil)))
      (dss_cons (ds_expr (de_mf (d_Book_change G) (hr.mono (by omega)) (G.c.glo 5) (G.c.cls 6) (G.c.meth 59) tk (de_var (i := 1)) (da_cons (de_tup (da_cons de_str (da_cons de_str (da_cons (de_var (i := 2)) da_nil)))) da_nil)))
      (dss_cons (ds_if (dt_w (dw_or (dt_nis (de_mf (d_Book_is_never_less G) (hr.mono (by omega)) (G.c.glo 5) (G.c.cls 6) (G.c.meth 77) tk (de_var (i := 1)) (da_cons de_str (da_cons de_str (da_cons de_str da_nil)))) de_bl) (dw_or1 (dt_not (dt_lele de_int (de_sub (de_mf (d_Book_common G) (hr.mono (by omega)) (G.c.glo 5) (G.c.cls 6) (G.c.meth 81) tk (de_var (i := 1)) (da_cons de_str (da_cons de_str da_nil))) (de_mf (d_Book_common G) (hr.mono (by omega)) (G.c.glo 5) (G.c.cls 6) (G.c.meth 81) tk (de_var (i := 1)) (da_cons de_str (da_cons de_str da_nil)))) (de_callB call_len len_ok (G.c.free 2) (da_cons (de_var (i := 5)) da_nil))))))) (dss_one (ds_ret de_bl)) dss_nil)
      (dss_cons (ds_set (i := 2) hN (de_mf (d_Book_text G) (hr.mono (by omega)) (G.c.glo 5) (G.c.cls 6) (G.c.meth 61) tk (de_var (i := 1)) (da_cons de_str da_nil)))
      (dss_cons (ds_set (i := 7) hN (de_cf (d__law_take G) (hr.mono (by omega)) (G.c.glo 12) tk (da_cons (de_var (i := 0)) (da_cons (de_add (de_callB call_len len_ok (G.c.free 2) (da_cons (de_var (i := 2)) da_nil)) de_int) da_nil))))
      (dss_cons (ds_set (i := 8) hN (de_callB (call_min2 rfl) min2_ok (G.c.free 35) (da_cons (de_callB call_len len_ok (G.c.free 2) (da_cons (de_var (i := 2)) da_nil)) (da_cons (de_add (de_var (i := 7)) (de_cf (d__law_take G) (hr.mono (by omega)) (G.c.glo 12) tk (da_cons (de_var (i := 0)) (da_cons de_int da_nil)))) da_nil))))
      (dss_cons (ds_expr (de_mf (d_Book_change G) (hr.mono (by omega)) (G.c.glo 5) (G.c.cls 6) (G.c.meth 59) tk (de_var (i := 1)) (da_cons (de_tup (da_cons de_str (da_cons de_str (da_cons (de_var (i := 7)) (da_cons (de_var (i := 8)) da_nil))))) da_nil)))
      (dss_cons (ds_set (i := 9) hN (de_cf (d__law_commons_by G) (hr.mono (by omega)) (G.c.glo 85) tk (da_cons (de_mf (d_Book_passage G) (hr.mono (by omega)) (G.c.glo 5) (G.c.cls 6) (G.c.meth 78) tk (de_var (i := 1)) (da_cons de_str (da_cons de_str da_nil))) da_nil)))
      (dss_cons (ds_if (dt_not (dt_tru (de_cf (d__law_between G) (hr.mono (by omega)) (G.c.glo 86) tk (da_cons (de_var (i := 9)) (da_cons (de_var (i := 6)) (da_cons (de_sub (de_var (i := 8)) (de_var (i := 7))) da_nil)))))) (dss_one (ds_ret de_bl)) dss_nil)
      (dss_cons (ds_set (i := 2) hN (de_mf (d_Book_text G) (hr.mono (by omega)) (G.c.glo 5) (G.c.cls 6) (G.c.meth 61) tk (de_var (i := 1)) (da_cons de_str da_nil)))
      (dss_cons (ds_if (dt_ne hu (de_var (i := 2)) (de_tup da_nil)) (dss_cons (ds_expr (de_mf (d_Book_change G) (hr.mono (by omega)) (G.c.glo 5) (G.c.cls 6) (G.c.meth 59) tk (de_var (i := 1)) (da_cons (de_tup (da_cons de_str (da_cons de_str (da_cons (de_cf (d__law_take G) (hr.mono (by omega)) (G.c.glo 12) tk (da_cons (de_var (i := 0)) (da_cons (de_callB call_len len_ok (G.c.free 2) (da_cons (de_var (i := 2)) da_nil)) da_nil))) (da_cons (de_cf (d__law_take G) (hr.mono (by omega)) (G.c.glo 12) tk (da_cons (de_var (i := 0)) (da_cons de_int da_nil))) da_nil))))) da_nil)))
      (dss_cons (ds_set (i := 10) hN (de_cf (d__law_commons_by G) (hr.mono (by omega)) (G.c.glo 85) tk (da_cons (de_mf (d_Book_passage G) (hr.mono (by omega)) (G.c.glo 5) (G.c.cls 6) (G.c.meth 78) tk (de_var (i := 1)) (da_cons de_str (da_cons de_str da_nil))) da_nil)))
      (dss_one (ds_for (passes_of rfl) rfl (di_range1 (G.c.free 1) (da_cons (de_callB call_len len_ok (G.c.free 2) (da_cons (de_var (i := 9)) da_nil)) da_nil)) (dg_name (i := 11) hN) (dss_one (ds_if (dt_ne hu (de_gc (de_lc (own := [(".0", 12), ("high", 13)]) rfl hN (di_range2 (G.c.free 1) (da_cons (de_var (i := 11)) (da_cons (de_callB call_len len_ok (G.c.free 2) (da_cons (de_var (i := 9)) da_nil)) da_nil))) (by exact blkOk_by (N := N__law_put_right) (sc := D__law_put_right.scope) (own := [(".0", 12), ("high", 13)]) (by decide +kernel)) (ltg_name (i := 13) (by decide)) (fun _ _ _ _ _ => pg_name (i := 13) hN rfl (by first | exact Or.inl rfl | exact Or.inr rfl) (by first | exact .inl rfl | exact .inr rfl)) (fun _ _ _ _ _ => (dts_one (dt_gt (de_callB call_abs abs_ok (G.c.free 0) (da_cons (de_sub (de_sub_ix hu1 (de_sub_ix hu1 (de_var (i := 9)) (de_var (i := 11))) (de_var (i := 13))) (de_sub_ix hu1 (de_sub_ix hu1 (de_var (i := 10)) (de_var (i := 11))) (de_var (i := 13)))) da_nil)) de_int))) (fun _ _ _ _ _ => de_int))) (de_gc (de_lst da_nil))) (dss_one (ds_ret de_bl)) dss_nil)))))) dss_nil)
      (dss_one (ds_ret de_bl)))))))))))))))))))
/-! #### law -/
def N_law : List Str := ["script", "tape", "turn", "book", "across", "first"]
theorem sc_law : FnScope N_law ["script"] D_law.scope := ⟨rfl, rfl, rfl, by decide +kernel, rfl, by decide +kernel, by decide +kernel⟩
theorem f_law {P : Program} {w : World} {K : PySem.W.Frag} {mg : Str → Option Value} {base : Heap} (G : Row w K mg base) {fd : FuncData} (F : FunD K D_law.name D_law.qual D_law.params D_law.body D_law.scope (D_law.dvs K) (D_law.kws K) (He.fAd K D_law.at_) fd) : FnOk P w K mg base (L2.CX P w) 10 (He.fAd K D_law.at_) fd ["script"] (spF ⟨K, mg⟩ 1 F_law) :=
  fn_bodyD (d := D_law) (N := N_law) F sc_law fun cdv A outer s H E hcd hr => by
    have hN := sc_law.nd
    have hu := hr.units
    have hu1 := L2.hu_of hr
    have hu65 := hu65_of hr
    have tk : Takes (cxOf (L2.CX P w) P w K mg base N_law D_law.qual D_law.scope (He.fAd K D_law.at_) cdv A outer s H E) (WD E) := takes_of rfl rfl rfl rfl
    exact (dss_cons (ds_set (i := 1) hN (de_cf (d__law_tape G) (hr.mono (by omega)) (G.c.glo 4) tk (da_cons (de_var (i := 0)) (da_cons de_int (da_cons de_int da_nil)))))
      (dss_cons (ds_for (passes_of rfl) rfl (di_range1 (G.c.free 1) (da_cons de_int da_nil)) (dg_name (i := 2) hN) (dss_cons (ds_par (i := 3) (j := 4) rfl hN (da_cons (de_mk0 (d_Book___init__ G) (hr.mono (by omega)) (G.c.glo 5) (G.c.mkr 10) tk) (da_cons (de_cf (d__law_drawn_text G) (hr.mono (by omega)) (G.c.glo 13) tk (da_cons (de_var (i := 1)) (da_cons de_int (da_cons de_int da_nil)))) da_nil)))
      (dss_cons (ds_expr (de_mf (d_Book_change G) (hr.mono (by omega)) (G.c.glo 5) (G.c.cls 6) (G.c.meth 59) tk (de_var (i := 3)) (da_cons (de_tup (da_cons de_str (da_cons (de_tup (da_cons de_str (da_cons de_str (da_cons (de_cf (d__law_drawn_text G) (hr.mono (by omega)) (G.c.glo 13) tk (da_cons (de_var (i := 1)) (da_cons de_int (da_cons de_int da_nil)))) da_nil)))) (da_cons (de_tup (da_cons de_str (da_cons de_str (da_cons (de_var (i := 4)) da_nil)))) da_nil)))) da_nil)))
      (dss_cons (ds_set (i := 5) hN (de_cf (d__law_take G) (hr.mono (by omega)) (G.c.glo 12) tk (da_cons (de_var (i := 1)) (da_cons (de_add (de_callB call_len len_ok (G.c.free 2) (da_cons (de_var (i := 4)) da_nil)) de_int) da_nil))))
      (dss_cons (ds_expr (de_mf (d_Book_change G) (hr.mono (by omega)) (G.c.glo 5) (G.c.cls 6) (G.c.meth 59) tk (de_var (i := 3)) (da_cons (de_tup (da_cons de_str (da_cons de_str (da_cons de_str (da_cons (de_var (i := 5)) (da_cons (de_add (de_var (i := 5)) (de_cf (d__law_take G) (hr.mono (by omega)) (G.c.glo 12) tk (da_cons (de_var (i := 1)) (da_cons (de_sub (de_add (de_callB call_len len_ok (G.c.free 2) (da_cons (de_var (i := 4)) da_nil)) de_int) (de_var (i := 5))) da_nil)))) da_nil)))))) da_nil)))
      (dss_one (ds_if (dt_w (dw_or (dt_not (dt_tru (de_cf (d__law_put_right G) (hr.mono (by omega)) (G.c.glo 87) tk (da_cons (de_var (i := 1)) (da_cons (de_var (i := 3)) da_nil))))) (dw_or1 (dt_not (dt_tru (de_cf (d__law_others_right G) (hr.mono (by omega)) (G.c.glo 84) tk (da_cons (de_var (i := 3)) da_nil))))))) (dss_one (ds_ret de_bl)) dss_nil)))))))
      (dss_one (ds_ret de_bl))))
end LW

-- P81a
set_option Elab.async false
set_option linter.all false
set_option maxRecDepth 100000
set_option maxHeartbeats 1000000
namespace LW
open PySem DL
/-! ### small ones -/
theorem is_number_eq (i : Int) (μ : Store) : pureF F_is_number [.int i] μ = .ok (.bl true, μ) := by
  refine pure_eq rfl rfl ?_ μ
  unfold F_is_number b_is_number
  simp
theorem is_among_eq (i a b : Int) (μ : Store) : pureF F_is_among [.int i, .int a, .int b] μ = .ok (.bl (decide (a ≤ i) && decide (i ≤ b)), μ) := by
  refine pure_eq rfl rfl ?_ μ
  unfold F_is_among b_is_among
  simp [is_number_eq]
  unfold br; omega
theorem is_sign_eq (i : Int) (μ : Store) : pureF F_is_sign [.int i] μ = .ok (.bl (decide (0 ≤ i) && decide (i ≤ 999)), μ) := by
  refine pure_eq rfl rfl ?_ μ
  unfold F_is_sign b_is_sign
  simp [is_among_eq]
theorem is_tuple_of_eq (ds : List D) (a b : Int) (hp : noPtr.noPtrs ds = true) (μ : Store) : pureF F_is_tuple_of [.tup ds, .int a, .int b] μ = .ok (.bl (decide (a ≤ ds.length) && decide ((ds.length : Int) ≤ b)), μ) := by
  refine pure_eq (by simp [noPtr.noPtrs, noPtr, hp]) rfl ?_ μ
  unfold F_is_tuple_of b_is_tuple_of
  simp
  unfold br; omega
/-! ### texts of signs -/
abbrev encI (l : List Int) : D := .tup (l.map .int)
theorem np_ints (l : List Int) : noPtr.noPtrs (l.map D.int) = true := by
  induction l with
  | nil => rfl
  | cons i l ih => simp [noPtr.noPtrs, noPtr, ih]
/-- signs that stand -/
def okT (l : List Int) : Prop := (∀ i ∈ l, 0 ≤ i ∧ i ≤ 999) ∧ l.length ≤ 400
theorem enum_ints (l : List Int) (k : Nat) : enumFrom k (l.map D.int) = (l.mapIdx fun j i => D.tup [.int ((k + j : Nat) : Int), .int i]) := by
  induction l generalizing k with
  | nil => rfl
  | cons i l ih =>
    simp only [List.map_cons, enumFrom, ih, List.mapIdx_cons, Nat.add_zero]
    congr 1
    apply List.ext_getElem?
    intro n
    simp [Nat.add_assoc, Nat.add_comm, Nat.add_left_comm]
theorem need_text_eq (l : List Int) (h : okT l) (μ : Store) : pureF F_need_text [encI l] μ = .ok (encI l, μ) := by
  refine pure_eq (by simp [noPtr.noPtrs, noPtr, np_ints]) (by simp [noPtr, np_ints]) ?_ μ
  unfold F_need_text b_need_text
  simp [is_tuple_of_eq, np_ints]
  refine ⟨by exact_mod_cast h.2, ?_⟩
  refine wp_for (fun r ρ μ => (∃ (k : Nat) (m : List Int), r = enumFrom k (m.map D.int) ∧ ∀ i ∈ m, i ∈ l) ∧ ∃ a b, ρ = [some (encI l), a, b]) ?_ ?_ ?_
  · simp
    exact ⟨0, l, rfl, fun i h => h⟩
  · rintro d r ρ μ ⟨⟨k, m, hk, hm⟩, a, b, rfl⟩
    cases m with
    | nil => cases hk
    | cons i m =>
      simp only [List.map_cons, enumFrom] at hk
      injection hk with h1 h2
      subst h1 h2
      have hi := h.1 i (hm i (by simp))
      simp [is_sign_eq]
      exact ⟨hi, k + 1, m, rfl, fun j h => hm j (by simp [h])⟩
  · rintro ρ μ ⟨_, a, b, rfl⟩
    simp
/-! ### rows: names and what they name -/
abbrev Rows := List (Str × D)
def encR (rows : Rows) : List D := rows.map fun p => .tup [.str p.1, p.2]
@[simp] theorem encR_nil : encR [] = [] := rfl
@[simp] theorem encR_cons (p : Str × D) (r : Rows) : encR (p :: r) = .tup [.str p.1, p.2] :: encR r := rfl
theorem encR_app (r q : Rows) : encR (r ++ q) = encR r ++ encR q := by simp [encR]
@[simp] theorem encR_len (r : Rows) : (encR r).length = r.length := by simp [encR]
theorem encR_take (r : Rows) (n : Nat) : (encR r).take n = encR (r.take n) := by simp [encR, List.map_take]
theorem encR_drop (r : Rows) (n : Nat) : (encR r).drop n = encR (r.drop n) := by simp [encR, List.map_drop]
theorem encR_get (r : Rows) (n : Nat) : (encR r)[n]? = (r[n]?).map fun p => .tup [.str p.1, p.2] := by simp [encR]
def npR (rows : Rows) : Prop := ∀ p ∈ rows, noPtr p.2 = true
theorem np_rows {rows : Rows} (h : npR rows) : noPtr.noPtrs (encR rows) = true := by
  induction rows with
  | nil => rfl
  | cons p r ih => simp [noPtr.noPtrs, noPtr, h p (by simp), ih fun q hq => h q (by simp [hq])]
theorem np_all (ds : List D) : noPtr.noPtrs ds = ds.all noPtr := by
  induction ds with
  | nil => rfl
  | cons d ds ih => simp [noPtr.noPtrs, ih]
theorem spot_eq {rows : Rows} {x : Str} (hp : npR rows) {pre post : Rows} {d : D} (h : rows = pre ++ (x, d) :: post) (hn : ∀ p ∈ pre, p.1 ≠ x) (μ : Store) : pureF F_spot_of [.tup (encR rows), .str x] μ = .ok (.int pre.length, μ) := by
  refine pure_eq (by simp [noPtr.noPtrs, noPtr, np_rows hp]) rfl ?_ μ
  unfold F_spot_of b_spot_of
  simp
  refine wp_for (fun r ρ μ => (∃ (k : Nat) (m : Rows), k + m.length = pre.length ∧ r = enumFrom k (encR (m ++ (x, d) :: post)) ∧ ∀ p ∈ m, p.1 ≠ x) ∧ ∃ a b, ρ = [some (.tup (encR rows)), some (.str x), a, b]) ?_ ?_ ?_
  · simp
    exact ⟨0, pre, by simp, by rw [h], fun a b q => hn _ q⟩
  · rintro e r ρ μ ⟨⟨k, m, hl, hk, hm⟩, a, b, rfl⟩
    cases m with
    | nil =>
      simp only [List.nil_append, encR_cons, enumFrom] at hk
      injection hk with h1 h2
      subst h1 h2
      simp
      simp at hl
      omega
    | cons q m =>
      simp only [List.cons_append, encR_cons, enumFrom] at hk
      injection hk with h1 h2
      subst h1 h2
      have hq : q.1 ≠ x := hm q (by simp)
      simp [hq]
      exact ⟨k + 1, m, by simp at hl; omega, rfl, fun a b q => hm (a, b) (by simp [q])⟩
  · rintro ρ μ ⟨⟨k, m, hl, hk, hm⟩, a, b, rfl⟩
    cases m <;> simp [enumFrom] at hk
theorem names_eq (rows : Rows) : (encR rows).filterMap (fun d => match d with | .tup (n :: _) => some n | _ => none) = (rows.map (·.1)).map D.str := by
  induction rows with
  | nil => rfl
  | cons p r ih => simp [ih]
theorem np_app (a b : List D) : noPtr.noPtrs (a ++ b) = (noPtr.noPtrs a && noPtr.noPtrs b) := by simp [np_all]
theorem encR_mem {rows : Rows} {d : D} (h : d ∈ encR rows) : ∃ p ∈ rows, d = .tup [.str p.1, p.2] := by
  unfold encR at h
  obtain ⟨p, hp, rfl⟩ := List.mem_map.mp h
  exact ⟨p, hp, rfl⟩
theorem npR_mid {pre post : Rows} {x : Str} {d t : D} (h : npR (pre ++ (x, d) :: post)) (ht : noPtr t = true) : npR (pre ++ (x, t) :: post) := fun p hp => by
  rcases List.mem_append.mp hp with q | q
  · exact h p (by simp [q])
  · rcases List.mem_cons.mp q with rfl | q
    · exact ht
    · exact h p (by simp [q])
theorem lstAt0 (ds : List D) (r : Store) : lstAt (MO.lst ds :: r) 0 = some ds := rfl
theorem enc_item {rows : Rows} {d : D} (h : d ∈ encR rows) (μ' : Store) : ixD d (.int 0) μ' = some (match d with | .tup (n :: _) => n | _ => .non, μ') ∧ ∃ n r, d = .tup (n :: r) := by
  obtain ⟨p, _, rfl⟩ := encR_mem h
  exact ⟨by simp, _, _, rfl⟩
theorem with_old {rows : Rows} {x : Str} {t : D} {most : Int} (hp : npR rows) (ht : noPtr t = true) {pre post : Rows} {d : D} (h : rows = pre ++ (x, d) :: post) (hn : x ∉ pre.map (·.1)) (hl : rows.length < 1000) (μ : Store) :
    pureF F_with_named [.tup (encR rows), .str x, t, .int most] μ = .ok (.tup (encR (pre ++ (x, t) :: post)), μ) := by
  refine pure_eq (by simp [noPtr.noPtrs, noPtr, np_rows hp, ht]) (by simp only [noPtr]; exact np_rows (npR_mid (h ▸ hp) ht)) ?_ μ
  unfold F_with_named b_with_named
  simp
  refine wm_lcP (fun d => match d with | .tup (n :: _) => some n | _ => none) ?_
  simp
  refine ⟨by omega, ?_, ?_⟩
  · intro d hd μ'
    obtain ⟨e, n, r, rfl⟩ := enc_item hd μ'
    rw [e]
    simp
  · rw [names_eq]
    have e1 : rows.map (·.1) = pre.map (·.1) ++ x :: post.map (·.1) := by rw [h]; simp
    have e2 : x ∈ rows.map (·.1) := by rw [e1]; simp
    have q1 : inD (.str x) (.ptr 0) [.lst ((rows.map (·.1)).map D.str)] = some (.bl true, [.lst ((rows.map (·.1)).map D.str)]) := by rw [inD_strs (lstAt0 _ _), decide_eq_true e2]
    have q2 : indexD (.ptr 0) [.str x] [.lst ((rows.map (·.1)).map D.str)] = some (.int pre.length, [.lst ((rows.map (·.1)).map D.str)]) := by
      rw [e1, indexD_strs (lstAt0 _ _) hn]
      simp
    generalize (rows.map (·.1)).map D.str = L at q1 q2 ⊢
    have e3 : (pre.length : Int) + 1 = ((pre.length + 1 : Nat) : Int) := by simp
    have e5 : (encR rows).take pre.length = encR pre := by rw [h, encR_take]; simp
    have e6 : (encR rows).drop (pre.length + 1) = encR post := by rw [h, encR_drop]; simp
    have hl2 : pre.length + (post.length + 1) < 1000 := by rw [h] at hl; simpa using hl
    simp [q1, q2, lstAt0]
    rw [e3, cut_to, cut_from, e5, e6]
    simp [encR_app]
    omega
theorem with_new {rows : Rows} {x : Str} {t : D} {most : Int} (hp : npR rows) (ht : noPtr t = true) (hn : x ∉ rows.map (·.1)) (hl : rows.length < 1000) (hm : (rows.length : Int) < most) (μ : Store) :
    pureF F_with_named [.tup (encR rows), .str x, t, .int most] μ = .ok (.tup (encR (rows ++ [(x, t)])), μ) := by
  refine pure_eq (by simp [noPtr.noPtrs, noPtr, np_rows hp, ht]) (by simp only [noPtr]; exact np_rows (fun p hq => by rcases List.mem_append.mp hq with q | q; exact hp p q; rw [List.mem_singleton.mp q]; exact ht)) ?_ μ
  unfold F_with_named b_with_named
  simp
  refine wm_lcP (fun d => match d with | .tup (n :: _) => some n | _ => none) ?_
  simp
  refine ⟨by omega, ?_, ?_⟩
  · intro d hd μ'
    obtain ⟨e, n, r, rfl⟩ := enc_item hd μ'
    rw [e]
    simp
  · rw [names_eq, inD_strs (l := rows.map (·.1)) (lstAt0 _ _)]
    simp only [wr_some, hn, decide_false]
    simp [hm, encR_app]
    omega
theorem without_eq {rows : Rows} {x : Str} (hp : npR rows) {pre post : Rows} {d : D} (h : rows = pre ++ (x, d) :: post) (hn : x ∉ pre.map (·.1)) (hl : rows.length < 1000) (μ : Store) :
    pureF F_without_named [.tup (encR rows), .str x] μ = .ok (.tup (encR (pre ++ post)), μ) := by
  have hp2 : npR (pre ++ post) := fun p hq => hp p (by rw [h]; rcases List.mem_append.mp hq with q | q <;> simp [q])
  refine pure_eq (by simp [noPtr.noPtrs, noPtr, np_rows hp]) (by simp only [noPtr]; exact np_rows hp2) ?_ μ
  unfold F_without_named b_without_named
  have e0 := fun μ => spot_eq hp h (fun p hq e => hn (List.mem_map.mpr ⟨p, hq, e⟩)) μ
  have e3 : (pre.length : Int) + 1 = ((pre.length + 1 : Nat) : Int) := by simp
  have e5 : (encR rows).take pre.length = encR pre := by rw [h, encR_take]; simp
  have e6 : (encR rows).drop (pre.length + 1) = encR post := by rw [h, encR_drop]; simp
  have hl2 : pre.length + (post.length + 1) < 1000 := by rw [h] at hl; simpa using hl
  simp [e0]
  rw [e3, cut_to, cut_from, e5, e6]
  simp [encR_app]
  omega
/-! ### rows set, found, gone -/
def setR {α : Type} (x : Str) (t : α) : List (Str × α) → List (Str × α)
  | [] => [(x, t)]
  | (y, d) :: r => if y = x then (x, t) :: r else (y, d) :: setR x t r
def getR {α : Type} (x : Str) : List (Str × α) → Option α
  | [] => none
  | (y, d) :: r => if y = x then some d else getR x r
def delR {α : Type} (x : Str) : List (Str × α) → List (Str × α)
  | [] => []
  | (y, d) :: r => if y = x then r else (y, d) :: delR x r
theorem getR_split {α : Type} {x : Str} {t : α} : ∀ {rows : List (Str × α)}, getR x rows = some t → ∃ pre post, rows = pre ++ (x, t) :: post ∧ x ∉ pre.map (·.1) ∧ (∀ u, setR x u rows = pre ++ (x, u) :: post) ∧ delR x rows = pre ++ post
  | [], h => by cases h
  | (y, d) :: r, h => by
    unfold getR at h
    by_cases e : y = x
    · rw [if_pos e] at h
      cases h
      subst e
      exact ⟨[], r, rfl, by simp, fun u => by simp [setR], by simp [delR]⟩
    · rw [if_neg e] at h
      obtain ⟨pre, post, h1, h2, h3, h4⟩ := getR_split h
      exact ⟨(y, d) :: pre, post, by rw [h1]; rfl, by simp; exact ⟨fun q => e q.symm, by simpa using h2⟩, fun u => by simp [setR, e, h3], by simp [delR, e, h4]⟩
theorem getR_none {α : Type} {x : Str} : ∀ {rows : List (Str × α)}, getR x rows = none → x ∉ rows.map (·.1) ∧ ∀ u, setR x u rows = rows ++ [(x, u)]
  | [], h => ⟨by simp, fun u => rfl⟩
  | (y, d) :: r, h => by
    unfold getR at h
    by_cases e : y = x
    · rw [if_pos e] at h; cases h
    · rw [if_neg e] at h
      obtain ⟨h1, h2⟩ := getR_none h
      refine ⟨?_, fun u => by simp [setR, e, h2]⟩
      simp only [List.map_cons, List.mem_cons, not_or]
      exact ⟨fun q => e q.symm, h1⟩
theorem with_set {rows : Rows} {x : Str} {t : D} {most : Int} (hp : npR rows) (ht : noPtr t = true) (hl : rows.length < 1000) (hm : getR x rows = none → (rows.length : Int) < most) (μ : Store) :
    pureF F_with_named [.tup (encR rows), .str x, t, .int most] μ = .ok (.tup (encR (setR x t rows)), μ) := by
  cases e : getR x rows with
  | none =>
    obtain ⟨h1, h2⟩ := getR_none e
    rw [h2 t]
    exact with_new hp ht h1 hl (hm e) μ
  | some d =>
    obtain ⟨pre, post, h1, h2, h3, _⟩ := getR_split e
    rw [h3 t]
    exact with_old hp ht h1 h2 hl μ
theorem spot_get {rows : Rows} {x : Str} {d : D} (hp : npR rows) (h : getR x rows = some d) : ∃ j : Nat, (∀ μ, pureF F_spot_of [.tup (encR rows), .str x] μ = .ok (.int j, μ)) ∧ ∀ μ, ixD (.tup (encR rows)) (.int j) μ = some (.tup [.str x, d], μ) := by
  obtain ⟨pre, post, h1, h2, _, _⟩ := getR_split h
  refine ⟨pre.length, fun μ => spot_eq hp h1 (fun p hq e => h2 (List.mem_map.mpr ⟨p, hq, e⟩)) μ, fun μ => ?_⟩
  rw [ixD_tup, atI_nat, encR_get, h1]
  simp
theorem without_del {rows : Rows} {x : Str} {d : D} (hp : npR rows) (h : getR x rows = some d) (hl : rows.length < 1000) (μ : Store) : pureF F_without_named [.tup (encR rows), .str x] μ = .ok (.tup (encR (delR x rows)), μ) := by
  obtain ⟨pre, post, h1, h2, _, h4⟩ := getR_split h
  rw [h4]
  exact without_eq hp h1 h2 hl μ
/-! ### a book's state -/
abbrev Tx := List (Str × List Int)
abbrev Mk := List (Str × (Str × Int × Int))
def mkD (m : Str × Int × Int) : D := .tup [.str m.1, .int m.2.1, .int m.2.2]
def rT (T : Tx) : Rows := T.map fun p => (p.1, encI p.2)
def rM (M : Mk) : Rows := M.map fun p => (p.1, mkD p.2)
def stD (T : Tx) (M : Mk) : D := .tup [.tup (encR (rT T)), .tup (encR (rM M))]
theorem np_rT (T : Tx) : npR (rT T) := fun p hp => by
  obtain ⟨q, _, rfl⟩ := List.mem_map.mp hp
  simp [noPtr, np_ints]
theorem np_rM (M : Mk) : npR (rM M) := fun p hp => by
  obtain ⟨q, _, rfl⟩ := List.mem_map.mp hp
  simp [mkD, noPtr, noPtr.noPtrs]
theorem np_stD (T : Tx) (M : Mk) : noPtr (stD T M) = true := by
  simp [stD, noPtr, noPtr.noPtrs, np_rows (np_rT T), np_rows (np_rM M)]
theorem getR_map {α β : Type} (f : α → β) (x : Str) : ∀ rows : List (Str × α), getR x (rows.map fun p => (p.1, f p.2)) = (getR x rows).map f
  | [] => rfl
  | (y, d) :: r => by
    simp only [List.map_cons, getR]
    split
    · rfl
    · exact getR_map f x r
theorem setR_map {α β : Type} (f : α → β) (x : Str) (t : α) : ∀ rows : List (Str × α), setR x (f t) (rows.map fun p => (p.1, f p.2)) = (setR x t rows).map fun p => (p.1, f p.2)
  | [] => rfl
  | (y, d) :: r => by
    simp only [List.map_cons, setR]
    split
    · rfl
    · rw [setR_map f x t r]; rfl
theorem getR_rT (T : Tx) (x : Str) : getR x (rT T) = (getR x T).map encI := getR_map _ _ _
theorem getR_rM (M : Mk) (x : Str) : getR x (rM M) = (getR x M).map mkD := getR_map _ _ _
theorem setR_rT (T : Tx) (x : Str) (t : List Int) : setR x (encI t) (rT T) = rT (setR x t T) := setR_map _ _ _ _
theorem setR_rM (M : Mk) (x : Str) (m : Str × Int × Int) : setR x (mkD m) (rM M) = rM (setR x m M) := setR_map _ _ _ _
/-- a text set -/
theorem with_text {T : Tx} {x : Str} (t : List Int) (hl : T.length < 8) (μ : Store) : pureF F_with_named [.tup (encR (rT T)), .str x, encI t, .int 8] μ = .ok (.tup (encR (rT (setR x t T))), μ) := by
  rw [← setR_rT]
  exact with_set (np_rT T) (by simp [noPtr, np_ints]) (by simp [rT]; omega) (fun _ => by simp [rT]; omega) μ
theorem with_mark {M : Mk} {x : Str} (m : Str × Int × Int) (hl : M.length < 24) (μ : Store) : pureF F_with_named [.tup (encR (rM M)), .str x, mkD m, .int 24] μ = .ok (.tup (encR (rM (setR x m M))), μ) := by
  rw [← setR_rM]
  exact with_set (np_rM M) (by simp [mkD, noPtr, noPtr.noPtrs]) (by simp [rM]; omega) (fun _ => by simp [rM]; omega) μ
theorem marks_left_eq (M : Mk) (x : Str) (hl : M.length < 1000) (μ : Store) : pureF F_marks_left [.tup (encR (rM M)), .str x] μ = .ok (.tup (encR (rM (M.filter fun p => p.2.1 ≠ x))), μ) := by
  refine pure_eq (by simp [noPtr.noPtrs, noPtr, np_rows (np_rM M)]) (by simp only [noPtr]; exact np_rows (np_rM _)) ?_ μ
  unfold F_marks_left b_marks_left
  simp
  refine wm_lcP (fun d => match d with | .tup [n, .tup (.str y :: r)] => if y = x then none else some d | _ => none) ?_
  simp
  refine ⟨by simp [rM]; omega, ?_, ?_⟩
  · intro d hd μ'
    obtain ⟨p, hp, rfl⟩ := encR_mem hd
    obtain ⟨q, _, rfl⟩ := List.mem_map.mp hp
    simp [mkD]
    exact ⟨id, id⟩
  · clear hl
    induction M with
    | nil => rfl
    | cons m M ih =>
      by_cases h : m.2.1 = x
      · simpa [rM, mkD, h] using ih
      · simpa [rM, mkD, h] using ih
theorem window_eq (l : List Int) (a b : Int) (h : a ≤ b) (h2 : b ≤ l.length) (μ : Store) : pureF F_need_text_window [encI l, .int a, .int b] μ = .ok (.non, μ) := by
  refine pure_eq (by simp [noPtr.noPtrs, noPtr, np_ints]) rfl ?_ μ
  unfold F_need_text_window b_need_text_window
  simp [h, h2]
theorem grown_eq {T : Tx} {M : Mk} {x : Str} {t : List Int} {marks : D} (hl : T.length < 8) (ht : t.length ≤ 400) (hm : noPtr marks = true) (μ : Store) : pureF F_grown [stD T M, .str x, encI t, marks] μ = .ok (.tup [.tup (encR (rT (setR x t T))), marks], μ) := by
  refine pure_eq (by simp [noPtr.noPtrs, noPtr, np_ints, np_stD, hm]) (by simp [noPtr, noPtr.noPtrs, hm, np_rows (np_rT _)]) ?_ μ
  unfold F_grown b_grown
  simp [stD, with_text t hl]
  omega
theorem renamed_eq {T : Tx} {M : Mk} {x : Str} {t : List Int} (hl : T.length < 8) (hm : M.length < 1000) (μ : Store) : pureF F_renamed_text [stD T M, .str x, encI t] μ = .ok (stD (setR x t T) (M.filter fun p => p.2.1 ≠ x), μ) := by
  refine pure_eq (by simp [noPtr.noPtrs, noPtr, np_ints, np_stD]) (np_stD _ _) ?_ μ
  unfold F_renamed_text b_renamed_text
  simp [stD, with_text t hl, marks_left_eq M x hm]
/-- the marks of a text, their ends moved -/
def movM (x : Str) (f : Int → Int) (M : Mk) : Mk := M.map fun p => if p.2.1 = x then (p.1, p.2.1, f p.2.2.1, f p.2.2.2) else p
theorem moved_eq {M : Mk} {x : Str} {φ : List D → Store → Out (D × Store)} {f : Int → Int} (hφ : ∀ (i : Int) (μ : Store), φ [.int i] μ = .ok (.int (f i), μ)) (hl : M.length < 1000) (μ : Store) :
    hoF 2 (fun Lv φ => runF 8 (b_marks_moved Lv φ)) φ [.tup (encR (rM M)), .str x] μ = .ok (.tup (encR (rM (movM x f M))), μ ++ [.lst (encR (rM (movM x f M)))]) := by
  refine @hoF_eq ⟨[]⟩ _ _ _ _ _ _ fun L cl us cs => ?_
  have key : wo (runF 8 (b_marks_moved (.lam L cl us cs) φ) [.tup (encR (rM M)), .str x, .lam L cl us cs] μ) X0 fun d μ' => d = .tup (encR (rM (movM x f M))) ∧ μ' = μ ++ [.lst (encR (rM (movM x f M)))] := by
    unfold b_marks_moved
    simp
    refine wp_for (fun r ρ μ' => ∃ done rest : Mk, M = done ++ rest ∧ r = encR (rM rest) ∧ μ' = μ ++ [.lst (encR (rM (movM x f done)))] ∧ ∃ a b c d, ρ = [some (.tup (encR (rM M))), some (.str x), some (.lam L cl us cs), some (.ptr μ.length), a, b, c, d]) ?_ ?_ ?_
    · simp
      exact ⟨[], M, rfl, rfl, rfl⟩
    · rintro d r ρ μ' ⟨done, rest, hM, hr, rfl, a, b, c, e, rfl⟩
      cases rest with
      | nil => cases hr
      | cons p rest =>
        simp only [rM, List.map_cons, encR_cons] at hr
        injection hr with h1 h2
        subst h1 h2
        have hd : done.length < 1000 := by rw [hM] at hl; simp at hl; omega
        by_cases hx : p.2.1 = x
        · simp [mkD, hx, hφ]
          exact ⟨by simp [rM, movM]; omega, done ++ [p], rest, by simp [hM], rfl, by simp [rM, movM, encR, mkD, hx]⟩
        · simp [mkD, hx, hφ]
          exact ⟨by simp [rM, movM]; omega, done ++ [p], rest, by simp [hM], rfl, by simp [rM, movM, encR, mkD, hx]⟩
    · rintro ρ μ' ⟨done, rest, hM, hr, rfl, a, b, c, e, rfl⟩
      cases rest with
      | cons p rest => cases hr
      | nil =>
        rw [List.append_nil] at hM
        subst hM
        simp
  obtain ⟨d, μ', e, rfl, rfl⟩ := wo_get key
  exact e
theorem text_get {T : Tx} {x : Str} {t : List Int} (h : getR x T = some t) : ∃ j : Nat, (∀ μ, pureF F_spot_of [.tup (encR (rT T)), .str x] μ = .ok (.int j, μ)) ∧ ∀ μ, ixD (.tup (encR (rT T))) (.int j) μ = some (.tup [.str x, encI t], μ) :=
  spot_get (np_rT T) (by rw [getR_rT, h]; rfl)
theorem mark_get {M : Mk} {x : Str} {m : Str × Int × Int} (h : getR x M = some m) : ∃ j : Nat, (∀ μ, pureF F_spot_of [.tup (encR (rM M)), .str x] μ = .ok (.int j, μ)) ∧ ∀ μ, ixD (.tup (encR (rM M))) (.int j) μ = some (.tup [.str x, mkD m], μ) :=
  spot_get (np_rM M) (by rw [getR_rM, h]; rfl)
/-- a list of ints cut -/
theorem cutI (l : List Int) (lo hi : Option Int) : cutD (l.map D.int) lo hi = ((l.drop (HT.sIx l.length 0 lo)).take (HT.sIx l.length l.length hi - HT.sIx l.length 0 lo)).map D.int := by
  unfold cutD
  simp [List.map_take, List.map_drop]
def putL (l : List Int) (k : Nat) (m : List Int) : List Int := l.take k ++ m ++ l.drop k
theorem np_tup (ds : List D) : noPtr (.tup ds) = noPtr.noPtrs ds := rfl
end LW

-- P81b
set_option Elab.async false
set_option linter.all false
set_option maxRecDepth 100000
set_option maxHeartbeats 1000000
namespace LW
open PySem DL
theorem wm_get {m : M D} {ρ : DL.Env} {μ : Store} {d : D} {μ' : Store} (h : wm m ρ μ X0 fun e ν => e = d ∧ ν = μ') : m ρ μ = .ok (d, μ') := by
  obtain ⟨e, ν, h1, rfl, rfl⟩ := wo_get (show wo (m ρ μ) X0 _ from h)
  exact h1
theorem put_eq {T : Tx} {M : Mk} {w x : Str} {t m : List Int} {k : Nat} (hl : T.length < 8) (hm : M.length < 1000) (h : getR x T = some t) (ok : okT m) (hk : k ≤ t.length) (h4 : t.length + m.length ≤ 400) (μ : Store) :
    pureF F_behind_put [stD T M, .tup [.str w, .str x, .int k, encI m]] μ = .ok (stD (setR x (putL t k m) T) (movM x (fun e => if e > k then e + m.length else e) M), μ) := by
  obtain ⟨j, e1, e2⟩ := text_get h
  refine pure_eq (by simp [noPtr.noPtrs, noPtr, np_ints, np_stD]) (np_stD _ _) ?_ μ
  unfold F_behind_put b_behind_put
  have e3 := grown_eq (T := T) (M := M) (x := x) (t := putL t k m) (marks := .tup (encR (rM (movM x (fun e => if e > k then e + m.length else e) M)))) hl (by simp [putL]; omega) (by rw [np_tup]; exact np_rows (np_rM _))
  have e4 := need_text_eq m ok
  have hφ : ∀ (i : Int) (μ : Store), lamF 3 [encI m, .int k] (mIf (mTest (mBin gtD (mVar 0) (mVar 2))) (mBin addD (mVar 0) (mCB lenD (aCons (mVar 1) aNil))) (mVar 0)) [.int i] μ = .ok (.int (if i > k then i + m.length else i), μ) := fun i μ => by
    refine wm_get ?_
    by_cases hc : (k : Int) < i
    · simp [hc]
    · simp [hc]
  have e5 : encI (putL t k m) = .tup ((t.map D.int).take k ++ m.map D.int ++ (t.map D.int).drop k) := by simp [putL, encI, List.map_take, List.map_drop]
  simp only [stD, e5] at e3
  simp [stD, e1, e2, e4, capD]
  rw [moved_eq (f := fun i => if i > k then i + m.length else i) hφ hm]
  simp [cut_to, cut_from]
  refine ⟨hk, by omega, by omega, ?_⟩
  rw [← List.append_assoc, e3]
  simp
def outL (t : List Int) (a b : Nat) : List Int := t.take a ++ t.drop b
theorem out_eq {T : Tx} {M : Mk} {w x : Str} {t : List Int} {a b : Nat} (hl : T.length < 8) (hm : M.length < 1000) (h : getR x T = some t) (hab : a ≤ b) (hb : b ≤ t.length) (ht : t.length ≤ 400) (μ : Store) :
    pureF F_behind_out [stD T M, .tup [.str w, .str x, .int a, .int b]] μ = .ok (stD (setR x (outL t a b) T) (movM x (fun e => e - min (max 0 (e - a)) (b - a)) M), μ) := by
  obtain ⟨j, e1, e2⟩ := text_get h
  refine pure_eq (by simp [noPtr.noPtrs, noPtr, np_ints, np_stD]) (np_stD _ _) ?_ μ
  unfold F_behind_out b_behind_out
  have e3 := with_text (T := T) (x := x) (outL t a b) hl
  have e4 := window_eq t a b (by omega) (by omega)
  have hφ : ∀ (i : Int) (μ : Store), lamF 3 [.int a, .int b] (mBin subD (mVar 0) (mCB min2D (aCons (mCB max2D (aCons (mC (.int 0)) (aCons (mBin subD (mVar 0) (mVar 1)) aNil))) (aCons (mBin subD (mVar 2) (mVar 1)) aNil)))) [.int i] μ = .ok (.int (i - min (max 0 (i - a)) (b - a)), μ) := fun i μ => by
    refine wm_get ?_
    simp
    split <;> split <;> omega
  have e5 : encI (outL t a b) = .tup ((t.map D.int).take a ++ (t.map D.int).drop b) := by simp [outL, encI, List.map_take, List.map_drop]
  rw [e5] at e3
  simp [stD, e1, e2, e4, capD]
  rw [moved_eq (f := fun i => i - min (max 0 (i - a)) (b - a)) hφ hm]
  simp [cut_to, cut_from]
  refine ⟨by omega, ?_⟩
  rw [e3]
  simp
theorem need_sign_eq (i : Int) (h : 0 ≤ i ∧ i ≤ 999) (μ : Store) : pureF F_need_sign [.int i] μ = .ok (.int i, μ) := by
  refine pure_eq rfl rfl ?_ μ
  unfold F_need_sign b_need_sign
  simp [is_sign_eq, h]
def signL (t : List Int) (k : Nat) (s : Int) : List Int := t.take k ++ [s] ++ t.drop (k + 1)
theorem sign_eq {T : Tx} {M : Mk} {w x : Str} {t : List Int} {k : Nat} {s : Int} (hl : T.length < 8) (h : getR x T = some t) (hs : 0 ≤ s ∧ s ≤ 999) (hk : k < t.length) (ht : t.length ≤ 400) (μ : Store) :
    pureF F_behind_sign [stD T M, .tup [.str w, .str x, .int k, .int s]] μ = .ok (stD (setR x (signL t k s) T) M, μ) := by
  obtain ⟨j, e1, e2⟩ := text_get h
  refine pure_eq (by simp [noPtr.noPtrs, noPtr, np_ints, np_stD]) (np_stD _ _) ?_ μ
  unfold F_behind_sign b_behind_sign
  have e3 := with_text (T := T) (x := x) (signL t k s) hl
  have e5 : encI (signL t k s) = .tup ((t.map D.int).take k ++ [.int s] ++ (t.map D.int).drop (k + 1)) := by simp [signL, encI, List.map_take, List.map_drop]
  rw [e5] at e3
  simp [stD, e1, e2, need_sign_eq s hs]
  have e6 : (k : Int) + 1 = ((k + 1 : Nat) : Int) := by simp
  rw [e6, cut_to, cut_from]
  refine ⟨hk, by (first | omega | (simp; omega)), by (first | omega | (simp; omega)), ?_⟩
  have e7 : (t.map D.int).take k ++ D.int s :: (t.map D.int).drop (k + 1) = (t.map D.int).take k ++ [D.int s] ++ (t.map D.int).drop (k + 1) := by simp
  rw [e7, e3]
  simp
end LW

-- P81c
set_option Elab.async false
set_option linter.all false
set_option maxRecDepth 100000
set_option maxHeartbeats 1000000
namespace LW
open PySem DL
def turnM (x : Str) (n : Int) (M : Mk) : Mk := M.map fun p => if p.2.1 = x then (p.1, p.2.1, n - p.2.2.2, n - p.2.2.1) else p
theorem turn_eq {T : Tx} {M : Mk} {w x : Str} {t : List Int} (hl : T.length < 8) (hm : M.length < 1000) (h : getR x T = some t) (ht : t.length ≤ 400) (μ : Store) :
    pureF F_behind_turn [stD T M, .tup [.str w, .str x]] μ = .ok (stD (setR x t.reverse T) (turnM x t.length M), μ) := by
  obtain ⟨j, e1, e2⟩ := text_get h
  refine pure_eq (by simp [noPtr.noPtrs, noPtr, np_stD]) (np_stD _ _) ?_ μ
  unfold F_behind_turn b_behind_turn
  have e3 := with_text (T := T) (x := x) t.reverse hl
  have e5 : encI t.reverse = .tup (t.map D.int).reverse := by simp [encI, List.map_reverse]
  rw [e5] at e3
  simp [stD, e1, e2]
  refine wp_for (fun r ρ μ' => ∃ done rest : Mk, M = done ++ rest ∧ r = encR (rM rest) ∧ μ' = [.lst (encR (rM (turnM x t.length done)))] ∧ ∃ a b c d, ρ = [some (stD T M), some (.tup [.str w, .str x]), some (.tup (encR (rT T))), some (.tup (encR (rM M))), some (encI t), some (.ptr 0), a, b, c, d]) ?_ ?_ ?_
  · simp [stD]
    exact ⟨[], M, rfl, rfl, rfl⟩
  · rintro d r ρ μ' ⟨done, rest, hM, hr, rfl, a, b, c, e, rfl⟩
    cases rest with
    | nil => cases hr
    | cons p rest =>
      simp only [rM, List.map_cons, encR_cons] at hr
      injection hr with h1 h2
      subst h1 h2
      have hd : done.length < 1000 := by rw [hM] at hm; simp at hm; omega
      by_cases hx : p.2.1 = x
      · simp [mkD, hx, lstAt0]
        exact ⟨by simp [rM, turnM]; omega, done ++ [p], rest, by simp [hM], rfl, by simp [rM, turnM, encR, mkD, hx]⟩
      · simp [mkD, hx, lstAt0]
        exact ⟨by simp [rM, turnM]; omega, done ++ [p], rest, by simp [hM], rfl, by simp [rM, turnM, encR, mkD, hx]⟩
  · rintro ρ μ ⟨done, rest, hM, hr, rfl, a, b, c, e, rfl⟩
    cases rest with
    | cons p rest => cases hr
    | nil =>
      rw [List.append_nil] at hM
      subst hM
      simp [e3, lstAt0]
theorem mark_eq {T : Tx} {M : Mk} {w m x : Str} {t : List Int} {a b : Int} (hm : M.length < 24) (h : getR x T = some t) (hab : a ≤ b) (hb : b ≤ t.length) (μ : Store) :
    pureF F_behind_mark [stD T M, .tup [.str w, .str m, .str x, .int a, .int b]] μ = .ok (stD T (setR m (x, a, b) M), μ) := by
  obtain ⟨j, e1, e2⟩ := text_get h
  refine pure_eq (by simp [noPtr.noPtrs, noPtr, np_stD]) (np_stD _ _) ?_ μ
  unfold F_behind_mark b_behind_mark
  have e3 := with_mark (M := M) (x := m) (x, a, b) hm
  have e4 := window_eq t a b hab hb
  simp only [mkD] at e3
  simp [stD, e1, e2, e4, e3]
theorem join_eq {T : Tx} {M : Mk} {w x y : Str} {t u : List Int} (hl : T.length < 8) (h : getR x T = some t) (h2 : getR y T = some u) (hlen : t.length + u.length ≤ 400) (μ : Store) :
    pureF F_behind_join [stD T M, .tup [.str w, .str x, .str y]] μ = .ok (stD (setR x (t ++ u) T) M, μ) := by
  obtain ⟨j, e1, e2⟩ := text_get h
  obtain ⟨i, e3, e4⟩ := text_get h2
  refine pure_eq (by simp [noPtr.noPtrs, noPtr, np_stD]) (np_stD _ _) ?_ μ
  unfold F_behind_join b_behind_join
  have e5 := grown_eq (T := T) (M := M) (x := x) (t := t ++ u) (marks := .tup (encR (rM M))) hl (by simpa using hlen) (by rw [np_tup]; exact np_rows (np_rM _))
  simp only [stD, encI, List.map_append] at e5
  simp [stD, e1, e2, e3, e4, e5]
  omega
end LW

-- P81d
set_option Elab.async false
set_option linter.all false
set_option maxRecDepth 100000
set_option maxHeartbeats 1000000
namespace LW
open PySem DL
/-! ### words -/
@[simp] theorem w_text_gone : ¬ (("text" : Str) = "gone") := by decide +kernel
@[simp] theorem w_text_put : ¬ (("text" : Str) = "put") := by decide +kernel
@[simp] theorem w_text_out : ¬ (("text" : Str) = "out") := by decide +kernel
@[simp] theorem w_text_sign : ¬ (("text" : Str) = "sign") := by decide +kernel
@[simp] theorem w_text_turn : ¬ (("text" : Str) = "turn") := by decide +kernel
@[simp] theorem w_text_join : ¬ (("text" : Str) = "join") := by decide +kernel
@[simp] theorem w_text_mark : ¬ (("text" : Str) = "mark") := by decide +kernel
@[simp] theorem w_text_drop : ¬ (("text" : Str) = "drop") := by decide +kernel
@[simp] theorem w_text_lift : ¬ (("text" : Str) = "lift") := by decide +kernel
@[simp] theorem w_text_all : ¬ (("text" : Str) = "all") := by decide +kernel
@[simp] theorem w_gone_text : ¬ (("gone" : Str) = "text") := by decide +kernel
@[simp] theorem w_gone_put : ¬ (("gone" : Str) = "put") := by decide +kernel
@[simp] theorem w_gone_out : ¬ (("gone" : Str) = "out") := by decide +kernel
@[simp] theorem w_gone_sign : ¬ (("gone" : Str) = "sign") := by decide +kernel
@[simp] theorem w_gone_turn : ¬ (("gone" : Str) = "turn") := by decide +kernel
@[simp] theorem w_gone_join : ¬ (("gone" : Str) = "join") := by decide +kernel
@[simp] theorem w_gone_mark : ¬ (("gone" : Str) = "mark") := by decide +kernel
@[simp] theorem w_gone_drop : ¬ (("gone" : Str) = "drop") := by decide +kernel
@[simp] theorem w_gone_lift : ¬ (("gone" : Str) = "lift") := by decide +kernel
@[simp] theorem w_gone_all : ¬ (("gone" : Str) = "all") := by decide +kernel
@[simp] theorem w_put_text : ¬ (("put" : Str) = "text") := by decide +kernel
@[simp] theorem w_put_gone : ¬ (("put" : Str) = "gone") := by decide +kernel
@[simp] theorem w_put_out : ¬ (("put" : Str) = "out") := by decide +kernel
@[simp] theorem w_put_sign : ¬ (("put" : Str) = "sign") := by decide +kernel
@[simp] theorem w_put_turn : ¬ (("put" : Str) = "turn") := by decide +kernel
@[simp] theorem w_put_join : ¬ (("put" : Str) = "join") := by decide +kernel
@[simp] theorem w_put_mark : ¬ (("put" : Str) = "mark") := by decide +kernel
@[simp] theorem w_put_drop : ¬ (("put" : Str) = "drop") := by decide +kernel
@[simp] theorem w_put_lift : ¬ (("put" : Str) = "lift") := by decide +kernel
@[simp] theorem w_put_all : ¬ (("put" : Str) = "all") := by decide +kernel
@[simp] theorem w_out_text : ¬ (("out" : Str) = "text") := by decide +kernel
@[simp] theorem w_out_gone : ¬ (("out" : Str) = "gone") := by decide +kernel
@[simp] theorem w_out_put : ¬ (("out" : Str) = "put") := by decide +kernel
@[simp] theorem w_out_sign : ¬ (("out" : Str) = "sign") := by decide +kernel
@[simp] theorem w_out_turn : ¬ (("out" : Str) = "turn") := by decide +kernel
@[simp] theorem w_out_join : ¬ (("out" : Str) = "join") := by decide +kernel
@[simp] theorem w_out_mark : ¬ (("out" : Str) = "mark") := by decide +kernel
@[simp] theorem w_out_drop : ¬ (("out" : Str) = "drop") := by decide +kernel
@[simp] theorem w_out_lift : ¬ (("out" : Str) = "lift") := by decide +kernel
@[simp] theorem w_out_all : ¬ (("out" : Str) = "all") := by decide +kernel
@[simp] theorem w_sign_text : ¬ (("sign" : Str) = "text") := by decide +kernel
@[simp] theorem w_sign_gone : ¬ (("sign" : Str) = "gone") := by decide +kernel
@[simp] theorem w_sign_put : ¬ (("sign" : Str) = "put") := by decide +kernel
@[simp] theorem w_sign_out : ¬ (("sign" : Str) = "out") := by decide +kernel
@[simp] theorem w_sign_turn : ¬ (("sign" : Str) = "turn") := by decide +kernel
@[simp] theorem w_sign_join : ¬ (("sign" : Str) = "join") := by decide +kernel
@[simp] theorem w_sign_mark : ¬ (("sign" : Str) = "mark") := by decide +kernel
@[simp] theorem w_sign_drop : ¬ (("sign" : Str) = "drop") := by decide +kernel
@[simp] theorem w_sign_lift : ¬ (("sign" : Str) = "lift") := by decide +kernel
@[simp] theorem w_sign_all : ¬ (("sign" : Str) = "all") := by decide +kernel
@[simp] theorem w_turn_text : ¬ (("turn" : Str) = "text") := by decide +kernel
@[simp] theorem w_turn_gone : ¬ (("turn" : Str) = "gone") := by decide +kernel
@[simp] theorem w_turn_put : ¬ (("turn" : Str) = "put") := by decide +kernel
@[simp] theorem w_turn_out : ¬ (("turn" : Str) = "out") := by decide +kernel
@[simp] theorem w_turn_sign : ¬ (("turn" : Str) = "sign") := by decide +kernel
@[simp] theorem w_turn_join : ¬ (("turn" : Str) = "join") := by decide +kernel
@[simp] theorem w_turn_mark : ¬ (("turn" : Str) = "mark") := by decide +kernel
@[simp] theorem w_turn_drop : ¬ (("turn" : Str) = "drop") := by decide +kernel
@[simp] theorem w_turn_lift : ¬ (("turn" : Str) = "lift") := by decide +kernel
@[simp] theorem w_turn_all : ¬ (("turn" : Str) = "all") := by decide +kernel
@[simp] theorem w_join_text : ¬ (("join" : Str) = "text") := by decide +kernel
@[simp] theorem w_join_gone : ¬ (("join" : Str) = "gone") := by decide +kernel
@[simp] theorem w_join_put : ¬ (("join" : Str) = "put") := by decide +kernel
@[simp] theorem w_join_out : ¬ (("join" : Str) = "out") := by decide +kernel
@[simp] theorem w_join_sign : ¬ (("join" : Str) = "sign") := by decide +kernel
@[simp] theorem w_join_turn : ¬ (("join" : Str) = "turn") := by decide +kernel
@[simp] theorem w_join_mark : ¬ (("join" : Str) = "mark") := by decide +kernel
@[simp] theorem w_join_drop : ¬ (("join" : Str) = "drop") := by decide +kernel
@[simp] theorem w_join_lift : ¬ (("join" : Str) = "lift") := by decide +kernel
@[simp] theorem w_join_all : ¬ (("join" : Str) = "all") := by decide +kernel
@[simp] theorem w_mark_text : ¬ (("mark" : Str) = "text") := by decide +kernel
@[simp] theorem w_mark_gone : ¬ (("mark" : Str) = "gone") := by decide +kernel
@[simp] theorem w_mark_put : ¬ (("mark" : Str) = "put") := by decide +kernel
@[simp] theorem w_mark_out : ¬ (("mark" : Str) = "out") := by decide +kernel
@[simp] theorem w_mark_sign : ¬ (("mark" : Str) = "sign") := by decide +kernel
@[simp] theorem w_mark_turn : ¬ (("mark" : Str) = "turn") := by decide +kernel
@[simp] theorem w_mark_join : ¬ (("mark" : Str) = "join") := by decide +kernel
@[simp] theorem w_mark_drop : ¬ (("mark" : Str) = "drop") := by decide +kernel
@[simp] theorem w_mark_lift : ¬ (("mark" : Str) = "lift") := by decide +kernel
@[simp] theorem w_mark_all : ¬ (("mark" : Str) = "all") := by decide +kernel
@[simp] theorem w_drop_text : ¬ (("drop" : Str) = "text") := by decide +kernel
@[simp] theorem w_drop_gone : ¬ (("drop" : Str) = "gone") := by decide +kernel
@[simp] theorem w_drop_put : ¬ (("drop" : Str) = "put") := by decide +kernel
@[simp] theorem w_drop_out : ¬ (("drop" : Str) = "out") := by decide +kernel
@[simp] theorem w_drop_sign : ¬ (("drop" : Str) = "sign") := by decide +kernel
@[simp] theorem w_drop_turn : ¬ (("drop" : Str) = "turn") := by decide +kernel
@[simp] theorem w_drop_join : ¬ (("drop" : Str) = "join") := by decide +kernel
@[simp] theorem w_drop_mark : ¬ (("drop" : Str) = "mark") := by decide +kernel
@[simp] theorem w_drop_lift : ¬ (("drop" : Str) = "lift") := by decide +kernel
@[simp] theorem w_drop_all : ¬ (("drop" : Str) = "all") := by decide +kernel
@[simp] theorem w_lift_text : ¬ (("lift" : Str) = "text") := by decide +kernel
@[simp] theorem w_lift_gone : ¬ (("lift" : Str) = "gone") := by decide +kernel
@[simp] theorem w_lift_put : ¬ (("lift" : Str) = "put") := by decide +kernel
@[simp] theorem w_lift_out : ¬ (("lift" : Str) = "out") := by decide +kernel
@[simp] theorem w_lift_sign : ¬ (("lift" : Str) = "sign") := by decide +kernel
@[simp] theorem w_lift_turn : ¬ (("lift" : Str) = "turn") := by decide +kernel
@[simp] theorem w_lift_join : ¬ (("lift" : Str) = "join") := by decide +kernel
@[simp] theorem w_lift_mark : ¬ (("lift" : Str) = "mark") := by decide +kernel
@[simp] theorem w_lift_drop : ¬ (("lift" : Str) = "drop") := by decide +kernel
@[simp] theorem w_lift_all : ¬ (("lift" : Str) = "all") := by decide +kernel
@[simp] theorem w_all_text : ¬ (("all" : Str) = "text") := by decide +kernel
@[simp] theorem w_all_gone : ¬ (("all" : Str) = "gone") := by decide +kernel
@[simp] theorem w_all_put : ¬ (("all" : Str) = "put") := by decide +kernel
@[simp] theorem w_all_out : ¬ (("all" : Str) = "out") := by decide +kernel
@[simp] theorem w_all_sign : ¬ (("all" : Str) = "sign") := by decide +kernel
@[simp] theorem w_all_turn : ¬ (("all" : Str) = "turn") := by decide +kernel
@[simp] theorem w_all_join : ¬ (("all" : Str) = "join") := by decide +kernel
@[simp] theorem w_all_mark : ¬ (("all" : Str) = "mark") := by decide +kernel
@[simp] theorem w_all_drop : ¬ (("all" : Str) = "drop") := by decide +kernel
@[simp] theorem w_all_lift : ¬ (("all" : Str) = "lift") := by decide +kernel
/-! ### changes -/
inductive Ch where
  | text (x : Str) (t : List Int) | mark (m x : Str) (a b : Nat) | put (x : Str) (k : Nat) (t : List Int) | out (x : Str) (a b : Nat) | sign (x : Str) (k : Nat) (s : Int) | turn (x : Str) | join (x y : Str) | lift (x m : Str)
def Ch.e : Ch → D
  | .text x t => .tup [.str "text", .str x, encI t]
  | .mark m x a b => .tup [.str "mark", .str m, .str x, .int a, .int b]
  | .put x k t => .tup [.str "put", .str x, .int k, encI t]
  | .out x a b => .tup [.str "out", .str x, .int a, .int b]
  | .sign x k s => .tup [.str "sign", .str x, .int k, .int s]
  | .turn x => .tup [.str "turn", .str x]
  | .join x y => .tup [.str "join", .str x, .str y]
  | .lift x m => .tup [.str "lift", .str x, .str m]
abbrev St := Tx × Mk
def Ch.ok (c : Ch) (s : St) : Prop := s.1.length < 8 ∧ s.2.length < 24 ∧ match c with
  | .text x t => okT t
  | .mark m x a b => ∃ t, getR x s.1 = some t ∧ a ≤ b ∧ b ≤ t.length
  | .put x k m => ∃ t, getR x s.1 = some t ∧ okT m ∧ k ≤ t.length ∧ t.length + m.length ≤ 400
  | .out x a b => ∃ t, getR x s.1 = some t ∧ a ≤ b ∧ b ≤ t.length ∧ t.length ≤ 400
  | .sign x k v => ∃ t, getR x s.1 = some t ∧ (0 ≤ v ∧ v ≤ 999) ∧ k < t.length ∧ t.length ≤ 400
  | .turn x => ∃ t, getR x s.1 = some t ∧ t.length ≤ 400
  | .join x y => ∃ t u, getR x s.1 = some t ∧ getR y s.1 = some u ∧ t.length + u.length ≤ 400
  | .lift x m => ∃ (y : Str) (a b : Nat) (t : List Int), getR m s.2 = some (y, (a : Int), (b : Int)) ∧ getR y s.1 = some t
def txt (s : St) (x : Str) : List Int := (getR x s.1).getD []
def Ch.go (c : Ch) (s : St) : St := match c with
  | .text x t => (setR x t s.1, s.2.filter fun p => p.2.1 ≠ x)
  | .mark m x a b => (s.1, setR m (x, (a : Int), (b : Int)) s.2)
  | .put x k m => (setR x (putL (txt s x) k m) s.1, movM x (fun e => if e > k then e + m.length else e) s.2)
  | .out x a b => (setR x (outL (txt s x) a b) s.1, movM x (fun e => e - min (max 0 (e - a)) (b - a)) s.2)
  | .sign x k v => (setR x (signL (txt s x) k v) s.1, s.2)
  | .turn x => (setR x (txt s x).reverse s.1, turnM x (txt s x).length s.2)
  | .join x y => (setR x (txt s x ++ txt s y) s.1, s.2)
  | .lift x m => match getR m s.2 with
    | some (y, a, b) => (setR x (((txt s y).drop a.toNat).take (b.toNat - a.toNat)) s.1, s.2.filter fun p => p.2.1 ≠ x)
    | none => s
abbrev sD (s : St) : D := stD s.1 s.2
theorem lift_eq {T : Tx} {M : Mk} {w x m y : Str} {t : List Int} {a b : Nat} (hl : T.length < 8) (hm : M.length < 1000) (h : getR m M = some (y, (a : Int), (b : Int))) (h2 : getR y T = some t) (μ : Store) :
    pureF F_behind_lift [stD T M, .tup [.str w, .str x, .str m]] μ = .ok (stD (setR x ((t.drop a).take (b - a)) T) (M.filter fun p => p.2.1 ≠ x), μ) := by
  obtain ⟨j, e1, e2⟩ := mark_get h
  obtain ⟨i, e3, e4⟩ := text_get h2
  refine pure_eq (by simp [noPtr.noPtrs, noPtr, np_stD]) (np_stD _ _) ?_ μ
  unfold F_behind_lift b_behind_lift
  have e5 := renamed_eq (T := T) (M := M) (x := x) (t := (t.drop a).take (b - a)) hl hm
  have e6 : cutD (t.map D.int) (some (a : Int)) (some (b : Int)) = ((t.drop a).take (b - a)).map D.int := cut_map_fromto t a b
  simp only [stD] at e5
  simp [stD, e1, e2, mkD, e3, e4, e6, e5, -List.map_take, -List.map_drop]
theorem single_eq (c : Ch) (s : St) (h : c.ok s) (μ : Store) : pureF F_behind_single [sD s, c.e] μ = .ok (sD (c.go s), μ) := by
  have npc : noPtr c.e = true := by cases c <;> simp [Ch.e, noPtr, noPtr.noPtrs, np_ints]
  refine pure_eq (by simp [noPtr.noPtrs, np_stD, npc]) (np_stD _ _) ?_ μ
  obtain ⟨T, M⟩ := s
  obtain ⟨h1, h2, h⟩ := h
  have h1 : T.length < 8 := h1
  have h2 : M.length < 24 := h2
  unfold F_behind_single b_behind_single
  cases c with
  | text x t =>
    have e1 := need_text_eq t h
    have e2 := renamed_eq (T := T) (M := M) (x := x) (t := t) h1 (by omega)
    simp only [stD] at e2
    simp [Ch.e, Ch.go, sD, stD, e1, e2]
  | mark m x a b =>
    obtain ⟨t, g, hab, hb⟩ := h
    have e2 := mark_eq (T := T) (M := M) (w := "mark") (m := m) (x := x) (a := a) (b := b) h2 g (by omega) (by omega)
    simp only [stD] at e2
    simp [Ch.e, Ch.go, sD, stD, e2]
  | put x k m =>
    obtain ⟨t, g, ok, hk, h4⟩ := h
    have e2 := put_eq (T := T) (M := M) (w := "put") (x := x) (t := t) (m := m) (k := k) h1 (by omega) g ok hk h4
    simp only [stD] at e2
    simp [Ch.e, Ch.go, sD, stD, txt, g, e2]
  | out x a b =>
    obtain ⟨t, g, hab, hb, ht⟩ := h
    have e2 := out_eq (T := T) (M := M) (w := "out") (x := x) (t := t) (a := a) (b := b) h1 (by omega) g hab hb ht
    simp only [stD] at e2
    simp [Ch.e, Ch.go, sD, stD, txt, g, e2]
  | sign x k v =>
    obtain ⟨t, g, hv, hk, ht⟩ := h
    have e2 := sign_eq (T := T) (M := M) (w := "sign") (x := x) (t := t) (k := k) (s := v) h1 g hv hk ht
    simp only [stD] at e2
    simp [Ch.e, Ch.go, sD, stD, txt, g, e2]
  | turn x =>
    obtain ⟨t, g, ht⟩ := h
    have e2 := turn_eq (T := T) (M := M) (w := "turn") (x := x) (t := t) h1 (by omega) g ht
    simp only [stD] at e2
    simp [Ch.e, Ch.go, sD, stD, txt, g, e2]
  | join x y =>
    obtain ⟨t, u, g1, g2, ht⟩ := h
    have e2 := join_eq (T := T) (M := M) (w := "join") (x := x) (y := y) (t := t) (u := u) h1 g1 g2 ht
    simp only [stD] at e2
    simp [Ch.e, Ch.go, sD, stD, txt, g1, g2, e2]
  | lift x m =>
    obtain ⟨y, a, b, t, g1, g2⟩ := h
    have e2 := lift_eq (T := T) (M := M) (w := "lift") (x := x) (m := m) (y := y) (t := t) (a := a) (b := b) h1 (by omega) g1 g2
    simp only [stD] at e2
    have g1' : getR m M = some (y, (a : Int), (b : Int)) := g1
    have g2' : getR y T = some t := g2
    simp [Ch.e, Ch.go, sD, stD, txt, g1', g2', e2]
end LW

-- P81e
set_option Elab.async false
set_option linter.all false
set_option maxRecDepth 100000
set_option maxHeartbeats 1000000
namespace LW
open PySem DL
/-! ### names -/
theorem blsD_all (f : D → Bool) : ∀ ds : List D, blsD (ds.map fun d => .bl (f d)) = some (ds.map f)
  | [] => rfl
  | d :: ds => by simp [blsD, blsD_all f ds]
abbrev LF : Str := (("abcdefghijklmnopqrstuvwxyz" : Str) ++ ("0123456789" : Str))
/-- a name: one to eight signs, all letters or figures, a letter first -/
def okName (x : Str) : Prop := 1 ≤ x.length ∧ x.length ≤ 8 ∧ (∃ c, x.cps.toList[0]? = some c ∧ c ∈ (("abcdefghijklmnopqrstuvwxyz" : Str)).cps.toList) ∧ ∀ c ∈ x.cps.toList, c ∈ LF.cps.toList
theorem allD_lst {n : Nat} {μ : Store} {bs : List Bool} (h : lstAt μ n = some (bs.map D.bl)) : allD [.ptr n] μ = some (.bl (bs.all id), μ) := by
  unfold allD lstOf
  simp only [h]
  have e : blsD (bs.map D.bl) = some bs := by
    clear h
    induction bs with
    | nil => rfl
    | cons b bs ih => simp [blsD, ih]
  rw [e]
  rfl
theorem atI0 {α : Type} {l : List α} {c : α} (h : l[0]? = some c) : L2.atI l 0 = some c := by
  cases l with
  | nil => cases h
  | cons a l => cases h; simp [L2.atI, L2.ixN]
theorem inD_sign (c : Nat) (z : Str) (μ : Store) : inD (.str ⟨#[c]⟩) (.str z) μ = some (.bl (decide (c ∈ z.cps.toList)), μ) := rfl
theorem is_name_eq (x : Str) (h : okName x) (μ : Store) : pureF F_is_name [.str x] μ = .ok (.bl true, μ) := by
  obtain ⟨h1, h2, ⟨c0, g1, g2⟩, h3⟩ := h
  refine pure_eq rfl rfl ?_ μ
  unfold F_is_name b_is_name
  have e1 : ∀ μ, ixD (.str x) (.int 0) μ = some (.str ⟨#[c0]⟩, μ) := fun μ => by
    unfold ixD ixB
    have := atI0 g1
    simp [seqD, this]
    omega
  have e2 : ∀ μ, ninD (.str ⟨#[c0]⟩) (.str "abcdefghijklmnopqrstuvwxyz") μ = some (.bl false, μ) := fun μ => by
    show some (D.bl (!decide (c0 ∈ _)), μ) = _
    rw [decide_eq_true g2]
    rfl
  simp [e1, e2]
  refine ⟨by omega, by omega, by omega, wm_lcP (fun _ => some (.bl true)) ?_⟩
  have e3 : ∀ μ, addD (.str "abcdefghijklmnopqrstuvwxyz") (.str "0123456789") μ = some (.str LF, μ) := fun μ => by
    rw [addD_str, if_pos (by decide)]
  have e4 : x.cps.toList.length < 16777216 := by
    show x.cps.size < _
    have : x.length = x.cps.size := rfl
    omega
  have e5 : ((signsD x).map fun _ => D.bl true) = (x.cps.toList.map fun _ => true).map D.bl := by simp [signsD]
  simp [e3]
  refine ⟨by simpa [signsD] using e4, ?_, ?_⟩
  · intro d hd μ'
    unfold signsD at hd
    obtain ⟨c, hc, rfl⟩ := List.mem_map.mp hd
    rw [inD_sign, decide_eq_true (h3 c hc)]
    simp
  · rw [e5, allD_lst (lstAt0 _ _)]
    simp
/-! ### single changes are well formed -/
/-- what a letter of a kind asks -/
def okK (k : Str) (d : D) : Prop := (k = "n" ∧ ∃ x, d = .str x ∧ okName x) ∨ (k = "p" ∧ ∃ i : Int, d = .int i ∧ 0 ≤ i) ∨ (k ≠ "n" ∧ k ≠ "p")
@[simp] theorem w_n_p : ¬ (("n" : Str) = "p") := by decide +kernel
@[simp] theorem w_p_n : ¬ (("p" : Str) = "n") := by decide +kernel
theorem kind_eq (k : Str) (d : D) (h : okK k d) (hd : noPtr d = true) (μ : Store) : pureF F_is_thing_of_kind [.str k, d] μ = .ok (.bl true, μ) := by
  refine pure_eq (by simp [noPtr.noPtrs, noPtr, hd]) rfl ?_ μ
  unfold F_is_thing_of_kind b_is_thing_of_kind
  rcases h with ⟨rfl, x, rfl, hx⟩ | ⟨rfl, i, rfl, hi⟩ | ⟨h1, h2⟩
  · simp [is_name_eq x hx]
  · simp [is_number_eq, hi]
  · simp [h1, h2]
end LW

-- P81f
set_option Elab.async false
set_option linter.all false
set_option maxRecDepth 100000
set_option maxHeartbeats 1000000
namespace LW
open PySem DL
@[simp] theorem gsNms_nil : gsNms [] = gsNil := rfl
@[simp] theorem gsNms_cons (i : Nat) (is : List Nat) : gsNms (i :: is) = gsCons (gNm i) (gsNms is) := rfl
@[simp] theorem gTupN_eq (n : Nat) (is : List Nat) : gTupN n is = gTupD n (gsNms is) := rfl
theorem zipD_mem {as bs : List D} {d : D} (h : d ∈ zipD as bs) : ∃ a b, d = .tup [a, b] ∧ (a, b) ∈ as.zip bs := by
  induction as generalizing bs with
  | nil => simp [zipD] at h
  | cons a as ih =>
    cases bs with
    | nil => simp [zipD] at h
    | cons b bs =>
      simp only [zipD, List.mem_cons] at h
      rcases h with rfl | h
      · exact ⟨a, b, rfl, by simp⟩
      · obtain ⟨x, y, h1, h2⟩ := ih h
        exact ⟨x, y, h1, by simp [h2]⟩
theorem is_single_eq {w kinds : Str} {ds : List D} (hk : T_KINDS.lookup w = some (.str kinds)) (hz : kinds.length ≤ 100) (hl : kinds.length = ds.length) (hn : noPtr.noPtrs ds = true) (h : ∀ p ∈ (signsD kinds).zip ds, ∃ k, p.1 = .str k ∧ okK k p.2) (μ : Store) :
    pureF F_is_single [.tup (.str w :: ds)] μ = .ok (.bl true, μ) := by
  refine pure_eq (by simp [noPtr.noPtrs, noPtr, hn]) rfl ?_ μ
  unfold F_is_single b_is_single
  have e1 : ∀ μ, kdNin T_KINDS (.str w) μ = some (.bl false, μ) := fun μ => by simp [kdNin, hk]
  have e2 : ∀ μ, kdIx T_KINDS (.str w) μ = some (.str kinds, μ) := fun μ => by simp [kdIx, hk]
  have e3 : cutD (.str w :: ds) (some 1) none = ds := cut_from (.str w :: ds) 1
  simp [e1, e2, e3, hl]
  refine ⟨by omega, by omega, wm_lcP (fun _ => some (.bl true)) ?_⟩
  simp [e3]
  refine ⟨by rw [@zipD_length ⟨[]⟩ (signsD kinds) ds]; simp only [signsD, List.length_map, Array.length_toList]; have : kinds.length = kinds.cps.size := rfl; omega, ?_, ?_⟩
  · intro d hd μ'
    obtain ⟨a, b, rfl, hab⟩ := zipD_mem hd
    obtain ⟨k, ha, hok⟩ := h _ hab
    simp only at ha hok
    subst ha
    have hb : noPtr b = true := by
      have := (List.of_mem_zip hab).2
      rw [np_all] at hn
      exact List.all_eq_true.mp hn b this
    simp [kind_eq k b hok hb]
  · have e5 : ∀ l : List D, (l.map fun _ => D.bl true) = (l.map fun _ => true).map D.bl := fun l => by simp
    rw [e5, allD_lst (lstAt0 _ _)]
    simp
/-! ### changes are well formed -/
def Ch.wf : Ch → Prop
  | .text x _ => okName x
  | .mark m x _ _ => okName m ∧ okName x
  | .put x _ _ => okName x
  | .out x _ _ => okName x
  | .sign x _ _ => okName x
  | .turn x => okName x
  | .join x y => okName x ∧ okName y
  | .lift x m => okName x ∧ okName m
theorem okK_n {x : Str} (h : okName x) : okK "n" (.str x) := .inl ⟨rfl, x, rfl, h⟩
theorem okK_p (i : Nat) : okK "p" (.int i) := .inr (.inl ⟨rfl, i, rfl, by omega⟩)
theorem okK_t (d : D) : okK "t" d := .inr (.inr ⟨by decide +kernel, by decide +kernel⟩)
theorem okK_s (d : D) : okK "s" d := .inr (.inr ⟨by decide +kernel, by decide +kernel⟩)
theorem sg (l : List Str) (k : Str) (h : k.cps.toList.map (fun c => (⟨#[c]⟩ : Str)) = l) : signsD k = l.map D.str := by
  unfold signsD
  rw [← h]
  simp
theorem single_wf (c : Ch) (h : c.wf) (μ : Store) : pureF F_is_single [c.e] μ = .ok (.bl true, μ) := by
  cases c with
  | text x t =>
    refine is_single_eq (kinds := "nt") rfl (by decide) rfl (by simp [noPtr.noPtrs, noPtr, np_ints]) ?_ μ
    rw [sg ["n", "t"] "nt" (by decide +kernel)]
    rintro p hp
    simp at hp
    rcases hp with rfl | rfl
    · exact ⟨_, rfl, okK_n h⟩
    · exact ⟨_, rfl, okK_t _⟩
  | mark m x a b =>
    refine is_single_eq (kinds := "nnpp") rfl (by decide) rfl (by simp [noPtr.noPtrs, noPtr]) ?_ μ
    rw [sg ["n", "n", "p", "p"] "nnpp" (by decide +kernel)]
    rintro p hp
    simp at hp
    rcases hp with rfl | rfl | rfl | rfl
    · exact ⟨_, rfl, okK_n h.1⟩
    · exact ⟨_, rfl, okK_n h.2⟩
    · exact ⟨_, rfl, okK_p _⟩
    · exact ⟨_, rfl, okK_p _⟩
  | put x k t =>
    refine is_single_eq (kinds := "npt") rfl (by decide) rfl (by simp [noPtr.noPtrs, noPtr, np_ints]) ?_ μ
    rw [sg ["n", "p", "t"] "npt" (by decide +kernel)]
    rintro p hp
    simp at hp
    rcases hp with rfl | rfl | rfl
    · exact ⟨_, rfl, okK_n h⟩
    · exact ⟨_, rfl, okK_p _⟩
    · exact ⟨_, rfl, okK_t _⟩
  | out x a b =>
    refine is_single_eq (kinds := "npp") rfl (by decide) rfl (by simp [noPtr.noPtrs, noPtr]) ?_ μ
    rw [sg ["n", "p", "p"] "npp" (by decide +kernel)]
    rintro p hp
    simp at hp
    rcases hp with rfl | rfl | rfl
    · exact ⟨_, rfl, okK_n h⟩
    · exact ⟨_, rfl, okK_p _⟩
    · exact ⟨_, rfl, okK_p _⟩
  | sign x k s =>
    refine is_single_eq (kinds := "nps") rfl (by decide) rfl (by simp [noPtr.noPtrs, noPtr]) ?_ μ
    rw [sg ["n", "p", "s"] "nps" (by decide +kernel)]
    rintro p hp
    simp at hp
    rcases hp with rfl | rfl | rfl
    · exact ⟨_, rfl, okK_n h⟩
    · exact ⟨_, rfl, okK_p _⟩
    · exact ⟨_, rfl, okK_s _⟩
  | turn x =>
    refine is_single_eq (kinds := "n") rfl (by decide) rfl (by simp [noPtr.noPtrs, noPtr]) ?_ μ
    rw [sg ["n"] "n" (by decide +kernel)]
    rintro p hp
    simp at hp
    subst hp
    exact ⟨_, rfl, okK_n h⟩
  | join x y =>
    refine is_single_eq (kinds := "nn") rfl (by decide) rfl (by simp [noPtr.noPtrs, noPtr]) ?_ μ
    rw [sg ["n", "n"] "nn" (by decide +kernel)]
    rintro p hp
    simp at hp
    rcases hp with rfl | rfl
    · exact ⟨_, rfl, okK_n h.1⟩
    · exact ⟨_, rfl, okK_n h.2⟩
  | lift x m =>
    refine is_single_eq (kinds := "nn") rfl (by decide) rfl (by simp [noPtr.noPtrs, noPtr]) ?_ μ
    rw [sg ["n", "n"] "nn" (by decide +kernel)]
    rintro p hp
    simp at hp
    rcases hp with rfl | rfl
    · exact ⟨_, rfl, okK_n h.1⟩
    · exact ⟨_, rfl, okK_n h.2⟩
end LW

-- P81g
set_option Elab.async false
set_option linter.all false
set_option maxRecDepth 100000
set_option maxHeartbeats 1000000
namespace LW
open PySem DL
inductive BC where
  | one (c : Ch) | all (cs : List Ch)
def BC.e : BC → D
  | .one c => c.e
  | .all cs => .tup (.str "all" :: cs.map Ch.e)
def BC.chs : BC → List Ch
  | .one c => [c]
  | .all cs => cs
def BC.wf (b : BC) : Prop := 1 ≤ b.chs.length ∧ b.chs.length ≤ 20 ∧ ∀ c ∈ b.chs, c.wf
theorem np_ch (c : Ch) : noPtr c.e = true := by cases c <;> simp [Ch.e, noPtr, noPtr.noPtrs, np_ints]
theorem np_chs (cs : List Ch) : noPtr.noPtrs (cs.map Ch.e) = true := by
  induction cs with
  | nil => rfl
  | cons c cs ih => simp [noPtr.noPtrs, np_ch, ih]
theorem np_bc (b : BC) : noPtr b.e = true := by
  cases b with
  | one c => exact np_ch c
  | all cs => simp [BC.e, noPtr, noPtr.noPtrs, np_chs]
/-- a single change: a word that is not 'all', and more -/
theorem ch_shape (c : Ch) : ∃ (w : Str) (ds : List D), c.e = .tup (.str w :: ds) ∧ ¬ w = "all" := by
  cases c <;> exact ⟨_, _, rfl, by decide +kernel⟩
theorem cut1 (d : D) (ds : List D) : cutD (d :: ds) (some 1) none = ds := cut_from (d :: ds) 1
theorem allTrue (l : List D) : (l.map fun _ => D.bl true) = (l.map fun _ => true).map D.bl := by simp
theorem need_change_eq (b : BC) (h : b.wf) (μ : Store) : pureF F_need_change [b.e] μ = .ok (b.e, μ) := by
  refine pure_eq (by simp [noPtr.noPtrs, np_bc]) (np_bc b) ?_ μ
  obtain ⟨h1, h2, h3⟩ := h
  unfold F_need_change b_need_change
  cases b with
  | one c =>
    obtain ⟨w, ds, e, hw⟩ := ch_shape c
    simp only [BC.e, BC.chs] at *
    rw [e]
    simp [hw]
    refine wm_lcP (fun _ => some (.bl true)) ?_
    rw [← e]
    simp [single_wf c (h3 c (by simp)), lstAt0]
    rw [show [D.bl true] = [true].map D.bl from rfl, allD_lst (lstAt0 _ _)]
    simp
  | all cs =>
    simp only [BC.e, BC.chs] at *
    simp [cut1]
    refine ⟨by omega, by omega, wm_lcP (fun _ => some (.bl true)) ?_⟩
    simp [cut1]
    refine ⟨by omega, ?_, ?_⟩
    · intro c hc μ'
      simp [single_wf c (h3 c hc)]
    · have q : ∀ l : List Ch, List.filterMap ((fun _ => some (D.bl true)) ∘ Ch.e) l = (l.map fun _ => true).map D.bl := fun l => by
        induction l with
        | nil => rfl
        | cons a l ih => simp_all
      rw [q, allD_lst (lstAt0 _ _)]
      simp
/-- all changes in a row -/
def goAll : List Ch → St → St
  | [], s => s
  | c :: cs, s => goAll cs (c.go s)
def okAll : List Ch → St → Prop
  | [], _ => True
  | c :: cs, s => c.ok s ∧ okAll cs (c.go s)
theorem change_eq (b : BC) (s : St) (h : okAll b.chs s) (hl : b.chs.length < 1000) (μ : Store) : pureF F_behind_change [sD s, b.e] μ = .ok (sD (goAll b.chs s), μ) := by
  refine pure_eq (by simp [noPtr.noPtrs, np_stD, np_bc]) (np_stD _ _) ?_ μ
  unfold F_behind_change b_behind_change
  have key : ∀ {k : KE} {i : M Src} {bd : D} {ρ2 : Option D} {μ0 : Store} (hi : wm i [some (sD s), some bd, ρ2, none] μ0 k.X fun sr μ => sr = ⟨b.chs.map Ch.e, []⟩) (hk : ∀ x μ, k.N [some (sD (goAll b.chs s)), some bd, ρ2, x] μ),
      wp (sFor i (gNm 3) (sSet (mCall 2 (pureF F_behind_single) (aCons (mVar 0) (aCons (mVar 3) aNil))) (gNm 0))) [some (sD s), some bd, ρ2, none] μ0 k := by
    intro k i bd ρ2 μ0 hi hk
    refine wp_for (fun r ρ μ => ∃ cs s', r = cs.map Ch.e ∧ okAll cs s' ∧ goAll cs s' = goAll b.chs s ∧ ∃ x, ρ = [some (sD s'), some bd, ρ2, x]) ?_ ?_ ?_
    · refine wo_imp (o := i _ _) hi (fun sr μ e => ?_) fun _ _ _ z => z
      subst e
      exact ⟨⟨b.chs, s, rfl, h, rfl, none, rfl⟩, fun _ _ _ _ => by simp⟩
    · rintro d r ρ μ ⟨cs, s', hr, ho, hg, x, rfl⟩
      cases cs with
      | nil => cases hr
      | cons c cs =>
        simp only [List.map_cons] at hr
        injection hr with h1 h2
        subst h1 h2
        simp [single_eq c s' ho.1]
        exact ⟨cs, rfl, (c.go s').1, (c.go s').2, ho.2, hg, rfl⟩
    · rintro ρ μ ⟨cs, s', hr, ho, hg, x, rfl⟩
      cases cs with
      | cons c cs => cases hr
      | nil =>
        have hg : s' = goAll b.chs s := hg
        rw [hg]; exact hk x μ
  cases b with
  | one c =>
    obtain ⟨w, ds, e, hw⟩ := ch_shape c
    simp only [BC.e, BC.chs] at *
    rw [e]
    simp [hw]
    refine key ?_ ?_
    · simp [e]
    · simp
  | all cs =>
    simp only [BC.e, BC.chs] at *
    simp [cut1]
    refine key ?_ ?_
    · simp
    · simp
end LW

-- P81h
set_option Elab.async false
set_option linter.all false
set_option maxRecDepth 100000
set_option maxHeartbeats 1000000
namespace LW
open PySem DL
/-! ### a book: its states (the newest last), its changes, how many stand -/
def bkF (sts chs : List D) (n : Nat) : List (Str × D) := [("own_states", .rol sts), ("own_changes", .rol chs), ("own_at", .int n)]
/-- a book stands at p -/
structure BookAt (μ : Store) (p : Nat) (hist chs : List D) (s : St) : Prop where
  at_ : μ[p]? = some (.ins "Book" (bkF (hist ++ [sD s]) chs hist.length))
  len : chs.length = hist.length
  fh : fzs hist = true
  fc : fzs chs = true
@[simp] theorem f_sc : ¬ (("own_states" : Str) = "own_changes") := by decide +kernel
@[simp] theorem f_sa : ¬ (("own_states" : Str) = "own_at") := by decide +kernel
@[simp] theorem f_ca : ¬ (("own_changes" : Str) = "own_at") := by decide +kernel
@[simp] theorem f_cs : ¬ (("own_changes" : Str) = "own_states") := by decide +kernel
@[simp] theorem f_as : ¬ (("own_at" : Str) = "own_states") := by decide +kernel
@[simp] theorem f_ac : ¬ (("own_at" : Str) = "own_changes") := by decide +kernel
theorem bk_states (sts chs : List D) (n : Nat) : (bkF sts chs n).lookup ("own_states" : Str) = some (.rol sts) := by simp [bkF, List.lookup]
theorem bk_changes (sts chs : List D) (n : Nat) : (bkF sts chs n).lookup ("own_changes" : Str) = some (.rol chs) := by
  have : (("own_changes" : Str) == "own_states") = false := by decide +kernel
  simp [bkF, List.lookup, this]
theorem bk_at (sts chs : List D) (n : Nat) : (bkF sts chs n).lookup ("own_at" : Str) = some (.int n) := by
  have h1 : (("own_at" : Str) == "own_states") = false := by decide +kernel
  have h2 : (("own_at" : Str) == "own_changes") = false := by decide +kernel
  simp [bkF, List.lookup, h1, h2]
theorem bk_none (sts chs : List D) (n : Nat) (x : Str) (h1 : (x == "own_states") = false) (h2 : (x == "own_changes") = false) (h3 : (x == "own_at") = false) : (bkF sts chs n).lookup x = none := by
  simp [bkF, List.lookup, h1, h2, h3]
theorem put_states (sts chs : List D) (n : Nat) (d : List D) : putD "own_states" (.rol d) (bkF sts chs n) = bkF d chs n := by simp [bkF, putD]
theorem put_changes (sts chs : List D) (n : Nat) (d : List D) : putD "own_changes" (.rol d) (bkF sts chs n) = bkF sts d n := by simp [bkF, putD]
theorem put_at (sts chs : List D) (n m : Nat) : putD "own_at" (.int m) (bkF sts chs n) = bkF sts chs m := by simp [bkF, putD]
@[simp] theorem bk_len (sts chs : List D) (n : Nat) : (bkF sts chs n).length = 3 := rfl
theorem fz_sD (s : St) : fz (sD s) = true := fz_np _ (np_stD _ _)
theorem fz_bc (b : BC) : fz b.e = true := fz_np _ (np_bc b)
theorem fz_bk {sts chs : List D} (n : Nat) (h1 : fzs sts = true) (h2 : fzs chs = true) : fzO (.ins "Book" (bkF sts chs n)) = true := by simp [fzO, fzF, bkF, h1, h2]
theorem init_eq (μ : Store) : F_Book___init__ [.ptr μ.length] (μ ++ [.ins "Book" []]) = .ok (.non, μ ++ [.ins "Book" (bkF [sD ([], [])] [] 0)]) := by
  refine gc_eq ?_
  unfold b_Book___init__
  simp [insAt, putD]
  have q : ∀ o : MO, μ ++ [o] = (μ ++ [MO.ins "Book" []]).set μ.length o := fun o => by simp
  rw [q (MO.ins "Book" [("own_states", .rol [.tup [.tup [], .tup []]]), ("own_changes", .rol []), ("own_at", .int 0)]), gcP_set rfl (by simp [fzO, fzF])]
  exact ⟨rfl, by simp [bkF, sD, stD, rT, rM]⟩
theorem BookAt.i {μ : Store} {p : Nat} {hist chs : List D} {s : St} (B : BookAt μ p hist chs s) : insAt μ "Book" p = some (bkF (hist ++ [sD s]) chs hist.length) := @insAt_of ⟨[]⟩ _ _ _ _ B.at_
theorem BookAt.lt {μ : Store} {p : Nat} {hist chs : List D} {s : St} (B : BookAt μ p hist chs s) : p < μ.length := (List.getElem?_eq_some_iff.mp B.at_).1
theorem insAt_set {μ : Store} {p : Nat} {c : Str} {fs : List (Str × D)} (h : p < μ.length) : insAt (μ.set p (.ins c fs)) c p = some fs := by
  unfold insAt
  rw [List.getElem?_set_self h]
  simp
theorem addD_rol {μ : Store} (a b : List D) : addD (.rol a) (.rol b) μ = if a.length + b.length ≤ 16777216 then some (.ptr μ.length, μ ++ [.lst (a ++ b)]) else none := rfl
theorem ixD_rol {μ : Store} (a : List D) (i : Int) : ixD (.rol a) (.int i) μ = (L2.atI a i).map fun d => (d, μ) := rfl
theorem book_change {μ : Store} {p : Nat} {hist chs : List D} {s : St} (B : BookAt μ p hist chs s) (b : BC) (hw : b.wf) (ho : okAll b.chs s) (hl : hist.length < 200) :
    F_Book_change [.ptr p, b.e] μ = .ok (.non, μ.set p (.ins "Book" (bkF (hist ++ [sD s] ++ [sD (goAll b.chs s)]) (chs ++ [b.e]) (hist.length + 1)))) := by
  have e1 := need_change_eq b hw
  have e2 := change_eq b s ho (by have := hw.2.1; omega)
  refine gc_eq ?_
  unfold b_Book_change
  have hc1 : cutD (hist ++ [sD s]) none (some ((hist.length : Int) + 1)) = hist ++ [sD s] := by
    have := cut_to (hist ++ [sD s]) (hist.length + 1)
    rw [show ((hist.length : Int) + 1) = ((hist.length + 1 : Nat) : Int) by simp, this, List.take_of_length_le (by simp)]
  have hc2 : cutD chs none (some (hist.length : Int)) = chs := by rw [cut_to, ← B.len, List.take_length]
  have e3 : ∀ μ, ixD (.rol (hist ++ [sD s])) (.int hist.length) μ = some (sD s, μ) := fun μ => by
    rw [ixD_rol, atI_nat]
    simp
  have hne : ¬ (hist.length : Int) = 200 := by omega
  have f1 : fzs (hist ++ [sD s]) = true := by simp [B.fh, fz_sD]
  have f2 := fz_sD (goAll b.chs s)
  have m1 : ∀ f, mapD true f (sD (goAll b.chs s)) = some (sD (goAll b.chs s)) := fun f => mapD_fz f _ f2
  have m2 : ∀ f, mapD true f b.e = some b.e := fun f => mapD_fz f _ (fz_bc b)
  have m3 : ∀ f, mapDs true f (hist ++ [sD s]) = some (hist ++ [sD s]) := fun f => mapDs_fz f _ f1
  have m4 : ∀ f, mapDs true f chs = some chs := fun f => mapDs_fz f _ B.fc
  have m5 : ∀ f, mapDs true f hist = some hist := fun f => mapDs_fz f _ B.fh
  have m6 : ∀ f, mapD true f (sD s) = some (sD s) := fun f => mapD_fz f _ (fz_sD s)
  have l1 := B.lt
  have l2 : chs.length < 200 := by rw [B.len]; exact hl
  simp [fldD, B.i, bk_states, bk_changes, bk_at, e1, e3, e2, hc1, hne, m1, m2, m3, m4, m5, m6, addD_rol, put_states, put_changes, insAt_set l1, hc2]
  refine ⟨by omega, by omega, ?_⟩
  have e9 : ((hist.length : Int) + 1) = ((hist.length + 1 : Nat) : Int) := by simp
  rw [e9, put_at]
  rw [gcP_set rfl]
  · exact ⟨rfl, by simp⟩
  · exact fz_bk _ (by simp [B.fh, fz_sD, f2]) (by simp [B.fc, fz_bc])
theorem book_changed {μ : Store} {p : Nat} {hist chs : List D} {s s' : St} (B : BookAt μ p hist chs s) (b : D) (hb : fz b = true) : BookAt (μ.set p (.ins "Book" (bkF (hist ++ [sD s] ++ [sD s']) (chs ++ [b]) (hist.length + 1)))) p (hist ++ [sD s]) (chs ++ [b]) s' :=
  ⟨by rw [List.getElem?_set_self B.lt]; simp, by simp [B.len], by simp [B.fh, fz_sD], by simp [B.fc, hb]⟩
theorem BookAt.app {μ : Store} {p : Nat} {hist chs : List D} {s : St} (B : BookAt μ p hist chs s) (r : Store) : BookAt (μ ++ r) p hist chs s := ⟨by rw [List.getElem?_append_left B.lt]; exact B.at_, B.len, B.fh, B.fc⟩
theorem BookAt.set {μ : Store} {p n : Nat} {hist chs : List D} {s : St} (B : BookAt μ p hist chs s) (o : MO) (h : n ≠ p) : BookAt (μ.set n o) p hist chs s := ⟨by rw [List.getElem?_set_ne h]; exact B.at_, B.len, B.fh, B.fc⟩
section
variable {μ : Store} {p : Nat} {hist chs : List D} {s : St}
theorem BookAt.now (B : BookAt μ p hist chs s) (μ' : Store) : ixD (.rol (hist ++ [sD s])) (.int hist.length) μ' = some (.tup [.tup (encR (rT s.1)), .tup (encR (rM s.2))], μ') := by
  rw [ixD_rol, atI_nat]
  simp [stD]
theorem fz_rows {r : Rows} (h : npR r) : fzs (encR r) = true := fzs_np _ (np_rows h)
@[simp] theorem fz_rT (T : Tx) : fzs (encR (rT T)) = true := fz_rows (np_rT T)
@[simp] theorem fz_rM (M : Mk) : fzs (encR (rM M)) = true := fz_rows (np_rM M)
theorem book_texts (B : BookAt μ p hist chs s) : F_Book_texts [.ptr p] μ = .ok (.tup (encR (rT s.1)), μ) := by
  refine gc_eq ?_
  unfold b_Book_texts
  simp [fldD, B.i, bk_states, bk_at, B.now]
theorem book_marks (B : BookAt μ p hist chs s) : F_Book_marks [.ptr p] μ = .ok (.tup (encR (rM s.2)), μ) := by
  refine gc_eq ?_
  unfold b_Book_marks
  simp [fldD, B.i, bk_states, bk_at, B.now]
theorem nn_texts (sts chs : List D) (n : Nat) : (bkF sts chs n).lookup ("texts" : Str) = none := bk_none _ _ _ _ (by decide +kernel) (by decide +kernel) (by decide +kernel)
theorem nn_marks (sts chs : List D) (n : Nat) : (bkF sts chs n).lookup ("marks" : Str) = none := bk_none _ _ _ _ (by decide +kernel) (by decide +kernel) (by decide +kernel)
theorem nn_text (sts chs : List D) (n : Nat) : (bkF sts chs n).lookup ("text" : Str) = none := bk_none _ _ _ _ (by decide +kernel) (by decide +kernel) (by decide +kernel)
theorem nn_mark (sts chs : List D) (n : Nat) : (bkF sts chs n).lookup ("mark" : Str) = none := bk_none _ _ _ _ (by decide +kernel) (by decide +kernel) (by decide +kernel)
theorem nn_marked (sts chs : List D) (n : Nat) : (bkF sts chs n).lookup ("marked" : Str) = none := bk_none _ _ _ _ (by decide +kernel) (by decide +kernel) (by decide +kernel)
theorem nn_change (sts chs : List D) (n : Nat) : (bkF sts chs n).lookup ("change" : Str) = none := bk_none _ _ _ _ (by decide +kernel) (by decide +kernel) (by decide +kernel)
theorem book_text (B : BookAt μ p hist chs s) {x : Str} {t : List Int} (h : getR x s.1 = some t) : F_Book_text [.ptr p, .str x] μ = .ok (encI t, μ) := by
  obtain ⟨j, e1, e2⟩ := text_get h
  refine gc_eq ?_
  unfold b_Book_text
  simp [B.i, nn_texts, book_texts B, e1, e2]
theorem book_mark (B : BookAt μ p hist chs s) {x : Str} {m : Str × Int × Int} (h : getR x s.2 = some m) : F_Book_mark [.ptr p, .str x] μ = .ok (mkD m, μ) := by
  obtain ⟨j, e1, e2⟩ := mark_get h
  refine gc_eq ?_
  unfold b_Book_mark
  simp [B.i, nn_marks, book_marks B, e1, e2, mkD]
theorem book_marked (B : BookAt μ p hist chs s) {x y : Str} {u v : Nat} {t : List Int} (h : getR x s.2 = some (y, (u : Int), (v : Int))) (h2 : getR y s.1 = some t) : F_Book_marked [.ptr p, .str x] μ = .ok (encI ((t.drop u).take (v - u)), μ) := by
  have e1 := book_mark B h
  have e2 := book_text B h2
  refine gc_eq ?_
  unfold b_Book_marked
  simp [B.i, nn_mark, nn_text, e1, mkD, e2, cut_map_fromto]
end
end LW

-- PT81
set_option Elab.async false
set_option linter.all false
set_option maxRecDepth 100000
set_option maxHeartbeats 2000000
namespace LW
open PySem DL
/-! ### the tape -/
/-- the next number -/
def takeR (tp : List Int) (k : Int) : Int := tp.getLast?.getD 0 % k
theorem takeR_lt {tp : List Int} {k : Int} (h : 0 < k) : 0 ≤ takeR tp k ∧ takeR tp k < k := ⟨Int.emod_nonneg _ (by omega), Int.emod_lt_of_pos _ h⟩
theorem take_eq {q : Nat} {tp : List Int} {k : Int} {μ : Store} (h : lstAt μ q = some (tp.map D.int)) (hk : 0 < k) : F__law_take [.ptr q, .int k] μ = .ok (.int (takeR tp k), μ.set q (.lst (tp.dropLast.map D.int))) := by
  refine gc_eq ?_
  unfold b__law_take
  have hq := lstAt_lt h
  have e1 : ∀ μ' : Store, lstAt μ' q = some (tp.map D.int) → eqD (.ptr q) (.rol []) μ' = some (.bl (decide (tp = [])), μ') := fun μ' h' => by
    unfold eqD eqB eqS
    simp only [toPy, h', mapO]
    have : mapO (toPy μ' 59) (tp.map D.int) = some (pys (tp.map D.int)) := (@goods_py ⟨[]⟩ μ' 59 (tp.map D.int) (by simp)).1
    have q2 := (@goods_py ⟨[]⟩ μ' 59 (tp.map D.int) (by simp))
    rw [this]
    have s1 : SeqAt.shaped (PyData.list (pys (tp.map D.int))) = true := by unfold SeqAt.shaped; simp [PyData.canLay0, PyData.depth, q2.2.1]; omega
    have s2 : SeqAt.shaped (PyData.list []) = true := by decide
    simp only [Option.map_some, s1, s2, Bool.and_self, if_true]
    cases tp with
    | nil => simp [pys, PyData.eqv, PyData.eqvAll]
    | cons a l => simp [pys, PyData.eqv, PyData.eqvAll]
  by_cases ht : tp = []
  · subst ht
    have e2 : μ.set q (.lst []) = μ := by
      refine List.ext_getElem? fun m => ?_
      by_cases z : q = m
      · subst z; rw [List.getElem?_set_self hq]; exact (@lstAt_eq ⟨[]⟩ _ _ _ h).symm
      · rw [List.getElem?_set_ne z]
    simp [e1 μ h, takeR, e2]
  · simp [e1 μ h, ht, h, popD_ints h ht, hk]
    rw [gcP_set rfl (by simp [fzO])]
    refine ⟨?_, by simp⟩
    simp [takeR, List.getLast?_eq_some_getLast ht]
theorem tape_eq (ns : List Int) (c : Int) : ∃ (l : List Int) (u v : MO), F__law_tape [.kst (ns.map D.int), .int 900, .int c] [] = .ok (.ptr 2, [u, v, .lst (l.map D.int)]) := by
  have key : wo (F__law_tape [.kst (ns.map D.int), .int 900, .int c] []) X0 fun d ν => ∃ (l : List Int) (u v : MO), d = .ptr 2 ∧ ν = [u, v, .lst (l.map D.int)] := by
    unfold F__law_tape b__law_tape
    have hc : cutD (ns.map D.int) none (some 63) = (ns.take 63).map D.int := cut_map_to ns 63
    have hc2 : ∀ l : List Int, cutD (l.map D.int) none (some 900) = (l.take 900).map D.int := fun l => cut_map_to l 900
    have hn : (ns.take 63).length ≤ 63 := by simp; omega
    simp
    refine wp_forL (ns.take 63) D.int (fun done rest ρ μ => ∃ (l : List Int) (x1 x2 x3 x4 x5 : Option D), μ = [.lst (l.map D.int)] ∧ l.length ≤ 60 * done.length ∧ ρ = [some (.kst (ns.map D.int)), some (.int 900), some (.int c), some (.ptr 0), x1, x2, x3, x4, x5]) ?_ ?_ ?_
    · simp [hc]
    · rintro done a rest ρ μ hl ⟨l, x1, x2, x3, x4, x5, rfl, hlen, rfl⟩
      have hd : done.length + (rest.length + 1) ≤ 63 := by
        have := congrArg List.length hl
        simp at this; omega
      simp
      generalize (if a < 0 then -a else a) = z
      refine br_of (fun _ => ?_) (fun _ => ?_)
      · refine wp_forL (List.range 60) (fun i : Nat => D.int i) (fun d2 r2 ρ μ => ∃ (l' : List Int) (x1 x3 x4 x5 : Option D) (rs : Int), μ = [.lst (l'.map D.int)] ∧ l'.length ≤ 60 * done.length + d2.length ∧ ρ = [some (.kst (ns.map D.int)), some (.int 900), some (.int c), some (.ptr 0), x1, some (.int rs), x3, x4, x5]) ?_ ?_ ?_
        · simp [range_map]
          exact ⟨l, rfl, hlen⟩
        · rintro d2 b r2 ρ μ hl2 ⟨l', x1, x3, x4, x5, rs, rfl, hlen', rfl⟩
          have hd2 : d2.length + (r2.length + 1) = 60 := by
            have := congrArg List.length hl2
            simp at this; omega
          simp
          refine br_of (fun _ => ?_) (fun _ => ?_)
          · exact ⟨l', rfl, by omega⟩
          · exact ⟨by omega, l' ++ [rs % 1000], by simp, by simp; omega⟩
        · rintro ρ μ ⟨l', x1, x3, x4, x5, rs, rfl, hlen', rfl⟩
          simp at hlen'
          exact ⟨l', _, _, _, _, _, rfl, by simp; omega, rfl⟩
      · exact ⟨l, rfl, by omega⟩
    · rintro ρ μ ⟨l, x1, x2, x3, x4, x5, rfl, hlen, rfl⟩
      have hlen : l.length ≤ 60 * 63 := by omega
      simp
      refine wp_forL (ns.take 63) D.int (fun done rest ρ μ => ∃ (x1 x2 x3 x5 : Option D) (st : Int), μ = [.lst (l.map D.int)] ∧ ρ = [some (.kst (ns.map D.int)), some (.int 900), some (.int c), some (.ptr 0), x1, x2, x3, some (.int st), x5]) ?_ ?_ ?_
      · simp [hc]
      · rintro done a rest ρ μ hl ⟨x1, x2, x3, x5, st, rfl, rfl⟩
        simp
      · rintro ρ μ ⟨x1, x2, x3, x5, st, rfl, rfl⟩
        simp
        refine wp_forL (List.range 900) (fun i : Nat => D.int i) (fun d2 r2 ρ μ => ∃ (l' : List Int) (x1 x2 x3 x5 : Option D) (st : Int), μ = [.lst (l'.map D.int)] ∧ l'.length ≤ 60 * 63 + d2.length ∧ ρ = [some (.kst (ns.map D.int)), some (.int 900), some (.int c), some (.ptr 0), x1, x2, x3, some (.int st), x5]) ?_ ?_ ?_
        · simp [range_map]
          exact ⟨l, rfl, hlen⟩
        · rintro d2 b r2 ρ μ hl2 ⟨l', x1, x2, x3, x5, st, rfl, hlen', rfl⟩
          have hd2 : d2.length + (r2.length + 1) = 900 := by
            have := congrArg List.length hl2
            simp at this; omega
          simp
          have hb : ∀ s : Int, 0 ≤ s % 2147483647 ∧ s % 2147483647 < 2147483647 := fun s => ⟨Int.emod_nonneg _ (by omega), Int.emod_lt_of_pos _ (by omega)⟩
          have hb := hb (st * 69621 + b + 12345)
          refine br_of (fun _ => ⟨(l'.take 900).reverse, by rw [hc2 l']; simp⟩) (fun _ => ⟨.inl (by omega), by omega, l' ++ [_], by rw [List.map_append]; rfl, by simp; omega⟩)
        · rintro ρ μ ⟨l', x1, x2, x3, x5, st, rfl, hlen', rfl⟩
          simp
          exact ⟨(l'.take 900).reverse, by rw [hc2 l']; simp⟩
  obtain ⟨d, ν, e, l, u, v, rfl, rfl⟩ := wo_get key
  exact ⟨l, u, v, e⟩
end LW

-- PS
set_option Elab.async false
set_option linter.all false
set_option maxRecDepth 100000
set_option maxHeartbeats 1000000
namespace LW
open PySem DL
/-! ### what is like itself -/
mutual
def lk : Nat → D → Bool
  | 0, _ => false
  | _ + 1, .non => true
  | _ + 1, .bl _ => true
  | _ + 1, .int _ => true
  | _ + 1, .str _ => true
  | n + 1, .tup ds => lks n ds
  | _ + 1, _ => false
def lks : Nat → List D → Bool
  | _, [] => true
  | n, d :: ds => lk n d && lks n ds
end
theorem lks_all (n : Nat) (ds : List D) : lks n ds = ds.all (lk n) := by
  induction ds with
  | nil => simp [lks]
  | cons d ds ih => simp [lks, ih]
@[simp] theorem lk_non (n : Nat) : lk (n + 1) .non = true := by simp [lk]
@[simp] theorem lk_bl (n : Nat) (b : Bool) : lk (n + 1) (.bl b) = true := by simp [lk]
@[simp] theorem lk_int (n : Nat) (i : Int) : lk (n + 1) (.int i) = true := by simp [lk]
@[simp] theorem lk_str (n : Nat) (x : Str) : lk (n + 1) (.str x) = true := by simp [lk]
@[simp] theorem lk_tup (n : Nat) (ds : List D) : lk (n + 1) (.tup ds) = lks n ds := by simp [lk]
@[simp] theorem lks_nil (n : Nat) : lks n [] = true := by simp [lks]
@[simp] theorem lks_cons (n : Nat) (d : D) (ds : List D) : lks n (d :: ds) = (lk n d && lks n ds) := by simp [lks]
@[simp] theorem lks_ints (n : Nat) (l : List Int) : lks (n + 1) (l.map D.int) = true := by simp [lks_all]
mutual
theorem lk_np : ∀ (n : Nat) (d : D), lk n d = true → noPtr d = true
  | 0, _, h => by simp [lk] at h
  | _ + 1, .non, _ => rfl
  | _ + 1, .bl _, _ => rfl
  | _ + 1, .int _, _ => rfl
  | _ + 1, .str _, _ => rfl
  | n + 1, .tup ds, h => by simp only [noPtr]; exact lks_np n ds (by simpa using h)
  | _ + 1, .ptr _, h => by simp [lk] at h
  | _ + 1, .rol _, h => by simp [lk] at h
  | _ + 1, .kst _, h => by simp [lk] at h
  | _ + 1, .raw _, h => by simp [lk] at h
  | _ + 1, .lam _ _ _ _, h => by simp [lk] at h
theorem lks_np : ∀ (n : Nat) (ds : List D), lks n ds = true → noPtr.noPtrs ds = true
  | _, [], _ => rfl
  | n, d :: ds, h => by
    simp only [lks_cons, Bool.and_eq_true] at h
    simp [noPtr.noPtrs, lk_np n d h.1, lks_np n ds h.2]
end
theorem zip_self (ds : List D) : zipD ds ds = ds.map fun d => .tup [d, d] := by
  induction ds with
  | nil => rfl
  | cons d ds ih => simp [zipD, ih]
theorem like_self : ∀ (n : Nat) (d : D) (μ : Store), lk n d = true → pureF (F__law_like n) [d, d] μ = .ok (.bl true, μ)
  | 0, _, _, h => by simp [lk] at h
  | n + 1, d, μ, h => by
    have hp := lk_np _ _ h
    refine pure_eq (by simp [noPtr.noPtrs, hp]) rfl ?_ μ
    unfold F__law_like b__law_like
    cases d with
    | tup ds =>
      simp
      refine wp_forL ds (fun d => .tup [d, d]) (fun done rest ρ μ => ∃ a b, ρ = [some (.tup ds), some (.tup ds), a, b]) ?_ ?_ ?_
      · simp [zip_self]
      · rintro done a rest ρ μ hl ⟨x, y, rfl⟩
        have ha : lk n a = true := by
          have h : lks n ds = true := by simpa using h
          rw [lks_all, List.all_eq_true] at h
          exact h a (by rw [hl]; simp)
        simp [like_self n a _ ha]
      · rintro ρ μ ⟨x, y, rfl⟩
        simp
    | non => simp
    | bl b => simp
    | int i => simp
    | str x => simp
    | _ => simp [lk] at h
/-! ### the store with the tape -/
def TS (μ : Store) (q : Nat) (tp : List Int) : Store := μ.set q (.lst (tp.map D.int))
@[simp] theorem TS_len (μ : Store) (q : Nat) (tp : List Int) : (TS μ q tp).length = μ.length := by simp [TS]
theorem TS_of {μ : Store} {q : Nat} {tp : List Int} (h : lstAt μ q = some (tp.map D.int)) : μ = TS μ q tp := by
  refine List.ext_getElem? fun m => ?_
  unfold TS
  by_cases z : q = m
  · subst z; rw [List.getElem?_set_self (lstAt_lt h)]; exact (@lstAt_eq ⟨[]⟩ _ _ _ h)
  · rw [List.getElem?_set_ne z]
theorem TS_TS (μ : Store) (q : Nat) (tp tp' : List Int) : (TS μ q tp).set q (.lst (tp'.map D.int)) = TS μ q tp' := by simp [TS]
theorem TS_at {μ : Store} {q : Nat} {tp : List Int} (h : q < μ.length) : lstAt (TS μ q tp) q = some (tp.map D.int) := lstAt_set h
theorem take_T {μ : Store} {q : Nat} {tp : List Int} {k : Int} (h : q < μ.length) (hk : 0 < k) : F__law_take [.ptr q, .int k] (TS μ q tp) = .ok (.int (takeR tp k), TS μ q tp.dropLast) := by
  rw [take_eq (TS_at h) hk, TS_TS]
theorem gcS_T {μ : Store} {q : Nat} {tp tp' : List Int} (r : Store) : gcS 0 (TS μ q tp) (TS μ q tp' ++ r) = some (TS μ q tp') := by
  have := gcS_setI (μ := TS μ q tp) (r := r) (n := q) (ds := tp'.map D.int) (by simp)
  rw [TS_TS] at this
  exact this
theorem gcP_T {μ : Store} {q : Nat} {tp tp' : List Int} {d : D} (P : D → Store → Prop) {tk0 : Tok P} (h : fz d = true) : gcP 0 (TS μ q tp) P (tk := tk0) d (TS μ q tp') = P d (TS μ q tp') := by
  have := gcS_T (μ := μ) (q := q) (tp := tp) (tp' := tp') []
  rw [List.append_nil] at this
  unfold gcP
  rw [mapD_fz _ d h, this]
theorem gcP_TA {μ r : Store} {q : Nat} {tp tp' : List Int} {d : D} (P : D → Store → Prop) {tk0 : Tok P} (h : fz d = true) : gcP 0 (TS μ q tp) P (tk := tk0) d (TS μ q tp' ++ r) = P d (TS μ q tp') := by
  unfold gcP
  rw [mapD_fz _ d h, gcS_T]
theorem gc_get {k : Nat} {m : List D → Store → Out (D × Store)} {ds : List D} {μ : Store} {Q : D → Store → Prop} (h : wo (m ds μ) X0 (gcP k μ Q)) : ∃ d ν, gcF k m ds μ = .ok (d, ν) ∧ Q d ν := by
  have q : wo (gcF k m ds μ) X0 Q := by rw [wo_gcF, gcX_X0]; exact h
  exact wo_get q
theorem gc_sub {k : Nat} {μ ν : Store} {P : D → Store → Prop} {d d' : D} (e : d = d') (h : gcP k μ P d ν) : gcP k μ P d' ν := e ▸ h
theorem takeN {tp : List Int} {k : Nat} (h : 0 < k) : ∃ n : Nat, takeR tp k = n ∧ n < k := by
  have := takeR_lt (tp := tp) (k := k) (by omega)
  exact ⟨(takeR tp k).toNat, by omega, by omega⟩
theorem TS_app {μ r : Store} {q : Nat} {tp : List Int} (h : q < μ.length) : TS μ q tp ++ r = TS (μ ++ r) q tp := by
  unfold TS
  rw [List.set_append_left _ _ h]
theorem take_A {μ r : Store} {q : Nat} {tp : List Int} {k : Int} (h : q < μ.length) (hk : 0 < k) : F__law_take [.ptr q, .int k] (TS μ q tp ++ r) = .ok (.int (takeR tp k), TS μ q tp.dropLast ++ r) := by
  rw [TS_app h, take_T (by simp; omega) hk, TS_app h]
theorem mapO_fz (f : Nat → Option D) : ∀ s : Store, s.all fzO = true → mapO (gcO f) s = some s
  | [], _ => rfl
  | o :: s, h => by
    simp only [List.all_cons, Bool.and_eq_true] at h
    simp [mapO, gcO_fz f o h.1, mapO_fz f s h.2]
theorem gcS_TK {μ s : Store} {q k : Nat} {tp tp' : List Int} (r : Store) (hk : s.length = k) (hs : s.all fzO = true) : gcS k (TS μ q tp) (TS μ q tp' ++ (s ++ r)) = some (TS μ q tp' ++ s) := by
  unfold gcS
  have e1 : TS μ q tp' = (TS μ q tp).set q (.lst (tp'.map D.int)) := (TS_TS _ _ _ _).symm
  have e2 : gcL (frzH true ((TS μ q tp).length + k) (TS μ q tp' ++ (s ++ r)) 4) (TS μ q tp) (TS μ q tp' ++ (s ++ r)) = some (TS μ q tp') := by
    generalize frzH true _ _ 4 = f
    rw [e1]
    exact gcL_set (gcO_fz f _ (by simp [fzO])) (.inr rfl)
  rw [e2]
  have e3 : (TS μ q tp' ++ (s ++ r)).drop (TS μ q tp).length = s ++ r := by
    rw [TS_len, List.drop_append_of_le_length (by simp), List.drop_of_length_le (by simp)]
    simp
  rw [e3, List.take_left' hk, mapO_fz _ s hs]
theorem init_eqL {μ : Store} {n : Nat} (h : μ.length = n) : F_Book___init__ [.ptr n] (μ ++ [.ins "Book" []]) = .ok (.non, μ ++ [.ins "Book" (bkF [sD ([], [])] [] 0)]) := by
  subst h
  exact init_eq μ
/-! ### the book at the store's end -/
def bk (hist chs : List D) (s : St) : MO := .ins "Book" (bkF (hist ++ [sD s]) chs hist.length)
structure Bk (hist chs : List D) : Prop where
  len : chs.length = hist.length
  fh : fzs hist = true
  fc : fzs chs = true
theorem Bk.next {hist chs : List D} (h : Bk hist chs) (s : St) (b : BC) : Bk (hist ++ [sD s]) (chs ++ [b.e]) := ⟨by simp [h.len], by simp [h.fh, fz_sD], by simp [h.fc, fz_bc]⟩
section
variable {μ : Store} {q n : Nat} {tp : List Int} {hist chs : List D} {s : St}
theorem at_A (hn : μ.length = n) (h : Bk hist chs) : BookAt (TS μ q tp ++ [bk hist chs s]) n hist chs s := ⟨by simp [bk, hn], h.len, h.fh, h.fc⟩
theorem ins_A (hn : μ.length = n) : insAt (TS μ q tp ++ [bk hist chs s]) "Book" n = some (bkF (hist ++ [sD s]) chs hist.length) := by simp [bk, hn]
theorem change_A (hn : μ.length = n) (h : Bk hist chs) (b : BC) (hw : b.wf) (ho : okAll b.chs s) (hl : hist.length < 200) {s' : St} (hs : goAll b.chs s = s') :
    F_Book_change [.ptr n, b.e] (TS μ q tp ++ [bk hist chs s]) = .ok (.non, TS μ q tp ++ [bk (hist ++ [sD s]) (chs ++ [b.e]) s']) := by
  rw [book_change (at_A hn h) b hw ho hl, hs]
  simp [bk, hn]
theorem text_A (hn : μ.length = n) (h : Bk hist chs) {x : Str} {t : List Int} (hx : getR x s.1 = some t) : F_Book_text [.ptr n, .str x] (TS μ q tp ++ [bk hist chs s]) = .ok (encI t, TS μ q tp ++ [bk hist chs s]) := book_text (at_A hn h) hx
theorem mark_A (hn : μ.length = n) (h : Bk hist chs) {x : Str} {m : Str × Int × Int} (hx : getR x s.2 = some m) : F_Book_mark [.ptr n, .str x] (TS μ q tp ++ [bk hist chs s]) = .ok (mkD m, TS μ q tp ++ [bk hist chs s]) := book_mark (at_A hn h) hx
theorem marks_A (hn : μ.length = n) (h : Bk hist chs) : F_Book_marks [.ptr n] (TS μ q tp ++ [bk hist chs s]) = .ok (.tup (encR (rM s.2)), TS μ q tp ++ [bk hist chs s]) := book_marks (at_A hn h)
theorem marked_A (hn : μ.length = n) (h : Bk hist chs) {x y : Str} {u v : Nat} {t : List Int} (hx : getR x s.2 = some (y, (u : Int), (v : Int))) (hy : getR y s.1 = some t) : F_Book_marked [.ptr n, .str x] (TS μ q tp ++ [bk hist chs s]) = .ok (encI ((t.drop u).take (v - u)), TS μ q tp ++ [bk hist chs s]) := book_marked (at_A hn h) hx hy
end
@[simp] theorem s_ab : ¬ (("a" : Str) = "b") := by decide +kernel
@[simp] theorem s_ba : ¬ (("b" : Str) = "a") := by decide +kernel
theorem okName_a : okName "a" := ⟨by decide, by decide, ⟨97, by decide +kernel, by decide +kernel⟩, by decide +kernel⟩
theorem okName_b : okName "b" := ⟨by decide, by decide, ⟨98, by decide +kernel, by decide +kernel⟩, by decide +kernel⟩
end LW

-- PQa
set_option Elab.async false
set_option linter.all false
set_option maxRecDepth 100000
set_option maxHeartbeats 1000000
namespace LW
open PySem DL
/-! ### combing, passages -/
theorem comb_app (a : Int) : ∀ (rs bs rs' bs' : List Int) (t : Int), rs.length = bs.length →
    SW.comb a (rs ++ rs') (bs ++ bs') t = ((SW.comb a rs bs t).1 ++ (SW.comb a rs' bs' (SW.comb a rs bs t).2).1, (SW.comb a rs' bs' (SW.comb a rs bs t).2).2)
  | [], [], rs', bs', t, _ => by simp [SW.comb]
  | [], _ :: _, _, _, _, h => by simp at h
  | _ :: _, [], _, _, _, h => by simp at h
  | r :: rs, b :: bs, rs', bs', t, h => by
    have hl : rs.length = bs.length := by simpa using h
    simp only [List.cons_append, SW.comb]
    split <;> simp [comb_app a rs bs rs' bs' _ hl]
theorem comb_eq {μ : Store} {p : Nat} {row base : List Int} (h : lstAt μ p = some (row.map D.int)) (hl : row.length = base.length) (a t : Int) :
    F_comb [.ptr p, .int a, encI base, .int t] μ = .ok (.int (SW.comb a row base t).2, μ.set p (.lst ((SW.comb a row base t).1.map D.int))) := by
  have hp := lstAt_lt h
  refine gc_eq ?_
  unfold b_comb
  simp
  refine wp_forE base D.int (fun done rest ρ ν => ∃ pre thr x4 x5, pre.length = done.length ∧ ν = μ.set p (.lst ((pre ++ row.drop done.length).map D.int)) ∧
      SW.comb a row base t = (pre ++ (SW.comb a (row.drop done.length) rest thr).1, (SW.comb a (row.drop done.length) rest thr).2) ∧
      ρ = [some (.ptr p), some (.int a), some (encI base), some (.int thr), x4, x5]) ?_ ?_ ?_
  · simp
    refine List.ext_getElem? fun m => ?_
    by_cases z : p = m
    · subst z; rw [List.getElem?_set_self hp]; simpa using (@lstAt_eq ⟨[]⟩ _ _ _ h)
    · rw [List.getElem?_set_ne z]
  · rintro done b rest ρ ν hd ⟨pre, thr, x4, x5, hpre, rfl, hc, rfl⟩
    have hlt : done.length < base.length := by
      have := congrArg List.length hd
      simp at this; omega
    have hrow : row.drop done.length = row[done.length] :: row.drop (done.length + 1) := List.drop_eq_getElem_cons (by omega)
    generalize row[done.length] = r at hrow
    have hix : (pre ++ row.drop done.length)[done.length]? = some r := by
      rw [List.getElem?_append_right (by omega), hrow, hpre]; simp
    have hat : ∀ ds : List D, lstAt (μ.set p (.lst ds)) p = some ds := fun ds => lstAt_set hp
    have hi : ixD (.ptr p) (.int (done.length : Nat)) (μ.set p (.lst ((pre ++ row.drop done.length).map D.int))) = some (.int r, μ.set p (.lst ((pre ++ row.drop done.length).map D.int))) := by
      rw [ixD_lst (hat _), atI_map, hix]; rfl
    have hlen : done.length < ((pre ++ row.drop done.length).map D.int).length := by simp; omega
    have hst : ∀ v : Int, setB (μ.set p (.lst ((pre ++ row.drop done.length).map D.int))) (.ptr p) (.int (done.length : Nat)) (.int v) = some (μ.set p (.lst ((pre ++ [v] ++ row.drop (done.length + 1)).map D.int))) := fun v => by
      rw [setB_nat (hat _) hlen, List.set_set]
      congr 3
      rw [← List.map_set, List.set_append_right _ _ (by omega), hpre, Nat.sub_self, hrow]
      simp
    generalize hS : μ.set p (.lst ((pre ++ row.drop done.length).map D.int)) = S at hi hst
    rw [hrow] at hc
    simp only [SW.comb] at hc
    simp [hi, hst, -List.map_append]
    have g1 : ∀ q : b = a ∨ r < thr, SW.comb a row base t = ((pre ++ [thr]) ++ (SW.comb a (row.drop (done.length + 1)) rest r).1, (SW.comb a (row.drop (done.length + 1)) rest r).2) := fun q => by
      rw [if_pos q] at hc
      rw [hc]; simp
    refine br_of (fun q => ?_) (fun q => br_of (fun q2 => ?_) (fun q2 => ?_))
    · exact ⟨pre ++ [thr], by simp [hpre], by simp, g1 (.inl q)⟩
    · exact ⟨pre ++ [thr], by simp [hpre], by simp, g1 (.inr q2)⟩
    · rw [if_neg (by rintro (h | h); exact q h; exact q2 h)] at hc
      exact ⟨pre ++ [r], by simp [hpre], by rw [← hS, hrow]; simp, by rw [hc]; simp⟩
  · rintro ρ ν ⟨pre, thr, x4, x5, hpre, rfl, hc, rfl⟩
    have hd0 : row.drop base.length = [] := List.drop_eq_nil_of_le (by omega)
    simp [hd0, SW.comb] at hc
    simp [hd0, hc]
    rw [gcP_set rfl (by simp [fzO])]
    exact ⟨by rw [hc], by rw [hc]⟩
/-- what a passage holds -/
def opD : Option Nat → D
  | some p => .int (p : Nat)
  | none => .non
abbrev encP (ps : List (Option Nat)) : D := .tup (ps.map opD)
@[simp] theorem fz_op (o : Option Nat) : fz (opD o) = true := by cases o <;> rfl
@[simp] theorem fzs_ops (ps : List (Option Nat)) : fzs (ps.map opD) = true := fzs_map fun _ _ => fz_op _
/-- what is found behind some places -/
def part (row : List Int) (n k : Nat) : List (Option Nat) := SW.pas (row.take k) n
theorem part_len (row : List Int) (n k : Nat) : (part row n k).length = n := by simp [part, SW.pas]
theorem part_step {row : List Int} (nd : (row.filter fun r => decide (0 ≤ r)).Nodup) {n k v : Nat} (hk : k < row.length) (hv : row[k] = (v : Int)) : part row n (k + 1) = (part row n k).set v (some k) := by
  refine List.ext_getElem? fun q => ?_
  unfold part SW.pas
  by_cases hq : q < n
  · by_cases e : v = q
    · subst e
      rw [List.getElem?_set_self (by simp [hq])]
      simp [hq, -List.findIdx?_take]
      rw [List.take_add_one, List.findIdx?_append, List.getElem?_eq_getElem hk]
      have hn : (row.take k).findIdx? (SW.isAt v) = none := by
        rw [List.findIdx?_eq_none_iff]
        intro r hr
        obtain ⟨p, hp, er⟩ := List.mem_iff_getElem.mp hr
        simp at hp er
        cases hb : SW.isAt v r with
        | false => rfl
        | true =>
          have : r = (v : Int) := by simpa [SW.isAt] using hb
          have := SW.nodup_nn nd (p := p) (k := k) (by omega) hk (by omega) (by omega)
          omega
      rw [hn]
      simp [SW.isAt, hv]
      omega
    · rw [List.getElem?_set_ne e]
      simp [hq, -List.findIdx?_take]
      rw [List.take_add_one, List.findIdx?_append, List.getElem?_eq_getElem hk]
      have hb : SW.isAt q row[k] = false := by simp [SW.isAt, hv]; omega
      simp [hb]
  · have h1 : ((List.range n).map fun q => ((row.take (k + 1)).findIdx? (SW.isAt q)))[q]? = none := by simp; omega
    rw [h1]
    symm
    simp
    omega
theorem part_neg {row : List Int} {n k : Nat} (hk : k < row.length) (hv : row[k] < 0) : part row n (k + 1) = part row n k := by
  unfold part SW.pas
  refine List.map_congr_left fun q _ => ?_
  rw [List.take_add_one, List.findIdx?_append, List.getElem?_eq_getElem hk]
  have hb : SW.isAt q row[k] = false := by simp [SW.isAt]; omega
  simp [hb]
theorem part_zero (row : List Int) (n : Nat) : part row n 0 = List.replicate n none := by
  unfold part SW.pas
  simp [List.map_const']
theorem passage_eq {μ : Store} {p : Nat} {row : List Int} (h : lstAt μ p = some (row.map D.int)) (nd : (row.filter fun r => decide (0 ≤ r)).Nodup) (le : ∀ p (h : p < row.length), row[p] ≤ p) (hs : row.length ≤ 60) :
    F_passage_of_row [.ptr p, .int (row.length : Nat)] μ = .ok (encP (SW.pas row row.length), μ) := by
  have hp := lstAt_lt h
  refine gc_eq ?_
  unfold b_passage_of_row
  simp
  refine ⟨by omega, ?_⟩
  have e0 : lstAt (μ ++ [.lst (List.replicate row.length D.non)]) p = some (row.map D.int) := by rw [lstAt_old hp]; exact h
  refine wp_forEG row D.int (fun done rest ρ ν => ∃ x3 x4, ν = μ ++ [.lst ((part row row.length done.length).map opD)] ∧ ρ = [some (.ptr p), some (.int (row.length : Nat)), some (.ptr μ.length), x3, x4]) ?_ ?_ ?_
  · have e1 : ∀ ds : List D, lstAt (μ ++ [.lst ds]) p = some (row.map D.int) := fun ds => by rw [lstAt_old hp]; exact h
    simp [srcD, e0, part_zero, opD]
    rintro done ρ x3 x4 _ q hq
    simp at hq
    subst hq
    exact e1 _
  · rintro done r rest ρ ν hd ⟨x3, x4, rfl, rfl⟩
    have hk : done.length < row.length := by
      have := congrArg List.length hd
      simp at this; omega
    have hr : row[done.length] = r := by simp [hd]
    simp
    refine br_of (fun q => ?_) (fun q => ?_)
    · obtain ⟨v, hv⟩ := Int.eq_ofNat_of_zero_le q
      subst hv
      have hle := le _ hk
      rw [hr] at hle
      have hvn : v < ((part row row.length done.length).map opD).length := by rw [List.length_map, part_len]; omega
      have hst := setB_nat (μ := μ ++ [.lst ((part row row.length done.length).map opD)]) (n := μ.length) (ds := (part row row.length done.length).map opD) (k := v) (v := .int (done.length : Nat)) (by simp) hvn
      simp at hst
      simp [hst, part_step nd hk hr, opD, List.map_set]
    · rw [part_neg hk (by omega)]
  · rintro ρ ν ⟨x3, x4, rfl, rfl⟩
    simp [part]
theorem passage_law {text base : List Int} : SW.pas (SW.rowT text base) (SW.rowT text base).length = SW.psg text base := by rw [(SW.rowT_of text base).len]; rfl
theorem combed_eq {text base : List Int} (hb : base.length ≤ 60) (μ : Store) : F_combed [encI text, encI base] μ = .ok (encP (SW.psg text base), μ) := by
  refine gc_eq ?_
  unfold b_combed
  have hr : rgB 0 (base.length : Nat) = true ∧ rgD 0 (base.length : Nat) = (SW.row0 base.length).map D.int := by
    refine ⟨by simp [rgB]; omega, ?_⟩
    simp [rgD, SW.row0]
  simp [hr.1, hr.2]
  have step : ∀ (row : List Int) (a : Int), row.length = base.length → F_comb [.ptr μ.length, .int a, encI base, .int (-1)] (μ ++ [.lst (row.map D.int)]) = .ok (.int (SW.comb a row base (-1)).2, μ ++ [.lst ((SW.comb a row base (-1)).1.map D.int)]) := fun row a hl => by
    rw [comb_eq (by simp) hl]
    simp
  refine wp_forL text D.int (fun done rest ρ ν => ∃ x3, ν = μ ++ [.lst ((SW.combs base done (SW.row0 base.length)).map D.int)] ∧ ρ = [some (encI text), some (encI base), some (.ptr μ.length), x3]) ?_ ?_ ?_
  · simp [SW.combs]
  · rintro done a rest ρ ν hd ⟨x3, rfl, rfl⟩
    have hl : (SW.combs base done (SW.row0 base.length)).length = base.length := (SW.rowOf_combs base done [] _ (SW.rowOf_zero base)).len
    have hs := step _ a hl
    simp [hs]
    simp [SW.combs]
  · rintro ρ ν ⟨x3, rfl, rfl⟩
    have R := SW.rowT_of text base
    have := passage_eq (μ := μ ++ [.lst ((SW.rowT text base).map D.int)]) (p := μ.length) (row := SW.rowT text base) (by simp) R.nd R.le (by rw [R.len]; exact hb)
    rw [passage_law, R.len] at this
    unfold SW.rowT at this
    simp [this]
end LW

-- PQb
set_option Elab.async false
set_option linter.all false
set_option maxRecDepth 100000
set_option maxHeartbeats 1000000
namespace LW
open PySem DL
/-! ### what is in common -/
/-- a row of numbers -/
def rowN (n : Nat) (f : Nat → Nat) : List D := (List.range n).map fun j => D.int ((f j : Nat) : Int)
@[simp] theorem rowN_len (n : Nat) (f : Nat → Nat) : (rowN n f).length = n := by simp [rowN]
theorem rowN_get {n : Nat} {f : Nat → Nat} {j : Nat} (h : j < n) : (rowN n f)[j]? = some (.int ((f j : Nat) : Int)) := by simp [rowN, h]
theorem rowN_set {n : Nat} {f : Nat → Nat} {j v : Nat} : (rowN n f).set j (.int ((v : Nat) : Int)) = rowN n (fun i => if i = j then v else f i) := by
  refine List.ext_getElem? fun i => ?_
  by_cases h : i < n
  · by_cases e : j = i
    · subst e
      rw [List.getElem?_set_self (by simpa using h), rowN_get h]
      simp
    · rw [List.getElem?_set_ne e, rowN_get h, rowN_get h, if_neg (Ne.symm e)]
  · rw [List.getElem?_eq_none (by simp; omega), List.getElem?_eq_none (by simp; omega)]
theorem rowN_congr {n : Nat} {f g : Nat → Nat} (h : ∀ j, j < n → f j = g j) : rowN n f = rowN n g := by
  unfold rowN
  refine List.map_congr_left fun j hj => ?_
  rw [h j (by simpa using hj)]
@[simp] theorem fzs_rowN (n : Nat) (f : Nat → Nat) : fzs (rowN n f) = true := fzs_map fun _ _ => rfl
theorem ix_rowN {μ : Store} {p n j : Nat} {f : Nat → Nat} (h : lstAt μ p = some (rowN n f)) (hj : j < n) : ixD (.ptr p) (.int (j : Nat)) μ = some (.int ((f j : Nat) : Int), μ) := by
  rw [ixD_lst h, atI_nat, rowN_get hj]; rfl
def cm (s : List Int) (o : List Int) (j : Nat) : Nat := SW.lcs s (o.take j).reverse
theorem cm_step {a : Int} {s o : List Int} {k : Nat} (hk : k < o.length) : cm (a :: s) o (k + 1) = if o[k] = a then cm s o k + 1 else max (cm s o (k + 1)) (cm (a :: s) o k) := by
  unfold cm
  rw [List.take_add_one, List.getElem?_eq_getElem hk]
  simp only [Option.toList_some, List.reverse_append, List.reverse_cons, List.reverse_nil, List.nil_append, List.singleton_append]
  rw [SW.lcs_cons]
  by_cases e : o[k] = a
  · rw [if_pos e, if_pos e.symm]
  · rw [if_neg e, if_neg (fun z => e z.symm)]
theorem common_eq (t o : List Int) (hl : o.length ≤ 400) (μ : Store) : F_common_of [encI t, encI o] μ = .ok (.int ((SW.lcs t o : Nat) : Int), μ) := by
  refine gc_eq ?_
  unfold b_common_of
  have h0 : (List.replicate (o.length + 1) (D.int 0)) = rowN (o.length + 1) (cm [] o) := by
    refine List.ext_getElem? fun j => ?_
    by_cases h : j < o.length + 1
    · rw [rowN_get h, cm, SW.lcs_nil_left]
      simp [h]
    · rw [List.getElem?_eq_none (by simp; omega), List.getElem?_eq_none (by simp; omega)]
  have hn : ((o.length : Int) + 1).toNat = o.length + 1 := by omega
  simp [hn, h0]
  refine ⟨by omega, ?_⟩
  refine wp_forL t D.int (fun done rest ρ ν => ∃ x3 x4 x5 x6 x7, ν = μ ++ [.lst (rowN (o.length + 1) (cm done.reverse o))] ∧ ρ = [some (encI t), some (encI o), some (.ptr μ.length), x3, x4, x5, x6, x7]) ?_ ?_ ?_
  · simp
  · rintro done a rest ρ ν hd ⟨x3, x4, x5, x6, x7, rfl, rfl⟩
    simp
    refine wp_forE o D.int (fun d2 r2 ρ ν => ∃ x5 x6 x7, ν = μ ++ [.lst (rowN (o.length + 1) (fun j => if j ≤ d2.length then cm (a :: done.reverse) o j else cm done.reverse o j))] ∧ ρ = [some (encI t), some (encI o), some (.ptr μ.length), some (.int a), some (.int ((cm done.reverse o d2.length : Nat) : Int)), x5, x6, x7]) ?_ ?_ ?_
    · have e : rowN (o.length + 1) (fun j => if j = 0 then cm (a :: done.reverse) o j else cm done.reverse o j) = rowN (o.length + 1) (cm done.reverse o) := rowN_congr fun j _ => by
        split
        · next e => subst e; simp [cm, SW.lcs_nil_right]
        · rfl
      simp [e]
      simp [cm, SW.lcs_nil_right]
    · rintro d2 b r2 ρ ν hd2 ⟨x5, x6, x7, rfl, rfl⟩
      have hk : d2.length < o.length := by
        have := congrArg List.length hd2
        simp at this; omega
      have hb : o[d2.length] = b := by simp [hd2]
      generalize hf : (fun j => if j ≤ d2.length then cm (a :: done.reverse) o j else cm done.reverse o j) = f
      have i1 := ix_rowN (μ := μ ++ [.lst (rowN (o.length + 1) f)]) (p := μ.length) (j := d2.length) (f := f) (n := o.length + 1) (by simp) (by omega)
      have i2 := ix_rowN (μ := μ ++ [.lst (rowN (o.length + 1) f)]) (p := μ.length) (j := d2.length + 1) (f := f) (n := o.length + 1) (by simp) (by omega)
      have st : ∀ (w : Int) (v : Nat), w = v → setB (μ ++ [.lst (rowN (o.length + 1) f)]) (.ptr μ.length) (.int ((d2.length + 1 : Nat) : Int)) (.int w) = some (μ ++ [.lst (rowN (o.length + 1) (fun i => if i = d2.length + 1 then v else f i))]) := fun w v e => by
        subst e
        rw [setB_nat (ds := rowN (o.length + 1) f) (by simp) (by simp; omega), rowN_set]
        simp
      generalize hS : μ ++ [.lst (rowN (o.length + 1) f)] = S at i1 i2 st
      have f1 : f d2.length = cm (a :: done.reverse) o d2.length := by rw [← hf]; simp
      have f2 : f (d2.length + 1) = cm done.reverse o (d2.length + 1) := by rw [← hf]; exact if_neg (by omega)
      have cs := cm_step (a := a) (s := done.reverse) hk
      rw [hb] at cs
      have fin : ∀ v, v = cm (a :: done.reverse) o (d2.length + 1) → rowN (o.length + 1) (fun i => if i = d2.length + 1 then v else f i) = rowN (o.length + 1) (fun j => if j ≤ d2.length + 1 then cm (a :: done.reverse) o j else cm done.reverse o j) := fun v hv => by
        refine rowN_congr fun j _ => ?_
        by_cases e : j = d2.length + 1
        · subst e; simp [hv]
        · rw [if_neg e, ← hf]
          by_cases e2 : j ≤ d2.length
          · simp [e2, Nat.le_succ_of_le e2]
          · have : ¬ j ≤ d2.length + 1 := by omega
            simp [e2, this]
      simp at i1 i2 st
      simp [i1, i2]
      refine br_of (fun q => ?_) (fun q => ?_)
      · rw [st _ (cm done.reverse o d2.length + 1) (by simp)]
        rw [if_pos q] at cs
        exact ⟨by rw [fin _ cs.symm], by rw [f2]⟩
      · rw [st _ (max (cm done.reverse o (d2.length + 1)) (cm (a :: done.reverse) o d2.length)) (by rw [f1, f2]; split <;> omega)]
        rw [if_neg q] at cs
        exact ⟨by rw [fin _ cs.symm], by rw [f2]⟩
    · rintro ρ ν ⟨x5, x6, x7, rfl, rfl⟩
      have e : rowN (o.length + 1) (fun j => if j ≤ o.length then cm (a :: done.reverse) o j else cm done.reverse o j) = rowN (o.length + 1) (cm (a :: done.reverse) o) := rowN_congr fun j hj => by
        rw [if_pos (by omega)]
      simp [e]
  · rintro ρ ν ⟨x3, x4, x5, x6, x7, rfl, rfl⟩
    have e : ixD (.ptr μ.length) (.int (-1)) (μ ++ [.lst (rowN (o.length + 1) (cm t.reverse o))]) = some (.int ((SW.lcs t o : Nat) : Int), μ ++ [.lst (rowN (o.length + 1) (cm t.reverse o))]) := by
      rw [ixD_lst (ds := rowN (o.length + 1) (cm t.reverse o)) (by simp)]
      have : L2.atI (rowN (o.length + 1) (cm t.reverse o)) (-1) = some (.int ((SW.lcs t o : Nat) : Int)) := by
        unfold L2.atI L2.ixN
        have e1 : (-1 + ((o.length : Int) + 1)).toNat = o.length := by omega
        have e2 : (1 : Int) ≤ (o.length : Int) + 1 := by omega
        have e3 := rowN_get (n := o.length + 1) (f := cm t.reverse o) (j := o.length) (by omega)
        have e4 : cm t.reverse o o.length = SW.lcs t o := by simp [cm, SW.lcs_reverse]
        rw [e4] at e3
        simp only [rowN_len]
        rw [if_neg (by omega), if_pos (by omega), Option.bind_some, show (-1 + ((o.length + 1 : Nat) : Int)).toNat = o.length by omega]
        exact e3
      rw [this]; rfl
    simp [e]
/-! ### passages over a mark -/
theorem need_across_eq (b : List Int) (h : okT b) (hl : b.length ≤ 60) (μ : Store) : pureF F_need_across [encI b] μ = .ok (encI b, μ) := by
  refine pure_eq (by simp [noPtr.noPtrs, noPtr, np_ints]) (by simp [noPtr, np_ints]) ?_ μ
  unfold F_need_across b_need_across
  simp [need_text_eq b h]
  omega
theorem passage_over_eq {t b : List Int} (ht : okT t) (hb : okT b) (hl : b.length ≤ 60) (μ : Store) : F_passage_over [encI t, encI b] μ = .ok (encP (SW.psg t b), μ) := by
  refine gc_eq ?_
  unfold b_passage_over
  simp [need_text_eq t ht, need_across_eq b hb hl, combed_eq hl]
end LW

-- PQc
set_option Elab.async false
set_option linter.all false
set_option maxRecDepth 100000
set_option maxHeartbeats 1000000
namespace LW
open PySem DL
/-! ### the rows of a passage -/
abbrev lostR (ps : List (Option Nat)) (i : Nat) : List D := rowN (ps.length + 1) (SW.lost ps i)
abbrev lostT (ps : List (Option Nat)) : D := .rol (((List.range (ps.length + 1)).map (lostR ps)).map .rol)
theorem mulD_ptr {μ : Store} {n : Nat} {a : List D} (h : lstAt μ n = some a) (k : Int) : mulD (.ptr n) (.int k) μ = if -(2 ^ 63) ≤ k ∧ k < 2 ^ 63 ∧ a.length * k.toNat ≤ 16777216 then some (.ptr μ.length, μ ++ [.lst (List.replicate k.toNat a).flatten]) else none := by
  unfold mulD
  simp [h]
theorem tab_lt {μ ν : Store} {p : Nat} {as : List Nat} {rows : List (List D)} (T : TabAt μ ν p as rows) {a : Nat} (h : a ∈ as) : a < ν.length := by
  obtain ⟨i, hi⟩ := List.mem_iff_getElem?.mp h
  have h2 : i < rows.length := by rw [← T.len]; exact (List.getElem?_eq_some_iff.mp hi).1
  exact lstAt_lt (show lstAt ν a = some rows[i] by rw [T.row i a hi, List.getElem?_eq_getElem h2])
theorem lost_last (ps : List (Option Nat)) (j : Nat) : SW.lost ps ps.length j = 0 := by simp [SW.lost]
theorem lost_step (ps : List (Option Nat)) (i j : Nat) (h : i < ps.length) : SW.lost ps i j = SW.lost ps (i + 1) j + if SW.out j ps[i] = true then 1 else 0 := by
  unfold SW.lost
  rw [List.drop_eq_getElem_cons h, List.countP_cons]
theorem rows_lc {ps : List (Option Nat)} {μ : Store} {P : D → Store → Prop} (hl : ps.length ≤ 400) (h : ∀ as ν, TabAt μ ν μ.length as ((List.range (ps.length + 1)).map fun _ => rowN (ps.length + 1) fun _ => 0) → P (.ptr μ.length) ν) :
    wm (mLc (mRange1 (aCons (mBin addD (mVar 1) (mC (.int 1))) aNil)) [8, 2] (gNm 2) mYes (mBin mulD (mLst (aCons (mC (.int 0)) aNil)) (mBin addD (mVar 1) (mC (.int 1)))))
      [some (encP ps), some (.int (ps.length : Nat)), none, none, none, none, none, none, none] μ X0 P := by
  with_reducible refine wm_lc (fun rest acc ν => ∃ (as done r2 : List Nat), acc = as.map D.ptr ∧ TabAt μ ν μ.length as (done.map fun _ => rowN (ps.length + 1) fun _ => 0) ∧ List.range (ps.length + 1) = done ++ r2 ∧ rest = r2.map fun i : Nat => D.int i) ?_
  have hn : ((ps.length : Int) + 1).toNat = ps.length + 1 := by omega
  simp [range_map, hn]
  have hz : List.replicate (ps.length + 1) (D.int 0) = rowN (ps.length + 1) fun _ => 0 := by
    refine List.ext_getElem? fun j => ?_
    by_cases g : j < ps.length + 1
    · rw [rowN_get g]; simp [g]
    · rw [List.getElem?_eq_none (by simp; omega), List.getElem?_eq_none (by simp; omega)]
  refine ⟨by omega, ⟨[], ?_, _, rfl, rfl⟩, ?_, ?_, ?_⟩
  · exact ⟨⟨_, rfl⟩, by simp, Nat.le_refl _, rfl, List.nodup_nil, by simp, by simp⟩
  · rintro l acc μ' as rfl done T r2 hr rfl
    exact T.at_
  · rintro d l acc μ' as rfl done T r2 hr hl2
    cases r2 with
    | nil => cases hl2
    | cons i r2 =>
      simp only [List.map_cons] at hl2
      injection hl2 with h1 h2
      have hm : mulD (.ptr μ'.length) (.int ((ps.length : Int) + 1)) (μ' ++ [.lst [D.int 0]]) = some (.ptr (μ'.length + 1), (μ' ++ [.lst [D.int 0]]) ++ [.lst (rowN (ps.length + 1) fun _ => 0)]) := by
        rw [mulD_ptr (a := [D.int 0]) (by simp)]
        rw [if_pos (by simp; omega), hn]
        simp [hz]
      rw [hm]
      have T2 := (T.app [.lst [D.int 0]]).app [.lst (rowN (ps.length + 1) fun _ => 0)]
      have hla : lstAt ((μ' ++ [.lst [D.int 0]]) ++ [.lst (rowN (ps.length + 1) fun _ => 0)]) (μ'.length + 1) = some (rowN (ps.length + 1) fun _ => 0) := by
        have := lstAt_new (μ := μ' ++ [.lst [D.int 0]]) (.lst (rowN (ps.length + 1) fun _ => 0))
        simpa using this
      have hlen := lstAt_lt T.at_
      obtain ⟨q, hq⟩ := T.ext
      have T3 := T2.snoc (a := μ'.length + 1) hla (fun z => by have := tab_lt T z; omega) (by omega) (by rw [hq]; simp; omega)
      have hd : done.length < ps.length + 1 := by
        have := congrArg List.length hr
        simp at this; omega
      have hal := T.len
      simp only [wr, T2.at_]
      refine ⟨by simp at hal ⊢; omega, as ++ [μ'.length + 1], done ++ [i], r2, by simp, ?_, by simp [hr], h2⟩
      simpa using T3
  · rintro acc μ' as rfl T
    exact h as μ' T
/-- the rows when so many of them are made, the last one first -/
def madeR (ps : List (Option Nat)) (k r : Nat) : Nat → Nat := fun j => if ps.length ≤ r + k then SW.lost ps r j else 0
def madeT (ps : List (Option Nat)) (k : Nat) : List (List D) := (List.range (ps.length + 1)).map fun r => rowN (ps.length + 1) (madeR ps k r)
theorem madeT_get {ps : List (Option Nat)} {k r : Nat} (h : r ≤ ps.length) : (madeT ps k)[r]? = some (rowN (ps.length + 1) (madeR ps k r)) := by
  unfold madeT
  rw [List.getElem?_map, List.getElem?_range (by omega)]
  rfl
theorem madeT_zero (ps : List (Option Nat)) : ((List.range (ps.length + 1)).map fun _ => rowN (ps.length + 1) fun _ => 0) = madeT ps 0 := by
  unfold madeT
  refine List.map_congr_left fun r hr => rowN_congr fun j _ => ?_
  unfold madeR
  split
  · next h =>
    have : r = ps.length := by simp at hr; omega
    rw [this, lost_last]
  · rfl
theorem madeT_step {ps : List (Option Nat)} {k : Nat} (hk : k < ps.length) : (madeT ps k).set (ps.length - 1 - k) (rowN (ps.length + 1) (SW.lost ps (ps.length - 1 - k))) = madeT ps (k + 1) := by
  refine List.ext_getElem? fun r => ?_
  by_cases h : r ≤ ps.length
  · rw [madeT_get h]
    by_cases e : ps.length - 1 - k = r
    · subst e
      rw [List.getElem?_set_self (by simp [madeT]; omega)]
      congr 1
      refine rowN_congr fun j _ => ?_
      unfold madeR
      rw [if_pos (by omega)]
    · rw [List.getElem?_set_ne e, madeT_get h]
      congr 1
      refine rowN_congr fun j _ => ?_
      unfold madeR
      by_cases g : ps.length ≤ r + k
      · rw [if_pos g, if_pos (by omega)]
      · rw [if_neg g, if_neg (by omega)]
  · rw [List.getElem?_eq_none (by simp [madeT]; omega), List.getElem?_eq_none (by simp [madeT]; omega)]
theorem madeT_end (ps : List (Option Nat)) : madeT ps ps.length = (List.range (ps.length + 1)).map (lostR ps) := by
  unfold madeT
  refine List.map_congr_left fun r _ => rowN_congr fun j _ => ?_
  unfold madeR
  rw [if_pos (by omega)]
theorem nis_non {μ : Store} : nisD .non .non μ = some (.bl false, μ) := rfl
theorem nis_int {μ : Store} (i : Int) : nisD (.int i) .non μ = some (.bl true, μ) := rfl
theorem rows_of_eq (ps : List (Option Nat)) (hl : ps.length ≤ 400) (μ : Store) : F_rows_of [encP ps] μ = .ok (lostT ps, μ) := by
  refine gc_eq ?_
  unfold b_rows_of
  simp
  with_reducible refine rows_lc hl (fun as ν T => ?_)
  rw [madeT_zero] at T
  simp
  with_reducible refine wp_forL (List.range ps.length) (fun i : Nat => D.int ((ps.length : Int) - 1 + (i : Int) * (-1))) (fun done rest ρ ν => ∃ x2 x4 x5 x6 x7 x8, TabAt μ ν μ.length as (madeT ps done.length) ∧
    ρ = [some (encP ps), some (.int (ps.length : Nat)), x2, some (.ptr μ.length), x4, x5, x6, x7, x8]) ?_ ?_ ?_
  · simp
    refine ⟨by omega, ?_, T⟩
    unfold rangeC
    simp
  · rintro done i rest ρ ν hd ⟨x2, x4, x5, x6, x7, x8, T, rfl⟩
    have hik : i = done.length := by
      have := congrArg (·[done.length]?) hd
      simp at this
      have h2 : done.length < ps.length := by
        have := congrArg List.length hd
        simp at this; omega
      rw [List.getElem?_range h2] at this
      simpa using this.symm
    have hkn : done.length < ps.length := by
      have := congrArg List.length hd
      simp at this; omega
    obtain ⟨m, hm⟩ : ∃ m : Nat, m = ps.length - 1 - done.length := ⟨_, rfl⟩
    have em : ((ps.length : Int) - 1 + (i : Int) * (-1)) = ((m : Nat) : Int) := by omega
    rw [em]
    have hmn : m < ps.length := by omega
    obtain ⟨a1, g1, g2, g3⟩ := T.get (madeT_get (ps := ps) (k := done.length) (r := m + 1) (by omega))
    obtain ⟨a2, k1, k2, k3⟩ := T.get (madeT_get (ps := ps) (k := done.length) (r := m) (by omega))
    have e1 : ∀ ν', ixD (encP ps) (.int ((m : Nat) : Int)) ν' = some (opD ps[m], ν') := fun ν' => by
      rw [ixD_tup, atI_map, List.getElem?_eq_getElem hmn]; rfl
    simp at g2 k2 e1
    simp [e1, g2, k2]
    have step : madeT ps (done.length + 1) = (madeT ps done.length).set m (rowN (ps.length + 1) (SW.lost ps m)) := by rw [hm]; exact (madeT_step hkn).symm
    with_reducible refine wp_forL (List.range (ps.length + 1)) (fun j : Nat => D.int (j : Int)) (fun d2 r2 ρ ν => ∃ x7 x8, TabAt μ ν μ.length as ((madeT ps done.length).set m (rowN (ps.length + 1) (fun j => if j < d2.length then SW.lost ps m j else madeR ps done.length m j))) ∧
      ρ = [some (encP ps), some (.int (ps.length : Nat)), some (.int ((m : Nat) : Int)), some (.ptr μ.length), some (opD ps[m]), some (.ptr a1), some (.ptr a2), x7, x8]) ?_ ?_ ?_
    · have e0 : rowN (ps.length + 1) (fun j => madeR ps done.length m j) = rowN (ps.length + 1) (madeR ps done.length m) := rfl
      have e1 : (madeT ps done.length).set m (rowN (ps.length + 1) (madeR ps done.length m)) = madeT ps done.length := by
        refine List.ext_getElem? fun r => ?_
        by_cases e : m = r
        · subst e
          rw [List.getElem?_set_self (by simp [madeT]; omega), madeT_get (by omega)]
        · rw [List.getElem?_set_ne e]
      have hn : ((ps.length : Int) + 1).toNat = ps.length + 1 := by omega
      simp [range_map, hn, e1, T]
      omega
    · rintro d2 j r2 ρ ν hd2 ⟨x7, x8, T, rfl⟩
      have hj2 : d2.length < ps.length + 1 := by
        have := congrArg List.length hd2
        simp at this; omega
      have hj : j = d2.length := by
        have := congrArg (·[d2.length]?) hd2
        simp at this
        rw [List.getElem?_range hj2] at this
        simpa using this.symm
      subst hj
      generalize hf : (fun j => if j < d2.length then SW.lost ps m j else madeR ps done.length m j) = f at T
      have r1 : lstAt ν a1 = some (rowN (ps.length + 1) (madeR ps done.length (m + 1))) := by
        rw [T.row (m + 1) a1 g1, List.getElem?_set_ne (by omega), madeT_get (by omega)]
      have r2' : lstAt ν a2 = some (rowN (ps.length + 1) f) := by
        rw [T.row m a2 k1, List.getElem?_set_self (by simp [madeT]; omega)]
      have i1 := ix_rowN r1 hj2
      have ev : madeR ps done.length (m + 1) d2.length = SW.lost ps (m + 1) d2.length := by unfold madeR; rw [if_pos (by omega)]
      rw [ev] at i1
      have st : ∀ (w : Int), w = (SW.lost ps m d2.length : Nat) → setB ν (.ptr a2) (.int ((d2.length : Nat) : Int)) (.int w) = some (ν.set a2 (.lst (rowN (ps.length + 1) (fun j => if j < d2.length + 1 then SW.lost ps m j else madeR ps done.length m j)))) := fun w hw => by
        subst hw
        rw [setB_nat r2' (by simpa using hj2), rowN_set]
        refine congrArg (fun z => some (ν.set a2 (.lst z))) (rowN_congr fun j _ => ?_)
        rw [← hf]
        by_cases e : j = d2.length
        · subst e; simp
        · rw [if_neg e]
          by_cases e2 : j < d2.length
          · have e3 : j < d2.length + 1 := by omega
            simp [e2, e3]
          · have e3 : ¬ j < d2.length + 1 := by omega
            simp [e2, e3]
      have T2 := T.set k1 (rowN (ps.length + 1) (fun j => if j < d2.length + 1 then SW.lost ps m j else madeR ps done.length m j))
      rw [List.set_set] at T2
      have ls := lost_step ps m d2.length hmn
      simp [i1]
      cases ho : ps[m] with
      | none =>
        rw [ho] at ls
        simp [SW.out] at ls
        simp [opD, nis_non, st _ (congrArg (fun n : Nat => (n : Int)) ls.symm), T2]
      | some e =>
        rw [ho] at ls
        simp [opD, nis_int]
        refine br_of (fun q => ?_) (fun q => ?_)
        · have : SW.out d2.length (some e) = true := by simp [SW.out]; omega
          rw [if_pos this] at ls
          rw [st _ (by rw [ls]; simp)]
          simpa using T2
        · have : ¬ SW.out d2.length (some e) = true := by simp [SW.out]; omega
          rw [if_neg this] at ls
          rw [st _ (by rw [ls]; simp)]
          simpa using T2
    · rintro ρ ν ⟨x7, x8, T, rfl⟩
      have e0 : rowN (ps.length + 1) (fun j => if j < (List.range (ps.length + 1)).length then SW.lost ps m j else madeR ps done.length m j) = rowN (ps.length + 1) (SW.lost ps m) := rowN_congr fun j hj => by
        rw [if_pos (by simpa using hj)]
      rw [e0, ← step] at T
      simp
      exact T
  · rintro ρ ν ⟨x2, x4, x5, x6, x7, x8, T, rfl⟩
    simp at T
    rw [madeT_end] at T
    simp
    rw [T.gc (by simp)]
    exact ⟨rfl, rfl⟩
end LW

-- PQd
set_option Elab.async false
set_option linter.all false
set_option maxRecDepth 100000
set_option maxHeartbeats 1000000
namespace LW
open PySem DL
theorem zip_same {α : Type} (l : List α) (f g : α → D) : zipD (l.map f) (l.map g) = l.map fun a => .tup [f a, g a] := by
  induction l with
  | nil => rfl
  | cons a l ih => simp [zipD, ih]
/-- what first_more tells -/
def More (a b : List (Option Nat)) (d : D) : Prop := (d = .non ∧ ∀ i j, i ≤ a.length → j ≤ a.length → SW.lost a i j ≤ SW.lost b i j) ∨
  ∃ i j : Nat, i ≤ a.length ∧ j ≤ a.length ∧ d = .tup [.int i, .int j] ∧ SW.lost b i j < SW.lost a i j
theorem range_at {n : Nat} {done rest : List Nat} {i : Nat} (h : List.range n = done ++ i :: rest) : i = done.length ∧ done.length < n := by
  have h2 : done.length < n := by
    have := congrArg List.length h
    simp at this; omega
  have := congrArg (·[done.length]?) h
  simp at this
  rw [List.getElem?_range h2] at this
  exact ⟨by simpa using this.symm, h2⟩
theorem first_more_eq (a b : List (Option Nat)) (hab : b.length = a.length) (hl : a.length ≤ 400) (μ : Store) : ∃ d, F_first_more [encP a, encP b] μ = .ok (d, μ) ∧ More a b d := by
  have key := gc_get (k := 0) (m := runF 8 b_first_more) (ds := [encP a, encP b]) (μ := μ) (Q := fun d ν => ν = μ ∧ More a b d) ?_
  · obtain ⟨d, ν, e, rfl, h⟩ := key
    exact ⟨d, e, h⟩
  unfold b_first_more
  have ra := rows_of_eq a hl
  have rb := rows_of_eq b (by omega)
  simp only [lostT, lostR, List.map_map, hab] at ra rb
  simp
  with_reducible refine wp_forE (List.range (a.length + 1)) (fun i : Nat => D.tup [.rol (rowN (a.length + 1) (SW.lost a i)), .rol (rowN (a.length + 1) (SW.lost b i))]) (fun done rest ρ ν => ∃ x2 x3 x4 x5 x6 x7, ν = μ ∧
    (∀ i j, i < done.length → j ≤ a.length → SW.lost a i j ≤ SW.lost b i j) ∧ ρ = [some (encP a), some (encP b), x2, x3, x4, x5, x6, x7]) ?_ ?_ ?_
  · simp [ra, rb, srcD, zip_same]
    simp only [lostR, hab]
  · rintro done i rest ρ ν hd ⟨x2, x3, x4, x5, x6, x7, rfl, hi, rfl⟩
    obtain ⟨rfl, hlt⟩ := range_at hd
    simp
    with_reducible refine wp_forE (List.range (a.length + 1)) (fun j : Nat => D.tup [.int (SW.lost a done.length j : Nat), .int (SW.lost b done.length j : Nat)]) (fun d2 r2 ρ ν' => ∃ x5 x6 x7, ν' = ν ∧
      (∀ j, j < d2.length → SW.lost a done.length j ≤ SW.lost b done.length j) ∧ ρ = [some (encP a), some (encP b), some (.int (done.length : Nat)), some (.rol (rowN (a.length + 1) (SW.lost a done.length))), some (.rol (rowN (a.length + 1) (SW.lost b done.length))), x5, x6, x7]) ?_ ?_ ?_
    · simp [srcD, rowN, zip_same]
    · rintro d2 j r2 ρ ν' hd2 ⟨x5, x6, x7, rfl, hj, rfl⟩
      obtain ⟨rfl, hlt2⟩ := range_at hd2
      simp
      refine br_of (fun q => ?_) (fun q => ?_)
      · refine .inr ⟨done.length, d2.length, by omega, by omega, rfl, by omega⟩
      · intro j hj2
        by_cases e : j = d2.length
        · subst e; omega
        · exact hj j (by omega)
    · rintro ρ ν' ⟨x5, x6, x7, rfl, hj, rfl⟩
      simp
      intro i j h1 h2
      by_cases e : i = done.length
      · subst e; exact hj j (by simp; omega)
      · exact hi i j (by omega) h2
  · rintro ρ ν ⟨x2, x3, x4, x5, x6, x7, rfl, hi, rfl⟩
    simp
    exact .inl ⟨rfl, fun i j h1 h2 => hi i j (by simp; omega) h2⟩
/-! ### the book's asks -/
section
variable {μ : Store} {p : Nat} {hist chs : List D} {s : St}
theorem nn_of (B : BookAt μ p hist chs s) (x : Str) (h1 : (x == "own_states") = false) (h2 : (x == "own_changes") = false) (h3 : (x == "own_at") = false) : (bkF (hist ++ [sD s]) chs hist.length).lookup x = none := bk_none _ _ _ _ h1 h2 h3
theorem book_across (B : BookAt μ p hist chs s) {x y : Str} {u v : Nat} {t : List Int} (h : getR x s.2 = some (y, (u : Int), (v : Int))) (h2 : getR y s.1 = some t) (hl : ((t.drop u).take (v - u)).length ≤ 60) :
    F_Book_across [.ptr p, .str x] μ = .ok (encI ((t.drop u).take (v - u)), μ) := by
  have e1 := book_marked B h h2
  have n1 := nn_of B "marked" (by decide +kernel) (by decide +kernel) (by decide +kernel)
  refine gc_eq ?_
  unfold b_Book_across
  generalize (t.drop u).take (v - u) = w at *
  simp [B.i, n1, e1]
  omega
theorem book_passage (B : BookAt μ p hist chs s) {x m y : Str} {u v : Nat} {t o : List Int} (hx : getR x s.1 = some o) (h : getR m s.2 = some (y, (u : Int), (v : Int))) (h2 : getR y s.1 = some t) (hl : ((t.drop u).take (v - u)).length ≤ 60)
    (ho : okT o) (ht : okT ((t.drop u).take (v - u))) : F_Book_passage [.ptr p, .str x, .str m] μ = .ok (encP (SW.psg o ((t.drop u).take (v - u))), μ) := by
  have e1 := book_across B h h2 hl
  have e2 := book_text B hx
  have n1 := nn_of B "across" (by decide +kernel) (by decide +kernel) (by decide +kernel)
  have n2 := nn_of B "text" (by decide +kernel) (by decide +kernel) (by decide +kernel)
  refine gc_eq ?_
  unfold b_Book_passage
  generalize (t.drop u).take (v - u) = w at *
  simp [B.i, n1, n2, e1, e2, passage_over_eq ho ht hl]
theorem book_first_less (B : BookAt μ p hist chs s) {x x' m y : Str} {u v : Nat} {t o o' : List Int} (hx : getR x s.1 = some o) (hx' : getR x' s.1 = some o') (h : getR m s.2 = some (y, (u : Int), (v : Int))) (h2 : getR y s.1 = some t) (hl : ((t.drop u).take (v - u)).length ≤ 60)
    (ho : okT o) (ho' : okT o') (ht : okT ((t.drop u).take (v - u))) : ∃ d, F_Book_first_less [.ptr p, .str x, .str x', .str m] μ = .ok (d, μ) ∧ More (SW.psg o ((t.drop u).take (v - u))) (SW.psg o' ((t.drop u).take (v - u))) d := by
  have e1 := book_across B h h2 hl
  have e2 := book_text B hx
  have e3 := book_text B hx'
  have n1 := nn_of B "across" (by decide +kernel) (by decide +kernel) (by decide +kernel)
  have n2 := nn_of B "text" (by decide +kernel) (by decide +kernel) (by decide +kernel)
  generalize (t.drop u).take (v - u) = w at *
  obtain ⟨d, hd, hm⟩ := first_more_eq (SW.psg o w) (SW.psg o' w) (by rw [SW.psg_length, SW.psg_length]) (by rw [SW.psg_length]; omega) μ
  refine ⟨d, ?_, hm⟩
  have hf : fz d = true := by
    rcases hm with ⟨rfl, _⟩ | ⟨i, j, _, _, rfl, _⟩ <;> simp
  refine gc_eq ?_
  unfold b_Book_first_less
  simp [B.i, n1, n2, e1, e2, e3, passage_over_eq ho ht hl, passage_over_eq ho' ht hl, hd]
  rw [gcP_same hf]
  exact ⟨rfl, rfl⟩
end
end LW

-- PQe
set_option Elab.async false
set_option linter.all false
set_option maxRecDepth 100000
set_option maxHeartbeats 1000000
namespace LW
open PySem DL
/-- never less: no window is first -/
theorem more_none {o o' w : List Int} {d : D} (hm : More (SW.psg o w) (SW.psg o' w) d) (h : ∀ i k, SW.lcs o' ((w.drop i).take k) ≤ SW.lcs o ((w.drop i).take k)) : d = .non := by
  rcases hm with ⟨rfl, _⟩ | ⟨i, j, hi, hj, _, hlt⟩
  · rfl
  · exfalso
    rw [SW.psg_length] at hi hj
    by_cases hij : i ≤ j
    · have h1 := SW.psg_lost (text := o) (base := w) hj hij
      have h2 := SW.psg_lost (text := o') (base := w) hj hij
      have := h i (j - i)
      omega
    · have h1 := SW.psg_lost0 (text := o) (base := w) (i := i) hj (by omega)
      omega
/-- .. and what is told otherwise -/
theorem more_some {o o' w : List Int} {d : D} (hm : More (SW.psg o w) (SW.psg o' w) d) : (d = .non ∧ ∀ i k, SW.lcs o' ((w.drop i).take k) ≤ SW.lcs o ((w.drop i).take k)) ∨
    ∃ i j : Nat, i ≤ j ∧ j ≤ w.length ∧ d = .tup [.int i, .int j] ∧ SW.lcs o ((w.drop i).take (j - i)) < SW.lcs o' ((w.drop i).take (j - i)) := by
  rcases hm with ⟨rfl, h⟩ | ⟨i, j, hi, hj, rfl, hlt⟩
  · refine .inl ⟨rfl, fun i k => ?_⟩
    rw [SW.psg_length] at h
    by_cases hi : i ≤ w.length
    · by_cases hk : i + k ≤ w.length
      · have h1 := SW.psg_lost (text := o) (base := w) (i := i) (j := i + k) hk (by omega)
        have h2 := SW.psg_lost (text := o') (base := w) (i := i) (j := i + k) hk (by omega)
        have := h i (i + k) hi hk
        rw [show i + k - i = k by omega] at h1 h2
        omega
      · have e : (w.drop i).take k = (w.drop i).take (w.length - i) := by
          rw [List.take_of_length_le (by simp; omega), List.take_of_length_le (by simp)]
        have h1 := SW.psg_lost (text := o) (base := w) (i := i) (j := w.length) (Nat.le_refl _) hi
        have h2 := SW.psg_lost (text := o') (base := w) (i := i) (j := w.length) (Nat.le_refl _) hi
        have := h i w.length hi (Nat.le_refl _)
        rw [e]
        omega
    · have e : w.drop i = [] := List.drop_eq_nil_of_le (by omega)
      simp [e, SW.lcs_nil_right]
  · rw [SW.psg_length] at hi hj
    by_cases hij : i ≤ j
    · have h1 := SW.psg_lost (text := o) (base := w) hj hij
      have h2 := SW.psg_lost (text := o') (base := w) hj hij
      exact .inr ⟨i, j, hij, hj, rfl, by omega⟩
    · have h1 := SW.psg_lost0 (text := o) (base := w) (i := i) hj (by omega)
      omega
section
variable {μ : Store} {p : Nat} {hist chs : List D} {s : St}
theorem book_never_less (B : BookAt μ p hist chs s) {x x' m y : Str} {u v : Nat} {t o o' : List Int} (hx : getR x s.1 = some o) (hx' : getR x' s.1 = some o') (h : getR m s.2 = some (y, (u : Int), (v : Int))) (h2 : getR y s.1 = some t) (hl : ((t.drop u).take (v - u)).length ≤ 60)
    (ho : okT o) (ho' : okT o') (ht : okT ((t.drop u).take (v - u))) (hle : ∀ i k, SW.lcs o' ((((t.drop u).take (v - u)).drop i).take k) ≤ SW.lcs o ((((t.drop u).take (v - u)).drop i).take k)) :
    F_Book_is_never_less [.ptr p, .str x, .str x', .str m] μ = .ok (.bl true, μ) := by
  obtain ⟨d, hd, hm⟩ := book_first_less B hx hx' h h2 hl ho ho' ht
  have hn := more_none hm hle
  subst hn
  have n1 := nn_of B "first_less" (by decide +kernel) (by decide +kernel) (by decide +kernel)
  have ei : ∀ μ, isD .non .non μ = some (.bl true, μ) := fun _ => rfl
  refine gc_eq ?_
  unfold b_Book_is_never_less
  simp [B.i, n1, hd, ei]
theorem book_common (B : BookAt μ p hist chs s) {x y : Str} {o t : List Int} (hx : getR x s.1 = some o) (hy : getR y s.1 = some t) (ht : t.length ≤ 400) : F_Book_common [.ptr p, .str x, .str y] μ = .ok (.int ((SW.lcs o t : Nat) : Int), μ) := by
  have e1 := book_text B hx
  have e2 := book_text B hy
  have n2 := nn_of B "text" (by decide +kernel) (by decide +kernel) (by decide +kernel)
  refine gc_eq ?_
  unfold b_Book_common
  simp [B.i, n2, e1, e2, common_eq o t ht]
theorem book_distance (B : BookAt μ p hist chs s) {x y : Str} {o t : List Int} (hx : getR x s.1 = some o) (hy : getR y s.1 = some t) (ht : t.length ≤ 400) : F_Book_distance [.ptr p, .str x, .str y] μ = .ok (.int ((o.length : Int) + t.length - 2 * (SW.lcs o t : Nat)), μ) := by
  have e1 := book_text B hx
  have e2 := book_text B hy
  have n2 := nn_of B "text" (by decide +kernel) (by decide +kernel) (by decide +kernel)
  refine gc_eq ?_
  unfold b_Book_distance
  simp [B.i, n2, e1, e2, common_eq o t ht]
/-- the names of the texts that hold a mark's signs -/
def holders (T : Tx) (w : List Int) : List Str := (T.filter fun r => decide (SW.lcs r.2 w = w.length)).map (·.1)
theorem book_holders (B : BookAt μ p hist chs s) {m y : Str} {u v : Nat} {t : List Int} (h : getR m s.2 = some (y, (u : Int), (v : Int))) (h2 : getR y s.1 = some t) (hl : ((t.drop u).take (v - u)).length ≤ 400) (hT : s.1.length ≤ 8) :
    F_Book_holders [.ptr p, .str m] μ = .ok (.tup ((holders s.1 ((t.drop u).take (v - u))).map D.str), μ) := by
  have e1 := book_marked B h h2
  have e2 := book_texts B
  have n1 := nn_of B "marked" (by decide +kernel) (by decide +kernel) (by decide +kernel)
  have n2 := nn_of B "texts" (by decide +kernel) (by decide +kernel) (by decide +kernel)
  refine gc_eq ?_
  unfold b_Book_holders
  generalize (t.drop u).take (v - u) = w at *
  simp [B.i, n1, e1]
  with_reducible refine wm_lcL s.1 (fun r => .tup [.str r.1, encI r.2]) (fun r => if SW.lcs r.2 w = w.length then some (.str r.1) else none) ?_
  simp [B.i, n2, e2]
  refine ⟨?_, by have : List.length s.1 ≤ 8 := hT; omega, fun a b _ r => ?_, ?_⟩
  · simp [encR, rT]
  · rw [common_eq b w hl]
    simp
    refine br_of (fun q => ?_) (fun q => ?_)
    · exact_mod_cast q
    · exact_mod_cast q
  · rw [fm_ite (fun r : Str × List Int => SW.lcs r.2 w = w.length) (fun r => D.str r.1)]
    have hf : fzs ((s.1.filter fun r => decide (SW.lcs r.2 w = w.length)).map fun r => D.str r.1) = true := fzs_map fun _ _ => rfl
    rw [mapDs_fz _ _ hf]
    simp only []
    rw [mapDs_fz _ _ hf]
    simp [holders]
end
end LW

-- P81m
set_option Elab.async false
set_option linter.all false
set_option maxRecDepth 100000
set_option maxHeartbeats 1000000
namespace LW
open PySem DL
/-! ### k81: tables of what is in common -/
def rowI (n : Nat) (f : Nat → Int) : List D := (List.range n).map fun j => D.int (f j)
@[simp] theorem rowI_len (n : Nat) (f : Nat → Int) : (rowI n f).length = n := by simp [rowI]
theorem rowI_get {n : Nat} {f : Nat → Int} {j : Nat} (h : j < n) : (rowI n f)[j]? = some (.int (f j)) := by simp [rowI, h]
theorem rowI_succ (n : Nat) (f : Nat → Int) : rowI (n + 1) f = rowI n f ++ [.int (f n)] := by simp [rowI, List.range_succ]
@[simp] theorem fzs_rowI (n : Nat) (f : Nat → Int) : fzs (rowI n f) = true := fzs_map fun _ _ => rfl
def cb (ps : List (Option Nat)) (i j : Nat) : Int := (if (0 : Int) < (j : Int) - (i : Int) then (j : Int) - i else 0) - (SW.lost ps i j : Nat)
theorem cb_psg {o w : List Int} {i j : Nat} (hi : i ≤ w.length) (hj : j ≤ w.length) : cb (SW.psg o w) i j = ((SW.lcs o ((w.drop i).take (j - i)) : Nat) : Int) := by
  unfold cb
  by_cases h : i ≤ j
  · have := SW.psg_lost (text := o) (base := w) hj h
    split <;> omega
  · have := SW.psg_lost0 (text := o) (base := w) (i := i) hj (by omega)
    rw [show j - i = 0 by omega, List.take_zero, SW.lcs_nil_right]
    split <;> omega
abbrev comT (ps : List (Option Nat)) : D := .rol (((List.range (ps.length + 1)).map fun i => rowI (ps.length + 1) (cb ps i)).map .rol)
theorem lost_fm (ps : List (Option Nat)) (i j : Nat) : ((ps.drop i).filterMap fun e => if SW.out j e = true then some (D.int 1) else none).length = SW.lost ps i j := by
  unfold SW.lost
  induction ps.drop i with
  | nil => rfl
  | cons e l ih =>
    rw [List.countP_cons, ← ih, List.filterMap_cons]
    by_cases h : SW.out j e = true <;> simp [h]
theorem commons_by_eq (ps : List (Option Nat)) (hl : ps.length ≤ 400) (μ : Store) : F__law_commons_by [encP ps] μ = .ok (comT ps, μ) := by
  refine gc_eq ?_
  unfold b__law_commons_by
  simp
  have hn : ((ps.length : Int) + 1).toNat = ps.length + 1 := by omega
  with_reducible refine wp_forL (List.range (ps.length + 1)) (fun i : Nat => D.int (i : Int)) (fun done rest ρ ν => ∃ as x3 x4 x5 x6 x7, TabAt μ ν μ.length as ((List.range done.length).map fun i => rowI (ps.length + 1) (cb ps i)) ∧
    ρ = [some (encP ps), some (.int (ps.length : Nat)), some (.ptr μ.length), x3, x4, x5, x6, x7]) ?_ ?_ ?_
  · simp [range_map, hn]
    refine ⟨by omega, [], ⟨⟨_, rfl⟩, by simp, Nat.le_refl _, rfl, List.nodup_nil, by simp, by simp⟩⟩
  · rintro done i rest ρ ν hd ⟨as, x3, x4, x5, x6, x7, T, rfl⟩
    have hlt := (range_at hd).2
    have hi := (range_at hd).1
    subst hi
    simp
    with_reducible refine wp_forL (List.range (ps.length + 1)) (fun j : Nat => D.int (j : Int)) (fun d2 r2 ρ ν' => ∃ x5 x6 x7, ν' = ν ++ [.lst (rowI d2.length (cb ps done.length))] ∧
      ρ = [some (encP ps), some (.int (ps.length : Nat)), some (.ptr μ.length), some (.int (done.length : Nat)), some (.ptr ν.length), x5, x6, x7]) ?_ ?_ ?_
    · simp [range_map, hn, rowI]
      omega
    · rintro d2 j r2 ρ ν' hd2 ⟨x5, x6, x7, rfl, rfl⟩
      have hlt2 := (range_at hd2).2
      have hj := (range_at hd2).1
      subst hj
      simp
      with_reducible refine wm_lcL (ps.drop done.length) opD (fun e => if SW.out d2.length e = true then some (D.int 1) else none) ?_
      simp [cut_map_from]
      refine ⟨by omega, fun a ha r => ?_, ?_⟩
      · cases a with
        | none => simp [opD, nis_non, SW.out]
        | some e =>
          simp [opD, nis_int, SW.out]
          refine br_of (fun q => ?_) (fun q => ?_)
          · simpa using q
          · simpa using q
      · have hg : fzs ((ps.drop done.length).filterMap fun e => if SW.out d2.length e = true then some (D.int 1) else none) = true := by
          rw [fm_ite (fun e => SW.out d2.length e = true) (fun _ => D.int 1)]
          exact fzs_map fun _ _ => rfl
        have hln := lost_fm ps done.length d2.length
        generalize ((ps.drop done.length).filterMap fun e => if SW.out d2.length e = true then some (D.int 1) else none) = L at hg hln
        rw [mapDs_fz _ _ hg]
        refine ⟨by omega, ?_⟩
        rw [rowI_succ, hln]
        unfold cb
        have : (if done.length < d2.length then (d2.length : Int) - done.length else 0) = if (0 : Int) < (d2.length : Int) - (done.length : Int) then (d2.length : Int) - done.length else 0 := by
          by_cases q : done.length < d2.length
          · rw [if_pos q, if_pos (by omega)]
          · rw [if_neg q, if_neg (by omega)]
        rw [this]
    · rintro ρ ν' ⟨x5, x6, x7, rfl, rfl⟩
      have T2 := T.app [.lst (rowI (ps.length + 1) (cb ps done.length))]
      have hal := T.len
      simp at hal
      simp [T2.at_]
      refine ⟨by omega, as ++ [ν.length], ?_⟩
      have hlen := lstAt_lt T.at_
      obtain ⟨q, hq⟩ := T.ext
      have T3 := T2.snoc (a := ν.length) (ds := rowI (ps.length + 1) (cb ps done.length)) (by simp) (fun z => by have := tab_lt T z; omega) (by omega) (by rw [hq]; simp)
      rw [List.range_succ, List.map_append]
      simpa using T3
  · rintro ρ ν ⟨as, x3, x4, x5, x6, x7, T, rfl⟩
    simp at T
    simp
    rw [T.gc (by simp)]
    exact ⟨rfl, rfl⟩
end LW

-- P81n
set_option Elab.async false
set_option linter.all false
set_option maxRecDepth 100000
set_option maxHeartbeats 1000000
namespace LW
open PySem DL
theorem ix_com (ps : List (Option Nat)) {i : Nat} (h : i ≤ ps.length) (μ : Store) : ixD (comT ps) (.int ((i : Nat) : Int)) μ = some (.rol (rowI (ps.length + 1) (cb ps i)), μ) := by
  rw [ixD_rolI, atI_map, List.getElem?_map, List.getElem?_range (by omega)]
  rfl
theorem ix_rowI {n i : Nat} {f : Nat → Int} (h : i < n) (μ : Store) : ixD (.rol (rowI n f)) (.int ((i : Nat) : Int)) μ = some (.int (f i), μ) := by
  rw [ixD_rolI, atI_nat, rowI_get h]
  rfl
theorem ne_nil (μ : Store) : neD (.rol []) (.rol []) μ = some (.bl false, μ) := by
  have := eqD_ints (l := []) (m := []) (μ := μ)
  unfold eqD at this
  unfold neD
  simp at this
  simp [this]
theorem fm_none {α : Type} (l : List α) (f : α → Option D) (h : ∀ a ∈ l, f a = none) : l.filterMap f = [] := by
  rw [List.filterMap_eq_nil_iff]; exact h
theorem between_eq (a b : List (Option Nat)) (hab : b.length = a.length) (m : Int) (hl : a.length ≤ 400) (h : ∀ i j, i ≤ j → j ≤ a.length → 0 ≤ cb b i j - cb a i j ∧ cb b i j - cb a i j ≤ m) (μ : Store) :
    F__law_between [comT a, comT b, .int m] μ = .ok (.bl true, μ) := by
  refine gc_eq ?_
  unfold b__law_between
  simp
  have ca : ∀ i (μ : Store), i ≤ a.length → ixD (comT a) (.int ((i : Nat) : Int)) μ = some (.rol (rowI (a.length + 1) (cb a i)), μ) := fun i μ h => ix_com a h μ
  have cb' : ∀ i (μ : Store), i ≤ a.length → ixD (comT b) (.int ((i : Nat) : Int)) μ = some (.rol (rowI (a.length + 1) (cb b i)), μ) := fun i μ h => by
    have := ix_com b (i := i) (by omega) μ
    rw [hab] at this; exact this
  have lenA : ∀ μ : Store, lenD [comT a] μ = some (.int ((a.length + 1 : Nat) : Int), μ) := fun μ => by simp [comT]
  generalize comT a = A at ca lenA
  generalize comT b = B at cb'
  with_reducible refine wp_forL (List.range (a.length + 1)) (fun i : Nat => D.int (i : Int)) (fun done rest ρ ν => ∃ x3 x4 x5, ν = μ ∧ ρ = [some A, some B, some (.int m), x3, x4, x5]) ?_ ?_ ?_
  · have hn : ((a.length : Int) + 1).toNat = a.length + 1 := by omega
    simp at lenA
    simp [range_map, lenA, hn]
    omega
  · rintro done i rest ρ ν hd ⟨x3, x4, x5, rfl, rfl⟩
    have hlt := (range_at hd).2
    have hi := (range_at hd).1
    subst hi
    simp
    with_reducible refine wm_lcL (List.range (a.length + 1 - done.length)) (fun j : Nat => D.int ((done.length : Int) + (j : Int))) (fun _ => none) ?_
    simp at lenA
    simp [lenA]
    refine ⟨by omega, rfl, by omega, fun j hj r => ?_, ?_⟩
    · have i1 : ∀ μ, ixD (.rol (rowI (a.length + 1) (cb a done.length))) (.int ((done.length : Int) + (j : Int))) μ = some (.int (cb a done.length (done.length + j)), μ) := fun μ => by
        have := ix_rowI (n := a.length + 1) (i := done.length + j) (f := cb a done.length) (by omega) μ
        simpa using this
      have i2 : ∀ μ, ixD (.rol (rowI (a.length + 1) (cb b done.length))) (.int ((done.length : Int) + (j : Int))) μ = some (.int (cb b done.length (done.length + j)), μ) := fun μ => by
        have := ix_rowI (n := a.length + 1) (i := done.length + j) (f := cb b done.length) (by omega) μ
        simpa using this
      have q := h done.length (done.length + j) (by omega) (by omega)
      simp [ca _ _ (show done.length ≤ a.length by omega), cb' _ _ (show done.length ≤ a.length by omega), i1, i2]
      omega
    · rw [fm_none _ _ (fun _ _ => rfl)]
      have hne : ∀ μ : Store, neD (.rol []) (.rol []) μ = some (.bl false, μ) := ne_nil
      simp [hne]
  · rintro ρ ν ⟨x3, x4, x5, rfl, rfl⟩
    simp
end LW

-- P81o
set_option Elab.async false
set_option linter.all false
set_option maxRecDepth 100000
set_option maxHeartbeats 1000000
namespace LW
open PySem DL
theorem gcP_TL {μ : Store} {q : Nat} {tp tp' l : List Int} (P : D → Store → Prop) {tk0 : Tok P} : gcP 0 (TS μ q tp) P (tk := tk0) (.ptr μ.length) (TS μ q tp' ++ [.lst (l.map D.int)]) = P (.rol (l.map D.int)) (TS μ q tp') := by
  have e : mapD true (frzH true ((TS μ q tp).length + 0) (TS μ q tp' ++ [.lst (l.map D.int)]) 4) (.ptr μ.length) = some (.rol (l.map D.int)) := by
    have h : lstAt (TS μ q tp' ++ [.lst (l.map D.int)]) μ.length = some (l.map D.int) := by
      have := lstAt_new (μ := TS μ q tp') (.lst (l.map D.int))
      simpa using this
    have := frzH_new (r := true) (L := (TS μ q tp).length + 0) (f := 3) (by simp) h
    rw [mapDs_fz _ _ (by simp)] at this
    simpa [mapD] using this
  unfold gcP
  rw [e, gcS_T]
theorem drawn_eq {μ : Store} {q : Nat} {tp : List Int} (hq : q < μ.length) {many signs : Nat} (hm : many ≤ 400) (hs : 0 < signs) (hs2 : signs ≤ 1000) :
    ∃ (t : List Int) (tp' : List Int), F__law_drawn_text [.ptr q, .int (many : Nat), .int (signs : Nat)] (TS μ q tp) = .ok (encI t, TS μ q tp') ∧ t.length ≤ many ∧ ∀ i ∈ t, 0 ≤ i ∧ i < signs := by
  have key := gc_get (k := 0) (m := runF 5 b__law_drawn_text) (ds := [.ptr q, .int (many : Nat), .int (signs : Nat)]) (μ := TS μ q tp) (Q := fun d ν => ∃ (t tp' : List Int), d = encI t ∧ ν = TS μ q tp' ∧ t.length ≤ many ∧ ∀ i ∈ t, 0 ≤ i ∧ i < signs) ?_
  · obtain ⟨d, ν, e, t, tp', rfl, rfl, h1, h2⟩ := key
    exact ⟨t, tp', e, h1, h2⟩
  unfold b__law_drawn_text
  simp
  with_reducible refine wm_lc (fun rest acc ν => ∃ (t tp' : List Int), acc = t.map D.int ∧ ν = TS μ q tp' ++ [.lst (t.map D.int)] ∧ t.length + rest.length ≤ many ∧ ∀ i ∈ t, 0 ≤ i ∧ i < signs) ?_
  have t0 : ∀ tp, F__law_take [.ptr q, .int ((many : Int) + 1)] (TS μ q tp) = .ok (.int (takeR tp ((many : Int) + 1)), TS μ q tp.dropLast) := fun tp => take_T hq (by omega)
  obtain ⟨k, hk, hk2⟩ := takeN (tp := tp) (k := many + 1) (by omega)
  have hk : takeR tp ((many : Int) + 1) = k := by simpa using hk
  simp [t0, hk, range_map]
  refine ⟨by omega, ⟨⟨_, rfl⟩, by omega⟩, ?_, ?_, ?_⟩
  · rintro l acc μ' t rfl tp' rfl _ _
    have := lstAt_new (μ := TS μ q tp') (.lst (t.map D.int))
    simpa using this
  · rintro d l acc μ' t rfl tp' rfl hlen ht
    have hla := lstAt_new (μ := TS μ q tp'.dropLast) (.lst (t.map D.int))
    simp only [TS_len] at hla
    rw [take_A hq (by omega)]
    have hb := takeR_lt (tp := tp') (k := (signs : Int)) (by omega)
    simp [hla]
    refine ⟨by omega, t ++ [takeR tp' signs], by simp, ⟨⟨tp'.dropLast, rfl⟩, by simp⟩, by simp; omega, ?_⟩
    · intro i hi
      simp at hi
      rcases hi with hi | rfl
      · exact ht i hi
      · exact hb
  · rintro acc μ' t rfl tp' rfl hlen ht
    rw [gcP_TL]
    simp
    rw [gcP_T _ (by simp)]
    exact ⟨t, tp', rfl, rfl, hlen, ht⟩
end LW

-- SW2
set_option Elab.async false
set_option linter.all false
/-! SW2: a passage by its lost numbers; turned texts. -/
namespace SW
theorem lost_step' (ps : List (Option Nat)) (i j : Nat) (h : i < ps.length) : lost ps i j = lost ps (i + 1) j + (out j ps[i]).toNat := by
  unfold lost
  rw [List.drop_eq_getElem_cons h, List.countP_cons]
  cases out j ps[i] <;> rfl
theorem lost_at (ps : List (Option Nat)) (q e : Nat) (h : q < ps.length) : lost ps q (e + 1) + lost ps (q + 1) e = lost ps (q + 1) (e + 1) + lost ps q e + (if ps[q] = some e then 1 else 0) := by
  rw [lost_step' ps q (e + 1) h, lost_step' ps q e h]
  have : (out (e + 1) ps[q]).toNat = (out e ps[q]).toNat + (if ps[q] = some e then 1 else 0) := by
    cases hp : ps[q] with
    | none => simp [out]
    | some p =>
      simp only [out, Option.some.injEq]
      by_cases h1 : p = e
      · subst h1; simp
      · by_cases h2 : p < e
        · have h3 : p < e + 1 := by omega
          simp [h1, h2, h3]
        · have h3 : ¬ p < e + 1 := by omega
          simp [h1, h2, h3]
  omega
theorem psg_lostN {text base : List Int} {i j : Nat} (hj : j ≤ base.length) : lost (psg text base) i j + lcs text ((base.drop i).take (j - i)) = j - i := by
  by_cases h : i ≤ j
  · exact psg_lost hj h
  · rw [psg_lost0 hj (by omega), show j - i = 0 by omega, List.take_zero, lcs_nil_right]
theorem win_rev (w : List Int) (i j : Nat) (hj : j ≤ w.length) : (w.reverse.drop i).take (j - i) = ((w.drop (w.length - j)).take (j - i)).reverse := by
  refine List.ext_getElem? fun k => ?_
  by_cases h : k < j - i
  · rw [List.getElem?_take_of_lt h, List.getElem?_drop, List.getElem?_reverse (by omega)]
    have hlen : ((w.drop (w.length - j)).take (j - i)).length = j - i := by simp; omega
    rw [List.getElem?_reverse (by omega), hlen, List.getElem?_take_of_lt (by omega), List.getElem?_drop]
    congr 1
    omega
  · rw [List.getElem?_eq_none (by simp; omega), List.getElem?_eq_none (by simp; omega)]
theorem lost_rev (t w : List Int) (i j : Nat) (hj : j ≤ w.length) (hi : i ≤ w.length) : lost (psg t.reverse w.reverse) i j = lost (psg t w) (w.length - j) (w.length - i) := by
  have h1 := psg_lostN (text := t.reverse) (base := w.reverse) (i := i) (j := j) (by simpa using hj)
  have h2 := psg_lostN (text := t) (base := w) (i := w.length - j) (j := w.length - i) (by omega)
  rw [win_rev w i j hj, lcs_reverse] at h1
  have e : w.length - i - (w.length - j) = j - i := by omega
  rw [e] at h2
  omega
theorem psg_lt {t w : List Int} {q e : Nat} (h : q < (psg t w).length) (he : (psg t w)[q] = some e) : e < w.length := by
  have hl := psg_length t w
  simp only [psg, pas, List.getElem_map] at he
  have := (List.findIdx?_eq_some_iff_getElem.mp he).1
  rw [(rowT_of t w).len] at this
  exact this
/-- the passage of what is turned is the flipped one -/
theorem flip_at (t w : List Int) {q e : Nat} (hq : q < w.length) (he : e < w.length) :
    (psg t.reverse w.reverse)[q]? = some (some e) ↔ (psg t w)[w.length - 1 - e]? = some (some (w.length - 1 - q)) := by
  have l1 : (psg t.reverse w.reverse).length = w.length := by rw [psg_length]; simp
  have l2 := psg_length t w
  have a1 := lost_at (psg t.reverse w.reverse) q e (by omega)
  have a2 := lost_at (psg t w) (w.length - 1 - e) (w.length - 1 - q) (by omega)
  rw [lost_rev t w q (e + 1) (by omega) (by omega), lost_rev t w (q + 1) e (by omega) (by omega), lost_rev t w (q + 1) (e + 1) (by omega) (by omega), lost_rev t w q e (by omega) (by omega)] at a1
  rw [show w.length - 1 - e + 1 = w.length - e by omega, show w.length - 1 - q + 1 = w.length - q by omega] at a2
  rw [show w.length - (e + 1) = w.length - 1 - e by omega, show w.length - (q + 1) = w.length - 1 - q by omega] at a1
  rw [List.getElem?_eq_getElem (by omega), List.getElem?_eq_getElem (by omega)]
  simp only [Option.some.injEq]
  by_cases h1 : (psg t.reverse w.reverse)[q] = some e
  · by_cases h2 : (psg t w)[w.length - 1 - e] = some (w.length - 1 - q)
    · simp [h1, h2]
    · rw [if_pos h1] at a1; rw [if_neg h2] at a2; omega
  · by_cases h2 : (psg t w)[w.length - 1 - e] = some (w.length - 1 - q)
    · rw [if_neg h1] at a1; rw [if_pos h2] at a2; omega
    · simp [h1, h2]
/-- a text that holds the base has nothing lost -/
theorem psg_none {t w : List Int} (h : w.Sublist t) : psg t w = List.replicate w.length none := by
  refine List.ext_getElem? fun q => ?_
  by_cases hq : q < w.length
  · have l2 := psg_length t w
    rw [List.getElem?_eq_getElem (by omega), List.getElem?_replicate_of_lt hq]
    cases hp : (psg t w)[q]'(by omega) with
    | none => rfl
    | some e =>
      exfalso
      have he := psg_lt (by omega) hp
      have a := lost_at (psg t w) q e (by omega)
      rw [if_pos hp] at a
      have z : ∀ i j, j ≤ w.length → lost (psg t w) i j = 0 := fun i j hj => by
        have h1 := psg_lostN (text := t) (base := w) (i := i) (j := j) hj
        have h2 : ((w.drop i).take (j - i)).Sublist t := ((List.take_sublist _ _).trans (List.drop_sublist _ _)).trans h
        rw [lcs_of_sub h2] at h1
        simp at h1
        omega
      rw [z q (e + 1) (by omega), z (q + 1) e (by omega), z (q + 1) (e + 1) (by omega), z q e (by omega)] at a
      omega
  · rw [List.getElem?_eq_none (by rw [psg_length]; omega), List.getElem?_eq_none (by simp; omega)]
end SW

-- P81p
set_option Elab.async false
set_option linter.all false
set_option maxRecDepth 100000
set_option maxHeartbeats 1000000
namespace LW
open PySem DL
theorem put_sub (t m : List Int) (k : Nat) : t.Sublist (putL t k m) := by
  have h : (t.take k ++ t.drop k).Sublist (t.take k ++ (m ++ t.drop k)) := List.Sublist.append (List.Sublist.refl _) (List.sublist_append_right _ _)
  rw [List.take_append_drop] at h
  simpa [putL] using h
theorem put_len (t m : List Int) (k : Nat) : (putL t k m).length = t.length + m.length := by
  have := congrArg List.length (List.take_append_drop k t)
  simp only [List.length_append] at this
  simp only [putL, List.length_append]
  omega
theorem out_sub (t : List Int) {a b : Nat} (h : a ≤ b) : (outL t a b).Sublist t := by
  have h2 : (t.take a ++ t.drop b).Sublist (t.take a ++ t.drop a) := List.Sublist.append (List.Sublist.refl _) (by
    have : t.drop b = (t.drop a).drop (b - a) := by rw [List.drop_drop]; congr 1; omega
    rw [this]; exact List.drop_sublist _ _)
  rw [List.take_append_drop] at h2
  simpa [outL] using h2
theorem out_len (t : List Int) {a b : Nat} (h : a ≤ b) (hb : b ≤ t.length) : (outL t a b).length + (b - a) = t.length := by
  simp [outL]; omega
/-- one sign exchanged -/
theorem sign_near (t : List Int) {k : Nat} (hk : k < t.length) (v : Int) (w : List Int) : SW.lcs (signL t k v) w ≤ SW.lcs t w + 1 ∧ SW.lcs t w ≤ SW.lcs (signL t k v) w + 1 := by
  have s1 : (outL t k (k + 1)).Sublist t := out_sub t (by omega)
  have s2 : (outL t k (k + 1)).Sublist (signL t k v) := by
    have : (t.take k ++ t.drop (k + 1)).Sublist (t.take k ++ ([v] ++ t.drop (k + 1))) := List.Sublist.append (List.Sublist.refl _) (List.sublist_append_right _ _)
    simpa [outL, signL] using this
  have l1 := out_len t (a := k) (b := k + 1) (by omega) (by omega)
  have l2 : (signL t k v).length = t.length := by simp [signL]; omega
  have m1 := SW.lcs_mono s1 (List.Sublist.refl w)
  have m2 := SW.lcs_mono s2 (List.Sublist.refl w)
  have n1 := SW.lcs_more s1 w
  have n2 := SW.lcs_more s2 w
  omega
end LW

-- P81q
set_option Elab.async false
set_option linter.all false
set_option maxRecDepth 100000
set_option maxHeartbeats 1000000
namespace LW
open PySem DL
/-! ### the flipped list, as the law makes it -/
def flipK (ps' : List (Option Nat)) (n k : Nat) : List (Option Nat) := ps'.map fun o => match o with
  | some y => if n - 1 - y < k then some y else none
  | none => none
theorem flipK_zero (ps' : List (Option Nat)) (n : Nat) : flipK ps' n 0 = List.replicate ps'.length none := by
  unfold flipK
  rw [← List.map_const']
  refine List.map_congr_left fun o _ => ?_
  cases o <;> simp
theorem flipK_end {ps' : List (Option Nat)} {n : Nat} (hn : 0 < n) : flipK ps' n n = ps' := by
  unfold flipK
  conv => rhs; rw [← List.map_id ps']
  refine List.map_congr_left fun o _ => ?_
  cases o with
  | none => rfl
  | some y =>
    have : n - 1 - y < n := by omega
    simp [this]
theorem flipK_none {t w : List Int} {k : Nat} (hk : k < w.length) (h : (SW.psg t w)[k]? = some none) : flipK (SW.psg t.reverse w.reverse) w.length (k + 1) = flipK (SW.psg t.reverse w.reverse) w.length k := by
  unfold flipK
  refine List.ext_getElem? fun x => ?_
  rw [List.getElem?_map, List.getElem?_map]
  cases hx : (SW.psg t.reverse w.reverse)[x]? with
  | none => rfl
  | some o =>
    cases o with
    | none => rfl
    | some y =>
      have hxl : x < w.length := by
        have := (List.getElem?_eq_some_iff.mp hx).1
        rw [SW.psg_length] at this; simpa using this
      have hy : y < w.length := by
        obtain ⟨h1, h2⟩ := List.getElem?_eq_some_iff.mp hx
        have := SW.psg_lt h1 h2
        simpa using this
      have hf := (SW.flip_at t w hxl hy).mp hx
      have hne : w.length - 1 - y ≠ k := fun e => by rw [e, h] at hf; cases hf
      simp only [Option.map_some]
      by_cases g : w.length - 1 - y < k
      · have g2 : w.length - 1 - y < k + 1 := by omega
        simp [g, g2]
      · have g2 : ¬ w.length - 1 - y < k + 1 := by omega
        simp [g, g2]
theorem flipK_some {t w : List Int} {k e : Nat} (hk : k < w.length) (h : (SW.psg t w)[k]? = some (some e)) :
    e < w.length ∧ flipK (SW.psg t.reverse w.reverse) w.length (k + 1) = (flipK (SW.psg t.reverse w.reverse) w.length k).set (w.length - 1 - e) (some (w.length - 1 - k)) := by
  have he : e < w.length := by
    obtain ⟨h1, h2⟩ := List.getElem?_eq_some_iff.mp h
    exact SW.psg_lt h1 h2
  refine ⟨he, ?_⟩
  have hl : (flipK (SW.psg t.reverse w.reverse) w.length k).length = w.length := by simp [flipK, SW.psg_length]
  refine List.ext_getElem? fun x => ?_
  by_cases ex : w.length - 1 - e = x
  · subst ex
    rw [List.getElem?_set_self (by omega)]
    have hf := (SW.flip_at t w (q := w.length - 1 - e) (e := w.length - 1 - k) (by omega) (by omega)).mpr (by
      rw [show w.length - 1 - (w.length - 1 - k) = k by omega, show w.length - 1 - (w.length - 1 - e) = e by omega]; exact h)
    unfold flipK
    rw [List.getElem?_map, hf]
    have : w.length - 1 - (w.length - 1 - k) < k + 1 := by omega
    simp [this]
  · rw [List.getElem?_set_ne ex]
    unfold flipK
    rw [List.getElem?_map, List.getElem?_map]
    cases hx : (SW.psg t.reverse w.reverse)[x]? with
    | none => rfl
    | some o =>
      cases o with
      | none => rfl
      | some y =>
        have hxl : x < w.length := by
          have := (List.getElem?_eq_some_iff.mp hx).1
          rw [SW.psg_length] at this; simpa using this
        have hy : y < w.length := by
          obtain ⟨h1, h2⟩ := List.getElem?_eq_some_iff.mp hx
          have := SW.psg_lt h1 h2
          simpa using this
        have hf := (SW.flip_at t w hxl hy).mp hx
        have hne : w.length - 1 - y ≠ k := fun z => by
          rw [z, h] at hf
          have := Option.some.inj (Option.some.inj hf)
          omega
        simp only [Option.map_some]
        by_cases g : w.length - 1 - y < k
        · have g2 : w.length - 1 - y < k + 1 := by omega
          simp [g, g2]
        · have g2 : ¬ w.length - 1 - y < k + 1 := by omega
          simp [g, g2]
end LW

-- P81r
set_option Elab.async false
set_option linter.all false
set_option maxRecDepth 100000
set_option maxHeartbeats 1000000
namespace LW
open PySem DL
/-! ### asks of the book at the store's end -/
section
variable {μ : Store} {q n : Nat} {tp : List Int} {hist chs : List D} {s : St}
theorem passage_A (hn : μ.length = n) (h : Bk hist chs) {x m y : Str} {u v : Nat} {t o : List Int} (hx : getR x s.1 = some o) (hm : getR m s.2 = some (y, (u : Int), (v : Int))) (hy : getR y s.1 = some t) (hl : ((t.drop u).take (v - u)).length ≤ 60)
    (ho : okT o) (ht : okT ((t.drop u).take (v - u))) : F_Book_passage [.ptr n, .str x, .str m] (TS μ q tp ++ [bk hist chs s]) = .ok (encP (SW.psg o ((t.drop u).take (v - u))), TS μ q tp ++ [bk hist chs s]) :=
  book_passage (at_A hn h) hx hm hy hl ho ht
theorem common_A (hn : μ.length = n) (h : Bk hist chs) {x y : Str} {o t : List Int} (hx : getR x s.1 = some o) (hy : getR y s.1 = some t) (ht : t.length ≤ 400) :
    F_Book_common [.ptr n, .str x, .str y] (TS μ q tp ++ [bk hist chs s]) = .ok (.int ((SW.lcs o t : Nat) : Int), TS μ q tp ++ [bk hist chs s]) := book_common (at_A hn h) hx hy ht
end
end LW

-- P81s
set_option Elab.async false
set_option linter.all false
set_option maxRecDepth 100000
set_option maxHeartbeats 2000000
namespace LW
open PySem DL
/-! ### k81: names, states, what is left of a change -/
theorem okName_1 {x : Str} {c : Nat} (h : x.cps.toList = [c]) (h1 : c ∈ (("abcdefghijklmnopqrstuvwxyz" : Str)).cps.toList) (h2 : c ∈ LF.cps.toList) (h3 : x.length = 1) : okName x := ⟨by omega, by omega, ⟨c, by rw [h]; rfl, h1⟩, fun d hd => by rw [h, List.mem_singleton] at hd; subst hd; exact h2⟩
theorem okName_m : okName "m" := ⟨by decide, by decide, ⟨109, by decide +kernel, by decide +kernel⟩, by decide +kernel⟩
theorem okName_x : okName "x" := ⟨by decide, by decide, ⟨120, by decide +kernel, by decide +kernel⟩, by decide +kernel⟩
theorem okName_y : okName "y" := ⟨by decide, by decide, ⟨121, by decide +kernel, by decide +kernel⟩, by decide +kernel⟩
theorem okName_z : okName "z" := ⟨by decide, by decide, ⟨122, by decide +kernel, by decide +kernel⟩, by decide +kernel⟩
@[simp] theorem s_ax : ¬ (("a" : Str) = "x") := by decide +kernel
@[simp] theorem s_ay : ¬ (("a" : Str) = "y") := by decide +kernel
@[simp] theorem s_az : ¬ (("a" : Str) = "z") := by decide +kernel
@[simp] theorem s_bx : ¬ (("b" : Str) = "x") := by decide +kernel
@[simp] theorem s_by : ¬ (("b" : Str) = "y") := by decide +kernel
@[simp] theorem s_bz : ¬ (("b" : Str) = "z") := by decide +kernel
@[simp] theorem s_xa : ¬ (("x" : Str) = "a") := by decide +kernel
@[simp] theorem s_ya : ¬ (("y" : Str) = "a") := by decide +kernel
@[simp] theorem s_za : ¬ (("z" : Str) = "a") := by decide +kernel
@[simp] theorem s_xb : ¬ (("x" : Str) = "b") := by decide +kernel
@[simp] theorem s_yb : ¬ (("y" : Str) = "b") := by decide +kernel
@[simp] theorem s_zb : ¬ (("z" : Str) = "b") := by decide +kernel
@[simp] theorem s_xy : ¬ (("x" : Str) = "y") := by decide +kernel
@[simp] theorem s_xz : ¬ (("x" : Str) = "z") := by decide +kernel
@[simp] theorem s_yx : ¬ (("y" : Str) = "x") := by decide +kernel
@[simp] theorem s_yz : ¬ (("y" : Str) = "z") := by decide +kernel
@[simp] theorem s_zx : ¬ (("z" : Str) = "x") := by decide +kernel
@[simp] theorem s_zy : ¬ (("z" : Str) = "y") := by decide +kernel
/-- texts a, b and some more; the mark m in b -/
def cs (ta tb : List Int) (r : Tx) (u v : Nat) : St := (("a", ta) :: ("b", tb) :: r, [("m", "b", (u : Int), (v : Int))])
theorem gcL_diff (h : Nat → Option D) : ∀ (A B r : Store), A.length = B.length → (∀ (i : Nat) (o : MO), B[i]? = some o → A[i]? = some o ∨ fzO o = true) → gcL h A (B ++ r) = some B
  | [], [], r, _, _ => by simp [gcL]
  | [], _ :: _, _, e, _ => by simp at e
  | _ :: _, [], _, e, _ => by simp at e
  | o :: A, o' :: B, r, e, hd => by
    have ih := gcL_diff h A B r (by simpa using e) (fun i x hx => by
      have := hd (i + 1) x (by simpa using hx)
      simpa using this)
    have h0 := hd 0 o' (by simp)
    simp only [List.cons_append, gcL, ih]
    by_cases z : o' = o
    · simp [z]
    · rcases h0 with h0 | h0
      · simp at h0; exact absurd h0.symm z
      · simp [z, gcO_fz h o' h0]
theorem gcS_diff {A B : Store} (r : Store) (e : A.length = B.length) (hd : ∀ (i : Nat) (o : MO), B[i]? = some o → A[i]? = some o ∨ fzO o = true) : gcS 0 A (B ++ r) = some B := by
  unfold gcS
  rw [gcL_diff _ A B r e hd]
  simp [mapO]
theorem gcP_diff {A B : Store} {d : D} (P : D → Store → Prop) {tk0 : Tok P} (hf : fz d = true) (e : A.length = B.length) (hd : ∀ (i : Nat) (o : MO), B[i]? = some o → A[i]? = some o ∨ fzO o = true) : gcP 0 A P (tk := tk0) d B = P d B := by
  have := gcS_diff (A := A) (B := B) [] e hd
  rw [List.append_nil] at this
  unfold gcP
  rw [mapD_fz _ d hf, this]
theorem gcP_bk {μ : Store} {q : Nat} {tp tp' : List Int} {hist chs hist' chs' : List D} {s s' : St} {d : D} (P : D → Store → Prop) {tk0 : Tok P} (hf : fz d = true) (h : Bk hist' chs') :
    gcP 0 (TS μ q tp ++ [bk hist chs s]) P (tk := tk0) d (TS μ q tp' ++ [bk hist' chs' s']) = P d (TS μ q tp' ++ [bk hist' chs' s']) := by
  refine gcP_diff P hf (by simp) fun i o ho => ?_
  by_cases h1 : i < μ.length
  · rw [List.getElem?_append_left (by simpa using h1)] at ho ⊢
    unfold TS at ho ⊢
    by_cases h2 : q = i
    · subst h2
      rw [List.getElem?_set_self h1] at ho
      cases ho
      exact .inr (by simp [fzO])
    · rw [List.getElem?_set_ne h2] at ho ⊢
      exact .inl ho
  · rw [List.getElem?_append_right (by simp; omega)] at ho
    by_cases h2 : i = μ.length
    · subst h2
      simp at ho
      subst ho
      exact .inr (fz_bk _ (by simp [h.fh, fz_sD]) h.fc)
    · rw [List.getElem?_eq_none (by simp; omega)] at ho
      cases ho
theorem drawn_A {μ : Store} {q : Nat} {tp : List Int} (hq : q < μ.length) {many signs : Nat} (hm : many ≤ 400) (hs : 0 < signs) (hs2 : signs ≤ 1000) (r : Store) :
    ∃ (t : List Int) (tp' : List Int), F__law_drawn_text [.ptr q, .int (many : Nat), .int (signs : Nat)] (TS μ q tp ++ r) = .ok (encI t, TS μ q tp' ++ r) ∧ t.length ≤ many ∧ ∀ i ∈ t, 0 ≤ i ∧ i < signs := by
  obtain ⟨t, tp', h1, h2, h3⟩ := drawn_eq (μ := μ ++ r) (q := q) (tp := tp) (by simp; omega) hm hs hs2
  rw [← TS_app hq, ← TS_app hq] at h1
  exact ⟨t, tp', h1, h2, h3⟩
theorem nn_passage (sts chs : List D) (n : Nat) : (bkF sts chs n).lookup ("passage" : Str) = none := bk_none _ _ _ _ (by decide +kernel) (by decide +kernel) (by decide +kernel)
theorem nn_is_never_less (sts chs : List D) (n : Nat) : (bkF sts chs n).lookup ("is_never_less" : Str) = none := bk_none _ _ _ _ (by decide +kernel) (by decide +kernel) (by decide +kernel)
theorem nn_common (sts chs : List D) (n : Nat) : (bkF sts chs n).lookup ("common" : Str) = none := bk_none _ _ _ _ (by decide +kernel) (by decide +kernel) (by decide +kernel)
theorem nn_distance (sts chs : List D) (n : Nat) : (bkF sts chs n).lookup ("distance" : Str) = none := bk_none _ _ _ _ (by decide +kernel) (by decide +kernel) (by decide +kernel)
theorem nn_holders (sts chs : List D) (n : Nat) : (bkF sts chs n).lookup ("holders" : Str) = none := bk_none _ _ _ _ (by decide +kernel) (by decide +kernel) (by decide +kernel)
theorem nn_first_less (sts chs : List D) (n : Nat) : (bkF sts chs n).lookup ("first_less" : Str) = none := bk_none _ _ _ _ (by decide +kernel) (by decide +kernel) (by decide +kernel)
theorem nn_across (sts chs : List D) (n : Nat) : (bkF sts chs n).lookup ("across" : Str) = none := bk_none _ _ _ _ (by decide +kernel) (by decide +kernel) (by decide +kernel)
/-- one change; what the book keeps of it is hidden -/
theorem change_E {μ : Store} {q : Nat} {hist chs : List D} {s : St} (h : Bk hist chs) (b : BC) (e : D) (he : b.e = e) (hw : b.wf) (ho : okAll b.chs s) (hl : hist.length < 200) (s' : St) (hs : goAll b.chs s = s') :
    ∃ hist' chs' : List D, (∀ tp, F_Book_change [.ptr μ.length, e] (TS μ q tp ++ [bk hist chs s]) = .ok (.non, TS μ q tp ++ [bk hist' chs' s'])) ∧ Bk hist' chs' ∧ hist'.length = hist.length + 1 :=
  ⟨_, _, fun tp => he ▸ change_A rfl h b hw ho hl hs, h.next s b, by simp⟩
theorem wf1 {c : Ch} (h : c.wf) : (BC.one c).wf := ⟨by simp [BC.chs], by simp [BC.chs], fun d hd => by
  simp [BC.chs] at hd
  subst hd
  exact h⟩
theorem ok1 {c : Ch} {s : St} (h : c.ok s) : okAll (BC.one c).chs s := ⟨h, trivial⟩
end LW

-- P81t
set_option Elab.async false
set_option linter.all false
set_option maxRecDepth 100000
set_option maxHeartbeats 4000000
namespace LW
open PySem DL
theorem neD_intsT {l : List Int} {μ : Store} : neD (.tup (l.map D.int)) (.tup []) μ = some (.bl (decide (l ≠ [])), μ) := by
  have := eqD_intsT (l := l) (m := []) (μ := μ)
  unfold eqD at this
  unfold neD
  simp only [List.map_nil] at this
  revert this
  cases eqB μ (.tup (l.map D.int)) (.tup []) with
  | none => simp
  | some b =>
    simp
    try (rintro rfl; cases l <;> simp)
theorem nis_tt {μ : Store} : nisD (.bl true) (.bl true) μ = some (.bl false, μ) := rfl
theorem okT_of {t : List Int} {k : Nat} (h : ∀ i ∈ t, 0 ≤ i ∧ i < k) (hk : k ≤ 1000) (hl : t.length ≤ 400) : okT t := ⟨fun i hi => by have := h i hi; omega, hl⟩
theorem okT_sub {t w : List Int} (h : w.Sublist t) (ht : okT t) : okT w := ⟨fun i hi => ht.1 i (h.subset hi), Nat.le_trans h.length_le ht.2⟩
theorem okT_put {t m : List Int} {k : Nat} (ht : okT t) (hm : okT m) (hl : t.length + m.length ≤ 400) : okT (putL t k m) := ⟨fun i hi => by
  simp only [putL, List.mem_append] at hi
  rcases hi with (hi | hi) | hi
  · exact ht.1 i (List.mem_of_mem_take hi)
  · exact hm.1 i hi
  · exact ht.1 i (List.mem_of_mem_drop hi), by rw [put_len]; exact hl⟩
theorem okT_sign {t : List Int} {k : Nat} {v : Int} (ht : okT t) (hv : 0 ≤ v ∧ v ≤ 999) (hk : k < t.length) : okT (signL t k v) := ⟨fun i hi => by
  simp only [signL, List.mem_append, List.mem_singleton] at hi
  rcases hi with (hi | rfl) | hi
  · exact ht.1 i (List.mem_of_mem_take hi)
  · exact hv
  · exact ht.1 i (List.mem_of_mem_drop hi), by
  have := ht.2
  simp [signL]; omega⟩
def wnd (tb : List Int) (u v : Nat) : List Int := (tb.drop u).take (v - u)
theorem wnd_sub (tb : List Int) (u v : Nat) : (wnd tb u v).Sublist tb := (List.take_sublist _ _).trans (List.drop_sublist _ _)
section
variable {μ : Store} {q : Nat} {tp : List Int} {hist chs : List D} {ta tb : List Int} {r : Tx} {u v : Nat}
theorem cs_a : getR "a" (cs ta tb r u v).1 = some ta := by simp [cs, getR]
theorem cs_b : getR "b" (cs ta tb r u v).1 = some tb := by simp [cs, getR]
theorem cs_m : getR "m" (cs ta tb r u v).2 = some (("b" : Str), (u : Int), (v : Int)) := by simp [cs, getR]
theorem psg_A (h : Bk hist chs) (ha : okT ta) (hb : okT tb) (hbl : tb.length ≤ 60) : F_Book_passage [.ptr μ.length, .str "a", .str "m"] (TS μ q tp ++ [bk hist chs (cs ta tb r u v)]) = .ok (encP (SW.psg ta (wnd tb u v)), TS μ q tp ++ [bk hist chs (cs ta tb r u v)]) :=
  passage_A rfl h cs_a cs_m cs_b (Nat.le_trans (wnd_sub tb u v).length_le hbl) ha (okT_sub (wnd_sub tb u v) hb)
theorem com_A {t w : List Int} (hw : w.length ≤ 400) (μ : Store) : F__law_commons_by [encP (SW.psg t w)] μ = .ok (comT (SW.psg t w), μ) := commons_by_eq _ (by rw [SW.psg_length]; exact hw) μ
theorem betw {s t w : List Int} {m : Int} (hw : w.length ≤ 400) (hst : s.Sublist t) (hm : (t.length : Int) - s.length = m) (μ : Store) :
    F__law_between [comT (SW.psg s w), comT (SW.psg t w), .int m] μ = .ok (.bl true, μ) := by
  refine between_eq _ _ (by rw [SW.psg_length, SW.psg_length]) m (by rw [SW.psg_length]; exact hw) (fun i j hi hj => ?_) μ
  rw [SW.psg_length] at hj
  rw [cb_psg (by omega) hj, cb_psg (by omega) hj]
  have h1 := SW.lcs_mono hst (List.Sublist.refl ((w.drop i).take (j - i)))
  have h2 := SW.lcs_more hst ((w.drop i).take (j - i))
  have := hst.length_le
  omega
end
end LW

-- P81u
set_option Elab.async false
set_option linter.all false
set_option maxRecDepth 100000
set_option maxHeartbeats 4000000
namespace LW
open PySem DL
section
variable {μ : Store} {q : Nat} {tp : List Int} {hist chs : List D} {ta tb : List Int} {r : Tx} {u v : Nat}
theorem put_right_eq (hq : q < μ.length) (hB : Bk hist chs) (hl : hist.length ≤ 190) (ha : okT ta) (hal : ta.length ≤ 30) (hb : okT tb) (hbl : tb.length ≤ 60) (huv : u ≤ v) (hv : v ≤ tb.length) :
    ∃ (tp' : List Int) (hist' chs' : List D) (ta' ty : List Int), F__law_put_right [.ptr q, .ptr μ.length] (TS μ q tp ++ [bk hist chs (cs ta tb [] u v)]) = .ok (.bl true, TS μ q tp' ++ [bk hist' chs' (cs ta' tb [("z", wnd tb u v), ("y", ty)] u v)]) ∧
      Bk hist' chs' ∧ hist'.length ≤ hist.length + 5 ∧ okT ta' ∧ ta'.length ≤ ta.length + 4 := by
  have key : wo (F__law_put_right [.ptr q, .ptr μ.length] (TS μ q tp ++ [bk hist chs (cs ta tb [] u v)])) X0 fun d ν => ∃ (tp' : List Int) (hist' chs' : List D) (ta' ty : List Int), d = .bl true ∧ ν = TS μ q tp' ++ [bk hist' chs' (cs ta' tb [("z", wnd tb u v), ("y", ty)] u v)] ∧
      Bk hist' chs' ∧ hist'.length ≤ hist.length + 5 ∧ okT ta' ∧ ta'.length ≤ ta.length + 4 := by
    unfold F__law_put_right
    rw [wo_gcF, gcX_X0]
    unfold b__law_put_right
    have hw : (wnd tb u v).length ≤ 400 := Nat.le_trans (wnd_sub tb u v).length_le (by omega)
    have t1 := text_A (μ := μ) (q := q) (tp := tp) (s := cs ta tb [] u v) rfl hB cs_a
    have p1 := psg_A (μ := μ) (q := q) (tp := tp) (ta := ta) (r := []) (u := u) (v := v) hB ha hb hbl
    have k1 : F__law_take [.ptr q, .int ((ta.length : Int) + 1)] (TS μ q tp ++ [bk hist chs (cs ta tb [] u v)]) = .ok (.int (takeR tp ((ta.length : Int) + 1)), TS μ q tp.dropLast ++ [bk hist chs (cs ta tb [] u v)]) := take_A hq (by omega)
    obtain ⟨k, hk, hk2⟩ := takeN (tp := tp) (k := ta.length + 1) (by omega)
    have hk : takeR tp ((ta.length : Int) + 1) = k := by simpa using hk
    obtain ⟨more, tp2, d1, hm1, hm2⟩ := drawn_A (μ := μ) (q := q) (tp := tp.dropLast) hq (many := 4) (signs := 3) (by omega) (by omega) (by omega) [bk hist chs (cs ta tb [] u v)]
    have d1 : F__law_drawn_text [.ptr q, .int 4, .int 3] (TS μ q tp.dropLast ++ [bk hist chs (cs ta tb [] u v)]) = .ok (encI more, TS μ q tp2 ++ [bk hist chs (cs ta tb [] u v)]) := d1
    have hmo : okT more := okT_of hm2 (by omega) (by omega)
    -- put
    obtain ⟨h1, g1, c1, B1, e1⟩ := change_E (μ := μ) (q := q) hB (.one (.put "a" k more)) (.tup [.str "put", .str "a", .int k, encI more]) rfl (wf1 okName_a) (s := cs ta tb [] u v) (ok1 ⟨by simp [cs], by simp [cs], ta, cs_a, hmo, by omega, by omega⟩) (by omega) (cs (putL ta k more) tb [] u v) (by simp [goAll, BC.chs, Ch.go, cs, txt, getR, setR, movM])
    have ho1 : okT (putL ta k more) := okT_put ha hmo (by omega)
    have l1 := put_len ta more k
    generalize hta1 : putL ta k more = ta1 at c1 ho1 l1
    have hs1 : ta.Sublist ta1 := hta1 ▸ put_sub ta more k
    have p2 := psg_A (μ := μ) (q := q) (tp := tp2) (r := []) (u := u) (v := v) B1 ho1 hb hbl
    have bw1 := betw (w := wnd tb u v) (m := more.length) hw hs1 (by omega)
    -- lift
    obtain ⟨h2, g2, c2, B2, e2⟩ := change_E (μ := μ) (q := q) B1 (.one (.lift "z" "m")) (.tup [.str "lift", .str "z", .str "m"]) rfl (wf1 ⟨okName_z, okName_m⟩) (s := cs ta1 tb [] u v) (ok1 ⟨by simp [cs], by simp [cs], "b", u, v, tb, cs_m, cs_b⟩) (by omega) (cs ta1 tb [("z", wnd tb u v)] u v) (by simp [goAll, BC.chs, Ch.go, cs, txt, getR, setR, wnd])
    -- text
    obtain ⟨h3, g3, c3, B3, e3⟩ := change_E (μ := μ) (q := q) B2 (.one (.text "y" ta)) (.tup [.str "text", .str "y", encI ta]) rfl (wf1 okName_y) (s := cs ta1 tb [("z", wnd tb u v)] u v) (ok1 ⟨by simp [cs], by simp [cs], ha⟩) (by omega) (cs ta1 tb [("z", wnd tb u v), ("y", ta)] u v) (by simp [goAll, BC.chs, Ch.go, cs, txt, getR, setR])
    have nl := book_never_less (x := "a") (x' := "y") (m := "m") (o := ta1) (o' := ta) (at_A (μ := μ) (q := q) (tp := tp2) (s := cs ta1 tb [("z", wnd tb u v), ("y", ta)] u v) rfl B3) cs_a (by simp [cs, getR]) cs_m cs_b (Nat.le_trans (wnd_sub tb u v).length_le hbl) ho1 ha (okT_sub (wnd_sub tb u v) hb) (fun i k => SW.lcs_mono hs1 (List.Sublist.refl _))
    have m1 := common_A (μ := μ) (q := q) (tp := tp2) (s := cs ta1 tb [("z", wnd tb u v), ("y", ta)] u v) rfl B3 (cs_a) (cs_b) (by omega)
    have m2 := common_A (μ := μ) (q := q) (tp := tp2) (s := cs ta1 tb [("z", wnd tb u v), ("y", ta)] u v) (x := "y") (o := ta) rfl B3 (by simp [cs, getR]) (cs_b) (by omega)
    have n1 := SW.lcs_mono hs1 (List.Sublist.refl tb)
    have n2 := SW.lcs_more hs1 tb
    have t2 := text_A (μ := μ) (q := q) (tp := tp2) (s := cs ta1 tb [("z", wnd tb u v), ("y", ta)] u v) rfl B3 cs_a
    -- out
    have k2 : F__law_take [.ptr q, .int ((ta1.length : Int) + 1)] (TS μ q tp2 ++ [bk h3 g3 (cs ta1 tb [("z", wnd tb u v), ("y", ta)] u v)]) = .ok (.int (takeR tp2 ((ta1.length : Int) + 1)), TS μ q tp2.dropLast ++ _) := take_A hq (by omega)
    obtain ⟨f, hf, hf2⟩ := takeN (tp := tp2) (k := ta1.length + 1) (by omega)
    have hf : takeR tp2 ((ta1.length : Int) + 1) = f := by simpa using hf
    have k3 : F__law_take [.ptr q, .int 4] (TS μ q tp2.dropLast ++ [bk h3 g3 (cs ta1 tb [("z", wnd tb u v), ("y", ta)] u v)]) = .ok (.int (takeR tp2.dropLast 4), TS μ q tp2.dropLast.dropLast ++ _) := take_A hq (by omega)
    obtain ⟨f', hf', hf2'⟩ := takeN (tp := tp2.dropLast) (k := 4) (by omega)
    have hf' : takeR tp2.dropLast 4 = f' := hf'
    generalize hp3 : tp2.dropLast.dropLast = tp3 at k3
    obtain ⟨g, hg, hfg, hgl⟩ : ∃ g : Nat, (if (f : Int) + f' < (ta1.length : Int) then (f : Int) + f' else (ta1.length : Int)) = g ∧ f ≤ g ∧ g ≤ ta1.length := by
      by_cases z : (f : Int) + f' < (ta1.length : Int)
      · exact ⟨f + f', by rw [if_pos z]; simp, by omega, by omega⟩
      · exact ⟨ta1.length, by rw [if_neg z], by omega, by omega⟩
    obtain ⟨h4, g4, c4, B4, e4⟩ := change_E (μ := μ) (q := q) B3 (.one (.out "a" f g)) (.tup [.str "out", .str "a", .int f, .int g]) rfl (wf1 okName_a) (s := cs ta1 tb [("z", wnd tb u v), ("y", ta)] u v) (ok1 ⟨by simp [cs], by simp [cs], ta1, cs_a, hfg, hgl, by omega⟩) (by omega) (cs (outL ta1 f g) tb [("z", wnd tb u v), ("y", ta)] u v) (by simp [goAll, BC.chs, Ch.go, cs, txt, getR, setR, movM])
    have l2 := out_len ta1 hfg hgl
    have hs2 : (outL ta1 f g).Sublist ta1 := out_sub ta1 hfg
    generalize outL ta1 f g = ta2 at c4 l2 hs2
    have ho2 := okT_sub hs2 ho1
    have p3 := psg_A (μ := μ) (q := q) (tp := tp3) (r := [("z", wnd tb u v), ("y", ta)]) (u := u) (v := v) B4 ho2 hb hbl
    have bw2 := betw (w := wnd tb u v) (m := (g : Int) - f) hw hs2 (by omega)
    have t3 := text_A (μ := μ) (q := q) (tp := tp3) (s := cs ta2 tb [("z", wnd tb u v), ("y", ta)] u v) rfl B4 cs_a
    have cA : ∀ t μ, F__law_commons_by [encP (SW.psg t (wnd tb u v))] μ = .ok (comT (SW.psg t (wnd tb u v)), μ) := fun t μ => com_A hw μ
    have i0 : ∀ tp hist chs s, insAt (TS μ q tp ++ [bk hist chs s]) "Book" μ.length = some (bkF (hist ++ [sD s]) chs hist.length) := fun tp hist chs s => ins_A rfl
    simp [i0, nn_text, nn_change, nn_passage, nn_is_never_less, nn_common, t1, p1, cA, k1, hk, d1, c1, p2, bw1, c2, c3, nl, nis_tt, m1, m2]
    refine br_of (fun _ => ?_) (fun z => absurd n1 z)
    refine br_of (fun z => by omega) (fun _ => ?_)
    simp [i0, nn_text, nn_change, nn_passage, t2, k2, hf, k3, hf', hg, c4, p3, cA, bw2, t3, neD_intsT]
    refine br_of (fun _ => ?_) (fun hne => ?_)
    · rw [gcP_bk _ rfl B4]
      exact ⟨tp3, h4, g4, ta2, ta, rfl, rfl, B4, by omega, ho2, by omega⟩
    · have hpos : 0 < ta2.length := List.length_pos_iff.mpr hne
      have k4 : F__law_take [.ptr q, .int (ta2.length : Int)] (TS μ q tp3 ++ [bk h4 g4 (cs ta2 tb [("z", wnd tb u v), ("y", ta)] u v)]) = .ok (.int (takeR tp3 (ta2.length : Int)), TS μ q tp3.dropLast ++ _) := take_A hq (by omega)
      obtain ⟨p, hp, hp2⟩ := takeN (tp := tp3) (k := ta2.length) hpos
      have k5 : F__law_take [.ptr q, .int 4] (TS μ q tp3.dropLast ++ [bk h4 g4 (cs ta2 tb [("z", wnd tb u v), ("y", ta)] u v)]) = .ok (.int (takeR tp3.dropLast 4), TS μ q tp3.dropLast.dropLast ++ _) := take_A hq (by omega)
      have hs := takeR_lt (tp := tp3.dropLast) (k := 4) (by omega)
      generalize takeR tp3.dropLast 4 = sg at k5 hs
      generalize tp3.dropLast.dropLast = tp5 at k5
      obtain ⟨h5, g5, c5, B5, e5⟩ := change_E (μ := μ) (q := q) B4 (.one (.sign "a" p sg)) (.tup [.str "sign", .str "a", .int p, .int sg]) rfl (wf1 okName_a) (s := cs ta2 tb [("z", wnd tb u v), ("y", ta)] u v) (ok1 ⟨by simp [cs], by simp [cs], ta2, cs_a, by omega, hp2, by omega⟩) (by omega) (cs (signL ta2 p sg) tb [("z", wnd tb u v), ("y", ta)] u v) (by simp [goAll, BC.chs, Ch.go, cs, txt, getR, setR])
      have ho5 : okT (signL ta2 p sg) := okT_sign ho2 (by omega) hp2
      have l5 : (signL ta2 p sg).length = ta2.length := by simp [signL]; omega
      have near := fun w => sign_near ta2 hp2 sg w
      generalize signL ta2 p sg = ta5 at c5 ho5 l5 near
      have p5 := psg_A (μ := μ) (q := q) (tp := tp5) (r := [("z", wnd tb u v), ("y", ta)]) (u := u) (v := v) B5 ho5 hb hbl
      simp [i0, nn_change, nn_passage, k4, hp, k5, c5, p5, cA]
      have ca : ∀ i (μ : Store), i ≤ (wnd tb u v).length → ixD (comT (SW.psg ta2 (wnd tb u v))) (.int ((i : Nat) : Int)) μ = some (.rol (rowI ((wnd tb u v).length + 1) (cb (SW.psg ta2 (wnd tb u v)) i)), μ) := fun i μ h => by
        have := ix_com (SW.psg ta2 (wnd tb u v)) (i := i) (by rw [SW.psg_length]; exact h) μ
        rw [SW.psg_length] at this; exact this
      have cb' : ∀ i (μ : Store), i ≤ (wnd tb u v).length → ixD (comT (SW.psg ta5 (wnd tb u v))) (.int ((i : Nat) : Int)) μ = some (.rol (rowI ((wnd tb u v).length + 1) (cb (SW.psg ta5 (wnd tb u v)) i)), μ) := fun i μ h => by
        have := ix_com (SW.psg ta5 (wnd tb u v)) (i := i) (by rw [SW.psg_length]; exact h) μ
        rw [SW.psg_length] at this; exact this
      have lenA : ∀ μ : Store, lenD [comT (SW.psg ta2 (wnd tb u v))] μ = some (.int ((((wnd tb u v).length + 1 : Nat) : Nat) : Int), μ) := fun μ => by simp [comT, SW.psg_length]
      have hc : ∀ i j, i ≤ (wnd tb u v).length → j ≤ (wnd tb u v).length → cb (SW.psg ta2 (wnd tb u v)) i j - cb (SW.psg ta5 (wnd tb u v)) i j ≤ 1 ∧ cb (SW.psg ta5 (wnd tb u v)) i j - cb (SW.psg ta2 (wnd tb u v)) i j ≤ 1 := fun i j hi hj => by
        rw [cb_psg hi hj, cb_psg hi hj]
        have := near (((wnd tb u v).drop i).take (j - i))
        omega
      generalize cb (SW.psg ta2 (wnd tb u v)) = f2 at ca hc
      generalize cb (SW.psg ta5 (wnd tb u v)) = f5 at cb' hc
      generalize comT (SW.psg ta2 (wnd tb u v)) = T2 at ca lenA ⊢
      generalize comT (SW.psg ta5 (wnd tb u v)) = T5 at cb' ⊢
      generalize hN : (wnd tb u v).length = N at ca cb' lenA hc
      have hw : N ≤ 400 := by omega
      trace_state
      with_reducible refine wp_forL (List.range (N + 1)) (fun i : Nat => D.int (i : Int)) (fun done rest ρ ν => ∃ x11 x12 x13, ν = TS μ q tp5 ++ [bk h5 g5 (cs ta5 tb [("z", wnd tb u v), ("y", ta)] u v)] ∧ ρ = [some (.ptr q), some (.ptr μ.length), some (encI ta2), some (comT (SW.psg ta (wnd tb u v))), some (.int k), some (encI more), some (comT (SW.psg ta1 (wnd tb u v))), some (.int f), some (.int g), some T2, some T5, x11, x12, x13]) ?_ ?_ ?_
      · have hn : ((N : Int) + 1).toNat = N + 1 := by omega
        simp at lenA
        simp [range_map, lenA, hn]
        omega
      · rintro done i rest ρ ν hd ⟨x11, x12, x13, rfl, rfl⟩
        have hlt := (range_at hd).2
        have hi := (range_at hd).1
        subst hi
        simp
        with_reducible refine wm_lcL (List.range (N + 1 - done.length)) (fun j : Nat => D.int ((done.length : Int) + (j : Int))) (fun _ => none) ?_
        simp at lenA
        simp [lenA]
        refine ⟨by omega, rfl, by omega, fun j hj r => ?_, ?_⟩
        · have i1 : ∀ μ, ixD (.rol (rowI (N + 1) (f2 done.length))) (.int ((done.length : Int) + (j : Int))) μ = some (.int (f2 done.length (done.length + j)), μ) := fun μ => by
            have := ix_rowI (n := N + 1) (i := done.length + j) (f := f2 done.length) (by omega) μ
            simpa using this
          have i2 : ∀ μ, ixD (.rol (rowI (N + 1) (f5 done.length))) (.int ((done.length : Int) + (j : Int))) μ = some (.int (f5 done.length (done.length + j)), μ) := fun μ => by
            have := ix_rowI (n := N + 1) (i := done.length + j) (f := f5 done.length) (by omega) μ
            simpa using this
          have q := hc done.length (done.length + j) (by omega) (by omega)
          simp [ca _ _ (show done.length ≤ N by omega), cb' _ _ (show done.length ≤ N by omega), i1, i2]
          split <;> omega
        · rw [fm_none _ _ (fun _ _ => rfl)]
          have hne : ∀ μ : Store, neD (.rol []) (.rol []) μ = some (.bl false, μ) := ne_nil
          simp [hne]
      · rintro ρ ν ⟨x11, x12, x13, rfl, rfl⟩
        simp
        rw [gcP_bk _ rfl B5]
        exact ⟨tp5, h5, g5, ta5, ta, rfl, rfl, B5, by omega, ho5, by omega⟩
  obtain ⟨d, ν, e, tp', hist', chs', ta', ty, rfl, rfl, h1, h2, h3, h4⟩ := wo_get key
  exact ⟨tp', hist', chs', ta', ty, e, h1, h2, h3, h4⟩
end
end LW

-- P81v
set_option Elab.async false
set_option linter.all false
set_option maxRecDepth 100000
set_option maxHeartbeats 4000000
namespace LW
open PySem DL
/-! ### the book somewhere in the store -/
section
variable {μ r : Store} {hist chs : List D} {s : St}
theorem at_R (μ r : Store) (h : Bk hist chs) (s : St) : BookAt (μ ++ bk hist chs s :: r) μ.length hist chs s := ⟨by simp [bk], h.len, h.fh, h.fc⟩
theorem ins_R (μ r : Store) : insAt (μ ++ bk hist chs s :: r) "Book" μ.length = some (bkF (hist ++ [sD s]) chs hist.length) := by simp [bk]
theorem change_R (h : Bk hist chs) (b : BC) (e : D) (he : b.e = e) (hw : b.wf) (ho : okAll b.chs s) (hl : hist.length < 200) (s' : St) (hs : goAll b.chs s = s') :
    ∃ hist' chs' : List D, (∀ μ r, F_Book_change [.ptr (List.length μ), e] (μ ++ bk hist chs s :: r) = .ok (.non, μ ++ bk hist' chs' s' :: r)) ∧ Bk hist' chs' ∧ hist'.length = hist.length + 1 := by
  refine ⟨hist ++ [sD s], chs ++ [b.e], fun μ r => ?_, h.next s b, by simp⟩
  rw [← he, book_change (at_R μ r h s) b hw ho hl, hs]
  simp [bk]
theorem gcP_bkR {μ : Store} {hist chs hist' chs' : List D} {s s' : St} {d : D} (r : Store) (P : D → Store → Prop) {tk0 : Tok P} (hf : fz d = true) (h : Bk hist' chs') :
    gcP 0 (μ ++ [bk hist chs s]) P (tk := tk0) d (μ ++ bk hist' chs' s' :: r) = P d (μ ++ [bk hist' chs' s']) := by
  have e : gcS 0 (μ ++ [bk hist chs s]) (μ ++ bk hist' chs' s' :: r) = some (μ ++ [bk hist' chs' s']) := by
    have := gcS_diff (A := μ ++ [bk hist chs s]) (B := μ ++ [bk hist' chs' s']) r (by simp) fun i o ho => ?_
    · simpa using this
    · by_cases h1 : i < μ.length
      · rw [List.getElem?_append_left h1] at ho ⊢
        exact .inl ho
      · rw [List.getElem?_append_right (by omega)] at ho
        by_cases h2 : i = μ.length
        · subst h2
          simp at ho
          subst ho
          exact .inr (fz_bk _ (by simp [h.fh, fz_sD]) h.fc)
        · rw [List.getElem?_eq_none (by simp; omega)] at ho
          cases ho
  unfold gcP
  rw [mapD_fz _ d hf, e]
end
theorem wf2 {c c' : Ch} (h : c.wf) (h' : c'.wf) : (BC.all [c, c']).wf := ⟨by simp [BC.chs], by simp [BC.chs], fun d hd => by
  simp [BC.chs] at hd
  rcases hd with rfl | rfl
  · exact h
  · exact h'⟩
theorem neD_selfI {l : List Int} {μ : Store} : neD (.tup (l.map D.int)) (.tup (l.map D.int)) μ = some (.bl false, μ) := by
  rw [neD_good (by simp) (by simp)]; simp
theorem inD_strsT {l : List Str} {x : Str} {μ : Store} : inD (.str x) (.tup (l.map D.str)) μ = some (.bl (decide (x ∈ l)), μ) := by
  unfold inD inB
  have hf : (l.map D.str).all flatD = true := by simp [flatD]
  simp only [seqD_tup, flatD, hf, Bool.and_self, if_true, Option.map_some, List.any_map]
  congr 3
  by_cases hx : x ∈ l
  · rw [decide_eq_true hx, List.any_eq_true]
    exact ⟨x, hx, by simp [eqF]⟩
  · rw [decide_eq_false hx, List.any_eq_false]
    intro y hy
    simp [eqF]
    rintro rfl
    exact hx hy
theorem rep_flat {α : Type} (n : Nat) (a : α) : (List.replicate n [a]).flatten = List.replicate n a := by
  induction n with
  | zero => rfl
  | succ n ih => simp [List.replicate_succ, ih]
theorem lk_encP (ps : List (Option Nat)) : lk 6 (encP ps) = true := by
  rw [lk_tup, lks_all, List.all_eq_true]
  intro d hd
  obtain ⟨o, _, rfl⟩ := List.mem_map.mp hd
  cases o <;> simp [opD]
theorem wnd_rev {tb : List Int} {u v : Nat} (huv : u ≤ v) (hv : v ≤ tb.length) : wnd tb.reverse (tb.length - v) (tb.length - u) = (wnd tb u v).reverse := by
  have := SW.win_rev tb (tb.length - v) (tb.length - u) (by omega)
  unfold wnd
  rw [this, show tb.length - (tb.length - u) = u by omega, show tb.length - u - (tb.length - v) = v - u by omega]
theorem others_right_eq {μ : Store} {hist chs : List D} {ta tb w0 ty : List Int} {u v : Nat} (hB : Bk hist chs) (hl : hist.length ≤ 195) (ha : okT ta) (hal : ta.length ≤ 30) (hb : okT tb) (hbl : tb.length ≤ 60) (huv : u ≤ v) (hv : v ≤ tb.length) :
    ∃ (hist' chs' : List D) (s' : St), F__law_others_right [.ptr μ.length] (μ ++ [bk hist chs (cs ta tb [("z", w0), ("y", ty)] u v)]) = .ok (.bl true, μ ++ [bk hist' chs' s']) := by
  have key : wo (F__law_others_right [.ptr μ.length] (μ ++ [bk hist chs (cs ta tb [("z", w0), ("y", ty)] u v)])) X0 fun d ν => ∃ (hist' chs' : List D) (s' : St), d = .bl true ∧ ν = μ ++ [bk hist' chs' s'] := by
    unfold F__law_others_right
    rw [wo_gcF, gcX_X0]
    unfold b__law_others_right
    have hw : (wnd tb u v).length ≤ 60 := Nat.le_trans (wnd_sub tb u v).length_le hbl
    have how : okT (wnd tb u v) := okT_sub (wnd_sub tb u v) hb
    have t1 := book_text (at_R μ [] hB (cs ta tb [("z", w0), ("y", ty)] u v)) cs_a
    obtain ⟨h1, g1, c1, B1, e1⟩ := change_R hB (.all [.text "x" ta, .join "x" "b"]) (.tup [.str "all", .tup [.str "text", .str "x", encI ta], .tup [.str "join", .str "x", .str "b"]]) rfl (wf2 okName_x ⟨okName_x, okName_b⟩) (s := cs ta tb [("z", w0), ("y", ty)] u v)
      ⟨⟨by simp [cs], by simp [cs], ha⟩, ⟨by simp [cs, Ch.go, setR], by simp [cs, Ch.go], ta, tb, by simp [cs, Ch.go, setR, getR], by simp [cs, Ch.go, setR, getR], by omega⟩, trivial⟩ (by omega) (cs ta tb [("z", w0), ("y", ty), ("x", ta ++ tb)] u v) (by simp [goAll, BC.chs, Ch.go, cs, txt, getR, setR])
    have hox : okT (ta ++ tb) := ⟨fun i hi => by
      rcases List.mem_append.mp hi with hi | hi
      · exact ha.1 i hi
      · exact hb.1 i hi, by simp; omega⟩
    have A1 := fun r => at_R μ r B1 (cs ta tb [("z", w0), ("y", ty), ("x", ta ++ tb)] u v)
    have gx : getR "x" (cs ta tb [("z", w0), ("y", ty), ("x", ta ++ tb)] u v).1 = some (ta ++ tb) := by simp [cs, getR]
    have nl1 := book_never_less (A1 []) gx cs_a cs_m cs_b hw hox ha how (fun i k => SW.lcs_mono (List.sublist_append_left ta tb) (List.Sublist.refl _))
    have nl2 := book_never_less (A1 []) gx cs_b cs_m cs_b hw hox hb how (fun i k => SW.lcs_mono (List.sublist_append_right ta tb) (List.Sublist.refl _))
    have t2 := book_text (A1 []) cs_a
    have t3 := book_text (A1 []) cs_b
    have t4 := book_text (A1 []) gx
    have m1 := book_marked (A1 []) cs_m cs_b
    have p1 := book_passage (A1 []) cs_a cs_m cs_b hw ha how
    rw [show (tb.drop u).take (v - u) = wnd tb u v from rfl] at m1 p1
    have i0 : ∀ hist chs s r, insAt (μ ++ bk hist chs s :: r) "Book" μ.length = some (bkF (hist ++ [sD s]) chs hist.length) := fun _ _ _ r => ins_R μ r
    have nax : ∀ μ, neD (encI (ta ++ tb)) (.tup (ta.map D.int ++ tb.map D.int)) μ = some (.bl false, μ) := fun μ => by
      have := neD_selfI (l := ta ++ tb) (μ := μ)
      rw [List.map_append] at this
      unfold encI
      rw [List.map_append]
      exact this
    simp [i0, nn_text, nn_change, nn_passage, nn_is_never_less, nn_marked, t1, c1, nl1, nl2, nis_tt, t2, t3, t4, m1, p1, nax]
    generalize hW : wnd tb u v = w at *
    refine ⟨by omega, ⟨by omega, by omega⟩, ?_⟩
    have hrl : (SW.psg ta.reverse w.reverse).length = w.length := by rw [SW.psg_length]; simp
    have hpl : (SW.psg ta w).length = w.length := SW.psg_length _ _
    with_reducible refine wp_forE (SW.psg ta w) opD (fun done rest ρ ν => ∃ x5 x6, ν = μ ++ [bk h1 g1 (cs ta tb [("z", w0), ("y", ty), ("x", ta ++ tb)] u v), .lst ((flipK (SW.psg ta.reverse w.reverse) w.length done.length).map opD)] ∧ ρ = [some (.ptr μ.length), some (encI w), some (encP (SW.psg ta w)), some (.int (w.length : Nat)), some (.ptr (μ.length + 1)), x5, x6]) ?_ ?_ ?_
    · simp [flipK_zero, hrl, opD]
    · rintro done e rest ρ ν hd ⟨x5, x6, rfl, rfl⟩
      have hk : done.length < w.length := by
        have := congrArg List.length hd
        simp [hpl] at this; omega
      have hget : (SW.psg ta w)[done.length]? = some e := by rw [hd]; simp
      cases e with
      | none => simp [opD, nis_non, flipK_none hk hget]
      | some e =>
        obtain ⟨he, hfl⟩ := flipK_some hk hget
        have hst := setB_nat (μ := μ ++ [bk h1 g1 (cs ta tb [("z", w0), ("y", ty), ("x", ta ++ tb)] u v), .lst ((flipK (SW.psg ta.reverse w.reverse) w.length done.length).map opD)]) (n := μ.length + 1) (ds := (flipK (SW.psg ta.reverse w.reverse) w.length done.length).map opD) (k := w.length - 1 - e) (v := .int ((w.length - 1 - done.length : Nat) : Int)) (by simp) (by rw [List.length_map]; simp only [flipK, List.length_map, hrl]; omega)
        have z1 : ((w.length : Int) - 1 - (e : Nat)) = ((w.length - 1 - e : Nat) : Int) := by omega
        have z2 : ((w.length : Int) - 1 - (done.length : Nat)) = ((w.length - 1 - done.length : Nat) : Int) := by omega
        simp [opD, nis_int, z1, z2, hst, hfl, List.map_set]
    · rintro ρ ν ⟨x5, x6, rfl, rfl⟩
      have hfe : flipK (SW.psg ta.reverse w.reverse) w.length (SW.psg ta w).length = SW.psg ta.reverse w.reverse := by
        rw [hpl]
        by_cases h0 : 0 < w.length
        · exact flipK_end h0
        · have : SW.psg ta.reverse w.reverse = [] := List.eq_nil_of_length_eq_zero (by omega)
          rw [this]; rfl
      rw [hfe]
      obtain ⟨h2, g2, c2, B2, e2⟩ := change_R B1 (.all [.turn "a", .turn "b"]) (.tup [.str "all", .tup [.str "turn", .str "a"], .tup [.str "turn", .str "b"]]) rfl (wf2 okName_a okName_b) (s := cs ta tb [("z", w0), ("y", ty), ("x", ta ++ tb)] u v)
        ⟨⟨by simp [cs], by simp [cs], ta, cs_a, by omega⟩, ⟨by simp [cs, Ch.go, setR], by simp [cs, Ch.go, turnM], tb, by simp [cs, Ch.go, setR, getR], by omega⟩, trivial⟩ (by omega) (cs ta.reverse tb.reverse [("z", w0), ("y", ty), ("x", ta ++ tb)] (tb.length - v) (tb.length - u)) (by
          simp [goAll, BC.chs, Ch.go, cs, txt, getR, setR, turnM]
          try omega)
      have hox : okT ta.reverse := ⟨fun i hi => ha.1 i (by simpa using hi), by simp; omega⟩
      have how2 : okT w.reverse := ⟨fun i hi => how.1 i (by simpa using hi), by simp; omega⟩
      have A2 := fun r => at_R μ r B2 (cs ta.reverse tb.reverse [("z", w0), ("y", ty), ("x", ta ++ tb)] (tb.length - v) (tb.length - u))
      have hwr : ((tb.reverse).drop (tb.length - v)).take ((tb.length - u) - (tb.length - v)) = w.reverse := by rw [← hW]; exact wnd_rev huv hv
      have m2 := fun r => book_marked (A2 r) cs_m cs_b
      have p2 := fun r => book_passage (A2 r) cs_a cs_m cs_b (by rw [hwr]; simpa using hw) hox (by rw [hwr]; exact how2)
      rw [hwr] at m2 p2
      obtain ⟨h3, g3, c3, B3, e3⟩ := change_R B2 (.one (.lift "z" "m")) (.tup [.str "lift", .str "z", .str "m"]) rfl (wf1 ⟨okName_z, okName_m⟩) (s := cs ta.reverse tb.reverse [("z", w0), ("y", ty), ("x", ta ++ tb)] (tb.length - v) (tb.length - u)) (ok1 ⟨by simp [cs], by simp [cs], "b", _, _, tb.reverse, cs_m, cs_b⟩) (by omega) (cs ta.reverse tb.reverse [("z", w.reverse), ("y", ty), ("x", ta ++ tb)] (tb.length - v) (tb.length - u)) (by
          simp [goAll, BC.chs, Ch.go, cs, txt, getR, setR]
          rw [← hwr])
      have A3 := fun r => at_R μ r B3 (cs ta.reverse tb.reverse [("z", w.reverse), ("y", ty), ("x", ta ++ tb)] (tb.length - v) (tb.length - u))
      have gz : getR "z" (cs ta.reverse tb.reverse [("z", w.reverse), ("y", ty), ("x", ta ++ tb)] (tb.length - v) (tb.length - u)).1 = some w.reverse := by simp [cs, getR]
      have p3 := fun r => book_passage (A3 r) gz cs_m cs_b (by rw [hwr]; simpa using hw) how2 (by rw [hwr]; exact how2)
      have ho3 := fun r => book_holders (A3 r) cs_m cs_b (by rw [hwr]; simp; omega) (by simp [cs])
      have di := fun r => book_distance (A3 r) gz gz (by simp; omega)
      have co := fun r => book_common (A3 r) gz gz (by simp; omega)
      rw [hwr] at p3 ho3
      rw [SW.psg_none (List.Sublist.refl _)] at p3
      rw [SW.lcs_of_sub (List.Sublist.refl _)] at di co
      have hz : ("z" : Str) ∈ holders (cs ta.reverse tb.reverse [("z", w.reverse), ("y", ty), ("x", ta ++ tb)] (tb.length - v) (tb.length - u)).1 w.reverse := by
        simp [holders, cs, SW.lcs_of_sub (List.Sublist.refl w.reverse)]
      have nw : ∀ μ, neD (encI w.reverse) (.tup (List.map D.int w).reverse) μ = some (.bl false, μ) := fun μ => by
        rw [← List.map_reverse]; exact neD_selfI
      have lk1 := fun μ => like_self 6 _ μ (lk_encP (SW.psg ta.reverse w.reverse))
      have lk2 := fun μ => like_self 6 _ μ (lk_encP (List.replicate w.length none))
      have mu : ∀ μ, mulD (.tup [.non]) (.int (w.length : Nat)) μ = some (encP (List.replicate w.length none), μ) := fun μ => by
        have hi : (-9223372036854775808 : Int) ≤ w.length ∧ (w.length : Int) ≤ 1000 := ⟨by omega, by omega⟩
        simp [mulD, hi, rep_flat, encP, opD]
      have iz : ∀ μ, inD (.str "z") (.tup ((holders (cs ta.reverse tb.reverse [("z", w.reverse), ("y", ty), ("x", ta ++ tb)] (tb.length - v) (tb.length - u)).1 w.reverse).map D.str)) μ = some (.bl true, μ) := fun μ => by
        rw [inD_strsT, decide_eq_true hz]
      simp only [encP, List.map_replicate] at mu p3 lk2
      simp [i0, nn_text, nn_change, nn_passage, nn_is_never_less, nn_marked, nn_holders, nn_distance, nn_common, c2, m2, p2, nw, lk1, c3, p3, mu, lk2, ho3, iz, di, co]
      refine br_of (fun _ => ?_) (fun z => absurd (by omega) z)
      rw [gcP_bkR _ _ rfl B3]
      exact ⟨h3, g3, _, rfl, rfl⟩
  obtain ⟨d, ν, e, hist', chs', s', rfl, rfl⟩ := wo_get key
  exact ⟨hist', chs', s', e⟩
end LW

-- P81w
set_option Elab.async false
set_option linter.all false
set_option maxRecDepth 100000
set_option maxHeartbeats 4000000
namespace LW
open PySem DL
theorem law_true (ns : List Int) (h1 : ns.length ≤ 63) (h2 : ∀ z ∈ ns, Builtin.Int.intBits z ≤ 1048576) : ∃ μ, F_law [.kst (ns.map D.int)] [] = .ok (.bl true, μ) := by
  have key : wo (F_law [.kst (ns.map D.int)] []) X0 fun d _ => d = .bl true := by
    unfold F_law b_law
    obtain ⟨l, u, v, ht⟩ := tape_eq ns 81
    have h0 : ([u, v, .lst (l.map D.int)] : Store) = TS [u, v, .lst []] 2 l := rfl
    rw [h0] at ht
    simp [ht]
    refine wp_forL (List.range 3) (fun i : Nat => D.int i) (fun done rest ρ st => ∃ ν tp x2 x3 x4 x5, st = TS ν 2 tp ∧ 2 < ν.length ∧
      ρ = [some (.kst (ns.map D.int)), some (.ptr 2), x2, x3, x4, x5]) ?_ ?_ ?_
    · simp [range_map]
      exact ⟨[u, v, .lst []], ⟨l, rfl⟩, by simp⟩
    · rintro done i rest ρ st hl ⟨ν, tp, x2, x3, x4, x5, rfl, hν, rfl⟩
      have hi := init_eqL (μ := TS ν 2 tp) (n := ν.length) (by simp)
      have hi : F_Book___init__ [.ptr ν.length] (TS ν 2 tp ++ [.ins "Book" []]) = .ok (.non, TS ν 2 tp ++ [bk [] [] ([], [])]) := hi
      obtain ⟨tb, tp1, d1, lb, sb⟩ := drawn_A (μ := ν) (q := 2) (tp := tp) hν (many := 9) (signs := 3) (by omega) (by omega) (by omega) [bk [] [] ([], [])]
      have d1 : F__law_drawn_text [.ptr 2, .int 9, .int 3] (TS ν 2 tp ++ [bk [] [] ([], [])]) = .ok (encI tb, TS ν 2 tp1 ++ [bk [] [] ([], [])]) := d1
      obtain ⟨ta, tp2, d2, la, sa⟩ := drawn_A (μ := ν) (q := 2) (tp := tp1) hν (many := 9) (signs := 3) (by omega) (by omega) (by omega) [bk [] [] ([], [])]
      have d2 : F__law_drawn_text [.ptr 2, .int 9, .int 3] (TS ν 2 tp1 ++ [bk [] [] ([], [])]) = .ok (encI ta, TS ν 2 tp2 ++ [bk [] [] ([], [])]) := d2
      have hta : okT ta := okT_of sa (by omega) (by omega)
      have htb : okT tb := okT_of sb (by omega) (by omega)
      have B0 : Bk [] [] := ⟨rfl, rfl, rfl⟩
      obtain ⟨h1, g1, c1, B1, e1⟩ := change_E (μ := ν) (q := 2) B0 (.all [.text "a" ta, .text "b" tb]) (.tup [.str "all", .tup [.str "text", .str "a", encI ta], .tup [.str "text", .str "b", encI tb]]) rfl (wf2 okName_a okName_b) (s := ([], []))
        ⟨⟨by simp, by simp, hta⟩, ⟨by simp [Ch.go, setR], by simp [Ch.go], htb⟩, trivial⟩ (by simp) ([("a", ta), ("b", tb)], []) (by simp [goAll, BC.chs, Ch.go, setR])
      have k1 : F__law_take [.ptr 2, .int ((tb.length : Int) + 1)] (TS ν 2 tp2 ++ [bk h1 g1 ([("a", ta), ("b", tb)], [])]) = .ok (.int (takeR tp2 ((tb.length : Int) + 1)), TS ν 2 tp2.dropLast ++ _) := take_A hν (by omega)
      obtain ⟨f, hf, hf2⟩ := takeN (tp := tp2) (k := tb.length + 1) (by omega)
      have hf : takeR tp2 ((tb.length : Int) + 1) = f := by simpa using hf
      have k2 : F__law_take [.ptr 2, .int ((tb.length : Int) + 1 - f)] (TS ν 2 tp2.dropLast ++ [bk h1 g1 ([("a", ta), ("b", tb)], [])]) = .ok (.int (takeR tp2.dropLast ((tb.length : Int) + 1 - f)), TS ν 2 tp2.dropLast.dropLast ++ _) := take_A hν (by omega)
      obtain ⟨g, hg, hg2⟩ := takeN (tp := tp2.dropLast) (k := tb.length + 1 - f) (by omega)
      rw [show ((tb.length + 1 - f : Nat) : Int) = (tb.length : Int) + 1 - f by omega] at hg
      generalize tp2.dropLast.dropLast = tp3 at k2
      obtain ⟨h2, g2, c2, B2, e2⟩ := change_E (μ := ν) (q := 2) B1 (.one (.mark "m" "b" f (f + g))) (.tup [.str "mark", .str "m", .str "b", .int f, .int ((f + g : Nat) : Int)]) rfl (wf1 ⟨okName_m, okName_b⟩) (s := ([("a", ta), ("b", tb)], []))
        (ok1 ⟨by simp, by simp, tb, by simp [getR], by omega, by omega⟩) (by simp at e1; omega) (cs ta tb [] f (f + g)) (by simp [goAll, BC.chs, Ch.go, setR, cs])
      simp only [List.length_nil] at e1
      obtain ⟨tp4, h3, g3, ta', ty, q1, B3, e3, o3, l3⟩ := put_right_eq (tp := tp3) hν B2 (by omega) hta (by omega) htb (by omega) (u := f) (v := f + g) (by omega) (by omega)
      obtain ⟨h4, g4, s4, q2⟩ := others_right_eq (μ := TS ν 2 tp4) (w0 := wnd tb f (f + g)) (ty := ty) B3 (by omega) o3 (by omega) htb (by omega) (u := f) (v := f + g) (by omega) (by omega)
      rw [TS_len] at q2
      have i0 : ∀ tp hist chs s, insAt (TS ν 2 tp ++ [bk hist chs s]) "Book" ν.length = some (bkF (hist ++ [sD s]) chs hist.length) := fun tp hist chs s => ins_A rfl
      rw [show ((f + g : Nat) : Int) = (f : Int) + g by omega] at c2
      simp [hi, d1, d2, i0, nn_change, c1, k1, hf, k2, hg, c2, q1, q2]
      refine ⟨ν ++ [bk h4 g4 s4], ⟨tp4, TS_app hν⟩, by simp; omega⟩
    · rintro ρ st ⟨ν, tp, x2, x3, x4, x5, rfl, hν, rfl⟩
      simp
  obtain ⟨d, μ, e, rfl⟩ := wo_get key
  exact ⟨μ, e⟩
end LW

-- H81
set_option Elab.async false
set_option linter.all false
set_option maxRecDepth 100000
set_option maxHeartbeats 0
namespace LW
open PySem PySem.Spec PyProof.Rows L2 LamX NdefX LamD DL
def tf : TFs := [(("behind_put", none), "behind_put"), (("behind_out", none), "behind_out")]
def ts : List He.Tab := [(fun K => He.ga K "KINDS", ["text", "gone", "put", "out", "sign", "turn", "join", "mark", "drop", "lift"])]
def exB (K : PySem.W.Frag) : Bool := ktabB K (He.ga K "KINDS") T_KINDS && apartB K tf
abbrev R : PySem.W.OpenRow := PySem.W.OpenLaw.row PySem.Challenge.rw_weedcomb_k81_whole_changes_and_what_is_c
abbrev hk : PySem.W.Hook := He.hookX 4 fa fn ts (tf.map (·.1)) exB
def ob (s : PySem.W.SharedT) : He.AlX := He.obsX 4 fa fn ts (tf.map (·.1)) exB (HandSHeadRun.getT s)
theorem ob_eq (s : PySem.W.SharedT) : ob s = hk.obs s.abs := He.obsX_eq (HandSHeadRun.getT_eq s)
def loose0 : List Str := ["_wall", "__name__", "WeedError", "BadText", "BadWindow", "BadDeed", "BadNumber", "TooMany", "NoSuch", "is_number", "is_among", "is_tuple_of", "MOST_SIGN", "MOST_SIGNS", "MOST_ACROSS_over", "is_sign", "need_sign", "need_text", "need_across", "common_of", "comb", "passage_of_row", "combed", "passage_over", "LETTERS", "FIGURES", "MOST_TEXTS", "MOST_MARKS", "MOST_LONG", "MOST_JOINED"]
def loose1 : List Str := ["KINDS", "is_name", "is_thing_of_kind", "is_single", "need_change", "spot_of", "with_named", "without_named", "marks_moved", "marks_left", "need_text_window", "renamed_text", "grown", "behind_put", "behind_out", "behind_sign", "behind_turn", "behind_mark", "behind_lift", "behind_join", "behind_single", "behind_change", "rows_of", "first_more", "MOST_CHANGES", "MOST_ACROSS_books", "Book", "_law_tape", "_law_take", "_law_like"]
def loose2 : List Str := ["_law_drawn_text", "_law_commons_by", "_law_between", "_law_put_right", "_law_others_right"]
def loose : List Str := loose0 ++ loose1 ++ loose2
theorem run_false (w : World) : HandSHeadRun.RunEq R (PySem.W.view R.prog [71]) hk ob 20000 loose (w.withFollow "special-get-raises" false) := by
  intro os
  kernel_rfl
theorem run_true (w : World) : HandSHeadRun.RunEq R (PySem.W.view R.prog [71]) hk ob 20000 loose (w.withFollow "special-get-raises" true) := by
  intro os
  kernel_rfl
theorem run (w : World) : HandSHeadRun.RunEq R (PySem.W.view R.prog [71]) hk ob 20000 loose w :=
  PySem.W.byRow2 "special-get-raises" (P := fun w => HandSHeadRun.RunEq R (PySem.W.view R.prog [71]) hk ob 20000 loose w) run_false run_true w
theorem row_of {w : World} {K : PySem.W.Frag} {mg : Str → Option Value} {base : Heap} (c : He.SaysT fa fn ts w K) (h : exB K = true) (C : Ctx fa fn K mg) (hl : ∀ p ∈ tf, @LamTab (tabT K tf) K mg base p.1 p.2) : @Row (tabT K tf) w K mg base := by
  unfold exB at h
  simp only [Bool.and_eq_true] at h
  exact @Row.mk (tabT K tf) w K mg base C (kd_of (c.tab 0) h.1) (hl (("behind_put", none), "behind_put") (by simp [tf])) (hl (("behind_out", none), "behind_out") (by simp [tf]))
end LW
open PySem PySem.W PySem.Calls PyProof.Rows
theorem PySem.Challenge.cw_weedcomb_k81_whole_changes_and_what_is_c_holds : PySem.Challenge.rw_weedcomb_k81_whole_changes_and_what_is_c.Holds := by
  w_on; o_law
  refine HandSHeadRun.head_any (r := OpenLaw.row PySem.Challenge.rw_weedcomb_k81_whole_changes_and_what_is_c) (q := view (OpenLaw.row PySem.Challenge.rw_weedcomb_k81_whole_changes_and_what_is_c).prog [71]) (H := LW.hk) (ob := LW.ob) (M := 20000) (loose := LW.loose) (d := HandSHeadRun.topDef (OpenLaw.row PySem.Challenge.rw_weedcomb_k81_whole_changes_and_what_is_c).prog 71) (kwd := []) LW.ob_eq
    (by kernel_rfl) (fun s => by kernel_rfl) LW.run (by kernel_rfl) (by kernel_rfl) (by kernel_rfl) (by rfl) (by first | assumption | decide +kernel) (by decide +kernel) ⟨rfl, rfl, rfl, rfl, rfl, by decide +kernel⟩ ?hw ?hc
  case hw => w_witness2
  case hc =>
    refine DL.law_end (l := PySem.Challenge.rw_weedcomb_k81_whole_changes_and_what_is_c) (n := 63) (k := 10) (m := 57) (dl := LW.D_law) (F := LW.F_law) rfl (by decide) (by kernel_rfl) ⟨rfl, by decide, by decide⟩ (fun K h => by
      unfold LW.exB at h
      simp only [Bool.and_eq_true] at h
      first | exact h.2 | exact h) (by kernel_rfl) rfl rfl rfl rfl (by simp [LW.fa]) (fun _ _ _ _ _ _ us hl => match us, hl with | [_], _ => rfl) (fun w K mg base fd c h C hl F => ?_) LW.law_true
    letI := DL.tabT K LW.tf
    exact LW.f_law (LW.row_of c h C hl) F
