import PyProof.Rows.All
import Wide.All
import OpenK.AllK
import Wide.FinOn
import HandS.ForMost
import HandS.Evl
import HandS.TupAny
import HandS.Defaults
import HandS.More
import HandS.IsInst
import HandS.Sort
import HandS.SortInts
import HandS.SortKw
import HandS.SetIn
import HandS.Strs
import HandS.Style
import HandS.RevRange
import HandS.Conv
import KE.DataMinMax
import HandS.Head0
import HandS.Head1
import HandS.Head2
import HandS.HeadEnd
import HandS.HeadHook1
import HandS.HeadHook2
import HandS.HeadHook3
import HandS.MakeKwOnly
import KE.KStateDown
import PySem.Challenge.RW_lockfree_k82_code_steps_quiet_bounds
set_option Elab.async false
set_option linter.all false
set_option maxRecDepth 100000
set_option maxHeartbeats 2000000
set_option autoImplicit false
/-! Mn, part A: deep data, the store, what represents what, the canonical readings. -/
namespace Mn
open PySem PySem.Spec PyProof.Rows L2
/-- a dict's key: an int, or a text of the table -/
inductive DK where
  | i (n : Int) | s (k : Nat)
  deriving DecidableEq
/-- data: tuples, lists and dicts that nobody changes stand as values; ref n is the n-th object of the store; con k the k-th constant object of the module -/
inductive D where
  | non | bl (b : Bool) | int (i : Int) | sym (k : Nat)
  | tup (xs : List D) | lst (xs : List D) | fro (xs : List D) | dct (ks : List DK) (xs : List D) | ref (n : Nat) | con (k : Nat) | ty (n : String)
  deriving Inhabited
mutual
def D.beq : D → D → Bool
  | .non, .non => true
  | .bl a, .bl b => a == b
  | .int a, .int b => a == b
  | .sym a, .sym b => a == b
  | .tup a, .tup b => D.beqs a b
  | .lst a, .lst b => D.beqs a b
  | .fro a, .fro b => D.beqs a b
  | .dct ks a, .dct ls b => decide (ks = ls) && D.beqs a b
  | .ref a, .ref b => a == b
  | .con a, .con b => a == b
  | .ty a, .ty b => a == b
  | _, _ => false
def D.beqs : List D → List D → Bool
  | [], [] => true
  | x :: xs, y :: ys => D.beq x y && D.beqs xs ys
  | _, _ => false
end
mutual
theorem D.beq_iff : ∀ a b : D, D.beq a b = true ↔ a = b
  | .non, b => by cases b <;> simp [D.beq]
  | .bl a, b => by cases b <;> simp [D.beq]
  | .int a, b => by cases b <;> simp [D.beq]
  | .sym a, b => by cases b <;> simp [D.beq]
  | .tup a, b => by cases b <;> simp [D.beq, D.beqs_iff a]
  | .lst a, b => by cases b <;> simp [D.beq, D.beqs_iff a]
  | .fro a, b => by cases b <;> simp [D.beq, D.beqs_iff a]
  | .dct ks a, b => by cases b <;> simp [D.beq, D.beqs_iff a]
  | .ref a, b => by cases b <;> simp [D.beq]
  | .con a, b => by cases b <;> simp [D.beq]
  | .ty a, b => by cases b <;> simp [D.beq]
theorem D.beqs_iff : ∀ a b : List D, D.beqs a b = true ↔ a = b
  | [], b => by cases b <;> simp [D.beqs]
  | x :: xs, b => by cases b <;> simp [D.beqs, D.beq_iff x, D.beqs_iff xs]
end
instance : DecidableEq D := fun a b => if h : D.beq a b = true then .isTrue ((D.beq_iff a b).mp h) else .isFalse fun e => h ((D.beq_iff a b).mpr e)
inductive MObj where
  | lst (xs : List D) | dct (ks : List DK) (xs : List D)
  deriving DecidableEq, Inhabited
abbrev Store := List MObj
abbrev Env := List (Option D)
/-! ### what represents what -/
/-- constants of the module by number: addresses -/
structure Tb where
  T : List Str
  C : List V
  CD : List (List (Nat × D))
/-- where the store's objects stand (by number), and objects that are being made -/
structure Rho where
  ix : List Addr
  Z : List Addr
def Rho.has (ρ : Rho) (a : Addr) : Prop := a ∈ ρ.ix ∨ a ∈ ρ.Z
def Rho.push (ρ : Rho) (p : Addr) : Rho := ⟨ρ.ix ++ [p], ρ.Z⟩
def keyD (T : List Str) : DK → Option Key
  | .i n => some (.inl n)
  | .s k => (T[k]?).map .inr
/-- a list that is never changed: frozen, or an object of the module -/
def SqF (K : PySem.W.Frag) (H : Hp) (a : Addr) (xs : List V) : Prop := (∃ o, H a = some (.frz o (.lst xs))) ∨
    ∃ (o : Obj) (its : Array Value) (n : Nat), K.lookup a = some o ∧ o.cls = .type "list" ∧ o.dict = none ∧ o.data = .seq its n ∧ its.size ≤ sizeLine ∧ Vals xs its.toList
theorem SqF.sq {K : PySem.W.Frag} {H : Hp} {a : Addr} {xs : List V} (h : SqF K H a xs) : SqL K H a xs := by
  rcases h with h | h
  · exact .inl (.inr h)
  · exact .inr h
section
variable (K : PySem.W.Frag) (B : Tb) (ρ : Rho) (H : Hp)
mutual
def RV : D → V → Prop
  | .non, v => v = .non
  | .bl b, v => v = .bl b
  | .int i, v => v = .int i
  | .sym k, v => ∃ s, B.T[k]? = some s ∧ v = .str s
  | .tup xs, v => ∃ a vs, v = .ref a ∧ SqT K H a vs ∧ RVs xs vs
  | .lst xs, v => ∃ a vs, v = .ref a ∧ H a = some (.lst vs) ∧ ¬ ρ.has a ∧ RVs xs vs
  | .fro xs, v => ∃ a vs, v = .ref a ∧ SqF K H a vs ∧ RVs xs vs
  | .dct ks xs, v => ∃ a kvs, v = .ref a ∧ H a = some (.dK kvs) ∧ ¬ ρ.has a ∧ ks.map (keyD B.T) = kvs.map (fun q => some q.1) ∧ RVs xs (kvs.map (·.2))
  | .ref n, v => ∃ a, v = .ref a ∧ ρ.ix[n]? = some a
  | .con k, v => B.C[k]? = some v
  | .ty n, v => v = .ty n
def RVs : List D → List V → Prop
  | [], vs => vs = []
  | d :: ds, vs => ∃ v vr, vs = v :: vr ∧ RV d v ∧ RVs ds vr
end
def RO (a : Addr) : MObj → Prop
  | .lst xs => ∃ vs, H a = some (.lst vs) ∧ RVs K B ρ H xs vs
  | .dct ks xs => ∃ kvs, H a = some (.dK kvs) ∧ ks.map (keyD B.T) = kvs.map (fun q => some q.1) ∧ RVs K B ρ H xs (kvs.map (·.2))
structure Rep (st : Store) : Prop where
  len : ρ.ix.length = st.length
  nd : ρ.ix.Nodup
  obj : ∀ (n : Nat) (o : MObj), st[n]? = some o → ∃ a, ρ.ix[n]? = some a ∧ RO K B ρ H a o
  zs : ∀ z ∈ ρ.Z, (∃ o, H z = some o) ∧ z ∉ ρ.ix
structure REnv (env : Env) (σ : L2.St) : Prop where
  len : σ.length = env.length
  at_ : ∀ (i : Nat) (d : D), env[i]? = some (some d) → ∃ v : V, σ[i]? = some (some v) ∧ RV K B ρ H d v
end
structure Ext (K : PySem.W.Frag) (ρ : Rho) (H : Hp) (ρ' : Rho) (H' : Hp) : Prop where
  pre : ρ.ix <+: ρ'.ix
  z : ρ'.Z = ρ.Z
  frame : ∀ a o, H a = some o → a ∉ ρ.ix → H' a = some o ∧ a ∉ ρ'.ix
  tups : ∀ a xs, SqT K H a xs → SqT K H' a xs
  frzs : ∀ a o u, H a = some (.frz o u) → H' a = some (.frz o u)
/-- what keeps the data's representation -/
structure Mo (K : PySem.W.Frag) (ρ : Rho) (H : Hp) (ρ' : Rho) (H' : Hp) : Prop where
  pre : ρ.ix <+: ρ'.ix
  out : ∀ a o, H a = some o → ¬ ρ.has a → H' a = some o ∧ ¬ ρ'.has a
  tups : ∀ a xs, SqT K H a xs → SqT K H' a xs
  frzs : ∀ a o u, H a = some (.frz o u) → H' a = some (.frz o u)
section
variable {K : PySem.W.Frag} {B : Tb} {ρ ρ' ρ'' : Rho} {H H' H'' : Hp} {st st' : Store}
theorem Ext.refl : Ext K ρ H ρ H := ⟨List.prefix_refl _, rfl, fun _ _ e n => ⟨e, n⟩, fun _ _ h => h, fun _ _ _ h => h⟩
theorem Ext.trans (a : Ext K ρ H ρ' H') (b : Ext K ρ' H' ρ'' H'') : Ext K ρ H ρ'' H'' :=
  ⟨a.pre.trans b.pre, b.z.trans a.z, fun x o e n => let ⟨e1, n1⟩ := a.frame x o e n; b.frame x o e1 n1, fun x xs h => b.tups x xs (a.tups x xs h), fun x o u h => b.frzs x o u (a.frzs x o u h)⟩
theorem Mo.get (e : Mo K ρ H ρ' H') {n : Nat} {a : Addr} (h : ρ.ix[n]? = some a) : ρ'.ix[n]? = some a := by
  obtain ⟨t, ht⟩ := e.pre
  have hn := (List.getElem?_eq_some_iff.mp h).1
  rw [← ht, List.getElem?_append_left hn]
  exact h
theorem Ext.out (e : Ext K ρ H ρ' H') {a : Addr} {o : HO} (h : H a = some o) (n : ¬ ρ.has a) : H' a = some o ∧ ¬ ρ'.has a := by
  have n1 : a ∉ ρ.ix := fun z => n (.inl z)
  obtain ⟨h1, h2⟩ := e.frame a o h n1
  refine ⟨h1, fun z => ?_⟩
  rcases z with z | z
  · exact h2 z
  · rw [e.z] at z; exact n (.inr z)
theorem Ext.mo (e : Ext K ρ H ρ' H') : Mo K ρ H ρ' H' := ⟨e.pre, fun _ _ h n => e.out h n, e.tups, e.frzs⟩
theorem Ext.get (e : Ext K ρ H ρ' H') {n : Nat} {a : Addr} (h : ρ.ix[n]? = some a) : ρ'.ix[n]? = some a := e.mo.get h
mutual
theorem RV.mo (e : Mo K ρ H ρ' H') : ∀ (d : D) (v : V), RV K B ρ H d v → RV K B ρ' H' d v
  | .non, _, h => h
  | .bl _, _, h => h
  | .int _, _, h => h
  | .sym _, _, h => h
  | .tup xs, v, h => by
    obtain ⟨a, vs, e1, e2, e3⟩ := h
    exact ⟨a, vs, e1, e.tups _ _ e2, RVs.mo e xs vs e3⟩
  | .lst xs, v, h => by
    obtain ⟨a, vs, e1, e2, e3, e4⟩ := h
    exact ⟨a, vs, e1, (e.out _ _ e2 e3).1, (e.out _ _ e2 e3).2, RVs.mo e xs vs e4⟩
  | .fro xs, v, h => by
    obtain ⟨a, vs, e1, e2, e4⟩ := h
    refine ⟨a, vs, e1, ?_, RVs.mo e xs vs e4⟩
    rcases e2 with ⟨o, e2⟩ | e2
    · exact .inl ⟨o, e.frzs _ _ _ e2⟩
    · exact .inr e2
  | .dct ks xs, v, h => by
    obtain ⟨a, kvs, e1, e2, e3, e4, e5⟩ := h
    exact ⟨a, kvs, e1, (e.out _ _ e2 e3).1, (e.out _ _ e2 e3).2, e4, RVs.mo e xs _ e5⟩
  | .ref n, v, h => by
    obtain ⟨a, e1, e2⟩ := h
    exact ⟨a, e1, e.get e2⟩
  | .con _, _, h => h
  | .ty _, _, h => h
theorem RVs.mo (e : Mo K ρ H ρ' H') : ∀ (ds : List D) (vs : List V), RVs K B ρ H ds vs → RVs K B ρ' H' ds vs
  | [], _, h => h
  | d :: ds, vs, h => by
    obtain ⟨v, vr, e1, e2, e3⟩ := h
    exact ⟨v, vr, e1, RV.mo e d v e2, RVs.mo e ds vr e3⟩
end
theorem RV.mono (e : Ext K ρ H ρ' H') {d : D} {v : V} (h : RV K B ρ H d v) : RV K B ρ' H' d v := RV.mo e.mo d v h
theorem RVs.mono (e : Ext K ρ H ρ' H') {d : List D} {v : List V} (h : RVs K B ρ H d v) : RVs K B ρ' H' d v := RVs.mo e.mo d v h
theorem REnv.mo {env : Env} {σ : L2.St} (e : Mo K ρ H ρ' H') (h : REnv K B ρ H env σ) : REnv K B ρ' H' env σ :=
  ⟨h.len, fun i d q => let ⟨v, a, b⟩ := h.at_ i d q; ⟨v, a, RV.mo e _ _ b⟩⟩
theorem REnv.mono {env : Env} {σ : L2.St} (e : Ext K ρ H ρ' H') (h : REnv K B ρ H env σ) : REnv K B ρ' H' env σ := h.mo e.mo
theorem RVs.len : ∀ {ds : List D} {vs : List V}, RVs K B ρ H ds vs → ds.length = vs.length
  | [], _, h => by rw [show _ = [] from h]; rfl
  | d :: ds, _, h => by
    obtain ⟨v, vr, rfl, _, e3⟩ := h
    simp [RVs.len e3]
theorem RVs.get : ∀ {ds : List D} {vs : List V} {i : Nat} {d : D}, RVs K B ρ H ds vs → ds[i]? = some d → ∃ v, vs[i]? = some v ∧ RV K B ρ H d v
  | [], _, _, _, _, e => by simp at e
  | d :: ds, _, 0, _, h, e => by
    obtain ⟨v, vr, rfl, e2, e3⟩ := h
    cases e
    exact ⟨v, rfl, e2⟩
  | d :: ds, _, i + 1, _, h, e => by
    obtain ⟨v, vr, rfl, e2, e3⟩ := h
    exact RVs.get (i := i) e3 (by simpa using e)
theorem RVs.append : ∀ {ds es : List D} {vs us : List V}, RVs K B ρ H ds vs → RVs K B ρ H es us → RVs K B ρ H (ds ++ es) (vs ++ us)
  | [], _, _, _, h, g => by rw [show _ = [] from h]; exact g
  | d :: ds, _, _, _, h, g => by
    obtain ⟨v, vr, rfl, e2, e3⟩ := h
    exact ⟨v, vr ++ _, rfl, e2, RVs.append e3 g⟩
theorem RVs.drop : ∀ {ds : List D} {vs : List V} (n : Nat), RVs K B ρ H ds vs → RVs K B ρ H (ds.drop n) (vs.drop n)
  | _, _, 0, h => h
  | [], _, n + 1, h => by rw [show _ = [] from h]; exact rfl
  | d :: ds, _, n + 1, h => by
    obtain ⟨v, vr, rfl, e2, e3⟩ := h
    exact RVs.drop n e3
theorem RVs.take : ∀ {ds : List D} {vs : List V} (n : Nat), RVs K B ρ H ds vs → RVs K B ρ H (ds.take n) (vs.take n)
  | _, _, 0, h => rfl
  | [], _, n + 1, h => by rw [show _ = [] from h]; exact rfl
  | d :: ds, _, n + 1, h => by
    obtain ⟨v, vr, rfl, e2, e3⟩ := h
    exact ⟨v, vr.take n, rfl, e2, RVs.take n e3⟩
theorem RVs.set : ∀ {ds : List D} {vs : List V} {d : D} {v : V} (n : Nat), RVs K B ρ H ds vs → RV K B ρ H d v → RVs K B ρ H (ds.set n d) (vs.set n v)
  | [], _, _, _, n, h, _ => by rw [show _ = [] from h]; exact rfl
  | d :: ds, _, _, _, 0, h, g => by
    obtain ⟨v, vr, rfl, e2, e3⟩ := h
    exact ⟨_, vr, rfl, g, e3⟩
  | d :: ds, _, _, _, n + 1, h, g => by
    obtain ⟨v, vr, rfl, e2, e3⟩ := h
    exact ⟨v, _, rfl, e2, RVs.set n e3 g⟩
theorem RVs.one {d : D} {vs : List V} (h : RVs K B ρ H [d] vs) : ∃ v, vs = [v] ∧ RV K B ρ H d v := by
  obtain ⟨v, vr, rfl, e2, e3⟩ := h
  have e3 : vr = [] := e3
  subst e3
  exact ⟨v, rfl, e2⟩
theorem RVs.two {d e : D} {vs : List V} (h : RVs K B ρ H [d, e] vs) : ∃ v u, vs = [v, u] ∧ RV K B ρ H d v ∧ RV K B ρ H e u := by
  obtain ⟨v, vr, rfl, e2, e3⟩ := h
  obtain ⟨u, rfl, e4⟩ := RVs.one e3
  exact ⟨v, u, rfl, e2, e4⟩
theorem RVs.nil' {vs : List V} (h : RVs K B ρ H [] vs) : vs = [] := h
/-! ### fresh objects -/
theorem Rep.tracked (r : Rep K B ρ H st) {a : Addr} (h : a ∈ ρ.ix) : ∃ o, H a = some o ∧ ((∃ xs, o = .lst xs) ∨ ∃ kvs, o = .dK kvs) := by
  obtain ⟨n, hn, e⟩ := List.mem_iff_getElem.mp h
  have hn' : n < st.length := by rw [← r.len]; exact hn
  obtain ⟨b, e1, e2⟩ := r.obj n st[n] (List.getElem?_eq_getElem hn')
  rw [List.getElem?_eq_getElem hn, e] at e1
  cases e1
  cases q : st[n] with
  | lst xs =>
    rw [q] at e2
    obtain ⟨vs, e2, _⟩ := e2
    exact ⟨_, e2, .inl ⟨_, rfl⟩⟩
  | dct ks xs =>
    rw [q] at e2
    obtain ⟨vs, e2, _⟩ := e2
    exact ⟨_, e2, .inr ⟨_, rfl⟩⟩
theorem Rep.freshI (r : Rep K B ρ H st) {p : Addr} (h : H p = none) : p ∉ ρ.ix := fun m => by
  obtain ⟨o, e, _⟩ := r.tracked m
  rw [h] at e; cases e
theorem Rep.fresh (r : Rep K B ρ H st) {p : Addr} (h : H p = none) : ¬ ρ.has p := fun m => by
  rcases m with m | m
  · exact r.freshI h m
  · obtain ⟨⟨o, e⟩, _⟩ := r.zs p m
    rw [h] at e; cases e
theorem sqT_upd {p : Addr} {o : HO} (h : H p = none) {a : Addr} {xs : List V} (q : SqT K H a xs) : SqT K (upd H p o) a xs := by
  rcases q with (q | ⟨u, q⟩) | q
  · exact .inl (.inl (by rw [upd_ne (ne_of_none q h)]; exact q))
  · exact .inl (.inr ⟨u, by rw [upd_ne (ne_of_none q h)]; exact q⟩)
  · exact .inr q
/-- a new object that stands outside the store -/
theorem Ext.new (r : Rep K B ρ H st) {p : Addr} {o : HO} (h : H p = none) : Ext K ρ H ρ (upd H p o) :=
  ⟨List.prefix_refl _, rfl, fun a u e n => ⟨by rw [upd_ne (ne_of_none e h)]; exact e, n⟩, fun a xs q => sqT_upd h q, fun a u v e => by rw [upd_ne (ne_of_none e h)]; exact e⟩
theorem RO.mo {a : Addr} {o : MObj} (e : Mo K ρ H ρ' H') (k : H' a = H a) (h : RO K B ρ H a o) : RO K B ρ' H' a o := by
  cases o with
  | lst xs =>
    obtain ⟨vs, e1, e2⟩ := h
    exact ⟨vs, k.trans e1, RVs.mo e _ _ e2⟩
  | dct ks xs =>
    obtain ⟨vs, e1, e2, e3⟩ := h
    exact ⟨vs, k.trans e1, e2, RVs.mo e _ _ e3⟩
theorem RO.mono {a : Addr} {o : MObj} (e : Ext K ρ H ρ' H') (k : H' a = H a) (h : RO K B ρ H a o) : RO K B ρ' H' a o := h.mo e.mo k
theorem Rep.new (r : Rep K B ρ H st) {p : Addr} {o : HO} (h : H p = none) : Rep K B ρ (upd H p o) st := by
  refine ⟨r.len, r.nd, fun n u e => ?_, fun z hz => ?_⟩
  · obtain ⟨a, e1, e2⟩ := r.obj n u e
    refine ⟨a, e1, e2.mono (Ext.new r h) ?_⟩
    have : a ≠ p := fun z => r.freshI h (z ▸ List.mem_of_getElem? e1)
    rw [upd_ne this]
  · obtain ⟨⟨u, hu⟩, h2⟩ := r.zs z hz
    exact ⟨⟨u, by rw [upd_ne (ne_of_none hu h)]; exact hu⟩, h2⟩
/-- a new object that joins the store -/
theorem Ext.push (r : Rep K B ρ H st) {p : Addr} {o : HO} (h : H p = none) : Ext K ρ H (ρ.push p) (upd H p o) :=
  ⟨List.prefix_append _ _, rfl, fun a u e n => ⟨by rw [upd_ne (ne_of_none e h)]; exact e, by
    show a ∉ ρ.ix ++ [p]
    rw [List.mem_append, not_or]
    exact ⟨n, fun z => (ne_of_none e h) (by simpa using z)⟩⟩, fun a xs q => sqT_upd h q, fun a u v e => by rw [upd_ne (ne_of_none e h)]; exact e⟩
theorem Rep.push (r : Rep K B ρ H st) {p : Addr} {o : HO} {u : MObj} (h : H p = none) (hu : RO K B (ρ.push p) (upd H p o) p u) : Rep K B (ρ.push p) (upd H p o) (st ++ [u]) := by
  refine ⟨by simp [Rho.push, r.len], ?_, fun n v e => ?_, fun z hz => ?_⟩
  · show (ρ.ix ++ [p]).Nodup
    rw [List.nodup_append]
    refine ⟨r.nd, by simp, fun a ha b hb => ?_⟩
    have hb : b = p := by simpa using hb
    subst hb
    exact fun z => r.freshI h (z ▸ ha)
  · by_cases hn : n < st.length
    · rw [List.getElem?_append_left hn] at e
      obtain ⟨a, e1, e2⟩ := r.obj n v e
      refine ⟨a, (Ext.push (o := o) r h).get e1, e2.mono (Ext.push r h) ?_⟩
      have : a ≠ p := fun z => r.freshI h (z ▸ List.mem_of_getElem? e1)
      rw [upd_ne this]
    · have hn2 : n = st.length := by
        have := (List.getElem?_eq_some_iff.mp e).1
        simp at this
        omega
      subst hn2
      rw [List.getElem?_append_right (Nat.le_refl _)] at e
      simp at e
      subst e
      refine ⟨p, ?_, hu⟩
      show (ρ.ix ++ [p])[st.length]? = some p
      rw [← r.len, List.getElem?_append_right (Nat.le_refl _)]; simp
  · obtain ⟨⟨u, hu⟩, h2⟩ := r.zs z hz
    exact (Ext.push (o := o) r h).frame z u hu h2 |> fun q => ⟨⟨u, q.1⟩, q.2⟩
/-- the n-th object is changed -/
theorem Ext.write (r : Rep K B ρ H st) {n : Nat} {a : Addr} {o : HO} (h : ρ.ix[n]? = some a) : Ext K ρ H ρ (upd H a o) := by
  have ha := List.mem_of_getElem? h
  obtain ⟨u, hu, ku⟩ := r.tracked ha
  refine ⟨List.prefix_refl _, rfl, fun b v e nb => ⟨?_, nb⟩, fun b xs q => ?_, fun b v w e => ?_⟩
  · have : b ≠ a := fun z => nb (z ▸ ha)
    rw [upd_ne this]; exact e
  · have key : ∀ v, H b = some v → (v = .tup xs ∨ ∃ w, v = .frz w (.tup xs)) → b ≠ a := fun v e t z => by
      subst z
      rw [hu] at e
      cases e
      rcases ku with ⟨_, rfl⟩ | ⟨_, rfl⟩ <;> rcases t with t | ⟨_, t⟩ <;> cases t
    rcases q with (q | ⟨w, q⟩) | q
    · exact .inl (.inl (by rw [upd_ne (key _ q (.inl rfl))]; exact q))
    · exact .inl (.inr ⟨w, by rw [upd_ne (key _ q (.inr ⟨w, rfl⟩))]; exact q⟩)
    · exact .inr q
  · have : b ≠ a := fun z => by
      subst z
      rw [hu] at e
      cases e
      rcases ku with ⟨_, q⟩ | ⟨_, q⟩ <;> cases q
    rw [upd_ne this]; exact e
theorem Rep.write (r : Rep K B ρ H st) {n : Nat} {a : Addr} {o : HO} {u : MObj} (h : ρ.ix[n]? = some a) (hu : RO K B ρ (upd H a o) a u) : Rep K B ρ (upd H a o) (st.set n u) := by
  refine ⟨by simp [r.len], r.nd, fun m v e => ?_, fun z hz => ?_⟩
  · by_cases hm : m = n
    · subst hm
      have hlt : m < st.length := by
        have := (List.getElem?_eq_some_iff.mp h).1
        rw [r.len] at this; exact this
      rw [List.getElem?_set_self hlt] at e
      cases e
      exact ⟨a, h, hu⟩
    · rw [List.getElem?_set_ne (Ne.symm hm)] at e
      obtain ⟨b, e1, e2⟩ := r.obj m v e
      refine ⟨b, e1, e2.mono (Ext.write r h) ?_⟩
      have : b ≠ a := fun z => by
        subst z
        obtain ⟨h1, q1⟩ := List.getElem?_eq_some_iff.mp e1
        obtain ⟨h2, q2⟩ := List.getElem?_eq_some_iff.mp h
        exact hm ((List.getElem_inj r.nd).mp (q1.trans q2.symm))
      rw [upd_ne this]
  · obtain ⟨⟨u, hu⟩, h2⟩ := r.zs z hz
    exact (Ext.write (o := o) r h).frame z u hu h2 |> fun q => ⟨⟨u, q.1⟩, q.2⟩
end
/-! ### the meanings and their canonical readings -/
abbrev EM := Env → Store → Option (D × Store)
abbrev TM := Env → Store → Option (Bool × Store)
abbrev AM := Env → Store → Option (List D × Store)
inductive Fl where
  | nx | ret (d : D) | brk | cnt
abbrev SM := Env → Store → Option (Fl × Env × Store)
section
variable (K : PySem.W.Frag) (B : Tb)
/-- what is wanted behind -/
def After {α β : Type} (Rl : Rho → Hp → α → β → Prop) (ρ : Rho) (H : Hp) (r : α) (st' : Store) (Q : β → Hp → Prop) : Prop :=
  ∀ ρ' H' v, Ext K ρ H ρ' H' → Rep K B ρ' H' st' → Rl ρ' H' r v → Q v H'
def TEm (m : EM) : TE := fun σ H Q => ∃ ρ env st d st', Rep K B ρ H st ∧ REnv K B ρ H env σ ∧ m env st = some (d, st') ∧ After K B (RV K B) ρ H d st' Q
def TTm (m : TM) : TT := fun σ H Q => ∃ ρ env st b st', Rep K B ρ H st ∧ REnv K B ρ H env σ ∧ m env st = some (b, st') ∧ ∀ ρ' H', Ext K ρ H ρ' H' → Rep K B ρ' H' st' → Q b H'
def TAm (m : AM) : TA := fun σ H Q => ∃ ρ env st ds st', Rep K B ρ H st ∧ REnv K B ρ H env σ ∧ m env st = some (ds, st') ∧ After K B (RVs K B) ρ H ds st' Q
def TSm (m : SM) : TS := fun E σ H => ∃ ρ env st fl env' st', Rep K B ρ H st ∧ REnv K B ρ H env σ ∧ m env st = some (fl, env', st') ∧ ∀ ρ' H', Ext K ρ H ρ' H' → Rep K B ρ' H' st' →
  match fl with
  | .nx => ∀ σ', REnv K B ρ' H' env' σ' → E.nx σ' H'
  | .ret d => ∀ v, RV K B ρ' H' d v → E.rt v H'
  | .brk => ∀ σ', REnv K B ρ' H' env' σ' → E.bk σ' H'
  | .cnt => ∀ σ', REnv K B ρ' H' env' σ' → E.ct σ' H'
end
abbrev SimE (X : Cx) (B : Tb) (e : Expr) (m : EM) : Prop := PE X e (TEm X.K B m)
abbrev SimT (X : Cx) (B : Tb) (e : Expr) (m : TM) : Prop := PT X e (TTm X.K B m)
abbrev SimA (X : Cx) (B : Tb) (es : List Expr) (m : AM) : Prop := PA X es (TAm X.K B m)
abbrev SimS (X : Cx) (B : Tb) (s : Stmt) (m : SM) : Prop := PS X s (TSm X.K B m)
abbrev SimB (X : Cx) (B : Tb) (s : List Stmt) (m : SM) : Prop := PSs X s (TSm X.K B m)
/-! weaker readings -/
theorem PE.imp {X : Cx} {e : Expr} {t t' : TE} (h : PE X e t) (k : ∀ σ H Q, t' σ H Q → t σ H Q) : PE X e t' := ⟨fun pins s σ H Q I q => h.run pins s σ H Q I (k σ H Q q)⟩
theorem PT.imp {X : Cx} {e : Expr} {t t' : TT} (h : PT X e t) (k : ∀ σ H Q, t' σ H Q → t σ H Q) : PT X e t' := ⟨fun pins s σ H Q I q => h.run pins s σ H Q I (k σ H Q q)⟩
theorem PW.imp {X : Cx} {e : Expr} {t t' : TT} (h : PW X e t) (k : ∀ σ H Q, t' σ H Q → t σ H Q) : PW X e t' := ⟨fun wh pins s σ H Q I q => h.run wh pins s σ H Q I (k σ H Q q)⟩
theorem PA.imp {X : Cx} {e : List Expr} {t t' : TA} (h : PA X e t) (k : ∀ σ H Q, t' σ H Q → t σ H Q) : PA X e t' := ⟨fun pos pins s σ H Q I q => h.run pos pins s σ H Q I (k σ H Q q)⟩
theorem PS.imp {X : Cx} {e : Stmt} {t t' : TS} (h : PS X e t) (k : ∀ E σ H, t' E σ H → t E σ H) : PS X e t' := ⟨fun pins s σ H E I q => h.run pins s σ H E I (k E σ H q)⟩
theorem PSs.imp {X : Cx} {e : List Stmt} {t t' : TS} (h : PSs X e t) (k : ∀ E σ H, t' E σ H → t E σ H) : PSs X e t' := ⟨fun pins s σ H E I q => h.run pins s σ H E I (k E σ H q)⟩
end Mn
set_option Elab.async false
set_option linter.all false
set_option maxRecDepth 100000
set_option maxHeartbeats 2000000
set_option autoImplicit false
/-! Mn, part B: operators by values. -/
namespace Mn
open PySem PySem.Spec PyProof.Rows L2
mutual
def toP (B : Tb) : D → PyData
  | .non => .none
  | .bl b => .bool b
  | .int i => .int i
  | .sym k => .str (B.T.getD k ⟨#[]⟩)
  | .tup xs => .tuple (toPs B xs)
  | .lst xs => .list (toPs B xs)
  | .fro xs => .list (toPs B xs)
  | _ => .none
def toPs (B : Tb) : List D → List PyData
  | [] => []
  | x :: xs => toP B x :: toPs B xs
end
section
variable {K : PySem.W.Frag} {B : Tb} {ρ : Rho} {H : Hp} {st : Store}
/-! ### new objects -/
def mkL (b : Bool) (xs : List D) (st : Store) : D × Store := if b then (.ref st.length, st ++ [.lst xs]) else (.lst xs, st)
theorem after_lst {b : Bool} {xs : List D} {vs : List V} {Q : VK} {d : D} {st' : Store} (r : Rep K B ρ H st) (rv : RVs K B ρ H xs vs) (e : mkL b xs st = (d, st')) (q : After K B (RV K B) ρ H d st' Q) : ∀ p, H p = none → Q (.ref p) (upd H p (.lst vs)) := fun p hp => by
  cases b with
  | false =>
    obtain ⟨rfl, rfl⟩ := Prod.mk.inj (show (D.lst xs, st) = (d, st') from e)
    exact q ρ _ _ (Ext.new r hp) (r.new hp) ⟨p, vs, rfl, upd_same, r.fresh hp, rv.mono (Ext.new r hp)⟩
  | true =>
    obtain ⟨rfl, rfl⟩ := Prod.mk.inj (show (D.ref st.length, st ++ [.lst xs]) = (d, st') from e)
    refine q (ρ.push p) _ _ (Ext.push r hp) (r.push hp ⟨vs, upd_same, rv.mono (Ext.push r hp)⟩) ⟨p, rfl, ?_⟩
    show (ρ.ix ++ [p])[st.length]? = some p
    rw [← r.len, List.getElem?_append_right (Nat.le_refl _)]; simp
def mkD (b : Bool) (ks : List DK) (xs : List D) (st : Store) : D × Store := if b then (.ref st.length, st ++ [.dct ks xs]) else (.dct ks xs, st)
theorem after_dct {b : Bool} {ks : List DK} {xs : List D} {kvs : List (Key × V)} {Q : VK} {d : D} {st' : Store} (r : Rep K B ρ H st) (hk : ks.map (keyD B.T) = kvs.map (fun q => some q.1)) (rv : RVs K B ρ H xs (kvs.map (·.2))) (e : mkD b ks xs st = (d, st')) (q : After K B (RV K B) ρ H d st' Q) : ∀ p, H p = none → Q (.ref p) (upd H p (.dK kvs)) := fun p hp => by
  cases b with
  | false =>
    obtain ⟨rfl, rfl⟩ := Prod.mk.inj (show (D.dct ks xs, st) = (d, st') from e)
    exact q ρ _ _ (Ext.new r hp) (r.new hp) ⟨p, kvs, rfl, upd_same, r.fresh hp, hk, rv.mono (Ext.new r hp)⟩
  | true =>
    obtain ⟨rfl, rfl⟩ := Prod.mk.inj (show (D.ref st.length, st ++ [.dct ks xs]) = (d, st') from e)
    refine q (ρ.push p) _ _ (Ext.push r hp) (r.push hp ⟨kvs, upd_same, hk, rv.mono (Ext.push r hp)⟩) ⟨p, rfl, ?_⟩
    show (ρ.ix ++ [p])[st.length]? = some p
    rw [← r.len, List.getElem?_append_right (Nat.le_refl _)]; simp
theorem after_tup {xs : List D} {vs : List V} {Q : VK} (r : Rep K B ρ H st) (rv : RVs K B ρ H xs vs) (q : After K B (RV K B) ρ H (.tup xs) st Q) : ∀ p, H p = none → Q (.ref p) (upd H p (.tup vs)) := fun p hp =>
  q ρ _ _ (Ext.new r hp) (r.new hp) ⟨p, vs, rfl, .inl (.inl upd_same), rv.mono (Ext.new r hp)⟩
theorem after_val {d : D} {v : V} {Q : VK} (r : Rep K B ρ H st) (rv : RV K B ρ H d v) (q : After K B (RV K B) ρ H d st Q) : Q v H := q ρ H v Ext.refl r rv
/-! ### sequences -/
def lstOf (st : Store) : D → Option (List D)
  | .lst xs => some xs
  | .ref n => (match st[n]? with
    | some (.lst xs) => some xs
    | _ => none)
  | _ => none
def lstFOf (st : Store) : D → Option (List D)
  | .fro xs => some xs
  | d => lstOf st d
def tupOf : D → Option (List D)
  | .tup xs => some xs
  | _ => none
/-- items of a list or a tuple -/
def seqOf (st : Store) : D → Option (List D)
  | .tup xs => some xs
  | .fro xs => some xs
  | d => lstOf st d
theorem lstOf_rep {d : D} {v : V} {xs : List D} (r : Rep K B ρ H st) (h : RV K B ρ H d v) (e : lstOf st d = some xs) : ∃ a vs, v = .ref a ∧ H a = some (.lst vs) ∧ RVs K B ρ H xs vs := by
  cases d with
  | lst ys =>
    cases e
    obtain ⟨a, vs, h1, h2, _, h4⟩ := h
    exact ⟨a, vs, h1, h2, h4⟩
  | ref n =>
    obtain ⟨a, h1, h2⟩ := h
    unfold lstOf at e
    cases q : st[n]? with
    | none => simp only [q] at e; cases e
    | some o =>
      obtain ⟨b, h3, h4⟩ := r.obj n o q
      rw [h2] at h3
      cases h3
      cases o with
      | lst ys =>
        simp only [q] at e
        cases e
        obtain ⟨vs, h5, h6⟩ := h4
        exact ⟨a, vs, h1, h5, h6⟩
      | dct _ _ => simp only [q] at e; cases e
  | _ => cases e
theorem lstFOf_rep {d : D} {v : V} {xs : List D} (r : Rep K B ρ H st) (h : RV K B ρ H d v) (e : lstFOf st d = some xs) : ∃ a vs, v = .ref a ∧ SqL K H a vs ∧ RVs K B ρ H xs vs := by
  cases d with
  | fro ys =>
    cases e
    obtain ⟨a, vs, h1, h2, h4⟩ := h
    exact ⟨a, vs, h1, h2.sq, h4⟩
  | _ =>
    obtain ⟨a, vs, h1, h2, h3⟩ := lstOf_rep r h e
    exact ⟨a, vs, h1, .inl (.inl h2), h3⟩
theorem tupOf_rep {d : D} {v : V} {xs : List D} (h : RV K B ρ H d v) (e : tupOf d = some xs) : ∃ a vs, v = .ref a ∧ SqT K H a vs ∧ RVs K B ρ H xs vs := by
  cases d with
  | tup ys => cases e; exact h
  | _ => cases e
theorem seqOf_rep {d : D} {v : V} {xs : List D} (r : Rep K B ρ H st) (h : RV K B ρ H d v) (e : seqOf st d = some xs) : ∃ a vs, v = .ref a ∧ (SqL K H a vs ∨ SqT K H a vs) ∧ RVs K B ρ H xs vs := by
  cases d with
  | tup ys =>
    obtain ⟨a, vs, h1, h2, h3⟩ := tupOf_rep (xs := xs) h e
    exact ⟨a, vs, h1, .inr h2, h3⟩
  | fro ys =>
    obtain ⟨a, vs, h1, h2, h3⟩ := lstFOf_rep (xs := xs) r h e
    exact ⟨a, vs, h1, .inl h2, h3⟩
  | _ =>
    obtain ⟨a, vs, h1, h2, h3⟩ := lstOf_rep r h e
    exact ⟨a, vs, h1, .inl (.inl (.inl h2)), h3⟩
/-! ### equality -/
mutual
def plain : D → Bool
  | .tup xs => plains xs
  | .lst xs => plains xs
  | .fro xs => plains xs
  | .dct _ _ => false
  | .ref _ => false
  | .con _ => false
  | .ty _ => false
  | _ => true
def plains : List D → Bool
  | [] => true
  | x :: xs => plain x && plains xs
end
mutual
def depthD : D → Nat
  | .tup xs => depthDs xs + 1
  | .lst xs => depthDs xs + 1
  | .fro xs => depthDs xs + 1
  | _ => 0
def depthDs : List D → Nat
  | [] => 0
  | x :: xs => max (depthD x) (depthDs xs)
end
/-! == of plain data -/
mutual
def eqv : D → D → Bool
  | .non, .non => true
  | .bl a, .bl b => a == b
  | .bl a, .int j => (if a then 1 else 0) == j
  | .int i, .bl b => i == (if b then 1 else 0)
  | .int i, .int j => i == j
  | .sym x, .sym y => x == y
  | .lst xs, .lst ys => eqvs xs ys
  | .lst xs, .fro ys => eqvs xs ys
  | .fro xs, .lst ys => eqvs xs ys
  | .fro xs, .fro ys => eqvs xs ys
  | .tup xs, .tup ys => eqvs xs ys
  | _, _ => false
def eqvs : List D → List D → Bool
  | [], [] => true
  | x :: xs, y :: ys => eqv x y && eqvs xs ys
  | _, _ => false
end
/-- the table of texts: no text twice, all are texts that the model lays -/
structure Tb.Ok (B : Tb) : Prop where
  nd : B.T.Nodup
  fit : B.T.all PyData.strOk = true
mutual
theorem toP_dp : ∀ (d : D) (v : V), plain d = true → RV K B ρ H d v → Dp K H v (toP B d)
  | .non, v, _, h => by cases h; exact .non
  | .bl b, v, _, h => by cases h; exact .bl b
  | .int i, v, _, h => by cases h; exact .int i
  | .sym k, v, _, h => by
    obtain ⟨s, e, rfl⟩ := h
    show Dp K H (.str s) (.str (B.T.getD k ⟨#[]⟩))
    rw [List.getD_eq_getElem?_getD, e]
    exact .str s
  | .tup xs, v, hp, h => by
    obtain ⟨a, vs, rfl, h2, h3⟩ := h
    exact .tup h2 (toPs_dp xs vs hp h3)
  | .lst xs, v, hp, h => by
    obtain ⟨a, vs, rfl, h2, _, h3⟩ := h
    exact .lst (.inl (.inl h2)) (toPs_dp xs vs hp h3)
  | .fro xs, v, hp, h => by
    obtain ⟨a, vs, rfl, h2, h3⟩ := h
    exact .lst h2.sq (toPs_dp xs vs hp h3)
  | .dct _ _, _, hp, _ => by cases hp
  | .ref _, _, hp, _ => by cases hp
  | .con _, _, hp, _ => by cases hp
  | .ty _, _, hp, _ => by cases hp
theorem toPs_dp : ∀ (ds : List D) (vs : List V), plains ds = true → RVs K B ρ H ds vs → DpAll K H vs (toPs B ds)
  | [], vs, _, h => by rw [show vs = [] from h]; exact .nil
  | d :: ds, vs, hp, h => by
    obtain ⟨v, vr, rfl, h1, h2⟩ := h
    obtain ⟨p1, p2⟩ := Bool.and_eq_true_iff.mp (show (plain d && plains ds) = true from hp)
    exact .cons (toP_dp d v p1 h1) (toPs_dp ds vr p2 h2)
end
mutual
/-- every text is of the table -/
def syms (n : Nat) : D → Bool
  | .sym k => decide (k < n)
  | .tup xs => symss n xs
  | .lst xs => symss n xs
  | .fro xs => symss n xs
  | _ => true
def symss (n : Nat) : List D → Bool
  | [] => true
  | x :: xs => syms n x && symss n xs
end
mutual
theorem syms_of : ∀ (d : D) (v : V), RV K B ρ H d v → syms B.T.length d = true
  | .sym k, v, h => by
    obtain ⟨s, e, rfl⟩ := h
    exact decide_eq_true (List.getElem?_eq_some_iff.mp e).1
  | .tup xs, v, h => by
    obtain ⟨a, vs, rfl, h2, h3⟩ := h
    exact symss_of xs vs h3
  | .lst xs, v, h => by
    obtain ⟨a, vs, rfl, h2, _, h3⟩ := h
    exact symss_of xs vs h3
  | .fro xs, v, h => by
    obtain ⟨a, vs, rfl, h2, h3⟩ := h
    exact symss_of xs vs h3
  | .non, _, _ => rfl
  | .bl _, _, _ => rfl
  | .int _, _, _ => rfl
  | .dct _ _, _, _ => rfl
  | .ref _, _, _ => rfl
  | .con _, _, _ => rfl
  | .ty _, _, _ => rfl
theorem symss_of : ∀ (ds : List D) (vs : List V), RVs K B ρ H ds vs → symss B.T.length ds = true
  | [], _, _ => rfl
  | d :: ds, vs, h => by
    obtain ⟨v, vr, rfl, h1, h2⟩ := h
    exact Bool.and_eq_true_iff.mpr ⟨syms_of d v h1, symss_of ds vr h2⟩
end
mutual
theorem toP_eqv (ok : B.Ok) : ∀ (d e : D), plain d = true → plain e = true → syms B.T.length d = true → syms B.T.length e = true → PyData.eqv (toP B d) (toP B e) = eqv d e
  | .non, e, _, h, _, _ => by cases e <;> first | (cases h; done) | simp [toP, eqv, PyData.eqv]
  | .bl _, e, _, h, _, _ => by cases e <;> first | (cases h; done) | simp [toP, eqv, PyData.eqv]
  | .int _, e, _, h, _, _ => by cases e <;> first | (cases h; done) | simp [toP, eqv, PyData.eqv]
  | .sym k, e, _, h, h1, h2 => by
    cases e with
    | sym j =>
      have hk : k < B.T.length := of_decide_eq_true h1
      have hj : j < B.T.length := of_decide_eq_true h2
      simp only [toP, eqv, PyData.eqv]
      rw [List.getD_eq_getElem?_getD, List.getD_eq_getElem?_getD, List.getElem?_eq_getElem hk, List.getElem?_eq_getElem hj]
      show (B.T[k] == B.T[j]) = (k == j)
      rw [Bool.eq_iff_iff]
      simp only [beq_iff_eq]
      exact ⟨fun e => (List.getElem_inj ok.nd).mp e, fun e => by subst e; rfl⟩
    | _ => first | (cases h; done) | simp [toP, eqv, PyData.eqv]
  | .tup xs, e, h0, h, h1, h2 => by
    cases e with
    | tup ys => exact toPs_eqv ok xs ys h0 h h1 h2
    | _ => first | (cases h; done) | simp [toP, eqv, PyData.eqv]
  | .lst xs, e, h0, h, h1, h2 => by
    cases e with
    | lst ys => exact toPs_eqv ok xs ys h0 h h1 h2
    | fro ys => exact toPs_eqv ok xs ys h0 h h1 h2
    | _ => first | (cases h; done) | simp [toP, eqv, PyData.eqv]
  | .fro xs, e, h0, h, h1, h2 => by
    cases e with
    | lst ys => exact toPs_eqv ok xs ys h0 h h1 h2
    | fro ys => exact toPs_eqv ok xs ys h0 h h1 h2
    | _ => first | (cases h; done) | simp [toP, eqv, PyData.eqv]
  | .dct _ _, _, h, _, _, _ => by cases h
  | .ref _, _, h, _, _, _ => by cases h
  | .con _, _, h, _, _, _ => by cases h
  | .ty _, _, h, _, _, _ => by cases h
theorem toPs_eqv (ok : B.Ok) : ∀ (ds es : List D), plains ds = true → plains es = true → symss B.T.length ds = true → symss B.T.length es = true → PyData.eqvAll (toPs B ds) (toPs B es) = eqvs ds es
  | [], es, _, _, _, _ => by cases es <;> simp [toPs, eqvs, PyData.eqvAll]
  | d :: ds, es, h0, h, h1, h2 => by
    cases es with
    | nil => simp [toPs, eqvs, PyData.eqvAll]
    | cons e es =>
      obtain ⟨a1, a2⟩ := Bool.and_eq_true_iff.mp (show (plain d && plains ds) = true from h0)
      obtain ⟨b1, b2⟩ := Bool.and_eq_true_iff.mp (show (plain e && plains es) = true from h)
      obtain ⟨c1, c2⟩ := Bool.and_eq_true_iff.mp (show (syms _ d && symss _ ds) = true from h1)
      obtain ⟨d1, d2⟩ := Bool.and_eq_true_iff.mp (show (syms _ e && symss _ es) = true from h2)
      show (PyData.eqv (toP B d) (toP B e) && PyData.eqvAll (toPs B ds) (toPs B es)) = (eqv d e && eqvs ds es)
      rw [toP_eqv ok d e a1 b1 c1 d1, toPs_eqv ok ds es a2 b2 c2 d2]
end
mutual
theorem toP_lay (ok : B.Ok) : ∀ d : D, plain d = true → syms B.T.length d = true → (toP B d).canLay0 = true
  | .non, _, _ => rfl
  | .bl _, _, _ => rfl
  | .int _, _, _ => rfl
  | .sym k, _, h => by
    have hk : k < B.T.length := of_decide_eq_true h
    show PyData.strOk (B.T.getD k ⟨#[]⟩) = true
    rw [List.getD_eq_getElem?_getD, List.getElem?_eq_getElem hk]
    exact List.all_eq_true.mp ok.fit _ (List.getElem_mem hk)
  | .tup xs, h0, h => toPs_lay ok xs h0 h
  | .lst xs, h0, h => toPs_lay ok xs h0 h
  | .fro xs, h0, h => toPs_lay ok xs h0 h
  | .dct _ _, h, _ => by cases h
  | .ref _, h, _ => by cases h
  | .con _, h, _ => by cases h
  | .ty _, h, _ => by cases h
theorem toPs_lay (ok : B.Ok) : ∀ ds : List D, plains ds = true → symss B.T.length ds = true → PyData.canLayAll0 (toPs B ds) = true
  | [], _, _ => rfl
  | d :: ds, h0, h => by
    obtain ⟨a1, a2⟩ := Bool.and_eq_true_iff.mp (show (plain d && plains ds) = true from h0)
    obtain ⟨c1, c2⟩ := Bool.and_eq_true_iff.mp (show (syms _ d && symss _ ds) = true from h)
    exact Bool.and_eq_true_iff.mpr ⟨toP_lay ok d a1 c1, toPs_lay ok ds a2 c2⟩
end
mutual
theorem toP_depth : ∀ d : D, (toP B d).depth = depthD d
  | .non => rfl
  | .bl _ => rfl
  | .int _ => rfl
  | .sym k => rfl
  | .tup xs => congrArg (· + 1) (toPs_depth xs)
  | .lst xs => congrArg (· + 1) (toPs_depth xs)
  | .fro xs => congrArg (· + 1) (toPs_depth xs)
  | .dct _ _ => rfl
  | .ref _ => rfl
  | .con _ => rfl
  | .ty _ => rfl
theorem toPs_depth : ∀ ds : List D, PyData.depthAll (toPs B ds) = depthDs ds
  | [] => rfl
  | d :: ds => by
    show max (toP B d).depth (PyData.depthAll (toPs B ds)) = max (depthD d) (depthDs ds)
    rw [toP_depth d, toPs_depth ds]
end
end
/-! ### operators -/
abbrev Op2 := D → D → Store → Option (D × Store)
def ROm (K : PySem.W.Frag) (B : Tb) (o : Op2) : R2 := fun vx vy H Q => ∃ ρ st x y d st', Rep K B ρ H st ∧ RV K B ρ H x vx ∧ RV K B ρ H y vy ∧ o x y st = some (d, st') ∧ After K B (RV K B) ρ H d st' Q
abbrev SimO (X : Cx) (B : Tb) (f : Value → Value → Sem Value) (o : Op2) : Prop := OpR X f (ROm X.K B o)
/-- what the operators' rules ask of the context -/
structure OCx (X : Cx) (B : Tb) : Prop where
  b : B.Ok
  u : X.A.units + 66 < cLine
  con : ∀ (k : Nat) (kvs : List (Nat × D)), B.CD[k]? = some kvs → ∃ (d : Addr) (es : Array DictEntry) (n : Nat), B.C[k]? = some (V.ref d) ∧ KDict X.K X.w d es n ∧ ∀ (j : Nat) (s : Str), B.T[j]? = some s →
    match kvs.lookup j with
    | some dv => ∃ u v, PySem.W.nsIn X.K d s = some (some u) ∧ RelV v u ∧ ∀ ρ H, RV X.K B ρ H dv v
    | none => PySem.W.nsIn X.K d s = some none
def eqB (x y : D) : Option Bool := if plain x && plain y && (decide (depthD x ≤ 64) || decide (depthD y ≤ 64)) then some (eqv x y) else none
def eqO : Op2 := fun x y st => (eqB x y).map fun b => (.bl b, st)
def neO : Op2 := fun x y st => (eqB x y).map fun b => (.bl (!b), st)
def inB (st : Store) (x y : D) : Option Bool := match seqOf st y with
  | some ys => if plain x && plains ys && (decide (depthD x ≤ 64) || decide (depthDs ys ≤ 64)) then some (ys.any fun z => eqv z x) else none
  | none => none
def inO : Op2 := fun x y st => (inB st x y).map fun b => (.bl b, st)
def notInO : Op2 := fun x y st => (inB st x y).map fun b => (.bl (!b), st)
section
variable {X : Cx} {B : Tb}
theorem eqB_some {x y : D} {b : Bool} (h : eqB x y = some b) : plain x = true ∧ plain y = true ∧ (depthD x ≤ 64 ∨ depthD y ≤ 64) ∧ b = eqv x y := by
  unfold eqB at h
  split at h
  · rename_i c
    simp only [Bool.and_eq_true, Bool.or_eq_true, decide_eq_true_eq] at c
    cases h
    exact ⟨c.1.1, c.1.2, c.2, rfl⟩
  · cases h
theorem room_min {u a b : Nat} (hu : u + 66 < cLine) (h : a ≤ 64 ∨ b ≤ 64) : u + min a b < cLine := by omega
theorem sim_eq (O : OCx X B) : SimO X B (compareOp .Eq) eqO := by
  rintro pins s σ H vx vy v u Q I rx ry ⟨ρ, st, x, y, d, st', r, h1, h2, e, q⟩
  obtain ⟨b, eb, e⟩ := Option.map_eq_some_iff.mp e
  cases e
  obtain ⟨p1, p2, hd, rfl⟩ := eqB_some eb
  have s1 := syms_of x vx h1
  have s2 := syms_of y vy h2
  obtain ⟨as, r1⟩ := Dp.reads I _ vx v (toP_dp x vx p1 h1) rx
  obtain ⟨bs, r2⟩ := Dp.reads I _ vy u (toP_dp y vy p2 h2) ry
  refine SeqAt.compareEq_reads r1 r2 (toP_lay O.b x p1 s1) (toP_lay O.b y p2 s2) (by rw [toP_depth, toP_depth]; exact room_min O.u hd) ⟨.bl _, H, I, rfl, ?_⟩
  rw [toP_eqv O.b x y p1 p2 s1 s2]
  exact q ρ H _ Ext.refl r rfl
theorem sim_ne (O : OCx X B) : SimO X B (compareOp .NotEq) neO := by
  rintro pins s σ H vx vy v u Q I rx ry ⟨ρ, st, x, y, d, st', r, h1, h2, e, q⟩
  obtain ⟨b, eb, e⟩ := Option.map_eq_some_iff.mp e
  cases e
  obtain ⟨p1, p2, hd, rfl⟩ := eqB_some eb
  have s1 := syms_of x vx h1
  have s2 := syms_of y vy h2
  obtain ⟨as, r1⟩ := Dp.reads I _ vx v (toP_dp x vx p1 h1) rx
  obtain ⟨bs, r2⟩ := Dp.reads I _ vy u (toP_dp y vy p2 h2) ry
  refine SeqAt.compareNe_reads r1 r2 (toP_lay O.b x p1 s1) (toP_lay O.b y p2 s2) (by rw [toP_depth, toP_depth]; exact room_min O.u hd) ⟨.bl _, H, I, rfl, ?_⟩
  rw [toP_eqv O.b x y p1 p2 s1 s2]
  exact q ρ H _ Ext.refl r rfl
theorem any_toPs (ok : B.Ok) {x : D} (p : plain x = true) (sx : syms B.T.length x = true) : ∀ ys : List D, plains ys = true → symss B.T.length ys = true → ((toPs B ys).any fun z => PyData.eqv z (toP B x)) = ys.any fun z => eqv z x
  | [], _, _ => rfl
  | y :: ys, h, h2 => by
    obtain ⟨a1, a2⟩ := Bool.and_eq_true_iff.mp (show (plain y && plains ys) = true from h)
    obtain ⟨c1, c2⟩ := Bool.and_eq_true_iff.mp (show (syms _ y && symss _ ys) = true from h2)
    show (PyData.eqv (toP B y) (toP B x) || (toPs B ys).any fun z => PyData.eqv z (toP B x)) = (eqv y x || ys.any fun z => eqv z x)
    rw [toP_eqv ok y x a1 p c1 sx, any_toPs ok p sx ys a2 c2]
theorem inB_some {st : Store} {x y : D} {b : Bool} (h : inB st x y = some b) : ∃ ys, seqOf st y = some ys ∧ plain x = true ∧ plains ys = true ∧ (depthD x ≤ 64 ∨ depthDs ys ≤ 64) ∧ b = ys.any fun z => eqv z x := by
  unfold inB at h
  split at h
  · rename_i ys e
    split at h
    · rename_i c
      simp only [Bool.and_eq_true, Bool.or_eq_true, decide_eq_true_eq] at c
      cases h
      exact ⟨ys, e, c.1.1, c.1.2, c.2, rfl⟩
    · cases h
  · cases h
/-- the container's reading -/
theorem in_reads {pins : List (Addr × Obj)} {s : Shared} {σ : L2.St} {H : Hp} {ρ : Rho} {st : Store} (O : OCx X B) (I : Inv X pins σ H s) (r : Rep X.K B ρ H st) {y : D} {vy : V} {u : Value} {ys : List D} (h : RV X.K B ρ H y vy) (e : seqOf st y = some ys) (p : plains ys = true) (ry : RelV vy u) :
    symss B.T.length ys = true ∧ ((∃ as, Reads s.heap u (.list (toPs B ys)) as) ∨ ∃ as, Reads s.heap u (.tuple (toPs B ys)) as) := by
  obtain ⟨a, vs, rfl, hs, hv⟩ := seqOf_rep r h e
  refine ⟨symss_of ys vs hv, ?_⟩
  rcases hs with hs | hs
  · exact .inl (Dp.reads I _ _ u (.lst hs (toPs_dp ys vs p hv)) ry)
  · exact .inr (Dp.reads I _ _ u (.tup hs (toPs_dp ys vs p hv)) ry)
theorem sim_in (O : OCx X B) : SimO X B (compareOp .In) inO := by
  rintro pins s σ H vx vy v u Q I rx ry ⟨ρ, st, x, y, d, st', r, h1, h2, e, q⟩
  obtain ⟨b, eb, e⟩ := Option.map_eq_some_iff.mp e
  cases e
  obtain ⟨ys, ey, p1, p2, hd, rfl⟩ := inB_some eb
  have s1 := syms_of x vx h1
  obtain ⟨as, r1⟩ := Dp.reads I _ vx v (toP_dp x vx p1 h1) rx
  obtain ⟨s2, hr⟩ := in_reads O I r h2 ey p2 ry
  have hroom : X.A.units + 1 + min (PyData.depthAll (toPs B ys)) (toP B x).depth < cLine := by rw [toP_depth, toPs_depth]; have := O.u; omega
  have fin : EP X pins σ Q (.bool ((toPs B ys).any fun z => PyData.eqv z (toP B x))) s := ⟨.bl _, H, I, rfl, by rw [any_toPs O.b p1 s1 ys p2 s2]; exact q ρ H _ Ext.refl r rfl⟩
  rcases hr with ⟨bs, r2⟩ | ⟨bs, r2⟩
  · exact SeqAt.in_list_reads r2 r1 (toPs_lay O.b ys p2 s2) (toP_lay O.b x p1 s1) hroom fin
  · exact SeqAt.in_tuple_reads r2 r1 (toPs_lay O.b ys p2 s2) (toP_lay O.b x p1 s1) hroom fin
theorem sim_notIn (O : OCx X B) : SimO X B (compareOp .NotIn) notInO := by
  rintro pins s σ H vx vy v u Q I rx ry ⟨ρ, st, x, y, d, st', r, h1, h2, e, q⟩
  obtain ⟨b, eb, e⟩ := Option.map_eq_some_iff.mp e
  cases e
  obtain ⟨ys, ey, p1, p2, hd, rfl⟩ := inB_some eb
  have s1 := syms_of x vx h1
  obtain ⟨as, r1⟩ := Dp.reads I _ vx v (toP_dp x vx p1 h1) rx
  obtain ⟨s2, hr⟩ := in_reads O I r h2 ey p2 ry
  have hroom : X.A.units + 1 + min (PyData.depthAll (toPs B ys)) (toP B x).depth < cLine := by rw [toP_depth, toPs_depth]; have := O.u; omega
  have fin : EP X pins σ Q (.bool (!(toPs B ys).any fun z => PyData.eqv z (toP B x))) s := ⟨.bl _, H, I, rfl, by rw [any_toPs O.b p1 s1 ys p2 s2]; exact q ρ H _ Ext.refl r rfl⟩
  rcases hr with ⟨bs, r2⟩ | ⟨bs, r2⟩
  · exact SeqAt.notIn_list_reads r2 r1 (toPs_lay O.b ys p2 s2) (toP_lay O.b x p1 s1) hroom fin
  · exact SeqAt.notIn_tuple_reads r2 r1 (toPs_lay O.b ys p2 s2) (toP_lay O.b x p1 s1) hroom fin
end
end Mn
set_option Elab.async false
set_option linter.all false
set_option maxRecDepth 100000
set_option maxHeartbeats 2000000
set_option autoImplicit false
/-! Mn, part C: more operators by values: arithmetic, order, None, items, slices, truth, built-ins. -/
namespace Mn
open PySem PySem.Spec PyProof.Rows L2
abbrev bigN : Nat := 16777216
theorem bigN_eq : sizeLine = bigN := sizeLine_eq
def smallI (i : Int) : Bool := decide (-(2 ^ 64) < i) && decide (i < 2 ^ 64)
def addO (b : Bool) : Op2 := fun x y st => match x, y with
  | .int i, .int j => some (.int (i + j), st)
  | .tup xs, .tup ys => if xs.length + ys.length ≤ bigN then some (.tup (xs ++ ys), st) else none
  | x, y => match lstOf st x, lstOf st y with
    | some xs, some ys => if xs.length + ys.length ≤ bigN then some (mkL b (xs ++ ys) st) else none
    | _, _ => none
def subO : Op2 := fun x y st => match x, y with
  | .int i, .int j => some (.int (i - j), st)
  | _, _ => none
def mulO (b : Bool) : Op2 := fun x y st => match x, y with
  | .int i, .int j => if smallI i || smallI j then some (.int (i * j), st) else none
  | x, .int k => (match lstOf st x with
    | some xs => if -(2 ^ 63) ≤ k ∧ k < 2 ^ 63 ∧ xs.length * k.toNat ≤ bigN then some (mkL b (List.replicate k.toNat xs).flatten st) else none
    | none => none)
  | _, _ => none
def fdivO : Op2 := fun x y st => match x, y with
  | .int i, .int j => if j ≠ 0 ∧ j.natAbs < 1073741824 then some (.int (i.fdiv j), st) else none
  | _, _ => none
def modO : Op2 := fun x y st => match x, y with
  | .int i, .int j => if j ≠ 0 then some (.int (i.fmod j), st) else none
  | _, _ => none
def powO : Op2 := fun x y st => match x, y with
  | .int i, .int j => if 0 ≤ j ∧ j ≤ 1000000 ∧ i.natAbs < 2 ^ 64 then some (.int (i ^ j.toNat), st) else none
  | _, _ => none
def cmpO (p : Int → Int → Bool) : Op2 := fun x y st => match x, y with
  | .int i, .int j => some (.bl (p i j), st)
  | _, _ => none
def isNone : D → Bool
  | .non => true
  | _ => false
def noCon : D → Bool
  | .con _ => false
  | _ => true
def isO : Op2 := fun x y st => match y with
  | .non => if noCon x then some (.bl (isNone x), st) else none
  | _ => none
def isNotO : Op2 := fun x y st => match y with
  | .non => if noCon x then some (.bl (!isNone x), st) else none
  | _ => none
section
variable {X : Cx} {B : Tb}
theorem rv_int {K : PySem.W.Frag} {ρ : Rho} {H : Hp} {i : Int} {v : V} (h : RV K B ρ H (.int i) v) : v = .int i := h
theorem isNone_v {K : PySem.W.Frag} {ρ : Rho} {H : Hp} {d : D} {v : V} (hc : noCon d = true) (h : RV K B ρ H d v) : decide (v = V.non) = isNone d := by
  cases d with
  | non => rw [show v = V.non from h]; rfl
  | bl b => rw [show v = V.bl b from h]; rfl
  | int b => rw [show v = V.int b from h]; rfl
  | sym k => obtain ⟨s, _, rfl⟩ := h; rfl
  | tup xs => obtain ⟨a, vs, rfl, _⟩ := h; rfl
  | lst xs => obtain ⟨a, vs, rfl, _⟩ := h; rfl
  | fro xs => obtain ⟨a, vs, rfl, _⟩ := h; rfl
  | dct ks xs => obtain ⟨a, vs, rfl, _⟩ := h; rfl
  | ref n => obtain ⟨a, rfl, _⟩ := h; rfl
  | con n => cases hc
  | ty n => rw [show v = V.ty n from h]; rfl
theorem sim_add (b : Bool) : SimO X B (binaryOp .Add) (addO b) := by
  rintro pins s σ H vx vy v u Q I rx ry ⟨ρ, st, x, y, d, st', r, h1, h2, e, q⟩
  unfold addO at e
  split at e
  · rename_i i j
    cases e
    cases h1; cases h2
    exact op_add pins s σ H _ _ v u Q I rx ry ⟨i, j, rfl, rfl, q ρ H _ Ext.refl r rfl⟩
  · rename_i xs ys
    split at e
    · rename_i hz
      cases e
      obtain ⟨a, vs, rfl, t1, l1⟩ := h1
      obtain ⟨a2, ws, rfl, t2, l2⟩ := h2
      have e1 := l1.len
      have e2 := l2.len
      refine op_catA pins s σ H _ _ v u Q I rx ry ⟨a, a2, vs, ws, rfl, rfl, t1, t2, by rw [bigN_eq, ← e1, ← e2]; exact hz, fun h0 => ?_, fun h0 h3 => ?_, fun _ _ => after_tup r (l1.append l2) q⟩
      · subst h0
        have : xs = [] := List.length_eq_zero_iff.mp e1
        subst this
        exact q ρ H _ Ext.refl r ⟨a2, ws, rfl, t2, l2⟩
      · subst h3
        have : ys = [] := List.length_eq_zero_iff.mp e2
        subst this
        exact q ρ H _ Ext.refl r ⟨a, vs, rfl, t1, by rw [List.append_nil]; exact l1⟩
    · cases e
  · split at e
    · rename_i xs ys q1 q2
      split at e
      · rename_i hz
        obtain ⟨a, vs, rfl, t1, l1⟩ := lstOf_rep r h1 q1
        obtain ⟨a2, ws, rfl, t2, l2⟩ := lstOf_rep r h2 q2
        exact op_cat pins s σ H _ _ v u Q I rx ry ⟨a, a2, vs, ws, rfl, rfl, t1, t2, by rw [bigN_eq, ← l1.len, ← l2.len]; exact hz, after_lst r (l1.append l2) (Option.some.inj e) q⟩
      · cases e
    · cases e
theorem sim_sub : SimO X B (binaryOp .Sub) subO := by
  rintro pins s σ H vx vy v u Q I rx ry ⟨ρ, st, x, y, d, st', r, h1, h2, e, q⟩
  unfold subO at e
  split at e
  · rename_i i j
    cases e
    cases h1; cases h2
    exact op_sub pins s σ H _ _ v u Q I rx ry ⟨i, j, rfl, rfl, q ρ H _ Ext.refl r rfl⟩
  · cases e
theorem RVs.rep {K : PySem.W.Frag} {ρ : Rho} {H : Hp} {xs : List D} {vs : List V} (h : RVs K B ρ H xs vs) : ∀ k : Nat, RVs K B ρ H (List.replicate k xs).flatten (List.replicate k vs).flatten
  | 0 => rfl
  | k + 1 => by
    rw [List.replicate_succ, List.replicate_succ, List.flatten_cons, List.flatten_cons]
    exact h.append (RVs.rep h k)
theorem sim_mul (b : Bool) : SimO X B (binaryOp .Mult) (mulO b) := by
  rintro pins s σ H vx vy v u Q I rx ry ⟨ρ, st, x, y, d, st', r, h1, h2, e, q⟩
  unfold mulO at e
  split at e
  · rename_i i j
    split at e
    · rename_i hc
      cases e
      cases h1; cases h2
      refine op_mul pins s σ H _ _ v u Q I rx ry ⟨i, j, rfl, rfl, ?_, q ρ H _ Ext.refl r rfl⟩
      simp only [smallI, Bool.or_eq_true, Bool.and_eq_true, decide_eq_true_eq] at hc
      exact hc
    · cases e
  · rename_i k _
    split at e
    · rename_i xs q1
      split at e
      · rename_i hz
        obtain ⟨a, vs, rfl, t1, l1⟩ := lstOf_rep r h1 q1
        cases h2
        exact op_rep pins s σ H _ _ v u Q I rx ry ⟨a, k, vs, rfl, rfl, t1, hz.1, hz.2.1, by rw [bigN_eq, ← l1.len]; exact hz.2.2, after_lst r (l1.rep k.toNat) (Option.some.inj e) q⟩
      · cases e
    · cases e
  · cases e
theorem sim_fdiv : SimO X B (binaryOp .FloorDiv) fdivO := by
  rintro pins s σ H vx vy v u Q I rx ry ⟨ρ, st, x, y, d, st', r, h1, h2, e, q⟩
  unfold fdivO at e
  split at e
  · rename_i i j
    split at e
    · rename_i hc
      cases e
      cases h1; cases h2
      exact op_fdivN pins s σ H _ _ v u Q I rx ry ⟨i, j, rfl, rfl, hc, q ρ H _ Ext.refl r rfl⟩
    · cases e
  · cases e
theorem sim_mod : SimO X B (binaryOp .Mod) modO := by
  rintro pins s σ H vx vy v u Q I rx ry ⟨ρ, st, x, y, d, st', r, h1, h2, e, q⟩
  unfold modO at e
  split at e
  · rename_i i j
    split at e
    · rename_i hc
      cases e
      cases h1; cases h2
      exact op_modN pins s σ H _ _ v u Q I rx ry ⟨i, j, rfl, rfl, hc, q ρ H _ Ext.refl r rfl⟩
    · cases e
  · cases e
theorem sim_pow : SimO X B (binaryOp .Pow) powO := by
  rintro pins s σ H vx vy v u Q I rx ry ⟨ρ, st, x, y, d, st', r, h1, h2, e, q⟩
  unfold powO at e
  split at e
  · rename_i i j
    split at e
    · rename_i hc
      cases e
      cases h1; cases h2
      exact op_pow pins s σ H _ _ v u Q I rx ry ⟨i, j, rfl, rfl, hc, q ρ H _ Ext.refl r rfl⟩
    · cases e
  · cases e
theorem sim_cmp {f : Value → Value → Sem Value} {p : Int → Int → Bool} (h : OpR X f (rI0 fun i j => .bl (p i j))) : SimO X B f (cmpO p) := by
  rintro pins s σ H vx vy v u Q I rx ry ⟨ρ, st, x, y, d, st', r, h1, h2, e, q⟩
  unfold cmpO at e
  split at e
  · rename_i i j
    cases e
    cases h1; cases h2
    exact h pins s σ H _ _ v u Q I rx ry ⟨i, j, rfl, rfl, q ρ H _ Ext.refl r rfl⟩
  · cases e
theorem sim_is : SimO X B (compareOp .Is) isO := by
  rintro pins s σ H vx vy v u Q I rx ry ⟨ρ, st, x, y, d, st', r, h1, h2, e, q⟩
  unfold isO at e
  split at e
  · split at e
    · rename_i hc
      cases e
      cases h2
      refine op_isN pins s σ H _ _ v u Q I rx ry ⟨rfl, ?_⟩
      rw [isNone_v hc h1]
      exact q ρ H _ Ext.refl r rfl
    · cases e
  · cases e
theorem sim_isNot : SimO X B (compareOp .IsNot) isNotO := by
  rintro pins s σ H vx vy v u Q I rx ry ⟨ρ, st, x, y, d, st', r, h1, h2, e, q⟩
  unfold isNotO at e
  split at e
  · split at e
    · rename_i hc
      cases e
      cases h2
      refine op_notN pins s σ H _ _ v u Q I rx ry ⟨rfl, ?_⟩
      rw [isNone_v hc h1]
      exact q ρ H _ Ext.refl r rfl
    · cases e
  · cases e
end
/-! ### one-place operators, truth -/
def negM : D → Option D
  | .int i => some (.int (-i))
  | _ => none
/-- a value's truth -/
def truO (st : Store) : D → Option Bool
  | .non => some false
  | .bl b => some b
  | .int i => some (i != 0)
  | .tup xs => some (!xs.isEmpty)
  | .fro xs => some (!xs.isEmpty)
  | .lst xs => some (!xs.isEmpty)
  | .dct ks _ => some (!ks.isEmpty)
  | .ref n => (match st[n]? with
    | some (.lst xs) => some (!xs.isEmpty)
    | some (.dct ks _) => some (!ks.isEmpty)
    | none => none)
  | _ => none
theorem isEmpty_len {α β : Type} {l : List α} {m : List β} (h : l.length = m.length) : l.isEmpty = m.isEmpty := by
  cases l <;> cases m <;> simp_all
section
variable {K : PySem.W.Frag} {B : Tb} {ρ : Rho} {H : Hp} {st : Store}
theorem keys_len {ks : List DK} {kvs : List (Key × V)} (h : ks.map (keyD B.T) = kvs.map (fun q => some q.1)) : ks.length = kvs.length := by
  have := congrArg List.length h
  simpa using this
theorem truO_tru {d : D} {v : V} {b : Bool} (r : Rep K B ρ H st) (h : RV K B ρ H d v) (e : truO st d = some b) : TruV K v H b := by
  cases d with
  | non => cases e; cases h; exact rfl
  | bl _ => cases e; cases h; exact rfl
  | int _ => cases e; cases h; exact rfl
  | sym k => cases e
  | con k => cases e
  | ty k => cases e
  | tup xs =>
    cases e
    obtain ⟨a, vs, rfl, h2, h3⟩ := h
    exact .inr (.inl ⟨vs, h2, by rw [isEmpty_len h3.len]⟩)
  | fro xs =>
    cases e
    obtain ⟨a, vs, rfl, h2, h3⟩ := h
    exact .inl ⟨vs, h2.sq, by rw [isEmpty_len h3.len]⟩
  | lst xs =>
    cases e
    obtain ⟨a, vs, rfl, h2, _, h3⟩ := h
    exact .inl ⟨vs, .inl (.inl h2), by rw [isEmpty_len h3.len]⟩
  | dct ks xs =>
    cases e
    obtain ⟨a, kvs, rfl, h2, _, h3, _⟩ := h
    exact .inr (.inr ⟨kvs, h2, by rw [isEmpty_len (keys_len h3)]⟩)
  | ref n =>
    obtain ⟨a, rfl, h2⟩ := h
    simp only [truO] at e
    cases q : st[n]? with
    | none => simp only [q] at e; cases e
    | some o =>
      obtain ⟨a', h3, h4⟩ := r.obj n o q
      rw [h2] at h3
      cases h3
      cases o with
      | lst xs =>
        simp only [q] at e
        cases e
        obtain ⟨vs, h5, h6⟩ := h4
        exact .inl ⟨vs, .inl (.inl h5), by rw [isEmpty_len h6.len]⟩
      | dct ks xs =>
        simp only [q] at e
        cases e
        obtain ⟨kvs, h5, h6, _⟩ := h4
        exact .inr (.inr ⟨kvs, h5, by rw [isEmpty_len (keys_len h6)]⟩)
end
/-! ### dicts -/
def dctOf (st : Store) : D → Option (List DK × List D)
  | .dct ks xs => some (ks, xs)
  | .ref n => (match st[n]? with
    | some (.dct ks xs) => some (ks, xs)
    | _ => none)
  | _ => none
def dkOf : D → Option DK
  | .int i => some (.i i)
  | .sym k => some (.s k)
  | _ => none
/-- what stands at the key -/
def dget : List DK → List D → DK → Option D
  | k :: ks, x :: xs, j => if k = j then some x else dget ks xs j
  | _, _, _ => none
def dsubst : List DK → List D → DK → D → List D
  | k :: ks, x :: xs, j, y => (if k = j then y else x) :: dsubst ks xs j y
  | _, _, _, _ => []
def dput (ks : List DK) (xs : List D) (j : DK) (y : D) : List DK × List D := if j ∈ ks then (ks, dsubst ks xs j y) else (ks ++ [j], xs ++ [y])
section
variable {K : PySem.W.Frag} {B : Tb} {ρ : Rho} {H : Hp} {st : Store}
theorem dctOf_rep {d : D} {v : V} {ks : List DK} {xs : List D} (r : Rep K B ρ H st) (h : RV K B ρ H d v) (e : dctOf st d = some (ks, xs)) : ∃ a kvs, v = .ref a ∧ H a = some (.dK kvs) ∧ ks.map (keyD B.T) = kvs.map (fun q => some q.1) ∧ RVs K B ρ H xs (kvs.map (·.2)) := by
  cases d with
  | dct ks' ys =>
    cases e
    obtain ⟨a, kvs, h1, h2, _, h4, h5⟩ := h
    exact ⟨a, kvs, h1, h2, h4, h5⟩
  | ref n =>
    obtain ⟨a, h1, h2⟩ := h
    unfold dctOf at e
    cases q : st[n]? with
    | none => simp only [q] at e; cases e
    | some o =>
      obtain ⟨b, h3, h4⟩ := r.obj n o q
      rw [h2] at h3
      cases h3
      cases o with
      | lst ys => simp only [q] at e; cases e
      | dct ks' ys =>
        simp only [q] at e
        cases e
        obtain ⟨kvs, h5, h6, h7⟩ := h4
        exact ⟨a, kvs, h1, h5, h6, h7⟩
  | _ => cases e
theorem dkOf_rep {d : D} {v : V} {k : DK} (h : RV K B ρ H d v) (e : dkOf d = some k) : ∃ key, keyD B.T k = some key ∧ v = kV key := by
  cases d with
  | int i => cases e; cases h; exact ⟨.inl i, rfl, rfl⟩
  | sym j =>
    cases e
    obtain ⟨s, e1, rfl⟩ := h
    exact ⟨.inr s, by show (B.T[j]?).map Sum.inr = _; rw [e1]; rfl, rfl⟩
  | _ => cases e
theorem keyD_inj (ok : B.Ok) {a b : DK} {k : Key} (ha : keyD B.T a = some k) (hb : keyD B.T b = some k) : a = b := by
  cases a with
  | i n =>
    cases ha
    cases b with
    | i m => cases hb; rfl
    | s m =>
      simp only [keyD, Option.map_eq_some_iff] at hb
      obtain ⟨_, _, e⟩ := hb
      cases e
  | s n =>
    simp only [keyD, Option.map_eq_some_iff] at ha
    obtain ⟨s, e1, rfl⟩ := ha
    cases b with
    | i m => cases hb
    | s m =>
      simp only [keyD, Option.map_eq_some_iff] at hb
      obtain ⟨s', e2, e3⟩ := hb
      cases e3
      obtain ⟨h1, q1⟩ := List.getElem?_eq_some_iff.mp e1
      obtain ⟨h2, q2⟩ := List.getElem?_eq_some_iff.mp e2
      rw [(List.getElem_inj ok.nd).mp (q1.trans q2.symm)]
theorem dget_rep (ok : B.Ok) {j : DK} {key : Key} (hj : keyD B.T j = some key) : ∀ {ks : List DK} {xs : List D} {kvs : List (Key × V)}, ks.map (keyD B.T) = kvs.map (fun q => some q.1) → RVs K B ρ H xs (kvs.map (·.2)) →
    (∀ d, dget ks xs j = some d → ∃ v, valV kvs key = some v ∧ RV K B ρ H d v) ∧ (dget ks xs j = none → valV kvs key = none)
  | [], xs, kvs, h1, h2 => by
    cases kvs with
    | nil => exact ⟨fun d e => by simp [dget] at e, fun _ => rfl⟩
    | cons q r => cases h1
  | k :: ks, [], kvs, h1, h2 => by
    cases kvs with
    | nil => cases h1
    | cons q r => cases h2
  | k :: ks, x :: xs, kvs, h1, h2 => by
    cases kvs with
    | nil => cases h1
    | cons q r =>
      obtain ⟨qk, qv⟩ := q
      obtain ⟨e1, e2⟩ := List.cons.inj (show keyD B.T k :: ks.map (keyD B.T) = some qk :: r.map (fun q => some q.1) from h1)
      obtain ⟨v, vr, e3, e4, e5⟩ := h2
      obtain ⟨e6, e7⟩ := List.cons.inj e3
      subst e6 e7
      by_cases hk : k = j
      · subst hk
        have : qk = key := Option.some.inj (e1.symm.trans hj)
        subst this
        refine ⟨fun d e => ?_, fun e => ?_⟩
        · simp [dget] at e
          subst e
          exact ⟨qv, valV_pos rfl, e4⟩
        · simp [dget] at e
      · have hne : ¬ qk = key := fun z => hk (keyD_inj ok e1 (z ▸ hj))
        have ih := dget_rep ok hj e2 e5
        rw [valV_neg (p := (qk, qv)) (r := r) (k := key) hne]
        simp only [dget, if_neg hk]
        exact ih
theorem dsubst_rep (ok : B.Ok) {j : DK} {key : Key} {y : D} {w : V} (hj : keyD B.T j = some key) (hy : RV K B ρ H y w) : ∀ {ks : List DK} {xs : List D} {kvs : List (Key × V)}, ks.map (keyD B.T) = kvs.map (fun q => some q.1) → RVs K B ρ H xs (kvs.map (·.2)) →
    RVs K B ρ H (dsubst ks xs j y) ((kvs.map fun kv => if kv.1 = key then (kv.1, w) else kv).map (·.2))
  | [], xs, kvs, h1, h2 => by
    cases kvs with
    | nil => exact rfl
    | cons q r => cases h1
  | k :: ks, [], kvs, h1, h2 => by
    cases kvs with
    | nil => cases h1
    | cons q r => cases h2
  | k :: ks, x :: xs, kvs, h1, h2 => by
    cases kvs with
    | nil => cases h1
    | cons q r =>
      obtain ⟨qk, qv⟩ := q
      obtain ⟨e1, e2⟩ := List.cons.inj (show keyD B.T k :: ks.map (keyD B.T) = some qk :: r.map (fun q => some q.1) from h1)
      obtain ⟨v, vr, e3, e4, e5⟩ := h2
      obtain ⟨e6, e7⟩ := List.cons.inj e3
      subst e6 e7
      have ih := dsubst_rep ok hj hy e2 e5
      by_cases hk : k = j
      · subst hk
        have : qk = key := Option.some.inj (e1.symm.trans hj)
        subst this
        refine ⟨w, _, ?_, by simp only [if_true]; exact hy, ih⟩
        simp
      · have hne : ¬ qk = key := fun z => hk (keyD_inj ok e1 (z ▸ hj))
        refine ⟨qv, _, ?_, by simp only [if_neg hk]; exact e4, ih⟩
        simp [hne]
theorem any_key (ok : B.Ok) {j : DK} {key : Key} (hj : keyD B.T j = some key) : ∀ {ks : List DK} {kvs : List (Key × V)}, ks.map (keyD B.T) = kvs.map (fun q => some q.1) → ((kvs.any fun kv => decide (kv.1 = key)) = true ↔ j ∈ ks)
  | [], kvs, h1 => by
    cases kvs with
    | nil => simp
    | cons q r => cases h1
  | k :: ks, kvs, h1 => by
    cases kvs with
    | nil => cases h1
    | cons q r =>
      obtain ⟨e1, e2⟩ := List.cons.inj (show keyD B.T k :: ks.map (keyD B.T) = some q.1 :: r.map (fun q => some q.1) from h1)
      have ih := any_key ok hj e2
      rw [List.any_cons, Bool.or_eq_true, ih, List.mem_cons, decide_eq_true_eq]
      constructor
      · rintro (h | h)
        · exact .inl (keyD_inj ok hj (h ▸ e1))
        · exact .inr h
      · rintro (h | h)
        · subst h
          exact .inl (Option.some.inj (e1.symm.trans hj))
        · exact .inr h
theorem keys_put {kvs : List (Key × V)} {key : Key} {w : V} : (kvs.map fun kv => if kv.1 = key then (kv.1, w) else kv).map (fun q => some q.1) = kvs.map (fun q => some q.1) := by
  rw [List.map_map]
  refine List.map_congr_left fun q _ => ?_
  show some (if q.1 = key then (q.1, w) else q).1 = some q.1
  split <;> rfl
theorem dput_rep (ok : B.Ok) {j : DK} {key : Key} {y : D} {w : V} (hj : keyD B.T j = some key) (hy : RV K B ρ H y w) {ks : List DK} {xs : List D} {kvs : List (Key × V)} (h1 : ks.map (keyD B.T) = kvs.map (fun q => some q.1)) (h2 : RVs K B ρ H xs (kvs.map (·.2))) :
    (dput ks xs j y).1.map (keyD B.T) = (putK kvs key w).map (fun q => some q.1) ∧ RVs K B ρ H (dput ks xs j y).2 ((putK kvs key w).map (·.2)) := by
  unfold dput putK
  by_cases hm : j ∈ ks
  · rw [if_pos hm, if_pos ((any_key ok hj h1).mpr hm)]
    exact ⟨by rw [keys_put]; exact h1, dsubst_rep ok hj hy h1 h2⟩
  · rw [if_neg hm, if_neg (fun z => hm ((any_key ok hj h1).mp z))]
    refine ⟨by simp [h1, hj], ?_⟩
    rw [List.map_append]
    exact h2.append ⟨w, [], rfl, hy, rfl⟩
end
end Mn
set_option Elab.async false
set_option linter.all false
set_option maxRecDepth 100000
set_option maxHeartbeats 2000000
set_option autoImplicit false
/-! Mn, part D: items, stores, slices, built-in calls, methods by values. -/
namespace Mn
open PySem PySem.Spec PyProof.Rows L2
/-! ### items -/
def ixO : Op2 := fun x y st => match seqOf st x, y with
  | some xs, .int i => (atI xs i).map fun d => (d, st)
  | _, _ => match dctOf st x, dkOf y with
    | some (ks, xs), some j => (dget ks xs j).map fun d => (d, st)
    | _, _ => none
section
variable {K : PySem.W.Frag} {B : Tb} {ρ : Rho} {H : Hp} {st : Store}
theorem RVs.atI {xs : List D} {vs : List V} {i : Int} {d : D} (h : RVs K B ρ H xs vs) (e : L2.atI xs i = some d) : ∃ v, L2.atI vs i = some v ∧ RV K B ρ H d v := by
  unfold L2.atI at e ⊢
  obtain ⟨j, e1, e2⟩ := Option.bind_eq_some_iff.mp e
  obtain ⟨v, e3, e4⟩ := h.get e2
  exact ⟨v, by rw [← h.len, e1]; exact e3, e4⟩
end
section
variable {X : Cx} {B : Tb}
theorem ix_dict (hu : X.A.units + 1 < cLine) : IxR X (fun x y H Q => ∃ a v, x = .ref a ∧ DGet H a y (some v) ∧ Q v H) := by
  intro value slice pins s σ H x y v u Q I rx ry h hs
  obtain ⟨a, w, rfl, g, q⟩ := h
  cases rx
  have hT := dict_typeIs I g
  unfold subscriptTail
  refine wpAny_bind ?_
  rw [getitemInPython_of_ne hT.not_modules]
  refine wpAny_bind (wpAny_specialOf hT PySem.F.slot_dict_getitem.lookup ?_)
  have fin : wpAny (model X.prog X.w) X.A (subscripted slice false (.ref a) u) (fun r s₃ => wpAny (model X.prog X.w) X.A (letTemporaryGo value (.ref a) r >>= fun _ => pure r) (EP X pins σ Q) X.xe s₃) X.xe s := by
    rw [hs]
    exact wpAny_operating (d_getItem hu I g ry fun w' s3 I3 rw' => wpAny_bind (wpAny_letTemporaryGo (wpAny_pure ⟨w, H, I3, rw', q⟩)))
  first
    | exact wpAny_pure (wpAny_bind fin)
    | exact wpAny_bind (wpAny_pure (wpAny_bind fin))
    | exact wpAny_bind fin
theorem sim_ix (O : OCx X B) : IxR X (ROm X.K B ixO) := by
  rintro value slice pins s σ H vx vy v u Q I rx ry ⟨ρ, st, x, y, d, st', r, h1, h2, e, q⟩ hs
  unfold ixO at e
  split at e
  · rename_i xs i ex
    obtain ⟨d', e1, e⟩ := Option.map_eq_some_iff.mp e
    cases e
    cases h2
    obtain ⟨a, vs, rfl, hsq, hv⟩ := seqOf_rep r h1 ex
    obtain ⟨w, e2, e3⟩ := hv.atI e1
    rcases hsq with hsq | hsq
    · exact ix_list value slice pins s σ H _ _ v u Q I rx ry ⟨a, vs, i, w, rfl, rfl, hsq, e2, q ρ H _ Ext.refl r e3⟩ hs
    · exact ix_tup value slice pins s σ H _ _ v u Q I rx ry ⟨a, vs, i, w, rfl, rfl, hsq, e2, q ρ H _ Ext.refl r e3⟩ hs
  · split at e
    · rename_i ks xs j ex ey
      obtain ⟨d', e1, e⟩ := Option.map_eq_some_iff.mp e
      cases e
      obtain ⟨a, kvs, rfl, ha, hk, hv⟩ := dctOf_rep r h1 ex
      obtain ⟨key, ek, rfl⟩ := dkOf_rep h2 ey
      obtain ⟨w, e2, e3⟩ := (dget_rep O.b ek hk hv).1 d e1
      have g : DGet H a (kV key) (some w) := by rw [← e2]; exact DGet.k ha
      exact ix_dict (by have := O.u; omega) value slice pins s σ H _ _ v u Q I rx ry ⟨a, w, rfl, g, q ρ H _ Ext.refl r e3⟩ hs
    · cases e
/-! ### o[i] = v -/
abbrev SetM := D → D → D → Store → Option Store
def TSetm (K : PySem.W.Frag) (B : Tb) (f : SetM) : TSet := fun vo vi vv H Q => ∃ ρ st o i v st', Rep K B ρ H st ∧ RV K B ρ H o vo ∧ RV K B ρ H i vi ∧ RV K B ρ H v vv ∧ f o i v st = some st' ∧ ∀ ρ' H', Ext K ρ H ρ' H' → Rep K B ρ' H' st' → Q H'
def setO : SetM := fun o i v st => match o with
  | .ref n => (match st[n]? with
    | some (.lst xs) => (match i with
      | .int k => (ixN xs.length k).map fun j => st.set n (.lst (xs.set j v))
      | _ => none)
    | some (.dct ks xs) => (match dkOf i with
      | some j => if ks.length < bigN then some (st.set n (.dct (dput ks xs j v).1 (dput ks xs j v).2)) else none
      | none => none)
    | none => none)
  | _ => none
theorem sim_setItem (O : OCx X B) : PSet X (TSetm X.K B setO) := by
  rintro pins s σ H vo vi vv ov iv u Q I ro ri rv ⟨ρ, st, o, i, v, st', r, h1, h2, h3, e, q⟩
  unfold setO at e
  split at e
  · rename_i n
    obtain ⟨a, rfl, hn⟩ := h1
    split at e
    · rename_i xs q1
      obtain ⟨a', e1, vs, e2, e3⟩ := r.obj n _ q1
      rw [hn] at e1
      cases e1
      split at e
      · rename_i k
        obtain ⟨j, ej, e⟩ := Option.map_eq_some_iff.mp e
        cases e
        cases h2
        refine set_list pins s σ H _ _ _ ov iv u Q I ro ri rv ⟨a, vs, k, j, rfl, rfl, e2, by rw [← e3.len]; exact ej, ?_⟩
        exact q ρ _ (Ext.write r hn) (r.write hn ⟨_, upd_same, (e3.set j h3).mono (Ext.write r hn)⟩)
      · cases e
    · rename_i ks xs q1
      obtain ⟨a', e1, kvs, e2, e3, e4⟩ := r.obj n _ q1
      rw [hn] at e1
      cases e1
      split at e
      · rename_i j ej
        split at e
        · rename_i hl
          cases e
          obtain ⟨key, ek, rfl⟩ := dkOf_rep h2 ej
          obtain ⟨p1, p2⟩ := dput_rep O.b ek h3 e3 e4
          cases ro
          refine d_setItem (by have := O.u; omega) I (DPut.k (k := key) (v := vv) e2 (by rw [bigN_eq, ← keys_len e3]; exact hl)) ri rv fun s4 I4 => ⟨_, I4, ?_⟩
          exact q ρ _ (Ext.write r hn) (r.write hn ⟨_, upd_same, p1, p2.mono (Ext.write r hn)⟩)
        · cases e
      · cases e
    · cases e
  · cases e
/-! ### slices -/
def cutL (xs : List D) (lo hi : Option Int) : List D := (xs.drop (HT.sIx xs.length 0 lo)).take (HT.sIx xs.length xs.length hi - HT.sIx xs.length 0 lo)
theorem RVs.cut {K : PySem.W.Frag} {ρ : Rho} {H : Hp} {xs : List D} {vs : List V} (h : RVs K B ρ H xs vs) (lo hi : Option Int) : RVs K B ρ H (cutL xs lo hi) (cutV vs lo hi) := by
  unfold cutL cutV
  rw [← h.len]
  exact (h.drop _).take _
abbrev SlM := D → Option Int → Option Int → Store → Option (D × Store)
def RSlm (K : PySem.W.Frag) (B : Tb) (m : SlM) : V → Option Int → Option Int → Hp → VK → Prop := fun vx lo hi H Q => ∃ ρ st x d st', Rep K B ρ H st ∧ RV K B ρ H x vx ∧ m x lo hi st = some (d, st') ∧ After K B (RV K B) ρ H d st' Q
def slO (b : Bool) : SlM := fun x lo hi st => match x with
  | .tup xs => some (.tup (cutL xs lo hi), st)
  | x => (lstFOf st x).map fun xs => mkL b (cutL xs lo hi) st
theorem cut_whole {α : Type} {xs : List α} {lo hi : Option Int} (h : HT.sIx xs.length 0 lo = 0 ∧ HT.sIx xs.length xs.length hi = xs.length) : (xs.drop (HT.sIx xs.length 0 lo)).take (HT.sIx xs.length xs.length hi - HT.sIx xs.length 0 lo) = xs := by
  rw [h.1, h.2]
  simp
theorem sim_sl (b : Bool) : SlR X (RSlm X.K B (slO b)) := by
  rintro pins s σ H vx v vl vu lo hi sl Q I rx hs pl pu ⟨ρ, st, x, d, st', r, h1, e, q⟩
  unfold slO at e
  split at e
  · rename_i xs
    cases e
    obtain ⟨a, vs, rfl, t1, l1⟩ := h1
    refine sl_tupA pins s σ H _ v vl vu lo hi sl Q I rx hs pl pu ⟨a, vs, rfl, t1, fun hw => ?_, fun _ => after_tup r (l1.cut lo hi) q⟩
    have : cutL xs lo hi = xs := cut_whole (by rw [l1.len]; exact hw)
    rw [this] at q
    exact q ρ H _ Ext.refl r ⟨a, vs, rfl, t1, l1⟩
  · obtain ⟨xs, ex, e⟩ := Option.map_eq_some_iff.mp e
    obtain ⟨a, vs, rfl, t1, l1⟩ := lstFOf_rep r h1 ex
    exact sl_list pins s σ H _ v vl vu lo hi sl Q I rx hs pl pu ⟨a, vs, rfl, t1, after_lst r (l1.cut lo hi) e q⟩
/-! ### calls of built-ins, by values -/
abbrev CM := List D → Store → Option (D × Store)
def RCm (K : PySem.W.Frag) (B : Tb) (m : CM) : List V → Hp → VK → Prop := fun vs H Q => ∃ ρ st ds d st', Rep K B ρ H st ∧ RVs K B ρ H ds vs ∧ m ds st = some (d, st') ∧ After K B (RV K B) ρ H d st' Q
abbrev SimC (X : Cx) (B : Tb) (f : Value) (m : CM) : Prop := CallR X f (RCm X.K B m)
/-- a one-argument call, the store as it stands -/
def one (f : Store → D → Option D) : CM := fun ds st => match ds with
  | [x] => (f st x).map fun d => (d, st)
  | _ => none
theorem one_some {f : Store → D → Option D} {ds : List D} {st : Store} {d : D} {st' : Store} (h : one f ds st = some (d, st')) : ∃ x, ds = [x] ∧ f st x = some d ∧ st' = st := by
  unfold one at h
  split at h
  · rename_i x
    obtain ⟨d', e1, e2⟩ := Option.map_eq_some_iff.mp h
    cases e2
    exact ⟨x, rfl, e1, rfl⟩
  · cases h
def lenF (st : Store) (x : D) : Option D := match seqOf st x with
  | some xs => some (.int xs.length)
  | none => (dctOf st x).map fun q => .int q.1.length
theorem sim_len : SimC X B (.builtin "len") (one lenF) := by
  rintro pins s σ H vs us Q I ru ⟨ρ, st, ds, d, st', r, h1, e, q⟩
  obtain ⟨x, rfl, e1, rfl⟩ := one_some e
  obtain ⟨v, rfl, rv⟩ := h1.one
  unfold lenF at e1
  split at e1
  · rename_i xs ex
    cases e1
    obtain ⟨a, ws, rfl, hs, hw⟩ := seqOf_rep r rv ex
    refine call_len_seq pins s σ H _ us Q I ru ⟨a, ws, rfl, hs, ?_⟩
    rw [← hw.len]
    exact q ρ H _ Ext.refl r rfl
  · obtain ⟨⟨ks, xs⟩, ex, rfl⟩ := Option.map_eq_some_iff.mp e1
    obtain ⟨a, kvs, rfl, ha, hk, hv⟩ := dctOf_rep r rv ex
    obtain ⟨u, rfl, r1⟩ := vals1 ru
    cases r1
    refine d_len I (.inl ha) fun t s' I' => ⟨.int kvs.length, H, I', ⟨t, rfl⟩, ?_⟩
    rw [← keys_len hk]
    exact q ρ H _ Ext.refl r rfl
def intF (_ : Store) (x : D) : Option D := match x with
  | .int i => some (.int i)
  | .bl k => some (.int (if k then 1 else 0))
  | _ => none
theorem sim_int : SimC X B (.type "int") (one intF) := by
  rintro pins s σ H vs us Q I ru ⟨ρ, st, ds, d, st', r, h1, e, q⟩
  obtain ⟨x, rfl, e1, rfl⟩ := one_some e
  obtain ⟨v, rfl, rv⟩ := h1.one
  unfold intF at e1
  split at e1
  · cases e1; cases rv
    exact call_int1 pins s σ H _ us Q I ru (.inl ⟨_, rfl, q ρ H _ Ext.refl r rfl⟩)
  · cases e1; cases rv
    exact call_int1 pins s σ H _ us Q I ru (.inr ⟨_, rfl, q ρ H _ Ext.refl r rfl⟩)
  · cases e1
def absF (_ : Store) (x : D) : Option D := match x with
  | .int i => some (.int (if i < 0 then -i else i))
  | _ => none
theorem sim_abs : SimC X B (.builtin "abs") (one absF) := by
  rintro pins s σ H vs us Q I ru ⟨ρ, st, ds, d, st', r, h1, e, q⟩
  obtain ⟨x, rfl, e1, rfl⟩ := one_some e
  obtain ⟨v, rfl, rv⟩ := h1.one
  unfold absF at e1
  split at e1
  · cases e1; cases rv
    exact call_abs pins s σ H _ us Q I ru ⟨_, rfl, q ρ H _ Ext.refl r rfl⟩
  · cases e1
def max2C : CM := fun ds st => match ds with
  | [.int i, .int j] => some (.int (if j > i then j else i), st)
  | _ => none
def min2C : CM := fun ds st => match ds with
  | [.int i, .int j] => some (.int (if j < i then j else i), st)
  | _ => none
theorem sim_max2 (hc : X.calm = true) : SimC X B (.builtin "max") max2C := by
  rintro pins s σ H vs us Q I ru ⟨ρ, st, ds, d, st', r, h1, e, q⟩
  unfold max2C at e
  split at e
  · cases e
    obtain ⟨v, u, rfl, r1, r2⟩ := h1.two
    cases r1; cases r2
    exact call_max2 hc pins s σ H _ us Q I ru ⟨_, _, rfl, q ρ H _ Ext.refl r rfl⟩
  · cases e
theorem sim_min2 (hc : X.calm = true) : SimC X B (.builtin "min") min2C := by
  rintro pins s σ H vs us Q I ru ⟨ρ, st, ds, d, st', r, h1, e, q⟩
  unfold min2C at e
  split at e
  · cases e
    obtain ⟨v, u, rfl, r1, r2⟩ := h1.two
    cases r1; cases r2
    exact call_min2 hc pins s σ H _ us Q I ru ⟨_, _, rfl, q ρ H _ Ext.refl r rfl⟩
  · cases e
def listC (b : Bool) : CM := fun ds st => match ds with
  | [x] => (seqOf st x).map fun xs => mkL b xs st
  | _ => none
theorem sim_list (b : Bool) : SimC X B (.type "list") (listC b) := by
  rintro pins s σ H vs us Q I ru ⟨ρ, st, ds, d, st', r, h1, e, q⟩
  unfold listC at e
  split at e
  · obtain ⟨xs, ex, e⟩ := Option.map_eq_some_iff.mp e
    obtain ⟨v, rfl, rv⟩ := h1.one
    obtain ⟨a, ws, rfl, hs, hw⟩ := seqOf_rep r rv ex
    exact call_list_of pins s σ H _ us Q I ru ⟨a, ws, rfl, hs, after_lst r hw e q⟩
  · cases e
def tupleC : CM := fun ds st => match ds with
  | [.tup xs] => some (.tup xs, st)
  | [x] => (lstFOf st x).map fun xs => (.tup xs, st)
  | _ => none
theorem sim_tuple : SimC X B (.type "tuple") tupleC := by
  rintro pins s σ H vs us Q I ru ⟨ρ, st, ds, d, st', r, h1, e, q⟩
  unfold tupleC at e
  split at e
  · cases e
    obtain ⟨v, rfl, rv⟩ := h1.one
    obtain ⟨a, ws, rfl, hs, hw⟩ := rv
    exact call_tuple_of pins s σ H _ us Q I ru ⟨a, ws, rfl, .inr ⟨hs, q ρ H _ Ext.refl r ⟨a, ws, rfl, hs, hw⟩⟩⟩
  · obtain ⟨xs, ex, e⟩ := Option.map_eq_some_iff.mp e
    cases e
    obtain ⟨v, rfl, rv⟩ := h1.one
    obtain ⟨a, ws, rfl, hs, hw⟩ := lstFOf_rep r rv ex
    exact call_tuple_of pins s σ H _ us Q I ru ⟨a, ws, rfl, .inl ⟨hs, after_tup r hw q⟩⟩
  · cases e
/-- the ints of a list -/
def intsOf : List D → Option (List Int)
  | [] => some []
  | .int i :: r => (intsOf r).map (i :: ·)
  | _ => none
theorem intsOf_eq : ∀ {xs : List D} {ns : List Int}, intsOf xs = some ns → xs = ns.map D.int
  | [], ns, h => by cases h; rfl
  | .int i :: r, ns, h => by
    obtain ⟨ms, e1, rfl⟩ := Option.map_eq_some_iff.mp (show (intsOf r).map (i :: ·) = some ns from h)
    rw [intsOf_eq e1]; rfl
  | .non :: _, _, h => by cases h
  | .bl _ :: _, _, h => by cases h
  | .sym _ :: _, _, h => by cases h
  | .tup _ :: _, _, h => by cases h
  | .lst _ :: _, _, h => by cases h
  | .fro _ :: _, _, h => by cases h
  | .dct _ _ :: _, _, h => by cases h
  | .ref _ :: _, _, h => by cases h
  | .con _ :: _, _, h => by cases h
  | .ty _ :: _, _, h => by cases h
theorem intsOf_map : ∀ ns : List Int, intsOf (ns.map D.int) = some ns
  | [] => rfl
  | n :: ns => by simp [intsOf, intsOf_map ns]
theorem RVs.ints {K : PySem.W.Frag} {ρ : Rho} {H : Hp} : ∀ {ns : List Int} {vs : List V}, RVs K B ρ H (ns.map D.int) vs → vs = ns.map V.int
  | [], vs, h => h
  | n :: ns, vs, h => by
    obtain ⟨v, vr, rfl, h1, h2⟩ := h
    cases h1
    rw [RVs.ints h2]; rfl
theorem RVs.of_ints {K : PySem.W.Frag} {ρ : Rho} {H : Hp} : ∀ (ns : List Int), RVs K B ρ H (ns.map D.int) (ns.map V.int)
  | [] => rfl
  | n :: ns => ⟨.int n, _, rfl, rfl, RVs.of_ints ns⟩
def sumF (st : Store) (x : D) : Option D := match lstOf st x with
  | some xs => (intsOf xs).map fun ns => .int ns.sum
  | none => none
theorem sim_sum (hc : X.calm = true) : SimC X B (.builtin "sum") (one sumF) := by
  rintro pins s σ H vs us Q I ru ⟨ρ, st, ds, d, st', r, h1, e, q⟩
  obtain ⟨x, rfl, e1, rfl⟩ := one_some e
  obtain ⟨v, rfl, rv⟩ := h1.one
  unfold sumF at e1
  split at e1
  · rename_i xs ex
    obtain ⟨ns, e2, rfl⟩ := Option.map_eq_some_iff.mp e1
    obtain ⟨a, ws, rfl, hs, hw⟩ := lstOf_rep r rv ex
    rw [intsOf_eq e2] at hw
    have := hw.ints
    subst this
    exact cr_sum hc pins s σ H _ us Q I ru ⟨a, ns, rfl, .inl (.inl hs), q ρ H _ Ext.refl r rfl⟩
  · cases e1
def blsOf : List D → Option (List Bool)
  | [] => some []
  | .bl i :: r => (blsOf r).map (i :: ·)
  | _ => none
theorem blsOf_eq : ∀ {xs : List D} {ns : List Bool}, blsOf xs = some ns → xs = ns.map D.bl
  | [], ns, h => by cases h; rfl
  | .bl i :: r, ns, h => by
    obtain ⟨ms, e1, rfl⟩ := Option.map_eq_some_iff.mp (show (blsOf r).map (i :: ·) = some ns from h)
    rw [blsOf_eq e1]; rfl
  | .non :: _, _, h => by cases h
  | .int _ :: _, _, h => by cases h
  | .sym _ :: _, _, h => by cases h
  | .tup _ :: _, _, h => by cases h
  | .lst _ :: _, _, h => by cases h
  | .fro _ :: _, _, h => by cases h
  | .dct _ _ :: _, _, h => by cases h
  | .ref _ :: _, _, h => by cases h
  | .con _ :: _, _, h => by cases h
  | .ty _ :: _, _, h => by cases h
theorem blsOf_map : ∀ ns : List Bool, blsOf (ns.map D.bl) = some ns
  | [] => rfl
  | n :: ns => by simp [blsOf, blsOf_map ns]
theorem RVs.bls {K : PySem.W.Frag} {ρ : Rho} {H : Hp} : ∀ {ns : List Bool} {vs : List V}, RVs K B ρ H (ns.map D.bl) vs → vs = ns.map V.bl
  | [], vs, h => h
  | n :: ns, vs, h => by
    obtain ⟨v, vr, rfl, h1, h2⟩ := h
    cases h1
    rw [RVs.bls h2]; rfl
def anyF (st : Store) (x : D) : Option D := match lstOf st x with
  | some xs => (blsOf xs).map fun ns => .bl (ns.any id)
  | none => none
def allF (st : Store) (x : D) : Option D := match lstOf st x with
  | some xs => (blsOf xs).map fun ns => .bl (ns.all id)
  | none => none
theorem sim_any (hc : X.calm = true) : SimC X B (.builtin "any") (one anyF) := by
  rintro pins s σ H vs us Q I ru ⟨ρ, st, ds, d, st', r, h1, e, q⟩
  obtain ⟨x, rfl, e1, rfl⟩ := one_some e
  obtain ⟨v, rfl, rv⟩ := h1.one
  unfold anyF at e1
  split at e1
  · rename_i xs ex
    obtain ⟨ns, e2, rfl⟩ := Option.map_eq_some_iff.mp e1
    obtain ⟨a, ws, rfl, hs, hw⟩ := lstOf_rep r rv ex
    rw [blsOf_eq e2] at hw
    have := hw.bls
    subst this
    exact cr_any hc pins s σ H _ us Q I ru ⟨a, ns, rfl, .inl (.inl hs), q ρ H _ Ext.refl r rfl⟩
  · cases e1
theorem sim_all (hc : X.calm = true) : SimC X B (.builtin "all") (one allF) := by
  rintro pins s σ H vs us Q I ru ⟨ρ, st, ds, d, st', r, h1, e, q⟩
  obtain ⟨x, rfl, e1, rfl⟩ := one_some e
  obtain ⟨v, rfl, rv⟩ := h1.one
  unfold allF at e1
  split at e1
  · rename_i xs ex
    obtain ⟨ns, e2, rfl⟩ := Option.map_eq_some_iff.mp e1
    obtain ⟨a, ws, rfl, hs, hw⟩ := lstOf_rep r rv ex
    rw [blsOf_eq e2] at hw
    have := hw.bls
    subst this
    exact cr_all hc pins s σ H _ us Q I ru ⟨a, ns, rfl, .inl (.inl hs), q ρ H _ Ext.refl r rfl⟩
  · cases e1
/-! isinstance -/
def tyName (st : Store) : D → Option String
  | .non => some "NoneType"
  | .bl _ => some "bool"
  | .int _ => some "int"
  | .sym _ => some "str"
  | .tup _ => some "tuple"
  | .lst _ => some "list"
  | .dct _ _ => some "dict"
  | .ref n => (match st[n]? with
    | some (.lst _) => some "list"
    | some (.dct _ _) => some "dict"
    | none => none)
  | _ => none
theorem tyName_rep {K : PySem.W.Frag} {ρ : Rho} {H : Hp} {st : Store} {d : D} {v : V} {n : String} (r : Rep K B ρ H st) (h : RV K B ρ H d v) (e : tyName st d = some n) : TyX K H v (.type n) := by
  cases d with
  | non => cases e; cases h; exact .base .non
  | bl b => cases e; cases h; exact .base (.bl b)
  | int i => cases e; cases h; exact .base (.int i)
  | sym k => cases e; obtain ⟨s, _, rfl⟩ := h; exact .base (.str s)
  | tup xs =>
    cases e
    obtain ⟨a, vs, rfl, (h2 | ⟨o, h2⟩) | h2, _⟩ := h
    · exact .base (.tup h2)
    · exact .fTuple h2
    · obtain ⟨o, its, n, k1, k2, _⟩ := h2
      exact .kTuple k1 k2
  | lst xs => cases e; obtain ⟨a, vs, rfl, h2, _⟩ := h; exact .base (.lst h2)
  | dct ks xs => cases e; obtain ⟨a, vs, rfl, h2, _⟩ := h; exact .base (.dK h2)
  | ref m =>
    obtain ⟨a, rfl, hm⟩ := h
    simp only [tyName] at e
    cases q : st[m]? with
    | none => simp only [q] at e; cases e
    | some o =>
      obtain ⟨a', h3, h4⟩ := r.obj m o q
      rw [hm] at h3
      cases h3
      cases o with
      | lst xs => simp only [q] at e; cases e; obtain ⟨vs, h5, _⟩ := h4; exact .base (.lst h5)
      | dct ks xs => simp only [q] at e; cases e; obtain ⟨vs, h5, _⟩ := h4; exact .base (.dK h5)
  | _ => cases e
/-- the answers that are known -/
def isiB (a b : String) : Option Bool :=
  if a = b then (if ["int", "str", "bool", "tuple", "list", "dict"].contains b then some true else none)
  else if a = "bool" ∧ b = "int" then some true
  else if ["NoneType", "int", "str", "bool", "tuple", "list", "dict"].contains a ∧ ["int", "str", "bool", "tuple", "list", "dict"].contains b then some false else none
theorem isiB_kit {a b : String} {r : Bool} (h : isiB a b = some r) : kitB a b = some r := by
  have hb : b ∈ ["int", "str", "bool", "tuple", "list", "dict"] := by
    unfold isiB at h
    split at h
    · split at h
      · rename_i c; simpa using c
      · cases h
    · split at h
      · rename_i c; rw [c.2]; decide
      · split at h
        · rename_i c; simpa using c.2
        · cases h
  have ha : a ∈ ["NoneType", "int", "str", "bool", "tuple", "list", "dict"] := by
    unfold isiB at h
    split at h
    · rename_i c; rw [c]; exact List.mem_cons_of_mem _ hb
    · split at h
      · rename_i c; rw [c.1]; decide
      · split at h
        · rename_i c; simpa using c.1
        · cases h
  have all : ∀ x ∈ ["NoneType", "int", "str", "bool", "tuple", "list", "dict"], ∀ y ∈ ["int", "str", "bool", "tuple", "list", "dict"], isiB x y = kitB x y := by decide +kernel
  rw [← all a ha b hb]; exact h
def isiC : CM := fun ds st => match ds with
  | [x, .ty n] => (match tyName st x with
    | some m => (isiB m n).map fun b => (.bl b, st)
    | none => none)
  | _ => none
theorem sim_isi : SimC X B (.builtin "isinstance") isiC := by
  rintro pins s σ H vs us Q I ru ⟨ρ, st, ds, d, st', r, h1, e, q⟩
  unfold isiC at e
  split at e
  · rename_i x n
    split at e
    · rename_i m em
      obtain ⟨b, eb, e⟩ := Option.map_eq_some_iff.mp e
      cases e
      obtain ⟨v, u, rfl, r1, r2⟩ := h1.two
      cases r2
      exact call_isi pins s σ H _ us Q I ru ⟨v, .ty n, .type m, .type n, b, rfl, .ty n, tyName_rep r r1 em, kit_ty (isiB_kit eb), q ρ H _ Ext.refl r rfl⟩
    · cases e
  · cases e
end
end Mn
set_option Elab.async false
set_option linter.all false
set_option maxRecDepth 100000
set_option maxHeartbeats 2000000
set_option autoImplicit false
/-! Mn, part E: expressions. -/
namespace Mn
open PySem PySem.Spec PyProof.Rows L2
def failE : EM := fun _ _ => none
def varM (i : Nat) : EM := fun env st => match env[i]? with
  | some (some d) => some (d, st)
  | _ => none
def cM (d : D) : EM := fun _ st => some (d, st)
def binM (o : Op2) (a b : EM) : EM := fun env st => (a env st).bind fun p => (b env p.2).bind fun q => o p.1 q.1 q.2
def unM (o : D → Option D) (a : EM) : EM := fun env st => (a env st).bind fun p => (o p.1).map fun d => (d, p.2)
def nilA : AM := fun _ st => some ([], st)
def consA (a : EM) (r : AM) : AM := fun env st => (a env st).bind fun p => (r env p.2).bind fun q => some (p.1 :: q.1, q.2)
def callM (c : CM) (as : AM) : EM := fun env st => (as env st).bind fun p => c p.1 p.2
def tupM (as : AM) : EM := fun env st => (as env st).bind fun p => if p.1.length ≤ bigN then some (.tup p.1, p.2) else none
def lstM (b : Bool) (as : AM) : EM := fun env st => (as env st).bind fun p => if p.1.length ≤ bigN then some (mkL b p.1 p.2) else none
def partM : Option EM → Env → Store → Option (Option Int × Store)
  | none => fun _ st => some (none, st)
  | some m => fun env st => (m env st).bind fun p => match p.1 with
    | .int i => some (some i, p.2)
    | _ => none
def slcM (o : SlM) (a : EM) (lo hi : Option EM) : EM := fun env st => (a env st).bind fun p => (partM lo env p.2).bind fun q => (partM hi env q.2).bind fun r => o p.1 q.1 r.1 r.2
def ifM (t : TM) (a b : EM) : EM := fun env st => (t env st).bind fun p => if p.1 then a env p.2 else b env p.2
def truM (a : EM) : TM := fun env st => (a env st).bind fun p => (truO p.2 p.1).map fun b => (b, p.2)
def bolM (a : EM) : TM := fun env st => (a env st).bind fun p => match p.1 with
  | .bl b => some (b, p.2)
  | _ => none
def andT (a b : TM) : TM := fun env st => (a env st).bind fun p => if p.1 then b env p.2 else some (false, p.2)
def orT (a b : TM) : TM := fun env st => (a env st).bind fun p => if p.1 then some (true, p.2) else b env p.2
def notT (a : TM) : TM := fun env st => (a env st).bind fun p => some (!p.1, p.2)
/-- and, or, not of truth values, as values -/
def andE (a b : EM) : EM := fun env st => (a env st).bind fun p => match p.1 with
  | .bl c => if c then b env p.2 else some (.bl false, p.2)
  | _ => none
def orE (a b : EM) : EM := fun env st => (a env st).bind fun p => match p.1 with
  | .bl c => if c then some (.bl true, p.2) else b env p.2
  | _ => none
def notE (a : EM) : EM := fun env st => (a env st).bind fun p => match p.1 with
  | .bl c => some (.bl (!c), p.2)
  | _ => none
section
variable {X : Cx} {B : Tb} {a b e : Expr} {es : List Expr} {ma mb m : EM} {pos : Pos}
theorem pe_fail : SimE X B e failE := ⟨fun _ _ _ _ _ _ h => by
  obtain ⟨ρ, env, st, d, st', _, _, h, _⟩ := h
  cases h⟩
theorem pe_fail' {m : EM} (h : ∀ env st, m env st = none) : SimE X B e m := ⟨fun _ _ _ _ _ _ q => by
  obtain ⟨ρ, env, st, d, st', _, _, q, _⟩ := q
  rw [h] at q
  cases q⟩
theorem sim_var {i : Nat} {x : Str} (hN : X.N[i]? = some x) (hv : Vis X.env.scope x) (hd : (x == ("__debug__" : Str)) = false) (hcd : (x == ("__classdict__" : Str)) = false) : SimE X B (.Name x pos) (varM i) :=
  PE.imp (pe_var hN hv hd hcd) fun σ H Q h => by
    obtain ⟨ρ, env, st, d, st', r, re, e, q⟩ := h
    unfold varM at e
    split at e
    · rename_i d' he
      cases e
      obtain ⟨v, h1, h2⟩ := re.at_ _ _ he
      exact ⟨v, h1, q ρ H v Ext.refl r h2⟩
    · cases e
theorem sim_const {d : D} {v : V} (h : PE X e (tC v)) (hr : ∀ ρ H, RV X.K B ρ H d v) : SimE X B e (cM d) :=
  PE.imp h fun σ H Q h => by
    obtain ⟨ρ, env, st, d, st', r, re, e, q⟩ := h
    cases e
    exact q ρ H v Ext.refl r (hr ρ H)
theorem After.trans {K : PySem.W.Frag} {α β : Type} {Rl : Rho → Hp → α → β → Prop} {ρ ρ' : Rho} {H H' : Hp} {r : α} {st' : Store} {Q : β → Hp → Prop} (e : Ext K ρ H ρ' H') (q : After K B Rl ρ H r st' Q) : After K B Rl ρ' H' r st' Q :=
  fun ρ2 H2 v e2 r2 h2 => q ρ2 H2 v (e.trans e2) r2 h2
/-- two expressions, one behind another, and what is done with their values -/
theorem sim_bin {op : Operator} {o : Op2} (ho : SimO X B (binaryOp op) o) (ha : SimE X B a ma) (hb : SimE X B b mb) : SimE X B (.BinOp a op b pos) (binM o ma mb) :=
  PE.imp (pe_op ho ha hb) fun σ H Q h => by
    obtain ⟨ρ, env, st, d, st', r, re, e, q⟩ := h
    obtain ⟨⟨x, st1⟩, e1, e⟩ := Option.bind_eq_some_iff.mp e
    obtain ⟨⟨y, st2⟩, e2, e⟩ := Option.bind_eq_some_iff.mp e
    refine ⟨ρ, env, st, x, st1, r, re, e1, fun ρ1 H1 vx x1 r1 hx => ?_⟩
    refine ⟨ρ1, env, st1, y, st2, r1, re.mono x1, e2, fun ρ2 H2 vy x2 r2 hy => ?_⟩
    exact ⟨ρ2, st2, x, y, d, st', r2, hx.mono x2, hy, e, q.trans (x1.trans x2)⟩
theorem sim_cmpE {op : CmpOp} {o : Op2} (ho : SimO X B (compareOp op) o) (ha : SimE X B a ma) (hb : SimE X B b mb) (hm : behindInMarks op b = false) : SimE X B (.Compare a [op] [b] pos) (binM o ma mb) :=
  PE.imp (pe_cmpR ho ha hb hm) fun σ H Q h => by
    obtain ⟨ρ, env, st, d, st', r, re, e, q⟩ := h
    obtain ⟨⟨x, st1⟩, e1, e⟩ := Option.bind_eq_some_iff.mp e
    obtain ⟨⟨y, st2⟩, e2, e⟩ := Option.bind_eq_some_iff.mp e
    refine ⟨ρ, env, st, x, st1, r, re, e1, fun ρ1 H1 vx x1 r1 hx => ?_⟩
    refine ⟨ρ1, env, st1, y, st2, r1, re.mono x1, e2, fun ρ2 H2 vy x2 r2 hy => ?_⟩
    exact ⟨ρ2, st2, x, y, d, st', r2, hx.mono x2, hy, e, q.trans (x1.trans x2)⟩
theorem rv_bl {K : PySem.W.Frag} {ρ : Rho} {H : Hp} {b : Bool} {v : V} (h : RV K B ρ H (.bl b) v) : v = .bl b := h
theorem sim_cmpT {op : CmpOp} {o : Op2} (ho : SimO X B (compareOp op) o) (ha : SimE X B a ma) (hb : SimE X B b mb) (hm : behindInMarks op b = false) : SimT X B (.Compare a [op] [b] pos) (bolM (binM o ma mb)) :=
  PT.imp (pt_cmpR ho ha hb hm) fun σ H Q h => by
    obtain ⟨ρ, env, st, k, st', r, re, e, q⟩ := h
    obtain ⟨⟨c, st3⟩, e0, e⟩ := Option.bind_eq_some_iff.mp e
    obtain ⟨⟨x, st1⟩, e1, e0⟩ := Option.bind_eq_some_iff.mp e0
    obtain ⟨⟨y, st2⟩, e2, e0⟩ := Option.bind_eq_some_iff.mp e0
    refine ⟨ρ, env, st, x, st1, r, re, e1, fun ρ1 H1 vx x1 r1 hx => ?_⟩
    refine ⟨ρ1, env, st1, y, st2, r1, re.mono x1, e2, fun ρ2 H2 vy x2 r2 hy => ?_⟩
    refine ⟨ρ2, st2, x, y, c, st3, r2, hx.mono x2, hy, e0, fun ρ3 H3 v x3 r3 hv => ?_⟩
    dsimp only at e
    split at e
    · cases e
      cases hv
      exact ⟨_, rfl, q ρ3 H3 ((x1.trans x2).trans x3) r3⟩
    · cases e
theorem sim_ixE (O : OCx X B) (ha : SimE X B a ma) (hb : SimE X B b mb) (hs : PlainIx b) : SimE X B (.Subscript a b pos) (binM ixO ma mb) :=
  PE.imp (pe_ix (sim_ix O) ha hb hs) fun σ H Q h => by
    obtain ⟨ρ, env, st, d, st', r, re, e, q⟩ := h
    obtain ⟨⟨x, st1⟩, e1, e⟩ := Option.bind_eq_some_iff.mp e
    obtain ⟨⟨y, st2⟩, e2, e⟩ := Option.bind_eq_some_iff.mp e
    refine ⟨ρ, env, st, x, st1, r, re, e1, fun ρ1 H1 vx x1 r1 hx => ?_⟩
    refine ⟨ρ1, env, st1, y, st2, r1, re.mono x1, e2, fun ρ2 H2 vy x2 r2 hy => ?_⟩
    exact ⟨ρ2, st2, x, y, d, st', r2, hx.mono x2, hy, e, q.trans (x1.trans x2)⟩
theorem sim_neg (ha : SimE X B a ma) : SimE X B (.UnaryOp .USub a pos) (unM negM ma) :=
  PE.imp (pe_un un_neg ha) fun σ H Q h => by
    obtain ⟨ρ, env, st, d, st', r, re, e, q⟩ := h
    obtain ⟨⟨x, st1⟩, e1, e⟩ := Option.bind_eq_some_iff.mp e
    obtain ⟨y, e2, e⟩ := Option.map_eq_some_iff.mp e
    cases e
    refine ⟨ρ, env, st, x, st1, r, re, e1, fun ρ1 H1 vx x1 r1 hx => ?_⟩
    dsimp only at e2
    unfold negM at e2
    split at e2
    · cases e2
      cases hx
      exact ⟨_, rfl, q ρ1 H1 _ x1 r1 rfl⟩
    · cases e2
/-! ### argument lists, displays, calls -/
theorem sim_nilA : SimA X B [] nilA := PA.imp pa_nil fun σ H Q h => by
  obtain ⟨ρ, env, st, d, st', r, re, e, q⟩ := h
  cases e
  exact q ρ H [] Ext.refl r rfl
theorem sim_consA {mr : AM} (ha : SimE X B e ma) (hr : SimA X B es mr) (hs : starEach (e :: es) X.env = (false, eval e X.env) :: starEach es X.env) : SimA X B (e :: es) (consA ma mr) :=
  PA.imp (pa_cons ha hr hs) fun σ H Q h => by
    obtain ⟨ρ, env, st, d, st', r, re, e, q⟩ := h
    obtain ⟨⟨x, st1⟩, e1, e⟩ := Option.bind_eq_some_iff.mp e
    obtain ⟨⟨y, st2⟩, e2, e⟩ := Option.bind_eq_some_iff.mp e
    cases e
    refine ⟨ρ, env, st, x, st1, r, re, e1, fun ρ1 H1 vx x1 r1 hx => ?_⟩
    refine ⟨ρ1, env, st1, y, st2, r1, re.mono x1, e2, fun ρ2 H2 vy x2 r2 hy => ?_⟩
    exact q ρ2 H2 _ (x1.trans x2) r2 ⟨vx, vy, rfl, hx.mono x2, hy⟩
theorem sim_tup {k : Nat} {as : AM} (h : SimA X B es as) : SimE X B (.Tuple es k pos) (tupM as) :=
  PE.imp (pe_tup h) fun σ H Q h => by
    obtain ⟨ρ, env, st, d, st', r, re, e, q⟩ := h
    obtain ⟨⟨xs, st1⟩, e1, e⟩ := Option.bind_eq_some_iff.mp e
    dsimp only at e
    split at e
    · rename_i hz
      cases e
      refine ⟨ρ, env, st, xs, _, r, re, e1, fun ρ1 H1 vs x1 r1 hx => ?_⟩
      exact ⟨by rw [bigN_eq, ← hx.len]; exact hz, after_tup r1 hx (q.trans x1)⟩
    · cases e
theorem sim_lst {as : AM} (bx : Bool) (h : SimA X B es as) : SimE X B (.List es pos) (lstM bx as) :=
  PE.imp (pe_lst h) fun σ H Q h => by
    obtain ⟨ρ, env, st, d, st', r, re, e, q⟩ := h
    obtain ⟨⟨xs, st1⟩, e1, e⟩ := Option.bind_eq_some_iff.mp e
    dsimp only at e
    split at e
    · rename_i hz
      refine ⟨ρ, env, st, xs, _, r, re, e1, fun ρ1 H1 vs x1 r1 hx => ?_⟩
      exact ⟨by rw [bigN_eq, ← hx.len]; exact hz, after_lst r1 hx (Option.some.inj e) (q.trans x1)⟩
    · cases e
/-- a built-in's call -/
theorem sim_callB {id : String} {x : Str} {p : Pos} {c : CM} {as : AM} (hc : SimC X B (.builtin id) c) (hg : Gl X x) (hm : X.mg x = none) (hv : bootBuiltins x = some (.builtin id)) (ha : SimA X B (e :: es) as) (hn : x ≠ "__name__") (hdb : (x == ("__debug__" : Str)) = false)
    (he : starEach (e :: es) X.env = (false, eval e X.env) :: starEach es X.env) (hpl : (backTo pos (starEach es X.env)).any (·.1) = false) : SimE X B (.Call (.Name x p) (e :: es) [] pos) (callM c as) :=
  PE.imp (pe_callB hc hg hm hv ha hn hdb he hpl) fun σ H Q h => by
    obtain ⟨ρ, env, st, d, st', r, re, e, q⟩ := h
    obtain ⟨⟨xs, st1⟩, e1, e⟩ := Option.bind_eq_some_iff.mp e
    exact ⟨ρ, env, st, xs, st1, r, re, e1, fun ρ1 H1 vs x1 r1 hx => ⟨ρ1, st1, xs, d, st', r1, hx, e, q.trans x1⟩⟩
theorem sim_callTy {T : String} {x : Str} {p : Pos} {c : CM} {as : AM} (hc : SimC X B (.type T) c) (hg : Gl X x) (hm : X.mg x = none) (hv : bootBuiltins x = some (.type T)) (ha : SimA X B (e :: es) as) (hn : x ≠ "__name__") (hdb : (x == ("__debug__" : Str)) = false)
    (he : starEach (e :: es) X.env = (false, eval e X.env) :: starEach es X.env) (hpl : (backTo pos (starEach es X.env)).any (·.1) = false) : SimE X B (.Call (.Name x p) (e :: es) [] pos) (callM c as) :=
  PE.imp (pe_callTy hc hg hm hv ha hn hdb he hpl) fun σ H Q h => by
    obtain ⟨ρ, env, st, d, st', r, re, e, q⟩ := h
    obtain ⟨⟨xs, st1⟩, e1, e⟩ := Option.bind_eq_some_iff.mp e
    exact ⟨ρ, env, st, xs, st1, r, re, e1, fun ρ1 H1 vs x1 r1 hx => ⟨ρ1, st1, xs, d, st', r1, hx, e, q.trans x1⟩⟩
/-! ### slices -/
theorem sim_part {lo : Option Expr} {ml : Option EM} (h : ∀ e, lo = some e → ∃ m, ml = some m ∧ SimE X B e m) (h0 : lo = none → ml = none) :
    PO X lo (fun σ H Q => ∃ ρ env st o st', Rep X.K B ρ H st ∧ REnv X.K B ρ H env σ ∧ partM ml env st = some (o, st') ∧ ∀ ρ' H', Ext X.K ρ H ρ' H' → Rep X.K B ρ' H' st' → Q o H') := by
  cases lo with
  | none =>
    rw [h0 rfl]
    refine ⟨fun pins s σ H Q I q => po_none.run pins s σ H Q I ?_⟩
    obtain ⟨ρ, env, st, o, st', r, re, e, q⟩ := q
    cases e
    exact q ρ H Ext.refl r
  | some e =>
    obtain ⟨m, rfl, hm⟩ := h e rfl
    refine ⟨fun pins s σ H Q I q => (po_some hm).run pins s σ H Q I ?_⟩
    obtain ⟨ρ, env, st, o, st', r, re, e, q⟩ := q
    obtain ⟨⟨x, st1⟩, e1, e⟩ := Option.bind_eq_some_iff.mp e
    refine ⟨ρ, env, st, x, st1, r, re, e1, fun ρ1 H1 vx x1 r1 hx => ?_⟩
    dsimp only at e
    split at e
    · cases e
      cases hx
      exact ⟨_, rfl, q ρ1 H1 x1 r1⟩
    · cases e
theorem sim_slc {lo hi : Option Expr} {ml mh : Option EM} {p2 : Pos} (bx : Bool) (ha : SimE X B a ma) (hl : ∀ e, lo = some e → ∃ m, ml = some m ∧ SimE X B e m) (hl0 : lo = none → ml = none) (hh : ∀ e, hi = some e → ∃ m, mh = some m ∧ SimE X B e m) (hh0 : hi = none → mh = none) :
    SimE X B (.Subscript a (.Slice lo hi none p2) pos) (slcM (slO bx) ma ml mh) :=
  PE.imp (pe_slice (sim_sl bx) ha (sim_part hl hl0) (sim_part hh hh0)) fun σ H Q h => by
    obtain ⟨ρ, env, st, d, st', r, re, e, q⟩ := h
    obtain ⟨⟨x, st1⟩, e1, e⟩ := Option.bind_eq_some_iff.mp e
    obtain ⟨⟨l, st2⟩, e2, e⟩ := Option.bind_eq_some_iff.mp e
    obtain ⟨⟨u, st3⟩, e3, e⟩ := Option.bind_eq_some_iff.mp e
    refine ⟨ρ, env, st, x, st1, r, re, e1, fun ρ1 H1 vx x1 r1 hx => ?_⟩
    refine ⟨ρ1, env, st1, l, st2, r1, re.mono x1, e2, fun ρ2 H2 x2 r2 => ?_⟩
    refine ⟨ρ2, env, st2, u, st3, r2, re.mono (x1.trans x2), e3, fun ρ3 H3 x3 r3 => ?_⟩
    exact ⟨ρ3, st3, x, d, st', r3, hx.mono (x2.trans x3), e, q.trans ((x1.trans x2).trans x3)⟩
/-! ### tests -/
theorem sim_tru (ha : SimE X B a ma) (he : ∀ whole, isTrue a X.env whole = (do let v ← whole; standAt a.pos; holding [v] (truthy v))) : SimT X B a (truM ma) :=
  PT.imp (pt_truth ha he) fun σ H Q h => by
    obtain ⟨ρ, env, st, k, st', r, re, e, q⟩ := h
    obtain ⟨⟨x, st1⟩, e1, e⟩ := Option.bind_eq_some_iff.mp e
    obtain ⟨y, e2, e⟩ := Option.map_eq_some_iff.mp e
    cases e
    refine ⟨ρ, env, st, x, _, r, re, e1, fun ρ1 H1 vx x1 r1 hx => ?_⟩
    exact ⟨_, truO_tru r1 hx e2, q ρ1 H1 x1 r1⟩
theorem sim_notT {t : TM} (h : SimT X B a t) : SimT X B (.UnaryOp .Not a pos) (notT t) :=
  PT.imp (pt_not h) fun σ H Q h => by
    obtain ⟨ρ, env, st, k, st', r, re, e, q⟩ := h
    obtain ⟨⟨x, st1⟩, e1, e⟩ := Option.bind_eq_some_iff.mp e
    cases e
    exact ⟨ρ, env, st, x, _, r, re, e1, fun ρ1 H1 x1 r1 => q ρ1 H1 x1 r1⟩
abbrev SimW (X : Cx) (B : Tb) (e : Expr) (m : TM) : Prop := PW X e (TTm X.K B m)
theorem sim_and1 {t : TM} (h : SimT X B a t) : SimW X B (.BoolOp .And [a] pos) t := pw_and1 h
theorem sim_or1 {t : TM} (h : SimT X B a t) : SimW X B (.BoolOp .Or [a] pos) t := pw_or1 h
theorem sim_andT {t u : TM} {rest : List Expr} (h : SimT X B a t) (hr : SimW X B (.BoolOp .And (b :: rest) pos) u) : SimW X B (.BoolOp .And (a :: b :: rest) pos) (andT t u) :=
  PW.imp (pw_and h hr) fun σ H Q h => by
    obtain ⟨ρ, env, st, k, st', r, re, e, q⟩ := h
    obtain ⟨⟨x, st1⟩, e1, e⟩ := Option.bind_eq_some_iff.mp e
    refine ⟨ρ, env, st, x, _, r, re, e1, fun ρ1 H1 x1 r1 => ?_⟩
    cases x with
    | true => exact ⟨ρ1, env, st1, k, st', r1, re.mono x1, e, fun ρ2 H2 x2 r2 => q ρ2 H2 (x1.trans x2) r2⟩
    | false => cases e; exact q ρ1 H1 x1 r1
theorem sim_orT {t u : TM} {rest : List Expr} (h : SimT X B a t) (hr : SimW X B (.BoolOp .Or (b :: rest) pos) u) : SimW X B (.BoolOp .Or (a :: b :: rest) pos) (orT t u) :=
  PW.imp (pw_or h hr) fun σ H Q h => by
    obtain ⟨ρ, env, st, k, st', r, re, e, q⟩ := h
    obtain ⟨⟨x, st1⟩, e1, e⟩ := Option.bind_eq_some_iff.mp e
    refine ⟨ρ, env, st, x, _, r, re, e1, fun ρ1 H1 x1 r1 => ?_⟩
    cases x with
    | false => exact ⟨ρ1, env, st1, k, st', r1, re.mono x1, e, fun ρ2 H2 x2 r2 => q ρ2 H2 (x1.trans x2) r2⟩
    | true => cases e; exact q ρ1 H1 x1 r1
theorem sim_ifE {t : Expr} {mt : TM} (ht : SimT X B t mt) (ha : SimE X B a ma) (hb : SimE X B b mb) : SimE X B (.IfExp t a b pos) (ifM mt ma mb) :=
  PE.imp (pe_ifExp ht ha hb) fun σ H Q h => by
    obtain ⟨ρ, env, st, d, st', r, re, e, q⟩ := h
    obtain ⟨⟨x, st1⟩, e1, e⟩ := Option.bind_eq_some_iff.mp e
    refine ⟨ρ, env, st, x, _, r, re, e1, fun ρ1 H1 x1 r1 => ?_⟩
    cases x with
    | true => exact ⟨ρ1, env, st1, d, st', r1, re.mono x1, e, q.trans x1⟩
    | false => exact ⟨ρ1, env, st1, d, st', r1, re.mono x1, e, q.trans x1⟩
/-! ### and, or, not as values -/
theorem sim_oneE {op : BoolOp} (h : SimE X B a ma) : SimE X B (.BoolOp op [a] pos) ma := pe_one h
theorem sim_andE {rest : List Expr} (h : SimE X B a ma) (hr : SimE X B (.BoolOp .And (b :: rest) pos) mb) : SimE X B (.BoolOp .And (a :: b :: rest) pos) (andE ma mb) :=
  PE.imp (pe_and h hr) fun σ H Q h => by
    obtain ⟨ρ, env, st, k, st', r, re, e, q⟩ := h
    obtain ⟨⟨x, st1⟩, e1, e⟩ := Option.bind_eq_some_iff.mp e
    refine ⟨ρ, env, st, x, _, r, re, e1, fun ρ1 H1 vx x1 r1 hx => ?_⟩
    dsimp only at e
    split at e
    · rename_i c
      cases hx
      refine ⟨c, rfl, ?_⟩
      cases c with
      | true => exact ⟨ρ1, env, st1, k, st', r1, re.mono x1, e, q.trans x1⟩
      | false => cases e; exact q ρ1 H1 _ x1 r1 rfl
    · cases e
theorem sim_orE {rest : List Expr} (h : SimE X B a ma) (hr : SimE X B (.BoolOp .Or (b :: rest) pos) mb) : SimE X B (.BoolOp .Or (a :: b :: rest) pos) (orE ma mb) :=
  PE.imp (pe_or h hr) fun σ H Q h => by
    obtain ⟨ρ, env, st, k, st', r, re, e, q⟩ := h
    obtain ⟨⟨x, st1⟩, e1, e⟩ := Option.bind_eq_some_iff.mp e
    refine ⟨ρ, env, st, x, _, r, re, e1, fun ρ1 H1 vx x1 r1 hx => ?_⟩
    dsimp only at e
    split at e
    · rename_i c
      cases hx
      refine ⟨c, rfl, ?_⟩
      cases c with
      | false => exact ⟨ρ1, env, st1, k, st', r1, re.mono x1, e, q.trans x1⟩
      | true => cases e; exact q ρ1 H1 _ x1 r1 rfl
    · cases e
theorem sim_notE (h : SimE X B a ma) : SimE X B (.UnaryOp .Not a pos) (notE ma) :=
  PE.imp (pe_not h) fun σ H Q h => by
    obtain ⟨ρ, env, st, k, st', r, re, e, q⟩ := h
    obtain ⟨⟨x, st1⟩, e1, e⟩ := Option.bind_eq_some_iff.mp e
    refine ⟨ρ, env, st, x, _, r, re, e1, fun ρ1 H1 vx x1 r1 hx => ?_⟩
    dsimp only at e
    split at e
    · rename_i c
      cases hx
      cases e
      exact ⟨c, rfl, q ρ1 H1 _ x1 r1 rfl⟩
    · cases e
end
end Mn
set_option Elab.async false
set_option linter.all false
set_option maxRecDepth 100000
set_option maxHeartbeats 2000000
set_option autoImplicit false
/-! Mn, part F: targets, what is walked, statements, loops. -/
namespace Mn
open PySem PySem.Spec PyProof.Rows L2
/-! ### targets -/
abbrev GM := D → Env → Store → Option (Env × Store)
def TGm (K : PySem.W.Frag) (B : Tb) (sl : List Nat) (m : GM) : TG := fun v σ H Q => ∃ ρ env st d env' st', Rep K B ρ H st ∧ REnv K B ρ H env σ ∧ RV K B ρ H d v ∧ m d env st = some (env', st') ∧
  ∀ ρ' H' σ', Ext K ρ H ρ' H' → Rep K B ρ' H' st' → REnv K B ρ' H' env' σ' → σ'.length = σ.length → (∀ i, i ∉ sl → σ'[i]? = σ[i]?) → Q σ' H'
abbrev SimG (X : Cx) (B : Tb) (tg : Expr) (sl : List Nat) (m : GM) : Prop := PG X tg (TGm X.K B sl m)
theorem PG.imp {X : Cx} {e : Expr} {t t' : TG} (h : PG X e t) (k : ∀ v σ H Q, t' v σ H Q → t v σ H Q) : PG X e t' := ⟨fun pins s σ H v u Q I r q => h.run pins s σ H v u Q I r (k v σ H Q q)⟩
theorem PGs.imp {X : Cx} {e : List Expr} {t t' : TGs} (h : PGs X e t) (k : ∀ v σ H Q, t' v σ H Q → t v σ H Q) : PGs X e t' := ⟨fun pins s σ H v u Q I r q => h.run pins s σ H v u Q I r (k v σ H Q q)⟩
def nameG (i : Nat) : GM := fun d env st => some (env.set i (some d), st)
abbrev GsM := List D → Env → Store → Option (Env × Store)
def TGsm (K : PySem.W.Frag) (B : Tb) (sl : List Nat) (m : GsM) : TGs := fun vs σ H Q => ∃ ρ env st ds env' st', Rep K B ρ H st ∧ REnv K B ρ H env σ ∧ RVs K B ρ H ds vs ∧ m ds env st = some (env', st') ∧
  ∀ ρ' H' σ', Ext K ρ H ρ' H' → Rep K B ρ' H' st' → REnv K B ρ' H' env' σ' → σ'.length = σ.length → (∀ i, i ∉ sl → σ'[i]? = σ[i]?) → Q σ' H'
def nilG : GsM := fun ds env st => match ds with
  | [] => some (env, st)
  | _ => none
def consG (g : GM) (r : GsM) : GsM := fun ds env st => match ds with
  | d :: ds => (g d env st).bind fun p => r ds p.1 p.2
  | [] => none
def tupG (n : Nat) (g : GsM) : GM := fun d env st => match d with
  | .tup xs => if xs.length = n then g xs env st else none
  | _ => none
section
variable {X : Cx} {B : Tb} {pos : Pos}
theorem REnv.set {K : PySem.W.Frag} {ρ : Rho} {H : Hp} {env : Env} {σ : L2.St} {d : D} {v : V} (h : REnv K B ρ H env σ) (i : Nat) (hv : RV K B ρ H d v) : REnv K B ρ H (env.set i (some d)) (σ.set i (some v)) := by
  refine ⟨by simp [h.len], fun j e he => ?_⟩
  by_cases hj : i = j
  · subst hj
    have hl : i < env.length := by
      have := (List.getElem?_eq_some_iff.mp he).1
      simpa using this
    rw [List.getElem?_set_self hl] at he
    cases he
    exact ⟨v, List.getElem?_set_self (by rw [h.len]; exact hl), hv⟩
  · rw [List.getElem?_set_ne hj] at he
    obtain ⟨w, h1, h2⟩ := h.at_ j e he
    exact ⟨w, by rw [List.getElem?_set_ne hj]; exact h1, h2⟩
theorem sim_nameG {i : Nat} {x : Str} (hN : X.N.Nodup) (hi : X.N[i]? = some x) (hx : Loc X.env.scope x) (hf : X.fn x = true ∨ X.env.scope.names.lookup x = some .local) : SimG X B (.Name x pos) [i] (nameG i) :=
  PG.imp (pg_name hN hi hx hf) fun v σ H Q h => by
    obtain ⟨ρ, env, st, d, env', st', r, re, rv, e, q⟩ := h
    cases e
    exact q ρ H _ Ext.refl r (re.set i rv) (by simp) fun j hj => List.getElem?_set_ne (fun z => hj (by simp [z]))
theorem sim_nilG : PGs X [] (TGsm X.K B [] nilG) :=
  PGs.imp pgs_nil fun v σ H Q h => by
    obtain ⟨ρ, env, st, ds, env', st', r, re, rv, e, q⟩ := h
    unfold nilG at e
    split at e
    · cases e
      exact ⟨rv, q ρ H _ Ext.refl r re rfl fun _ _ => rfl⟩
    · cases e
theorem sim_consG {e : Expr} {es : List Expr} {s1 s2 : List Nat} {g : GM} {gs : GsM} (h1 : SimG X B e s1 g) (h2 : PGs X es (TGsm X.K B s2 gs)) (hs : (assignEach (e :: es) X.env).map (·.2) = assign e X.env :: (assignEach es X.env).map (·.2)) : PGs X (e :: es) (TGsm X.K B (s1 ++ s2) (consG g gs)) :=
  PGs.imp (pgs_cons h1 h2 hs) fun v σ H Q h => by
    obtain ⟨ρ, env, st, ds, env', st', r, re, rv, e, q⟩ := h
    unfold consG at e
    split at e
    · rename_i d ds
      obtain ⟨⟨env1, st1⟩, e1, e⟩ := Option.bind_eq_some_iff.mp e
      obtain ⟨v, vr, rfl, rv1, rv2⟩ := rv
      refine ⟨v, vr, rfl, ρ, env, st, d, env1, st1, r, re, rv1, e1, fun ρ1 H1 σ1 x1 r1 re1 l1 k1 => ?_⟩
      refine ⟨ρ1, env1, st1, ds, env', st', r1, re1, rv2.mono x1, e, fun ρ2 H2 σ2 x2 r2 re2 l2 k2 => ?_⟩
      refine q ρ2 H2 σ2 (x1.trans x2) r2 re2 (l2.trans l1) fun i hi => ?_
      rw [List.mem_append, not_or] at hi
      exact (k2 i hi.2).trans (k1 i hi.1)
    · cases e
theorem sim_tupG {es : List Expr} {k : Nat} {sl : List Nat} {gs : GsM} {n : Nat} (hc : X.calm = true) (h : PGs X es (TGsm X.K B sl gs)) (hn : (assignEach es X.env).length = n) (hst : (assignEach es X.env).findIdx? (·.1) = none) : SimG X B (.Tuple es k pos) sl (tupG n gs) :=
  PG.imp (pg_tup hc h hn hst) fun v σ H Q h => by
    obtain ⟨ρ, env, st, d, env', st', r, re, rv, e, q⟩ := h
    unfold tupG at e
    split at e
    · rename_i xs
      split at e
      · rename_i hl
        obtain ⟨a, vs, rfl, t1, l1⟩ := rv
        exact ⟨a, vs, rfl, t1, by rw [← l1.len]; exact hl, ρ, env, st, xs, env', st', r, re, l1, e, q⟩
      · cases e
    · cases e
/-- o[i] = v -/
def subG (o i : EM) : GM := fun d env st => (o env st).bind fun p => (i env p.2).bind fun q => (setO p.1 q.1 d q.2).map fun st' => (env, st')
theorem sim_subG {o i : Expr} {mo mi : EM} (O : OCx X B) (ho : SimE X B o mo) (hi : SimE X B i mi) (ha : ∀ v, assign (.Subscript o i pos) X.env v = (do
      let ov ← holding [v] (eval o X.env)
      let iv ← holding [v, ov] (eval i X.env)
      standAt pos
      holding [v, ov, iv] (setItem ov iv v)
      PySem.release [v, ov, iv] [])) : SimG X B (.Subscript o i pos) [] (subG mo mi) :=
  PG.imp (pg_sub ho hi (sim_setItem O) ha) fun v σ H Q h => by
    obtain ⟨ρ, env, st, d, env', st', r, re, rv, e, q⟩ := h
    obtain ⟨⟨x, st1⟩, e1, e⟩ := Option.bind_eq_some_iff.mp e
    obtain ⟨⟨y, st2⟩, e2, e⟩ := Option.bind_eq_some_iff.mp e
    obtain ⟨st3, e3, e⟩ := Option.map_eq_some_iff.mp e
    cases e
    refine ⟨ρ, env, st, x, st1, r, re, e1, fun ρ1 H1 vx x1 r1 hx => ?_⟩
    refine ⟨ρ1, env, st1, y, st2, r1, re.mono x1, e2, fun ρ2 H2 vy x2 r2 hy => ?_⟩
    refine ⟨ρ2, st2, x, y, d, _, r2, hx.mono x2, hy, rv.mono (x1.trans x2), e3, fun ρ3 H3 x3 r3 => ?_⟩
    exact q ρ3 H3 σ ((x1.trans x2).trans x3) r3 (re.mono ((x1.trans x2).trans x3)) rfl fun _ _ => rfl
end
/-! ### what is walked -/
abbrev IM := Env → Store → Option ((List D × (Store → Bool)) × Store)
def ItOk (K : PySem.W.Frag) (B : Tb) (ρ₀ : Rho) (H₀ : Hp) (J : It) (items : List D) (g : Store → Bool) : Prop :=
  ∀ (i : Nat) (ρ : Rho) (H : Hp) (st : Store), Mo K ρ₀ H₀ ρ H → Rep K B ρ H st → g st = true →
    (∀ d, items[i]? = some d → J.go i H ∧ ∀ x H', J.yld i H x H' → Ext K ρ H ρ H' ∧ Rep K B ρ H' st ∧ RV K B ρ H' d x) ∧ (items.length ≤ i → J.stop i H)
def TIm (K : PySem.W.Frag) (B : Tb) (m : IM) : TI := fun σ H R => ∃ ρ env st items g st', Rep K B ρ H st ∧ REnv K B ρ H env σ ∧ m env st = some ((items, g), st') ∧
  ∀ ρ' H' J, Ext K ρ H ρ' H' → Rep K B ρ' H' st' → ItOk K B ρ' H' J items g → R J H'
abbrev SimI (X : Cx) (B : Tb) (tg it : Expr) (m : IM) : Prop := PI X tg it (TIm X.K B m)
theorem PI.imp {X : Cx} {tg e : Expr} {t t' : TI} (h : PI X tg e t) (k : ∀ σ H Q, t' σ H Q → t σ H Q) : PI X tg e t' := ⟨fun pins s σ H Q I q => h.run pins s σ H Q I (k σ H Q q)⟩
/-- a list (unchanged while it is walked), a tuple -/
def seqI (a : EM) : IM := fun env st => (a env st).bind fun p => match p.1 with
  | .ref n => (match p.2[n]? with
    | some (.lst xs) => some ((xs, fun s => decide (s[n]? = some (.lst xs))), p.2)
    | _ => none)
  | .lst xs => some ((xs, fun _ => true), p.2)
  | .fro xs => some ((xs, fun _ => true), p.2)
  | .tup xs => some ((xs, fun _ => true), p.2)
  | _ => none
def rngL (i j : Int) : List D := (List.range (j - i).toNat).map fun (k : Nat) => D.int (i + (k : Int))
def okR (i : Int) : Bool := decide (-(2 ^ 62) ≤ i) && decide (i < 2 ^ 62)
def rng1I (a : AM) : IM := fun env st => (a env st).bind fun p => match p.1 with
  | [.int j] => if okR j then some ((rngL 0 j, fun _ => true), p.2) else none
  | _ => none
def rng2I (a : AM) : IM := fun env st => (a env st).bind fun p => match p.1 with
  | [.int i, .int j] => if okR i && okR j then some ((rngL i j, fun _ => true), p.2) else none
  | _ => none
section
variable {X : Cx} {B : Tb} {tg e : Expr} {m : EM}
theorem rngL_get {i j : Int} {k : Nat} {d : D} (h : (rngL i j)[k]? = some d) : k < (j - i).toNat ∧ d = .int (i + (k : Int)) := by
  unfold rngL at h
  rw [List.getElem?_map] at h
  obtain ⟨x, h1, h2⟩ := Option.map_eq_some_iff.mp h
  obtain ⟨h3, h4⟩ := List.getElem?_eq_some_iff.mp h1
  rw [List.length_range] at h3
  rw [List.getElem_range] at h4
  subst h4
  exact ⟨h3, h2.symm⟩
theorem itok_rng {ρ : Rho} {H : Hp} {i j : Int} {n : Nat} (hn : n = (j - i).toNat) : ItOk X.K B ρ H (Itr i n) (rngL i j) (fun _ => true) := by
  intro k ρ1 H1 st x r _
  refine ⟨fun d hd => ?_, fun hl => ?_⟩
  · obtain ⟨h1, rfl⟩ := rngL_get hd
    refine ⟨by show k < n; rw [hn]; exact h1, fun v H' hy => ?_⟩
    obtain ⟨rfl, rfl⟩ := hy
    exact ⟨Ext.refl, r, rfl⟩
  · show n ≤ k
    unfold rngL at hl
    rw [List.length_map, List.length_range] at hl
    omega
theorem itok_list {ρ : Rho} {H : Hp} {a : Addr} {items : List D} {g : Store → Bool}
    (h : ∀ ρ1 H1 st, Mo X.K ρ H ρ1 H1 → Rep X.K B ρ1 H1 st → g st = true → ∃ vs, SqL X.K H1 a vs ∧ RVs X.K B ρ1 H1 items vs) : ItOk X.K B ρ H (Itl X.K a) items g := by
  intro k ρ1 H1 st x r hg
  obtain ⟨vs, hs, hv⟩ := h ρ1 H1 st x r hg
  refine ⟨fun d hd => ?_, fun hl => ⟨vs, hs, by rw [← hv.len]; exact hl⟩⟩
  obtain ⟨v, hv1, hv2⟩ := hv.get hd
  refine ⟨⟨vs, v, hs, hv1⟩, fun y H' hy => ?_⟩
  obtain ⟨rfl, hy⟩ := hy
  cases Option.some.inj ((hy vs hs).symm.trans hv1)
  exact ⟨Ext.refl, r, hv2⟩
theorem itok_tup {ρ : Rho} {H : Hp} {a : Addr} {items : List D} {g : Store → Bool}
    (h : ∀ ρ1 H1 st, Mo X.K ρ H ρ1 H1 → Rep X.K B ρ1 H1 st → g st = true → ∃ vs, SqT X.K H1 a vs ∧ RVs X.K B ρ1 H1 items vs) : ItOk X.K B ρ H (Itt X.K a) items g := by
  intro k ρ1 H1 st x r hg
  obtain ⟨vs, hs, hv⟩ := h ρ1 H1 st x r hg
  refine ⟨fun d hd => ?_, fun hl => ⟨vs, hs, by rw [← hv.len]; exact hl⟩⟩
  obtain ⟨v, hv1, hv2⟩ := hv.get hd
  refine ⟨⟨vs, v, hs, hv1⟩, fun y H' hy => ?_⟩
  obtain ⟨rfl, hy⟩ := hy
  cases Option.some.inj ((hy vs hs).symm.trans hv1)
  exact ⟨Ext.refl, r, hv2⟩
theorem PI.or {t t' : TI} (h : PI X tg e t) (h' : PI X tg e t') : PI X tg e (fun σ H R => t σ H R ∨ t' σ H R) := ⟨fun pins s σ H R I q => by
  rcases q with q | q
  · exact h.run pins s σ H R I q
  · exact h'.run pins s σ H R I q⟩
theorem sim_seqI (ha : SimE X B e m) : SimI X B tg e (seqI m) :=
  PI.imp (PI.or (pi_list ha) (pi_tup ha)) fun σ H R h => by
    obtain ⟨ρ, env, st, items, g, st', r, re, e, q⟩ := h
    obtain ⟨⟨x, st1⟩, e1, e⟩ := Option.bind_eq_some_iff.mp e
    dsimp only at e
    split at e
    · rename_i n
      split at e
      · rename_i xs q1
        cases e
        refine .inl ⟨ρ, env, st, _, _, r, re, e1, fun ρ1 H1 vx x1 r1 hx => ?_⟩
        obtain ⟨a, rfl, hn⟩ := hx
        obtain ⟨a', e2, vs, e3, e4⟩ := r1.obj n _ q1
        rw [hn] at e2
        cases e2
        refine ⟨a, rfl, ⟨vs, .inl (.inl e3)⟩, q ρ1 H1 _ x1 r1 (itok_list fun ρ2 H2 st2 x2 r2 hg => ?_)⟩
        obtain ⟨a', e5, ws, e6, e7⟩ := r2.obj n _ (of_decide_eq_true hg)
        rw [x2.get hn] at e5
        cases e5
        exact ⟨ws, .inl (.inl e6), e7⟩
      · cases e
    · rename_i xs
      cases e
      refine .inl ⟨ρ, env, st, _, _, r, re, e1, fun ρ1 H1 vx x1 r1 hx => ?_⟩
      obtain ⟨a, vs, rfl, hn, hn2, hv⟩ := hx
      refine ⟨a, rfl, ⟨vs, .inl (.inl hn)⟩, q ρ1 H1 _ x1 r1 (itok_list fun ρ2 H2 st2 x2 r2 hg => ?_)⟩
      exact ⟨vs, .inl (.inl (x2.out _ _ hn hn2).1), RVs.mo x2 _ _ hv⟩
    · rename_i xs
      cases e
      refine .inl ⟨ρ, env, st, _, _, r, re, e1, fun ρ1 H1 vx x1 r1 hx => ?_⟩
      have hx0 : RV X.K B ρ1 H1 (.fro _) vx := hx
      obtain ⟨a, vs, rfl, hn, hv⟩ := hx
      refine ⟨a, rfl, ⟨vs, hn.sq⟩, q ρ1 H1 _ x1 r1 (itok_list fun ρ2 H2 st2 x2 r2 hg => ?_)⟩
      obtain ⟨a', ws, e5, e6, e7⟩ := RV.mo x2 _ _ hx0
      cases e5
      exact ⟨ws, e6.sq, e7⟩
    · rename_i xs
      cases e
      refine .inr ⟨ρ, env, st, _, _, r, re, e1, fun ρ1 H1 vx x1 r1 hx => ?_⟩
      obtain ⟨a, vs, rfl, hn, hv⟩ := hx
      refine ⟨a, rfl, ⟨vs, hn⟩, q ρ1 H1 _ x1 r1 (itok_tup fun ρ2 H2 st2 x2 r2 hg => ?_)⟩
      exact ⟨vs, x2.tups _ _ hn, RVs.mo x2 _ _ hv⟩
    · cases e
theorem sim_rng1I {a : Expr} {as : AM} {p pos : Pos} (hg : Gl X "range") (hm : X.mg "range" = none) (ha : SimA X B [a] as) (hs : starEach [a] X.env = [(false, eval a X.env)]) : SimI X B tg (.Call (.Name "range" p) [a] [] pos) (rng1I as) :=
  PI.imp (pi_range1 hg hm ha hs) fun σ H R h => by
    obtain ⟨ρ, env, st, items, g, st', r, re, e, q⟩ := h
    obtain ⟨⟨x, st1⟩, e1, e⟩ := Option.bind_eq_some_iff.mp e
    dsimp only at e
    split at e
    · rename_i j
      split at e
      · rename_i hc
        cases e
        refine ⟨ρ, env, st, _, _, r, re, e1, fun ρ1 H1 vx x1 r1 hx => ?_⟩
        obtain ⟨v, rfl, hv⟩ := hx.one
        cases hv
        simp only [okR, Bool.and_eq_true, decide_eq_true_eq] at hc
        exact ⟨j, rfl, hc.1, hc.2, q ρ1 H1 _ x1 r1 (itok_rng (by simp))⟩
      · cases e
    · cases e
theorem sim_rng2I {a b : Expr} {as : AM} {p pos : Pos} (hg : Gl X "range") (hm : X.mg "range" = none) (ha : SimA X B [a, b] as) (hs : starEach [a, b] X.env = [(false, eval a X.env), (false, eval b X.env)]) (hs2 : starEach [b] X.env = [(false, eval b X.env)]) : SimI X B tg (.Call (.Name "range" p) [a, b] [] pos) (rng2I as) :=
  PI.imp (pi_range2 hg hm ha hs hs2) fun σ H R h => by
    obtain ⟨ρ, env, st, items, g, st', r, re, e, q⟩ := h
    obtain ⟨⟨x, st1⟩, e1, e⟩ := Option.bind_eq_some_iff.mp e
    dsimp only at e
    split at e
    · rename_i i j
      split at e
      · rename_i hc
        cases e
        refine ⟨ρ, env, st, _, _, r, re, e1, fun ρ1 H1 vx x1 r1 hx => ?_⟩
        obtain ⟨v, u, rfl, hv, hu⟩ := hx.two
        cases hv
        cases hu
        simp only [okR, Bool.and_eq_true, decide_eq_true_eq] at hc
        exact ⟨i, j, rfl, ⟨hc.1.1, hc.1.2, hc.2.1, hc.2.2⟩, q ρ1 H1 _ x1 r1 (itok_rng rfl)⟩
      · cases e
    · cases e
end
/-! ### statements -/
def failS : SM := fun _ _ => none
def nextS : SM := fun env st => some (.nx, env, st)
def seqS (a b : SM) : SM := fun env st => (a env st).bind fun q => match q.1 with
  | .nx => b q.2.1 q.2.2
  | f => some (f, q.2.1, q.2.2)
def asgS (e : EM) (g : GM) : SM := fun env st => (e env st).bind fun p => (g p.1 env p.2).map fun q => (.nx, q.1, q.2)
def exprS (e : EM) : SM := fun env st => (e env st).map fun p => (.nx, env, p.2)
def retS (e : EM) : SM := fun env st => (e env st).map fun p => (.ret p.1, env, p.2)
def retN : SM := fun env st => some (.ret .non, env, st)
def ifS (t : TM) (a b : SM) : SM := fun env st => (t env st).bind fun p => if p.1 then a env p.2 else b env p.2
def brkS : SM := fun env st => some (.brk, env, st)
def cntS : SM := fun env st => some (.cnt, env, st)
def augS (i : Nat) (o : Op2) (e : EM) : SM := fun env st => match env[i]? with
  | some (some x) => (e env st).bind fun p => (o x p.1 p.2).map fun q => (.nx, env.set i (some q.1), q.2)
  | _ => none
def forL (g : Store → Bool) (tg : GM) (body : SM) : List D → SM
  | [] => fun env st => if g st then some (.nx, env, st) else none
  | d :: r => fun env st => if g st then (tg d env st).bind fun p => (body p.1 p.2).bind fun q => match q.1 with
    | .nx => forL g tg body r q.2.1 q.2.2
    | .cnt => forL g tg body r q.2.1 q.2.2
    | .brk => some (.nx, q.2.1, q.2.2)
    | .ret v => some (.ret v, q.2.1, q.2.2)
    else none
def forS (im : IM) (tg : GM) (body : SM) : SM := fun env st => (im env st).bind fun p => forL p.1.2 tg body p.1.1 env p.2
def whileS (t : TM) (body : SM) : Nat → SM
  | 0 => failS
  | n + 1 => fun env st => (t env st).bind fun p => if p.1 then (body env p.2).bind fun q => match q.1 with
    | .nx => whileS t body n q.2.1 q.2.2
    | .cnt => whileS t body n q.2.1 q.2.2
    | .brk => some (.nx, q.2.1, q.2.2)
    | .ret v => some (.ret v, q.2.1, q.2.2)
    else some (.nx, env, p.2)
/-- what is wanted behind a statement -/
def Post (K : PySem.W.Frag) (B : Tb) (E : Ends) (ρ : Rho) (H : Hp) (fl : Fl) (env' : Env) (st' : Store) : Prop := ∀ ρ' H', Ext K ρ H ρ' H' → Rep K B ρ' H' st' →
  match fl with
  | .nx => ∀ σ', REnv K B ρ' H' env' σ' → E.nx σ' H'
  | .ret d => ∀ v, RV K B ρ' H' d v → E.rt v H'
  | .brk => ∀ σ', REnv K B ρ' H' env' σ' → E.bk σ' H'
  | .cnt => ∀ σ', REnv K B ρ' H' env' σ' → E.ct σ' H'
theorem Post.trans {K : PySem.W.Frag} {B : Tb} {E : Ends} {ρ ρ' : Rho} {H H' : Hp} {fl : Fl} {env' : Env} {st' : Store} (e : Ext K ρ H ρ' H') (q : Post K B E ρ H fl env' st') : Post K B E ρ' H' fl env' st' :=
  fun ρ2 H2 e2 r2 => q ρ2 H2 (e.trans e2) r2
section
variable {X : Cx} {B : Tb} {a b e : Expr} {s : Stmt} {ss : List Stmt} {ma mb m : EM} {pos : Pos}
theorem tsm_post {K : PySem.W.Frag} {m : SM} {E : Ends} {σ : L2.St} {H : Hp} {ρ : Rho} {env : Env} {st : Store} {fl : Fl} {env' : Env} {st' : Store} (r : Rep K B ρ H st) (re : REnv K B ρ H env σ) (e : m env st = some (fl, env', st')) (q : Post K B E ρ H fl env' st') : TSm K B m E σ H :=
  ⟨ρ, env, st, fl, env', st', r, re, e, q⟩
theorem ps_fail : SimS X B s failS := ⟨fun _ _ _ _ _ _ h => by
  obtain ⟨ρ, env, st, fl, env', st', _, _, h, _⟩ := h
  cases h⟩
theorem sim_nil : SimB X B [] nextS := PSs.imp pss_nil fun E σ H h => by
  obtain ⟨ρ, env, st, fl, env', st', r, re, e, q⟩ := h
  cases e
  exact q ρ H Ext.refl r σ re
theorem sim_pass : SimS X B (.Pass pos) nextS := PS.imp ps_pass fun E σ H h => by
  obtain ⟨ρ, env, st, fl, env', st', r, re, e, q⟩ := h
  cases e
  exact q ρ H Ext.refl r σ re
theorem sim_break : SimS X B (.Break pos) brkS := PS.imp ps_break fun E σ H h => by
  obtain ⟨ρ, env, st, fl, env', st', r, re, e, q⟩ := h
  cases e
  exact q ρ H Ext.refl r σ re
theorem sim_continue : SimS X B (.Continue pos) cntS := PS.imp ps_continue fun E σ H h => by
  obtain ⟨ρ, env, st, fl, env', st', r, re, e, q⟩ := h
  cases e
  exact q ρ H Ext.refl r σ re
theorem sim_retN : SimS X B (.Return none pos) retN := PS.imp ps_retN fun E σ H h => by
  obtain ⟨ρ, env, st, fl, env', st', r, re, e, q⟩ := h
  cases e
  exact q ρ H Ext.refl r _ rfl
theorem sim_cons {ms : SM} {mr : SM} (h1 : SimS X B s ms) (h2 : SimB X B ss mr) : SimB X B (s :: ss) (seqS ms mr) :=
  PSs.imp (pss_cons h1 h2) fun E σ H h => by
    obtain ⟨ρ, env, st, fl, env', st', r, re, e, q⟩ := h
    obtain ⟨⟨fl1, env1, st1⟩, e1, e⟩ := Option.bind_eq_some_iff.mp e
    refine ⟨ρ, env, st, fl1, env1, st1, r, re, e1, fun ρ1 H1 x1 r1 => ?_⟩
    cases fl1 with
    | nx => exact fun σ1 re1 => ⟨ρ1, env1, st1, fl, env', st', r1, re1, e, fun ρ2 H2 x2 r2 => q ρ2 H2 (x1.trans x2) r2⟩
    | ret d => cases e; exact q ρ1 H1 x1 r1
    | brk => cases e; exact q ρ1 H1 x1 r1
    | cnt => cases e; exact q ρ1 H1 x1 r1
theorem sim_asg {tg : Expr} {sl : List Nat} {g : GM} (he : SimE X B e m) (hg : SimG X B tg sl g) (hs : swapsWithSole [tg] e pos.line X.env = pure false) (hw : swappedStores [tg] e X.env = pure none)
    (h1 : (assignEach [tg] X.env).map (·.2) = [assign tg X.env]) : SimS X B (.Assign [tg] e pos) (asgS m g) :=
  PS.imp (ps_asg he hg hs hw h1) fun E σ H h => by
    obtain ⟨ρ, env, st, fl, env', st', r, re, e, q⟩ := h
    obtain ⟨⟨x, st1⟩, e1, e⟩ := Option.bind_eq_some_iff.mp e
    obtain ⟨⟨env2, st2⟩, e2, e⟩ := Option.map_eq_some_iff.mp e
    cases e
    refine ⟨ρ, env, st, x, st1, r, re, e1, fun ρ1 H1 vx x1 r1 hx => ?_⟩
    exact ⟨ρ1, env, st1, x, _, _, r1, re.mono x1, hx, e2, fun ρ2 H2 σ2 x2 r2 re2 _ _ => q ρ2 H2 (x1.trans x2) r2 σ2 re2⟩
theorem sim_expr (he : SimE X B e m) (hs : swapsWith e none pos.line X.env = pure false) : SimS X B (.Expr e pos) (exprS m) :=
  PS.imp (ps_expr he hs) fun E σ H h => by
    obtain ⟨ρ, env, st, fl, env', st', r, re, e, q⟩ := h
    obtain ⟨⟨x, st1⟩, e1, e⟩ := Option.map_eq_some_iff.mp e
    cases e
    exact ⟨ρ, env, st, x, _, r, re, e1, fun ρ1 H1 vx x1 r1 hx => q ρ1 H1 x1 r1 σ (re.mono x1)⟩
theorem sim_ret (he : SimE X B e m) : SimS X B (.Return (some e) pos) (retS m) :=
  PS.imp (ps_ret he) fun E σ H h => by
    obtain ⟨ρ, env, st, fl, env', st', r, re, e, q⟩ := h
    obtain ⟨⟨x, st1⟩, e1, e⟩ := Option.map_eq_some_iff.mp e
    cases e
    exact ⟨ρ, env, st, x, _, r, re, e1, fun ρ1 H1 vx x1 r1 hx => q ρ1 H1 x1 r1 vx hx⟩
theorem sim_if {t : TM} {s1 s2 : List Stmt} {m1 m2 : SM} (ht : SimT X B e t) (h1 : SimB X B s1 m1) (h2 : SimB X B s2 m2) : SimS X B (.If e s1 s2 pos) (ifS t m1 m2) :=
  PS.imp (ps_if ht h1 h2) fun E σ H h => by
    obtain ⟨ρ, env, st, fl, env', st', r, re, e, q⟩ := h
    obtain ⟨⟨x, st1⟩, e1, e⟩ := Option.bind_eq_some_iff.mp e
    refine ⟨ρ, env, st, x, st1, r, re, e1, fun ρ1 H1 x1 r1 => ?_⟩
    cases x with
    | true => exact tsm_post r1 (re.mono x1) e (Post.trans x1 q)
    | false => exact tsm_post r1 (re.mono x1) e (Post.trans x1 q)
theorem sim_aug {i : Nat} {x : Str} {op : Operator} {o : Op2} {pos' : Pos} (hN : X.N.Nodup) (hi : X.N[i]? = some x) (hx : Loc X.env.scope x) (he : SimE X B e m) (ho : SimO X B (inplaceOp op) o) (hf : X.fn x = true ∨ X.env.scope.names.lookup x = some .local) :
    SimS X B (.AugAssign (.Name x pos') op e pos) (augS i o m) :=
  PS.imp (ps_aug (ti := ROm X.K B o) hN hi hx he ho hf) fun E σ H h => by
    obtain ⟨ρ, env, st, fl, env', st', r, re, e, q⟩ := h
    unfold augS at e
    split at e
    · rename_i x0 hx0
      obtain ⟨⟨y, st1⟩, e1, e⟩ := Option.bind_eq_some_iff.mp e
      obtain ⟨⟨z, st2⟩, e2, e⟩ := Option.map_eq_some_iff.mp e
      cases e
      obtain ⟨v, hv, rv⟩ := re.at_ _ _ hx0
      refine ⟨v, hv, ρ, env, st, y, st1, r, re, e1, fun ρ1 H1 vy x1 r1 hy => ?_⟩
      refine ⟨ρ1, st1, x0, y, z, _, r1, rv.mono x1, hy, e2, fun ρ2 H2 w x2 r2 hw => ?_⟩
      exact q ρ2 H2 (x1.trans x2) r2 _ ((re.mono (x1.trans x2)).set i hw)
    · cases e
/-! ### loops -/
theorem sim_for {it tg : Expr} {body : List Stmt} {im : IM} {sl : List Nat} {g : GM} {mb : SM} (hp : PassesOwn (model X.prog X.w) X.A X.env X.xe) (hc : X.calm = true) (hi : SimI X B tg it im) (hg : SimG X B tg sl g) (hb : SimB X B body mb)
    (hs : ∀ x, foldedSetIterable it X.env x = pure x) : SimS X B (.For tg it body [] pos) (forS im g mb) :=
  PS.imp (ps_for hp hc hi hg hb hs) fun E σ H h => by
    obtain ⟨ρ, env, st, fl, env', st', r, re, e, q⟩ := h
    obtain ⟨⟨⟨items, gd⟩, st1⟩, e1, e⟩ := Option.bind_eq_some_iff.mp e
    refine ⟨ρ, env, st, items, gd, st1, r, re, e1, fun ρ1 H1 J x1 r1 hJ => ?_⟩
    refine ⟨fun i n σ H => ∃ ρ2 env2 st2, Ext X.K ρ1 H1 ρ2 H ∧ Rep X.K B ρ2 H st2 ∧ REnv X.K B ρ2 H env2 σ ∧ forL gd g mb (items.drop i) env2 st2 = some (fl, env', st') ∧ Post X.K B E ρ2 H fl env' st' ∧ n = items.length - i ∧ i ≤ items.length,
      ⟨items.length, ρ1, env, st1, Ext.refl, r1, re.mono x1, e, Post.trans x1 q, rfl, Nat.zero_le _⟩, ?_⟩
    rintro i n σ2 H2 ⟨ρ2, env2, st2, x2, r2, re2, e2, q2, rfl, hil⟩
    by_cases hlt : i < items.length
    · obtain ⟨d, hd⟩ : ∃ d, items[i]? = some d := ⟨items[i], List.getElem?_eq_getElem hlt⟩
      have hdrop : items.drop i = d :: items.drop (i + 1) := by
        rw [List.drop_eq_getElem_cons hlt]
        rw [List.getElem?_eq_getElem hlt] at hd
        cases hd
        rfl
      rw [hdrop] at e2
      simp only [forL] at e2
      split at e2
      · rename_i hgd
        obtain ⟨hgo, hy⟩ := (hJ i ρ2 H2 st2 x2.mo r2 hgd).1 d hd
        obtain ⟨⟨env3, st3⟩, e3, e2⟩ := Option.bind_eq_some_iff.mp e2
        obtain ⟨⟨fl4, env4, st4⟩, e4, e2⟩ := Option.bind_eq_some_iff.mp e2
        refine .inr ⟨hgo, fun σ' H' => ∃ ρ5 env5 st5, Ext X.K ρ1 H1 ρ5 H' ∧ Rep X.K B ρ5 H' st5 ∧ REnv X.K B ρ5 H' env5 σ' ∧ forL gd g mb (items.drop (i + 1)) env5 st5 = some (fl, env', st') ∧ Post X.K B E ρ5 H' fl env' st',
          fun σ' H' ⟨ρ5, env5, st5, a1, a2, a3, a4, a5⟩ => ⟨items.length - (i + 1), by omega, ρ5, env5, st5, a1, a2, a3, a4, a5, rfl, hlt⟩, fun x H3 hyx => ?_⟩
        obtain ⟨x3, r3, hx3⟩ := hy x H3 hyx
        refine ⟨ρ2, env2, st2, d, env3, st3, r3, re2.mono x3, hx3, e3, fun ρ4 H4 σ4 x4 r4 re4 _ _ => ?_⟩
        refine ⟨ρ4, env3, st3, fl4, env4, st4, r4, re4, e4, fun ρ5 H5 x5 r5 => ?_⟩
        have xx := ((x2.trans x3).trans x4).trans x5
        have qq : Post X.K B E ρ5 H5 fl env' st' := Post.trans ((x3.trans x4).trans x5) q2
        cases fl4 with
        | nx => exact fun σ5 re5 => ⟨ρ5, env4, st4, xx, r5, re5, e2, qq⟩
        | cnt => exact fun σ5 re5 => ⟨ρ5, env4, st4, xx, r5, re5, e2, qq⟩
        | brk => cases e2; exact qq ρ5 H5 Ext.refl r5
        | ret d => cases e2; exact qq ρ5 H5 Ext.refl r5
      · cases e2
    · have hi2 : i = items.length := by omega
      subst hi2
      rw [List.drop_length] at e2
      simp only [forL] at e2
      split at e2
      · rename_i hgd
        cases e2
        exact .inl ⟨(hJ _ ρ2 H2 _ x2.mo r2 hgd).2 (Nat.le_refl _), q2 ρ2 H2 Ext.refl r2 σ2 re2⟩
      · cases e2
theorem sim_while {t : TM} {body : List Stmt} {mb : SM} {n : Nat} (hp : PassesOwn (model X.prog X.w) X.A X.env X.xe) (hc : SimT X B e t) (hb : SimB X B body mb) : SimS X B (.While e body [] pos) (whileS t mb n) :=
  PS.imp (ps_while hp hc hb) fun E σ H h => by
    obtain ⟨ρ, env, st, fl, env', st', r, re, e, q⟩ := h
    refine ⟨fun k σ H => ∃ ρ2 env2 st2, Rep X.K B ρ2 H st2 ∧ REnv X.K B ρ2 H env2 σ ∧ whileS t mb k env2 st2 = some (fl, env', st') ∧ Post X.K B E ρ2 H fl env' st', ⟨n, ρ, env, st, r, re, e, q⟩, ?_⟩
    rintro k σ2 H2 ⟨ρ2, env2, st2, r2, re2, e2, q2⟩
    cases k with
    | zero => cases e2
    | succ k =>
      obtain ⟨⟨b, st3⟩, e3, e2⟩ := Option.bind_eq_some_iff.mp e2
      refine ⟨ρ2, env2, st2, b, st3, r2, re2, e3, fun ρ3 H3 x3 r3 => ?_⟩
      cases b with
      | true =>
        obtain ⟨⟨fl4, env4, st4⟩, e4, e2⟩ := Option.bind_eq_some_iff.mp (show ((mb env2 st3).bind _) = _ from e2)
        rw [if_pos rfl]
        refine ⟨fun σ' H' => ∃ ρ5 env5 st5, Rep X.K B ρ5 H' st5 ∧ REnv X.K B ρ5 H' env5 σ' ∧ whileS t mb k env5 st5 = some (fl, env', st') ∧ Post X.K B E ρ5 H' fl env' st', fun σ' H' q5 => ⟨k, Nat.lt_succ_self k, q5⟩, ?_⟩
        refine ⟨ρ3, env2, st3, fl4, env4, st4, r3, re2.mono x3, e4, fun ρ5 H5 x5 r5 => ?_⟩
        have qq : Post X.K B E ρ5 H5 fl env' st' := Post.trans (x3.trans x5) q2
        cases fl4 with
        | nx => exact fun σ5 re5 => ⟨ρ5, env4, st4, r5, re5, e2, qq⟩
        | cnt => exact fun σ5 re5 => ⟨ρ5, env4, st4, r5, re5, e2, qq⟩
        | brk => cases e2; exact qq ρ5 H5 Ext.refl r5
        | ret d => cases e2; exact qq ρ5 H5 Ext.refl r5
      | false =>
        rw [if_neg Bool.false_ne_true]
        cases e2
        exact q2 ρ3 H3 x3 r3 σ2 (re2.mono x3)
end
end Mn
set_option Elab.async false
set_option linter.all false
set_option maxRecDepth 100000
set_option maxHeartbeats 2000000
set_option autoImplicit false
/-! Mn, part G: list comprehensions, methods, calls of defs, displays of dicts. -/
namespace Mn
open PySem PySem.Spec PyProof.Rows L2
def wipeE (env : Env) : List Nat → Env
  | [] => env
  | v :: vs => (wipeE env vs).set v none
def yesT : TM := fun _ st => some (true, st)
def lcL (g : Store → Bool) (tg : GM) (t : TM) (e : EM) (wenv : Env) : List D → Store → Option (List D × Store)
  | [], st => if g st then some ([], st) else none
  | d :: r, st => if g st then (tg d wenv st).bind fun p => (t p.1 p.2).bind fun q => if q.1 then (e p.1 q.2).bind fun x => (lcL g tg t e wenv r x.2).map fun y => (x.1 :: y.1, y.2)
      else lcL g tg t e wenv r q.2
    else none
def lcM (bx : Bool) (vs : List Nat) (im : IM) (tg : GM) (t : TM) (e : EM) : EM := fun env st => (im env st).bind fun p => (lcL p.1.2 tg t e (wipeE env vs) p.1.1 p.2).bind fun q => if q.1.length ≤ bigN then some (mkL bx q.1 q.2) else none
section
variable {K : PySem.W.Frag} {B : Tb}
theorem REnv.wipe {ρ : Rho} {H : Hp} {env : Env} {σ : L2.St} (h : REnv K B ρ H env σ) : ∀ vs : List Nat, REnv K B ρ H (wipeE env vs) (L2.wipe σ vs)
  | [] => h
  | v :: vs => by
    have ih := REnv.wipe h vs
    refine ⟨by simp [wipeE, L2.wipe, ih.len], fun i d hd => ?_⟩
    unfold wipeE at hd
    by_cases hi : v = i
    · subst hi
      by_cases hv : v < (wipeE env vs).length
      · rw [List.getElem?_set_self hv] at hd; cases hd
      · rw [List.getElem?_eq_none (by simpa using hv)] at hd; cases hd
    · rw [List.getElem?_set_ne hi] at hd
      obtain ⟨w, h1, h2⟩ := ih.at_ i d hd
      refine ⟨w, ?_, h2⟩
      unfold L2.wipe
      rw [List.getElem?_set_ne hi]
      exact h1
theorem wipe_at {σ : L2.St} {i : Nat} : ∀ {vs : List Nat}, (i ∈ vs → i < σ.length → (L2.wipe σ vs)[i]? = some none) ∧ (i ∉ vs → (L2.wipe σ vs)[i]? = σ[i]?)
  | [] => ⟨fun h => by simp at h, fun _ => rfl⟩
  | v :: vs => by
    obtain ⟨a, b⟩ := wipe_at (σ := σ) (i := i) (vs := vs)
    constructor
    · intro h hl
      unfold L2.wipe
      by_cases hv : v = i
      · subst hv
        exact List.getElem?_set_self (by rw [wipe_length]; exact hl)
      · rw [List.getElem?_set_ne hv]
        exact a (by simpa [Ne.symm hv] using h) hl
    · intro h
      rw [List.mem_cons, not_or] at h
      unfold L2.wipe
      rw [List.getElem?_set_ne (Ne.symm h.1)]
      exact b h.2
theorem wipe_same {σ σ' : L2.St} {vs : List Nat} (hl : σ'.length = (L2.wipe σ vs).length) (h : ∀ i, i ∉ vs → σ'[i]? = (L2.wipe σ vs)[i]?) : L2.wipe σ' vs = L2.wipe σ vs := by
  rw [wipe_length] at hl
  refine List.ext_getElem? fun i => ?_
  by_cases hi : i ∈ vs
  · by_cases hlt : i < σ.length
    · rw [(wipe_at (σ := σ') (vs := vs)).1 hi (by omega), (wipe_at (σ := σ) (vs := vs)).1 hi hlt]
    · rw [List.getElem?_eq_none (by rw [wipe_length]; omega), List.getElem?_eq_none (by rw [wipe_length]; omega)]
  · rw [(wipe_at (σ := σ') (vs := vs)).2 hi, h i hi]
/-- the object at D, that is being made, is written -/
theorem mo_lock {ρ : Rho} {H : Hp} {D : Addr} {o u : HO} (hD : D ∈ ρ.Z) (hl : H D = some o) (hn : (∃ xs, o = .lst xs) ∨ ∃ kvs, o = .dK kvs) : Mo K ρ H ρ (upd H D u) := by
  refine ⟨List.prefix_refl _, fun a v e n => ?_, fun a xs q => ?_, fun a v w e => ?_⟩
  · have : a ≠ D := fun z => n (.inr (z ▸ hD))
    exact ⟨by rw [upd_ne this]; exact e, n⟩
  · have key : ∀ v, H a = some v → (v = .tup xs ∨ ∃ w, v = .frz w (.tup xs)) → a ≠ D := fun v e t z => by
      subst z
      rw [hl] at e
      cases e
      rcases hn with ⟨_, rfl⟩ | ⟨_, rfl⟩ <;> rcases t with t | ⟨_, t⟩ <;> cases t
    rcases q with (q | ⟨w, q⟩) | q
    · exact .inl (.inl (by rw [upd_ne (key _ q (.inl rfl))]; exact q))
    · exact .inl (.inr ⟨w, by rw [upd_ne (key _ q (.inr ⟨w, rfl⟩))]; exact q⟩)
    · exact .inr q
  · have : a ≠ D := fun z => by
      subst z
      rw [hl] at e
      cases e
      rcases hn with ⟨_, q⟩ | ⟨_, q⟩ <;> cases q
    rw [upd_ne this]; exact e
theorem rep_lock {ρ : Rho} {H : Hp} {st : Store} {D : Addr} {o u : HO} (r : Rep K B ρ H st) (hD : D ∈ ρ.Z) (hl : H D = some o) (hn : (∃ xs, o = .lst xs) ∨ ∃ kvs, o = .dK kvs) : Rep K B ρ (upd H D u) st := by
  have hix := (r.zs D hD).2
  refine ⟨r.len, r.nd, fun n v e => ?_, fun z hz => ?_⟩
  · obtain ⟨a, e1, e2⟩ := r.obj n v e
    refine ⟨a, e1, e2.mo (mo_lock hD hl hn) ?_⟩
    have : a ≠ D := fun z => hix (z ▸ List.mem_of_getElem? e1)
    rw [upd_ne this]
  · refine ⟨?_, (r.zs z hz).2⟩
    by_cases hz' : z = D
    · subst hz'; exact ⟨u, upd_same⟩
    · obtain ⟨w, hw⟩ := (r.zs z hz).1
      exact ⟨w, by rw [upd_ne hz']; exact hw⟩
/-- an object is begun -/
def Rho.lock (ρ : Rho) (D : Addr) : Rho := ⟨ρ.ix, D :: ρ.Z⟩
theorem mo_begin {ρ : Rho} {H : Hp} {D : Addr} {o : HO} (h : H D = none) : Mo K ρ H (ρ.lock D) (upd H D o) := by
  refine ⟨List.prefix_refl _, fun a v e n => ⟨by rw [upd_ne (ne_of_none e h)]; exact e, fun z => ?_⟩, fun a xs q => sqT_upd h q, fun a u v e => by rw [upd_ne (ne_of_none e h)]; exact e⟩
  rcases z with z | z
  · exact n (.inl z)
  · rcases List.mem_cons.mp z with z | z
    · exact ne_of_none e h z
    · exact n (.inr z)
theorem rep_begin {ρ : Rho} {H : Hp} {st : Store} {D : Addr} {o : HO} (r : Rep K B ρ H st) (h : H D = none) : Rep K B (ρ.lock D) (upd H D o) st := by
  have r2 := r.new (o := o) h
  refine ⟨r.len, r.nd, fun n v e => ?_, fun z hz => ?_⟩
  · obtain ⟨a, e1, e2⟩ := r.obj n v e
    refine ⟨a, e1, e2.mo (mo_begin h) ?_⟩
    have : a ≠ D := fun z => r.freshI h (z ▸ List.mem_of_getElem? e1)
    rw [upd_ne this]
  · rcases List.mem_cons.mp hz with rfl | hz
    · exact ⟨⟨o, upd_same⟩, r.freshI h⟩
    · exact r2.zs z hz
/-- the frame since the start -/
structure Fr0 (K : PySem.W.Frag) (ρ : Rho) (H : Hp) (ρ' : Rho) (H' : Hp) (D : Addr) : Prop where
  pre : ρ.ix <+: ρ'.ix
  z : ρ'.Z = D :: ρ.Z
  frame : ∀ a o, H a = some o → a ∉ ρ.ix → H' a = some o ∧ a ∉ ρ'.ix
  tups : ∀ a xs, SqT K H a xs → SqT K H' a xs
  frzs : ∀ a o u, H a = some (.frz o u) → H' a = some (.frz o u)
theorem Fr0.mo {ρ ρ' : Rho} {H H' : Hp} {D : Addr} (f : Fr0 K ρ H ρ' H' D) (h : H D = none) : Mo K ρ H ρ' H' := by
  refine ⟨f.pre, fun a o e n => ?_, f.tups, f.frzs⟩
  obtain ⟨h1, h2⟩ := f.frame a o e fun z => n (.inl z)
  refine ⟨h1, fun z => ?_⟩
  rcases z with z | z
  · exact h2 z
  · rw [f.z] at z
    rcases List.mem_cons.mp z with z | z
    · exact ne_of_none e h z
    · exact n (.inr z)
theorem Fr0.begin {ρ : Rho} {H : Hp} {D : Addr} {o : HO} (h : H D = none) : Fr0 K ρ H (ρ.lock D) (upd H D o) D :=
  ⟨List.prefix_refl _, rfl, fun a v e n => ⟨by rw [upd_ne (ne_of_none e h)]; exact e, n⟩, fun a xs q => sqT_upd h q, fun a u v e => by rw [upd_ne (ne_of_none e h)]; exact e⟩
theorem Fr0.ext {ρ ρ' ρ'' : Rho} {H H' H'' : Hp} {D : Addr} (f : Fr0 K ρ H ρ' H' D) (e : Ext K ρ' H' ρ'' H'') : Fr0 K ρ H ρ'' H'' D :=
  ⟨f.pre.trans e.pre, e.z.trans f.z, fun a o h n => let ⟨h1, n1⟩ := f.frame a o h n; e.frame a o h1 n1, fun a xs h => e.tups a xs (f.tups a xs h), fun a o u h => e.frzs a o u (f.frzs a o u h)⟩
theorem Fr0.write {ρ ρ' : Rho} {H H' : Hp} {D : Addr} {o u : HO} (f : Fr0 K ρ H ρ' H' D) (h : H D = none) (hl : H' D = some o) (hn : (∃ xs, o = .lst xs) ∨ ∃ kvs, o = .dK kvs) : Fr0 K ρ H ρ' (upd H' D u) D := by
  have hD : D ∈ ρ'.Z := by rw [f.z]; exact List.mem_cons_self
  have m := mo_lock (K := K) (u := u) hD hl hn
  exact ⟨f.pre, f.z, fun a v e n => let ⟨h1, n1⟩ := f.frame a v e n; ⟨by rw [upd_ne (ne_of_none e h)]; exact h1, n1⟩, fun a xs q => m.tups a xs (f.tups a xs q), fun a v w e => m.frzs a v w (f.frzs a v w e)⟩
/-- the object is done: it stands as a value, or joins the store -/
theorem Fr0.done {ρ ρ' : Rho} {H H' : Hp} {D : Addr} {st : Store} {bx : Bool} {xs : List Mn.D} {vs : List V} {d : Mn.D} {st' : Store} {Q : VK} (f : Fr0 K ρ H ρ' H' D) (r₀ : ∀ z ∈ ρ.Z, ∃ o, H z = some o) (h : H D = none) (hD : D ∉ ρ'.ix) (r : Rep K B ρ' H' st) (hl : H' D = some (.lst vs)) (hv : RVs K B ρ' H' xs vs)
    (e : mkL bx xs st = (d, st')) (q : After K B (RV K B) ρ H d st' Q) : Q (.ref D) H' := by
  have nz : D ∉ ρ.Z := fun z => by
    obtain ⟨o, e⟩ := r₀ D z
    rw [h] at e; cases e
  cases bx with
  | false =>
    obtain ⟨rfl, rfl⟩ := Prod.mk.inj (show (Mn.D.lst xs, st) = (d, st') from e)
    have m : Mo K ρ' H' ⟨ρ'.ix, ρ.Z⟩ H' := ⟨List.prefix_refl _, fun a o e n => ⟨e, fun z => n (by
      rcases z with z | z
      · exact .inl z
      · exact .inr (by rw [f.z]; exact List.mem_cons_of_mem _ z))⟩, fun _ _ q => q, fun _ _ _ q => q⟩
    refine q ⟨ρ'.ix, ρ.Z⟩ H' _ ⟨f.pre, rfl, f.frame, f.tups, f.frzs⟩ ⟨r.len, r.nd, fun n o e => ?_, fun z hz => r.zs z (by rw [f.z]; exact List.mem_cons_of_mem _ hz)⟩ ⟨D, vs, rfl, hl, fun z => ?_, RVs.mo m _ _ hv⟩
    · obtain ⟨a, e1, e2⟩ := r.obj n o e
      exact ⟨a, e1, e2.mo m rfl⟩
    · rcases z with z | z
      · exact hD z
      · exact nz z
  | true =>
    obtain ⟨rfl, rfl⟩ := Prod.mk.inj (show (Mn.D.ref st.length, st ++ [.lst xs]) = (d, st') from e)
    have hz : D ∈ ρ'.Z := by rw [f.z]; exact List.mem_cons_self
    have m : Mo K ρ' H' ⟨ρ'.ix ++ [D], ρ.Z⟩ H' := ⟨List.prefix_append _ _, fun a o e n => ⟨e, fun z => n (by
      rcases z with z | z
      · rcases List.mem_append.mp z with z | z
        · exact .inl z
        · have : a = D := by simpa using z
          exact .inr (this ▸ hz)
      · exact .inr (by rw [f.z]; exact List.mem_cons_of_mem _ z))⟩, fun _ _ q => q, fun _ _ _ q => q⟩
    have at_ : (ρ'.ix ++ [D])[st.length]? = some D := by rw [← r.len, List.getElem?_append_right (Nat.le_refl _)]; simp
    refine q ⟨ρ'.ix ++ [D], ρ.Z⟩ H' _ ⟨f.pre.trans (List.prefix_append _ _), rfl, fun a o e n => ?_, f.tups, f.frzs⟩ ⟨by simp [r.len], ?_, fun n o e => ?_, fun z hz2 => ?_⟩ ⟨D, rfl, at_⟩
    · obtain ⟨h1, h2⟩ := f.frame a o e n
      refine ⟨h1, fun z => ?_⟩
      rcases List.mem_append.mp z with z | z
      · exact h2 z
      · exact ne_of_none e h (by simpa using z)
    · rw [List.nodup_append]
      refine ⟨r.nd, by simp, fun a ha b hb => ?_⟩
      have hb : b = D := by simpa using hb
      subst hb
      exact fun z => hD (z ▸ ha)
    · by_cases hn : n < st.length
      · rw [List.getElem?_append_left hn] at e
        obtain ⟨a, e1, e2⟩ := r.obj n o e
        exact ⟨a, m.get e1, e2.mo m rfl⟩
      · have hn2 : n = st.length := by
          have := (List.getElem?_eq_some_iff.mp e).1
          simp at this
          omega
        subst hn2
        rw [List.getElem?_append_right (Nat.le_refl _)] at e
        simp at e
        subst e
        exact ⟨D, at_, vs, hl, RVs.mo m _ _ hv⟩
    · refine ⟨(r.zs z (by rw [f.z]; exact List.mem_cons_of_mem _ hz2)).1, fun z3 => ?_⟩
      rcases List.mem_append.mp z3 with z3 | z3
      · exact (r.zs z (by rw [f.z]; exact List.mem_cons_of_mem _ hz2)).2 z3
      · have : z = D := by simpa using z3
        exact nz (this ▸ hz2)
end
/-! ### list comprehensions -/
theorem PTs.imp {X : Cx} {e : List Expr} {t t' : TT} (h : PTs X e t) (k : ∀ σ H Q, t' σ H Q → t σ H Q) : PTs X e t' := ⟨fun pins s σ H Q I q => h.run pins s σ H Q I (k σ H Q q)⟩
theorem sim_tests0 {X : Cx} {B : Tb} : PTs X [] (TTm X.K B yesT) := PTs.imp pts_nil fun σ H Q h => by
  obtain ⟨ρ, env, st, k, st', r, re, e, q⟩ := h
  cases e
  exact q ρ H Ext.refl r
theorem sim_tests1 {X : Cx} {B : Tb} {c : Expr} {t : TM} (h : SimT X B c t) : PTs X [c] (TTm X.K B t) := pts_one h
theorem tlc_of {K : PySem.W.Frag} {B : Tb} {bx : Bool} {vs sl : List Nat} {im : IM} {tg : GM} {t : TM} {e : EM} (hsl : ∀ i ∈ sl, i ∈ vs) {σ : L2.St} {H : Hp} {Q : VK} (h : TEm K B (lcM bx vs im tg t e) σ H Q) :
    tLc (TIm K B im) (TGm K B sl tg) (TTm K B t) (TEm K B e) vs σ H Q := by
  obtain ⟨ρ, env, st, d, st', r, re, ee, q⟩ := h
  obtain ⟨⟨⟨items, gd⟩, st1⟩, e1, ee⟩ := Option.bind_eq_some_iff.mp ee
  obtain ⟨⟨all, st2⟩, e2, ee⟩ := Option.bind_eq_some_iff.mp ee
  dsimp only at ee e2
  split at ee
  · rename_i hz
    have emk := Option.some.inj ee
    refine ⟨ρ, env, st, items, gd, st1, r, re, e1, fun ρ1 H1 J x1 r1 hJ D hDn => ?_⟩
    have q1 : After K B (RV K B) ρ1 H1 d st' Q := q.trans x1
    have re1 : REnv K B ρ1 H1 (wipeE env vs) (L2.wipe σ vs) := (re.mono x1).wipe vs
    refine ⟨fun i m H' => ∃ ρ' st3 acc accV rest, Fr0 K ρ1 H1 ρ' H' D ∧ D ∉ ρ'.ix ∧ Rep K B ρ' H' st3 ∧ H' D = some (.lst accV) ∧ RVs K B ρ' H' acc accV ∧ lcL gd tg t e (wipeE env vs) (items.drop i) st3 = some (rest, st2) ∧ acc ++ rest = all ∧ m = items.length - i ∧ i ≤ items.length,
      ⟨items.length, ρ1.lock D, st1, [], [], all, Fr0.begin hDn, r1.freshI hDn, rep_begin r1 hDn, upd_same, rfl, e2, rfl, rfl, Nat.zero_le _⟩, ?_⟩
    rintro i m H' ⟨ρ', st3, acc, accV, rest, f, hD, r', hl, hv, el, hall, rfl, hil⟩
    have mo1 : Mo K ρ1 H1 ρ' H' := f.mo hDn
    have hDz : D ∈ ρ'.Z := by rw [f.z]; exact List.mem_cons_self
    by_cases hlt : i < items.length
    · obtain ⟨dd, hd⟩ : ∃ d, items[i]? = some d := ⟨items[i], List.getElem?_eq_getElem hlt⟩
      have hdrop : items.drop i = dd :: items.drop (i + 1) := by
        rw [List.drop_eq_getElem_cons hlt]
        rw [List.getElem?_eq_getElem hlt] at hd
        cases hd
        rfl
      rw [hdrop] at el
      simp only [lcL] at el
      split at el
      · rename_i hgd
        obtain ⟨hgo, hy⟩ := (hJ i ρ' H' st3 mo1 r' hgd).1 dd hd
        obtain ⟨⟨env4, st4⟩, e4, el⟩ := Option.bind_eq_some_iff.mp el
        obtain ⟨⟨bb, st5⟩, e5, el⟩ := Option.bind_eq_some_iff.mp el
        refine .inr ⟨hgo, fun H' => ∃ ρ' st3 acc accV rest, Fr0 K ρ1 H1 ρ' H' D ∧ D ∉ ρ'.ix ∧ Rep K B ρ' H' st3 ∧ H' D = some (.lst accV) ∧ RVs K B ρ' H' acc accV ∧ lcL gd tg t e (wipeE env vs) (items.drop (i + 1)) st3 = some (rest, st2) ∧ acc ++ rest = all,
          fun H' ⟨a1, a2, a3, a4, a5, a6, a7, a8, a9, b1, b2, b3⟩ => ⟨items.length - (i + 1), by omega, a1, a2, a3, a4, a5, a6, a7, a8, a9, b1, b2, b3, rfl, hlt⟩, fun x H3 hyx => ?_⟩
        obtain ⟨x3, r3, hx3⟩ := hy x H3 hyx
        refine ⟨ρ', wipeE env vs, st3, dd, env4, st4, r3, (REnv.mo mo1 re1).mono x3, hx3, e4, fun ρ4 H4 σ4 x4 r4 re4 l4 k4 => ?_⟩
        refine ⟨wipe_same l4 fun i hi => k4 i fun z => hi (hsl i z), ?_⟩
        refine ⟨ρ4, env4, st4, bb, st5, r4, re4, e5, fun ρ5 H5 x5 r5 => ?_⟩
        have x35 := (x3.trans x4).trans x5
        cases bb with
        | true =>
          obtain ⟨⟨xx, st6⟩, e6, el⟩ := Option.bind_eq_some_iff.mp (show ((e env4 st5).bind _) = _ from el)
          obtain ⟨⟨rest', st7⟩, e7, el⟩ := Option.map_eq_some_iff.mp el
          obtain ⟨rfl, rfl⟩ := Prod.mk.inj el
          show (if true = true then _ else _)
          rw [if_pos rfl]
          refine ⟨ρ5, env4, st5, xx, st6, r5, re4.mono x5, e6, fun ρ6 H6 y x6 r6 hy6 => ?_⟩
          have x36 := x35.trans x6
          obtain ⟨l6, n6⟩ := x36.frame D _ hl hD
          have z6 : D ∈ ρ6.Z := by rw [x36.z]; exact hDz
          have mw : Mo K ρ6 H6 ρ6 (upd H6 D (.lst (accV ++ [y]))) := mo_lock z6 l6 (.inl ⟨_, rfl⟩)
          refine ⟨accV, l6, ?_, ρ6, st6, acc ++ [xx], accV ++ [y], rest', (f.ext x36).write hDn l6 (.inl ⟨_, rfl⟩), n6, rep_lock r6 z6 l6 (.inl ⟨_, rfl⟩), upd_same, ?_, e7, by rw [List.append_assoc]; exact hall⟩
          · rw [bigN_eq, ← hv.len]
            have := congrArg List.length hall
            rw [List.length_append, List.length_cons] at this
            omega
          · exact RVs.mo mw _ _ ((hv.mono x36).append ⟨y, [], rfl, hy6, rfl⟩)
        | false =>
          show (if false = true then _ else _)
          rw [if_neg Bool.false_ne_true]
          obtain ⟨l5, n5⟩ := x35.frame D _ hl hD
          exact ⟨ρ5, st5, acc, accV, rest, f.ext x35, n5, r5, l5, hv.mono x35, el, hall⟩
      · cases el
    · have hi2 : i = items.length := by omega
      subst hi2
      rw [List.drop_length] at el
      simp only [lcL] at el
      split at el
      · rename_i hgd
        obtain ⟨rfl, rfl⟩ := Prod.mk.inj (Option.some.inj el)
        rw [List.append_nil] at hall
        subst hall
        exact .inl ⟨(hJ _ ρ' H' _ mo1 r' hgd).2 (Nat.le_refl _), f.done (fun z hz => (r1.zs z hz).1) hDn hD r' hl hv emk q1⟩
      · cases el
  · cases ee
section
variable {X : Cx} {B : Tb} {pos : Pos}
theorem sim_lc {elt tg iter : Expr} {ifs : List Expr} {scope : Scope} {own : List (Str × Nat)} {im : IM} {sl : List Nat} {g : GM} {t : TM} {m : EM} (bx : Bool) (hc : X.calm = true) (hN : X.N.Nodup) (hi : SimI X B tg iter im) (ok : BlkOk X.N X.env.scope scope own) (hsl : ∀ i ∈ sl, i ∈ own.map (·.2))
    (hg : ∀ (s : Shared) (H : Hp) (C : Addr) (cl : List (Str × Addr)) (fp : List Addr), SimG (X.blk s H scope (compEnvC scope cl C X.env) fp) B tg sl g) (ht : ∀ (s : Shared) (H : Hp) (C : Addr) (cl : List (Str × Addr)) (fp : List Addr), PTs (X.blk s H scope (compEnvC scope cl C X.env) fp) ifs (TTm X.K B t))
    (he : ∀ (s : Shared) (H : Hp) (C : Addr) (cl : List (Str × Addr)) (fp : List Addr), SimE (X.blk s H scope (compEnvC scope cl C X.env) fp) B elt m) (hs : ∀ x, foldedSetIterable iter X.env x = pure x) :
    SimE X B (.ListComp elt [⟨tg, iter, ifs, 0⟩] scope pos) (lcM bx (own.map (·.2)) im g t m) :=
  PE.imp (pe_lc hc hN hi ok hg ht he hs) fun σ H Q h => tlc_of hsl h
theorem sim_setLc {i : Nat} {y : Str} {py spos : Pos} {elt tg iter : Expr} {ifs : List Expr} {scope : Scope} {own : List (Str × Nat)} {im : IM} {sl : List Nat} {g : GM} {t : TM} {m : EM} (bx : Bool) (hc : X.calm = true) (hN : X.N.Nodup) (hy : X.N[i]? = some y) (hyl : X.env.scope.names.lookup y = some .local)
    (hsw : swapsWith (.ListComp elt [⟨tg, iter, ifs, 0⟩] scope pos) (some (.Name y py)) spos.line X.env = pure true) (hi : SimI X B tg iter im) (ok : BlkOk X.N X.env.scope scope own) (hsl : ∀ i ∈ sl, i ∈ own.map (·.2))
    (hg : ∀ (s : Shared) (H : Hp) (C : Addr) (cl : List (Str × Addr)) (fp : List Addr), SimG (X.blk s H scope (compEnvC scope cl C X.env) fp) B tg sl g) (ht : ∀ (s : Shared) (H : Hp) (C : Addr) (cl : List (Str × Addr)) (fp : List Addr), PTs (X.blk s H scope (compEnvC scope cl C X.env) fp) ifs (TTm X.K B t))
    (he : ∀ (s : Shared) (H : Hp) (C : Addr) (cl : List (Str × Addr)) (fp : List Addr), SimE (X.blk s H scope (compEnvC scope cl C X.env) fp) B elt m) (hs : ∀ x, foldedSetIterable iter X.env x = pure x) :
    SimS X B (.Assign [.Name y py] (.ListComp elt [⟨tg, iter, ifs, 0⟩] scope pos) spos) (asgS (lcM bx (own.map (·.2)) im g t m) (nameG i)) :=
  PS.imp (ps_setLc hc hN hy hyl hsw hi ok hg ht he hs) fun E σ H h => by
    obtain ⟨ρ, env, st, fl, env', st', r, re, e, q⟩ := h
    obtain ⟨⟨x, st1⟩, e1, e⟩ := Option.bind_eq_some_iff.mp e
    obtain ⟨⟨env2, st2⟩, e2, e⟩ := Option.map_eq_some_iff.mp e
    cases e
    cases e2
    exact tlc_of hsl ⟨ρ, env, st, x, _, r, re, e1, fun ρ1 H1 vx x1 r1 hx => q ρ1 H1 x1 r1 _ ((re.mono x1).set i hx)⟩
end
/-! ### methods of lists and dicts -/
abbrev MM := D → List D → Store → Option (D × Store)
def RMm (K : PySem.W.Frag) (B : Tb) (m : MM) : V → List V → Hp → VK → Prop := fun vo vs H Q => ∃ ρ st o ds d st', Rep K B ρ H st ∧ RV K B ρ H o vo ∧ RVs K B ρ H ds vs ∧ m o ds st = some (d, st') ∧ After K B (RV K B) ρ H d st' Q
/-- a list's method -/
def mthL (m : MM) (o : EM) (as : AM) : EM := fun env st => (o env st).bind fun p => match lstFOf p.2 p.1 with
  | some _ => (as env p.2).bind fun q => m p.1 q.1 q.2
  | none => none
def appendO : MM := fun o ds st => match o, ds with
  | .ref n, [y] => (match st[n]? with
    | some (.lst xs) => if xs.length < bigN then some (.non, st.set n (.lst (xs ++ [y]))) else none
    | _ => none)
  | _, _ => none
def popO : MM := fun o ds st => match o, ds with
  | .ref n, [] => (match st[n]? with
    | some (.lst xs) => (match xs[xs.length - 1]? with
      | some y => some (y, st.set n (.lst xs.dropLast))
      | none => none)
    | _ => none)
  | .ref n, [.int i] => (match st[n]? with
    | some (.lst xs) => (match (if decide (-(2 ^ 63) ≤ i) && decide (i < 2 ^ 63) then seqIndex? i xs.length else none) with
      | some k => (match xs[k]? with
        | some y => some (y, st.set n (.lst (xs.eraseIdx k)))
        | none => none)
      | none => none)
    | _ => none)
  | _, _ => none
section
variable {X : Cx} {B : Tb} {pos : Pos}
theorem RVs.eraseIdx {K : PySem.W.Frag} {ρ : Rho} {H : Hp} : ∀ {ds : List D} {vs : List V} (n : Nat), RVs K B ρ H ds vs → RVs K B ρ H (ds.eraseIdx n) (vs.eraseIdx n)
  | [], _, n, h => by rw [show _ = [] from h]; exact rfl
  | d :: ds, _, 0, h => by
    obtain ⟨v, vr, rfl, e2, e3⟩ := h
    exact e3
  | d :: ds, _, n + 1, h => by
    obtain ⟨v, vr, rfl, e2, e3⟩ := h
    exact ⟨v, _, rfl, e2, RVs.eraseIdx n e3⟩
theorem RVs.dropLast {K : PySem.W.Frag} {ρ : Rho} {H : Hp} {ds : List D} {vs : List V} (h : RVs K B ρ H ds vs) : RVs K B ρ H ds.dropLast vs.dropLast := by
  rw [List.dropLast_eq_take, List.dropLast_eq_take, ← h.len]
  exact h.take _
theorem sim_append : MtR X "list.append" (RMm X.K B appendO) := by
  rintro pins s σ H vo vs ov us Q I ro rs ⟨ρ, st, o, ds, d, st', r, h1, h2, e, q⟩
  unfold appendO at e
  split at e
  · rename_i n y
    split at e
    · rename_i xs q1
      split at e
      · rename_i hz
        cases e
        obtain ⟨a, rfl, hn⟩ := h1
        obtain ⟨v, rfl, hv⟩ := h2.one
        obtain ⟨a', e1, ws, e2, e3⟩ := r.obj n _ q1
        rw [hn] at e1
        cases e1
        refine mt_append pins s σ H _ _ ov us Q I ro rs ⟨a, ws, v, rfl, rfl, e2, by rw [bigN_eq, ← e3.len]; exact hz, ?_⟩
        exact q ρ _ _ (Ext.write r hn) (r.write hn ⟨_, upd_same, (e3.append (es := [_]) ⟨v, [], rfl, hv, rfl⟩).mono (Ext.write r hn)⟩) rfl
      · cases e
    · cases e
  · cases e
theorem sim_pop : MtR X "list.pop" (RMm X.K B popO) := by
  rintro pins s σ H vo vs ov us Q I ro rs ⟨ρ, st, o, ds, d, st', r, h1, h2, e, q⟩
  unfold popO at e
  split at e
  · rename_i n
    split at e
    · rename_i xs q1
      split at e
      · rename_i y hy
        cases e
        obtain ⟨a, rfl, hn⟩ := h1
        have : vs = [] := h2
        subst this
        obtain ⟨a', e1, ws, e2, e3⟩ := r.obj n _ q1
        rw [hn] at e1
        cases e1
        obtain ⟨v, hv, hv2⟩ := e3.get hy
        refine mt_pop pins s σ H _ _ ov us Q I ro rs ⟨a, ws, v, rfl, rfl, e2, by rw [← e3.len]; exact hv, ?_⟩
        exact q ρ _ _ (Ext.write r hn) (r.write hn ⟨_, upd_same, e3.dropLast.mono (Ext.write r hn)⟩) (hv2.mono (Ext.write r hn))
      · cases e
    · cases e
  · rename_i n i
    split at e
    · rename_i xs q1
      split at e
      · rename_i k hk
        split at hk
        · rename_i hb
          simp only [Bool.and_eq_true, decide_eq_true_eq] at hb
          split at e
          · rename_i y hy
            cases e
            obtain ⟨a, rfl, hn⟩ := h1
            obtain ⟨vi, rfl, hvi⟩ := h2.one
            cases hvi
            obtain ⟨a', e1, ws, e2, e3⟩ := r.obj n _ q1
            rw [hn] at e1
            cases e1
            obtain ⟨v, hv, hv2⟩ := e3.get hy
            refine mt_popAt pins s σ H _ _ ov us Q I ro rs ⟨a, ws, i, k, v, rfl, rfl, e2, hb.1, hb.2, by rw [← e3.len]; exact hk, hv, ?_⟩
            exact q ρ _ _ (Ext.write r hn) (r.write hn ⟨_, upd_same, (e3.eraseIdx k).mono (Ext.write r hn)⟩) (hv2.mono (Ext.write r hn))
          · cases e
        · cases hk
      · cases e
    · cases e
  · cases e
/-- o.m(e, ..), o a list -/
theorem sim_mthL {o e : Expr} {es : List Expr} {name : Str} {id : String} {m : MM} {mo : EM} {as : AM} {apos cpos : Pos} (slot : Slot "list" name id) (hty : typeOf (.builtin id) = pure (.type "method_descriptor")) (hm : MtR X id (RMm X.K B m)) (ho : SimE X B o mo) (ha : SimA X B (e :: es) as)
    (hbase : attributeBase o name X.env (eval o X.env) = eval o X.env)
    (hfew : ((backTo cpos (starEach (e :: es) X.env)).all (fun x => !x.1) && (backToKw cpos (keywordEach [] X.env)).all (fun x => x.1.isSome)
      && decide ((e :: es).length + ([] : List Keyword).length + (if ([] : List Keyword).isEmpty then 0 else 1) < 30)) = true)
    (hline : (apos.endLine == cpos.line) = true) (hs : starEach (e :: es) X.env = (false, eval e X.env) :: starEach es X.env) (hplain : (backTo cpos (starEach es X.env)).any (·.1) = false) :
    SimE X B (.Call (.Attribute o name apos) (e :: es) [] cpos) (mthL m mo as) :=
  PE.imp (pe_bm PySem.F.plainAttrs_list slot hty hm ho ha hbase hfew hline hs hplain) fun σ H Q h => by
    obtain ⟨ρ, env, st, d, st', r, re, e, q⟩ := h
    obtain ⟨⟨x, st1⟩, e1, e⟩ := Option.bind_eq_some_iff.mp e
    dsimp only at e
    split at e
    · rename_i xs ex
      obtain ⟨⟨ds, st2⟩, e2, e⟩ := Option.bind_eq_some_iff.mp e
      refine ⟨ρ, env, st, x, st1, r, re, e1, fun ρ1 H1 vx x1 r1 hx => ?_⟩
      obtain ⟨a, ws, rfl, hsq, _⟩ := lstFOf_rep r1 hx ex
      refine ⟨.inl ⟨rfl, ws, hsq⟩, ρ1, env, st1, ds, st2, r1, re.mono x1, e2, fun ρ2 H2 vs x2 r2 hv => ?_⟩
      exact ⟨ρ2, st2, x, ds, d, st', r2, hx.mono x2, hv, e, q.trans (x1.trans x2)⟩
    · cases e
theorem sim_mthL0 {o : Expr} {name : Str} {id : String} {m : MM} {mo : EM} {apos cpos : Pos} (slot : Slot "list" name id) (hty : typeOf (.builtin id) = pure (.type "method_descriptor")) (hm : MtR X id (RMm X.K B m)) (ho : SimE X B o mo)
    (hbase : attributeBase o name X.env (eval o X.env) = eval o X.env) (hline : (apos.endLine == cpos.line) = true) :
    SimE X B (.Call (.Attribute o name apos) [] [] cpos) (mthL m mo nilA) :=
  PE.imp (pe_bm0 PySem.F.plainAttrs_list slot hty hm ho hbase hline) fun σ H Q h => by
    obtain ⟨ρ, env, st, d, st', r, re, e, q⟩ := h
    obtain ⟨⟨x, st1⟩, e1, e⟩ := Option.bind_eq_some_iff.mp e
    dsimp only at e
    split at e
    · rename_i xs ex
      obtain ⟨⟨ds, st2⟩, e2, e⟩ := Option.bind_eq_some_iff.mp e
      cases e2
      refine ⟨ρ, env, st, x, _, r, re, e1, fun ρ1 H1 vx x1 r1 hx => ?_⟩
      obtain ⟨a, ws, rfl, hsq, _⟩ := lstFOf_rep r1 hx ex
      exact ⟨.inl ⟨rfl, ws, hsq⟩, ρ1, _, x, [], d, st', r1, hx, rfl, e, q.trans x1⟩
    · cases e
end
/-! ### calls of the text's own defs -/
/-- a def's promise: it does what run says -/
def SpOf (K : PySem.W.Frag) (B : Tb) (np : Nat) (run : CM) : Sp := fun vs H Q _ => vs.length = np ∧ ∃ ρ st ds d st', Rep K B ρ H st ∧ RVs K B ρ H ds vs ∧ run ds st = some (d, st') ∧ After K B (RV K B) ρ H d st' Q
section
variable {X : Cx} {B : Tb} {pos p : Pos} {CX : CXT} {k np : Nat} {f : Addr} {fd : FuncData} {ps : List Str} {x : Str} {run : CM} {E : XK} {dvs : List V} {dds : List D} {dus : List Value}
/-- f(e, ..), positional, the defaults behind -/
theorem sim_def {e : Expr} {es : List Expr} {as : AM} (F : FnOk X.prog X.w X.K X.mg X.base CX k f fd ps (SpOf X.K B np run)) (hr : Room k X.A) (hg : Gl X x) (hm : X.mg x = some (.ref f)) (hk : PySem.W.keepIn X.K (.ref f) = true) (hb : Binds X.K fd ps dus) (hd : Vals dvs dus) (hx : Passes CX X E) (hdd : ∀ ρ H, RVs X.K B ρ H dds dvs)
    (ha : SimA X B (e :: es) as) (hdb : (x == ("__debug__" : Str)) = false) (he : starEach (e :: es) X.env = (false, eval e X.env) :: starEach es X.env) (hpl : (backTo pos (starEach es X.env)).any (·.1) = false) :
    SimE X B (.Call (.Name x p) (e :: es) [] pos) (callM (fun ds st => if (ds ++ dds).length = np then run (ds ++ dds) st else none) as) :=
  PE.imp (pe_call F hr hg hm hk hb hd hx ha hdb he hpl) fun σ H Q h => by
    obtain ⟨ρ, env, st, d, st', r, re, e, q⟩ := h
    obtain ⟨⟨xs, st1⟩, e1, e⟩ := Option.bind_eq_some_iff.mp e
    dsimp only at e
    split at e
    · rename_i hl
      refine ⟨ρ, env, st, xs, st1, r, re, e1, fun ρ1 H1 vs x1 r1 hv => ?_⟩
      have hv2 := hv.append (hdd ρ1 H1)
      exact ⟨by rw [← hv2.len]; exact hl, ρ1, st1, xs ++ dds, d, st', r1, hv2, e, q.trans x1⟩
    · cases e
theorem sim_def0 (F : FnOk X.prog X.w X.K X.mg X.base CX k f fd ps (SpOf X.K B np run)) (hr : Room k X.A) (hg : Gl X x) (hm : X.mg x = some (.ref f)) (hk : PySem.W.keepIn X.K (.ref f) = true) (hb : Binds X.K fd ps dus) (hd : Vals dvs dus) (hx : Passes CX X E) (hdd : ∀ ρ H, RVs X.K B ρ H dds dvs)
    (hdb : (x == ("__debug__" : Str)) = false) : SimE X B (.Call (.Name x p) [] [] pos) (callM (fun ds st => if (ds ++ dds).length = np then run (ds ++ dds) st else none) nilA) :=
  PE.imp (pe_call0 F hr hg hm hk hb hd hx hdb) fun σ H Q h => by
    obtain ⟨ρ, env, st, d, st', r, re, e, q⟩ := h
    obtain ⟨⟨xs, st1⟩, e1, e⟩ := Option.bind_eq_some_iff.mp e
    cases e1
    dsimp only at e
    split at e
    · rename_i hl
      have hv2 := hdd ρ H
      exact ⟨by rw [show ([] : List V) ++ dvs = dvs from rfl, ← hv2.len]; exact hl, ρ, _, [] ++ dds, d, st', r, hv2, e, q⟩
    · cases e
end
end Mn
set_option Elab.async false
set_option linter.all false
set_option maxRecDepth 100000
set_option maxHeartbeats 2000000
set_option autoImplicit false
/-! Mn, part J: more expressions: displays of dicts, sorted({a, b}), max(.., default=..), list(range(..)), reversed(range(..)), pairs. -/
namespace Mn
open PySem PySem.Spec PyProof.Rows L2
/-! ### objects that are made, once more -/
def NotV (o : HO) : Prop := (∀ xs, o ≠ .tup xs) ∧ ∀ w u, o ≠ .frz w u
section
variable {K : PySem.W.Frag} {B : Tb} {ρ ρ' : Rho} {H H' : Hp} {st : Store} {D : Addr}
theorem mo_lockV {o u : HO} (hD : D ∈ ρ.Z) (hl : H D = some o) (hn : NotV o) : Mo K ρ H ρ (upd H D u) := by
  refine ⟨List.prefix_refl _, fun a v e n => ?_, fun a xs q => ?_, fun a v w e => ?_⟩
  · have : a ≠ D := fun z => n (.inr (z ▸ hD))
    exact ⟨by rw [upd_ne this]; exact e, n⟩
  · rcases q with (q | ⟨w, q⟩) | q
    · exact .inl (.inl (by rw [upd_ne fun z => hn.1 xs (Option.some.inj (hl.symm.trans (by rw [← z]; exact q)))]; exact q))
    · exact .inl (.inr ⟨w, by rw [upd_ne fun z => hn.2 _ _ (Option.some.inj (hl.symm.trans (by rw [← z]; exact q)))]; exact q⟩)
    · exact .inr q
  · rw [upd_ne fun z => hn.2 _ _ (Option.some.inj (hl.symm.trans (by rw [← z]; exact e)))]; exact e
theorem rep_lockV {o u : HO} (r : Rep K B ρ H st) (hD : D ∈ ρ.Z) (hl : H D = some o) (hn : NotV o) : Rep K B ρ (upd H D u) st := by
  have hix := (r.zs D hD).2
  refine ⟨r.len, r.nd, fun n v e => ?_, fun z hz => ?_⟩
  · obtain ⟨a, e1, e2⟩ := r.obj n v e
    refine ⟨a, e1, e2.mo (mo_lockV hD hl hn) ?_⟩
    have : a ≠ D := fun z => hix (z ▸ List.mem_of_getElem? e1)
    rw [upd_ne this]
  · refine ⟨?_, (r.zs z hz).2⟩
    by_cases hz' : z = D
    · subst hz'; exact ⟨u, upd_same⟩
    · obtain ⟨w, hw⟩ := (r.zs z hz).1
      exact ⟨w, by rw [upd_ne hz']; exact hw⟩
theorem Fr0.writeV {o u : HO} (f : Fr0 K ρ H ρ' H' D) (h : H D = none) (hl : H' D = some o) (hn : NotV o) : Fr0 K ρ H ρ' (upd H' D u) D := by
  have hD : D ∈ ρ'.Z := by rw [f.z]; exact List.mem_cons_self
  have m := mo_lockV (K := K) (u := u) hD hl hn
  exact ⟨f.pre, f.z, fun a v e n => let ⟨h1, n1⟩ := f.frame a v e n; ⟨by rw [upd_ne (ne_of_none e h)]; exact h1, n1⟩, fun a xs q => m.tups a xs (f.tups a xs q), fun a v w e => m.frzs a v w (f.frzs a v w e)⟩
/-- the object stands by itself -/
theorem Fr0.free (f : Fr0 K ρ H ρ' H' D) (r₀ : ∀ z ∈ ρ.Z, ∃ o, H z = some o) (h : H D = none) (hD : D ∉ ρ'.ix) (r : Rep K B ρ' H' st) :
    Ext K ρ H ⟨ρ'.ix, ρ.Z⟩ H' ∧ Rep K B ⟨ρ'.ix, ρ.Z⟩ H' st ∧ Mo K ρ' H' ⟨ρ'.ix, ρ.Z⟩ H' ∧ ¬ Rho.has ⟨ρ'.ix, ρ.Z⟩ D := by
  have nz : D ∉ ρ.Z := fun z => by
    obtain ⟨o, e⟩ := r₀ D z
    rw [h] at e; cases e
  have m : Mo K ρ' H' ⟨ρ'.ix, ρ.Z⟩ H' := ⟨List.prefix_refl _, fun a o e n => ⟨e, fun z => n (by
    rcases z with z | z
    · exact .inl z
    · exact .inr (by rw [f.z]; exact List.mem_cons_of_mem _ z))⟩, fun _ _ q => q, fun _ _ _ q => q⟩
  refine ⟨⟨f.pre, rfl, f.frame, f.tups, f.frzs⟩, ⟨r.len, r.nd, fun n o e => ?_, fun z hz => r.zs z (by rw [f.z]; exact List.mem_cons_of_mem _ hz)⟩, m, fun z => ?_⟩
  · obtain ⟨a, e1, e2⟩ := r.obj n o e
    exact ⟨a, e1, e2.mo m rfl⟩
  · rcases z with z | z
    · exact hD z
    · exact nz z
/-- the object joins the store -/
theorem Fr0.join {u : MObj} (f : Fr0 K ρ H ρ' H' D) (r₀ : ∀ z ∈ ρ.Z, ∃ o, H z = some o) (h : H D = none) (hD : D ∉ ρ'.ix) (r : Rep K B ρ' H' st) (hu : RO K B ρ' H' D u) :
    Ext K ρ H ⟨ρ'.ix ++ [D], ρ.Z⟩ H' ∧ Rep K B ⟨ρ'.ix ++ [D], ρ.Z⟩ H' (st ++ [u]) ∧ (ρ'.ix ++ [D])[st.length]? = some D := by
  have nz : D ∉ ρ.Z := fun z => by
    obtain ⟨o, e⟩ := r₀ D z
    rw [h] at e; cases e
  have hz : D ∈ ρ'.Z := by rw [f.z]; exact List.mem_cons_self
  have m : Mo K ρ' H' ⟨ρ'.ix ++ [D], ρ.Z⟩ H' := ⟨List.prefix_append _ _, fun a o e n => ⟨e, fun z => n (by
    rcases z with z | z
    · rcases List.mem_append.mp z with z | z
      · exact .inl z
      · have : a = D := by simpa using z
        exact .inr (this ▸ hz)
    · exact .inr (by rw [f.z]; exact List.mem_cons_of_mem _ z))⟩, fun _ _ q => q, fun _ _ _ q => q⟩
  have at_ : (ρ'.ix ++ [D])[st.length]? = some D := by rw [← r.len, List.getElem?_append_right (Nat.le_refl _)]; simp
  refine ⟨⟨f.pre.trans (List.prefix_append _ _), rfl, fun a o e n => ?_, f.tups, f.frzs⟩, ⟨by simp [r.len], ?_, fun n o e => ?_, fun z hz2 => ?_⟩, at_⟩
  · obtain ⟨h1, h2⟩ := f.frame a o e n
    refine ⟨h1, fun z => ?_⟩
    rcases List.mem_append.mp z with z | z
    · exact h2 z
    · exact ne_of_none e h (by simpa using z)
  · rw [List.nodup_append]
    refine ⟨r.nd, by simp, fun a ha b hb => ?_⟩
    have hb : b = D := by simpa using hb
    subst hb
    exact fun z => hD (z ▸ ha)
  · by_cases hn : n < st.length
    · rw [List.getElem?_append_left hn] at e
      obtain ⟨a, e1, e2⟩ := r.obj n o e
      exact ⟨a, m.get e1, e2.mo m rfl⟩
    · have hn2 : n = st.length := by
        have := (List.getElem?_eq_some_iff.mp e).1
        simp at this
        omega
      subst hn2
      rw [List.getElem?_append_right (Nat.le_refl _)] at e
      simp at e
      subst e
      exact ⟨D, at_, hu.mo m rfl⟩
  · refine ⟨(r.zs z (by rw [f.z]; exact List.mem_cons_of_mem _ hz2)).1, fun z3 => ?_⟩
    rcases List.mem_append.mp z3 with z3 | z3
    · exact (r.zs z (by rw [f.z]; exact List.mem_cons_of_mem _ hz2)).2 z3
    · have : z = D := by simpa using z3
      exact nz (this ▸ hz2)
theorem done_dct {bx : Bool} {ks : List DK} {xs : List Mn.D} {kvs : List (Key × V)} {d : Mn.D} {st' : Store} {Q : VK} (f : Fr0 K ρ H ρ' H' D) (r₀ : ∀ z ∈ ρ.Z, ∃ o, H z = some o) (h : H D = none) (hD : D ∉ ρ'.ix) (r : Rep K B ρ' H' st) (hl : H' D = some (.dK kvs))
    (hk : ks.map (keyD B.T) = kvs.map (fun q => some q.1)) (hv : RVs K B ρ' H' xs (kvs.map (·.2))) (e : mkD bx ks xs st = (d, st')) (q : After K B (RV K B) ρ H d st' Q) : Q (.ref D) H' := by
  cases bx with
  | false =>
    obtain ⟨rfl, rfl⟩ := Prod.mk.inj (show (Mn.D.dct ks xs, st) = (d, st') from e)
    obtain ⟨a1, a2, a3, a4⟩ := f.free r₀ h hD r
    exact q _ H' _ a1 a2 ⟨D, kvs, rfl, hl, a4, hk, RVs.mo a3 _ _ hv⟩
  | true =>
    obtain ⟨rfl, rfl⟩ := Prod.mk.inj (show (Mn.D.ref st.length, st ++ [.dct ks xs]) = (d, st') from e)
    obtain ⟨a1, a2, a3⟩ := f.join (u := .dct ks xs) r₀ h hD r ⟨kvs, hl, hk, hv⟩
    exact q _ H' _ a1 a2 ⟨D, rfl, a3⟩
end
/-! ### displays of dicts -/
abbrev KM := Env → Store → Option ((List DK × List D) × Store)
def nilK : KM := fun _ st => some (([], []), st)
def consK (a b : EM) (r : KM) : KM := fun env st => (a env st).bind fun p => match dkOf p.1 with
  | some j => (b env p.2).bind fun q => (r env q.2).map fun z => ((j :: z.1.1, q.1 :: z.1.2), z.2)
  | none => none
/-- the pairs, one after another, into the dict -/
def dputs : List DK → List D → List DK × List D → List DK × List D
  | j :: js, x :: xs, acc => dputs js xs (dput acc.1 acc.2 j x)
  | _, _, acc => acc
def dctM (bx : Bool) (m : KM) : EM := fun env st => (m env st).bind fun p => if p.1.1.length ≤ 15 then some (mkD bx (dputs p.1.1 p.1.2 ([], [])).1 (dputs p.1.1 p.1.2 ([], [])).2 p.2) else none
section
variable {X : Cx} {B : Tb} {pos : Pos}
theorem dputs_rep (ok : B.Ok) {K : PySem.W.Frag} {ρ : Rho} {H : Hp} : ∀ {more : List (Key × V)} {js : List DK} {xs : List D} {ks : List DK} {ys : List D} {kvs : List (Key × V)}, js.map (keyD B.T) = more.map (fun q => some q.1) → RVs K B ρ H xs (more.map (·.2)) →
    ks.map (keyD B.T) = kvs.map (fun q => some q.1) → RVs K B ρ H ys (kvs.map (·.2)) →
    (dputs js xs (ks, ys)).1.map (keyD B.T) = (mergeK kvs more).map (fun q => some q.1) ∧ RVs K B ρ H (dputs js xs (ks, ys)).2 ((mergeK kvs more).map (·.2))
  | [], js, xs, ks, ys, kvs, h1, h2, h3, h4 => by
    have e1 : js = [] := by simpa using h1
    subst e1
    exact ⟨h3, h4⟩
  | q :: more, js, xs, ks, ys, kvs, h1, h2, h3, h4 => by
    cases js with
    | nil => cases h1
    | cons j js =>
      cases xs with
      | nil => cases h2
      | cons x xs =>
        obtain ⟨e1, e2⟩ := List.cons.inj (show keyD B.T j :: js.map (keyD B.T) = some q.1 :: more.map (fun q => some q.1) from h1)
        obtain ⟨v, vr, e3, e4, e5⟩ := h2
        obtain ⟨e6, e7⟩ := List.cons.inj e3
        subst e6 e7
        obtain ⟨a, b⟩ := dput_rep ok e1 e4 h3 h4
        exact dputs_rep (js := js) (xs := xs) (ks := (dput ks ys j x).1) (ys := (dput ks ys j x).2) (kvs := putK kvs q.1 q.2) ok e2 e5 a b
/-- the pairs of a display -/
def TKm (K : PySem.W.Frag) (B : Tb) (m : KM) : List (TE × TE) → Prop := fun trs => ∀ σ H (Q : List (V × V) → Hp → Prop), (∃ ρ env st r st', Rep K B ρ H st ∧ REnv K B ρ H env σ ∧ m env st = some (r, st') ∧
  ∀ (ρ' : Rho) (H' : Hp) (kvs : List (Key × V)), Ext K ρ H ρ' H' → Rep K B ρ' H' st' → r.1.map (keyD B.T) = kvs.map (fun q => some q.1) → RVs K B ρ' H' r.2 (kvs.map (·.2)) → Q (kvs.map fun kv => (kV kv.1, kv.2)) H') → tPairs trs σ H Q
structure SimK (X : Cx) (B : Tb) (pos : Pos) (ks : List (Option Expr)) (vs : List Expr) (m : KM) : Prop where
  ex : ∃ trs, PPs X pos ks vs trs ∧ TKm X.K B m trs
theorem sim_nilK : SimK X B pos [] [] nilK := ⟨[], pps_nil, fun σ H Q ⟨ρ, env, st, r, st', r1, re, e, q⟩ => by
  cases e
  exact q ρ H [] Ext.refl r1 rfl rfl⟩
theorem sim_consK {k v : Expr} {ks : List (Option Expr)} {vs : List Expr} {mk mv : EM} {m : KM} (hk : SimE X B k mk) (hv : SimE X B v mv) (hr : SimK X B pos ks vs m) : SimK X B pos (some k :: ks) (v :: vs) (consK mk mv m) := by
  obtain ⟨trs, h1, h2⟩ := hr
  refine ⟨_, pps_cons hk hv h1, fun σ H Q ⟨ρ, env, st, r, st', r1, re, e, q⟩ => ?_⟩
  obtain ⟨⟨x, st1⟩, e1, e⟩ := Option.bind_eq_some_iff.mp e
  dsimp only at e
  split at e
  · rename_i j ej
    obtain ⟨⟨y, st2⟩, e2, e⟩ := Option.bind_eq_some_iff.mp e
    obtain ⟨⟨z, st3⟩, e3, e⟩ := Option.map_eq_some_iff.mp e
    cases e
    refine ⟨ρ, env, st, x, st1, r1, re, e1, fun ρ1 H1 vx x1 r2 hx => ?_⟩
    obtain ⟨key, ek, rfl⟩ := dkOf_rep hx ej
    refine ⟨ρ1, env, st1, y, st2, r2, re.mono x1, e2, fun ρ2 H2 vy x2 r3 hy => ?_⟩
    refine h2 σ H2 _ ⟨ρ2, env, st2, z, _, r3, re.mono (x1.trans x2), e3, fun ρ3 H3 kvs x3 r4 hk hv => ?_⟩
    exact q ρ3 H3 ((key, vy) :: kvs) ((x1.trans x2).trans x3) r4 (by simp [ek, hk]) ⟨vy, _, rfl, hy.mono x3, hv⟩
  · cases e
theorem sim_dct {ks : List (Option Expr)} {vs : List Expr} {m : KM} (O : OCx X B) (bx : Bool) (h : SimK X B pos ks vs m) (hall : ks.all (·.isSome) = true) (hl : ks.length = vs.length) (h0 : ks ≠ []) (h15 : ks.length ≤ 15) : SimE X B (.Dict ks vs pos) (dctM bx m) := by
  obtain ⟨trs, h1, h2⟩ := h
  refine PE.imp (pe_disp h1 hall hl h0 h15) fun σ H Q h => ?_
  obtain ⟨ρ, env, st, d, st', r, re, e, q⟩ := h
  obtain ⟨⟨z, st1⟩, e1, e⟩ := Option.bind_eq_some_iff.mp e
  dsimp only at e
  split at e
  · rename_i hz
    intro p hp
    have mo0 := mo_begin (K := X.K) (ρ := ρ) (o := .dK []) hp
    refine h2 σ _ _ ⟨ρ.lock p, env, st, z, st1, rep_begin r hp, re.mo mo0, e1, fun ρ1 H1 kvs x1 r1 hk hv => ?_⟩
    have f : Fr0 X.K ρ H ρ1 H1 p := (Fr0.begin hp).ext x1
    obtain ⟨l1, n1⟩ := x1.frame p _ upd_same (r.freshI hp)
    have z1 : p ∈ ρ1.Z := by rw [f.z]; exact List.mem_cons_self
    refine ⟨l1, kvs, rfl, ?_, ?_⟩
    · have := congrArg List.length hk
      simp at this
      omega
    · have nv : NotV (.dK ([] : List (Key × V))) := And.intro (fun _ z => HO.noConfusion z) (fun _ _ z => HO.noConfusion z)
      obtain ⟨a, b⟩ := dputs_rep O.b (ks := []) (ys := []) (kvs := []) hk (RVs.mo (mo_lockV (u := .dK (mergeK [] kvs)) z1 l1 nv) _ _ hv) rfl rfl
      exact done_dct (f.writeV hp l1 nv) (fun z hz => (r.zs z hz).1) hp n1 (rep_lockV r1 z1 l1 nv) upd_same a b (Option.some.inj e) q
  · cases e
end
end Mn
set_option Elab.async false
set_option linter.all false
set_option maxRecDepth 100000
set_option maxHeartbeats 2000000
set_option autoImplicit false
/-! Mn, part K: dicts in tests and items, sorted({a, b}), max(.., default=..), list(range(..)), reversed(range(..)). -/
namespace Mn
open PySem PySem.Spec PyProof.Rows L2
/-! ### k in d -/
def memB (B : Tb) (st : Store) (x y : D) : Option Bool := match y with
  | .con k => (match B.CD[k]?, x with
    | some kvs, .sym j => some (kvs.lookup j).isSome
    | _, _ => none)
  | y => (match dctOf st y, dkOf x with
    | some (ks, xs), some j => some (dget ks xs j).isSome
    | _, _ => inB st x y)
def memO (B : Tb) : Op2 := fun x y st => (memB B st x y).map fun b => (.bl b, st)
def notMemO (B : Tb) : Op2 := fun x y st => (memB B st x y).map fun b => (.bl (!b), st)
def itemO (B : Tb) : Op2 := fun x y st => match x with
  | .con k => (match B.CD[k]?, y with
    | some kvs, .sym j => (kvs.lookup j).map fun d => (d, st)
    | _, _ => none)
  | x => ixO x y st
section
variable {X : Cx} {B : Tb}
theorem dget_in {K : PySem.W.Frag} {ρ : Rho} {H : Hp} (ok : B.Ok) {j : DK} {key : Key} (hj : keyD B.T j = some key) {ks : List DK} {xs : List D} {kvs : List (Key × V)} (h1 : ks.map (keyD B.T) = kvs.map (fun q => some q.1)) (h2 : RVs K B ρ H xs (kvs.map (·.2))) : (valV kvs key).isSome = (dget ks xs j).isSome := by
  obtain ⟨a, b⟩ := dget_rep ok hj h1 h2
  cases e : dget ks xs j with
  | none => rw [b e]; rfl
  | some d =>
    obtain ⟨w, e2, _⟩ := a d e
    rw [e2]; rfl
theorem sim_mem (O : OCx X B) : SimO X B (compareOp .In) (memO B) := by
  rintro pins s σ H vx vy v u Q I rx ry ⟨ρ, st, x, y, d, st', r, h1, h2, e, q⟩
  obtain ⟨b, eb, e⟩ := Option.map_eq_some_iff.mp e
  cases e
  unfold memB at eb
  split at eb
  · rename_i k
    split at eb
    · rename_i kvs j ek
      cases eb
      obtain ⟨s0, es, rfl⟩ := h1
      obtain ⟨dd, ent, n, c1, c2, c3⟩ := O.con k kvs ek
      have hy : vy = .ref dd := Option.some.inj ((show B.C[k]? = some vy from h2).symm.trans c1)
      subst hy
      have c4 := c3 j s0 es
      cases el : kvs.lookup j with
      | none =>
        rw [el] at c4 q
        exact op_in_kd c2 pins s σ H _ _ v u Q I rx ry ⟨s0, none, rfl, rfl, c4, q ρ H _ Ext.refl r rfl⟩
      | some dv =>
        rw [el] at c4 q
        obtain ⟨u0, v0, c5, _⟩ := c4
        exact op_in_kd c2 pins s σ H _ _ v u Q I rx ry ⟨s0, some u0, rfl, rfl, c5, q ρ H _ Ext.refl r rfl⟩
    · cases eb
  · split at eb
    · rename_i ks xs j ex ey
      cases eb
      obtain ⟨a, kvs, rfl, ha, hk, hv⟩ := dctOf_rep r h2 ex
      obtain ⟨key, ek, rfl⟩ := dkOf_rep h1 ey
      cases ry
      refine d_in (by have := O.u; omega) I (DGet.k ha) rx fun s' I' => ⟨.bl _, H, I', rfl, ?_⟩
      rw [dget_in O.b ek hk hv]
      exact q ρ H _ Ext.refl r rfl
    · exact sim_in O pins s σ H vx vy v u Q I rx ry ⟨ρ, st, x, y, .bl b, st, r, h1, h2, by unfold inO; rw [eb]; rfl, q⟩
theorem sim_notMem (O : OCx X B) : SimO X B (compareOp .NotIn) (notMemO B) := by
  rintro pins s σ H vx vy v u Q I rx ry ⟨ρ, st, x, y, d, st', r, h1, h2, e, q⟩
  obtain ⟨b, eb, e⟩ := Option.map_eq_some_iff.mp e
  cases e
  unfold memB at eb
  split at eb
  · rename_i k
    split at eb
    · rename_i kvs j ek
      cases eb
      obtain ⟨s0, es, rfl⟩ := h1
      obtain ⟨dd, ent, n, c1, c2, c3⟩ := O.con k kvs ek
      have hy : vy = .ref dd := Option.some.inj ((show B.C[k]? = some vy from h2).symm.trans c1)
      subst hy
      have c4 := c3 j s0 es
      cases el : kvs.lookup j with
      | none =>
        rw [el] at c4 q
        exact op_notIn_kd c2 pins s σ H _ _ v u Q I rx ry ⟨s0, none, rfl, rfl, c4, q ρ H _ Ext.refl r rfl⟩
      | some dv =>
        rw [el] at c4 q
        obtain ⟨u0, v0, c5, _⟩ := c4
        exact op_notIn_kd c2 pins s σ H _ _ v u Q I rx ry ⟨s0, some u0, rfl, rfl, c5, q ρ H _ Ext.refl r rfl⟩
    · cases eb
  · split at eb
    · rename_i ks xs j ex ey
      cases eb
      obtain ⟨a, kvs, rfl, ha, hk, hv⟩ := dctOf_rep r h2 ex
      obtain ⟨key, ek, rfl⟩ := dkOf_rep h1 ey
      cases ry
      refine d_notIn (by have := O.u; omega) I (DGet.k ha) rx fun s' I' => ⟨.bl _, H, I', rfl, ?_⟩
      rw [dget_in O.b ek hk hv]
      exact q ρ H _ Ext.refl r rfl
    · exact sim_notIn O pins s σ H vx vy v u Q I rx ry ⟨ρ, st, x, y, .bl (!b), st, r, h1, h2, by unfold notInO; rw [eb]; rfl, q⟩
theorem ix_kd {d : Addr} {es : Array DictEntry} {n : Nat} (D : KDict X.K X.w d es n) : IxR X (fun x y H Q => ∃ (z : Str) (u0 : Value) (v0 : V), x = .ref d ∧ y = .str z ∧ PySem.W.nsIn X.K d z = some (some u0) ∧ RelV v0 u0 ∧ Q v0 H) := by
  intro value slice pins s σ H x y v u Q I rx ry h hs
  obtain ⟨z, u0, v0, rfl, rfl, e, r, q⟩ := h
  cases rx
  have hT := kd_type D I
  unfold subscriptTail
  refine wpAny_bind ?_
  rw [getitemInPython_of_ne hT.not_modules]
  refine wpAny_bind (wpAny_specialOf hT PySem.F.slot_dict_getitem.lookup ?_)
  have fin : wpAny (model X.prog X.w) X.A (subscripted slice false (.ref d) u) (fun r s₃ => wpAny (model X.prog X.w) X.A (letTemporaryGo value (.ref d) r >>= fun _ => pure r) (EP X pins σ Q) X.xe s₃) X.xe s := by
    rw [hs]
    exact wpAny_operating (thn (op_item_kd D pins s σ H (.ref d) (.str z) _ u Q I (show RelV (.ref d) (.ref d) from rfl) ry ⟨z, u0, v0, rfl, rfl, e, r, q⟩) fun w' s3 hq => wpAny_bind (wpAny_letTemporaryGo (wpAny_pure hq)))
  first
    | exact wpAny_pure (wpAny_bind fin)
    | exact wpAny_bind (wpAny_pure (wpAny_bind fin))
    | exact wpAny_bind fin
theorem sim_item (O : OCx X B) : IxR X (ROm X.K B (itemO B)) := by
  rintro value slice pins s σ H vx vy v u Q I rx ry ⟨ρ, st, x, y, d, st', r, h1, h2, e, q⟩ hs
  unfold itemO at e
  split at e
  · rename_i k
    split at e
    · rename_i kvs j ek
      obtain ⟨dv, el, e⟩ := Option.map_eq_some_iff.mp e
      cases e
      obtain ⟨s0, es, rfl⟩ := h2
      obtain ⟨dd, ent, n, c1, c2, c3⟩ := O.con k kvs ek
      have hy : vx = .ref dd := Option.some.inj ((show B.C[k]? = some vx from h1).symm.trans c1)
      subst hy
      have c4 := c3 j s0 es
      rw [el] at c4
      obtain ⟨u0, v0, c5, c6, c7⟩ := c4
      exact ix_kd c2 value slice pins s σ H _ _ v u Q I rx ry ⟨s0, u0, v0, rfl, rfl, c5, c6, q ρ H _ Ext.refl r (c7 ρ H)⟩ hs
    · cases e
  · exact sim_ix O value slice pins s σ H vx vy v u Q I rx ry ⟨ρ, st, x, y, d, st', r, h1, h2, e, q⟩ hs
end
end Mn
set_option Elab.async false
set_option linter.all false
set_option maxRecDepth 100000
set_option maxHeartbeats 2000000
set_option autoImplicit false
/-! Mn, part L: sorted({a, b}), max(.., default=..), list(range(..)), reversed(range(..)), pairs. -/
namespace Mn
open PySem PySem.Spec PyProof.Rows L2
/-! ### sorted({a, b}) -/
def sort2L (i j : Int) : List Int := if i = j then [i] else if i < j then [i, j] else [j, i]
def sort2M (bx : Bool) (a b : EM) : EM := fun env st => (a env st).bind fun p => (b env p.2).bind fun q => match p.1, q.1 with
  | .int i, .int j => some (mkL bx ((sort2L i j).map D.int) q.2)
  | _, _ => none
/-- the set that {a, b} is -/
def set2S (i j : Int) : Int → Bool := fun k => (false || decide (k = i)) || decide (k = j)
def set2N (i j : Int) : Nat := if (false || decide (j = i)) = true then 1 else 2
def tSet2 (w : World) (ta tb : TE) : TE := fun σ H Q => ∀ p, H p = none → ta σ (upd H p (SetO w p (fun _ => false) 0)) fun x H1 => tb σ H1 fun y H2 => ∃ i j, x = .int i ∧ y = .int j ∧ H2 p = some (SetO w p (fun _ => false) 0) ∧ Q (.ref p) (upd H2 p (SetO w p (set2S i j) (set2N i j)))
section
variable {X : Cx} {B : Tb} {a b e : Expr} {ta tb : TE} {pos : Pos}
theorem sadd {P : Program} {w : World} {A : Around} {E : Value → Shared → Prop} {s : Shared} {a : Addr} {S : Int → Bool} {n : Nat} {k : Int} {tk : Tok} {Q : Bool → Shared → Prop} (R : SetR w s.heap a S n) (room : n + 1 < scanBound)
    (hQ : ∀ h', Heap.SameBut a s.heap h' → SetR w h' a (fun j => S j || decide (j = k)) (if S k = true then n else n + 1) → Q (!S k) { s with heap := h', toks := s.toks + 1 }) : wpAny (model P w) A (setAdd a (.int k tk)) Q E s := by
  unfold setAdd
  refine wpAny_holding (wpAny_bind ((intKind P w).pyHash (intKind_is P w k tk) ?_))
  exact setR_add_hashed (s := { s with toks := s.toks + 1 }) R room fun h' sb r => hQ h' sb r
theorem star2 {a : Expr} {es : List Expr} {env : PySem.Env} (h : PySem.W.kdsPlain a = true) : starEach (a :: es) env = (false, eval a env) :: starEach es env := by
  cases a <;> first | rfl | cases h
theorem pe_set2 (hcd : PySem.W.kdsCode X.K X.env.code = true) (ha : PE X a ta) (hb : PE X b tb) (sa : PySem.W.kdsPlain a = true) (sb : PySem.W.kdsPlain b = true) : PE X (.Set [a, b] 0 pos) (tSet2 X.w ta tb) := by
  refine ⟨fun pins s σ H Q I h => ?_⟩
  rw [arm_eval_Set]
  refine wpAny_bind (wpAny_standAt ?_)
  refine wpAny_bind (PySem.W.kds_main I.kIn hcd fun bb => ?_)
  rw [star2 sa, star2 sb, show displayRoad 0 [a, b] = .oneByOne from rfl]
  show wpAny _ _ (setDisplay .oneByOne bb [(false, do let v ← eval a X.env; standAt pos; pure v), (false, do let v ← eval b X.env; standAt pos; pure v)]) _ _ _
  unfold setDisplay
  rw [if_neg (by decide)]
  unfold newSet setsByText
  refine wpAny_bind (wpAny_bind (wpAny_bind (wpAny_askSetting (wpAny_pure ?_))))
  dsimp only
  simp only [newObj]
  refine wpAny_bind (wpAny_alloc (wpAny_pure ?_))
  have hn := I.hok.fresh (Nat.le_refl s.heap.objs.size)
  have I1 := I.laid (a := s.heap.objs.size) (o := SetO X.w s.heap.objs.size (fun _ => false) 0) (t' := s.toks) (fun _ _ q => Heap.get?_push_of_some _ q) (Nat.le_refl _) (setO_new (P := X.prog) (setR_fresh X.w))
  have q1 := h _ hn
  dsimp only
  refine wpAny_bind (wpAny_holding ?_)
  show wpAny _ _ (evalAll [(do let v ← eval a X.env; standAt pos; pure v), (do let v ← eval b X.env; standAt pos; pure v)] >>= _) _ _ _
  refine wpAny_bind (evalAll_cons (wpAny_bind (thn (ha.run pins _ σ _ _ I1 q1) fun u1 s1 ⟨x, H1, I2, r1, q2⟩ => wpAny_bind (wpAny_standAt (wpAny_pure ?_)))))
  refine evalAll_cons (wpAny_bind (thn (hb.run pins _ σ _ _ I2 q2) fun u2 s2 ⟨y, H2, I3, r2, q3⟩ => wpAny_bind (wpAny_standAt (wpAny_pure (evalAll_nil ?_)))))
  obtain ⟨i, j, rfl, rfl, e, q3⟩ := q3
  obtain ⟨t1, rfl⟩ := r1
  obtain ⟨t2, rfl⟩ := r2
  have R0 := setO_get I3 e
  refine wpAny_bind (wpAny_holding ?_)
  rw [List.forIn_cons]
  refine wpAny_bind (wpAny_bind (wpAny_bind (sadd R0 (by decide) fun h1 sb1 n1 => wpAny_pure ?_)))
  show wpAny _ _ (forIn [Value.int j t2] PUnit.unit _) _ _ _
  rw [List.forIn_cons]
  refine wpAny_bind (wpAny_bind (sadd (s := { s2 with heap := h1, toks := s2.toks + 1 }) n1 (by decide) fun h2 sb2 n2 => wpAny_pure ?_))
  show wpAny _ _ (forIn ([] : List Value) PUnit.unit _) _ _ _
  rw [List.forIn_nil]
  refine wpAny_pure ?_
  rw [if_neg (by decide)]
  refine wpAny_pure ?_
  show wpAny _ _ (forIn ([] : List (Bool × Sem Value)) PUnit.unit _ >>= _) _ _ _
  rw [List.forIn_nil]
  refine wpAny_bind (wpAny_pure ?_)
  have he : ∃ u, h2.get? s.heap.objs.size = some u := by
    have ⟨o, _, _, _, ho, _⟩ := n2
    exact ⟨o, ho⟩
  exact wpAny_pure (wpAny_pure ⟨.ref s.heap.objs.size, _, I3.write (e := s.heap.objs.size) (t' := s2.toks + 1 + 1) (by rw [e]; trivial) (.inl rfl) (fun b u hb hu => (sb2.2 b hb).trans ((sb1.2 b hb).trans hu)) he (setO_new n2), rfl, q3⟩)
theorem sort2_ok (i j : Int) : (sort2L i j).Pairwise (· < ·) ∧ (∀ k : Int, k ∈ sort2L i j ↔ set2S i j k = true) ∧ (sort2L i j).length = set2N i j := by
  unfold sort2L set2S set2N
  by_cases h : i = j
  · subst h; simp
  · by_cases h2 : i < j
    · rw [if_neg h, if_pos h2]
      refine ⟨by simp [h2], fun k => by simp, ?_⟩
      simp [Ne.symm h]
    · rw [if_neg h, if_neg h2]
      refine ⟨by simp; omega, fun k => by simp [or_comm], ?_⟩
      simp [Ne.symm h]
theorem rvs_ints {K : PySem.W.Frag} {ρ : Rho} {H : Hp} : ∀ ns : List Int, RVs K B ρ H (ns.map D.int) (ns.map V.int)
  | [] => rfl
  | n :: ns => ⟨_, _, rfl, rfl, rvs_ints ns⟩
theorem sim_sort2 {p pos2 : Pos} {ma mb : EM} (bx : Bool) (hc : X.calm = true) (hg : Gl X "sorted") (hm : X.mg "sorted" = none) (hcd : PySem.W.kdsCode X.K X.env.code = true) (ha : SimE X B a ma) (hb : SimE X B b mb) (sa : PySem.W.kdsPlain a = true) (sb : PySem.W.kdsPlain b = true) :
    SimE X B (.Call (.Name "sorted" p) [.Set [a, b] 0 pos] [] pos2) (sort2M bx ma mb) :=
  PE.imp (pe_callB (cr_sortedSet hc) hg hm PyProof.Rows.boot_sorted (pa_cons (pe_set2 hcd ha hb sa sb) pa_nil rfl) (by decide) (by decide) rfl rfl) fun σ H Q h => by
    obtain ⟨ρ, env, st, d, st', r, re, e, q⟩ := h
    obtain ⟨⟨x, st1⟩, e1, e⟩ := Option.bind_eq_some_iff.mp e
    obtain ⟨⟨y, st2⟩, e2, e⟩ := Option.bind_eq_some_iff.mp e
    obtain ⟨i, j, rfl, rfl, e⟩ : ∃ i j, x = .int i ∧ y = .int j ∧ some (mkL bx ((sort2L i j).map D.int) st2) = some (d, st') := by
      cases x with
      | int i => cases y with
        | int j => exact ⟨i, j, rfl, rfl, e⟩
        | _ => cases e
      | _ => cases y <;> cases e
    · intro p hp
      have mo0 := mo_begin (K := X.K) (ρ := ρ) (o := SetO X.w p (fun _ => false) 0) hp
      refine ⟨ρ.lock p, env, st, _, st1, rep_begin r hp, re.mo mo0, e1, fun ρ1 H1 vx x1 r1 hx => ?_⟩
      refine ⟨ρ1, env, st1, _, st2, r1, (re.mo mo0).mono x1, e2, fun ρ2 H2 vy x2 r2 hy => ?_⟩
      have xx := x1.trans x2
      have f : Fr0 X.K ρ H ρ2 H2 p := (Fr0.begin hp).ext xx
      obtain ⟨l1, n1⟩ := xx.frame p _ upd_same (r.freshI hp)
      have z1 : p ∈ ρ2.Z := by rw [f.z]; exact List.mem_cons_self
      have hx2 : vx = .int i := hx
      have hy2 : vy = .int j := hy
      refine ⟨i, j, hx2, hy2, l1, ?_⟩
      have nv : NotV (SetO X.w p (fun _ => false) 0) := And.intro (fun _ z => HO.noConfusion z) (fun _ _ z => HO.noConfusion z)
      obtain ⟨a1, a2, a3, a4⟩ := (f.writeV (u := SetO X.w p (set2S i j) (set2N i j)) hp l1 nv).free (fun z hz => (r.zs z hz).1) hp n1 (rep_lockV r2 z1 l1 nv)
      refine ⟨p, set2S i j, set2N i j, rfl, upd_same, by unfold set2N; split <;> decide, fun ns p2 k1 k2 k3 hp2 => ?_⟩
      have hns : ns = sort2L i j := by
        obtain ⟨b1, b2, b3⟩ := sort2_ok i j
        exact List.Perm.eq_of_pairwise (fun a b _ _ h1 h2 => by omega) k1 b1 ((List.perm_ext_iff_of_nodup (k1.imp fun h => by omega) (b1.imp fun h => by omega)).mpr fun k => (k2 k).trans (b2 k).symm)
      subst hns
      exact after_lst a2 (rvs_ints _) (Option.some.inj e) (q.trans a1) p2 hp2
/-! ### max(xs, default=d) -/
def maxdM (a d : EM) : EM := fun env st => (a env st).bind fun p => (d env p.2).bind fun q => match lstOf q.2 p.1 with
  | some xs => (match intsOf xs with
    | some [] => some (q.1, q.2)
    | some (n :: ns) => some (.int (ns.foldl max n), q.2)
    | none => none)
  | none => none
def rMaxD (K : PySem.W.Frag) : List V → List V → Hp → VK → Prop := fun vs zs H Q => ∃ (a : Addr) (ns : List Int) (v : V), vs = [V.ref a] ∧ zs = [v] ∧ SqL K H a (ns.map V.int) ∧ Q (match ns with | [] => v | n :: ns => .int (ns.foldl max n)) H
theorem reads_ints {h : Heap} : ∀ {us : List Value} {ns : List Int}, IntsAre us ns → ReadsAll h us (ns.map PyData.int) []
  | _, _, .nil => .nil
  | _, _, .cons n t r => .cons (as := []) (.int n t) (reads_ints r)
theorem depth_ints : ∀ ns : List Int, PyData.depthAll (ns.map PyData.int) = 0
  | [] => rfl
  | n :: ns => by
    show max (PyData.int n).depth (PyData.depthAll (ns.map PyData.int)) = 0
    rw [depth_ints ns]; rfl
theorem alike_ints (ns : List Int) : PySem.W.AlikeAll (ns.map PyData.int) := by
  refine ⟨fun x hx y hy => ?_, fun x hx => ?_⟩
  · obtain ⟨i, _, rfl⟩ := List.mem_map.mp hx
    obtain ⟨j, _, rfl⟩ := List.mem_map.mp hy
    rfl
  · obtain ⟨i, _, rfl⟩ := List.mem_map.mp hx
    exact fun z => PyData.noConfusion z
theorem cr_maxD (hc : X.calm = true) (hu : X.A.units + 66 < cLine) : CallRK X (.builtin "max") [Str.ofString "default"] (rMaxD X.K) := by
  intro pins s σ H vs zs us ws Q I r rz h
  obtain ⟨a, ns, v, rfl, rfl, hs, q⟩ := h
  obtain rfl := Vals.ref1 r
  obtain ⟨w1, rfl, e1⟩ := vals1 rz
  obtain ⟨its, rv, hl, hz⟩ := I.list hs
  have hi := rv.ints
  refine PySem.W.max_list_default (I.ok.hd hc) hl.isList (by rw [List.toList_toArray]; exact reads_ints hi) (alike_ints ns) (by rw [depth_ints]; omega) (fun h0 h' tk hk => ?_) (fun y ys i v' h' tk bs h0 hv hr hk => ?_)
  · have : ns = [] := by simpa using h0
    subst this
    exact ⟨v, H, I.kept hk, e1, q⟩
  · cases ns with
    | nil => cases h0
    | cons n ns =>
      obtain ⟨rfl, rfl⟩ := List.cons.inj (show PyData.int n :: ns.map PyData.int = y :: ys from h0)
      rw [PySem.W.maxD_ints] at hr
      cases hr
      exact ⟨.int (ns.foldl max n), H, I.kept hk, ⟨_, rfl⟩, q⟩
theorem pk_one {nm : Option Str} {kpos : Pos} {te : TE} (ha : PE X e te) : PK X [⟨nm, e, kpos⟩] (tCons te tNil) := pk_cons ha pk_nil
theorem sim_maxD {p pos kpos : Pos} {ma mb : EM} (O : OCx X B) (hc : X.calm = true) (hg : Gl X "max") (hm : X.mg "max" = none) (ha : SimE X B a ma) (hb : SimE X B b mb) (sa : PySem.W.kdsPlain a = true) :
    SimE X B (.Call (.Name "max" p) [a] [⟨some "default", b, kpos⟩] pos) (maxdM ma mb) :=
  PE.imp (pe_callBK (cr_maxD hc O.u) hg hm (by decide +kernel) (pa_cons ha pa_nil (by rw [star2 sa])) (pk_one hb) (by decide) (by decide) (by rw [star2 sa]; rfl) (by rw [star2 sa]; rfl) rfl rfl rfl) fun σ H Q h => by
    obtain ⟨ρ, env, st, d, st', r, re, e, q⟩ := h
    obtain ⟨⟨x, st1⟩, e1, e⟩ := Option.bind_eq_some_iff.mp e
    obtain ⟨⟨y, st2⟩, e2, e⟩ := Option.bind_eq_some_iff.mp e
    dsimp only at e
    split at e
    · rename_i xs exs
      refine ⟨ρ, env, st, x, st1, r, re, e1, fun ρ1 H1 vx x1 r1 hx => ?_⟩
      refine ⟨ρ1, env, st1, y, st2, r1, re.mono x1, e2, fun ρ2 H2 vy x2 r2 hy => ?_⟩
      obtain ⟨aa, ws, rfl, hs, hw⟩ := lstOf_rep r2 (hx.mono x2) exs
      split at e
      · rename_i ei
        cases e
        rw [intsOf_eq ei] at hw
        have := hw.ints
        subst this
        exact ⟨aa, [], vy, rfl, rfl, .inl (.inl hs), q ρ2 H2 _ (x1.trans x2) r2 hy⟩
      · rename_i n ns ei
        cases e
        rw [intsOf_eq ei] at hw
        have := hw.ints
        subst this
        exact ⟨aa, n :: ns, vy, rfl, rfl, .inl (.inl hs), q ρ2 H2 _ (x1.trans x2) r2 rfl⟩
      · cases e
    · cases e
/-! ### list(range(n)), reversed(range(n)) -/
def rngRev (n : Int) : List D := (List.range n.toNat).map fun (i : Nat) => D.int ((n.toNat : Int) - 1 - (i : Int))
def listRgM (bx : Bool) (a : EM) : EM := fun env st => (a env st).bind fun p => match p.1 with
  | .int j => if okR j && decide (j.toNat ≤ bigN) then some (mkL bx (rngL 0 j) p.2) else none
  | _ => none
def revRgI (a : EM) : IM := fun env st => (a env st).bind fun p => match p.1 with
  | .int j => if okR j then some ((rngRev j, fun _ => true), p.2) else none
  | _ => none
theorem rvs_rng {K : PySem.W.Frag} {ρ : Rho} {H : Hp} (j : Int) : RVs K B ρ H (rngL 0 j) (rgV 0 j) := by
  have gen : ∀ (l : List Nat), RVs K B ρ H (l.map fun (i : Nat) => D.int (0 + (i : Int))) (l.map fun (i : Nat) => V.int (0 + (i : Int))) := by
    intro l
    induction l with
    | nil => exact rfl
    | cons n l ih => exact ⟨_, _, rfl, rfl, ih⟩
  exact gen _
theorem sim_listRg {p p2 pos pos2 : Pos} {ma : EM} (bx : Bool) (hc : X.calm = true) (hg : Gl X "list") (hm : X.mg "list" = none) (hg2 : Gl X "range") (hm2 : X.mg "range" = none) (ha : SimE X B a ma) (sa : PySem.W.kdsPlain a = true) :
    SimE X B (.Call (.Name "list" p) [.Call (.Name "range" p2) [a] [] pos2] [] pos) (listRgM bx ma) :=
  PE.imp (pe_listRg hc hg hm (prg_1 hg2 hm2 ha (star2 sa)) rfl) fun σ H Q h => by
    obtain ⟨ρ, env, st, d, st', r, re, e, q⟩ := h
    obtain ⟨⟨x, st1⟩, e1, e⟩ := Option.bind_eq_some_iff.mp e
    dsimp only at e
    split at e
    · rename_i j
      split at e
      · rename_i hj
        simp only [okR, Bool.and_eq_true, decide_eq_true_eq] at hj
        refine ⟨ρ, env, st, _, st1, r, re, e1, fun ρ1 H1 vx x1 r1 hx => ?_⟩
        refine ⟨j, hx, ⟨by omega, by omega, hj.1.1, hj.1.2, ?_⟩, fun q0 hq0 => after_lst r1 (rvs_rng j) (Option.some.inj e) (q.trans x1) q0 hq0⟩
        have := hj.2
        unfold bigN at this
        omega
      · cases e
    · cases e
def listRg2M (bx : Bool) (a b : EM) : EM := fun env st => (a env st).bind fun p => (b env p.2).bind fun q => match p.1, q.1 with
  | .int i, .int j => if okR i && okR j && decide ((j - i).toNat ≤ bigN) then some (mkL bx (rngL i j) q.2) else none
  | _, _ => none
theorem rvs_rng2 {K : PySem.W.Frag} {ρ : Rho} {H : Hp} (i j : Int) : RVs K B ρ H (rngL i j) (rgV i j) := by
  have gen : ∀ (l : List Nat), RVs K B ρ H (l.map fun (k : Nat) => D.int (i + (k : Int))) (l.map fun (k : Nat) => V.int (i + (k : Int))) := by
    intro l
    induction l with
    | nil => exact rfl
    | cons n l ih => exact ⟨_, _, rfl, rfl, ih⟩
  exact gen _
theorem sim_listRg2 {p p2 pos pos2 : Pos} {ma mb : EM} (bx : Bool) (hc : X.calm = true) (hg : Gl X "list") (hm : X.mg "list" = none) (hg2 : Gl X "range") (hm2 : X.mg "range" = none) (ha : SimE X B a ma) (hb : SimE X B b mb) (sa : PySem.W.kdsPlain a = true) (sb : PySem.W.kdsPlain b = true) :
    SimE X B (.Call (.Name "list" p) [.Call (.Name "range" p2) [a, b] [] pos2] [] pos) (listRg2M bx ma mb) :=
  PE.imp (pe_listRg hc hg hm (prg_2 hg2 hm2 ha hb (star2 sa) (star2 sb) (by rw [star2 sb]; rfl)) rfl) fun σ H Q h => by
    obtain ⟨ρ, env, st, d, st', r, re, e, q⟩ := h
    obtain ⟨⟨x, st1⟩, e1, e⟩ := Option.bind_eq_some_iff.mp e
    obtain ⟨⟨y, st2⟩, e2, e⟩ := Option.bind_eq_some_iff.mp e
    obtain ⟨i, j, rfl, rfl, eq⟩ : ∃ i j, x = .int i ∧ y = .int j ∧ (if okR i && okR j && decide ((j - i).toNat ≤ bigN) then some (mkL bx (rngL i j) st2) else none) = some (d, st') := by
      cases x with
      | int i => cases y with
        | int j => exact ⟨i, j, rfl, rfl, e⟩
        | _ => cases e
      | _ => cases y <;> cases e
    split at eq
    · rename_i hj
      simp only [okR, Bool.and_eq_true, decide_eq_true_eq] at hj
      refine ⟨ρ, env, st, _, st1, r, re, e1, fun ρ1 H1 vx x1 r1 hx => ?_⟩
      refine ⟨ρ1, env, st1, _, st2, r1, re.mono x1, e2, fun ρ2 H2 vy x2 r2 hy => ?_⟩
      refine ⟨i, j, hx, hy, ⟨hj.1.1.1, hj.1.1.2, hj.1.2.1, hj.1.2.2, ?_⟩, fun q0 hq0 => after_lst r2 (rvs_rng2 i j) (Option.some.inj eq) (q.trans (x1.trans x2)) q0 hq0⟩
      have := hj.2
      unfold bigN at this
      omega
    · cases eq
theorem itok_rev {ρ : Rho} {H : Hp} {j : Int} : ItOk X.K B ρ H (Itc (0 + (((j - 0).toNat : Nat) : Int) - 1) (-1) (j - 0).toNat) (rngRev j) (fun _ => true) := by
  intro k ρ1 H1 st x r _
  have hj : (j - 0).toNat = j.toNat := by rw [Int.sub_zero]
  refine ⟨fun d hd => ?_, fun hl => ?_⟩
  · unfold rngRev at hd
    rw [List.getElem?_map] at hd
    obtain ⟨i, hi, rfl⟩ := Option.map_eq_some_iff.mp hd
    obtain ⟨hk, e⟩ := List.getElem?_eq_some_iff.mp hi
    rw [List.getElem_range] at e
    subst e
    rw [List.length_range] at hk
    refine ⟨by show k < (j - 0).toNat; rw [hj]; exact hk, fun v H' hy => ?_⟩
    obtain ⟨rfl, rfl⟩ := hy
    refine ⟨Ext.refl, r, ?_⟩
    show V.int _ = V.int _
    rw [hj]
    congr 1
    omega
  · show (j - 0).toNat ≤ k
    unfold rngRev at hl
    rw [List.length_map, List.length_range] at hl
    omega
theorem sim_revI {tg : Expr} {p p2 pos pos2 : Pos} {ma : EM} (hg : Gl X "reversed") (hm : X.mg "reversed" = none) (hg2 : Gl X "range") (hm2 : X.mg "range" = none) (ha : SimE X B a ma) (sa : PySem.W.kdsPlain a = true) :
    SimI X B tg (.Call (.Name "reversed" p) [.Call (.Name "range" p2) [a] [] pos2] [] pos) (revRgI ma) :=
  PI.imp (pi_revR hg hm (prg_1 hg2 hm2 ha (star2 sa)) rfl) fun σ H R h => by
    obtain ⟨ρ, env, st, items, g, st', r, re, e, q⟩ := h
    obtain ⟨⟨x, st1⟩, e1, e⟩ := Option.bind_eq_some_iff.mp e
    dsimp only at e
    split at e
    · rename_i j
      split at e
      · rename_i hj
        cases e
        simp only [okR, Bool.and_eq_true, decide_eq_true_eq] at hj
        refine ⟨ρ, env, st, _, _, r, re, e1, fun ρ1 H1 vx x1 r1 hx => ?_⟩
        exact ⟨j, hx, by omega, by omega, hj.1, hj.2, q ρ1 H1 _ x1 r1 itok_rev⟩
      · cases e
    · cases e
/-! ### pairs and triples of plain names -/
def parS (is : List Nat) (as : AM) : SM := fun env st => (as env st).bind fun p => if p.1.length = is.length then some (.nx, (is.zip p.1).foldl (fun env q => env.set q.1 (some q.2)) env, p.2) else none
theorem sim_par2 {i j : Nat} {x y : Str} {as : AM} {px py pt : Pos} {kt k2 : Nat} {pt2 : Pos} (hc : X.calm = true) (hN : X.N.Nodup) (hi : X.N[i]? = some x) (hj : X.N[j]? = some y) (hij : i ≠ j)
    (hx : X.env.scope.names.lookup x = some .local) (hy : X.env.scope.names.lookup y = some .local) (ha : SimA X B [a, b] as)
    (hw : swappedStores [.Tuple [.Name x px, .Name y py] kt pt] (.Tuple [a, b] k2 pt2) X.env = pure (some [x, y])) :
    SimS X B (.Assign [.Tuple [.Name x px, .Name y py] kt pt] (.Tuple [a, b] k2 pt2) pos) (parS [i, j] as) :=
  PS.imp (ps_par hc hN hi hj hij hx hy ha hw rfl) fun E σ H h => by
    obtain ⟨ρ, env, st, fl, env', st', r, re, e, q⟩ := h
    obtain ⟨⟨ds, st1⟩, e1, e⟩ := Option.bind_eq_some_iff.mp e
    dsimp only at e
    split at e
    · rename_i hl
      cases e
      refine ⟨ρ, env, st, ds, _, r, re, e1, fun ρ1 H1 vs x1 r1 hv => ?_⟩
      match ds, hl, hv with
      | [d1, d2], _, hv =>
        obtain ⟨v, w, rfl, hv1, hv2⟩ := hv.two
        exact ⟨v, w, rfl, q ρ1 H1 x1 r1 _ (((re.mono x1).set i hv1).set j hv2)⟩
    · cases e
theorem RVs.three {K : PySem.W.Frag} {ρ : Rho} {H : Hp} {d e f : D} {vs : List V} (h : RVs K B ρ H [d, e, f] vs) : ∃ v u w, vs = [v, u, w] ∧ RV K B ρ H d v ∧ RV K B ρ H e u ∧ RV K B ρ H f w := by
  obtain ⟨v, vr, rfl, e2, e3⟩ := h
  obtain ⟨u, w, rfl, e4, e5⟩ := RVs.two e3
  exact ⟨v, u, w, rfl, e2, e4, e5⟩
theorem sim_par3 {i j l : Nat} {x y z : Str} {c : Expr} {as : AM} {px py pz pt : Pos} {kt k2 : Nat} {pt2 : Pos} (hc : X.calm = true) (hN : X.N.Nodup) (hi : X.N[i]? = some x) (hj : X.N[j]? = some y) (hl : X.N[l]? = some z) (hij : i ≠ j) (hil : i ≠ l) (hjl : j ≠ l)
    (hx : X.env.scope.names.lookup x = some .local) (hy : X.env.scope.names.lookup y = some .local) (hz : X.env.scope.names.lookup z = some .local) (ha : SimA X B [a, b, c] as)
    (hw : swappedStores [.Tuple [.Name x px, .Name y py, .Name z pz] kt pt] (.Tuple [a, b, c] k2 pt2) X.env = pure (some [x, y, z])) :
    SimS X B (.Assign [.Tuple [.Name x px, .Name y py, .Name z pz] kt pt] (.Tuple [a, b, c] k2 pt2) pos) (parS [i, j, l] as) :=
  PS.imp (ps_par3 hc hN hi hj hl hij hil hjl hx hy hz ha hw rfl) fun E σ H h => by
    obtain ⟨ρ, env, st, fl, env', st', r, re, e, q⟩ := h
    obtain ⟨⟨ds, st1⟩, e1, e⟩ := Option.bind_eq_some_iff.mp e
    dsimp only at e
    split at e
    · rename_i hl
      cases e
      refine ⟨ρ, env, st, ds, _, r, re, e1, fun ρ1 H1 vs x1 r1 hv => ?_⟩
      match ds, hl, hv with
      | [d1, d2, d3], _, hv =>
        obtain ⟨v, w, u, rfl, hv1, hv2, hv3⟩ := hv.three
        exact ⟨v, w, u, rfl, q ρ1 H1 x1 r1 _ ((((re.mono x1).set i hv1).set j hv2).set l hv3)⟩
    · cases e
/-! ### a def's call with keywords -/
theorem sim_defK {CX : CXT} {k np : Nat} {f : Addr} {fd : FuncData} {ps : List Str} {x : Str} {run : CM} {E : XK} {ks : List Str} {g : List Value → List Value → List Value} {gV : List V → List V → List V} {gD : List D → List D → List D} {p : Pos} {es : List Expr} {kws : List Keyword} {n : Nat} {as ak : AM}
    (F : FnOk X.prog X.w X.K X.mg X.base CX k f fd ps (SpOf X.K B np run)) (hr : Room k X.A) (hg : Gl X x) (hm : X.mg x = some (.ref f)) (hk : PySem.W.keepIn X.K (.ref f) = true) (hb : KBn X.K fd ps n ks g gV) (hx : Passes CX X E)
    (hgd : ∀ ρ H ds vs es us, RVs X.K B ρ H ds vs → RVs X.K B ρ H es us → RVs X.K B ρ H (gD ds es) (gV vs us))
    (ha : SimA X B (e :: es) as) (hkw : PK X kws (TAm X.K B ak)) (hall : (backToKw pos (keywordEach kws X.env)).all (·.1.isSome) = true) (hks : (backToKw pos (keywordEach kws X.env)).filterMap (·.1) = ks)
    (hdb : (x == ("__debug__" : Str)) = false) (he : starEach (e :: es) X.env = (false, eval e X.env) :: starEach es X.env)
    (hpl : ((backTo pos (starEach (e :: es) X.env)).any (·.1) || (backToKw pos (keywordEach kws X.env)).any (·.1.isNone)) = false) :
    SimE X B (.Call (.Name x p) (e :: es) kws pos) (fun env st => (as env st).bind fun p => (ak env p.2).bind fun q => if p.1.length = n ∧ q.1.length = ks.length ∧ (gD p.1 q.1).length = np then run (gD p.1 q.1) q.2 else none) :=
  PE.imp (pe_callN F hr hg hm hk hb hx ha hkw hall hks hdb he hpl) fun σ H Q h => by
    obtain ⟨ρ, env, st, d, st', r, re, e, q⟩ := h
    obtain ⟨⟨xs, st1⟩, e1, e⟩ := Option.bind_eq_some_iff.mp e
    obtain ⟨⟨ys, st2⟩, e2, e⟩ := Option.bind_eq_some_iff.mp e
    dsimp only at e
    split at e
    · rename_i hl
      refine ⟨ρ, env, st, xs, st1, r, re, e1, fun ρ1 H1 vs x1 r1 hv => ?_⟩
      refine ⟨ρ1, env, st1, ys, st2, r1, re.mono x1, e2, fun ρ2 H2 us x2 r2 hu => ?_⟩
      have hv2 := hgd ρ2 H2 xs vs ys us (hv.mono x2) hu
      exact ⟨by rw [← hv.len]; exact hl.1, by rw [← hu.len]; exact hl.2.1, by rw [← hv2.len]; exact hl.2.2, ρ2, st2, _, d, st', r2, hv2, e, q.trans (x1.trans x2)⟩
    · cases e
end
end Mn
set_option Elab.async false
set_option linter.all false
set_option maxRecDepth 100000
set_option maxHeartbeats 2000000
set_option autoImplicit false
/-! Mn, part H: what an expression of the text means. -/
namespace Mn
open PySem PySem.Spec PyProof.Rows L2
inductive GV where
  | fn (j np : Nat) (dd : List D) (kn : Option Str) | const (d : D) | blt
structure Ctx where
  B : Tb
  N : List Str
  sc : Scope
  own : Str → Bool
  gl : List (Str × GV)
  call : Nat → CM
  bx : List Pos
  wf : Nat
  cd : Bool
def Ctx.bxd (c : Ctx) (p : Pos) : Bool := c.bx.contains p
abbrev Evs := (Expr → EM) × (Expr → TM) × (Expr → Option (List Nat × GM))
abbrev EvF := Ctx → Evs
def failT : TM := fun _ _ => none
def notSpecial (x : Str) : Bool := !(x == ("__debug__" : Str)) && !(x == ("__classdict__" : Str)) && !(x == ("__name__" : Str))
/-- the slot of a name of the def -/
def slotOf (c : Ctx) (x : Str) : Option Nat := if c.N[c.N.idxOf x]? = some x then some (c.N.idxOf x) else none
def tyNames : List (Str × String) := [("int", "int"), ("str", "str"), ("bool", "bool"), ("tuple", "tuple"), ("list", "list"), ("dict", "dict")]
def nameM (c : Ctx) (x : Str) : EM := if notSpecial x then (match c.sc.names.lookup x with
  | some .local => (match slotOf c x with | some i => varM i | none => failE)
  | some .cell => (match slotOf c x with | some i => varM i | none => failE)
  | some .free => (match slotOf c x with | some i => varM i | none => failE)
  | some .globalImplicit => (match c.gl.lookup x with
    | some (.const d) => cM d
    | some .blt => (match tyNames.lookup x with | some n => cM (.ty n) | none => failE)
    | _ => failE)
  | _ => failE) else failE
def constM (c : Ctx) : Const → EM
  | .int i => cM (.int i)
  | .bool b => cM (.bl b)
  | .none => cM .non
  | .str s => if c.B.T[c.B.T.idxOf s]? = some s then cM (.sym (c.B.T.idxOf s)) else failE
  | _ => failE
def opM (bx : Bool) : Operator → Option Op2
  | .Add => some (addO bx)
  | .Sub => some subO
  | .Mult => some (mulO bx)
  | .FloorDiv => some fdivO
  | .Mod => some modO
  | .Pow => some powO
  | _ => none
def cmpA (f : Int → Int → Int) : Op2 := fun x y st => match x, y with
  | .int i, .int j => some (.int (f i j), st)
  | _, _ => none
def iopM : Operator → Option Op2
  | .Add => some (cmpA (fun i j => i + j))
  | .Sub => some (cmpA (fun i j => i - j))
  | _ => none
def cmpM (B : Tb) : CmpOp → Op2
  | .Eq => eqO
  | .NotEq => neO
  | .Lt => cmpO fun i j => decide (i < j)
  | .LtE => cmpO fun i j => decide (i ≤ j)
  | .Gt => cmpO fun i j => decide (j < i)
  | .GtE => cmpO fun i j => decide (j ≤ i)
  | .Is => isO
  | .IsNot => isNotO
  | .In => memO B
  | .NotIn => notMemO B
def isStarred : Expr → Bool
  | .Starred .. => true
  | _ => false
def argsM (f : Expr → EM) : List Expr → AM
  | [] => nilA
  | e :: es => if isStarred e then fun _ _ => none else consA (f e) (argsM f es)
def bltM (bx : Bool) (x : Str) : Option CM :=
  if x = "len" then some (one lenF) else if x = "int" then some (one intF) else if x = "abs" then some (one absF)
  else if x = "max" then some max2C else if x = "min" then some min2C else if x = "list" then some (listC bx) else if x = "tuple" then some tupleC
  else if x = "sum" then some (one sumF) else if x = "any" then some (one anyF) else if x = "all" then some (one allF) else if x = "isinstance" then some isiC else none
def mthM (x : Str) : Option MM := if x = "append" then some appendO else if x = "pop" then some popO else none
def isBlt (c : Ctx) (x : Str) : Bool := match c.gl.lookup x with
  | some .blt => true
  | _ => false
def isGl (c : Ctx) (x : Str) : Bool := notSpecial x && decide (c.sc.names.lookup x = some .globalImplicit)
/-- reversed(range(b)): b -/
def rgArg (c : Ctx) (a : Expr) : Option Expr := match a with
  | .Call (.Name y _) [b] [] _ => if y = "range" ∧ (isGl c y && isBlt c y && PySem.W.kdsPlain b) = true then some b else none
  | _ => none
def rgArg2 (c : Ctx) (a : Expr) : Option (Expr × Expr) := match a with
  | .Call (.Name y _) [a, b] [] _ => if y = "range" ∧ (isGl c y && isBlt c y && PySem.W.kdsPlain a && PySem.W.kdsPlain b) = true then some (a, b) else none
  | _ => none
/-- what a for or a comprehension walks -/
def iterM (f : Expr → EM) (c : Ctx) (e : Expr) : IM :=
  match e with
  | .Call (.Name x _) [a] [] _ => if x = "range" ∧ (isGl c x && isBlt c x && !isStarred a) = true then rng1I (argsM f [a]) else
    if x = "reversed" ∧ (isGl c x && isBlt c x) = true then (match rgArg c a with | some b => revRgI (f b) | none => seqI (f e)) else seqI (f e)
  | .Call (.Name x _) [a, b] [] _ => if x = "range" ∧ (isGl c x && isBlt c x && !isStarred a && !isStarred b) = true then rng2I (argsM f [a, b]) else seqI (f e)
  | e => seqI (f e)
def notFoldSet : Expr → Bool
  | .Set .. => false
  | _ => true
def notCall : Expr → Bool
  | .Call .. => false
  | _ => true
def andsE (f : Expr → EM) : List Expr → EM
  | [] => failE
  | [a] => f a
  | a :: r => andE (f a) (andsE f r)
def orsE (f : Expr → EM) : List Expr → EM
  | [] => failE
  | [a] => f a
  | a :: r => orE (f a) (orsE f r)
def andsT (f : Expr → TM) : List Expr → TM
  | [] => failT
  | [a] => f a
  | a :: r => andT (f a) (andsT f r)
def orsT (f : Expr → TM) : List Expr → TM
  | [] => failT
  | [a] => f a
  | a :: r => orT (f a) (orsT f r)
def tgsM (f : Expr → Option (List Nat × GM)) : List Expr → Option (List Nat × GsM)
  | [] => some ([], nilG)
  | e :: es => if isStarred e then none else (f e).bind fun p => (tgsM f es).map fun q => (p.1 ++ q.1, consG p.2 q.2)
def isOwn : Option NameKind → Bool
  | some .local => true
  | some .cell => true
  | _ => false
def Ctx.blk (c : Ctx) (scope : Scope) : Ctx := { c with cd := false, sc := relS scope c.sc, own := fun x => isOwn (scope.names.lookup x) }
def ownOf (c : Ctx) (scope : Scope) : List (Str × Nat) := scope.names.filterMap fun q => if isOwn (some q.2) then (slotOf c q.1).map fun i => (q.1, i) else none
/-- sorted of a display of two, list of a range -/
def specE (fe : Expr → EM) (c : Ctx) (x : Str) (es : List Expr) (pos : Pos) : Option EM := match es with
  | [.Set [a, b] 0 _] => if x = "sorted" ∧ (PySem.W.kdsPlain a && PySem.W.kdsPlain b && c.cd) = true then some (sort2M (c.bxd pos) (fe a) (fe b)) else none
  | [.Call y ys ks p] => if x = "list" then (match rgArg c (.Call y ys ks p) with | some b => some (listRgM (c.bxd pos) (fe b)) | none => (match rgArg2 c (.Call y ys ks p) with | some (a, b) => some (listRg2M (c.bxd pos) (fe a) (fe b)) | none => none)) else none
  | _ => none
/-- f(.., k = v) -/
def kwM (np : Nat) (run : CM) (as ak : AM) : EM := fun env st => (as env st).bind fun p => (ak env p.2).bind fun q => if p.1.length = np - 1 ∧ q.1.length = 1 ∧ (p.1 ++ q.1).length = np then run (p.1 ++ q.1) q.2 else none
def keysM (f : Expr → EM) : List (Option Expr) → List Expr → KM
  | some k :: ks, v :: vs => consK (f k) (f v) (keysM f ks vs)
  | _, _ => nilK
def callE (fe : Expr → EM) (c : Ctx) (fn : Expr) (es : List Expr) (kws : List Keyword) (pos : Pos) : EM :=
  match fn, kws with
  | .Name x _, [] => if isGl c x then (match c.gl.lookup x with
    | some (.fn j np dd _) => callM (fun ds st => if (ds ++ dd).length = np then c.call j (ds ++ dd) st else none) (argsM fe es)
    | some .blt => (match specE fe c x es pos with
      | some m => m
      | none => match es with
        | [] => failE
        | _ => match bltM (c.bxd pos) x with
          | some cm => callM cm (argsM fe es)
          | none => failE)
    | _ => failE) else failE
  | .Name x _, [⟨some nm, v, _⟩] => if isGl c x then (match c.gl.lookup x with
    | some (.fn j np _ (some kn)) => (match es with
      | [] => failE
      | _ => if kn = nm then kwM np (c.call j) (argsM fe es) (consA (fe v) nilA) else failE)
    | some .blt => (match es with
      | [a] => if x = "max" ∧ nm = "default" ∧ PySem.W.kdsPlain a = true then maxdM (fe a) (fe v) else failE
      | _ => failE)
    | _ => failE) else failE
  | .Attribute o m apos, [] => if (apos.endLine == pos.line && notCall o && decide (es.length < 20)) then (match mthM m with
    | some mm => mthL mm (fe o) (argsM fe es)
    | none => failE) else failE
  | _, _ => failE
def lcE (f : EvF) (c : Ctx) (elt : Expr) (gens : List Comprehension) (scope : Scope) (pos : Pos) : EM :=
  match gens with
  | [⟨tg, it, ifs, 0⟩] => if blkC c.N c.sc scope (ownOf c scope) && notFoldSet it then (match (f (c.blk scope)).2.2 tg with
    | some (sl, g) => if sl.all (fun i => ((ownOf c scope).map (·.2)).contains i) then (match ifs with
      | [] => lcM (c.bxd pos) ((ownOf c scope).map (·.2)) (iterM (f c).1 c it) g yesT ((f (c.blk scope)).1 elt)
      | [t] => lcM (c.bxd pos) ((ownOf c scope).map (·.2)) (iterM (f c).1 c it) g ((f (c.blk scope)).2.1 t) ((f (c.blk scope)).1 elt)
      | _ => failE) else failE
    | none => failE) else failE
  | _ => failE
def stepE (f : EvF) (c : Ctx) (e : Expr) : EM := match e with
  | .Name x _ => nameM c x
  | .Constant k _ _ => constM c k
  | .BinOp a op b pos => (match opM (c.bxd pos) op with
    | some o => binM o ((f c).1 a) ((f c).1 b)
    | none => failE)
  | .UnaryOp op a _ => (match op with
    | .USub => unM negM ((f c).1 a)
    | .Not => notE ((f c).1 a)
    | _ => failE)
  | .BoolOp op es _ => (match op with
    | .And => andsE (f c).1 es
    | .Or => orsE (f c).1 es)
  | .Compare a ops bs _ => (match ops, bs with
    | [op], [b] => if notFoldSet b then binM (cmpM c.B op) ((f c).1 a) ((f c).1 b) else failE
    | _, _ => failE)
  | .IfExp t a b _ => ifM ((f c).2.1 t) ((f c).1 a) ((f c).1 b)
  | .Tuple es _ _ => tupM (argsM (f c).1 es)
  | .List es pos => lstM (c.bxd pos) (argsM (f c).1 es)
  | .Subscript a i pos => (match i with
    | .Slice lo hi stp _ => (match stp with
      | none => slcM (slO (c.bxd pos)) ((f c).1 a) (lo.map (f c).1) (hi.map (f c).1)
      | some _ => failE)
    | i => binM (itemO c.B) ((f c).1 a) ((f c).1 i))
  | .Call fn es kws pos => callE (f c).1 c fn es kws pos
  | .ListComp elt gens scope pos => lcE f c elt gens scope pos
  | .Dict ks vs pos => if ks.all (·.isSome) && decide (ks.length = vs.length) && !ks.isEmpty && decide (ks.length ≤ 15) then dctM (c.bxd pos) (keysM (f c).1 ks vs) else failE
  | _ => failE
def stepT (f : EvF) (c : Ctx) (e : Expr) : TM := match e with
  | .BoolOp op es _ => (match op with
    | .And => andsT (f c).2.1 es
    | .Or => orsT (f c).2.1 es)
  | .UnaryOp op a _ => (match op with
    | .Not => notT ((f c).2.1 a)
    | _ => failT)
  | .Compare a ops bs _ => (match ops, bs with
    | [op], [b] => if notFoldSet b then bolM (binM (cmpM c.B op) ((f c).1 a) ((f c).1 b)) else failT
    | _, _ => failT)
  | .IfExp _ _ _ _ => failT
  | e => truM (stepE f c e)
def stepG (f : EvF) (c : Ctx) (e : Expr) : Option (List Nat × GM) := match e with
  | .Name x _ => if c.own x then (slotOf c x).map fun i => ([i], nameG i) else none
  | .Tuple es _ _ => (tgsM (f c).2.2 es).map fun q => (q.1, tupG es.length q.2)
  | .Subscript o i _ => (match i with
    | .Slice .. => none
    | i => some ([], subG ((f c).1 o) ((f c).1 i)))
  | _ => none
def ev : Nat → EvF
  | 0 => fun _ => (fun _ => failE, fun _ => failT, fun _ => none)
  | n + 1 => fun c => (stepE (ev n) c, stepT (ev n) c, stepG (ev n) c)
end Mn
set_option Elab.async false
set_option linter.all false
set_option maxRecDepth 100000
set_option maxHeartbeats 4000000
set_option autoImplicit false
/-! Mn, part I: an expression of the text does what its meaning says. -/
namespace Mn
open PySem PySem.Spec PyProof.Rows L2
/-- what a context must give -/
structure CtxOk (X : Cx) (c : Ctx) (k : Nat) : Prop where
  calm : X.calm = true
  hp : PassesOwn (model X.prog X.w) X.A X.env X.xe
  N : X.N = c.N
  nd : c.N.Nodup
  kind : X.env.scope.kind = .function
  sc : X.env.scope = c.sc
  O : OCx X c.B
  own : ∀ x, c.own x = true → Loc X.env.scope x ∧ (X.fn x = true ∨ X.env.scope.names.lookup x = some .local)
  room : Room k X.A
  code : c.cd = true → PySem.W.kdsCode X.K X.env.code = true
  blt : ∀ x, c.gl.lookup x = some .blt → X.mg x = none
  const : ∀ x d, c.gl.lookup x = some (.const d) → ∃ u v, X.mg x = some u ∧ RelV v u ∧ ∀ ρ H, RV X.K c.B ρ H d v
  fn : ∀ x j np dd kn, c.gl.lookup x = some (.fn j np dd kn) → ∃ f fd ps dvs dus, X.mg x = some (.ref f) ∧ PySem.W.keepIn X.K (.ref f) = true ∧ FnOk X.prog X.w X.K X.mg X.base CX0 k f fd ps (SpOf X.K c.B np (c.call j)) ∧ Binds X.K fd ps dus ∧ Vals dvs dus ∧ (∀ ρ H, RVs X.K c.B ρ H dd dvs) ∧ ∀ kx, kn = some kx → KBn X.K fd ps (np - 1) [kx] (fun us ws => us ++ ws) (fun vs zs => vs ++ zs)
structure Sound (f : EvF) : Prop where
  e : ∀ X c k, CtxOk X c k → ∀ e, SimE X c.B e ((f c).1 e)
  t : ∀ X c k, CtxOk X c k → ∀ e, SimT X c.B e ((f c).2.1 e)
  g : ∀ X c k, CtxOk X c k → ∀ tg sl g, (f c).2.2 tg = some (sl, g) → SimG X c.B tg sl g
theorem pt_fail {X : Cx} {B : Tb} {e : Expr} : SimT X B e failT := ⟨fun _ _ _ _ _ _ h => by
  obtain ⟨ρ, env, st, d, st', _, _, h, _⟩ := h
  cases h⟩
theorem pt_fail' {X : Cx} {B : Tb} {e : Expr} {m : TM} (h : ∀ env st, m env st = none) : SimT X B e m := ⟨fun _ _ _ _ _ _ q => by
  obtain ⟨ρ, env, st, d, st', _, _, q, _⟩ := q
  rw [h] at q
  cases q⟩
theorem pw_fail {X : Cx} {B : Tb} {e : Expr} : SimW X B e failT := ⟨fun _ _ _ _ _ _ _ h => by
  obtain ⟨ρ, env, st, d, st', _, _, h, _⟩ := h
  cases h⟩
theorem pa_fail {X : Cx} {B : Tb} {es : List Expr} : SimA X B es (fun _ _ => none) := ⟨fun _ _ _ _ _ _ _ h => by
  obtain ⟨ρ, env, st, d, st', _, _, h, _⟩ := h
  cases h⟩
/-! ### side conditions -/
theorem star_cons {e : Expr} {es : List Expr} {env : PySem.Env} (h : isStarred e = false) : starEach (e :: es) env = (false, eval e env) :: starEach es env := by
  cases e <;> first | rfl | cases h
theorem asg_cons {e : Expr} {es : List Expr} {env : PySem.Env} (h : isStarred e = false) : assignEach (e :: es) env = (false, assign e env) :: assignEach es env := by
  cases e <;> first | rfl | cases h
def noStars (es : List Expr) : Bool := es.all fun e => !isStarred e
theorem stars_any {pos : Pos} {env : PySem.Env} : ∀ {es : List Expr}, noStars es = true → (backTo pos (starEach es env)).any (·.1) = false
  | [], _ => rfl
  | e :: es, h => by
    obtain ⟨h1, h2⟩ := Bool.and_eq_true_iff.mp (show (!isStarred e && noStars es) = true from h)
    rw [star_cons (by simpa using h1)]
    show (false || (backTo pos (starEach es env)).any (·.1)) = false
    rw [stars_any h2]; rfl
theorem stars_all {pos : Pos} {env : PySem.Env} : ∀ {es : List Expr}, noStars es = true → (backTo pos (starEach es env)).all (fun x => !x.1) = true
  | [], _ => rfl
  | e :: es, h => by
    obtain ⟨h1, h2⟩ := Bool.and_eq_true_iff.mp (show (!isStarred e && noStars es) = true from h)
    rw [star_cons (by simpa using h1)]
    show (!false && (backTo pos (starEach es env)).all (fun x => !x.1)) = true
    rw [stars_all h2]; rfl
theorem asg_no {env : PySem.Env} : ∀ {es : List Expr}, noStars es = true → (assignEach es env).length = es.length ∧ (assignEach es env).findIdx? (·.1) = none
  | [], _ => ⟨rfl, rfl⟩
  | e :: es, h => by
    obtain ⟨h1, h2⟩ := Bool.and_eq_true_iff.mp (show (!isStarred e && noStars es) = true from h)
    obtain ⟨a, b⟩ := asg_no (env := env) h2
    rw [asg_cons (by simpa using h1)]
    exact ⟨by simp [a], by simp [List.findIdx?_cons, b]⟩
theorem behind_ok {op : CmpOp} {b : Expr} (h : notFoldSet b = true) : behindInMarks op b = false := by
  cases b <;> first | rfl | cases h
theorem fold_ok {it : Expr} {env : PySem.Env} (h : notFoldSet it = true) (x : Value) : foldedSetIterable it env x = pure x := by
  cases it <;> first | rfl | cases h
theorem base_ok {o : Expr} {name : Str} {env : PySem.Env} (h : notCall o = true) : attributeBase o name env (eval o env) = eval o env := by
  cases o <;> first | rfl | cases h
theorem special_ok {x : Str} (h : notSpecial x = true) : (x == ("__debug__" : Str)) = false ∧ (x == ("__classdict__" : Str)) = false ∧ x ≠ "__name__" := by
  unfold notSpecial at h
  simp only [Bool.and_eq_true, Bool.not_eq_true'] at h
  exact ⟨h.1.1, h.1.2, fun e => by rw [e] at h; exact absurd h.2 (by decide)⟩
section
variable {X : Cx} {c : Ctx} {k : Nat}
theorem slot_ok (O : CtxOk X c k) {x : Str} {i : Nat} (h : slotOf c x = some i) : X.N[i]? = some x := by
  unfold slotOf at h
  split at h
  · rename_i e; cases h; rw [O.N]; exact e
  · cases h
theorem gl_ok (O : CtxOk X c k) {x : Str} (h : isGl c x = true) : Gl X x ∧ notSpecial x = true := by
  obtain ⟨h1, h2⟩ := Bool.and_eq_true_iff.mp h
  refine ⟨?_, h1⟩
  show X.env.scope.names.lookup x = some .globalImplicit
  rw [O.sc]; exact of_decide_eq_true h2
theorem isBlt_ok (O : CtxOk X c k) {x : Str} (h : isBlt c x = true) : X.mg x = none := by
  unfold isBlt at h
  split at h
  · rename_i e; exact O.blt x e
  · cases h
theorem ty_boot {x : Str} {n : String} (h : tyNames.lookup x = some n) : bootBuiltins x = some (.type n) := by
  have hm := PySem.mem_of_lookup h
  have all : ∀ q ∈ tyNames, bootBuiltins q.1 = some (.type q.2) := by decide +kernel
  exact all _ hm
theorem name_ok (O : CtxOk X c k) {x : Str} {p : Pos} : SimE X c.B (.Name x p) (nameM c x) := by
  unfold nameM
  split
  · rename_i hsp
    obtain ⟨h1, h2, h3⟩ := special_ok hsp
    have vis : ∀ i, slotOf c x = some i → (c.sc.names.lookup x = some .local ∨ c.sc.names.lookup x = some .cell ∨ c.sc.names.lookup x = some .free) → SimE X c.B (.Name x p) (varM i) := fun i hi hv =>
      sim_var (slot_ok O hi) (by unfold Vis; rw [O.sc]; exact hv) h1 h2
    split
    · rename_i e
      split
      · rename_i i hi; exact vis i hi (.inl e)
      · exact pe_fail
    · rename_i e
      split
      · rename_i i hi; exact vis i hi (.inr (.inl e))
      · exact pe_fail
    · rename_i e
      split
      · rename_i i hi; exact vis i hi (.inr (.inr e))
      · exact pe_fail
    · rename_i e
      have hg : Gl X x := by show X.env.scope.names.lookup x = _; rw [O.sc]; exact e
      split
      · rename_i d hd
        obtain ⟨u, v, e1, e2, e3⟩ := O.const x d hd
        exact sim_const (pe_glob hg e1 e2 h1) e3
      · rename_i hd
        split
        · rename_i n hn
          exact sim_const (v := .ty n) (pe_bltn hg (O.blt x hd) (ty_boot hn) rfl h3 h1) fun _ _ => rfl
        · exact pe_fail
      · exact pe_fail
    · exact pe_fail
  · exact pe_fail
theorem const_ok (O : CtxOk X c k) {v : Const} {n : Nat} {p : Pos} : SimE X c.B (.Constant v n p) (constM c v) := by
  unfold constM
  split
  · exact sim_const pe_int fun _ _ => rfl
  · exact sim_const pe_bl fun _ _ => rfl
  · exact sim_const pe_non fun _ _ => rfl
  · split
    · rename_i h
      exact sim_const pe_str fun _ _ => ⟨_, h, rfl⟩
    · exact pe_fail
  · exact pe_fail
theorem op_ok (O : CtxOk X c k) {bx : Bool} {op : Operator} {o : Op2} (h : opM bx op = some o) : SimO X c.B (binaryOp op) o := by
  unfold opM at h
  split at h <;> cases h
  · exact sim_add bx
  · exact sim_sub
  · exact sim_mul bx
  · exact sim_fdiv
  · exact sim_mod
  · exact sim_pow
theorem cmp_ok (O : CtxOk X c k) (op : CmpOp) : SimO X c.B (compareOp op) (cmpM c.B op) := by
  cases op
  · exact sim_eq O.O
  · exact sim_ne O.O
  · exact sim_cmp op_lt
  · exact sim_cmp op_le
  · exact sim_cmp op_gt
  · exact sim_cmp op_ge
  · exact sim_is
  · exact sim_isNot
  · exact sim_mem O.O
  · exact sim_notMem O.O
theorem args_ok {f : Expr → EM} {B : Tb} (h : ∀ e, SimE X B e (f e)) : ∀ es : List Expr, SimA X B es (argsM f es)
  | [] => sim_nilA
  | e :: es => by
    unfold argsM
    split
    · exact pa_fail
    · rename_i hs
      exact sim_consA (h e) (args_ok h es) (star_cons (by simpa using hs))
/-- where the meaning of the arguments does not fail, no star stands among them -/
theorem args_stars {f : Expr → EM} : ∀ {es : List Expr} {env : Env} {st : Store} {r : List D × Store}, argsM f es env st = some r → noStars es = true
  | [], _, _, _, _ => rfl
  | e :: es, env, st, r, h => by
    unfold argsM at h
    split at h
    · cases h
    · rename_i hs
      obtain ⟨⟨x, st1⟩, e1, h⟩ := Option.bind_eq_some_iff.mp h
      obtain ⟨⟨y, st2⟩, e2, h⟩ := Option.bind_eq_some_iff.mp h
      exact Bool.and_eq_true_iff.mpr ⟨by simpa using hs, args_stars e2⟩
theorem args_none {f : Expr → EM} {es : List Expr} (h : noStars es = false) (env : Env) (st : Store) : argsM f es env st = none := by
  cases e : argsM f es env st with
  | none => rfl
  | some r => rw [args_stars e] at h; cases h
theorem blt_ok (O : CtxOk X c k) {bx : Bool} {x : Str} {cm : CM} {e : Expr} {es : List Expr} {p pos : Pos} {as : AM} (h : bltM bx x = some cm) (hg : Gl X x) (hm : X.mg x = none) (hsp : notSpecial x = true) (ha : SimA X c.B (e :: es) as) (hs : noStars (e :: es) = true) :
    SimE X c.B (.Call (.Name x p) (e :: es) [] pos) (callM cm as) := by
  obtain ⟨h1, h2, h3⟩ := special_ok hsp
  obtain ⟨s1, s2⟩ := Bool.and_eq_true_iff.mp (show (!isStarred e && noStars es) = true from hs)
  have hst := star_cons (env := X.env) (es := es) (e := e) (by simpa using s1)
  have hpl := stars_any (pos := pos) (env := X.env) s2
  have B : ∀ {id : String} {cm : CM}, bootBuiltins x = some (.builtin id) → SimC X c.B (.builtin id) cm → SimE X c.B (.Call (.Name x p) (e :: es) [] pos) (callM cm as) := fun hv hc => sim_callB hc hg hm hv ha h3 h1 hst hpl
  have T : ∀ {id : String} {cm : CM}, bootBuiltins x = some (.type id) → SimC X c.B (.type id) cm → SimE X c.B (.Call (.Name x p) (e :: es) [] pos) (callM cm as) := fun hv hc => sim_callTy hc hg hm hv ha h3 h1 hst hpl
  unfold bltM at h
  split at h
  · rename_i e0; cases h; exact B (by rw [e0]; decide +kernel) sim_len
  · split at h
    · rename_i e0; cases h; exact T (by rw [e0]; decide +kernel) sim_int
    · split at h
      · rename_i e0; cases h; exact B (by rw [e0]; decide +kernel) sim_abs
      · split at h
        · rename_i e0; cases h; exact B (by rw [e0]; decide +kernel) (sim_max2 O.calm)
        · split at h
          · rename_i e0; cases h; exact B (by rw [e0]; decide +kernel) (sim_min2 O.calm)
          · split at h
            · rename_i e0; cases h; exact T (by rw [e0]; decide +kernel) (sim_list bx)
            · split at h
              · rename_i e0; cases h; exact T (by rw [e0]; decide +kernel) sim_tuple
              · split at h
                · rename_i e0; cases h; exact B (by rw [e0]; decide +kernel) (sim_sum O.calm)
                · split at h
                  · rename_i e0; cases h; exact B (by rw [e0]; decide +kernel) (sim_any O.calm)
                  · split at h
                    · rename_i e0; cases h; exact B (by rw [e0]; decide +kernel) (sim_all O.calm)
                    · split at h
                      · rename_i e0; cases h; exact B (by rw [e0]; decide +kernel) sim_isi
                      · cases h
theorem kds_star {a : Expr} (h : PySem.W.kdsPlain a = true) : isStarred a = false := by
  cases a <;> first | rfl | cases h
theorem rg_ok (O : CtxOk X c k) {a b : Expr} (h : rgArg c a = some b) : ∃ p p2, a = .Call (.Name "range" p) [b] [] p2 ∧ Gl X "range" ∧ X.mg "range" = none ∧ PySem.W.kdsPlain b = true := by
  unfold rgArg at h
  split at h
  · rename_i y p b' p2
    split at h
    · rename_i hc
      cases h
      obtain ⟨rfl, hc⟩ := hc
      simp only [Bool.and_eq_true] at hc
      exact ⟨p, p2, rfl, (gl_ok O hc.1.1).1, isBlt_ok O hc.1.2, hc.2⟩
    · cases h
  · cases h
theorem rg2_ok (O : CtxOk X c k) {a b e : Expr} (h : rgArg2 c e = some (a, b)) : ∃ p p2, e = .Call (.Name "range" p) [a, b] [] p2 ∧ Gl X "range" ∧ X.mg "range" = none ∧ PySem.W.kdsPlain a = true ∧ PySem.W.kdsPlain b = true := by
  unfold rgArg2 at h
  split at h
  · rename_i y p a' b' p2
    split at h
    · rename_i hc
      cases h
      obtain ⟨rfl, hc⟩ := hc
      simp only [Bool.and_eq_true] at hc
      exact ⟨p, p2, rfl, (gl_ok O hc.1.1.1).1, isBlt_ok O hc.1.1.2, hc.1.2, hc.2⟩
    · cases h
  · cases h
theorem spec_ok (O : CtxOk X c k) {fe : Expr → EM} (h : ∀ e, SimE X c.B e (fe e)) {x : Str} {es : List Expr} {p pos : Pos} {m : EM} (hs : specE fe c x es pos = some m) (hg : Gl X x) (hm : X.mg x = none) : SimE X c.B (.Call (.Name x p) es [] pos) m := by
  unfold specE at hs
  split at hs
  · split at hs
    · rename_i hc
      obtain ⟨rfl, hc⟩ := hc
      simp only [Bool.and_eq_true] at hc
      cases hs
      exact sim_sort2 _ O.calm hg hm (O.code hc.2) (h _) (h _) hc.1.1 hc.1.2
    · cases hs
  · split at hs
    · rename_i hx
      subst hx
      split at hs
      · rename_i b hb
        cases hs
        obtain ⟨p1, p2, e, h1, h2, h3⟩ := rg_ok O hb
        rw [e]
        exact sim_listRg _ O.calm hg hm h1 h2 (h _) h3
      · split at hs
        · rename_i a b hb
          cases hs
          obtain ⟨p1, p2, e, h1, h2, h3, h4⟩ := rg2_ok O hb
          rw [e]
          exact sim_listRg2 _ O.calm hg hm h1 h2 (h _) (h _) h3 h4
        · cases hs
    · cases hs
  · cases hs
theorem calln_ok (O : CtxOk X c k) {fe : Expr → EM} (h : ∀ e, SimE X c.B e (fe e)) {x : Str} {p pos : Pos} {es : List Expr} {cm : CM} {bx : Bool} (hg : Gl X x) (hm : X.mg x = none) (hsp : notSpecial x = true) (hcm : bltM bx x = some cm) (h0 : es ≠ []) : SimE X c.B (.Call (.Name x p) es [] pos) (callM cm (argsM fe es)) := by
  cases es with
  | nil => exact absurd rfl h0
  | cons e es =>
    cases hs : noStars (e :: es) with
    | false => exact pe_fail' fun env st => by show (argsM fe (e :: es) env st).bind _ = none; rw [args_none hs]; rfl
    | true => exact blt_ok O hcm hg hm hsp (args_ok h _) hs
theorem kw_ok (O : CtxOk X c k) {fe : Expr → EM} (h : ∀ e, SimE X c.B e (fe e)) {x nm kn : Str} {p pos kpos : Pos} {e v : Expr} {es : List Expr} {j np : Nat} {dd : List D} (hg : Gl X x) (hsp : notSpecial x = true) (hl : c.gl.lookup x = some (.fn j np dd (some kn))) (hk : kn = nm) :
    SimE X c.B (.Call (.Name x p) (e :: es) [⟨some nm, v, kpos⟩] pos) (kwM np (c.call j) (argsM fe (e :: es)) (consA (fe v) nilA)) := by
  subst hk
  obtain ⟨f, fd, ps, dvs, dus, m1, m2, m3, m4, m5, m6, m7⟩ := O.fn x j np dd (some kn) hl
  cases hs : noStars (e :: es) with
  | false => exact pe_fail' fun env st => by show (argsM fe (e :: es) env st).bind _ = none; rw [args_none hs]; rfl
  | true =>
    obtain ⟨s1, s2⟩ := Bool.and_eq_true_iff.mp (show (!isStarred e && noStars es) = true from hs)
    have hkw : PK X [⟨some kn, v, kpos⟩] (TAm X.K c.B (consA (fe v) nilA)) := ⟨fun pos pins s σ H Q I q => (pk_one (h v)).run pos pins s σ H Q I (by
      obtain ⟨ρ, env, st, d, st', r, re, e, q⟩ := q
      obtain ⟨⟨x, st1⟩, e1, e⟩ := Option.bind_eq_some_iff.mp e
      obtain ⟨⟨y, st2⟩, e2, e⟩ := Option.bind_eq_some_iff.mp e
      cases e2
      cases e
      exact ⟨ρ, env, st, x, _, r, re, e1, fun ρ1 H1 vx x1 r1 hx => q ρ1 H1 _ x1 r1 ⟨vx, [], rfl, hx, rfl⟩⟩)⟩
    exact sim_defK (gD := fun ds es => ds ++ es) m3 O.room hg m1 m2 (m7 kn rfl) pass0 (fun ρ H ds vs es us a b => a.append b) (args_ok h _) hkw rfl rfl (special_ok hsp).1 (star_cons (by simpa using s1)) (by rw [stars_any hs]; rfl)
theorem call_ok (O : CtxOk X c k) {fe : Expr → EM} (h : ∀ e, SimE X c.B e (fe e)) {fn : Expr} {es : List Expr} {kws : List Keyword} {pos : Pos} : SimE X c.B (.Call fn es kws pos) (callE fe c fn es kws pos) := by
  unfold callE
  split
  · rename_i x p
    split
    · rename_i hgl
      obtain ⟨hg, hsp⟩ := gl_ok O hgl
      obtain ⟨h1, h2, h3⟩ := special_ok hsp
      split
      · rename_i j np dd kn hl
        obtain ⟨f, fd, ps, dvs, dus, m1, m2, m3, m4, m5, m6, _⟩ := O.fn x j np dd kn hl
        cases es with
        | nil => exact sim_def0 m3 O.room hg m1 m2 m4 m5 pass0 m6 h1
        | cons e es =>
          cases hs : noStars (e :: es) with
          | false => exact pe_fail' fun env st => by show (argsM fe (e :: es) env st).bind _ = none; rw [args_none hs]; rfl
          | true =>
            obtain ⟨s1, s2⟩ := Bool.and_eq_true_iff.mp (show (!isStarred e && noStars es) = true from hs)
            exact sim_def m3 O.room hg m1 m2 m4 m5 pass0 m6 (args_ok h _) h1 (star_cons (by simpa using s1)) (stars_any s2)
      · rename_i hl
        split
        · rename_i m hm
          exact spec_ok O h hm hg (O.blt x hl)
        · split
          · exact pe_fail
          · rename_i h0
            split
            · rename_i cm hcm
              exact calln_ok O h hg (O.blt x hl) hsp hcm h0
            · exact pe_fail
      · exact pe_fail
    · exact pe_fail
  · rename_i x p nm v kpos
    split
    · rename_i hgl
      obtain ⟨hg, hsp⟩ := gl_ok O hgl
      split
      · rename_i j np dd kn hl
        split
        · exact pe_fail
        · rename_i h0
          split
          · rename_i hk
            cases es with
            | nil => exact absurd rfl h0
            | cons e es => exact kw_ok O h hg hsp hl hk
          · exact pe_fail
      · rename_i hl
        split
        · split
          · rename_i hc
            obtain ⟨rfl, rfl, hp⟩ := hc
            exact sim_maxD O.O O.calm hg (O.blt _ hl) (h _) (h _) hp
          · exact pe_fail
        · exact pe_fail
      · exact pe_fail
    · exact pe_fail
  · rename_i o m apos
    split
    · rename_i hc
      simp only [Bool.and_eq_true, decide_eq_true_eq] at hc
      obtain ⟨⟨hl, hn⟩, hlen⟩ := hc
      split
      · rename_i mm hm
        have key : ∀ {id : String}, Slot "list" m id → typeOf (.builtin id) = pure (.type "method_descriptor") → MtR X id (RMm X.K c.B mm) → SimE X c.B (.Call (.Attribute o m apos) es [] pos) (mthL mm (fe o) (argsM fe es)) := fun slot hty hmt => by
          cases es with
          | nil => exact sim_mthL0 slot hty hmt (h o) (base_ok hn) hl
          | cons e es =>
            cases hs : noStars (e :: es) with
            | false =>
              refine pe_fail' fun env st => ?_
              show ((fe o) env st).bind _ = none
              cases e0 : fe o env st with
              | none => rfl
              | some q =>
                show (match lstFOf q.2 q.1 with | some _ => _ | none => none) = none
                cases lstFOf q.2 q.1 with
                | none => rfl
                | some _ => show (argsM fe (e :: es) env q.2).bind _ = none; rw [args_none hs]; rfl
            | true =>
              obtain ⟨s1, s2⟩ := Bool.and_eq_true_iff.mp (show (!isStarred e && noStars es) = true from hs)
              refine sim_mthL slot hty hmt (h o) (args_ok h _) (base_ok hn) ?_ hl (star_cons (by simpa using s1)) (stars_any s2)
              rw [stars_all hs]
              show (true && true && decide (_ < 30)) = true
              rw [Bool.true_and, Bool.true_and]
              refine decide_eq_true ?_
              have : (e :: es).length < 20 := hlen
              show (e :: es).length + 0 + 0 < 30
              omega
        unfold mthM at hm
        split at hm
        · rename_i em; subst em; cases hm; exact key PySem.F.slot_list_append PySem.F.type_list_append sim_append
        · split at hm
          · rename_i em; subst em; cases hm; exact key PySem.F.slot_list_pop PySem.F.type_list_pop sim_pop
          · cases hm
      · exact pe_fail
    · exact pe_fail
  · exact pe_fail
theorem iter_ok (O : CtxOk X c k) {fe : Expr → EM} (h : ∀ e, SimE X c.B e (fe e)) {tg it : Expr} : SimI X c.B tg it (iterM fe c it) := by
  unfold iterM
  split
  · rename_i x p a pos
    split
    · rename_i hc
      obtain ⟨rfl, hc⟩ := hc
      simp only [Bool.and_eq_true, Bool.not_eq_true'] at hc
      exact sim_rng1I (gl_ok O hc.1.1).1 (isBlt_ok O hc.1.2) (args_ok h _) (star_cons hc.2)
    · split
      · rename_i hc
        obtain ⟨rfl, hc⟩ := hc
        simp only [Bool.and_eq_true] at hc
        split
        · rename_i b hb
          obtain ⟨p1, p2, e, h1, h2, h3⟩ := rg_ok O hb
          rw [e]
          exact sim_revI (gl_ok O hc.1).1 (isBlt_ok O hc.2) h1 h2 (h _) h3
        · exact sim_seqI (h _)
      · exact sim_seqI (h _)
  · rename_i x p a b pos
    split
    · rename_i hc
      obtain ⟨rfl, hc⟩ := hc
      simp only [Bool.and_eq_true, Bool.not_eq_true'] at hc
      exact sim_rng2I (gl_ok O hc.1.1.1).1 (isBlt_ok O hc.1.1.2) (args_ok h _) (by rw [star_cons hc.1.2, star_cons hc.2]; rfl) (star_cons hc.2)
    · exact sim_seqI (h _)
  · exact sim_seqI (h _)
theorem andsE_ok {f : Expr → EM} {B : Tb} {pos : Pos} (h : ∀ e, SimE X B e (f e)) : ∀ es : List Expr, SimE X B (.BoolOp .And es pos) (andsE f es)
  | [] => pe_fail
  | [a] => sim_oneE (h a)
  | a :: b :: r => sim_andE (h a) (andsE_ok h (b :: r))
theorem orsE_ok {f : Expr → EM} {B : Tb} {pos : Pos} (h : ∀ e, SimE X B e (f e)) : ∀ es : List Expr, SimE X B (.BoolOp .Or es pos) (orsE f es)
  | [] => pe_fail
  | [a] => sim_oneE (h a)
  | a :: b :: r => sim_orE (h a) (orsE_ok h (b :: r))
theorem andsT_ok {f : Expr → TM} {B : Tb} {pos : Pos} (h : ∀ e, SimT X B e (f e)) : ∀ es : List Expr, SimW X B (.BoolOp .And es pos) (andsT f es)
  | [] => pw_fail
  | [a] => sim_and1 (h a)
  | a :: b :: r => sim_andT (h a) (andsT_ok h (b :: r))
theorem orsT_ok {f : Expr → TM} {B : Tb} {pos : Pos} (h : ∀ e, SimT X B e (f e)) : ∀ es : List Expr, SimW X B (.BoolOp .Or es pos) (orsT f es)
  | [] => pw_fail
  | [a] => sim_or1 (h a)
  | a :: b :: r => sim_orT (h a) (orsT_ok h (b :: r))
theorem tgs_ok {f : Expr → Option (List Nat × GM)} {B : Tb} (h : ∀ e sl g, f e = some (sl, g) → SimG X B e sl g) : ∀ (es : List Expr) sl gs, tgsM f es = some (sl, gs) → PGs X es (TGsm X.K B sl gs) ∧ noStars es = true
  | [], sl, gs, e => by cases e; exact ⟨sim_nilG, rfl⟩
  | t :: es, sl, gs, e => by
    unfold tgsM at e
    split at e
    · cases e
    · rename_i hs
      obtain ⟨⟨s1, g1⟩, e1, e⟩ := Option.bind_eq_some_iff.mp e
      obtain ⟨⟨s2, g2⟩, e2, e⟩ := Option.map_eq_some_iff.mp e
      cases e
      obtain ⟨a, b⟩ := tgs_ok h es s2 g2 e2
      refine ⟨sim_consG (h t s1 g1 e1) a ?_, Bool.and_eq_true_iff.mpr ⟨by simpa using hs, b⟩⟩
      rw [asg_cons (by simpa using hs)]; rfl
/-- a comprehension's block -/
theorem blk_ok (O : CtxOk X c k) {scope : Scope} (hk : scope.kind = .function) (s : Shared) (H : Hp) (C : Addr) (cl : List (Str × Addr)) (fp : List Addr) : CtxOk (X.blk s H scope (compEnvC scope cl C X.env) fp) (c.blk scope) k := by
  have hsc : (compEnvC scope cl C X.env).scope = relS scope c.sc := by rw [← O.sc]; rfl
  refine ⟨O.calm, PassesOwn.never, O.N, O.nd, hk, hsc, ⟨O.O.b, O.O.u, O.O.con⟩, fun x hx => ?_, O.room, fun z => Bool.noConfusion z, O.blt, O.const, O.fn⟩
  have hx : isOwn (scope.names.lookup x) = true := hx
  have keep : ∀ kd, kd ≠ NameKind.free → scope.names.lookup x = some kd → (compEnvC scope cl C X.env).scope.names.lookup x = some kd := fun kd hne e => by
    rw [hsc]; exact lookup_relS_keep hne e
  cases e : scope.names.lookup x with
  | none => rw [e] at hx; cases hx
  | some kd =>
    rw [e] at hx
    cases kd with
    | «local» => exact ⟨.inl (keep _ (by decide) e), .inr (keep _ (by decide) e)⟩
    | cell => exact ⟨.inr (keep _ (by decide) e), .inl (by show (scope.names.lookup x == some .cell) = true; rw [e]; rfl)⟩
    | _ => cases hx
theorem lc_ok {f : EvF} (S : Sound f) (O : CtxOk X c k) {elt : Expr} {gens : List Comprehension} {scope : Scope} {pos : Pos} : SimE X c.B (.ListComp elt gens scope pos) (lcE f c elt gens scope pos) := by
  unfold lcE
  split
  · rename_i tg it ifs
    split
    · rename_i hb
      obtain ⟨hb, hf⟩ := Bool.and_eq_true_iff.mp hb
      have bok : BlkOk X.N X.env.scope scope (ownOf c scope) := by rw [O.N, O.sc]; exact blkOk_by hb
      split
      · rename_i sl g hg
        split
        · rename_i hsl
          have hsl' : ∀ i ∈ sl, i ∈ (ownOf c scope).map (·.2) := fun i hi => by simpa using List.all_eq_true.mp hsl i hi
          split
          · exact sim_lc _ O.calm (O.N ▸ O.nd) (iter_ok O (S.e X c k O)) bok hsl' (fun s H C cl fp => S.g _ _ k (blk_ok O bok.kind s H C cl fp) _ _ _ hg) (fun _ _ _ _ _ => sim_tests0) (fun s H C cl fp => S.e _ _ k (blk_ok O bok.kind s H C cl fp) _) (fold_ok hf)
          · exact sim_lc _ O.calm (O.N ▸ O.nd) (iter_ok O (S.e X c k O)) bok hsl' (fun s H C cl fp => S.g _ _ k (blk_ok O bok.kind s H C cl fp) _ _ _ hg) (fun s H C cl fp => sim_tests1 (S.t _ _ k (blk_ok O bok.kind s H C cl fp) _)) (fun s H C cl fp => S.e _ _ k (blk_ok O bok.kind s H C cl fp) _) (fold_ok hf)
          · exact pe_fail
        · exact pe_fail
      · exact pe_fail
    · exact pe_fail
  · exact pe_fail
theorem plainIx_ok {i : Expr} (h : ∀ lo hi p, i ≠ .Slice lo hi none p) : PlainIx i := by
  intro o v
  cases i <;> first | rfl | skip
  rename_i lo hi stp p
  cases stp with
  | none => exact absurd rfl (h lo hi p)
  | some s => rfl
theorem keys_ok {f : Expr → EM} {B : Tb} {pos : Pos} (h : ∀ e, SimE X B e (f e)) : ∀ (ks : List (Option Expr)) (vs : List Expr), ks.all (·.isSome) = true → ks.length = vs.length → SimK X B pos ks vs (keysM f ks vs)
  | [], [], _, _ => sim_nilK
  | [], v :: vs, _, hl => by cases hl
  | k :: ks, [], _, hl => by cases hl
  | none :: ks, v :: vs, ha, _ => by cases ha
  | some k :: ks, v :: vs, ha, hl => sim_consK (h k) (h v) (keys_ok h ks vs ha (by simpa using hl))
theorem sim_itemE {B : Tb} {a b : Expr} {ma mb : EM} {pos : Pos} (O : OCx X B) (ha : SimE X B a ma) (hb : SimE X B b mb) (hs : PlainIx b) : SimE X B (.Subscript a b pos) (binM (itemO B) ma mb) :=
  PE.imp (pe_ix (sim_item O) ha hb hs) fun σ H Q h => by
    obtain ⟨ρ, env, st, d, st', r, re, e, q⟩ := h
    obtain ⟨⟨x, st1⟩, e1, e⟩ := Option.bind_eq_some_iff.mp e
    obtain ⟨⟨y, st2⟩, e2, e⟩ := Option.bind_eq_some_iff.mp e
    refine ⟨ρ, env, st, x, st1, r, re, e1, fun ρ1 H1 vx x1 r1 hx => ?_⟩
    refine ⟨ρ1, env, st1, y, st2, r1, re.mono x1, e2, fun ρ2 H2 vy x2 r2 hy => ?_⟩
    exact ⟨ρ2, st2, x, y, d, st', r2, hx.mono x2, hy, e, q.trans (x1.trans x2)⟩
theorem stepE_ok {f : EvF} (S : Sound f) (O : CtxOk X c k) (e : Expr) : SimE X c.B e (stepE f c e) := by
  have hE := S.e X c k O
  have hT := S.t X c k O
  unfold stepE
  split
  · exact name_ok O
  · exact const_ok O
  · split
    · rename_i o ho
      exact sim_bin (op_ok O ho) (hE _) (hE _)
    · exact pe_fail
  · split
    · exact sim_neg (hE _)
    · exact sim_notE (hE _)
    · exact pe_fail
  · split
    · exact andsE_ok hE _
    · exact orsE_ok hE _
  · split
    · split
      · rename_i hb
        exact sim_cmpE (cmp_ok O _) (hE _) (hE _) (behind_ok hb)
      · exact pe_fail
    · exact pe_fail
  · exact sim_ifE (hT _) (hE _) (hE _)
  · exact sim_tup (args_ok hE _)
  · exact sim_lst _ (args_ok hE _)
  · split
    · split
      · rename_i lo hi _ _
        refine sim_slc _ (hE _) (fun e he => ?_) (fun he => ?_) (fun e he => ?_) (fun he => ?_)
        · subst he; exact ⟨_, rfl, hE _⟩
        · subst he; rfl
        · subst he; exact ⟨_, rfl, hE _⟩
        · subst he; rfl
      · exact pe_fail
    · rename_i hi
      exact sim_itemE O.O (hE _) (hE _) (plainIx_ok fun lo h p e => hi lo h none p e)
  · exact call_ok O hE
  · exact lc_ok S O
  · split
    · rename_i hc
      simp only [Bool.and_eq_true, decide_eq_true_eq, Bool.not_eq_true', List.isEmpty_eq_false_iff] at hc
      exact sim_dct O.O _ (keys_ok hE _ _ hc.1.1.1 hc.1.1.2) hc.1.1.1 hc.1.1.2 hc.1.2 hc.2
    · exact pe_fail
  · exact pe_fail
theorem stepT_ok {f : EvF} (S : Sound f) (O : CtxOk X c k) (e : Expr) : SimT X c.B e (stepT f c e) := by
  have hE := S.e X c k O
  have hT := S.t X c k O
  unfold stepT
  split
  · split
    · exact PW.pt (andsT_ok hT _)
    · exact PW.pt (orsT_ok hT _)
  · split
    · exact sim_notT (hT _)
    · exact pt_fail
  · split
    · split
      · rename_i hb
        exact sim_cmpT (cmp_ok O _) (hE _) (hE _) (behind_ok hb)
      · exact pt_fail
    · exact pt_fail
  · exact pt_fail
  · rename_i n1 n2 n3 n4
    refine sim_tru (stepE_ok S O e) fun whole => ?_
    cases e with
    | BoolOp a b c => exact absurd rfl (n1 a b c)
    | UnaryOp a b c => exact absurd rfl (n2 a b c)
    | Compare a b c d => exact absurd rfl (n3 a b c d)
    | IfExp a b c d => exact absurd rfl (n4 a b c d)
    | _ => rfl
theorem stepG_ok {f : EvF} (S : Sound f) (O : CtxOk X c k) (e : Expr) (sl : List Nat) (g : GM) (h : stepG f c e = some (sl, g)) : SimG X c.B e sl g := by
  have hE := S.e X c k O
  unfold stepG at h
  split at h
  · split at h
    · rename_i ho
      obtain ⟨i, hi, h⟩ := Option.map_eq_some_iff.mp h
      cases h
      obtain ⟨a, b⟩ := O.own _ ho
      exact sim_nameG (O.N ▸ O.nd) (slot_ok O hi) a b
    · cases h
  · obtain ⟨⟨s, gs⟩, h1, h⟩ := Option.map_eq_some_iff.mp h
    cases h
    obtain ⟨a, b⟩ := tgs_ok (S.g X c k O) _ _ _ h1
    obtain ⟨h3, h4⟩ := asg_no (env := X.env) b
    exact sim_tupG O.calm a h3 h4
  · split at h
    · cases h
    · rename_i hi
      cases h
      refine sim_subG O.O (hE _) (hE _) fun v => ?_
      rename_i i _ _
      cases i <;> first | rfl | skip
      rename_i lo h2 stp p
      exact absurd rfl (hi lo h2 stp p)
  · cases h
end
theorem ev_ok : ∀ n : Nat, Sound (ev n)
  | 0 => ⟨fun _ _ _ _ _ => pe_fail, fun _ _ _ _ _ => pt_fail, fun _ _ _ _ _ _ _ h => by cases h⟩
  | n + 1 => ⟨fun X c k O e => stepE_ok (ev_ok n) O e, fun X c k O e => stepT_ok (ev_ok n) O e, fun X c k O e sl g h => stepG_ok (ev_ok n) O e sl g h⟩
end Mn
set_option Elab.async false
set_option linter.all false
set_option maxRecDepth 100000
set_option maxHeartbeats 4000000
set_option autoImplicit false
/-! Mn, part M: what a statement of the text means, and that it does so. -/
namespace Mn
open PySem PySem.Spec PyProof.Rows L2
def notComp : Expr → Bool
  | .ListComp .. => false
  | .SetComp .. => false
  | .DictComp .. => false
  | _ => true
def isTup : Expr → Bool
  | .Tuple .. => true
  | .List .. => true
  | _ => false
def isLoc (c : Ctx) (x : Str) : Bool := decide (c.sc.names.lookup x = some .local)
/-- target = value, nothing stored from the right -/
def asgP (f : EvF) (c : Ctx) (tg e : Expr) : SM := match (f c).2.2 tg with
  | some (_, g) => asgS ((f c).1 e) g
  | none => failS
def asgE (f : EvF) (c : Ctx) (tg e : Expr) : SM :=
  if isStarred tg then failS else
  match e with
  | .ListComp elt gens scope pos => (match tg with
    | .Name y _ => if isLoc c y then (match slotOf c y with | some i => asgS (lcE f c elt gens scope pos) (nameG i) | none => failS) else failS
    | _ => failS)
  | .Tuple vs k2 p2 => (match tg with
    | .Tuple [.Name x px, .Name y py] kt pt => (match vs with
      | [a, b] => if foldedForSure 8 a && foldedForSure 8 b then asgP f c tg e
        else if isLoc c x && isLoc c y && decide (x ≠ y) && py.line == px.line && !(constantsAlone 8 a && constantsAlone 8 b) && !isStarred a && !isStarred b then
          (match slotOf c x, slotOf c y with | some i, some j => parS [i, j] (argsM (f c).1 [a, b]) | _, _ => failS) else failS
      | _ => failS)
    | .Tuple [.Name x px, .Name y py, .Name z pz] kt pt => (match vs with
      | [a, b, d] => if foldedForSure 8 a && foldedForSure 8 b && foldedForSure 8 d then asgP f c tg e
        else if isLoc c x && isLoc c y && isLoc c z && decide (x ≠ y) && decide (x ≠ z) && decide (y ≠ z) && py.line == px.line && pz.line == px.line && !(constantsAlone 8 a && constantsAlone 8 b && constantsAlone 8 d) && !isStarred a && !isStarred b && !isStarred d then
          (match slotOf c x, slotOf c y, slotOf c z with | some i, some j, some l => parS [i, j, l] (argsM (f c).1 [a, b, d]) | _, _, _ => failS) else failS
      | _ => failS)
    | .Tuple ts _ _ => if !(ts.length == 2 || ts.length == 3) || vs.length != ts.length then asgP f c tg e else failS
    | tg => if isTup tg then failS else asgP f c tg e)
  | e => if notComp e then asgP f c tg e else failS
def blkS (g : Stmt → SM) : List Stmt → SM
  | [] => nextS
  | s :: ss => seqS (g s) (blkS g ss)
abbrev StF := Ctx → Stmt → SM
def stepS (f : EvF) (g : StF) (c : Ctx) (s : Stmt) : SM := match s with
  | .Assign [tg] e _ => asgE f c tg e
  | .AugAssign (.Name x _) op e _ => if c.own x then (match slotOf c x, iopM op with | some i, some o => augS i o ((f c).1 e) | _, _ => failS) else failS
  | .Expr e _ => if notComp e then exprS ((f c).1 e) else failS
  | .Return (some e) _ => retS ((f c).1 e)
  | .Return none _ => retN
  | .If t a b _ => ifS ((f c).2.1 t) (blkS (g c) a) (blkS (g c) b)
  | .For tg it body [] _ => if notFoldSet it then (match (f c).2.2 tg with | some (_, gm) => forS (iterM (f c).1 c it) gm (blkS (g c) body) | none => failS) else failS
  | .While t body [] _ => whileS ((f c).2.1 t) (blkS (g c) body) c.wf
  | .Break _ => brkS
  | .Continue _ => cntS
  | .Pass _ => nextS
  | _ => failS
def evS (n : Nat) : Nat → StF
  | 0 => fun _ _ => failS
  | m + 1 => stepS (ev n) (evS n m)
section
variable {X : Cx} {c : Ctx} {k : Nat}
theorem swaps_no {tg e : Expr} {l : Nat} {env : PySem.Env} (h : notComp e = true) : swapsWithSole [tg] e l env = pure false := by
  cases e <;> first | rfl | cases h
theorem swaps_no0 {e : Expr} {l : Nat} {env : PySem.Env} (h : notComp e = true) : swapsWith e none l env = pure false := by
  cases e <;> first | rfl | cases h
theorem swapped_nt {tg e : Expr} {env : PySem.Env} (h : isTup tg = false) : swappedStores [tg] e env = pure none := by
  cases tg <;> first | rfl | cases h
theorem swapped_nv {tg e : Expr} {env : PySem.Env} (h : ∀ vs k p, e ≠ .Tuple vs k p) : swappedStores [tg] e env = pure none := by
  cases e <;> first | (cases tg <;> rfl) | exact absurd rfl (h _ _ _)
theorem swapped_len {ts vs : List Expr} {kt k2 : Nat} {pt p2 : Pos} {env : PySem.Env} (h : (!(ts.length == 2 || ts.length == 3) || vs.length != ts.length) = true) : swappedStores [.Tuple ts kt pt] (.Tuple vs k2 p2) env = pure none := by
  unfold swappedStores
  show (if _ then _ else _) = _
  rw [if_pos (by rw [h]; rfl)]
theorem stars2 {a b : Expr} {f : Expr → Bool} (hf : ∀ e, isStarred e = false → f e = false) (sa : isStarred a = false) (sb : isStarred b = false) : ¬ ([a, b].any f = true) := by
  rw [List.any_cons, List.any_cons, List.any_nil, hf a sa, hf b sb]; exact Bool.false_ne_true
theorem stars3 {a b d : Expr} {f : Expr → Bool} (hf : ∀ e, isStarred e = false → f e = false) (sa : isStarred a = false) (sb : isStarred b = false) (sd : isStarred d = false) : ¬ ([a, b, d].any f = true) := by
  rw [List.any_cons, List.any_cons, List.any_cons, List.any_nil, hf a sa, hf b sb, hf d sd]; exact Bool.false_ne_true
theorem ite_both {α : Type} {c : Prop} [Decidable c] {a b r : α} (h1 : a = r) (h2 : b = r) : (if c then a else b) = r := by
  split
  · exact h1
  · exact h2
theorem swapped_fold {ts vs : List Expr} {kt k2 : Nat} {pt p2 : Pos} {env : PySem.Env} (h : vs.all (foldedForSure 8) = true) : swappedStores [.Tuple ts kt pt] (.Tuple vs k2 p2) env = pure none := by
  unfold swappedStores
  refine ite_both rfl ?_
  refine ite_both rfl ?_
  refine ite_both rfl ?_
  exact if_pos h
theorem own1 {o : Expr} {tg : Expr} {env : PySem.Env} (h : isStarred tg = false) : (assignEach [tg] env).map (·.2) = [assign tg env] := by
  rw [asg_cons h]; rfl
theorem asgP_ok (O : CtxOk X c k) {f : EvF} (S : Sound f) {tg e : Expr} {pos : Pos} (h0 : isStarred tg = false) (h1 : notComp e = true) (h2 : swappedStores [tg] e X.env = pure none) : SimS X c.B (.Assign [tg] e pos) (asgP f c tg e) := by
  unfold asgP
  split
  · rename_i sl g hg
    exact sim_asg (S.e X c k O e) (S.g X c k O tg sl g hg) (swaps_no h1) h2 (own1 (o := e) h0)
  · exact ps_fail
theorem kind_ok (O : CtxOk X c k) : X.env.blockKind = .function := by
  unfold Env.blockKind
  rw [O.kind]; rfl
theorem loc_ok (O : CtxOk X c k) {x : Str} (h : isLoc c x = true) : X.env.scope.names.lookup x = some .local := by
  rw [O.sc]; exact of_decide_eq_true h
theorem swapped2 (O : CtxOk X c k) {x y : Str} {px py pt p2 : Pos} {kt k2 : Nat} {a b : Expr} (hx : isLoc c x = true) (hy : isLoc c y = true) (hxy : x ≠ y) (hl : (py.line == px.line) = true) (hf : (foldedForSure 8 a && foldedForSure 8 b) = false) (hc : (constantsAlone 8 a && constantsAlone 8 b) = false) (sa : isStarred a = false) (sb : isStarred b = false) :
    swappedStores [.Tuple [.Name x px, .Name y py] kt pt] (.Tuple [a, b] k2 p2) X.env = pure (some [x, y]) := by
  have e1 : X.env.kindOf x = some .local := loc_ok O hx
  have e2 : X.env.kindOf y = some .local := loc_ok O hy
  unfold swappedStores
  have hk := kind_ok O
  have hne' : (y == x) = false := by simpa using Ne.symm hxy
  have hne : (x == y) = false := by simpa using hxy
  show (if _ then _ else _) = _
  rw [if_neg (by rw [hk]; exact Bool.false_ne_true)]
  show (if _ then _ else _) = _
  rw [if_neg (stars2 (fun e h => by cases e <;> first | rfl | cases h) sa sb)]
  simp only [List.filterMap_cons, List.filterMap_nil, e1, e2, hl, beq_self_eq_true, Bool.and_self, if_true, Bool.true_and, List.head?_cons, Option.map_some, Option.getD_some, Expr.pos]
  rw [if_neg (by simp [List.eraseDups_cons, hne, hne'])]
  rw [if_neg (by rw [List.all_cons, List.all_cons, List.all_nil, Bool.and_true, hf]; exact Bool.false_ne_true)]
  rw [if_neg (by rw [List.all_cons, List.all_cons, List.all_nil, Bool.and_true, hc]; exact Bool.false_ne_true)]
theorem swapped3 (O : CtxOk X c k) {x y z : Str} {px py pz pt p2 : Pos} {kt k2 : Nat} {a b d : Expr} (hx : isLoc c x = true) (hy : isLoc c y = true) (hz : isLoc c z = true) (hxy : x ≠ y) (hxz : x ≠ z) (hyz : y ≠ z) (hl : (py.line == px.line) = true) (hl2 : (pz.line == px.line) = true)
    (hf : (foldedForSure 8 a && foldedForSure 8 b && foldedForSure 8 d) = false) (hc : (constantsAlone 8 a && constantsAlone 8 b && constantsAlone 8 d) = false) (sa : isStarred a = false) (sb : isStarred b = false) (sd : isStarred d = false) :
    swappedStores [.Tuple [.Name x px, .Name y py, .Name z pz] kt pt] (.Tuple [a, b, d] k2 p2) X.env = pure (some [x, y, z]) := by
  have e1 : X.env.kindOf x = some .local := loc_ok O hx
  have e2 : X.env.kindOf y = some .local := loc_ok O hy
  have e3 : X.env.kindOf z = some .local := loc_ok O hz
  unfold swappedStores
  have hk := kind_ok O
  show (if _ then _ else _) = _
  rw [if_neg (by rw [hk]; exact Bool.false_ne_true)]
  show (if _ then _ else _) = _
  rw [if_neg (stars3 (fun e h => by cases e <;> first | rfl | cases h) sa sb sd)]
  simp only [List.filterMap_cons, List.filterMap_nil, e1, e2, e3, hl, hl2, beq_self_eq_true, Bool.and_self, if_true, Bool.true_and, List.head?_cons, Option.map_some, Option.getD_some, Expr.pos]
  rw [if_neg (by simp [List.eraseDups_cons, Ne.symm hxy, Ne.symm hxz, Ne.symm hyz])]
  rw [if_neg (by rw [List.all_cons, List.all_cons, List.all_cons, List.all_nil, Bool.and_true, ← Bool.and_assoc, hf]; exact Bool.false_ne_true)]
  rw [if_neg (by rw [List.all_cons, List.all_cons, List.all_cons, List.all_nil, Bool.and_true, ← Bool.and_assoc, hc]; exact Bool.false_ne_true)]
/-- name = [.. for ..] -/
theorem asgLc_ok {f : EvF} (S : Sound f) (O : CtxOk X c k) {y : Str} {py pos spos : Pos} {elt : Expr} {gens : List Comprehension} {scope : Scope} {i : Nat} (hy : isLoc c y = true) (hi : slotOf c y = some i) :
    SimS X c.B (.Assign [.Name y py] (.ListComp elt gens scope pos) spos) (asgS (lcE f c elt gens scope pos) (nameG i)) := by
  have hl := loc_ok O hy
  have hs := slot_ok O hi
  cases hsw : (X.env.blockKind == .function && X.env.kindOf y == some .local && py.line == pos.line && !(scope.names.any fun (n, k) => n == y && (k == .local || k == .cell))) with
  | false =>
    have h1 : swapsWithSole [.Name y py] (.ListComp elt gens scope pos) spos.line X.env = pure false := congrArg pure hsw
    exact sim_asg (lc_ok S O) (sim_nameG (O.N ▸ O.nd) hs (.inl hl) (.inr hl)) h1 rfl rfl
  | true =>
    have h1 : swapsWith (.ListComp elt gens scope pos) (some (.Name y py)) spos.line X.env = pure true := congrArg pure hsw
    unfold lcE
    split
    · rename_i tg it ifs
      split
      · rename_i hb
        obtain ⟨hb, hf⟩ := Bool.and_eq_true_iff.mp hb
        have bok : BlkOk X.N X.env.scope scope (ownOf c scope) := by rw [O.N, O.sc]; exact blkOk_by hb
        split
        · rename_i sl g hg
          split
          · rename_i hsl
            have hsl' : ∀ i ∈ sl, i ∈ (ownOf c scope).map (·.2) := fun i hi => by simpa using List.all_eq_true.mp hsl i hi
            split
            · exact sim_setLc _ O.calm (O.N ▸ O.nd) hs hl h1 (iter_ok O (S.e X c k O)) bok hsl' (fun s H C cl fp => S.g _ _ k (blk_ok O bok.kind s H C cl fp) _ _ _ hg) (fun _ _ _ _ _ => sim_tests0) (fun s H C cl fp => S.e _ _ k (blk_ok O bok.kind s H C cl fp) _) (fold_ok hf)
            · exact sim_setLc _ O.calm (O.N ▸ O.nd) hs hl h1 (iter_ok O (S.e X c k O)) bok hsl' (fun s H C cl fp => S.g _ _ k (blk_ok O bok.kind s H C cl fp) _ _ _ hg) (fun s H C cl fp => sim_tests1 (S.t _ _ k (blk_ok O bok.kind s H C cl fp) _)) (fun s H C cl fp => S.e _ _ k (blk_ok O bok.kind s H C cl fp) _) (fold_ok hf)
            · exact ps_fail
          · exact ps_fail
        · exact ps_fail
      · exact ps_fail
    · exact ps_fail
theorem idx_ne {i j : Nat} {x y : Str} (hi : X.N[i]? = some x) (hj : X.N[j]? = some y) (h : x ≠ y) : i ≠ j := fun z => by
  subst z
  exact h (Option.some.inj (hi.symm.trans hj))
theorem asgE_ok {f : EvF} (S : Sound f) (O : CtxOk X c k) {tg e : Expr} {pos : Pos} : SimS X c.B (.Assign [tg] e pos) (asgE f c tg e) := by
  unfold asgE
  split
  · exact ps_fail
  · rename_i h0
    have h0 : isStarred tg = false := by simpa using h0
    split
    · split
      · split
        · rename_i hy
          split
          · rename_i i hi
            exact asgLc_ok S O hy hi
          · exact ps_fail
        · exact ps_fail
      · exact ps_fail
    · split
      · split
        · split
          · rename_i hf
            exact asgP_ok O S h0 rfl (swapped_fold (by rw [List.all_cons, List.all_cons, List.all_nil, Bool.and_true]; exact hf))
          · rename_i hf
            split
            · rename_i hc
              simp only [Bool.and_eq_true, decide_eq_true_eq, Bool.not_eq_true'] at hc
              split
              · rename_i i j hi hj
                obtain ⟨⟨⟨⟨⟨⟨c1, c2⟩, c3⟩, c4⟩, c5⟩, c6⟩, c7⟩ := hc
                exact sim_par2 O.calm (O.N ▸ O.nd) (slot_ok O hi) (slot_ok O hj) (idx_ne (slot_ok O hi) (slot_ok O hj) c3) (loc_ok O c1) (loc_ok O c2) (args_ok (S.e X c k O) _) (swapped2 O c1 c2 c3 c4 (by simpa using hf) c5 c6 c7)
              · exact ps_fail
            · exact ps_fail
        · exact ps_fail
      · split
        · split
          · rename_i hf
            exact asgP_ok O S h0 rfl (swapped_fold (by rw [List.all_cons, List.all_cons, List.all_cons, List.all_nil, Bool.and_true, ← Bool.and_assoc]; exact hf))
          · rename_i hf
            split
            · rename_i hc
              simp only [Bool.and_eq_true, decide_eq_true_eq, Bool.not_eq_true'] at hc
              split
              · rename_i i j l hi hj hl
                obtain ⟨⟨⟨⟨⟨⟨⟨⟨⟨⟨⟨c1, c2⟩, c3⟩, c4⟩, c5⟩, c6⟩, c7⟩, c8⟩, c9⟩, d1⟩, d2⟩, d3⟩ := hc
                exact sim_par3 O.calm (O.N ▸ O.nd) (slot_ok O hi) (slot_ok O hj) (slot_ok O hl) (idx_ne (slot_ok O hi) (slot_ok O hj) c4) (idx_ne (slot_ok O hi) (slot_ok O hl) c5) (idx_ne (slot_ok O hj) (slot_ok O hl) c6) (loc_ok O c1) (loc_ok O c2) (loc_ok O c3) (args_ok (S.e X c k O) _) (swapped3 O c1 c2 c3 c4 c5 c6 c7 c8 (by simpa using hf) c9 d1 d2 d3)
              · exact ps_fail
            · exact ps_fail
        · exact ps_fail
      · split
        · rename_i hl
          exact asgP_ok O S h0 rfl (swapped_len hl)
        · exact ps_fail
      · split
        · exact ps_fail
        · rename_i ht
          exact asgP_ok O S h0 rfl (swapped_nt (by simpa using ht))
    · split
      · rename_i hn1 hn2 hc
        exact asgP_ok O S h0 hc (swapped_nv fun vs k p e => by subst e; exact hn2 _ _ _ rfl)
      · exact ps_fail
theorem blkS_ok {g : Stmt → SM} {B : Tb} (h : ∀ s, SimS X B s (g s)) : ∀ ss : List Stmt, SimB X B ss (blkS g ss)
  | [] => sim_nil
  | s :: ss => sim_cons (h s) (blkS_ok h ss)
theorem iop_ok {op : Operator} {o : Op2} {B : Tb} (h : iopM op = some o) : SimO X B (inplaceOp op) o := by
  have key : ∀ {f : Int → Int → Int}, OpR X (inplaceOp op) (rI0 fun i j => .int (f i j)) → SimO X B (inplaceOp op) (cmpA f) := by
    rintro f hf pins s σ H vx vy v u Q I rx ry ⟨ρ, st, x, y, d, st', r, h1, h2, e, q⟩
    unfold cmpA at e
    split at e
    · cases e
      cases h1
      cases h2
      exact hf pins s σ H _ _ v u Q I rx ry ⟨_, _, rfl, rfl, q ρ H _ Ext.refl r rfl⟩
    · cases e
  unfold iopM at h
  split at h <;> cases h
  · exact key iop_add
  · exact key iop_sub
theorem stepS_ok {f : EvF} (S : Sound f) {g : StF} (O : CtxOk X c k) (h : ∀ s, SimS X c.B s (g c s)) (s : Stmt) : SimS X c.B s (stepS f g c s) := by
  have hE := S.e X c k O
  have hT := S.t X c k O
  unfold stepS
  split
  · exact asgE_ok S O
  · split
    · rename_i ho
      split
      · rename_i i o hi hop
        obtain ⟨a, b⟩ := O.own _ ho
        exact sim_aug (O.N ▸ O.nd) (slot_ok O hi) a (hE _) (iop_ok hop) b
      · exact ps_fail
    · exact ps_fail
  · split
    · rename_i hc
      exact sim_expr (hE _) (swaps_no0 hc)
    · exact ps_fail
  · exact sim_ret (hE _)
  · exact sim_retN
  · exact sim_if (hT _) (blkS_ok h _) (blkS_ok h _)
  · split
    · rename_i hf
      split
      · rename_i sl gm hg
        exact sim_for O.hp O.calm (iter_ok O hE) (S.g X c k O _ _ _ hg) (blkS_ok h _) (fold_ok hf)
      · exact ps_fail
    · exact ps_fail
  · exact sim_while O.hp (hT _) (blkS_ok h _)
  · exact sim_break
  · exact sim_continue
  · exact sim_pass
  · exact ps_fail
theorem evS_ok (n : Nat) (O : CtxOk X c k) : ∀ (m : Nat) (s : Stmt), SimS X c.B s (evS n m c s)
  | 0, s => ps_fail
  | m + 1, s => stepS_ok (ev_ok n) O (evS_ok n O m) s
end
end Mn
set_option Elab.async false
set_option linter.all false
set_option maxRecDepth 100000
set_option maxHeartbeats 4000000
set_option autoImplicit false
/-! Mn, part N: defs. -/
namespace Mn
open PySem PySem.Spec PyProof.Rows L2
/-! ### the end of a def: what it made and gives back stands by itself from then on -/
mutual
/-- no object of the store from n on -/
def clo (n : Nat) : D → Bool
  | .tup xs => clos n xs
  | .lst xs => clos n xs
  | .fro xs => clos n xs
  | .dct _ xs => clos n xs
  | .ref m => decide (m < n)
  | _ => true
def clos (n : Nat) : List D → Bool
  | [] => true
  | x :: xs => clo n x && clos n xs
end
def cloO (n : Nat) : MObj → Bool
  | .lst xs => clos n xs
  | .dct _ xs => clos n xs
def exitR (keep : Bool) (n : Nat) (d : D) (st : Store) : Option (D × Store) :=
  if keep then some (d, st) else if (st.take n).all (cloO n) then (match d with
    | .ref m => if m < n then some (.ref m, st.take n) else (match st[m]? with
      | some (.lst xs) => if clos n xs then some (.lst xs, st.take n) else none
      | some (.dct ks xs) => if clos n xs then some (.dct ks xs, st.take n) else none
      | none => none)
    | d => if clo n d then some (d, st.take n) else none) else none
section
variable {K : PySem.W.Frag} {B : Tb} {ρ ρ1 : Rho} {H : Hp}
theorem has_le (e : ρ.ix <+: ρ1.ix) (z : ρ1.Z = ρ.Z) {a : Addr} (h : ρ.has a) : ρ1.has a := by
  rcases h with h | h
  · exact .inl (e.subset h)
  · exact .inr (by rw [z]; exact h)
mutual
theorem RV.drop {n : Nat} (e : ρ.ix <+: ρ1.ix) (z : ρ1.Z = ρ.Z) (hn : ρ.ix.length = n) : ∀ (d : D) (v : V), clo n d = true → RV K B ρ1 H d v → RV K B ρ H d v
  | .non, _, _, h => h
  | .bl _, _, _, h => h
  | .int _, _, _, h => h
  | .sym _, _, _, h => h
  | .tup xs, v, c, h => by
    obtain ⟨a, vs, e1, e2, e3⟩ := h
    exact ⟨a, vs, e1, e2, RVs.dropR e z hn xs vs c e3⟩
  | .lst xs, v, c, h => by
    obtain ⟨a, vs, e1, e2, e3, e4⟩ := h
    exact ⟨a, vs, e1, e2, fun q => e3 (has_le e z q), RVs.dropR e z hn xs vs c e4⟩
  | .fro xs, v, c, h => by
    obtain ⟨a, vs, e1, e2, e3⟩ := h
    exact ⟨a, vs, e1, e2, RVs.dropR e z hn xs vs c e3⟩
  | .dct ks xs, v, c, h => by
    obtain ⟨a, kvs, e1, e2, e3, e4, e5⟩ := h
    exact ⟨a, kvs, e1, e2, fun q => e3 (has_le e z q), e4, RVs.dropR e z hn xs _ c e5⟩
  | .ref m, v, c, h => by
    obtain ⟨a, e1, e2⟩ := h
    refine ⟨a, e1, ?_⟩
    obtain ⟨t, ht⟩ := e
    rw [← ht, List.getElem?_append_left (by rw [hn]; exact of_decide_eq_true c)] at e2
    exact e2
  | .con _, _, _, h => h
  | .ty _, _, _, h => h
theorem RVs.dropR {n : Nat} (e : ρ.ix <+: ρ1.ix) (z : ρ1.Z = ρ.Z) (hn : ρ.ix.length = n) : ∀ (ds : List D) (vs : List V), clos n ds = true → RVs K B ρ1 H ds vs → RVs K B ρ H ds vs
  | [], _, _, h => h
  | d :: ds, vs, c, h => by
    obtain ⟨v, vr, e1, e2, e3⟩ := h
    obtain ⟨c1, c2⟩ := Bool.and_eq_true_iff.mp (show (clo n d && clos n ds) = true from c)
    exact ⟨v, vr, e1, RV.drop e z hn d v c1 e2, RVs.dropR e z hn ds vr c2 e3⟩
end
theorem Ext.dropR {H' : Hp} (x : Ext K ρ H ρ1 H') : Ext K ρ H ρ H' :=
  ⟨List.prefix_refl _, rfl, fun a o e n => ⟨(x.frame a o e n).1, n⟩, x.tups, x.frzs⟩
theorem Rep.dropR {st1 : Store} {n : Nat} (e : ρ.ix <+: ρ1.ix) (z : ρ1.Z = ρ.Z) (hn : ρ.ix.length = n) (r : Rep K B ρ1 H st1) (c : (st1.take n).all (cloO n) = true) : Rep K B ρ H (st1.take n) := by
  have hl : n ≤ st1.length := by
    rw [← r.len, ← hn]
    exact e.length_le
  refine ⟨by rw [List.length_take, hn]; omega, e.sublist.nodup r.nd, fun i o h => ?_, fun a ha => ?_⟩
  · have hi : i < n := by
      have := (List.getElem?_eq_some_iff.mp h).1
      rw [List.length_take] at this
      omega
    have h1 : st1[i]? = some o := by rw [List.getElem?_take_of_lt hi] at h; exact h
    obtain ⟨a, e1, e2⟩ := r.obj i o h1
    have co : cloO n o = true := List.all_eq_true.mp c o (List.mem_of_getElem? h)
    refine ⟨a, ?_, ?_⟩
    · obtain ⟨t, ht⟩ := e
      rw [← ht, List.getElem?_append_left (by rw [hn]; exact hi)] at e1
      exact e1
    · cases o with
      | lst xs =>
        obtain ⟨vs, e3, e4⟩ := e2
        exact ⟨vs, e3, RVs.dropR e z hn xs vs co e4⟩
      | dct ks xs =>
        obtain ⟨kvs, e3, e4, e5⟩ := e2
        exact ⟨kvs, e3, e4, RVs.dropR e z hn xs _ co e5⟩
  · obtain ⟨h1, h2⟩ := r.zs a (by rw [z]; exact ha)
    exact ⟨h1, fun q => h2 (e.subset q)⟩
theorem exit_ok {st st1 st2 : Store} {keep : Bool} {d d2 : D} {v : V} {H' : Hp} {Q : VK} (r0 : Rep K B ρ H st) (x : Ext K ρ H ρ1 H') (r : Rep K B ρ1 H' st1) (h : RV K B ρ1 H' d v) (e : exitR keep st.length d st1 = some (d2, st2)) (q : After K B (RV K B) ρ H d2 st2 Q) : Q v H' := by
  unfold exitR at e
  split at e
  · cases e
    exact q ρ1 H' v x r h
  · split at e
    · rename_i hc
      have r2 : Rep K B ρ H' (st1.take st.length) := r.dropR x.pre x.z r0.len hc
      split at e
      · rename_i m
        split at e
        · rename_i hm
          cases e
          exact q ρ H' v x.dropR r2 (RV.drop x.pre x.z r0.len _ v (decide_eq_true hm) h)
        · rename_i hm
          obtain ⟨a, rfl, ha⟩ := h
          have no : ¬ ρ.has a := fun z => by
            rcases z with z | z
            · obtain ⟨i, hi, e3⟩ := List.mem_iff_getElem.mp z
              have e4 : ρ1.ix[i]? = some a := by
                obtain ⟨t, ht⟩ := x.pre
                rw [← ht, List.getElem?_append_left hi, List.getElem?_eq_getElem hi, e3]
              have h1 := List.getElem?_eq_some_iff.mp e4
              have h2 := List.getElem?_eq_some_iff.mp ha
              obtain ⟨l1, g1⟩ := h1
              obtain ⟨l2, g2⟩ := h2
              have := (List.getElem_inj r.nd).mp (g1.trans g2.symm)
              rw [r0.len] at hi
              omega
            · exact (r.zs a (by rw [x.z]; exact z)).2 (List.mem_of_getElem? ha)
          split at e
          · rename_i xs hx
            split at e
            · rename_i hcl
              cases e
              obtain ⟨a', e1, vs, e2, e3⟩ := r.obj m _ hx
              rw [ha] at e1
              cases e1
              exact q ρ H' _ x.dropR r2 ⟨a, vs, rfl, e2, no, RVs.dropR x.pre x.z r0.len xs vs hcl e3⟩
            · cases e
          · rename_i ks xs hx
            split at e
            · rename_i hcl
              cases e
              obtain ⟨a', e1, kvs, e2, e3, e4⟩ := r.obj m _ hx
              rw [ha] at e1
              cases e1
              exact q ρ H' _ x.dropR r2 ⟨a, kvs, rfl, e2, no, e3, RVs.dropR x.pre x.z r0.len xs _ hcl e4⟩
            · cases e
          · cases e
      · split at e
        · rename_i hcl
          cases e
          exact q ρ H' v x.dropR r2 (RV.drop x.pre x.z r0.len _ v hcl h)
        · cases e
    · cases e
end
/-! ### the text's defs -/
structure FnT where
  np : Nat
  N : List Str
  body : List Stmt
  sc : Scope
  bx : List Pos
  keep : Bool
structure Pg where
  B : Tb
  fns : List FnT
  gl : List (Str × GV)
  wf : Nat
  nE : Nat
  nS : Nat
def Pg.ctx (P : Pg) (run : Nat → CM) (t : FnT) : Ctx := { B := P.B, N := t.N, sc := t.sc, own := fun x => isOwn (t.sc.names.lookup x), gl := P.gl, call := run, bx := t.bx, wf := P.wf, cd := true }
def startE (t : FnT) (ds : List D) : Env := ds.map some ++ List.replicate (t.N.length - ds.length) none
def bodyR (P : Pg) (run : Nat → CM) (t : FnT) : CM := fun ds st => match blkS (evS P.nE P.nS (P.ctx run t)) t.body (startE t ds) st with
  | some (.ret d, _, st') => exitR t.keep st.length d st'
  | some (.nx, _, st') => exitR t.keep st.length .non st'
  | _ => none
def runP (P : Pg) : Nat → Nat → CM
  | 0 => fun _ _ _ => none
  | k + 1 => fun j ds st => match P.fns[j]? with
    | some t => bodyR P (runP P k) t ds st
    | none => none
/-- the def at f is the j-th of the table -/
structure FnAt (K : PySem.W.Frag) (P : Pg) (j np : Nat) (f : Addr) (fd : FuncData) (ps : List Str) : Prop where
  len : ps.length = np
  ex : ∃ t, P.fns[j]? = some t ∧ FnScope t.N ps t.sc ∧ ∃ (x qual : Str) (params : Arguments) (oc : Value) (od : Option Addr) (dV kV doc pm : Value) (an : Option Addr) (cdv ct : Value) (osl : Array (Option Value)),
    fd = PySem.W.fnOf x qual params t.body t.sc dV kV doc pm an cdv ct ∧ K.lookup f = some ⟨oc, od, .func fd, osl⟩ ∧ PySem.W.codeIn K cdv qual = true
/-- the globals are as the table says -/
structure GlOk (P : Pg) (w : World) (K : PySem.W.Frag) (mg : Str → Option Value) : Prop where
  b : P.B.Ok
  con : ∀ (k : Nat) (kvs : List (Nat × D)), P.B.CD[k]? = some kvs → ∃ (d : Addr) (es : Array DictEntry) (n : Nat), P.B.C[k]? = some (V.ref d) ∧ KDict K w d es n ∧ ∀ (j : Nat) (s : Str), P.B.T[j]? = some s →
    match kvs.lookup j with
    | some dv => ∃ u v, PySem.W.nsIn K d s = some (some u) ∧ RelV v u ∧ ∀ ρ H, RV K P.B ρ H dv v
    | none => PySem.W.nsIn K d s = some none
  blt : ∀ x, P.gl.lookup x = some .blt → mg x = none
  const : ∀ x d, P.gl.lookup x = some (.const d) → ∃ u v, mg x = some u ∧ RelV v u ∧ ∀ ρ H, RV K P.B ρ H d v
  fn : ∀ x j np dd kn, P.gl.lookup x = some (.fn j np dd kn) → ∃ f fd ps dvs dus, mg x = some (.ref f) ∧ PySem.W.keepIn K (.ref f) = true ∧ FnAt K P j np f fd ps ∧ Binds K fd ps dus ∧ Vals dvs dus ∧ (∀ ρ H, RVs K P.B ρ H dd dvs) ∧
    ∀ kx, kn = some kx → KBn K fd ps (np - 1) [kx] (fun us ws => us ++ ws) (fun vs zs => vs ++ zs)
section
variable {prog : Program} {w : World} {K : PySem.W.Frag} {mg : Str → Option Value} {base : Heap} {P : Pg}
theorem start_rep {ρ : Rho} {H : Hp} {t : FnT} : ∀ {ds : List D} {vs : List V}, RVs K P.B ρ H ds vs → REnv K P.B ρ H (startE t ds) (L2.start t.N vs) := by
  intro ds vs h
  have hl := h.len
  refine ⟨by simp [startE, L2.start, hl], fun i d e => ?_⟩
  unfold startE at e
  unfold L2.start
  by_cases hi : i < ds.length
  · rw [List.getElem?_append_left (by simpa using hi), List.getElem?_map] at e
    obtain ⟨d', e1, e2⟩ := Option.map_eq_some_iff.mp e
    cases e2
    obtain ⟨v, h1, h2⟩ := h.get e1
    exact ⟨v, by rw [List.getElem?_append_left (by simp; omega), List.getElem?_map, h1]; rfl, h2⟩
  · rw [List.getElem?_append_right (by simpa using hi)] at e
    have := List.mem_of_getElem? e
    rw [List.mem_replicate] at this
    cases this.2
theorem run_ok (G : GlOk P w K mg) : ∀ (k j np : Nat) (f : Addr) (fd : FuncData) (ps : List Str), FnAt K P j np f fd ps → FnOk prog w K mg base CX0 k f fd ps (SpOf K P.B np (runP P k j))
  | 0, j, np, f, fd, ps, F => by
    refine ⟨fun vs H Q E h => h.1.trans F.len.symm, fun A outer s H args us vs Q E _ _ _ _ h => ?_⟩
    obtain ⟨_, ρ, st, ds, d, st', _, _, e, _⟩ := h
    cases e
  | k + 1, j, np, f, fd, ps, F => by
    obtain ⟨t, ht, S, x, qual, params, oc, od, dV, kV, doc, pm, an, cdv, ct, osl, rfl, lk, hcd⟩ := F.ex
    refine fn_of lk hcd S (fun vs H Q E h => h.1.trans F.len.symm) fun A outer s H vs Q E hroom h => ?_
    obtain ⟨_, ρ, st, ds, d, st', r, rv, e, q⟩ := h
    have O : CtxOk (cxOf CX0 prog w K mg base t.N qual t.sc f cdv A outer s H E).nox (P.ctx (runP P k) t) k := {
      calm := rfl
      hp := PassesOwn.never
      N := rfl
      nd := S.nd
      kind := S.kind
      sc := rfl
      O := ⟨G.b, by have := hroom.un; show (A.deeper (envOfC qual t.sc s.heap.objs.size f cdv)).units + 66 < cLine; omega, G.con⟩
      own := fun y hy => by
        refine ⟨?_, .inl rfl⟩
        have hy : isOwn (t.sc.names.lookup y) = true := hy
        cases e0 : t.sc.names.lookup y with
        | none => rw [e0] at hy; cases hy
        | some kd =>
          rw [e0] at hy
          cases kd with
          | «local» => exact .inl e0
          | cell => exact .inr e0
          | _ => cases hy
      room := hroom
      code := fun _ => kdsCode_of hcd
      blt := G.blt
      const := G.const
      fn := fun x j np dd kn hx => by
        obtain ⟨f, fd, ps, dvs, dus, m1, m2, m3, m4⟩ := G.fn x j np dd kn hx
        exact ⟨f, fd, ps, dvs, dus, m1, m2, run_ok G k j np f fd ps m3, m4⟩ }
    refine ⟨_, (blkS_ok (evS_ok P.nE O P.nS) t.body).nox, ?_⟩
    have e : (match P.fns[j]? with | some t => bodyR P (runP P k) t ds st | none => none) = some (d, st') := e
    rw [ht] at e
    dsimp only at e
    unfold bodyR at e
    split at e
    · rename_i d1 env1 st1 he
      exact ⟨ρ, startE t ds, st, _, _, _, r, start_rep rv, he, fun ρ1 H1 x1 r1 v hv => exit_ok r x1 r1 hv e q⟩
    · rename_i env1 st1 he
      exact ⟨ρ, startE t ds, st, _, _, _, r, start_rep rv, he, fun ρ1 H1 x1 r1 σ' _ => exit_ok r x1 r1 (d := .non) rfl e q⟩
    · cases e
end
end Mn
set_option Elab.async false
set_option linter.all false
set_option maxRecDepth 100000
set_option maxHeartbeats 4000000
set_option autoImplicit false
/-! Mn, part W: reasoning about meanings. -/
namespace Mn
open PySem PySem.Spec PyProof.Rows L2
/-- the result is there, and Q holds of it -/
def W {α : Type} (r : Option α) (Q : α → Prop) : Prop := ∃ a, r = some a ∧ Q a
theorem W.mono {α : Type} {r : Option α} {Q Q' : α → Prop} (h : W r Q) (k : ∀ a, Q a → Q' a) : W r Q' := by
  obtain ⟨a, e, q⟩ := h
  exact ⟨a, e, k a q⟩
theorem W.of {α : Type} {r : Option α} {Q : α → Prop} {a : α} (e : r = some a) (q : Q a) : W r Q := ⟨a, e, q⟩
theorem W_some {α : Type} {a : α} {Q : α → Prop} : W (some a) Q ↔ Q a := ⟨fun ⟨_, e, q⟩ => by cases e; exact q, fun q => ⟨a, rfl, q⟩⟩
theorem W_none {α : Type} {Q : α → Prop} : W (none : Option α) Q ↔ False := ⟨fun ⟨_, e, _⟩ => (nomatch e), fun q => False.elim q⟩
theorem W_bind {α β : Type} {r : Option α} {f : α → Option β} {Q : β → Prop} : W (r.bind f) Q ↔ W r fun a => W (f a) Q := by
  constructor
  · rintro ⟨b, e, q⟩
    obtain ⟨a, e1, e2⟩ := Option.bind_eq_some_iff.mp e
    exact ⟨a, e1, b, e2, q⟩
  · rintro ⟨a, e1, b, e2, q⟩
    exact ⟨b, Option.bind_eq_some_iff.mpr ⟨a, e1, e2⟩, q⟩
theorem W_map {α β : Type} {r : Option α} {f : α → β} {Q : β → Prop} : W (r.map f) Q ↔ W r fun a => Q (f a) := by
  constructor
  · rintro ⟨b, e, q⟩
    obtain ⟨a, e1, e2⟩ := Option.map_eq_some_iff.mp e
    subst e2
    exact ⟨a, e1, q⟩
  · rintro ⟨a, e1, q⟩
    exact ⟨_, Option.map_eq_some_iff.mpr ⟨a, e1, rfl⟩, q⟩
theorem W_ite {α : Type} {c : Prop} [Decidable c] {a b : Option α} {Q : α → Prop} : W (if c then a else b) Q ↔ (if c then W a Q else W b Q) := by
  split <;> rfl
theorem W_no {α : Type} {a : α} {P : Prop} (e : none = some a) : P := by cases e
/-! ### steps, from the head -/
def br (c : Bool) (x y : Prop) : Prop := if c = true then x else y
theorem br_t {x y : Prop} : br true x y ↔ x := Iff.rfl
theorem br_f {x y : Prop} : br false x y ↔ y := Iff.rfl
theorem br_i {c : Bool} {x y : Prop} (h1 : c = true → x) (h2 : c = false → y) : br c x y := by
  cases c with
  | true => exact h1 rfl
  | false => exact h2 rfl
theorem W_br {α : Type} {c : Bool} {a b : Option α} {Q : α → Prop} : W (if c = true then a else b) Q ↔ br c (W a Q) (W b Q) := by
  cases c <;> rfl
theorem W_when {α : Type} {c : Prop} [Decidable c] {a : Option α} {Q : α → Prop} : W (if c then a else none) Q ↔ c ∧ W a Q := by
  split
  · rename_i h; exact ⟨fun q => ⟨h, q⟩, fun q => q.2⟩
  · rename_i h; exact ⟨fun q => (W_none.mp q).elim, fun q => absurd q.1 h⟩
/-- behind a statement -/
def KS (b : SM) (Q : Fl × Env × Store → Prop) : Fl × Env × Store → Prop := fun q => match q with
  | (.nx, e, s) => W (b e s) Q
  | (.ret d, e, s) => Q (.ret d, e, s)
  | (.brk, e, s) => Q (.brk, e, s)
  | (.cnt, e, s) => Q (.cnt, e, s)
theorem KS_nx {b : SM} {Q : Fl × Env × Store → Prop} {e : Env} {s : Store} : KS b Q (.nx, e, s) ↔ W (b e s) Q := Iff.rfl
theorem KS_ret {b : SM} {Q : Fl × Env × Store → Prop} {e : Env} {s : Store} {d : D} : KS b Q (.ret d, e, s) ↔ Q (.ret d, e, s) := Iff.rfl
theorem KS_brk {b : SM} {Q : Fl × Env × Store → Prop} {e : Env} {s : Store} : KS b Q (.brk, e, s) ↔ Q (.brk, e, s) := Iff.rfl
theorem KS_cnt {b : SM} {Q : Fl × Env × Store → Prop} {e : Env} {s : Store} : KS b Q (.cnt, e, s) ↔ Q (.cnt, e, s) := Iff.rfl
/-- behind a turn of a loop -/
def LQ (J : Env → Store → Prop) (Q : Fl × Env × Store → Prop) : Fl × Env × Store → Prop := fun q => match q with
  | (.nx, e, s) => J e s
  | (.cnt, e, s) => J e s
  | (.brk, e, s) => Q (.nx, e, s)
  | (.ret d, e, s) => Q (.ret d, e, s)
theorem LQ_nx {J : Env → Store → Prop} {Q : Fl × Env × Store → Prop} {e : Env} {s : Store} : LQ J Q (.nx, e, s) ↔ J e s := Iff.rfl
theorem LQ_cnt {J : Env → Store → Prop} {Q : Fl × Env × Store → Prop} {e : Env} {s : Store} : LQ J Q (.cnt, e, s) ↔ J e s := Iff.rfl
theorem LQ_brk {J : Env → Store → Prop} {Q : Fl × Env × Store → Prop} {e : Env} {s : Store} : LQ J Q (.brk, e, s) ↔ Q (.nx, e, s) := Iff.rfl
theorem LQ_ret {J : Env → Store → Prop} {Q : Fl × Env × Store → Prop} {e : Env} {s : Store} {d : D} : LQ J Q (.ret d, e, s) ↔ Q (.ret d, e, s) := Iff.rfl
/-- behind a def's body -/
def EX (keep : Bool) (n : Nat) (Q : D × Store → Prop) : Fl × Env × Store → Prop := fun q => match q with
  | (.nx, _, s) => W (exitR keep n .non s) Q
  | (.ret d, _, s) => W (exitR keep n d s) Q
  | _ => False
theorem EX_nx {keep : Bool} {n : Nat} {Q : D × Store → Prop} {e : Env} {s : Store} : EX keep n Q (.nx, e, s) ↔ W (exitR keep n .non s) Q := Iff.rfl
theorem EX_ret {keep : Bool} {n : Nat} {Q : D × Store → Prop} {e : Env} {s : Store} {d : D} : EX keep n Q (.ret d, e, s) ↔ W (exitR keep n d s) Q := Iff.rfl
theorem W_run {P : Pg} {k j : Nat} {t : FnT} {ds : List D} {st : Store} {Q : D × Store → Prop} {m : SM} (ht : P.fns[j]? = some t) (hb : blkS (evS P.nE P.nS (P.ctx (runP P k) t)) t.body = m) (h : W (m (startE t ds) st) (EX t.keep st.length Q)) : W (runP P (k + 1) j ds st) Q := by
  subst hb
  obtain ⟨⟨f, e1, s1⟩, e, q⟩ := h
  show W (match P.fns[j]? with | some t => bodyR P (runP P k) t ds st | none => none) Q
  rw [ht]
  show W (bodyR P (runP P k) t ds st) Q
  unfold bodyR
  rw [e]
  cases f with
  | nx => exact q
  | ret d => exact q
  | brk => exact False.elim q
  | cnt => exact False.elim q
/-! loops -/
theorem forL_W {g : Store → Bool} {tg : GM} {body : SM} {Q : Fl × Env × Store → Prop} (J : List D → Env → Store → Prop) (step : ∀ d r env st, J (d :: r) env st → g st = true ∧ W (tg d env st) fun p => W (body p.1 p.2) (LQ (J r) Q)) (done : ∀ env st, J [] env st → g st = true ∧ Q (.nx, env, st)) :
    ∀ (items : List D) (env : Env) (st : Store), J items env st → W (forL g tg body items env st) Q
  | [], env, st, h => by
    obtain ⟨h1, h2⟩ := done env st h
    unfold forL
    rw [if_pos h1]
    exact ⟨_, rfl, h2⟩
  | d :: r, env, st, h => by
    obtain ⟨h1, ⟨e1, s1⟩, h2, ⟨f, e2, s2⟩, h3, h4⟩ := step d r env st h
    unfold forL
    rw [if_pos h1, h2, Option.bind_some, h3, Option.bind_some]
    cases f with
    | nx => exact forL_W J step done r e2 s2 h4
    | cnt => exact forL_W J step done r e2 s2 h4
    | brk => exact ⟨_, rfl, h4⟩
    | ret d => exact ⟨_, rfl, h4⟩
theorem whileS_W {t : TM} {body : SM} {Q : Fl × Env × Store → Prop} (J : Nat → Env → Store → Prop) (step : ∀ k env st, J k env st → W (t env st) fun p => br p.1 (W (body env p.2) (LQ (fun e s => ∃ j, j < k ∧ J j e s) Q)) (Q (.nx, env, p.2))) :
    ∀ (n k : Nat) (env : Env) (st : Store), k < n → J k env st → W (whileS t body n env st) Q
  | 0, k, env, st, hk, _ => absurd hk (Nat.not_lt_zero k)
  | n + 1, k, env, st, hk, h => by
    obtain ⟨⟨b, s1⟩, h1, h2⟩ := step k env st h
    unfold whileS
    rw [h1, Option.bind_some]
    cases b with
    | false => exact ⟨_, rfl, h2⟩
    | true =>
      obtain ⟨⟨f, e2, s2⟩, h3, h4⟩ := h2
      dsimp only
      rw [if_pos rfl, h3, Option.bind_some]
      cases f with
      | nx =>
        obtain ⟨j, hj, h4⟩ := h4
        exact whileS_W J step n j e2 s2 (by omega) h4
      | cnt =>
        obtain ⟨j, hj, h4⟩ := h4
        exact whileS_W J step n j e2 s2 (by omega) h4
      | brk => exact ⟨_, rfl, h4⟩
      | ret d => exact ⟨_, rfl, h4⟩
theorem lcL_W {g : Store → Bool} {tg : GM} {t : TM} {e : EM} {wenv : Env} (J : List D → Store → (List D × Store → Prop) → Prop)
    (step : ∀ d r st Q, J (d :: r) st Q → g st = true ∧ W (tg d wenv st) fun p => W (t p.1 p.2) fun q => br q.1 (W (e p.1 q.2) fun x => J r x.2 fun y => Q (x.1 :: y.1, y.2)) (J r q.2 Q)) (done : ∀ st Q, J [] st Q → g st = true ∧ Q ([], st)) :
    ∀ (items : List D) (st : Store) (Q : List D × Store → Prop), J items st Q → W (lcL g tg t e wenv items st) Q
  | [], st, Q, h => by
    obtain ⟨h1, h2⟩ := done st Q h
    unfold lcL
    rw [if_pos h1]
    exact ⟨_, rfl, h2⟩
  | d :: r, st, Q, h => by
    obtain ⟨h1, ⟨e1, s1⟩, h2, ⟨b, s2⟩, h3, h4⟩ := step d r st Q h
    unfold lcL
    rw [if_pos h1, h2, Option.bind_some, h3, Option.bind_some]
    cases b with
    | false => exact lcL_W J step done r s2 Q h4
    | true =>
      obtain ⟨⟨x, s3⟩, h5, h6⟩ := h4
      dsimp only
      rw [if_pos rfl, h5, Option.bind_some, W_map]
      exact lcL_W J step done r s3 _ h6
/-! names and stores, step by step -/
def SETE : Nat → D → Env → (Env → Prop) → Prop := fun i d env k => k (env.set i (some d))
theorem SETE_0 {d : D} {x : Option D} {r : Env} {k : Env → Prop} : SETE 0 d (x :: r) k ↔ k (some d :: r) := Iff.rfl
theorem SETE_s {i : Nat} {d : D} {x : Option D} {r : Env} {k : Env → Prop} : SETE (i + 1) d (x :: r) k ↔ SETE i d r fun r' => k (x :: r') := Iff.rfl
def BL : D → (Bool → Prop) → Prop := fun d k => match d with
  | .bl b => k b
  | _ => False
theorem BL_b {b : Bool} {k : Bool → Prop} : BL (.bl b) k ↔ k b := Iff.rfl
def INT : D → (Int → Prop) → Prop := fun d k => match d with
  | .int b => k b
  | _ => False
theorem INT_i {b : Int} {k : Int → Prop} : INT (.int b) k ↔ k b := Iff.rfl
def KEY : D → (DK → Prop) → Prop := fun d k => match dkOf d with
  | some b => k b
  | none => False
theorem KEY_s {b : Nat} {k : DK → Prop} : KEY (.sym b) k ↔ k (.s b) := Iff.rfl
def NL : List D → Nat → Prop → Prop := fun l n P => l.length = n ∧ P
theorem NL_0 {P : Prop} : NL [] 0 P ↔ P := ⟨fun h => h.2, fun h => ⟨rfl, h⟩⟩
theorem NL_s {x : D} {l : List D} {n : Nat} {P : Prop} : NL (x :: l) (n + 1) P ↔ NL l n P := by
  unfold NL
  rw [List.length_cons, Nat.add_right_cancel_iff]
def lstAt (st : Store) (n : Nat) : Option (List D) := match st[n]? with
  | some (.lst xs) => some xs
  | _ => none
theorem W_lstAt0 {xs : List D} {st : Store} {Q : List D → Prop} : W (lstAt (.lst xs :: st) 0) Q ↔ Q xs := W_some
theorem W_lstAts {o : MObj} {st : Store} {n : Nat} {Q : List D → Prop} : W (lstAt (o :: st) (n + 1)) Q ↔ W (lstAt st n) Q := Iff.rfl
theorem W_at0 {α : Type} {x : α} {l : List α} {Q : α → Prop} : W ((x :: l)[0]?) Q ↔ Q x := W_some
theorem W_ats {α : Type} {x : α} {l : List α} {n : Nat} {Q : α → Prop} : W ((x :: l)[n + 1]?) Q ↔ W (l[n]?) Q := Iff.rfl
theorem atI_of {α : Type} (xs : List α) (n : Nat) : L2.atI xs (n : Int) = xs[n]? := by
  cases e : xs[n]? with
  | some v => exact L2.atI_nat e
  | none =>
    have hl : xs.length ≤ n := List.getElem?_eq_none_iff.mp e
    unfold L2.atI L2.ixN
    rw [if_pos (by omega), if_neg (by omega)]
    rfl
theorem W_atI0 {α : Type} {xs : List α} {Q : α → Prop} : W (L2.atI xs 0) Q ↔ W (xs[0]?) Q := by rw [show L2.atI xs (0 : Int) = xs[0]? from atI_of xs 0]
theorem W_atI1 {α : Type} {xs : List α} {Q : α → Prop} : W (L2.atI xs 1) Q ↔ W (xs[1]?) Q := by rw [show L2.atI xs (1 : Int) = xs[1]? from atI_of xs 1]
theorem W_atI2 {α : Type} {xs : List α} {Q : α → Prop} : W (L2.atI xs 2) Q ↔ W (xs[2]?) Q := by rw [show L2.atI xs (2 : Int) = xs[2]? from atI_of xs 2]
theorem W_atI3 {α : Type} {xs : List α} {Q : α → Prop} : W (L2.atI xs 3) Q ↔ W (xs[3]?) Q := by rw [show L2.atI xs (3 : Int) = xs[3]? from atI_of xs 3]
theorem W_atI4 {α : Type} {xs : List α} {Q : α → Prop} : W (L2.atI xs 4) Q ↔ W (xs[4]?) Q := by rw [show L2.atI xs (4 : Int) = xs[4]? from atI_of xs 4]
theorem W_atI5 {α : Type} {xs : List α} {Q : α → Prop} : W (L2.atI xs 5) Q ↔ W (xs[5]?) Q := by rw [show L2.atI xs (5 : Int) = xs[5]? from atI_of xs 5]
theorem W_atI6 {α : Type} {xs : List α} {Q : α → Prop} : W (L2.atI xs 6) Q ↔ W (xs[6]?) Q := by rw [show L2.atI xs (6 : Int) = xs[6]? from atI_of xs 6]
theorem W_atI7 {α : Type} {xs : List α} {Q : α → Prop} : W (L2.atI xs 7) Q ↔ W (xs[7]?) Q := by rw [show L2.atI xs (7 : Int) = xs[7]? from atI_of xs 7]
theorem W_atI8 {α : Type} {xs : List α} {Q : α → Prop} : W (L2.atI xs 8) Q ↔ W (xs[8]?) Q := by rw [show L2.atI xs (8 : Int) = xs[8]? from atI_of xs 8]
theorem W_atI9 {α : Type} {xs : List α} {Q : α → Prop} : W (L2.atI xs 9) Q ↔ W (xs[9]?) Q := by rw [show L2.atI xs (9 : Int) = xs[9]? from atI_of xs 9]
theorem W_atI10 {α : Type} {xs : List α} {Q : α → Prop} : W (L2.atI xs 10) Q ↔ W (xs[10]?) Q := by rw [show L2.atI xs (10 : Int) = xs[10]? from atI_of xs 10]
theorem W_atI11 {α : Type} {xs : List α} {Q : α → Prop} : W (L2.atI xs 11) Q ↔ W (xs[11]?) Q := by rw [show L2.atI xs (11 : Int) = xs[11]? from atI_of xs 11]
theorem W_atI12 {α : Type} {xs : List α} {Q : α → Prop} : W (L2.atI xs 12) Q ↔ W (xs[12]?) Q := by rw [show L2.atI xs (12 : Int) = xs[12]? from atI_of xs 12]
theorem W_seqS {a b : SM} {env : Env} {st : Store} {Q : Fl × Env × Store → Prop} : W (seqS a b env st) Q ↔ W (a env st) (KS b Q) := by
  unfold seqS
  rw [W_bind]
  constructor
  · exact fun h => h.mono fun ⟨f, e, s⟩ q => by cases f <;> first | exact q | (obtain ⟨a', e', q⟩ := q; have e' := Option.some.inj e'; subst e'; exact q)
  · exact fun h => h.mono fun ⟨f, e, s⟩ q => by cases f <;> first | exact q | exact ⟨_, rfl, q⟩
theorem W_asgS {e : EM} {g : GM} {env : Env} {st : Store} {Q : Fl × Env × Store → Prop} : W (asgS e g env st) Q ↔ W (e env st) fun p => W (g p.1 env p.2) fun q => Q (.nx, q.1, q.2) := by
  unfold asgS
  simp only [W_bind, W_map, W_some]
theorem W_exprS {e : EM} {env : Env} {st : Store} {Q : Fl × Env × Store → Prop} : W (exprS e env st) Q ↔ W (e env st) fun p => Q (.nx, env, p.2) := by
  unfold exprS
  simp only [W_bind, W_map, W_some]
theorem W_retS {e : EM} {env : Env} {st : Store} {Q : Fl × Env × Store → Prop} : W (retS e env st) Q ↔ W (e env st) fun p => Q (.ret p.1, env, p.2) := by
  unfold retS
  simp only [W_bind, W_map, W_some]
theorem W_retN {env : Env} {st : Store} {Q : Fl × Env × Store → Prop} : W (retN env st) Q ↔ Q (.ret .non, env, st) := W_some
theorem W_brkS {env : Env} {st : Store} {Q : Fl × Env × Store → Prop} : W (brkS env st) Q ↔ Q (.brk, env, st) := W_some
theorem W_cntS {env : Env} {st : Store} {Q : Fl × Env × Store → Prop} : W (cntS env st) Q ↔ Q (.cnt, env, st) := W_some
theorem W_nextS {env : Env} {st : Store} {Q : Fl × Env × Store → Prop} : W (nextS env st) Q ↔ Q (.nx, env, st) := W_some
theorem W_ifS {t : TM} {a b : SM} {env : Env} {st : Store} {Q : Fl × Env × Store → Prop} : W (ifS t a b env st) Q ↔ W (t env st) fun p => br p.1 (W (a env p.2) Q) (W (b env p.2) Q) := by
  unfold ifS
  simp only [W_bind, W_br]
theorem W_forS {im : IM} {tg : GM} {b : SM} {env : Env} {st : Store} {Q : Fl × Env × Store → Prop} : W (forS im tg b env st) Q ↔ W (im env st) fun p => W (forL p.1.2 tg b p.1.1 env p.2) Q := by
  unfold forS
  simp only [W_bind, W_map, W_some]
def PAR2 (i j : Nat) (l : List D) (env : Env) (k : Env → Prop) : Prop := match l with
  | [x, y] => SETE i x env fun e => SETE j y e k
  | _ => False
theorem PAR2_c {i j : Nat} {x y : D} {env : Env} {k : Env → Prop} : PAR2 i j [x, y] env k ↔ SETE i x env fun e => SETE j y e k := Iff.rfl
def PAR3 (i j m : Nat) (l : List D) (env : Env) (k : Env → Prop) : Prop := match l with
  | [x, y, z] => SETE i x env fun e => SETE j y e fun e => SETE m z e k
  | _ => False
theorem PAR3_c {i j m : Nat} {x y z : D} {env : Env} {k : Env → Prop} : PAR3 i j m [x, y, z] env k ↔ SETE i x env fun e => SETE j y e fun e => SETE m z e k := Iff.rfl
theorem W_par2 {i j : Nat} {as : AM} {env : Env} {st : Store} {Q : Fl × Env × Store → Prop} : W (parS [i, j] as env st) Q ↔ W (as env st) fun p => PAR2 i j p.1 env fun e => Q (.nx, e, p.2) := by
  unfold parS
  rw [W_bind]
  constructor
  · refine fun h => h.mono fun ⟨l, s⟩ q => ?_
    rw [W_when] at q
    obtain ⟨q1, q2⟩ := q
    match l, q1, q2 with
    | [x, y], _, q => (obtain ⟨a', e', q⟩ := q; have e' := Option.some.inj e'; subst e'; exact q)
  · refine fun h => h.mono fun ⟨l, s⟩ q => ?_
    match l, q with
    | [x, y], q => exact ⟨_, rfl, q⟩
theorem W_par3 {i j m : Nat} {as : AM} {env : Env} {st : Store} {Q : Fl × Env × Store → Prop} : W (parS [i, j, m] as env st) Q ↔ W (as env st) fun p => PAR3 i j m p.1 env fun e => Q (.nx, e, p.2) := by
  unfold parS
  rw [W_bind]
  constructor
  · refine fun h => h.mono fun ⟨l, s⟩ q => ?_
    rw [W_when] at q
    obtain ⟨q1, q2⟩ := q
    match l, q1, q2 with
    | [x, y, z], _, q => (obtain ⟨a', e', q⟩ := q; have e' := Option.some.inj e'; subst e'; exact q)
  · refine fun h => h.mono fun ⟨l, s⟩ q => ?_
    match l, q with
    | [x, y, z], q => exact ⟨_, rfl, q⟩
theorem W_nameG {i : Nat} {d : D} {env : Env} {st : Store} {Q : Env × Store → Prop} : W (nameG i d env st) Q ↔ SETE i d env fun e => Q (e, st) := W_some
theorem W_tupG {n : Nat} {g : GsM} {xs : List D} {env : Env} {st : Store} {Q : Env × Store → Prop} : W (tupG n g (.tup xs) env st) Q ↔ NL xs n (W (g xs env st) Q) := by
  unfold tupG
  exact W_when
theorem W_consG {g : GM} {r : GsM} {d : D} {ds : List D} {env : Env} {st : Store} {Q : Env × Store → Prop} : W (consG g r (d :: ds) env st) Q ↔ W (g d env st) fun p => W (r ds p.1 p.2) Q := by
  unfold consG
  exact W_bind
theorem W_nilG {env : Env} {st : Store} {Q : Env × Store → Prop} : W (nilG [] env st) Q ↔ Q (env, st) := W_some
theorem W_subG {o i : EM} {d : D} {env : Env} {st : Store} {Q : Env × Store → Prop} : W (subG o i d env st) Q ↔ W (o env st) fun p => W (i env p.2) fun q => W (setO p.1 q.1 d q.2) fun s => Q (env, s) := by
  unfold subG
  simp only [W_bind, W_map, W_some]
def SETL (j : Nat) (d : D) (xs : List D) (k : List D → Prop) : Prop := k (xs.set j d)
theorem SETL_0 {d x : D} {l : List D} {k : List D → Prop} : SETL 0 d (x :: l) k ↔ k (d :: l) := Iff.rfl
theorem SETL_s {j : Nat} {d x : D} {l : List D} {k : List D → Prop} : SETL (j + 1) d (x :: l) k ↔ SETL j d l fun l' => k (x :: l') := Iff.rfl
def IXN (n : Nat) (k : Int) (q : Nat → Prop) : Prop := W (L2.ixN n k) q
theorem ixN_of {n k : Nat} : L2.ixN n (k : Int) = if k < n then some k else none := by
  unfold L2.ixN
  by_cases h : k < n
  · rw [if_pos (by omega), if_pos (by omega), if_pos h, Int.toNat_natCast]
  · rw [if_pos (by omega), if_neg (by omega), if_neg h]
theorem IXN_0 {n : Nat} {q : Nat → Prop} : IXN n 0 q ↔ 0 < n ∧ q 0 := by unfold IXN; rw [show L2.ixN n (0 : Int) = _ from ixN_of, W_when, W_some]
theorem IXN_1 {n : Nat} {q : Nat → Prop} : IXN n 1 q ↔ 1 < n ∧ q 1 := by unfold IXN; rw [show L2.ixN n (1 : Int) = _ from ixN_of, W_when, W_some]
theorem IXN_2 {n : Nat} {q : Nat → Prop} : IXN n 2 q ↔ 2 < n ∧ q 2 := by unfold IXN; rw [show L2.ixN n (2 : Int) = _ from ixN_of, W_when, W_some]
theorem IXN_3 {n : Nat} {q : Nat → Prop} : IXN n 3 q ↔ 3 < n ∧ q 3 := by unfold IXN; rw [show L2.ixN n (3 : Int) = _ from ixN_of, W_when, W_some]
theorem IXN_nat {n k : Nat} {q : Nat → Prop} : IXN n (k : Int) q ↔ k < n ∧ q k := by unfold IXN; rw [ixN_of, W_when, W_some]
theorem W_setO0 {k : Int} {d : D} {xs : List D} {st : Store} {Q : Store → Prop} : W (setO (.ref 0) (.int k) d (.lst xs :: st)) Q ↔ IXN xs.length k fun j => SETL j d xs fun xs' => Q (.lst xs' :: st) := W_map
theorem W_setOs {n : Nat} {k : Int} {d : D} {o : MObj} {st : Store} {Q : Store → Prop} : W (setO (.ref (n + 1)) (.int k) d (o :: st)) Q ↔ W (setO (.ref n) (.int k) d st) fun s => Q (o :: s) := by
  unfold setO
  dsimp only
  rw [List.getElem?_cons_succ]
  cases st[n]? with
  | none => simp only [W_none]
  | some u => cases u with
    | lst xs => simp only [W_map, List.set_cons_succ]
    | dct ks xs => simp only [dkOf, W_when, W_some, List.set_cons_succ]
theorem setO_at {n : Nat} {k : Int} {d : D} {xs : List D} {st : Store} {Q : Store → Prop} (h : st[n]? = some (.lst xs)) : W (setO (.ref n) (.int k) d st) Q ↔ IXN xs.length k fun j => Q (st.set n (.lst (xs.set j d))) := by
  unfold setO
  dsimp only
  rw [h]
  exact W_map
theorem W_var0 {d : D} {r : Env} {st : Store} {Q : D × Store → Prop} : W (varM 0 (some d :: r) st) Q ↔ Q (d, st) := W_some
theorem W_vars {i : Nat} {x : Option D} {r : Env} {st : Store} {Q : D × Store → Prop} : W (varM (i + 1) (x :: r) st) Q ↔ W (varM i r st) Q := Iff.rfl
theorem W_cM {d : D} {env : Env} {st : Store} {Q : D × Store → Prop} : W (cM d env st) Q ↔ Q (d, st) := W_some
theorem W_binM {o : Op2} {a b : EM} {env : Env} {st : Store} {Q : D × Store → Prop} : W (binM o a b env st) Q ↔ W (a env st) fun p => W (b env p.2) fun q => W (o p.1 q.1 q.2) Q := by
  unfold binM
  simp only [W_bind, W_map, W_some]
theorem W_unM {o : D → Option D} {a : EM} {env : Env} {st : Store} {Q : D × Store → Prop} : W (unM o a env st) Q ↔ W (a env st) fun p => W (o p.1) fun d => Q (d, p.2) := by
  unfold unM
  simp only [W_bind, W_map, W_some]
theorem W_negM {i : Int} {Q : D → Prop} : W (negM (.int i)) Q ↔ Q (.int (-i)) := W_some
theorem W_nilA {env : Env} {st : Store} {Q : List D × Store → Prop} : W (nilA env st) Q ↔ Q ([], st) := W_some
theorem W_consA {a : EM} {r : AM} {env : Env} {st : Store} {Q : List D × Store → Prop} : W (consA a r env st) Q ↔ W (a env st) fun p => W (r env p.2) fun q => Q (p.1 :: q.1, q.2) := by
  unfold consA
  simp only [W_bind, W_map, W_some]
theorem W_callM {c : CM} {as : AM} {env : Env} {st : Store} {Q : D × Store → Prop} : W (callM c as env st) Q ↔ W (as env st) fun p => W (c p.1 p.2) Q := by
  unfold callM
  simp only [W_bind, W_map, W_some]
theorem W_tupM {as : AM} {env : Env} {st : Store} {Q : D × Store → Prop} : W (tupM as env st) Q ↔ W (as env st) fun p => p.1.length ≤ bigN ∧ Q (.tup p.1, p.2) := by
  unfold tupM
  simp only [W_bind, W_when, W_some]
theorem W_lstM {as : AM} {env : Env} {st : Store} {Q : D × Store → Prop} : W (lstM false as env st) Q ↔ W (as env st) fun p => p.1.length ≤ bigN ∧ Q (.lst p.1, p.2) := by
  unfold lstM
  simp only [W_bind, W_when, W_some]; exact Iff.rfl
theorem W_lstMt {as : AM} {env : Env} {st : Store} {Q : D × Store → Prop} : W (lstM true as env st) Q ↔ W (as env st) fun p => p.1.length ≤ bigN ∧ Q (.ref p.2.length, p.2 ++ [.lst p.1]) := by
  unfold lstM
  simp only [W_bind, W_when, W_some]; exact Iff.rfl
theorem W_slcM {o : SlM} {a : EM} {lo hi : Option EM} {env : Env} {st : Store} {Q : D × Store → Prop} : W (slcM o a lo hi env st) Q ↔ W (a env st) fun p => W (partM lo env p.2) fun q => W (partM hi env q.2) fun r => W (o p.1 q.1 r.1 r.2) Q := by
  unfold slcM
  simp only [W_bind, W_map, W_some]
theorem W_part0 {env : Env} {st : Store} {Q : Option Int × Store → Prop} : W (partM none env st) Q ↔ Q (none, st) := W_some
theorem W_parts {m : EM} {env : Env} {st : Store} {Q : Option Int × Store → Prop} : W (partM (some m) env st) Q ↔ W (m env st) fun p => INT p.1 fun i => Q (some i, p.2) := by
  unfold partM
  rw [W_bind]
  constructor
  · exact fun h => h.mono fun ⟨d, s⟩ q => by cases d <;> first | (obtain ⟨a', e', q⟩ := q; exact W_no e') | (obtain ⟨a', e', q⟩ := q; have e' := Option.some.inj e'; subst e'; exact q)
  · exact fun h => h.mono fun ⟨d, s⟩ q => by cases d <;> first | exact False.elim q | exact ⟨_, rfl, q⟩
theorem W_slOt {b : Bool} {xs : List D} {lo hi : Option Int} {st : Store} {Q : D × Store → Prop} : W (slO b (.tup xs) lo hi st) Q ↔ Q (.tup (cutL xs lo hi), st) := W_some
theorem W_slOl {xs : List D} {lo hi : Option Int} {st : Store} {Q : D × Store → Prop} : W (slO false (.lst xs) lo hi st) Q ↔ Q (.lst (cutL xs lo hi), st) := W_some
theorem W_slOr {n : Nat} {lo hi : Option Int} {st : Store} {Q : D × Store → Prop} : W (slO false (.ref n) lo hi st) Q ↔ W (lstAt st n) fun xs => Q (.lst (cutL xs lo hi), st) := by
  unfold slO
  simp only [W_map]
  exact Iff.rfl
theorem W_ifM {t : TM} {a b : EM} {env : Env} {st : Store} {Q : D × Store → Prop} : W (ifM t a b env st) Q ↔ W (t env st) fun p => br p.1 (W (a env p.2) Q) (W (b env p.2) Q) := by
  unfold ifM
  simp only [W_bind, W_br]
theorem W_truM {a : EM} {env : Env} {st : Store} {Q : Bool × Store → Prop} : W (truM a env st) Q ↔ W (a env st) fun p => W (truO p.2 p.1) fun b => Q (b, p.2) := by
  unfold truM
  simp only [W_bind, W_map, W_some]
theorem W_bolM {a : EM} {env : Env} {st : Store} {Q : Bool × Store → Prop} : W (bolM a env st) Q ↔ W (a env st) fun p => BL p.1 fun b => Q (b, p.2) := by
  unfold bolM
  rw [W_bind]
  constructor
  · exact fun h => h.mono fun ⟨d, s⟩ q => by cases d <;> first | (obtain ⟨a', e', q⟩ := q; exact W_no e') | (obtain ⟨a', e', q⟩ := q; have e' := Option.some.inj e'; subst e'; exact q)
  · exact fun h => h.mono fun ⟨d, s⟩ q => by cases d <;> first | exact False.elim q | exact ⟨_, rfl, q⟩
theorem W_andT {a b : TM} {env : Env} {st : Store} {Q : Bool × Store → Prop} : W (andT a b env st) Q ↔ W (a env st) fun p => br p.1 (W (b env p.2) Q) (Q (false, p.2)) := by
  unfold andT
  simp only [W_bind, W_br, W_some]
theorem W_orT {a b : TM} {env : Env} {st : Store} {Q : Bool × Store → Prop} : W (orT a b env st) Q ↔ W (a env st) fun p => br p.1 (Q (true, p.2)) (W (b env p.2) Q) := by
  unfold orT
  simp only [W_bind, W_br, W_some]
theorem W_notT {a : TM} {env : Env} {st : Store} {Q : Bool × Store → Prop} : W (notT a env st) Q ↔ W (a env st) fun p => Q (!p.1, p.2) := by
  unfold notT
  simp only [W_bind, W_some]
theorem W_andE {a b : EM} {env : Env} {st : Store} {Q : D × Store → Prop} : W (andE a b env st) Q ↔ W (a env st) fun p => BL p.1 fun c => br c (W (b env p.2) Q) (Q (.bl false, p.2)) := by
  unfold andE
  rw [W_bind]
  constructor
  · exact fun h => h.mono fun ⟨d, s⟩ q => by cases d <;> first | (obtain ⟨a', e', q⟩ := q; exact W_no e') | skip
                                             rename_i c; cases c <;> first | exact q | (obtain ⟨a', e', q⟩ := q; have e' := Option.some.inj e'; subst e'; exact q)
  · exact fun h => h.mono fun ⟨d, s⟩ q => by cases d <;> first | exact False.elim q | skip
                                             rename_i c; cases c <;> first | exact q | exact ⟨_, rfl, q⟩
theorem W_orE {a b : EM} {env : Env} {st : Store} {Q : D × Store → Prop} : W (orE a b env st) Q ↔ W (a env st) fun p => BL p.1 fun c => br c (Q (.bl true, p.2)) (W (b env p.2) Q) := by
  unfold orE
  rw [W_bind]
  constructor
  · exact fun h => h.mono fun ⟨d, s⟩ q => by cases d <;> first | (obtain ⟨a', e', q⟩ := q; exact W_no e') | skip
                                             rename_i c; cases c <;> first | exact q | (obtain ⟨a', e', q⟩ := q; have e' := Option.some.inj e'; subst e'; exact q)
  · exact fun h => h.mono fun ⟨d, s⟩ q => by cases d <;> first | exact False.elim q | skip
                                             rename_i c; cases c <;> first | exact q | exact ⟨_, rfl, q⟩
theorem W_notE {a : EM} {env : Env} {st : Store} {Q : D × Store → Prop} : W (notE a env st) Q ↔ W (a env st) fun p => BL p.1 fun c => Q (.bl (!c), p.2) := by
  unfold notE
  rw [W_bind]
  constructor
  · exact fun h => h.mono fun ⟨d, s⟩ q => by cases d <;> first | (obtain ⟨a', e', q⟩ := q; exact W_no e') | (obtain ⟨a', e', q⟩ := q; have e' := Option.some.inj e'; subst e'; exact q)
  · exact fun h => h.mono fun ⟨d, s⟩ q => by cases d <;> first | exact False.elim q | exact ⟨_, rfl, q⟩
theorem W_mthL {m : MM} {o : EM} {as : AM} {env : Env} {st : Store} {Q : D × Store → Prop} : W (mthL m o as env st) Q ↔ W (o env st) fun p => W (lstFOf p.2 p.1) fun _ => W (as env p.2) fun q => W (m p.1 q.1 q.2) Q := by
  unfold mthL
  rw [W_bind]
  constructor
  · refine fun h => h.mono fun ⟨d, s⟩ q => ?_
    dsimp only at q ⊢
    cases e : lstFOf s d with
    | none => rw [e] at q; exact (W_none.mp q).elim
    | some x => rw [e] at q; exact W_some.mpr (W_bind.mp q)
  · refine fun h => h.mono fun ⟨d, s⟩ q => ?_
    dsimp only at q ⊢
    cases e : lstFOf s d with
    | none => rw [e] at q; exact (W_none.mp q).elim
    | some x =>
      rw [e] at q
      obtain ⟨a', e', q⟩ := q
      have e' := Option.some.inj e'
      subst e'
      exact W_bind.mpr q
theorem W_lstFr {n : Nat} {st : Store} {Q : List D → Prop} : W (lstFOf st (.ref n)) Q ↔ W (lstAt st n) Q := Iff.rfl
theorem W_append {n : Nat} {d : D} {st : Store} {Q : D × Store → Prop} : W (appendO (.ref n) [d] st) Q ↔ W (lstAt st n) fun xs => xs.length < bigN ∧ Q (.non, st.set n (.lst (xs ++ [d]))) := by
  unfold appendO lstAt
  dsimp only
  cases st[n]? with
  | none => simp only [W_none]
  | some o => cases o with
    | lst xs => simp only [W_when, W_some]
    | dct ks xs => simp only [W_none]
theorem W_dctM {m : KM} {env : Env} {st : Store} {Q : D × Store → Prop} : W (dctM false m env st) Q ↔ W (m env st) fun p => p.1.1.length ≤ 15 ∧ Q (.dct (dputs p.1.1 p.1.2 ([], [])).1 (dputs p.1.1 p.1.2 ([], [])).2, p.2) := by
  unfold dctM
  simp only [W_bind, W_when, W_some]; exact Iff.rfl
theorem W_dctMt {m : KM} {env : Env} {st : Store} {Q : D × Store → Prop} : W (dctM true m env st) Q ↔ W (m env st) fun p => p.1.1.length ≤ 15 ∧ Q (.ref p.2.length, p.2 ++ [.dct (dputs p.1.1 p.1.2 ([], [])).1 (dputs p.1.1 p.1.2 ([], [])).2]) := by
  unfold dctM
  simp only [W_bind, W_when, W_some]; exact Iff.rfl
theorem W_nilK {env : Env} {st : Store} {Q : (List DK × List D) × Store → Prop} : W (nilK env st) Q ↔ Q (([], []), st) := W_some
theorem W_consK {a b : EM} {r : KM} {env : Env} {st : Store} {Q : (List DK × List D) × Store → Prop} : W (consK a b r env st) Q ↔ W (a env st) fun p => KEY p.1 fun j => W (b env p.2) fun q => W (r env q.2) fun z => Q ((j :: z.1.1, q.1 :: z.1.2), z.2) := by
  unfold consK
  rw [W_bind]
  constructor
  · refine fun h => h.mono fun ⟨d, s⟩ q => ?_
    unfold KEY
    dsimp only at q ⊢
    cases e : dkOf d with
    | none => rw [e] at q; exact (W_none.mp q).elim
    | some x => rw [e] at q; exact (W_bind.mp q).mono fun a q => W_map.mp q
  · refine fun h => h.mono fun ⟨d, s⟩ q => ?_
    unfold KEY at q
    dsimp only at q ⊢
    cases e : dkOf d with
    | none => rw [e] at q; exact False.elim q
    | some x => rw [e] at q; exact W_bind.mpr (W.mono q fun a q => W_map.mpr q)
theorem W_kwM {np : Nat} {run : CM} {as ak : AM} {env : Env} {st : Store} {Q : D × Store → Prop} : W (kwM np run as ak env st) Q ↔ W (as env st) fun p => W (ak env p.2) fun q => (p.1.length = np - 1 ∧ q.1.length = 1 ∧ (p.1 ++ q.1).length = np) ∧ W (run (p.1 ++ q.1) q.2) Q := by
  unfold kwM
  simp only [W_bind, W_when]
theorem W_maxdM {a d : EM} {env : Env} {st : Store} {Q : D × Store → Prop} : W (maxdM a d env st) Q ↔ W (a env st) fun p => W (d env p.2) fun q => W (lstOf q.2 p.1) fun xs => W (intsOf xs) fun ns => Q (match ns with | [] => q.1 | n :: ns => .int (ns.foldl max n), q.2) := by
  unfold maxdM
  rw [W_bind]
  constructor
  · refine fun h => h.mono fun ⟨x, s⟩ q => ?_
    rw [W_bind] at q
    refine q.mono fun ⟨y, s2⟩ q => ?_
    dsimp only at q ⊢
    cases e : lstOf s2 x with
    | none => rw [e] at q; exact (W_none.mp q).elim
    | some xs =>
      rw [e] at q
      refine W_some.mpr ?_
      cases e2 : intsOf xs with
      | none => simp only [e2] at q; exact (W_none.mp q).elim
      | some ns => cases ns <;> (simp only [e2] at q; (obtain ⟨a', e', q⟩ := q; have e' := Option.some.inj e'; subst e'; exact ⟨_, rfl, q⟩))
  · refine fun h => h.mono fun ⟨x, s⟩ q => ?_
    rw [W_bind]
    refine W.mono q fun ⟨y, s2⟩ q => ?_
    dsimp only at q ⊢
    cases e : lstOf s2 x with
    | none => rw [e] at q; exact (W_none.mp q).elim
    | some xs =>
      rw [e] at q
      have q := W_some.mp q
      cases e2 : intsOf xs with
      | none => rw [e2] at q; exact (W_none.mp q).elim
      | some ns => rw [e2] at q; cases ns <;> (simp only [e2]; (obtain ⟨a', e', q⟩ := q; have e' := Option.some.inj e'; subst e'; exact ⟨_, rfl, q⟩))
theorem W_sort2M {a b : EM} {env : Env} {st : Store} {Q : D × Store → Prop} : W (sort2M false a b env st) Q ↔ W (a env st) fun p => W (b env p.2) fun q => INT p.1 fun i => INT q.1 fun j => Q (.lst ((sort2L i j).map D.int), q.2) := by
  unfold sort2M
  rw [W_bind]
  constructor
  · refine fun h => h.mono fun ⟨x, s⟩ q => ?_
    rw [W_bind] at q
    refine q.mono fun ⟨y, s2⟩ q => ?_
    cases x <;> cases y <;> first | (obtain ⟨a', e', q⟩ := q; exact W_no e') | (obtain ⟨a', e', q⟩ := q; have e' := Option.some.inj e'; subst e'; exact q)
  · refine fun h => h.mono fun ⟨x, s⟩ q => ?_
    rw [W_bind]
    refine W.mono q fun ⟨y, s2⟩ q => ?_
    cases x <;> cases y <;> first | exact False.elim q | exact ⟨_, rfl, q⟩
theorem W_listRgM {a : EM} {env : Env} {st : Store} {Q : D × Store → Prop} : W (listRgM false a env st) Q ↔ W (a env st) fun p => INT p.1 fun j => (okR j && decide (j.toNat ≤ bigN)) = true ∧ Q (.lst (rngL 0 j), p.2) := by
  unfold listRgM
  rw [W_bind]
  constructor
  · exact fun h => h.mono fun ⟨d, s⟩ q => by cases d <;> first | (obtain ⟨a', e', q⟩ := q; exact W_no e') | (obtain ⟨q1, q⟩ := W_when.mp q; refine ⟨q1, ?_⟩; obtain ⟨a', e', q⟩ := q; have e' := Option.some.inj e'; subst e'; exact q)
  · exact fun h => h.mono fun ⟨d, s⟩ q => by cases d <;> first | exact False.elim q | exact W_when.mpr ⟨q.1, _, rfl, q.2⟩
theorem W_listRgMt {a : EM} {env : Env} {st : Store} {Q : D × Store → Prop} : W (listRgM true a env st) Q ↔ W (a env st) fun p => INT p.1 fun j => (okR j && decide (j.toNat ≤ bigN)) = true ∧ Q (.ref p.2.length, p.2 ++ [.lst (rngL 0 j)]) := by
  unfold listRgM
  rw [W_bind]
  constructor
  · exact fun h => h.mono fun ⟨d, s⟩ q => by cases d <;> first | (obtain ⟨a', e', q⟩ := q; exact W_no e') | (obtain ⟨q1, q⟩ := W_when.mp q; refine ⟨q1, ?_⟩; obtain ⟨a', e', q⟩ := q; have e' := Option.some.inj e'; subst e'; exact q)
  · exact fun h => h.mono fun ⟨d, s⟩ q => by cases d <;> first | exact False.elim q | exact W_when.mpr ⟨q.1, _, rfl, q.2⟩
theorem W_lcM {vs : List Nat} {im : IM} {tg : GM} {t : TM} {e : EM} {env : Env} {st : Store} {Q : D × Store → Prop} : W (lcM false vs im tg t e env st) Q ↔ W (im env st) fun p => W (lcL p.1.2 tg t e (wipeE env vs) p.1.1 p.2) fun q => q.1.length ≤ bigN ∧ Q (.lst q.1, q.2) := by
  unfold lcM
  simp only [W_bind, W_when, W_some]; exact Iff.rfl
def RNG : List D → (Int → Prop) → Prop := fun l k => match l with
  | [.int j] => k j
  | _ => False
theorem RNG_i {j : Int} {k : Int → Prop} : RNG [.int j] k ↔ k j := Iff.rfl
theorem W_rng1I {as : AM} {env : Env} {st : Store} {Q : (List D × (Store → Bool)) × Store → Prop} : W (rng1I as env st) Q ↔ W (as env st) fun p => RNG p.1 fun j => okR j = true ∧ Q ((rngL 0 j, fun _ => true), p.2) := by
  unfold rng1I
  rw [W_bind]
  constructor
  · refine fun h => h.mono fun ⟨l, s⟩ q => ?_
    dsimp only at q ⊢
    split at q
    · exact ⟨(W_when.mp q).1, W_some.mp (W_when.mp q).2⟩
    · exact (W_none.mp q).elim
  · refine fun h => h.mono fun ⟨l, s⟩ q => ?_
    unfold RNG at q
    dsimp only at q ⊢
    split at q
    · exact W_when.mpr ⟨q.1, W_some.mpr q.2⟩
    · exact False.elim q
def SEQ : D → Store → (List D × (Store → Bool) → Prop) → Prop := fun d st k => match d with
  | .ref n => W (lstAt st n) fun xs => k (xs, fun s => decide (s[n]? = some (.lst xs)))
  | .lst xs => k (xs, fun _ => true)
  | .fro xs => k (xs, fun _ => true)
  | .tup xs => k (xs, fun _ => true)
  | _ => False
theorem SEQ_l {xs : List D} {st : Store} {k : List D × (Store → Bool) → Prop} : SEQ (.lst xs) st k ↔ k (xs, fun _ => true) := Iff.rfl
theorem SEQ_f {xs : List D} {st : Store} {k : List D × (Store → Bool) → Prop} : SEQ (.fro xs) st k ↔ k (xs, fun _ => true) := Iff.rfl
theorem SEQ_t {xs : List D} {st : Store} {k : List D × (Store → Bool) → Prop} : SEQ (.tup xs) st k ↔ k (xs, fun _ => true) := Iff.rfl
theorem SEQ_r {n : Nat} {st : Store} {k : List D × (Store → Bool) → Prop} : SEQ (.ref n) st k ↔ W (lstAt st n) fun xs => k (xs, fun s => decide (s[n]? = some (.lst xs))) := Iff.rfl
theorem W_seqI {a : EM} {env : Env} {st : Store} {Q : (List D × (Store → Bool)) × Store → Prop} : W (seqI a env st) Q ↔ W (a env st) fun p => SEQ p.1 p.2 fun r => Q (r, p.2) := by
  unfold seqI
  rw [W_bind]
  have key : ∀ (d : D) (s : Store), W (match d with
    | .ref n => (match s[n]? with
      | some (.lst xs) => some ((xs, fun s => decide (s[n]? = some (.lst xs))), s)
      | _ => none)
    | .lst xs => some ((xs, fun _ => true), s)
    | .fro xs => some ((xs, fun _ => true), s)
    | .tup xs => some ((xs, fun _ => true), s)
    | _ => none) Q ↔ SEQ d s fun r => Q (r, s) := by
    intro d s
    cases d with
    | lst xs => exact W_some
    | fro xs => exact W_some
    | tup xs => exact W_some
    | ref n =>
      unfold SEQ lstAt
      dsimp only
      cases s[n]? with
      | none => simp only [W_none]
      | some o => cases o with
        | lst xs => simp only [W_some]
        | dct ks xs => simp only [W_none]
    | _ => exact W_none
  constructor
  · exact fun h => h.mono fun ⟨d, s⟩ q => (key d s).mp q
  · exact fun h => h.mono fun ⟨d, s⟩ q => (key d s).mpr q
theorem W_addI {b : Bool} {i j : Int} {st : Store} {Q : D × Store → Prop} : W (addO b (.int i) (.int j) st) Q ↔ Q (.int (i + j), st) := W_some
theorem W_addT {b : Bool} {xs ys : List D} {st : Store} {Q : D × Store → Prop} : W (addO b (.tup xs) (.tup ys) st) Q ↔ xs.length + ys.length ≤ bigN ∧ Q (.tup (xs ++ ys), st) := by
  unfold addO
  simp only [W_when, W_some]
theorem W_addL {xs ys : List D} {st : Store} {Q : D × Store → Prop} : W (addO false (.lst xs) (.lst ys) st) Q ↔ xs.length + ys.length ≤ bigN ∧ Q (.lst (xs ++ ys), st) := by
  unfold addO
  simp only [lstOf, W_when, W_some]; exact Iff.rfl
theorem W_addLt {xs ys : List D} {st : Store} {Q : D × Store → Prop} : W (addO true (.lst xs) (.lst ys) st) Q ↔ xs.length + ys.length ≤ bigN ∧ Q (.ref st.length, st ++ [.lst (xs ++ ys)]) := by
  unfold addO
  simp only [lstOf, W_when, W_some]; exact Iff.rfl
theorem W_subI {i j : Int} {st : Store} {Q : D × Store → Prop} : W (subO (.int i) (.int j) st) Q ↔ Q (.int (i - j), st) := W_some
theorem W_mulI {b : Bool} {i j : Int} {st : Store} {Q : D × Store → Prop} : W (mulO b (.int i) (.int j) st) Q ↔ (smallI i || smallI j) = true ∧ Q (.int (i * j), st) := by
  unfold mulO
  simp only [W_when, W_some]
theorem W_mulL {xs : List D} {k : Int} {st : Store} {Q : D × Store → Prop} : W (mulO false (.lst xs) (.int k) st) Q ↔ (-(2 ^ 63) ≤ k ∧ k < 2 ^ 63 ∧ xs.length * k.toNat ≤ bigN) ∧ Q (.lst (List.replicate k.toNat xs).flatten, st) := by
  unfold mulO
  simp only [lstOf, W_when, W_some]; exact Iff.rfl
theorem W_fdiv {i j : Int} {st : Store} {Q : D × Store → Prop} : W (fdivO (.int i) (.int j) st) Q ↔ (j ≠ 0 ∧ j.natAbs < 1073741824) ∧ Q (.int (i.fdiv j), st) := by
  unfold fdivO
  simp only [W_when, W_some]
theorem W_mod {i j : Int} {st : Store} {Q : D × Store → Prop} : W (modO (.int i) (.int j) st) Q ↔ j ≠ 0 ∧ Q (.int (i.fmod j), st) := by
  unfold modO
  simp only [W_when, W_some]
theorem W_pow {i j : Int} {st : Store} {Q : D × Store → Prop} : W (powO (.int i) (.int j) st) Q ↔ (0 ≤ j ∧ j ≤ 1000000 ∧ i.natAbs < 2 ^ 64) ∧ Q (.int (i ^ j.toNat), st) := by
  unfold powO
  simp only [W_when, W_some]
theorem W_cmp {p : Int → Int → Bool} {i j : Int} {st : Store} {Q : D × Store → Prop} : W (cmpO p (.int i) (.int j) st) Q ↔ Q (.bl (p i j), st) := W_some
theorem W_is {x : D} {st : Store} {Q : D × Store → Prop} : W (isO x .non st) Q ↔ noCon x = true ∧ Q (.bl (isNone x), st) := by
  unfold isO
  simp only [W_when, W_some]
theorem W_isNot {x : D} {st : Store} {Q : D × Store → Prop} : W (isNotO x .non st) Q ↔ noCon x = true ∧ Q (.bl (!isNone x), st) := by
  unfold isNotO
  simp only [W_when, W_some]
theorem W_eqs {a b : Nat} {st : Store} {Q : D × Store → Prop} : W (eqO (.sym a) (.sym b) st) Q ↔ Q (.bl (a == b), st) := W_some
theorem W_eqi {a b : Int} {st : Store} {Q : D × Store → Prop} : W (eqO (.int a) (.int b) st) Q ↔ Q (.bl (a == b), st) := W_some
theorem W_eqis {a : Int} {b : Nat} {st : Store} {Q : D × Store → Prop} : W (eqO (.int a) (.sym b) st) Q ↔ Q (.bl (false), st) := W_some
theorem W_eqb {a b : Bool} {st : Store} {Q : D × Store → Prop} : W (eqO (.bl a) (.bl b) st) Q ↔ Q (.bl (a == b), st) := W_some
theorem W_nes {a b : Nat} {st : Store} {Q : D × Store → Prop} : W (neO (.sym a) (.sym b) st) Q ↔ Q (.bl (!(a == b)), st) := W_some
theorem W_nei {a b : Int} {st : Store} {Q : D × Store → Prop} : W (neO (.int a) (.int b) st) Q ↔ Q (.bl (!(a == b)), st) := W_some
theorem W_neis {a : Int} {b : Nat} {st : Store} {Q : D × Store → Prop} : W (neO (.int a) (.sym b) st) Q ↔ Q (.bl (!(false)), st) := W_some
theorem W_neb {a b : Bool} {st : Store} {Q : D × Store → Prop} : W (neO (.bl a) (.bl b) st) Q ↔ Q (.bl (!(a == b)), st) := W_some
theorem W_itT {B : Tb} {xs : List D} {i : Int} {st : Store} {Q : D × Store → Prop} : W (itemO B (.tup xs) (.int i) st) Q ↔ W (L2.atI xs i) fun d => Q (d, st) := by
  unfold itemO ixO
  simp only [seqOf, W_map]
theorem W_itL {B : Tb} {xs : List D} {i : Int} {st : Store} {Q : D × Store → Prop} : W (itemO B (.lst xs) (.int i) st) Q ↔ W (L2.atI xs i) fun d => Q (d, st) := by
  unfold itemO ixO
  simp only [seqOf, lstOf, W_map]
theorem W_itF {B : Tb} {xs : List D} {i : Int} {st : Store} {Q : D × Store → Prop} : W (itemO B (.fro xs) (.int i) st) Q ↔ W (L2.atI xs i) fun d => Q (d, st) := by
  unfold itemO ixO
  simp only [seqOf, lstOf, W_map]
theorem W_itD {B : Tb} {ks : List DK} {xs : List D} {k : Nat} {st : Store} {Q : D × Store → Prop} : W (itemO B (.dct ks xs) (.sym k) st) Q ↔ W (dget ks xs (.s k)) fun d => Q (d, st) := by
  unfold itemO ixO
  simp only [seqOf, lstOf, dctOf, dkOf, W_map]
theorem W_one {f : Store → D → Option D} {x : D} {st : Store} {Q : D × Store → Prop} : W (one f [x] st) Q ↔ W (f st x) fun d => Q (d, st) := by
  unfold one
  exact W_map
theorem W_lenL {xs : List D} {st : Store} {Q : D → Prop} : W (lenF st (.lst xs)) Q ↔ Q (.int xs.length) := W_some
theorem W_lenT {xs : List D} {st : Store} {Q : D → Prop} : W (lenF st (.tup xs)) Q ↔ Q (.int xs.length) := W_some
theorem W_lenF {xs : List D} {st : Store} {Q : D → Prop} : W (lenF st (.fro xs)) Q ↔ Q (.int xs.length) := W_some
theorem W_intI {i : Int} {st : Store} {Q : D → Prop} : W (intF st (.int i)) Q ↔ Q (.int i) := W_some
theorem W_intB {b : Bool} {st : Store} {Q : D → Prop} : W (intF st (.bl b)) Q ↔ Q (.int (if b then 1 else 0)) := W_some
theorem W_absI {i : Int} {st : Store} {Q : D → Prop} : W (absF st (.int i)) Q ↔ Q (.int (if i < 0 then -i else i)) := W_some
theorem W_max2 {i j : Int} {st : Store} {Q : D × Store → Prop} : W (max2C [.int i, .int j] st) Q ↔ Q (.int (if j > i then j else i), st) := W_some
theorem W_min2 {i j : Int} {st : Store} {Q : D × Store → Prop} : W (min2C [.int i, .int j] st) Q ↔ Q (.int (if j < i then j else i), st) := W_some
theorem W_tupCl {xs : List D} {st : Store} {Q : D × Store → Prop} : W (tupleC [.lst xs] st) Q ↔ Q (.tup xs, st) := W_some
theorem W_tupCr {n : Nat} {st : Store} {Q : D × Store → Prop} : W (tupleC [.ref n] st) Q ↔ W (lstAt st n) fun xs => Q (.tup xs, st) := by
  unfold tupleC
  simp only [W_map]
  exact Iff.rfl
theorem W_tupCt {xs : List D} {st : Store} {Q : D × Store → Prop} : W (tupleC [.tup xs] st) Q ↔ Q (.tup xs, st) := W_some
theorem W_lstCf {xs : List D} {st : Store} {Q : D × Store → Prop} : W (listC false [.fro xs] st) Q ↔ Q (.lst xs, st) := W_some
theorem W_lstCl {xs : List D} {st : Store} {Q : D × Store → Prop} : W (listC true [.lst xs] st) Q ↔ Q (.ref st.length, st ++ [.lst xs]) := W_some
theorem W_truL {xs : List D} {st : Store} {Q : Bool → Prop} : W (truO st (.lst xs)) Q ↔ Q (!xs.isEmpty) := W_some
theorem W_truT {xs : List D} {st : Store} {Q : Bool → Prop} : W (truO st (.tup xs)) Q ↔ Q (!xs.isEmpty) := W_some
theorem W_truB {b : Bool} {st : Store} {Q : Bool → Prop} : W (truO st (.bl b)) Q ↔ Q b := W_some
theorem W_yesT {env : Env} {st : Store} {Q : Bool × Store → Prop} : W (yesT env st) Q ↔ Q (true, st) := W_some
theorem W_itR0 {B : Tb} {xs : List D} {i : Int} {st : Store} {Q : D × Store → Prop} : W (itemO B (.ref 0) (.int i) (.lst xs :: st)) Q ↔ W (L2.atI xs i) fun d => Q (d, .lst xs :: st) := W_map
theorem W_itRs {B : Tb} {n : Nat} {o : MObj} {i : Int} {st : Store} {Q : D × Store → Prop} : W (itemO B (.ref (n + 1)) (.int i) (o :: st)) Q ↔ W (itemO B (.ref n) (.int i) st) fun p => Q (p.1, o :: p.2) := by
  unfold itemO ixO
  simp only [seqOf, lstOf, dctOf, dkOf, List.getElem?_cons_succ]
  cases st[n]? with
  | none => simp only [W_none]
  | some u => cases u with
    | lst xs => simp only [W_map]
    | dct ks xs => simp only [W_map]
theorem item_at {B : Tb} {n : Nat} {xs : List D} {i : Int} {st : Store} {Q : D × Store → Prop} (h : st[n]? = some (.lst xs)) : W (itemO B (.ref n) (.int i) st) Q ↔ W (L2.atI xs i) fun d => Q (d, st) := by
  unfold itemO ixO
  simp only [seqOf, lstOf, h, W_map]
theorem lstAt_at {n : Nat} {xs : List D} {st : Store} {Q : List D → Prop} (h : st[n]? = some (.lst xs)) : W (lstAt st n) Q ↔ Q xs := by
  unfold lstAt
  rw [h]
  exact W_some
theorem len_at {n : Nat} {xs : List D} {st : Store} {Q : D → Prop} (h : st[n]? = some (.lst xs)) : W (lenF st (.ref n)) Q ↔ Q (.int xs.length) := by
  unfold lenF
  simp only [seqOf, lstOf, h, W_some]
theorem W_defC {call : Nat → CM} {j np : Nat} {ds : List D} {st : Store} {Q : D × Store → Prop} {defC : (Nat → CM) → Nat → Nat → List D → CM} (hd : defC call j np [] = fun ds st => if (ds ++ []).length = np then call j (ds ++ []) st else none) : W (defC call j np [] ds st) Q ↔ NL ds np (W (call j ds st) Q) := by
  rw [hd]
  dsimp only
  rw [List.append_nil, W_when]
  exact Iff.rfl
/-! ### closed data -/
mutual
theorem clo_mono {n m : Nat} (h : n ≤ m) : ∀ d : D, clo n d = true → clo m d = true
  | .tup xs, c => clos_mono h xs c
  | .lst xs, c => clos_mono h xs c
  | .fro xs, c => clos_mono h xs c
  | .dct _ xs, c => clos_mono h xs c
  | .ref k, c => decide_eq_true (Nat.lt_of_lt_of_le (of_decide_eq_true c) h)
  | .non, _ => rfl
  | .bl _, _ => rfl
  | .int _, _ => rfl
  | .sym _, _ => rfl
  | .con _, _ => rfl
  | .ty _, _ => rfl
theorem clos_mono {n m : Nat} (h : n ≤ m) : ∀ ds : List D, clos n ds = true → clos m ds = true
  | [], _ => rfl
  | d :: ds, c => by
    obtain ⟨c1, c2⟩ := Bool.and_eq_true_iff.mp (show (clo n d && clos n ds) = true from c)
    exact Bool.and_eq_true_iff.mpr ⟨clo_mono h d c1, clos_mono h ds c2⟩
end
theorem cloO_mono {n m : Nat} (h : n ≤ m) (o : MObj) (c : cloO n o = true) : cloO m o = true := by
  cases o with
  | lst xs => exact clos_mono h xs c
  | dct ks xs => exact clos_mono h xs c
theorem clos_iff {n : Nat} : ∀ {ds : List D}, clos n ds = true ↔ ∀ d ∈ ds, clo n d = true
  | [] => by simp [clos]
  | d :: ds => by
    show (clo n d && clos n ds) = true ↔ _
    rw [Bool.and_eq_true, clos_iff, List.forall_mem_cons]
/-- nothing in the store names another object of the store -/
def CL (st : Store) : Prop := st.all (cloO 0) = true
theorem CL.all {st : Store} (h : CL st) (n : Nat) : st.all (cloO n) = true := List.all_eq_true.mpr fun o ho => cloO_mono (Nat.zero_le n) o (List.all_eq_true.mp h o ho)
theorem CL_cons {o : MObj} {st : Store} : CL (o :: st) ↔ cloO 0 o = true ∧ CL st := by
  unfold CL
  rw [List.all_cons, Bool.and_eq_true]
theorem CL_nil : CL [] := rfl
theorem CL_app {s t : Store} : CL (s ++ t) ↔ CL s ∧ CL t := by
  unfold CL
  rw [List.all_append, Bool.and_eq_true]
/-- the end of a def that gives back closed data and leaves st, and what it made, behind -/
theorem exit_clo {st ex : Store} {n : Nat} {d : D} {Q : D × Store → Prop} (hn : n = st.length) (hc : CL st) (hd : clo 0 d = true) (hr : ∀ m, d ≠ .ref m) (q : Q (d, st)) : W (exitR false n d (st ++ ex)) Q := by
  subst hn
  have ht : (st ++ ex).take st.length = st := by simp
  unfold exitR
  rw [if_neg Bool.false_ne_true, ht, if_pos (hc.all _)]
  cases d with
  | ref m => exact absurd rfl (hr m)
  | _ => exact ⟨_, if_pos (clo_mono (Nat.zero_le _) _ hd), q⟩
theorem exit_clo0 {st : Store} {n : Nat} {d : D} {Q : D × Store → Prop} (hn : n = st.length) (hc : CL st) (hd : clo 0 d = true) (hr : ∀ m, d ≠ .ref m) (q : Q (d, st)) : W (exitR false n d st) Q := by
  have := exit_clo (ex := []) hn hc hd hr q
  rwa [List.append_nil] at this
/-- .. that gives back a list it made -/
theorem exit_lst {st ex : Store} {n m : Nat} {xs : List D} {Q : D × Store → Prop} (hn : n = st.length) (hc : CL st) (hm : n ≤ m) (hx : (st ++ ex)[m]? = some (.lst xs)) (hd : clos 0 xs = true) (q : Q (.lst xs, st)) : W (exitR false n (.ref m) (st ++ ex)) Q := by
  subst hn
  have ht : (st ++ ex).take st.length = st := by simp
  unfold exitR
  rw [if_neg Bool.false_ne_true, ht, if_pos (hc.all _)]
  dsimp only
  rw [if_neg (by omega), hx]
  dsimp only
  rw [if_pos (clos_mono (Nat.zero_le _) _ hd)]
  exact ⟨_, rfl, q⟩
/-! k in a written list of texts, of ints; items of written dicts -/
def isSymD : D → Bool
  | .sym _ => true
  | _ => false
def isIntD : D → Bool
  | .int _ => true
  | _ => false
theorem plains_all {p : D → Bool} (hp : ∀ d, p d = true → plain d = true ∧ depthD d = 0) : ∀ {xs : List D}, xs.all p = true → plains xs = true ∧ depthDs xs = 0
  | [], _ => ⟨rfl, rfl⟩
  | x :: xs, h => by
    rw [List.all_cons, Bool.and_eq_true] at h
    obtain ⟨a, b⟩ := plains_all hp h.2
    obtain ⟨c, d⟩ := hp x h.1
    refine ⟨by show (plain x && plains xs) = true; rw [a, c]; rfl, by show max (depthD x) (depthDs xs) = 0; rw [b, d]; rfl⟩
theorem symD_plain (d : D) (h : isSymD d = true) : plain d = true ∧ depthD d = 0 := by cases d <;> first | exact ⟨rfl, rfl⟩ | cases h
theorem W_memL' {B : Tb} {a : Nat} {xs : List D} {st : Store} {Q : D × Store → Prop} (h : xs.all isSymD = true) : W (memO B (.sym a) (.lst xs) st) Q ↔ Q (.bl (xs.any fun z => eqv z (.sym a)), st) := by
  obtain ⟨p1, p2⟩ := plains_all symD_plain h
  have e : memO B (.sym a) (.lst xs) st = some (.bl (xs.any fun z => eqv z (.sym a)), st) := by
    unfold memO memB inB
    simp only [dctOf, dkOf, seqOf, lstOf]
    rw [if_pos (by rw [p1]; rfl)]
    rfl
  rw [e]
  exact W_some
theorem W_notMemL' {B : Tb} {a : Nat} {xs : List D} {st : Store} {Q : D × Store → Prop} (h : xs.all isSymD = true) : W (notMemO B (.sym a) (.lst xs) st) Q ↔ Q (.bl (!xs.any fun z => eqv z (.sym a)), st) := by
  obtain ⟨p1, p2⟩ := plains_all symD_plain h
  have e : notMemO B (.sym a) (.lst xs) st = some (.bl (!xs.any fun z => eqv z (.sym a)), st) := by
    unfold notMemO memB inB
    simp only [dctOf, dkOf, seqOf, lstOf]
    rw [if_pos (by rw [p1]; rfl)]
    rfl
  rw [e]
  exact W_some
theorem W_memT' {B : Tb} {a : Nat} {xs : List D} {st : Store} {Q : D × Store → Prop} (h : xs.all isSymD = true) : W (memO B (.sym a) (.tup xs) st) Q ↔ Q (.bl (xs.any fun z => eqv z (.sym a)), st) := by
  obtain ⟨p1, p2⟩ := plains_all symD_plain h
  have e : memO B (.sym a) (.tup xs) st = some (.bl (xs.any fun z => eqv z (.sym a)), st) := by
    unfold memO memB inB
    simp only [dctOf, dkOf, seqOf, lstOf]
    rw [if_pos (by rw [p1]; rfl)]
    rfl
  rw [e]
  exact W_some
theorem eqv_sym {a b : Nat} : eqv (.sym a) (.sym b) = (a == b) := by simp [eqv]
theorem isSym_s {a : Nat} : isSymD (.sym a) = true := rfl
theorem W_dget_hit {k : DK} {ks : List DK} {x : D} {xs : List D} {Q : D → Prop} : W (dget (k :: ks) (x :: xs) k) Q ↔ Q x := by
  rw [show dget (k :: ks) (x :: xs) k = some x from if_pos rfl]
  exact W_some
theorem W_dget_miss {a b : Nat} {ks : List DK} {x : D} {xs : List D} {Q : D → Prop} (h : a ≠ b) : W (dget (.s a :: ks) (x :: xs) (.s b)) Q ↔ W (dget ks xs (.s b)) Q := by
  rw [show dget (.s a :: ks) (x :: xs) (.s b) = dget ks xs (.s b) from if_neg (fun z => h (DK.s.inj z))]
theorem W_eqs_t {a : Nat} {st : Store} {Q : D × Store → Prop} : W (eqO (.sym a) (.sym a) st) Q ↔ Q (.bl true, st) := by
  rw [W_eqs, beq_self_eq_true]
theorem W_eqs_f {a b : Nat} {st : Store} {Q : D × Store → Prop} (h : a ≠ b) : W (eqO (.sym a) (.sym b) st) Q ↔ Q (.bl false, st) := by
  rw [W_eqs, beq_eq_false_iff_ne.mpr h]
theorem W_nes_t {a : Nat} {st : Store} {Q : D × Store → Prop} : W (neO (.sym a) (.sym a) st) Q ↔ Q (.bl false, st) := by
  rw [W_nes, beq_self_eq_true]; rfl
theorem W_nes_f {a b : Nat} {st : Store} {Q : D × Store → Prop} (h : a ≠ b) : W (neO (.sym a) (.sym b) st) Q ↔ Q (.bl true, st) := by
  rw [W_nes, beq_eq_false_iff_ne.mpr h]; rfl
/-! isinstance(.., tuple) -/
theorem isi_of {x : D} {m n : String} {b : Bool} {st : Store} {Q : D × Store → Prop} (h1 : tyName st x = some m) (h2 : isiB m n = some b) : W (isiC [x, .ty n] st) Q ↔ Q (.bl b, st) := by
  unfold isiC
  simp only [h1, h2]
  exact W_some
theorem W_isiST {k : Nat} {st : Store} {Q : D × Store → Prop} : W (isiC [.sym k, .ty "tuple"] st) Q ↔ Q (.bl false, st) := isi_of rfl (by decide)
theorem W_isiIT {k : Int} {st : Store} {Q : D × Store → Prop} : W (isiC [.int k, .ty "tuple"] st) Q ↔ Q (.bl false, st) := isi_of rfl (by decide)
theorem W_isiTT {xs : List D} {st : Store} {Q : D × Store → Prop} : W (isiC [.tup xs, .ty "tuple"] st) Q ↔ Q (.bl true, st) := isi_of rfl (by decide)
theorem W_isiIS {k : Int} {st : Store} {Q : D × Store → Prop} : W (isiC [.int k, .ty "str"] st) Q ↔ Q (.bl false, st) := isi_of rfl (by decide)
theorem W_isiIB {k : Int} {st : Store} {Q : D × Store → Prop} : W (isiC [.int k, .ty "bool"] st) Q ↔ Q (.bl false, st) := isi_of rfl (by decide)
theorem W_isiII {k : Int} {st : Store} {Q : D × Store → Prop} : W (isiC [.int k, .ty "int"] st) Q ↔ Q (.bl true, st) := isi_of rfl (by decide)
theorem exitC {st ex : Store} {n : Nat} {d : D} {Q : D × Store → Prop} (hn : n = st.length) (hc : CL st) (hd : clo 0 d = true) (q : Q (d, st)) : W (exitR false n d (st ++ ex)) Q :=
  exit_clo hn hc hd (fun m z => by subst z; exact absurd (of_decide_eq_true (show decide (m < 0) = true from hd)) (Nat.not_lt_zero m)) q
theorem exitC0 {st : Store} {n : Nat} {d : D} {Q : D × Store → Prop} (hn : n = st.length) (hc : CL st) (hd : clo 0 d = true) (q : Q (d, st)) : W (exitR false n d st) Q :=
  exit_clo0 hn hc hd (fun m z => by subst z; exact absurd (of_decide_eq_true (show decide (m < 0) = true from hd)) (Nat.not_lt_zero m)) q
theorem atI_mem {xs : List D} {r : Int} (h0 : 0 ≤ r) (h1 : r < xs.length) : ∃ d ∈ xs, L2.atI xs r = some d := by
  obtain ⟨n, rfl⟩ := Int.eq_ofNat_of_zero_le h0
  have hn : n < xs.length := by omega
  exact ⟨xs[n], List.getElem_mem hn, (atI_of xs n).trans (List.getElem?_eq_getElem hn)⟩
theorem W_listRg2M {a b : EM} {env : Env} {st : Store} {Q : D × Store → Prop} : W (listRg2M false a b env st) Q ↔ W (a env st) fun p => W (b env p.2) fun q => INT p.1 fun i => INT q.1 fun j => (okR i && okR j && decide ((j - i).toNat ≤ bigN)) = true ∧ Q (.lst (rngL i j), q.2) := by
  unfold listRg2M
  rw [W_bind]
  constructor
  · refine fun h => h.mono fun ⟨x, s⟩ q => ?_
    rw [W_bind] at q
    refine q.mono fun ⟨y, s2⟩ q => ?_
    cases x <;> cases y <;> first | (obtain ⟨a', e', q⟩ := q; exact W_no e') | (obtain ⟨q1, q⟩ := W_when.mp q; exact ⟨q1, W_some.mp q⟩)
  · refine fun h => h.mono fun ⟨x, s⟩ q => ?_
    rw [W_bind]
    refine W.mono q fun ⟨y, s2⟩ q => ?_
    cases x <;> cases y <;> first | exact False.elim q | exact W_when.mpr ⟨q.1, W_some.mpr q.2⟩
/-- items made one by one, each of them R, the store's part st' moves by T -/
theorem lcL_all {tg : GM} {t : TM} {e : EM} {wenv : Env} {T : Store → Prop} {R : D → Prop} (step : ∀ d st, T st → W (tg d wenv st) fun p => W (t p.1 p.2) fun q => br q.1 (W (e p.1 q.2) fun x => R x.1 ∧ T x.2) (T q.2)) :
    ∀ (items : List D) (st : Store), T st → W (lcL (fun _ => true) tg t e wenv items st) fun q => q.1.length ≤ items.length ∧ (∀ d ∈ q.1, R d) ∧ T q.2
  | [], st, h => by
    unfold lcL
    rw [if_pos rfl]
    exact ⟨_, rfl, Nat.le_refl _, fun d hd => absurd hd (by simp), h⟩
  | d :: r, st, h => by
    obtain ⟨⟨e1, s1⟩, h2, ⟨b, s2⟩, h3, h4⟩ := step d st h
    unfold lcL
    rw [if_pos rfl, h2, Option.bind_some, h3, Option.bind_some]
    cases b with
    | false => exact (lcL_all step r s2 h4).mono fun q ⟨q1, q2⟩ => ⟨Nat.le_succ_of_le q1, q2⟩
    | true =>
      obtain ⟨⟨x, s3⟩, h5, h6, h7⟩ := h4
      dsimp only
      rw [if_pos rfl, h5, Option.bind_some, W_map]
      refine (lcL_all step r s3 h7).mono fun q ⟨q1, q2, q3⟩ => ⟨Nat.succ_le_succ q1, fun y hy => ?_, q3⟩
      rcases List.mem_cons.mp hy with rfl | hy
      · exact h6
      · exact q2 y hy
theorem rngL_len {i j : Int} : (rngL i j).length = (j - i).toNat := by
  unfold rngL
  rw [List.length_map, List.length_range]
theorem rngL_mem {i j : Int} {d : D} (h : d ∈ rngL i j) : ∃ k : Int, d = .int k ∧ i ≤ k ∧ k < j := by
  unfold rngL at h
  obtain ⟨n, hn, rfl⟩ := List.mem_map.mp h
  rw [List.mem_range] at hn
  exact ⟨i + n, rfl, by omega, by omega⟩
def RNG2 : List D → (Int → Int → Prop) → Prop := fun l k => match l with
  | [.int i, .int j] => k i j
  | _ => False
theorem RNG2_i {i j : Int} {k : Int → Int → Prop} : RNG2 [.int i, .int j] k ↔ k i j := Iff.rfl
theorem W_rng2I {as : AM} {env : Env} {st : Store} {Q : (List D × (Store → Bool)) × Store → Prop} : W (rng2I as env st) Q ↔ W (as env st) fun p => RNG2 p.1 fun i j => (okR i && okR j) = true ∧ Q ((rngL i j, fun _ => true), p.2) := by
  unfold rng2I
  rw [W_bind]
  constructor
  · refine fun h => h.mono fun ⟨l, s⟩ q => ?_
    dsimp only at q ⊢
    split at q
    · exact ⟨(W_when.mp q).1, W_some.mp (W_when.mp q).2⟩
    · exact (W_none.mp q).elim
  · refine fun h => h.mono fun ⟨l, s⟩ q => ?_
    unfold RNG2 at q
    dsimp only at q ⊢
    split at q
    · exact W_when.mpr ⟨q.1, W_some.mpr q.2⟩
    · exact False.elim q
theorem okR_small {i : Int} (h : i.natAbs < 1000000000) : okR i = true := by
  unfold okR
  simp only [Bool.and_eq_true, decide_eq_true_eq]
  omega
theorem br_d {p : Prop} [Decidable p] {x y : Prop} (h1 : p → x) (h2 : ¬ p → y) : br (decide p) x y := br_i (fun h => h1 (of_decide_eq_true h)) fun h => h2 (of_decide_eq_false h)
theorem br_e {a b : Int} {x y : Prop} (h1 : a = b → x) (h2 : a ≠ b → y) : br (a == b) x y := br_i (fun h => h1 (eq_of_beq h)) fun h => h2 (by simpa using h)
theorem br_en {a b : Nat} {x y : Prop} (h1 : a = b → x) (h2 : a ≠ b → y) : br (a == b) x y := br_i (fun h => h1 (eq_of_beq h)) fun h => h2 (by simpa using h)
theorem br_n {c : Bool} {x y : Prop} (h : br c y x) : br (!c) x y := by cases c <;> exact h
theorem W_lstAt_end {xs : List D} {st : Store} {Q : List D → Prop} : W (lstAt (st ++ [.lst xs]) st.length) Q ↔ Q xs := lstAt_at (by simp)
theorem W_apps {n : Nat} {d : D} {o : MObj} {st : Store} {Q : D × Store → Prop} : W (appendO (.ref (n + 1)) [d] (o :: st)) Q ↔ W (appendO (.ref n) [d] st) fun p => Q (p.1, o :: p.2) := by
  rw [W_append, W_append, W_lstAts]
  exact Iff.rfl
theorem W_app_end {d : D} {xs : List D} {st : Store} {Q : D × Store → Prop} : W (appendO (.ref st.length) [d] (st ++ [.lst xs])) Q ↔ xs.length < bigN ∧ Q (.non, st ++ [.lst (xs ++ [d])]) := by
  rw [W_append, W_lstAt_end]
  have e : (st ++ [MObj.lst xs]).set st.length (.lst (xs ++ [d])) = st ++ [.lst (xs ++ [d])] := by
    rw [List.set_append_right _ _ (Nat.le_refl _)]
    simp
  rw [e]
theorem cutL_last {xs : List D} {x : D} : cutL (xs ++ [x]) (some (-1)) none = [x] := by
  have h1 : HT.sIx (xs ++ [x]).length 0 (some (-1)) = xs.length := by
    unfold HT.sIx
    dsimp only
    rw [if_pos (by decide), List.length_append, List.length_singleton]
    omega
  have h2 : HT.sIx (xs ++ [x]).length (xs ++ [x]).length none = xs.length + 1 := by
    unfold HT.sIx
    simp
  unfold cutL
  rw [h1, h2]
  simp
theorem append_at {n : Nat} {d : D} {xs : List D} {st : Store} {Q : D × Store → Prop} (h : st[n]? = some (.lst xs)) : W (appendO (.ref n) [d] st) Q ↔ xs.length < bigN ∧ Q (.non, st.set n (.lst (xs ++ [d]))) := by
  rw [W_append, lstAt_at h]
/-! dicts at the end of the store -/
theorem set_end {st : Store} {x y : MObj} : (st ++ [x]).set st.length y = st ++ [y] := by
  rw [List.set_append_right _ _ (Nat.le_refl _)]
  simp
theorem W_setD_end {k : Nat} {d : D} {ks : List DK} {xs : List D} {st : Store} {Q : Store → Prop} : W (setO (.ref st.length) (.sym k) d (st ++ [.dct ks xs])) Q ↔ ks.length < bigN ∧ Q (st ++ [.dct (dput ks xs (.s k) d).1 (dput ks xs (.s k) d).2]) := by
  unfold setO
  dsimp only
  rw [show (st ++ [MObj.dct ks xs])[st.length]? = some (.dct ks xs) by simp]
  simp only [dkOf, W_when, W_some, set_end]
def DGI (ks : List DK) (xs : List D) (j : DK) (k : Bool → Prop) : Prop := k (dget ks xs j).isSome
theorem DGI_hit {k : DK} {ks : List DK} {x : D} {xs : List D} {q : Bool → Prop} : DGI (k :: ks) (x :: xs) k q ↔ q true := by
  unfold DGI
  rw [show dget (k :: ks) (x :: xs) k = some x from if_pos rfl]
  exact Iff.rfl
theorem DGI_miss {a b : Nat} {ks : List DK} {x : D} {xs : List D} {q : Bool → Prop} (h : a ≠ b) : DGI (.s a :: ks) (x :: xs) (.s b) q ↔ DGI ks xs (.s b) q := by
  unfold DGI
  rw [show dget (.s a :: ks) (x :: xs) (.s b) = dget ks xs (.s b) from if_neg (fun z => h (DK.s.inj z))]
theorem DGI_nil {j : DK} {q : Bool → Prop} : DGI [] [] j q ↔ q false := Iff.rfl
theorem W_memD_end {B : Tb} {k : Nat} {ks : List DK} {xs : List D} {st : Store} {Q : D × Store → Prop} : W (memO B (.sym k) (.ref st.length) (st ++ [.dct ks xs])) Q ↔ DGI ks xs (.s k) fun b => Q (.bl b, st ++ [.dct ks xs]) := by
  have e : memO B (.sym k) (.ref st.length) (st ++ [.dct ks xs]) = some (.bl (dget ks xs (.s k)).isSome, st ++ [.dct ks xs]) := by
    unfold memO memB
    simp only [dctOf, dkOf]
    rw [show (st ++ [MObj.dct ks xs])[st.length]? = some (.dct ks xs) by simp]
    rfl
  rw [e]
  exact W_some
theorem W_itD_end {B : Tb} {k : Nat} {ks : List DK} {xs : List D} {st : Store} {Q : D × Store → Prop} : W (itemO B (.ref st.length) (.sym k) (st ++ [.dct ks xs])) Q ↔ W (dget ks xs (.s k)) fun d => Q (d, st ++ [.dct ks xs]) := by
  unfold itemO ixO
  simp only [seqOf, lstOf, dctOf, dkOf]
  rw [show (st ++ [MObj.dct ks xs])[st.length]? = some (.dct ks xs) by simp]
  exact W_map
/-- k in a written list, name by name -/
def MEMD (a : Nat) (xs : List D) (k : Bool → Prop) : Prop := k (xs.any fun z => eqv z (.sym a))
theorem MEMD_nil {a : Nat} {k : Bool → Prop} : MEMD a [] k ↔ k false := Iff.rfl
theorem MEMD_hit {a : Nat} {l : List D} {k : Bool → Prop} : MEMD a (.sym a :: l) k ↔ k true := by
  unfold MEMD
  rw [List.any_cons, eqv_sym, beq_self_eq_true, Bool.true_or]
theorem MEMD_miss {a b : Nat} {l : List D} {k : Bool → Prop} (h : b ≠ a) : MEMD a (.sym b :: l) k ↔ MEMD a l k := by
  unfold MEMD
  rw [List.any_cons, eqv_sym, beq_eq_false_iff_ne.mpr h, Bool.false_or]
theorem W_memLd {B : Tb} {a : Nat} {xs : List D} {st : Store} {Q : D × Store → Prop} (h : xs.all isSymD = true) : W (memO B (.sym a) (.lst xs) st) Q ↔ MEMD a xs fun b => Q (.bl b, st) := W_memL' h
theorem W_notMemLd {B : Tb} {a : Nat} {xs : List D} {st : Store} {Q : D × Store → Prop} (h : xs.all isSymD = true) : W (notMemO B (.sym a) (.lst xs) st) Q ↔ MEMD a xs fun b => Q (.bl (!b), st) := W_notMemL' h
end Mn
set_option Elab.async false
set_option linter.all false
set_option maxRecDepth 100000
set_option maxHeartbeats 4000000
set_option autoImplicit false
/-! Mn, part O: what the head must tell. -/
namespace Mn
open PySem PySem.Spec PyProof.Rows L2 He
/-! ### constants of the module -/
mutual
def repB (K : PySem.W.Frag) (T : List Str) (C : List V) : D → Value → Bool
  | .non, .none => true
  | .bl b, .bool c => b == c
  | .int i, .int j _ => decide (i = j)
  | .sym k, .str y _ => decide (T[k]? = some y)
  | .tup xs, .ref a => (match K.lookup a with
    | some ⟨.type c, _, .seq its _, _⟩ => decide (c = "tuple") && (decide (its.size ≤ sizeLine) && repBs K T C xs its.toList)
    | _ => false)
  | .con k, .ref a => (match C[k]? with
    | some (.ref c) => decide (c = a)
    | _ => false)
  | _, _ => false
def repBs (K : PySem.W.Frag) (T : List Str) (C : List V) : List D → List Value → Bool
  | [], [] => true
  | d :: ds, u :: us => repB K T C d u && repBs K T C ds us
  | _, _ => false
end
section
variable {K : PySem.W.Frag} {B : Tb}
mutual
theorem repB_ok : ∀ (d : D) (u : Value), repB K B.T B.C d u = true → ∃ v, RelV v u ∧ ∀ ρ H, RV K B ρ H d v
  | .non, u, h => by cases u <;> first | exact ⟨.non, rfl, fun _ _ => rfl⟩ | cases h
  | .bl b, u, h => by
    cases u with
    | bool c => exact ⟨.bl b, by rw [eq_of_beq (show (b == c) = true from h)]; rfl, fun _ _ => rfl⟩
    | _ => cases h
  | .int i, u, h => by
    cases u with
    | int j t => exact ⟨.int i, ⟨t, by rw [of_decide_eq_true (show decide (i = j) = true from h)]⟩, fun _ _ => rfl⟩
    | _ => cases h
  | .sym k, u, h => by
    cases u with
    | str y t => exact ⟨.str y, ⟨t, rfl⟩, fun _ _ => ⟨y, of_decide_eq_true (show decide (B.T[k]? = some y) = true from h), rfl⟩⟩
    | _ => cases h
  | .tup xs, u, h => by
    cases u with
    | ref a =>
      have h : (match K.lookup a with
        | some ⟨.type c, _, .seq its _, _⟩ => decide (c = "tuple") && (decide (its.size ≤ sizeLine) && repBs K B.T B.C xs its.toList)
        | _ => false) = true := h
      split at h
      · rename_i c _ its n _ e
        obtain ⟨h1, h2⟩ := ba h
        obtain ⟨h3, h4⟩ := ba h2
        obtain ⟨vs, r, q⟩ := repBs_ok xs its.toList h4
        exact ⟨.ref a, rfl, fun ρ H => ⟨a, vs, rfl, .inr ⟨_, its, n, e, congrArg Value.type (of_decide_eq_true h1), rfl, of_decide_eq_true h3, r⟩, q ρ H⟩⟩
      · cases h
    | _ => cases h
  | .con k, u, h => by
    cases u with
    | ref a =>
      have h : (match B.C[k]? with
        | some (.ref c) => decide (c = a)
        | _ => false) = true := h
      split at h
      · rename_i c e
        have := of_decide_eq_true h
        subst this
        exact ⟨.ref c, rfl, fun _ _ => e⟩
      · cases h
    | _ => cases h
  | .lst _, u, h => by cases u <;> cases h
  | .fro _, u, h => by cases u <;> cases h
  | .dct _ _, u, h => by cases u <;> cases h
  | .ref _, u, h => by cases u <;> cases h
  | .ty _, u, h => by cases u <;> cases h
theorem repBs_ok : ∀ (ds : List D) (us : List Value), repBs K B.T B.C ds us = true → ∃ vs, Vals vs us ∧ ∀ ρ H, RVs K B ρ H ds vs
  | [], [], _ => ⟨[], .nil, fun _ _ => rfl⟩
  | [], _ :: _, h => by cases h
  | _ :: _, [], h => by cases h
  | d :: ds, u :: us, h => by
    obtain ⟨h1, h2⟩ := ba (show (repB K B.T B.C d u && repBs K B.T B.C ds us) = true from h)
    obtain ⟨v, r1, q1⟩ := repB_ok d u h1
    obtain ⟨vs, r2, q2⟩ := repBs_ok ds us h2
    exact ⟨v :: vs, .cons r1 r2, fun ρ H => ⟨v, vs, rfl, q1 ρ H, q2 ρ H⟩⟩
end
end
def conB (K : PySem.W.Frag) (T : List Str) (C : List V) (a : Addr) (kvs : List (Nat × D)) : Bool := (List.range T.length).all fun j => match T[j]? with
  | some s => (match kvs.lookup j with
    | some dv => (match PySem.W.nsIn K a s with
      | some (some u) => repB K T C dv u
      | _ => false)
    | none => (match PySem.W.nsIn K a s with
      | some none => true
      | _ => false))
  | none => true
theorem conB_ok {K : PySem.W.Frag} {B : Tb} {a : Addr} {kvs : List (Nat × D)} (h : conB K B.T B.C a kvs = true) (j : Nat) (s : Str) (e : B.T[j]? = some s) :
    match kvs.lookup j with
    | some dv => ∃ u v, PySem.W.nsIn K a s = some (some u) ∧ RelV v u ∧ ∀ ρ H, RV K B ρ H dv v
    | none => PySem.W.nsIn K a s = some none := by
  have hj : j < B.T.length := (List.getElem?_eq_some_iff.mp e).1
  have h := List.all_eq_true.mp h j (List.mem_range.mpr hj)
  rw [e] at h
  dsimp only at h
  cases q : kvs.lookup j with
  | some dv =>
    rw [q] at h
    dsimp only at h ⊢
    split at h
    · rename_i u e2
      obtain ⟨v, r, rr⟩ := repB_ok dv u h
      exact ⟨u, v, e2, r, rr⟩
    · cases h
  | none =>
    rw [q] at h
    dsimp only at h ⊢
    split at h
    · rename_i e2
      exact e2
    · cases h
/-- what is asked of the module's constants -/
def ckM (T : List Str) (Cs : PySem.W.Frag → List V) (glc : List (Str × D)) (cds : List ((PySem.W.Frag → Addr) × List (Nat × D))) (K : PySem.W.Frag) : Bool :=
  (glc.all fun q => match PySem.W.nsIn K mainGlobals q.1 with
    | some (some u) => repB K T (Cs K) q.2 u
    | _ => false) && cds.all fun q => conB K T (Cs K) (q.1 K) q.2
/-! ### the Hook -/
abbrev AlM : Type := AlT × Bool
def obsM (fa : List Fa) (fn : List DefD) (ts : List Tab) (ck : PySem.W.Frag → Bool) (K : PySem.W.Frag) : AlM := (obsT fa fn ts K, ck K)
def valM (fn : List DefD) (ts : List Tab) (w : World) : AlM := (valT fn ts w, true)
def obsMG (n : Nat) (fa : List Fa) (fn : List DefD) (ts : List Tab) (ck : PySem.W.Frag → Bool) (g : Addr → Option Obj) : AlM := obsM fa fn ts ck (frG g (asD g n))
def SaysM (fa : List Fa) (fn : List DefD) (ts : List Tab) (ck : PySem.W.Frag → Bool) (w : World) (K : PySem.W.Frag) : Prop := obsM fa fn ts ck K = valM fn ts w
def hookM (n : Nat) (fa : List Fa) (fn : List DefD) (ts : List Tab) (ck : PySem.W.Frag → Bool) : PySem.W.Hook where
  α := AlM
  obs := fun s => obsMG n fa fn ts ck s.heap.get?
  val := fun w => valM fn ts w
  says := fun w h => ∃ K : PySem.W.Frag, K.In h ∧ SaysM fa fn ts ck w K
  of := fun _ _ e => ⟨_, frG_in, e⟩
  keeps := fun _ _ _ ⟨K, hK, c⟩ k => ⟨K, PySem.W.Frag.In.keeps hK k, c⟩
theorem obsMG_eq {n : Nat} {fa : List Fa} {fn : List DefD} {ts : List Tab} {ck : PySem.W.Frag → Bool} {g : Addr → Option Obj} {s : Shared} (h : ∀ a, g a = s.heap.get? a) : obsMG n fa fn ts ck g = (hookM n fa fn ts ck).obs s := by
  have e : g = s.heap.get? := funext h
  rw [e] <;> rfl
section
variable {fa : List Fa} {fn : List DefD} {ts : List Tab} {ck : PySem.W.Frag → Bool} {w : World} {K : PySem.W.Frag}
theorem SaysM.t (c : SaysM fa fn ts ck w K) : SaysT fa fn ts w K := congrArg (fun z : AlM => z.1) c
theorem SaysM.k (c : SaysM fa fn ts ck w K) : ck K = true := congrArg (fun z : AlM => z.2) c
end
/-! ### what the globals are -/
def FnGood (P : Pg) (K : PySem.W.Frag) (mg : Str → Option Value) (x : Str) (j np : Nat) (dd : List D) (kn : Option Str) : Prop :=
  ∃ f fd ps dvs dus, mg x = some (.ref f) ∧ PySem.W.keepIn K (.ref f) = true ∧ FnAt K P j np f fd ps ∧ Binds K fd ps dus ∧ Vals dvs dus ∧ (∀ ρ H, RVs K P.B ρ H dd dvs) ∧
    ∀ kx, kn = some kx → KBn K fd ps (np - 1) [kx] (fun us ws => us ++ ws) (fun vs zs => vs ++ zs)
def Good (P : Pg) (K : PySem.W.Frag) (mg : Str → Option Value) (x : Str) : GV → Prop
  | .fn j np dd kn => FnGood P K mg x j np dd kn
  | .const d => ∃ u v, mg x = some u ∧ RelV v u ∧ ∀ ρ H, RV K P.B ρ H d v
  | .blt => mg x = none
def GoodAll (P : Pg) (K : PySem.W.Frag) (mg : Str → Option Value) : List (Str × GV) → Prop
  | [] => True
  | q :: r => Good P K mg q.1 q.2 ∧ GoodAll P K mg r
theorem GoodAll.at_ {P : Pg} {K : PySem.W.Frag} {mg : Str → Option Value} : ∀ {l : List (Str × GV)}, GoodAll P K mg l → ∀ {x : Str} {g : GV}, l.lookup x = some g → Good P K mg x g
  | [], _, _, _, e => by cases e
  | q :: r, h, x, g, e => by
    obtain ⟨h1, h2⟩ := h
    rw [List.lookup_cons] at e
    split at e
    · rename_i hx
      cases e
      rw [eq_of_beq hx]
      exact h1
    · exact h2.at_ e
theorem glOk_of {P : Pg} {w : World} {K : PySem.W.Frag} {mg : Str → Option Value} (h : GoodAll P K mg P.gl) (b : P.B.Ok) (con : ∀ (k : Nat) (kvs : List (Nat × D)), P.B.CD[k]? = some kvs → ∃ (d : Addr) (es : Array DictEntry) (n : Nat), P.B.C[k]? = some (V.ref d) ∧ KDict K w d es n ∧ conB K P.B.T P.B.C d kvs = true) : GlOk P w K mg where
  b := b
  con := fun k kvs e => by
    obtain ⟨d, es, n, h1, h2, h3⟩ := con k kvs e
    exact ⟨d, es, n, h1, h2, conB_ok h3⟩
  blt := fun x e => h.at_ e
  const := fun x d e => h.at_ e
  fn := fun x j np dd kn e => h.at_ e
/-- a constant -/
theorem const_good {P : Pg} {K : PySem.W.Frag} {mg : Str → Option Value} {h : Heap} {x : Str} {d : D} (X : K.In h) (G : h.Ns mainGlobals mg) (e : (match PySem.W.nsIn K mainGlobals x with
    | some (some u) => repB K P.B.T P.B.C d u
    | _ => false) = true) : Good P K mg x (.const d) := by
  split at e
  · rename_i u q
    obtain ⟨v, r, rr⟩ := repB_ok d u e
    exact ⟨u, v, PySem.W.mg_of X G q, r, rr⟩
  · cases e
/-- the names of a def -/
def fnScopeB (N P : List Str) (sc : Scope) : Bool :=
  decide (sc.kind = .function) && (!sc.isCoroutine && (!sc.isGenerator && (decide N.Nodup && (decide (N.take P.length = P) && (P.all (fun x => isOwn (sc.names.lookup x)) && sc.names.all fun y => decide (y.2 ≠ .free))))))
theorem fnScope_ok {N P : List Str} {sc : Scope} (h : fnScopeB N P sc = true) : FnScope N P sc := by
  unfold fnScopeB at h
  simp only [Bool.and_eq_true, decide_eq_true_eq, Bool.not_eq_true', List.all_eq_true] at h
  obtain ⟨h1, h2, h3, h4, h5, h6, h7⟩ := h
  refine ⟨h1, h2, h3, h4, h5, fun x hx => ?_, h7⟩
  have := h6 x hx
  cases e : sc.names.lookup x with
  | none => rw [e] at this; cases this
  | some k => rw [e] at this; cases k with
    | «local» => exact .inl rfl
    | cell => exact .inr rfl
    | _ => cases this
theorem fn_good {P : Pg} {K : PySem.W.Frag} {mg : Str → Option Value} {h : Heap} {x : Str} {j np : Nat} {t : FnT} {params : Arguments} {ps : List Str} {dd : List D} {dvs : List V} {kws : List (Str × V)} {fd : FuncData} {kn : Option Str} (X : K.In h) (G : h.Ns mainGlobals mg) (hg : (Fa.glo x).ok K = true)
    (F : FunD K x x params t.body t.sc [] kws (fAd K (x, none)) fd) (ht : P.fns[j]? = some t) (hl : ps.length = np) (hs : fnScopeB t.N ps t.sc = true) (hb : ∃ dus, Vals dvs dus ∧ Binds K fd ps dus) (hd : ∀ ρ H, RVs K P.B ρ H dd dvs) (hk : ∀ kx, kn = some kx → KBn K fd ps (np - 1) [kx] (fun us ws => us ++ ws) (fun vs zs => vs ++ zs)) : FnGood P K mg x j np dd kn := by
  obtain ⟨dus, hv, hb⟩ := hb
  refine ⟨_, fd, ps, dvs, dus, glo_ok X G hg, F.kp, ⟨hl, t, ht, fnScope_ok hs, ?_⟩, hb, hv, hd, hk⟩
  obtain ⟨oc, od, dV, kV, doc, pm, an, cdv, ct, osl, e, lk, hcd, _, _⟩ := F.ex
  exact ⟨x, x, params, oc, od, dV, kV, doc, pm, an, cdv, ct, osl, e, lk, hcd⟩
end Mn
set_option Elab.async false
set_option linter.all false
set_option maxRecDepth 100000
set_option maxHeartbeats 0
set_option autoImplicit false
namespace H82
open PySem PySem.Spec PyProof.Rows L2 Mn
abbrev PW : Program := PySem.Challenge.pw_lockfree_k82_code_steps_quiet_bounds
def dAt (i : Nat) : Stmt := PW.main.body.getD i (.Pass ⟨0, 0, 0, 0⟩)
def bodyOf : Stmt → List Stmt
  | .FunctionDef (body := b) .. => b
  | _ => []
def scopeOf : Stmt → Scope
  | .FunctionDef (scope := b) .. => b
  | _ => PW.main.scope
def defC (call : Nat → CM) (j np : Nat) (dd : List D) : CM := fun ds st => if (ds ++ dd).length = np then call j (ds ++ dd) st else none
def T : List Str := [(Str.ofString "lockfree.coding"), (Str.ofString "lockfree.sources"), (Str.ofString "lockfree.bounds"), (Str.ofString "law_lockfree_k82_code_steps_quiet_bounds"), (Str.ofString "set"), (Str.ofString "put"), (Str.ofString "copy_pair"), (Str.ofString "linked_stack"), (Str.ofString "linked_queue"), (Str.ofString "unless"), (Str.ofString "jump"), (Str.ofString "structure"), (Str.ofString "hazards"), (Str.ofString "epochs"), (Str.ofString "fetch_counter"), (Str.ofString "plain_cell"), (Str.ofString "ring"), (Str.ofString "striped_tally"), (Str.ofString "retry_counter"), (Str.ofString "versioned_snapshot"), (Str.ofString "stealing_deque"), (Str.ofString "cell"), (Str.ofString "hold"), (Str.ofString "return"), (Str.ofString "store"), (Str.ofString "call"), (Str.ofString "new"), (Str.ofString "load"), (Str.ofString "swap"), (Str.ofString "cas"), (Str.ofString "fence"), (Str.ofString "pass"), (Str.ofString "check"), (Str.ofString "program"), (Str.ofString "fields"), (Str.ofString "names"), (Str.ofString "table"), (Str.ofString "counter"), (Str.ofString "tally"), (Str.ofString "pair"), (Str.ofString "lock"), (Str.ofString "queue"), (Str.ofString "stack"), (Str.ofString "deque"), (Str.ofString "snapshot"), (Str.ofString "shared"), (Str.ofString "privates"), (Str.ofString "slots"), (Str.ofString "calls"), (Str.ofString "keep"), (Str.ofString "spin_lock"), (Str.ofString "ticket_lock"), (Str.ofString "sequence_pair"), (Str.ofString "if"), (Str.ofString "self"), (Str.ofString "own"), (Str.ofString "mod"), (Str.ofString "+"), (Str.ofString "-"), (Str.ofString "="), (Str.ofString "<"), (Str.ofString "and"), (Str.ofString "or"), (Str.ofString "field"), (Str.ofString "enter"), (Str.ofString "leave"), (Str.ofString "free"), (Str.ofString "retire"), (Str.ofString "loop"), (Str.ofString "read"), (Str.ofString "write"), (Str.ofString "acquire"), (Str.ofString "attempt"), (Str.ofString "release"), (Str.ofString "get"), (Str.ofString "push"), (Str.ofString "pop"), (Str.ofString "steal"), (Str.ofString "add"), (Str.ofString "remove"), (Str.ofString "has"), (Str.ofString "scan"), (Str.ofString "a"), (Str.ofString "v"), (Str.ofString "x"), (Str.ofString "y"), (Str.ofString "two_lock_queue"), (Str.ofString "sorted_set"), (Str.ofString "not"), (Str.ofString "mark"), (Str.ofString "bare"), (Str.ofString "marked"), (Str.ofString "next"), (Str.ofString "bump"), (Str.ofString "take"), (Str.ofString "give"), (Str.ofString "go_2"), (Str.ofString "key"), (Str.ofString "link"), (Str.ofString "go"), (Str.ofString "look"), (Str.ofString "break"), (Str.ofString "p"), (Str.ofString "at once"), (Str.ofString "grace")]
abbrev gc_LOCAL : D := .tup [.sym 4, .sym 5]
abbrev gc_OPERATIONS : D := .int (8)
abbrev gc_NO_BOUND : D := .int (-1)
abbrev gc_SLOTS : D := .con 0
abbrev gc_KEEP_COSTS : D := .tup [.int (1), .int (1), .int (1), .int (1)]
def CD : List (List (Nat × D)) := [[(6, .int (1)), (7, .int (1)), (8, .int (2))]]
abbrev j_add_body : Nat := 0
abbrev j_add_choice : Nat := 1
abbrev j_add_loop : Nat := 2
abbrev j_translated : Nat := 3
abbrev j_is_local_instruction : Nat := 4
abbrev j_ways : Nat := 5
abbrev j_is_structure : Nat := 6
abbrev j_step_count : Nat := 7
abbrev j_longest_way : Nat := 8
abbrev j_code_steps : Nat := 9
abbrev j_costs_of : Nat := 10
abbrev j_plain_bound : Nat := 11
abbrev j_quiet_bound : Nat := 12
abbrev j__law_tape : Nat := 13
abbrev j__law_draw : Nat := 14
abbrev j__law_pick : Nat := 15
abbrev j__law_turns : Nat := 16
abbrev j__law_shuffled : Nat := 17
abbrev j__law_same : Nat := 18
abbrev j__law_all_words : Nat := 19
abbrev j__law_word : Nat := 20
abbrev j__law_value : Nat := 21
abbrev j__law_size : Nat := 22
abbrev j__law_term_of : Nat := 23
abbrev j__law_small : Nat := 24
abbrev j__law_location : Nat := 25
abbrev j__law_step_of : Nat := 26
abbrev j__law_step : Nat := 27
abbrev j__law_local : Nat := 28
abbrev j__law_many : Nat := 29
abbrev j__law_body : Nat := 30
abbrev j__law_m_long : Nat := 31
abbrev j__law_m_code : Nat := 32
abbrev j__law_k_operations : Nat := 33
abbrev j__law_k_some_kind : Nat := 34
abbrev j__law_k_some_table : Nat := 35
abbrev j__law_e_object : Nat := 36
abbrev j__law_e_ways : Nat := 37
abbrev j__law_e_code_steps : Nat := 38
abbrev j__law_e_quiet : Nat := 39
abbrev j__law_e_named : Nat := 40
abbrev j__law_k82_due : Nat := 41
abbrev j__law_k82_steps : Nat := 42
abbrev j__law_k82_asked : Nat := 43
abbrev j__law_k82_bounds : Nat := 44
abbrev j_law : Nat := 45
def t_add_body : FnT := ⟨3, [(Str.ofString "code"), (Str.ofString "body"), (Str.ofString "breaks"), (Str.ofString "statement")], bodyOf (dAt 2), scopeOf (dAt 2), [], false⟩
def t_add_choice : FnT := ⟨3, [(Str.ofString "code"), (Str.ofString "statement"), (Str.ofString "breaks"), (Str.ofString "test"), (Str.ofString "over")], bodyOf (dAt 3), scopeOf (dAt 3), [], false⟩
def t_add_loop : FnT := ⟨2, [(Str.ofString "code"), (Str.ofString "body"), (Str.ofString "first"), (Str.ofString "breaks"), (Str.ofString "place")], bodyOf (dAt 4), scopeOf (dAt 4), [⟨28, 13, 28, 15⟩], false⟩
def t_translated : FnT := ⟨1, [(Str.ofString "body"), (Str.ofString "code")], bodyOf (dAt 5), scopeOf (dAt 5), [⟨34, 11, 34, 13⟩, ⟨35, 25, 35, 27⟩], false⟩
def t_is_local_instruction : FnT := ⟨1, [(Str.ofString "instruction")], bodyOf (dAt 6), scopeOf (dAt 6), [], false⟩
def t_ways : FnT := ⟨2, [(Str.ofString "code"), (Str.ofString "place")], bodyOf (dAt 7), scopeOf (dAt 7), [], false⟩
def t_is_structure : FnT := ⟨1, [(Str.ofString "how")], bodyOf (dAt 10), scopeOf (dAt 10), [], false⟩
def t_step_count : FnT := ⟨1, [(Str.ofString "instruction")], bodyOf (dAt 15), scopeOf (dAt 15), [], false⟩
def t_longest_way : FnT := ⟨1, [(Str.ofString "code"), (Str.ofString "most"), (Str.ofString "changed"), (Str.ofString "place"), (Str.ofString "behind"), (Str.ofString "instruction"), (Str.ofString "way")], bodyOf (dAt 16), scopeOf (dAt 16), [⟨60, 11, 60, 51⟩], false⟩
def t_code_steps : FnT := ⟨2, [(Str.ofString "how"), (Str.ofString "word"), (Str.ofString "bodies"), (Str.ofString "operation")], bodyOf (dAt 17), scopeOf (dAt 17), [], false⟩
def t_costs_of : FnT := ⟨4, [(Str.ofString "reclaimer"), (Str.ofString "threads"), (Str.ofString "slots"), (Str.ofString "room")], bodyOf (dAt 18), scopeOf (dAt 18), [], false⟩
def t_plain_bound : FnT := ⟨3, [(Str.ofString "name"), (Str.ofString "number"), (Str.ofString "threads")], bodyOf (dAt 19), scopeOf (dAt 19), [], false⟩
def t_quiet_bound : FnT := ⟨4, [(Str.ofString "name"), (Str.ofString "number"), (Str.ofString "threads"), (Str.ofString "reclaimer"), (Str.ofString "costs"), (Str.ofString "enter"), (Str.ofString "hold"), (Str.ofString "leave"), (Str.ofString "retire")], bodyOf (dAt 20), scopeOf (dAt 20), [], false⟩
def t__law_tape : FnT := ⟨1, [(Str.ofString "script"), (Str.ofString "mixed"), (Str.ofString "cell")], bodyOf (dAt 22), scopeOf (dAt 22), [⟨116, 11, 116, 38⟩], true⟩
def t__law_draw : FnT := ⟨2, [(Str.ofString "tape"), (Str.ofString "count"), (Str.ofString "number"), (Str.ofString "place")], bodyOf (dAt 23), scopeOf (dAt 23), [], false⟩
def t__law_pick : FnT := ⟨2, [(Str.ofString "tape"), (Str.ofString "menu")], bodyOf (dAt 24), scopeOf (dAt 24), [], false⟩
def t__law_turns : FnT := ⟨2, [(Str.ofString "tape"), (Str.ofString "count"), (Str.ofString "held"), (Str.ofString "turns"), (Str.ofString "k")], bodyOf (dAt 25), scopeOf (dAt 25), [⟨138, 11, 138, 29⟩, ⟨139, 12, 139, 14⟩], false⟩
def t__law_shuffled : FnT := ⟨2, [(Str.ofString "tape"), (Str.ofString "menu"), (Str.ofString "held"), (Str.ofString "turned"), (Str.ofString "k")], bodyOf (dAt 26), scopeOf (dAt 26), [⟨144, 11, 144, 21⟩, ⟨145, 13, 145, 15⟩], false⟩
def t__law_same : FnT := ⟨2, [(Str.ofString "told"), (Str.ofString "wanted"), (Str.ofString "k")], bodyOf (dAt 27), scopeOf (dAt 27), [], false⟩
def t__law_all_words : FnT := ⟨0, [], bodyOf (dAt 28), scopeOf (dAt 28), [], false⟩
def t__law_word : FnT := ⟨1, [(Str.ofString "tape"), (Str.ofString "choice")], bodyOf (dAt 29), scopeOf (dAt 29), [], false⟩
def t__law_value : FnT := ⟨1, [(Str.ofString "tape"), (Str.ofString "choice")], bodyOf (dAt 30), scopeOf (dAt 30), [], false⟩
def t__law_size : FnT := ⟨1, [(Str.ofString "term"), (Str.ofString "size"), (Str.ofString "k")], bodyOf (dAt 31), scopeOf (dAt 31), [], false⟩
def t__law_term_of : FnT := ⟨5, [(Str.ofString "tape"), (Str.ofString "deep"), (Str.ofString "most"), (Str.ofString "names"), (Str.ofString "privates"), (Str.ofString "choice"), (Str.ofString "sign"), (Str.ofString "left")], bodyOf (dAt 32), scopeOf (dAt 32), [], false⟩
def t__law_small : FnT := ⟨2, [(Str.ofString "tape"), (Str.ofString "scope"), (Str.ofString "deep")], bodyOf (dAt 33), scopeOf (dAt 33), [], false⟩
def t__law_location : FnT := ⟨2, [(Str.ofString "tape"), (Str.ofString "scope"), (Str.ofString "name")], bodyOf (dAt 34), scopeOf (dAt 34), [], false⟩
def t__law_step_of : FnT := ⟨3, [(Str.ofString "tape"), (Str.ofString "scope"), (Str.ofString "word"), (Str.ofString "name"), (Str.ofString "location"), (Str.ofString "term"), (Str.ofString "names"), (Str.ofString "o"), (Str.ofString "verb"), (Str.ofString "count"), (Str.ofString "k"), (Str.ofString "field")], bodyOf (dAt 35), scopeOf (dAt 35), [], false⟩
def t__law_step : FnT := ⟨2, [(Str.ofString "tape"), (Str.ofString "scope"), (Str.ofString "words"), (Str.ofString "located")], bodyOf (dAt 36), scopeOf (dAt 36), [], false⟩
def t__law_local : FnT := ⟨2, [(Str.ofString "tape"), (Str.ofString "scope"), (Str.ofString "name"), (Str.ofString "at")], bodyOf (dAt 37), scopeOf (dAt 37), [], false⟩
def t__law_many : FnT := ⟨1, [(Str.ofString "body"), (Str.ofString "count"), (Str.ofString "statement")], bodyOf (dAt 38), scopeOf (dAt 38), [], false⟩
def t__law_body : FnT := ⟨5, [(Str.ofString "tape"), (Str.ofString "deep"), (Str.ofString "count"), (Str.ofString "scope"), (Str.ofString "looped"), (Str.ofString "body"), (Str.ofString "left"), (Str.ofString "k"), (Str.ofString "choice"), (Str.ofString "term"), (Str.ofString "yes"), (Str.ofString "no"), (Str.ofString "begin")], bodyOf (dAt 39), scopeOf (dAt 39), [⟨288, 11, 288, 13⟩], false⟩
def t__law_m_long : FnT := ⟨1, [(Str.ofString "body"), (Str.ofString "count"), (Str.ofString "row")], bodyOf (dAt 40), scopeOf (dAt 40), [], false⟩
def t__law_m_code : FnT := ⟨3, [(Str.ofString "body"), (Str.ofString "at"), (Str.ofString "out"), (Str.ofString "code"), (Str.ofString "row"), (Str.ofString "here"), (Str.ofString "other")], bodyOf (dAt 41), scopeOf (dAt 41), [], false⟩
def t__law_k_operations : FnT := ⟨1, [(Str.ofString "kind"), (Str.ofString "rows"), (Str.ofString "told"), (Str.ofString "row")], bodyOf (dAt 42), scopeOf (dAt 42), [⟨334, 11, 334, 124⟩, ⟨329, 15, 329, 17⟩], false⟩
def t__law_k_some_kind : FnT := ⟨1, [(Str.ofString "tape"), (Str.ofString "name")], bodyOf (dAt 43), scopeOf (dAt 43), [], false⟩
def t__law_k_some_table : FnT := ⟨1, [(Str.ofString "tape"), (Str.ofString "words"), (Str.ofString "counts"), (Str.ofString "count"), (Str.ofString "heads"), (Str.ofString "rows"), (Str.ofString "k"), (Str.ofString "w"), (Str.ofString "passed"), (Str.ofString "head"), (Str.ofString "word"), (Str.ofString "results"), (Str.ofString "j")], bodyOf (dAt 44), scopeOf (dAt 44), [⟨360, 12, 360, 14⟩, ⟨361, 11, 361, 13⟩], false⟩
def t__law_e_object : FnT := ⟨2, [(Str.ofString "tape"), (Str.ofString "count"), (Str.ofString "parts"), (Str.ofString "each"), (Str.ofString "scope"), (Str.ofString "rows"), (Str.ofString "word"), (Str.ofString "own"), (Str.ofString "size"), (Str.ofString "name")], bodyOf (dAt 45), scopeOf (dAt 45), [], false⟩
def t__law_e_ways : FnT := ⟨2, [(Str.ofString "code"), (Str.ofString "place"), (Str.ofString "row")], bodyOf (dAt 46), scopeOf (dAt 46), [], false⟩
def t__law_e_code_steps : FnT := ⟨1, [(Str.ofString "code"), (Str.ofString "most"), (Str.ofString "k"), (Str.ofString "place"), (Str.ofString "still"), (Str.ofString "high"), (Str.ofString "here"), (Str.ofString "way")], bodyOf (dAt 47), scopeOf (dAt 47), [⟨389, 11, 389, 33⟩], false⟩
def t__law_e_quiet : FnT := ⟨4, [(Str.ofString "name"), (Str.ofString "number"), (Str.ofString "n"), (Str.ofString "tool"), (Str.ofString "plain"), (Str.ofString "word"), (Str.ofString "each"), (Str.ofString "e"), (Str.ofString "h"), (Str.ofString "l"), (Str.ofString "r")], bodyOf (dAt 48), scopeOf (dAt 48), [⟨404, 12, 404, 150⟩], false⟩
def t__law_e_named : FnT := ⟨1, [(Str.ofString "tape"), (Str.ofString "names"), (Str.ofString "number"), (Str.ofString "name"), (Str.ofString "n"), (Str.ofString "tool"), (Str.ofString "each"), (Str.ofString "k")], bodyOf (dAt 49), scopeOf (dAt 49), [], false⟩
def t__law_k82_due : FnT := ⟨2, [(Str.ofString "how"), (Str.ofString "word"), (Str.ofString "row")], bodyOf (dAt 50), scopeOf (dAt 50), [], false⟩
def t__law_k82_steps : FnT := ⟨1, [(Str.ofString "tape"), (Str.ofString "how"), (Str.ofString "at"), (Str.ofString "other"), (Str.ofString "kind"), (Str.ofString "askings"), (Str.ofString "word"), (Str.ofString "count"), (Str.ofString "names"), (Str.ofString "body"), (Str.ofString "row")], bodyOf (dAt 51), scopeOf (dAt 51), [], false⟩
def t__law_k82_asked : FnT := ⟨4, [(Str.ofString "name"), (Str.ofString "number"), (Str.ofString "n"), (Str.ofString "tool"), (Str.ofString "due")], bodyOf (dAt 52), scopeOf (dAt 52), [], false⟩
def t__law_k82_bounds : FnT := ⟨1, [(Str.ofString "tape"), (Str.ofString "near"), (Str.ofString "first"), (Str.ofString "second"), (Str.ofString "name"), (Str.ofString "number"), (Str.ofString "n"), (Str.ofString "tool")], bodyOf (dAt 53), scopeOf (dAt 53), [], false⟩
def t_law : FnT := ⟨1, [(Str.ofString "script"), (Str.ofString "tape"), (Str.ofString "door")], bodyOf (dAt 54), scopeOf (dAt 54), [], false⟩
def fns : List FnT := [t_add_body, t_add_choice, t_add_loop, t_translated, t_is_local_instruction, t_ways, t_is_structure, t_step_count, t_longest_way, t_code_steps, t_costs_of, t_plain_bound, t_quiet_bound, t__law_tape, t__law_draw, t__law_pick, t__law_turns, t__law_shuffled, t__law_same, t__law_all_words, t__law_word, t__law_value, t__law_size, t__law_term_of, t__law_small, t__law_location, t__law_step_of, t__law_step, t__law_local, t__law_many, t__law_body, t__law_m_long, t__law_m_code, t__law_k_operations, t__law_k_some_kind, t__law_k_some_table, t__law_e_object, t__law_e_ways, t__law_e_code_steps, t__law_e_quiet, t__law_e_named, t__law_k82_due, t__law_k82_steps, t__law_k82_asked, t__law_k82_bounds, t_law]
def gl : List (Str × GV) := [((Str.ofString "add_body"), .fn 0 3 [] none), ((Str.ofString "add_choice"), .fn 1 3 [] none), ((Str.ofString "add_loop"), .fn 2 2 [] none), ((Str.ofString "translated"), .fn 3 1 [] none), ((Str.ofString "is_local_instruction"), .fn 4 1 [] none), ((Str.ofString "ways"), .fn 5 2 [] none), ((Str.ofString "is_structure"), .fn 6 1 [] none), ((Str.ofString "step_count"), .fn 7 1 [] none), ((Str.ofString "longest_way"), .fn 8 1 [] none), ((Str.ofString "code_steps"), .fn 9 2 [] none), ((Str.ofString "costs_of"), .fn 10 4 [] none), ((Str.ofString "plain_bound"), .fn 11 3 [] none), ((Str.ofString "quiet_bound"), .fn 12 4 [.non] (some (Str.ofString "reclaimer"))), ((Str.ofString "_law_tape"), .fn 13 1 [] none), ((Str.ofString "_law_draw"), .fn 14 2 [] none), ((Str.ofString "_law_pick"), .fn 15 2 [] none), ((Str.ofString "_law_turns"), .fn 16 2 [] none), ((Str.ofString "_law_shuffled"), .fn 17 2 [] none), ((Str.ofString "_law_same"), .fn 18 2 [] none), ((Str.ofString "_law_all_words"), .fn 19 0 [] none), ((Str.ofString "_law_word"), .fn 20 1 [] none), ((Str.ofString "_law_value"), .fn 21 1 [] none), ((Str.ofString "_law_size"), .fn 22 1 [] none), ((Str.ofString "_law_term_of"), .fn 23 5 [] none), ((Str.ofString "_law_small"), .fn 24 2 [] none), ((Str.ofString "_law_location"), .fn 25 2 [] none), ((Str.ofString "_law_step_of"), .fn 26 3 [] none), ((Str.ofString "_law_step"), .fn 27 2 [] none), ((Str.ofString "_law_local"), .fn 28 2 [] none), ((Str.ofString "_law_many"), .fn 29 1 [] none), ((Str.ofString "_law_body"), .fn 30 5 [] none), ((Str.ofString "_law_m_long"), .fn 31 1 [] none), ((Str.ofString "_law_m_code"), .fn 32 3 [] none), ((Str.ofString "_law_k_operations"), .fn 33 1 [] none), ((Str.ofString "_law_k_some_kind"), .fn 34 1 [] none), ((Str.ofString "_law_k_some_table"), .fn 35 1 [] none), ((Str.ofString "_law_e_object"), .fn 36 2 [] none), ((Str.ofString "_law_e_ways"), .fn 37 2 [] none), ((Str.ofString "_law_e_code_steps"), .fn 38 1 [] none), ((Str.ofString "_law_e_quiet"), .fn 39 4 [] none), ((Str.ofString "_law_e_named"), .fn 40 1 [] none), ((Str.ofString "_law_k82_due"), .fn 41 2 [] none), ((Str.ofString "_law_k82_steps"), .fn 42 1 [] none), ((Str.ofString "_law_k82_asked"), .fn 43 4 [] none), ((Str.ofString "_law_k82_bounds"), .fn 44 1 [] none), ((Str.ofString "law"), .fn 45 1 [] none), ((Str.ofString "LOCAL"), .const gc_LOCAL), ((Str.ofString "OPERATIONS"), .const gc_OPERATIONS), ((Str.ofString "NO_BOUND"), .const gc_NO_BOUND), ((Str.ofString "SLOTS"), .const gc_SLOTS), ((Str.ofString "KEEP_COSTS"), .const gc_KEEP_COSTS), ((Str.ofString "abs"), .blt), ((Str.ofString "bool"), .blt), ((Str.ofString "int"), .blt), ((Str.ofString "isinstance"), .blt), ((Str.ofString "len"), .blt), ((Str.ofString "list"), .blt), ((Str.ofString "max"), .blt), ((Str.ofString "min"), .blt), ((Str.ofString "range"), .blt), ((Str.ofString "reversed"), .blt), ((Str.ofString "sorted"), .blt), ((Str.ofString "str"), .blt), ((Str.ofString "sum"), .blt), ((Str.ofString "tuple"), .blt)]
abbrev TB (C : List V) : Tb := ⟨T, C, CD⟩
def pg (C : List V) : Pg := ⟨TB C, fns, gl, 100000, 60, 30⟩
def m_add_body (B : Tb) (call : Nat → CM) : SM :=
  (seqS (forS (seqI (varM 1)) (nameG 3)
    (seqS (ifS (bolM (binM eqO (binM (itemO B) (varM 3) (cM (.int 0))) (cM (.sym 53))))
      (seqS (exprS (callM (defC call j_add_choice 3 []) (consA (varM 0) (consA (varM 3) (consA (varM 2) nilA)))))
        nextS)
      (seqS (ifS (bolM (binM eqO (binM (itemO B) (varM 3) (cM (.int 0))) (cM (.sym 68))))
        (seqS (exprS (callM (defC call j_add_loop 2 []) (consA (varM 0) (consA (binM (itemO B) (varM 3) (cM (.int 1))) nilA))))
          nextS)
        (seqS (ifS (bolM (binM eqO (binM (itemO B) (varM 3) (cM (.int 0))) (cM (.sym 101))))
          (seqS (exprS (mthL appendO (varM 2) (consA (callM (one lenF) (consA (varM 0) nilA)) nilA)))
            (seqS (exprS (mthL appendO (varM 0) (consA (tupM (consA (cM (.sym 10)) (consA (cM (.int 0)) nilA))) nilA)))
            nextS))
          (seqS (exprS (mthL appendO (varM 0) (consA (varM 3) nilA)))
            nextS))
          nextS))
        nextS))
      nextS))
    nextS)
theorem b_add_body (C : List V) (call : Nat → CM) : blkS (evS 60 30 ((pg C).ctx call t_add_body)) t_add_body.body = m_add_body (TB C) call := by kernel_rfl
def m_add_choice (B : Tb) (call : Nat → CM) : SM :=
  (seqS (asgS (callM (one lenF) (consA (varM 0) nilA)) (nameG 3))
    (seqS (exprS (mthL appendO (varM 0) (consA (tupM (consA (cM (.sym 9)) (consA (binM (itemO B) (varM 1) (cM (.int 1))) (consA (cM (.int 0)) nilA)))) nilA)))
    (seqS (exprS (callM (defC call j_add_body 3 []) (consA (varM 0) (consA (binM (itemO B) (varM 1) (cM (.int 2))) (consA (varM 2) nilA)))))
    (seqS (ifS (bolM (binM eqO (callM (one lenF) (consA (binM (itemO B) (varM 1) (cM (.int 3))) nilA)) (cM (.int 0))))
    (seqS (asgS (tupM (consA (cM (.sym 9)) (consA (binM (itemO B) (varM 1) (cM (.int 1))) (consA (callM (one lenF) (consA (varM 0) nilA)) nilA)))) (subG (varM 0) (varM 3)))
      (seqS retN
      nextS))
    nextS)
    (seqS (asgS (callM (one lenF) (consA (varM 0) nilA)) (nameG 4))
    (seqS (exprS (mthL appendO (varM 0) (consA (tupM (consA (cM (.sym 10)) (consA (cM (.int 0)) nilA))) nilA)))
    (seqS (asgS (tupM (consA (cM (.sym 9)) (consA (binM (itemO B) (varM 1) (cM (.int 1))) (consA (callM (one lenF) (consA (varM 0) nilA)) nilA)))) (subG (varM 0) (varM 3)))
    (seqS (exprS (callM (defC call j_add_body 3 []) (consA (varM 0) (consA (binM (itemO B) (varM 1) (cM (.int 3))) (consA (varM 2) nilA)))))
    (seqS (asgS (tupM (consA (cM (.sym 10)) (consA (callM (one lenF) (consA (varM 0) nilA)) nilA))) (subG (varM 0) (varM 4)))
    nextS)))))))))
theorem b_add_choice (C : List V) (call : Nat → CM) : blkS (evS 60 30 ((pg C).ctx call t_add_choice)) t_add_choice.body = m_add_choice (TB C) call := by kernel_rfl
def m_add_loop (B : Tb) (call : Nat → CM) : SM :=
  (seqS (asgS (callM (one lenF) (consA (varM 0) nilA)) (nameG 2))
    (seqS (asgS (lstM true nilA) (nameG 3))
    (seqS (exprS (callM (defC call j_add_body 3 []) (consA (varM 0) (consA (varM 1) (consA (varM 3) nilA)))))
    (seqS (exprS (mthL appendO (varM 0) (consA (tupM (consA (cM (.sym 10)) (consA (varM 2) nilA))) nilA)))
    (seqS (forS (seqI (varM 3)) (nameG 4)
    (seqS (asgS (tupM (consA (cM (.sym 10)) (consA (callM (one lenF) (consA (varM 0) nilA)) nilA))) (subG (varM 0) (varM 4)))
      nextS))
    nextS)))))
theorem b_add_loop (C : List V) (call : Nat → CM) : blkS (evS 60 30 ((pg C).ctx call t_add_loop)) t_add_loop.body = m_add_loop (TB C) call := by kernel_rfl
def m_translated (B : Tb) (call : Nat → CM) : SM :=
  (seqS (asgS (lstM true nilA) (nameG 1))
    (seqS (exprS (callM (defC call j_add_body 3 []) (consA (varM 1) (consA (varM 0) (consA (lstM true nilA) nilA)))))
    (seqS (retS (callM tupleC (consA (varM 1) nilA)))
    nextS)))
theorem b_translated (C : List V) (call : Nat → CM) : blkS (evS 60 30 ((pg C).ctx call t_translated)) t_translated.body = m_translated (TB C) call := by kernel_rfl
def m_is_local_instruction (B : Tb) (call : Nat → CM) : SM :=
  (seqS (retS (orE (binM (memO B) (binM (itemO B) (varM 0) (cM (.int 0))) (cM (gc_LOCAL))) (orE (binM eqO (binM (itemO B) (varM 0) (cM (.int 0))) (cM (.sym 9))) (binM eqO (binM (itemO B) (varM 0) (cM (.int 0))) (cM (.sym 10))))))
    nextS)
theorem b_is_local_instruction (C : List V) (call : Nat → CM) : blkS (evS 60 30 ((pg C).ctx call t_is_local_instruction)) t_is_local_instruction.body = m_is_local_instruction (TB C) call := by kernel_rfl
def m_ways (B : Tb) (call : Nat → CM) : SM :=
  (seqS (ifS (orT (bolM (binM eqO (varM 1) (callM (one lenF) (consA (varM 0) nilA)))) (bolM (binM eqO (binM (itemO B) (binM (itemO B) (varM 0) (varM 1)) (cM (.int 0))) (cM (.sym 23)))))
    (seqS (retS (tupM nilA))
      nextS)
    nextS)
    (seqS (ifS (bolM (binM eqO (binM (itemO B) (binM (itemO B) (varM 0) (varM 1)) (cM (.int 0))) (cM (.sym 10))))
    (seqS (retS (tupM (consA (binM (itemO B) (binM (itemO B) (varM 0) (varM 1)) (cM (.int 1))) nilA)))
      nextS)
    nextS)
    (seqS (ifS (bolM (binM eqO (binM (itemO B) (binM (itemO B) (varM 0) (varM 1)) (cM (.int 0))) (cM (.sym 9))))
    (seqS (retS (callM tupleC (consA (sort2M false (binM (addO false) (varM 1) (cM (.int 1))) (binM (itemO B) (binM (itemO B) (varM 0) (varM 1)) (cM (.int 2)))) nilA)))
      nextS)
    nextS)
    (seqS (retS (tupM (consA (binM (addO false) (varM 1) (cM (.int 1))) nilA)))
    nextS))))
theorem b_ways (C : List V) (call : Nat → CM) : blkS (evS 60 30 ((pg C).ctx call t_ways)) t_ways.body = m_ways (TB C) call := by kernel_rfl
def m_is_structure (B : Tb) (call : Nat → CM) : SM :=
  (seqS (retS (binM eqO (binM (itemO B) (varM 0) (cM (.int 0))) (cM (.sym 11))))
    nextS)
theorem b_is_structure (C : List V) (call : Nat → CM) : blkS (evS 60 30 ((pg C).ctx call t_is_structure)) t_is_structure.body = m_is_structure (TB C) call := by kernel_rfl
def m_step_count (B : Tb) (call : Nat → CM) : SM :=
  (seqS (ifS (orT (truM (callM (defC call j_is_local_instruction 1 []) (consA (varM 0) nilA))) (bolM (binM eqO (binM (itemO B) (varM 0) (cM (.int 0))) (cM (.sym 23)))))
    (seqS (retS (cM (.int 0)))
      nextS)
    nextS)
    (seqS (retS (cM (.int 1)))
    nextS))
theorem b_step_count (C : List V) (call : Nat → CM) : blkS (evS 60 30 ((pg C).ctx call t_step_count)) t_step_count.body = m_step_count (TB C) call := by kernel_rfl
def m_longest_way (B : Tb) (call : Nat → CM) : SM :=
  (seqS (asgS (binM (addO true) (lcM false [5] (seqI (varM 0)) (nameG 5) yesT (cM (gc_NO_BOUND))) (lstM false (consA (cM (.int 0)) nilA))) (nameG 1))
    (seqS (asgS (cM (.bl true)) (nameG 2))
    (seqS (whileS (truM (varM 2))
    (seqS (asgS (cM (.bl false)) (nameG 2))
      (seqS (forS (revRgI (callM (one lenF) (consA (varM 0) nilA))) (nameG 3)
      (seqS (asgS (lcM false [6] (seqI (callM (defC call j_ways 2 []) (consA (varM 0) (consA (varM 3) nilA)))) (nameG 6) yesT (binM (itemO B) (varM 1) (varM 6))) (nameG 4))
        (seqS (ifS (andT (bolM (binM eqO (binM (itemO B) (varM 1) (varM 3)) (cM (gc_NO_BOUND)))) (bolM (binM (notMemO B) (cM (gc_NO_BOUND)) (varM 4))))
        (seqS (asgS (binM (addO false) (callM (defC call j_step_count 1 []) (consA (binM (itemO B) (varM 0) (varM 3)) nilA)) (maxdM (varM 4) (cM (.int 0)))) (subG (varM 1) (varM 3)))
          (seqS (asgS (cM (.bl true)) (nameG 2))
          nextS))
        nextS)
        nextS)))
      nextS))
    100000)
    (seqS (retS (binM (itemO B) (varM 1) (cM (.int 0))))
    nextS))))
theorem b_longest_way (C : List V) (call : Nat → CM) : blkS (evS 60 30 ((pg C).ctx call t_longest_way)) t_longest_way.body = m_longest_way (TB C) call := by kernel_rfl
def m_code_steps (B : Tb) (call : Nat → CM) : SM :=
  (seqS (ifS (notT (truM (callM (defC call j_is_structure 1 []) (consA (varM 0) nilA))))
    (seqS (retS (cM (.int 1)))
      nextS)
    nextS)
    (seqS (asgS (lcM false [3] (seqI (binM (itemO B) (varM 0) (cM (gc_OPERATIONS)))) (nameG 3) (bolM (binM eqO (binM (itemO B) (varM 3) (cM (.int 0))) (varM 1))) (binM (itemO B) (varM 3) (cM (.int 3)))) (nameG 2))
    (seqS (retS (callM (defC call j_longest_way 1 []) (consA (callM (defC call j_translated 1 []) (consA (binM (itemO B) (varM 2) (cM (.int 0))) nilA)) nilA)))
    nextS)))
theorem b_code_steps (C : List V) (call : Nat → CM) : blkS (evS 60 30 ((pg C).ctx call t_code_steps)) t_code_steps.body = m_code_steps (TB C) call := by kernel_rfl
def m_costs_of (B : Tb) (call : Nat → CM) : SM :=
  (seqS (ifS (orT (bolM (binM isO (varM 0) (cM .non))) (bolM (binM eqO (binM (itemO B) (varM 0) (cM (.int 0))) (cM (.sym 49)))))
    (seqS (retS (cM (gc_KEEP_COSTS)))
      nextS)
    nextS)
    (seqS (ifS (bolM (binM eqO (binM (itemO B) (varM 0) (cM (.int 0))) (cM (.sym 12))))
    (seqS (retS (tupM (consA (cM (.int 1)) (consA (cM (.int 2)) (consA (binM (addO false) (varM 2) (cM (.int 1))) (consA (binM (addO false) (binM (addO false) (binM (mulO false) (binM (mulO false) (cM (.int 2)) (varM 1)) (varM 2)) (binM (itemO B) (varM 0) (cM (.int 1)))) (cM (.int 1))) nilA))))))
      nextS)
    nextS)
    (seqS (ifS (bolM (binM eqO (binM (itemO B) (varM 0) (cM (.int 0))) (cM (.sym 13))))
    (seqS (retS (tupM (consA (binM (addO false) (binM (addO false) (binM (mulO false) (cM (.int 5)) (varM 1)) (varM 3)) (cM (.int 4))) (consA (cM (.int 1)) (consA (cM (.int 2)) (consA (cM (.int 1)) nilA))))))
      nextS)
    nextS)
    (seqS (retS (cM .non))
    nextS))))
theorem b_costs_of (C : List V) (call : Nat → CM) : blkS (evS 60 30 ((pg C).ctx call t_costs_of)) t_costs_of.body = m_costs_of (TB C) call := by kernel_rfl
def m_plain_bound (B : Tb) (call : Nat → CM) : SM :=
  (seqS (ifS (bolM (binM eqO (varM 0) (cM (.sym 14))))
    (seqS (retS (cM (.int 1)))
      nextS)
    nextS)
    (seqS (ifS (bolM (binM eqO (varM 0) (cM (.sym 15))))
    (seqS (retS (cM (.int 2)))
      nextS)
    nextS)
    (seqS (ifS (bolM (binM eqO (varM 0) (cM (.sym 16))))
    (seqS (retS (cM (.int 5)))
      nextS)
    nextS)
    (seqS (ifS (bolM (binM eqO (varM 0) (cM (.sym 17))))
    (seqS (retS (callM max2C (consA (cM (.int 3)) (consA (varM 1) nilA))))
      nextS)
    nextS)
    (seqS (ifS (bolM (binM eqO (varM 0) (cM (.sym 18))))
    (seqS (retS (binM (addO false) (binM (mulO false) (cM (.int 2)) (varM 2)) (cM (.int 1))))
      nextS)
    nextS)
    (seqS (ifS (bolM (binM eqO (varM 0) (cM (.sym 19))))
    (seqS (retS (callM max2C (consA (binM (addO false) (binM (mulO false) (cM (.int 2)) (varM 2)) (cM (.int 1))) (consA (binM (mulO false) (binM (mulO false) (cM (.int 2)) (varM 1)) (binM (addO false) (varM 2) (cM (.int 1)))) nilA))))
      nextS)
    nextS)
    (seqS (ifS (bolM (binM eqO (varM 0) (cM (.sym 20))))
    (seqS (retS (binM (addO false) (binM (mulO false) (cM (.int 4)) (varM 2)) (cM (.int 4))))
      nextS)
    nextS)
    (seqS (retS (cM (gc_NO_BOUND)))
    nextS))))))))
theorem b_plain_bound (C : List V) (call : Nat → CM) : blkS (evS 60 30 ((pg C).ctx call t_plain_bound)) t_plain_bound.body = m_plain_bound (TB C) call := by kernel_rfl
def m_quiet_bound (B : Tb) (call : Nat → CM) : SM :=
  (seqS (ifS (bolM (binM (notMemO B) (varM 0) (cM (gc_SLOTS))))
    (seqS (retS (callM (defC call j_plain_bound 3 []) (consA (varM 0) (consA (varM 1) (consA (varM 2) nilA)))))
      nextS)
    nextS)
    (seqS (asgS (callM (defC call j_costs_of 4 []) (consA (varM 3) (consA (varM 2) (consA (binM (itemO B) (cM (gc_SLOTS)) (varM 0)) (consA (varM 1) nilA))))) (nameG 4))
    (seqS (ifS (bolM (binM isO (varM 4) (cM .non)))
    (seqS (retS (cM (gc_NO_BOUND)))
      nextS)
    nextS)
    (seqS (asgS (varM 4) (tupG 4 (consG (nameG 5) (consG (nameG 6) (consG (nameG 7) (consG (nameG 8) nilG))))))
    (seqS (ifS (bolM (binM eqO (varM 0) (cM (.sym 6))))
    (seqS (retS (callM max2C (consA (binM (addO false) (varM 8) (cM (.int 2))) (consA (binM (addO false) (binM (addO false) (binM (addO false) (varM 5) (varM 7)) (cM (.int 2))) (binM (mulO false) (binM (addO false) (varM 2) (cM (.int 1))) (binM (addO false) (varM 6) (cM (.int 2))))) nilA))))
      nextS)
    nextS)
    (seqS (ifS (bolM (binM eqO (varM 0) (cM (.sym 7))))
    (seqS (retS (callM max2C (consA (binM (addO false) (binM (mulO false) (cM (.int 3)) (varM 2)) (cM (.int 4))) (consA (binM (addO false) (binM (addO false) (binM (addO false) (binM (addO false) (varM 5) (varM 7)) (varM 8)) (cM (.int 1))) (binM (mulO false) (binM (addO false) (varM 2) (cM (.int 1))) (binM (addO false) (varM 6) (cM (.int 4))))) nilA))))
      nextS)
    nextS)
    (seqS (retS (binM (addO false) (binM (addO false) (binM (addO false) (binM (addO false) (varM 5) (varM 7)) (varM 8)) (cM (.int 2))) (binM (mulO false) (binM (addO false) (binM (mulO false) (cM (.int 2)) (varM 2)) (cM (.int 1))) (binM (addO false) (binM (mulO false) (cM (.int 2)) (varM 6)) (cM (.int 7))))))
    nextS)))))))
theorem b_quiet_bound (C : List V) (call : Nat → CM) : blkS (evS 60 30 ((pg C).ctx call t_quiet_bound)) t_quiet_bound.body = m_quiet_bound (TB C) call := by kernel_rfl
def m__law_tape (B : Tb) (call : Nat → CM) : SM :=
  (seqS (asgS (cM (.int 7)) (nameG 1))
    (seqS (forS (seqI (varM 0)) (nameG 2)
    (seqS (asgS (binM modO (callM (one intF) (consA (binM (addO false) (binM (mulO false) (varM 1) (cM (.int 31))) (callM (one absF) (consA (callM (one intF) (consA (varM 2) nilA)) nilA))) nilA)) (cM (.int 2147483647))) (nameG 1))
      nextS))
    (seqS (retS (lstM true (consA (callM (listC false) (consA (varM 0) nilA)) (consA (cM (.int 0)) (consA (cM (.int 0)) (consA (varM 1) nilA))))))
    nextS)))
theorem b__law_tape (C : List V) (call : Nat → CM) : blkS (evS 60 30 ((pg C).ctx call t__law_tape)) t__law_tape.body = m__law_tape (TB C) call := by kernel_rfl
def m__law_draw (B : Tb) (call : Nat → CM) : SM :=
  (seqS (ifS (bolM (binM eqO (binM (itemO B) (varM 0) (cM (.int 2))) (cM (.int 0))))
    (seqS (asgS (binM (itemO B) (varM 0) (cM (.int 1))) (nameG 3))
      (seqS (asgS (cM (.int 0)) (nameG 2))
      (seqS (ifS (bolM (binM (cmpO fun i j => decide (i < j)) (varM 3) (callM (one lenF) (consA (binM (itemO B) (varM 0) (cM (.int 0))) nilA))))
      (seqS (asgS (callM (one absF) (consA (callM (one intF) (consA (binM (itemO B) (binM (itemO B) (varM 0) (cM (.int 0))) (varM 3)) nilA)) nilA)) (nameG 2))
        nextS)
      (seqS (asgS (binM modO (callM (one intF) (consA (binM (addO false) (binM (addO false) (binM (mulO false) (binM (itemO B) (varM 0) (cM (.int 3))) (cM (.int 48271))) (varM 3)) (cM (.int 1))) nilA)) (cM (.int 2147483647))) (subG (varM 0) (cM (.int 3))))
        (seqS (asgS (binM (itemO B) (varM 0) (cM (.int 3))) (nameG 2))
        nextS)))
      (seqS (asgS (binM (addO false) (varM 3) (cM (.int 1))) (subG (varM 0) (cM (.int 1))))
      (seqS (ifS (bolM (binM (cmpO fun i j => decide (i < j)) (varM 2) (binM powO (cM (.int 10)) (cM (.int 18)))))
      (seqS (asgS (binM modO (callM (one intF) (consA (binM (addO false) (binM (addO false) (binM (mulO false) (varM 2) (cM (.int 48271))) (binM (mulO false) (varM 3) (cM (.int 69621)))) (cM (.int 5))) nilA)) (cM (.int 2147483647))) (nameG 2))
        (seqS (asgS (binM modO (callM (one intF) (consA (binM (mulO false) (varM 2) (cM (.int 69621))) nilA)) (cM (.int 2147483629))) (nameG 2))
        (seqS (retS (binM modO (callM (one intF) (consA (varM 2) nilA)) (callM max2C (consA (varM 1) (consA (cM (.int 1)) nilA)))))
        nextS)))
      nextS)
      (seqS (asgS (varM 2) (subG (varM 0) (cM (.int 2))))
      nextS))))))
    nextS)
    (seqS (asgS (binM (itemO B) (varM 0) (cM (.int 2))) (nameG 2))
    (seqS (asgS (binM fdivO (varM 2) (callM max2C (consA (varM 1) (consA (cM (.int 2)) nilA)))) (subG (varM 0) (cM (.int 2))))
    (seqS (retS (binM modO (callM (one intF) (consA (varM 2) nilA)) (callM max2C (consA (varM 1) (consA (cM (.int 1)) nilA)))))
    nextS))))
theorem b__law_draw (C : List V) (call : Nat → CM) : blkS (evS 60 30 ((pg C).ctx call t__law_draw)) t__law_draw.body = m__law_draw (TB C) call := by kernel_rfl
def m__law_pick (B : Tb) (call : Nat → CM) : SM :=
  (seqS (retS (binM (itemO B) (varM 1) (callM (defC call j__law_draw 2 []) (consA (varM 0) (consA (callM (one lenF) (consA (varM 1) nilA)) nilA)))))
    nextS)
theorem b__law_pick (C : List V) (call : Nat → CM) : blkS (evS 60 30 ((pg C).ctx call t__law_pick)) t__law_pick.body = m__law_pick (TB C) call := by kernel_rfl
def m__law_turns (B : Tb) (call : Nat → CM) : SM :=
  (seqS (asgS (listRgM true (varM 1)) (nameG 2))
    (seqS (asgS (lstM true nilA) (nameG 3))
    (seqS (forS (rng1I (consA (varM 1) nilA)) (nameG 4)
    (seqS (exprS (mthL appendO (varM 3) (consA (mthL popO (varM 2) (consA (callM (defC call j__law_draw 2 []) (consA (varM 0) (consA (callM (one lenF) (consA (varM 2) nilA)) nilA))) nilA)) nilA)))
      nextS))
    (seqS (retS (slcM (slO false) (varM 3) none (some (binM (itemO B) (lstM false (consA (varM 1) (consA (varM 1) (consA (cM (.int 1)) nilA)))) (callM (defC call j__law_draw 2 []) (consA (varM 0) (consA (cM (.int 3)) nilA)))))))
    nextS))))
theorem b__law_turns (C : List V) (call : Nat → CM) : blkS (evS 60 30 ((pg C).ctx call t__law_turns)) t__law_turns.body = m__law_turns (TB C) call := by kernel_rfl
def m__law_shuffled (B : Tb) (call : Nat → CM) : SM :=
  (seqS (asgS (callM (listC true) (consA (varM 1) nilA)) (nameG 2))
    (seqS (asgS (lstM true nilA) (nameG 3))
    (seqS (forS (rng1I (consA (callM (one lenF) (consA (varM 1) nilA)) nilA)) (nameG 4)
    (seqS (exprS (mthL appendO (varM 3) (consA (mthL popO (varM 2) (consA (callM (defC call j__law_draw 2 []) (consA (varM 0) (consA (callM (one lenF) (consA (varM 2) nilA)) nilA))) nilA)) nilA)))
      nextS))
    (seqS (retS (varM 3))
    nextS))))
theorem b__law_shuffled (C : List V) (call : Nat → CM) : blkS (evS 60 30 ((pg C).ctx call t__law_shuffled)) t__law_shuffled.body = m__law_shuffled (TB C) call := by kernel_rfl
def m__law_same (B : Tb) (call : Nat → CM) : SM :=
  (seqS (ifS (truM (callM isiC (consA (varM 1) (consA (cM (.ty "tuple")) nilA))))
    (seqS (ifS (orT (notT (truM (callM isiC (consA (varM 0) (consA (cM (.ty "tuple")) nilA))))) (bolM (binM neO (callM (one lenF) (consA (varM 0) nilA)) (callM (one lenF) (consA (varM 1) nilA)))))
      (seqS (retS (cM (.bl false)))
        nextS)
      nextS)
      (seqS (forS (rng1I (consA (callM (one lenF) (consA (varM 1) nilA)) nilA)) (nameG 2)
      (seqS (ifS (notT (truM (callM (defC call j__law_same 2 []) (consA (binM (itemO B) (varM 0) (varM 2)) (consA (binM (itemO B) (varM 1) (varM 2)) nilA)))))
        (seqS (retS (cM (.bl false)))
          nextS)
        nextS)
        nextS))
      (seqS (retS (cM (.bl true)))
      nextS)))
    nextS)
    (seqS (ifS (orT (bolM (binM isO (varM 1) (cM .non))) (bolM (binM isO (varM 0) (cM .non))))
    (seqS (retS (andE (binM isO (varM 1) (cM .non)) (binM isO (varM 0) (cM .non))))
      nextS)
    nextS)
    (seqS (ifS (truM (callM isiC (consA (varM 1) (consA (cM (.ty "str")) nilA))))
    (seqS (retS (andE (callM isiC (consA (varM 0) (consA (cM (.ty "str")) nilA))) (binM eqO (varM 0) (varM 1))))
      nextS)
    nextS)
    (seqS (ifS (orT (bolM (binM neO (callM isiC (consA (varM 0) (consA (cM (.ty "bool")) nilA))) (callM isiC (consA (varM 1) (consA (cM (.ty "bool")) nilA))))) (notT (truM (callM isiC (consA (varM 0) (consA (cM (.ty "int")) nilA))))))
    (seqS (retS (cM (.bl false)))
      nextS)
    nextS)
    (seqS (retS (binM eqO (varM 0) (varM 1)))
    nextS)))))
theorem b__law_same (C : List V) (call : Nat → CM) : blkS (evS 60 30 ((pg C).ctx call t__law_same)) t__law_same.body = m__law_same (TB C) call := by kernel_rfl
def m__law_all_words (B : Tb) (call : Nat → CM) : SM :=
  (seqS (retS (binM (addO false) (binM (addO false) (binM (addO false) (binM (addO false) (listRgM false (cM (.int 32))) (lstM false (consA (cM (.int 99)) nilA))) (listRg2M false (cM (.int 100)) (cM (.int 108)))) (lstM false (consA (cM (.int 199)) nilA))) (listRg2M false (cM (.int 200)) (cM (.int 208)))))
    nextS)
theorem b__law_all_words (C : List V) (call : Nat → CM) : blkS (evS 60 30 ((pg C).ctx call t__law_all_words)) t__law_all_words.body = m__law_all_words (TB C) call := by kernel_rfl
def m__law_word (B : Tb) (call : Nat → CM) : SM :=
  (seqS (asgS (callM (defC call j__law_draw 2 []) (consA (varM 0) (consA (cM (.int 6)) nilA))) (nameG 1))
    (seqS (ifS (bolM (binM (cmpO fun i j => decide (i < j)) (varM 1) (cM (.int 2))))
    (seqS (retS (callM (defC call j__law_draw 2 []) (consA (varM 0) (consA (cM (.int 32)) nilA))))
      nextS)
    nextS)
    (seqS (ifS (bolM (binM eqO (varM 1) (cM (.int 2))))
    (seqS (retS (callM (defC call j__law_pick 2 []) (consA (varM 0) (consA (lstM false (consA (cM (.int 0)) (consA (cM (.int 1)) (consA (cM (.int 31)) (consA (cM (.int 99)) (consA (cM (.int 199)) nilA)))))) nilA))))
      nextS)
    nextS)
    (seqS (ifS (bolM (binM eqO (varM 1) (cM (.int 3))))
    (seqS (retS (binM (addO false) (cM (.int 100)) (callM (defC call j__law_draw 2 []) (consA (varM 0) (consA (cM (.int 8)) nilA)))))
      nextS)
    nextS)
    (seqS (ifS (bolM (binM eqO (varM 1) (cM (.int 4))))
    (seqS (retS (binM (addO false) (cM (.int 200)) (callM (defC call j__law_draw 2 []) (consA (varM 0) (consA (cM (.int 8)) nilA)))))
      nextS)
    nextS)
    (seqS (retS (callM (defC call j__law_pick 2 []) (consA (varM 0) (consA (callM (defC call j__law_all_words 0 []) nilA) nilA))))
    nextS))))))
theorem b__law_word (C : List V) (call : Nat → CM) : blkS (evS 60 30 ((pg C).ctx call t__law_word)) t__law_word.body = m__law_word (TB C) call := by kernel_rfl
def m__law_value (B : Tb) (call : Nat → CM) : SM :=
  (seqS (asgS (callM (defC call j__law_draw 2 []) (consA (varM 0) (consA (cM (.int 6)) nilA))) (nameG 1))
    (seqS (ifS (bolM (binM eqO (varM 1) (cM (.int 0))))
    (seqS (retS (cM (.int 99)))
      nextS)
    nextS)
    (seqS (ifS (bolM (binM eqO (varM 1) (cM (.int 1))))
    (seqS (retS (callM (defC call j__law_pick 2 []) (consA (varM 0) (consA (lstM false (consA (cM (.int 0)) (consA (cM (.int 31)) nilA))) nilA))))
      nextS)
    nextS)
    (seqS (retS (callM (defC call j__law_draw 2 []) (consA (varM 0) (consA (binM (itemO B) (lstM false (consA (cM (.int 32)) (consA (cM (.int 4)) (consA (cM (.int 4)) (consA (cM (.int 8)) nilA))))) (binM subO (varM 1) (cM (.int 2)))) nilA))))
    nextS))))
theorem b__law_value (C : List V) (call : Nat → CM) : blkS (evS 60 30 ((pg C).ctx call t__law_value)) t__law_value.body = m__law_value (TB C) call := by kernel_rfl
def m__law_size (B : Tb) (call : Nat → CM) : SM :=
  (seqS (ifS (notT (truM (callM isiC (consA (varM 0) (consA (cM (.ty "tuple")) nilA)))))
    (seqS (retS (cM (.int 1)))
      nextS)
    nextS)
    (seqS (asgS (cM (.int 1)) (nameG 1))
    (seqS (forS (rng2I (consA (cM (.int 1)) (consA (callM (one lenF) (consA (varM 0) nilA)) nilA))) (nameG 2)
    (seqS (ifS (andT (notT (andT (bolM (binM eqO (binM (itemO B) (varM 0) (cM (.int 0))) (cM (.sym 55)))) (bolM (binM eqO (varM 2) (cM (.int 1)))))) (notT (andT (bolM (binM eqO (binM (itemO B) (varM 0) (cM (.int 0))) (cM (.sym 56)))) (bolM (binM eqO (varM 2) (cM (.int 2)))))))
      (seqS (asgS (binM (addO false) (varM 1) (callM (defC call j__law_size 1 []) (consA (binM (itemO B) (varM 0) (varM 2)) nilA))) (nameG 1))
        nextS)
      nextS)
      nextS))
    (seqS (retS (varM 1))
    nextS))))
theorem b__law_size (C : List V) (call : Nat → CM) : blkS (evS 60 30 ((pg C).ctx call t__law_size)) t__law_size.body = m__law_size (TB C) call := by kernel_rfl
def m__law_term_of (B : Tb) (call : Nat → CM) : SM :=
  (seqS (asgS (callM (defC call j__law_draw 2 []) (consA (varM 0) (consA (cM (.int 16)) nilA))) (nameG 5))
    (seqS (ifS (orT (bolM (binM (cmpO fun i j => decide (i < j)) (varM 1) (cM (.int 2)))) (orT (bolM (binM (cmpO fun i j => decide (i < j)) (varM 2) (cM (.int 2)))) (bolM (binM (cmpO fun i j => decide (i < j)) (varM 5) (cM (.int 4))))))
    (seqS (ifS (bolM (binM eqO (binM modO (callM (one intF) (consA (varM 5) nilA)) (cM (.int 4))) (cM (.int 1))))
      (seqS (retS (cM (.sym 54)))
        nextS)
      nextS)
      (seqS (ifS (andT (truM (varM 3)) (bolM (binM neO (binM modO (callM (one intF) (consA (varM 5) nilA)) (cM (.int 4))) (cM (.int 3)))))
      (seqS (retS (callM (defC call j__law_pick 2 []) (consA (varM 0) (consA (varM 3) nilA))))
        nextS)
      nextS)
      (seqS (retS (callM (defC call j__law_pick 2 []) (consA (varM 0) (consA (lstM false (consA (callM (defC call j__law_draw 2 []) (consA (varM 0) (consA (cM (.int 32)) nilA))) (consA (callM (defC call j__law_pick 2 []) (consA (varM 0) (consA (lstM false (consA (cM (.int 0)) (consA (cM (.int 1)) (consA (cM (.int 31)) nilA)))) nilA))) (consA (cM (.int 99)) nilA)))) nilA))))
      nextS)))
    nextS)
    (seqS (ifS (andT (bolM (binM (cmpO fun i j => decide (i < j)) (varM 5) (cM (.int 6)))) (truM (varM 4)))
    (seqS (retS (tupM (consA (cM (.sym 55)) (consA (callM (defC call j__law_pick 2 []) (consA (varM 0) (consA (varM 4) nilA))) (consA (callM (defC call j__law_term_of 5 []) (consA (varM 0) (consA (binM subO (varM 1) (cM (.int 1))) (consA (binM subO (varM 2) (cM (.int 1))) (consA (varM 3) (consA (varM 4) nilA)))))) nilA)))))
      nextS)
    nextS)
    (seqS (ifS (bolM (binM (cmpO fun i j => decide (i < j)) (varM 5) (cM (.int 9))))
    (seqS (asgS (binM (itemO B) (lstM false (consA (cM (.sym 88)) (consA (cM (.sym 89)) (consA (cM (.sym 90)) (consA (cM (.sym 91)) nilA))))) (callM (defC call j__law_draw 2 []) (consA (varM 0) (consA (cM (.int 4)) nilA)))) (nameG 6))
      (seqS (retS (tupM (consA (varM 6) (consA (callM (defC call j__law_term_of 5 []) (consA (varM 0) (consA (binM subO (varM 1) (cM (.int 1))) (consA (binM subO (varM 2) (cM (.int 1))) (consA (varM 3) (consA (varM 4) nilA)))))) nilA))))
      nextS))
    nextS)
    (seqS (ifS (orT (bolM (binM eqO (varM 5) (cM (.int 9)))) (bolM (binM (cmpO fun i j => decide (i < j)) (varM 2) (cM (.int 3)))))
    (seqS (retS (tupM (consA (cM (.sym 56)) (consA (callM (defC call j__law_term_of 5 []) (consA (varM 0) (consA (binM subO (varM 1) (cM (.int 1))) (consA (binM subO (varM 2) (cM (.int 1))) (consA (varM 3) (consA (varM 4) nilA)))))) (consA (binM (addO false) (cM (.int 1)) (callM (defC call j__law_draw 2 []) (consA (varM 0) (consA (cM (.int 32)) nilA)))) nilA)))))
      nextS)
    nextS)
    (seqS (asgS (binM (itemO B) (lstM false (consA (cM (.sym 57)) (consA (cM (.sym 58)) (consA (cM (.sym 59)) (consA (cM (.sym 60)) (consA (cM (.sym 61)) (consA (cM (.sym 62)) nilA))))))) (binM subO (varM 5) (cM (.int 10)))) (nameG 6))
    (seqS (asgS (callM (defC call j__law_term_of 5 []) (consA (varM 0) (consA (binM subO (varM 1) (cM (.int 1))) (consA (binM subO (varM 2) (cM (.int 2))) (consA (varM 3) (consA (varM 4) nilA)))))) (nameG 7))
    (seqS (retS (tupM (consA (varM 6) (consA (varM 7) (consA (callM (defC call j__law_term_of 5 []) (consA (varM 0) (consA (binM subO (varM 1) (cM (.int 1))) (consA (binM subO (binM subO (varM 2) (cM (.int 1))) (callM (defC call j__law_size 1 []) (consA (varM 7) nilA))) (consA (varM 3) (consA (varM 4) nilA)))))) nilA)))))
    nextS))))))))
theorem b__law_term_of (C : List V) (call : Nat → CM) : blkS (evS 60 30 ((pg C).ctx call t__law_term_of)) t__law_term_of.body = m__law_term_of (TB C) call := by kernel_rfl
def m__law_small (B : Tb) (call : Nat → CM) : SM :=
  (seqS (asgS (binM (itemO B) (lstM false (consA (cM (.int 1)) (consA (cM (.int 1)) (consA (cM (.int 2)) (consA (cM (.int 2)) (consA (cM (.int 3)) (consA (cM (.int 5)) nilA))))))) (callM (defC call j__law_draw 2 []) (consA (varM 0) (consA (cM (.int 6)) nilA)))) (nameG 2))
    (seqS (retS (callM (defC call j__law_term_of 5 []) (consA (varM 0) (consA (varM 2) (consA (binM (itemO B) (lstM false (consA (cM (.int 3)) (consA (cM (.int 5)) (consA (cM (.int 15)) nilA)))) (callM (defC call j__law_draw 2 []) (consA (varM 0) (consA (cM (.int 3)) nilA)))) (consA (binM (itemO B) (varM 1) (cM (.sym 35))) (consA (binM (itemO B) (varM 1) (cM (.sym 46))) nilA)))))))
    nextS))
theorem b__law_small (C : List V) (call : Nat → CM) : blkS (evS 60 30 ((pg C).ctx call t__law_small)) t__law_small.body = m__law_small (TB C) call := by kernel_rfl
def m__law_location (B : Tb) (call : Nat → CM) : SM :=
  (seqS (ifS (andT (truM (binM (itemO B) (varM 1) (cM (.sym 34)))) (orT (notT (truM (binM (itemO B) (varM 1) (cM (.sym 45))))) (bolM (binM eqO (callM (defC call j__law_draw 2 []) (consA (varM 0) (consA (cM (.int 3)) nilA))) (cM (.int 0))))))
    (seqS (retS (tupM (consA (cM (.sym 63)) (consA (callM (defC call j__law_small 2 []) (consA (varM 0) (consA (varM 1) nilA))) (consA (callM (defC call j__law_pick 2 []) (consA (varM 0) (consA (binM (itemO B) (varM 1) (cM (.sym 34))) nilA))) nilA)))))
      nextS)
    nextS)
    (seqS (asgS (callM (defC call j__law_pick 2 []) (consA (varM 0) (consA (binM (itemO B) (varM 1) (cM (.sym 45))) nilA))) (nameG 2))
    (seqS (ifS (bolM (binM eqO (callM (defC call j__law_draw 2 []) (consA (varM 0) (consA (cM (.int 2)) nilA))) (cM (.int 0))))
    (seqS (retS (tupM (consA (cM (.sym 21)) (consA (varM 2) (consA (cM (.int 0)) nilA)))))
      nextS)
    nextS)
    (seqS (retS (tupM (consA (cM (.sym 21)) (consA (varM 2) (consA (callM (defC call j__law_small 2 []) (consA (varM 0) (consA (varM 1) nilA))) nilA)))))
    nextS))))
theorem b__law_location (C : List V) (call : Nat → CM) : blkS (evS 60 30 ((pg C).ctx call t__law_location)) t__law_location.body = m__law_location (TB C) call := by kernel_rfl
def m__law_step_of (B : Tb) (call : Nat → CM) : SM :=
  (seqS (ifS (bolM (binM (memO B) (varM 2) (lstM false (consA (cM (.sym 30)) (consA (cM (.sym 31)) (consA (cM (.sym 64)) (consA (cM (.sym 65)) nilA)))))))
    (seqS (retS (tupM (consA (varM 2) nilA)))
      nextS)
    nextS)
    (seqS (ifS (bolM (binM (memO B) (varM 2) (lstM false (consA (cM (.sym 66)) (consA (cM (.sym 32)) (consA (cM (.sym 67)) nilA))))))
    (seqS (retS (tupM (consA (varM 2) (consA (callM (defC call j__law_small 2 []) (consA (varM 0) (consA (varM 1) nilA))) nilA))))
      nextS)
    nextS)
    (seqS (ifS (bolM (binM eqO (varM 2) (cM (.sym 22))))
    (seqS (retS (tupM (consA (varM 2) (consA (callM (defC call j__law_draw 2 []) (consA (varM 0) (consA (binM (itemO B) (varM 1) (cM (.sym 47))) nilA))) (consA (callM (defC call j__law_small 2 []) (consA (varM 0) (consA (varM 1) nilA))) nilA)))))
      nextS)
    nextS)
    (seqS (ifS (bolM (binM eqO (varM 2) (cM (.sym 23))))
    (seqS (retS (tupM (consA (varM 2) (consA (callM tupleC (consA (lcM false [10] (rng1I (consA (binM (itemO B) (lstM false (consA (cM (.int 0)) (consA (cM (.int 1)) (consA (cM (.int 1)) (consA (cM (.int 2)) (consA (cM (.int 3)) nilA)))))) (callM (defC call j__law_draw 2 []) (consA (varM 0) (consA (cM (.int 5)) nilA)))) nilA)) (nameG 10) yesT (callM (defC call j__law_small 2 []) (consA (varM 0) (consA (varM 1) nilA)))) nilA)) nilA))))
      nextS)
    nextS)
    (seqS (ifS (bolM (binM eqO (varM 2) (cM (.sym 24))))
    (seqS (asgS (callM (defC call j__law_location 2 []) (consA (varM 0) (consA (varM 1) nilA))) (nameG 4))
      (seqS (retS (tupM (consA (varM 2) (consA (varM 4) (consA (callM (defC call j__law_small 2 []) (consA (varM 0) (consA (varM 1) nilA))) nilA)))))
      nextS))
    nextS)
    (seqS (ifS (bolM (binM eqO (varM 2) (cM (.sym 25))))
    (seqS (asgS (callM (defC call j__law_pick 2 []) (consA (varM 0) (consA (binM (itemO B) (varM 1) (cM (.sym 48))) nilA))) (tupG 3 (consG (nameG 7) (consG (nameG 8) (consG (nameG 9) nilG)))))
      (seqS (asgS (lstM false nilA) (nameG 6))
      (seqS (ifS (truM (binM (itemO B) (varM 1) (cM (.sym 35))))
      (seqS (asgS (lcM false [10] (rng1I (consA (callM (defC call j__law_draw 2 []) (consA (varM 0) (consA (cM (.int 4)) nilA))) nilA)) (nameG 10) yesT (callM (defC call j__law_pick 2 []) (consA (varM 0) (consA (binM (itemO B) (varM 1) (cM (.sym 35))) nilA)))) (nameG 6))
        nextS)
      nextS)
      (seqS (retS (tupM (consA (varM 2) (consA (callM tupleC (consA (varM 6) nilA)) (consA (varM 7) (consA (varM 8) (consA (callM tupleC (consA (lcM false [10] (rng1I (consA (varM 9) nilA)) (nameG 10) yesT (callM (defC call j__law_small 2 []) (consA (varM 0) (consA (varM 1) nilA)))) nilA)) nilA)))))))
      nextS))))
    nextS)
    (seqS (asgS (callM (defC call j__law_pick 2 []) (consA (varM 0) (consA (binM (itemO B) (varM 1) (cM (.sym 35))) nilA))) (nameG 3))
    (seqS (ifS (bolM (binM eqO (varM 2) (cM (.sym 26))))
    (seqS (retS (tupM (consA (varM 2) (consA (varM 3) (consA (callM tupleC (consA (lcM false [11] (seqI (binM (itemO B) (varM 1) (cM (.sym 34)))) (nameG 11) yesT (callM (defC call j__law_small 2 []) (consA (varM 0) (consA (varM 1) nilA)))) nilA)) nilA)))))
      nextS)
    nextS)
    (seqS (asgS (callM (defC call j__law_location 2 []) (consA (varM 0) (consA (varM 1) nilA))) (nameG 4))
    (seqS (ifS (bolM (binM eqO (varM 2) (cM (.sym 27))))
    (seqS (retS (tupM (consA (varM 2) (consA (varM 3) (consA (varM 4) nilA)))))
      nextS)
    nextS)
    (seqS (asgS (callM (defC call j__law_small 2 []) (consA (varM 0) (consA (varM 1) nilA))) (nameG 5))
    (seqS (ifS (bolM (binM eqO (varM 2) (cM (.sym 28))))
    (seqS (retS (tupM (consA (varM 2) (consA (varM 3) (consA (varM 4) (consA (varM 5) nilA))))))
      nextS)
    nextS)
    (seqS (ifS (bolM (binM eqO (varM 2) (cM (.sym 29))))
    (seqS (retS (tupM (consA (varM 2) (consA (varM 3) (consA (varM 4) (consA (varM 5) (consA (callM (defC call j__law_small 2 []) (consA (varM 0) (consA (varM 1) nilA))) nilA)))))))
      nextS)
    nextS)
    (seqS (retS (tupM (consA (varM 2) (consA (varM 3) (consA (varM 4) (consA (varM 5) (consA (binM (addO false) (cM (.int 2)) (callM (defC call j__law_draw 2 []) (consA (varM 0) (consA (cM (.int 31)) nilA)))) nilA)))))))
    nextS))))))))))))))
theorem b__law_step_of (C : List V) (call : Nat → CM) : blkS (evS 60 30 ((pg C).ctx call t__law_step_of)) t__law_step_of.body = m__law_step_of (TB C) call := by kernel_rfl
def m__law_step (B : Tb) (call : Nat → CM) : SM :=
  (seqS (asgS (lstM false (consA (cM (.sym 30)) (consA (cM (.sym 31)) (consA (cM (.sym 32)) nilA)))) (nameG 2))
    (seqS (asgS (binM (cmpO fun i j => decide (j < i)) (binM (addO false) (callM (one lenF) (consA (binM (itemO B) (varM 1) (cM (.sym 45))) nilA)) (callM (one lenF) (consA (binM (itemO B) (varM 1) (cM (.sym 34))) nilA))) (cM (.int 0))) (nameG 3))
    (seqS (ifS (truM (varM 3))
    (seqS (asgS (binM (addO false) (varM 2) (lstM false (consA (cM (.sym 24)) (consA (cM (.sym 24)) nilA)))) (nameG 2))
      nextS)
    nextS)
    (seqS (ifS (andT (truM (varM 3)) (truM (binM (itemO B) (varM 1) (cM (.sym 35)))))
    (seqS (asgS (binM (addO false) (varM 2) (lstM false (consA (cM (.sym 27)) (consA (cM (.sym 27)) (consA (cM (.sym 28)) (consA (cM (.sym 29)) (consA (cM (.sym 78)) nilA))))))) (nameG 2))
      nextS)
    nextS)
    (seqS (ifS (truM (binM (itemO B) (varM 1) (cM (.sym 33))))
    (seqS (ifS (truM (binM (itemO B) (varM 1) (cM (.sym 48))))
      (seqS (asgS (binM (addO false) (varM 2) (lstM false (consA (cM (.sym 25)) (consA (cM (.sym 25)) nilA)))) (nameG 2))
        nextS)
      nextS)
      (seqS (retS (callM (defC call j__law_step_of 3 []) (consA (varM 0) (consA (varM 1) (consA (callM (defC call j__law_pick 2 []) (consA (varM 0) (consA (varM 2) nilA))) nilA)))))
      nextS))
    nextS)
    (seqS (asgS (binM (addO false) (varM 2) (lstM false (consA (cM (.sym 23)) nilA))) (nameG 2))
    (seqS (ifS (truM (binM (itemO B) (varM 1) (cM (.sym 34))))
    (seqS (asgS (binM (addO false) (varM 2) (lstM false (consA (cM (.sym 66)) nilA))) (nameG 2))
      nextS)
    nextS)
    (seqS (ifS (andT (truM (binM (itemO B) (varM 1) (cM (.sym 34)))) (truM (binM (itemO B) (varM 1) (cM (.sym 35)))))
    (seqS (asgS (binM (addO false) (varM 2) (lstM false (consA (cM (.sym 26)) nilA))) (nameG 2))
      nextS)
    nextS)
    (seqS (ifS (bolM (binM (cmpO fun i j => decide (j < i)) (binM (itemO B) (varM 1) (cM (.sym 47))) (cM (.int 0))))
    (seqS (asgS (binM (addO false) (varM 2) (lstM false (consA (cM (.sym 64)) (consA (cM (.sym 22)) (consA (cM (.sym 65)) (consA (cM (.sym 67)) nilA)))))) (nameG 2))
      nextS)
    nextS)
    (seqS (retS (callM (defC call j__law_step_of 3 []) (consA (varM 0) (consA (varM 1) (consA (callM (defC call j__law_pick 2 []) (consA (varM 0) (consA (varM 2) nilA))) nilA)))))
    nextS))))))))))
theorem b__law_step (C : List V) (call : Nat → CM) : blkS (evS 60 30 ((pg C).ctx call t__law_step)) t__law_step.body = m__law_step (TB C) call := by kernel_rfl
def m__law_local (B : Tb) (call : Nat → CM) : SM :=
  (seqS (ifS (andT (truM (binM (itemO B) (varM 1) (cM (.sym 46)))) (orT (notT (truM (binM (itemO B) (varM 1) (cM (.sym 35))))) (bolM (binM eqO (callM (defC call j__law_draw 2 []) (consA (varM 0) (consA (cM (.int 3)) nilA))) (cM (.int 0))))))
    (seqS (asgS (callM (defC call j__law_pick 2 []) (consA (varM 0) (consA (binM (itemO B) (varM 1) (cM (.sym 46))) nilA))) (nameG 2))
      (seqS (asgS (callM (defC call j__law_small 2 []) (consA (varM 0) (consA (varM 1) nilA))) (nameG 3))
      (seqS (retS (tupM (consA (cM (.sym 5)) (consA (varM 2) (consA (varM 3) (consA (callM (defC call j__law_small 2 []) (consA (varM 0) (consA (varM 1) nilA))) nilA))))))
      nextS)))
    nextS)
    (seqS (ifS (truM (binM (itemO B) (varM 1) (cM (.sym 35))))
    (seqS (asgS (callM (defC call j__law_pick 2 []) (consA (varM 0) (consA (binM (itemO B) (varM 1) (cM (.sym 35))) nilA))) (nameG 2))
      (seqS (retS (tupM (consA (cM (.sym 4)) (consA (varM 2) (consA (callM (defC call j__law_small 2 []) (consA (varM 0) (consA (varM 1) nilA))) nilA)))))
      nextS))
    nextS)
    (seqS (retS (tupM (consA (cM (.sym 31)) nilA)))
    nextS)))
theorem b__law_local (C : List V) (call : Nat → CM) : blkS (evS 60 30 ((pg C).ctx call t__law_local)) t__law_local.body = m__law_local (TB C) call := by kernel_rfl
def m__law_many (B : Tb) (call : Nat → CM) : SM :=
  (seqS (asgS (cM (.int 0)) (nameG 1))
    (seqS (forS (seqI (varM 0)) (nameG 2)
    (seqS (asgS (binM (addO false) (varM 1) (cM (.int 1))) (nameG 1))
      (seqS (ifS (bolM (binM eqO (binM (itemO B) (varM 2) (cM (.int 0))) (cM (.sym 53))))
      (seqS (asgS (binM (addO false) (binM (addO false) (varM 1) (callM (defC call j__law_many 1 []) (consA (binM (itemO B) (varM 2) (cM (.int 2))) nilA))) (callM (defC call j__law_many 1 []) (consA (binM (itemO B) (varM 2) (cM (.int 3))) nilA))) (nameG 1))
        nextS)
      nextS)
      (seqS (ifS (bolM (binM eqO (binM (itemO B) (varM 2) (cM (.int 0))) (cM (.sym 68))))
      (seqS (asgS (binM (addO false) (varM 1) (callM (defC call j__law_many 1 []) (consA (binM (itemO B) (varM 2) (cM (.int 1))) nilA))) (nameG 1))
        nextS)
      nextS)
      nextS))))
    (seqS (retS (varM 1))
    nextS)))
theorem b__law_many (C : List V) (call : Nat → CM) : blkS (evS 60 30 ((pg C).ctx call t__law_many)) t__law_many.body = m__law_many (TB C) call := by kernel_rfl
def m__law_body (B : Tb) (call : Nat → CM) : SM :=
  (seqS (asgS (lstM true nilA) (nameG 5))
    (seqS (asgS (varM 2) (nameG 6))
    (seqS (forS (rng1I (consA (varM 2) nilA)) (nameG 7)
    (seqS (ifS (bolM (binM (cmpO fun i j => decide (i < j)) (varM 6) (cM (.int 1))))
      (seqS (retS (callM tupleC (consA (varM 5) nilA)))
        nextS)
      nextS)
      (seqS (asgS (callM (defC call j__law_draw 2 []) (consA (varM 0) (consA (cM (.int 10)) nilA))) (nameG 8))
      (seqS (ifS (andT (bolM (binM (cmpO fun i j => decide (i < j)) (varM 8) (cM (.int 2)))) (bolM (binM (cmpO fun i j => decide (j < i)) (varM 1) (cM (.int 1)))))
      (seqS (asgS (callM (defC call j__law_small 2 []) (consA (varM 0) (consA (varM 3) nilA))) (nameG 9))
        (seqS (asgS (callM (defC call j__law_body 5 []) (consA (varM 0) (consA (binM subO (varM 1) (cM (.int 1))) (consA (callM (defC call j__law_draw 2 []) (consA (varM 0) (consA (varM 6) nilA))) (consA (varM 3) (consA (varM 4) nilA)))))) (nameG 10))
        (seqS (asgS (callM (defC call j__law_body 5 []) (consA (varM 0) (consA (binM subO (varM 1) (cM (.int 1))) (consA (callM (defC call j__law_draw 2 []) (consA (varM 0) (consA (binM subO (varM 6) (callM (defC call j__law_many 1 []) (consA (varM 10) nilA))) nilA))) (consA (varM 3) (consA (varM 4) nilA)))))) (nameG 11))
        (seqS (exprS (mthL appendO (varM 5) (consA (tupM (consA (cM (.sym 53)) (consA (varM 9) (consA (varM 10) (consA (varM 11) nilA))))) nilA)))
        nextS))))
      (seqS (ifS (andT (bolM (binM eqO (varM 8) (cM (.int 2)))) (andT (bolM (binM (cmpO fun i j => decide (j < i)) (varM 1) (cM (.int 1)))) (bolM (binM (cmpO fun i j => decide (j < i)) (varM 6) (cM (.int 1))))))
        (seqS (asgS (callM (defC call j__law_step 2 []) (consA (varM 0) (consA (varM 3) nilA))) (nameG 12))
          (seqS (exprS (mthL appendO (varM 5) (consA (tupM (consA (cM (.sym 68)) (consA (binM (addO false) (tupM (consA (varM 12) nilA)) (callM (defC call j__law_body 5 []) (consA (varM 0) (consA (binM subO (varM 1) (cM (.int 1))) (consA (callM (defC call j__law_draw 2 []) (consA (varM 0) (consA (binM subO (varM 6) (cM (.int 1))) nilA))) (consA (varM 3) (consA (cM (.bl true)) nilA))))))) nilA))) nilA)))
          nextS))
        (seqS (ifS (andT (bolM (binM eqO (varM 8) (cM (.int 3)))) (truM (varM 4)))
          (seqS (exprS (mthL appendO (varM 5) (consA (tupM (consA (cM (.sym 101)) nilA)) nilA)))
            nextS)
          (seqS (ifS (bolM (binM (cmpO fun i j => decide (i < j)) (varM 8) (cM (.int 6))))
            (seqS (exprS (mthL appendO (varM 5) (consA (callM (defC call j__law_local 2 []) (consA (varM 0) (consA (varM 3) nilA))) nilA)))
              nextS)
            (seqS (exprS (mthL appendO (varM 5) (consA (callM (defC call j__law_step 2 []) (consA (varM 0) (consA (varM 3) nilA))) nilA)))
              nextS))
            nextS))
          nextS))
        nextS))
      (seqS (asgS (binM subO (varM 6) (callM (defC call j__law_many 1 []) (consA (slcM (slO false) (varM 5) (some (unM negM (cM (.int 1)))) none) nilA))) (nameG 6))
      nextS)))))
    (seqS (retS (callM tupleC (consA (varM 5) nilA)))
    nextS))))
theorem b__law_body (C : List V) (call : Nat → CM) : blkS (evS 60 30 ((pg C).ctx call t__law_body)) t__law_body.body = m__law_body (TB C) call := by kernel_rfl
def m__law_m_long (B : Tb) (call : Nat → CM) : SM :=
  (seqS (asgS (binM (addO false) (callM (one lenF) (consA (varM 0) nilA)) (callM (one sumF) (consA (lcM false [2] (seqI (varM 0)) (nameG 2) (bolM (binM eqO (binM (itemO B) (varM 2) (cM (.int 0))) (cM (.sym 68)))) (callM (defC call j__law_m_long 1 []) (consA (binM (itemO B) (varM 2) (cM (.int 1))) nilA))) nilA))) (nameG 1))
    (seqS (retS (binM (addO false) (varM 1) (callM (one sumF) (consA (lcM false [2] (seqI (varM 0)) (nameG 2) (bolM (binM eqO (binM (itemO B) (varM 2) (cM (.int 0))) (cM (.sym 53)))) (binM (addO false) (binM (addO false) (callM (defC call j__law_m_long 1 []) (consA (binM (itemO B) (varM 2) (cM (.int 2))) nilA)) (callM (defC call j__law_m_long 1 []) (consA (binM (itemO B) (varM 2) (cM (.int 3))) nilA))) (callM (one intF) (consA (binM (cmpO fun i j => decide (j < i)) (callM (one lenF) (consA (binM (itemO B) (varM 2) (cM (.int 3))) nilA)) (cM (.int 0))) nilA)))) nilA))))
    nextS))
theorem b__law_m_long (C : List V) (call : Nat → CM) : blkS (evS 60 30 ((pg C).ctx call t__law_m_long)) t__law_m_long.body = m__law_m_long (TB C) call := by kernel_rfl
def m__law_m_code (B : Tb) (call : Nat → CM) : SM :=
  (seqS (asgS (tupM nilA) (nameG 3))
    (seqS (forS (seqI (varM 0)) (nameG 4)
    (seqS (asgS (binM (addO false) (varM 1) (callM (one lenF) (consA (varM 3) nilA))) (nameG 5))
      (seqS (ifS (bolM (binM eqO (binM (itemO B) (varM 4) (cM (.int 0))) (cM (.sym 68))))
      (seqS (asgS (binM (addO false) (binM (addO false) (varM 3) (callM (defC call j__law_m_code 3 []) (consA (binM (itemO B) (varM 4) (cM (.int 1))) (consA (varM 5) (consA (binM (addO false) (binM (addO false) (varM 5) (callM (defC call j__law_m_long 1 []) (consA (binM (itemO B) (varM 4) (cM (.int 1))) nilA))) (cM (.int 1))) nilA))))) (tupM (consA (tupM (consA (cM (.sym 10)) (consA (varM 5) nilA))) nilA))) (nameG 3))
        nextS)
      (seqS (ifS (bolM (binM eqO (binM (itemO B) (varM 4) (cM (.int 0))) (cM (.sym 53))))
        (seqS (asgS (binM (addO false) (binM (addO false) (binM (addO false) (varM 5) (cM (.int 1))) (callM (defC call j__law_m_long 1 []) (consA (binM (itemO B) (varM 4) (cM (.int 2))) nilA))) (callM (one intF) (consA (binM (cmpO fun i j => decide (j < i)) (callM (one lenF) (consA (binM (itemO B) (varM 4) (cM (.int 3))) nilA)) (cM (.int 0))) nilA))) (nameG 6))
          (seqS (asgS (binM (addO false) (binM (addO false) (varM 3) (tupM (consA (tupM (consA (cM (.sym 9)) (consA (binM (itemO B) (varM 4) (cM (.int 1))) (consA (varM 6) nilA)))) nilA))) (callM (defC call j__law_m_code 3 []) (consA (binM (itemO B) (varM 4) (cM (.int 2))) (consA (binM (addO false) (varM 5) (cM (.int 1))) (consA (varM 2) nilA))))) (nameG 3))
          (seqS (ifS (bolM (binM (cmpO fun i j => decide (j < i)) (callM (one lenF) (consA (binM (itemO B) (varM 4) (cM (.int 3))) nilA)) (cM (.int 0))))
          (seqS (asgS (binM (addO false) (binM (addO false) (varM 3) (tupM (consA (tupM (consA (cM (.sym 10)) (consA (binM (addO false) (varM 6) (callM (defC call j__law_m_long 1 []) (consA (binM (itemO B) (varM 4) (cM (.int 3))) nilA))) nilA))) nilA))) (callM (defC call j__law_m_code 3 []) (consA (binM (itemO B) (varM 4) (cM (.int 3))) (consA (varM 6) (consA (varM 2) nilA))))) (nameG 3))
            nextS)
          nextS)
          nextS)))
        (seqS (asgS (binM (addO false) (varM 3) (tupM (consA (ifM (bolM (binM eqO (binM (itemO B) (varM 4) (cM (.int 0))) (cM (.sym 101)))) (tupM (consA (cM (.sym 10)) (consA (varM 2) nilA))) (varM 4)) nilA))) (nameG 3))
          nextS))
        nextS))
      nextS)))
    (seqS (retS (varM 3))
    nextS)))
theorem b__law_m_code (C : List V) (call : Nat → CM) : blkS (evS 60 30 ((pg C).ctx call t__law_m_code)) t__law_m_code.body = m__law_m_code (TB C) call := by kernel_rfl
def m__law_k_operations (B : Tb) (call : Nat → CM) : SM :=
  (seqS (ifS (bolM (binM eqO (binM (itemO B) (varM 0) (cM (.int 0))) (cM (.sym 36))))
    (seqS (asgS (lstM true nilA) (nameG 2))
      (seqS (forS (seqI (binM (itemO B) (varM 0) (cM (.int 2)))) (nameG 3)
      (seqS (ifS (bolM (binM (notMemO B) (tupM (consA (binM (itemO B) (varM 3) (cM (.int 1))) (consA (callM (one lenF) (consA (binM (itemO B) (varM 3) (cM (.int 2))) nilA)) nilA))) (varM 2)))
        (seqS (exprS (mthL appendO (varM 2) (consA (tupM (consA (binM (itemO B) (varM 3) (cM (.int 1))) (consA (callM (one lenF) (consA (binM (itemO B) (varM 3) (cM (.int 2))) nilA)) nilA))) nilA)))
          nextS)
        nextS)
        nextS))
      (seqS (retS (callM tupleC (consA (varM 2) nilA)))
      nextS)))
    nextS)
    (seqS (asgS (dctM true (consK (cM (.sym 37)) (tupM (consA (tupM (consA (cM (.sym 92)) (consA (cM (.int 0)) nilA))) (consA (tupM (consA (cM (.sym 69)) (consA (cM (.int 0)) nilA))) nilA))) (consK (cM (.sym 38)) (tupM (consA (tupM (consA (cM (.sym 93)) (consA (cM (.int 0)) nilA))) (consA (tupM (consA (cM (.sym 69)) (consA (cM (.int 0)) nilA))) nilA))) (consK (cM (.sym 39)) (tupM (consA (tupM (consA (cM (.sym 70)) (consA (cM (.int 2)) nilA))) (consA (tupM (consA (cM (.sym 69)) (consA (cM (.int 0)) nilA))) nilA))) nilK)))) (nameG 1))
    (seqS (asgS (tupM (consA (tupM (consA (cM (.sym 69)) (consA (cM (.int 0)) nilA))) (consA (tupM (consA (cM (.sym 70)) (consA (cM (.int 1)) nilA))) (consA (tupM (consA (cM (.sym 28)) (consA (cM (.int 1)) nilA))) (consA (tupM (consA (cM (.sym 29)) (consA (cM (.int 2)) nilA))) nilA))))) (subG (varM 1) (cM (.sym 21))))
    (seqS (asgS (tupM (consA (tupM (consA (cM (.sym 71)) (consA (cM (.int 0)) nilA))) (consA (tupM (consA (cM (.sym 72)) (consA (cM (.int 0)) nilA))) (consA (tupM (consA (cM (.sym 73)) (consA (cM (.int 0)) nilA))) nilA)))) (subG (varM 1) (cM (.sym 40))))
    (seqS (asgS (tupM (consA (tupM (consA (cM (.sym 5)) (consA (cM (.int 1)) nilA))) (consA (tupM (consA (cM (.sym 74)) (consA (cM (.int 0)) nilA))) nilA))) (subG (varM 1) (cM (.sym 41))))
    (seqS (asgS (tupM (consA (tupM (consA (cM (.sym 75)) (consA (cM (.int 1)) nilA))) (consA (tupM (consA (cM (.sym 76)) (consA (cM (.int 0)) nilA))) nilA))) (subG (varM 1) (cM (.sym 42))))
    (seqS (asgS (tupM (consA (tupM (consA (cM (.sym 75)) (consA (cM (.int 1)) nilA))) (consA (tupM (consA (cM (.sym 76)) (consA (cM (.int 0)) nilA))) (consA (tupM (consA (cM (.sym 77)) (consA (cM (.int 0)) nilA))) nilA)))) (subG (varM 1) (cM (.sym 43))))
    (seqS (asgS (tupM (consA (tupM (consA (cM (.sym 78)) (consA (cM (.int 1)) nilA))) (consA (tupM (consA (cM (.sym 79)) (consA (cM (.int 1)) nilA))) (consA (tupM (consA (cM (.sym 80)) (consA (cM (.int 1)) nilA))) nilA)))) (subG (varM 1) (cM (.sym 4))))
    (seqS (asgS (tupM (consA (tupM (consA (cM (.sym 70)) (consA (cM (.int 2)) nilA))) (consA (tupM (consA (cM (.sym 81)) (consA (cM (.int 0)) nilA))) nilA))) (subG (varM 1) (cM (.sym 44))))
    (seqS (retS (binM (itemO B) (varM 1) (binM (itemO B) (varM 0) (cM (.int 0)))))
    nextS))))))))))
theorem b__law_k_operations (C : List V) (call : Nat → CM) : blkS (evS 60 30 ((pg C).ctx call t__law_k_operations)) t__law_k_operations.body = m__law_k_operations (TB C) call := by kernel_rfl
def m__law_k_some_kind (B : Tb) (call : Nat → CM) : SM :=
  (seqS (asgS (callM (defC call j__law_pick 2 []) (consA (varM 0) (consA (lstM false (consA (cM (.sym 37)) (consA (cM (.sym 38)) (consA (cM (.sym 21)) (consA (cM (.sym 39)) (consA (cM (.sym 40)) (consA (cM (.sym 41)) (consA (cM (.sym 42)) (consA (cM (.sym 43)) (consA (cM (.sym 4)) (consA (cM (.sym 44)) (consA (cM (.sym 36)) (consA (cM (.sym 41)) (consA (cM (.sym 21)) (consA (cM (.sym 36)) nilA))))))))))))))) nilA))) (nameG 1))
    (seqS (ifS (bolM (binM (memO B) (varM 1) (lstM false (consA (cM (.sym 37)) (consA (cM (.sym 38)) nilA)))))
    (seqS (retS (tupM (consA (varM 1) (consA (callM (defC call j__law_pick 2 []) (consA (varM 0) (consA (lstM false (consA (cM (.int 2)) (consA (cM (.int 3)) (consA (cM (.int 4)) (consA (cM (.int 32)) (consA (binM (addO false) (cM (.int 2)) (callM (defC call j__law_draw 2 []) (consA (varM 0) (consA (cM (.int 31)) nilA)))) nilA)))))) nilA))) nilA))))
      nextS)
    nextS)
    (seqS (ifS (bolM (binM eqO (varM 1) (cM (.sym 21))))
    (seqS (retS (tupM (consA (varM 1) (consA (callM (defC call j__law_pick 2 []) (consA (varM 0) (consA (lstM false (consA (cM (.int 0)) (consA (cM (.int 1)) (consA (cM (.int 99)) (consA (callM (defC call j__law_word 1 []) (consA (varM 0) nilA)) nilA))))) nilA))) nilA))))
      nextS)
    nextS)
    (seqS (ifS (bolM (binM (memO B) (varM 1) (lstM false (consA (cM (.sym 41)) (consA (cM (.sym 42)) (consA (cM (.sym 43)) nilA))))))
    (seqS (retS (tupM (consA (varM 1) (consA (callM (defC call j__law_pick 2 []) (consA (varM 0) (consA (lstM false (consA (cM (.int 1)) (consA (cM (.int 2)) (consA (cM (.int 2)) (consA (cM (.int 3)) (consA (cM (.int 8)) (consA (binM (addO false) (cM (.int 1)) (callM (defC call j__law_draw 2 []) (consA (varM 0) (consA (cM (.int 8)) nilA)))) nilA))))))) nilA))) nilA))))
      nextS)
    nextS)
    (seqS (ifS (bolM (binM eqO (varM 1) (cM (.sym 44))))
    (seqS (retS (tupM (consA (varM 1) (consA (binM (addO false) (cM (.int 1)) (callM (defC call j__law_draw 2 []) (consA (varM 0) (consA (cM (.int 3)) nilA)))) nilA))))
      nextS)
    nextS)
    (seqS (ifS (bolM (binM eqO (varM 1) (cM (.sym 36))))
    (seqS (retS (callM (defC call j__law_k_some_table 1 []) (consA (varM 0) nilA)))
      nextS)
    nextS)
    (seqS (retS (tupM (consA (varM 1) nilA)))
    nextS)))))))
theorem b__law_k_some_kind (C : List V) (call : Nat → CM) : blkS (evS 60 30 ((pg C).ctx call t__law_k_some_kind)) t__law_k_some_kind.body = m__law_k_some_kind (TB C) call := by kernel_rfl
def m__law_k_some_table (B : Tb) (call : Nat → CM) : SM :=
  (seqS (asgS (slcM (slO false) (callM (defC call j__law_shuffled 2 []) (consA (varM 0) (consA (lstM false (consA (cM (.sym 94)) (consA (cM (.sym 95)) (consA (cM (.sym 78)) (consA (cM (.sym 29)) (consA (cM (.sym 5)) (consA (cM (.sym 28)) (consA (cM (.sym 96)) nilA)))))))) nilA))) none (some (binM (addO false) (cM (.int 1)) (callM (defC call j__law_draw 2 []) (consA (varM 0) (consA (cM (.int 3)) nilA)))))) (nameG 1))
    (seqS (asgS (lcM false [10] (seqI (varM 1)) (nameG 10) yesT (callM (defC call j__law_pick 2 []) (consA (varM 0) (consA (lstM false (consA (cM (.int 0)) (consA (cM (.int 0)) (consA (cM (.int 1)) (consA (cM (.int 1)) (consA (cM (.int 2)) (consA (cM (.int 3)) nilA))))))) nilA)))) (nameG 2))
    (seqS (asgS (callM (defC call j__law_pick 2 []) (consA (varM 0) (consA (lstM false (consA (cM (.int 2)) (consA (cM (.int 2)) (consA (cM (.int 3)) (consA (cM (.int 10)) nilA))))) nilA))) (nameG 3))
    (seqS (asgS (lstM true nilA) (nameG 4))
    (seqS (asgS (lstM true nilA) (nameG 5))
    (seqS (forS (rng1I (consA (callM (defC call j__law_pick 2 []) (consA (varM 0) (consA (lstM false (consA (cM (.int 1)) (consA (cM (.int 3)) (consA (cM (.int 4)) (consA (cM (.int 6)) (consA (cM (.int 8)) (consA (cM (.int 24)) nilA))))))) nilA))) nilA)) (nameG 6)
    (seqS (asgS (callM (defC call j__law_draw 2 []) (consA (varM 0) (consA (callM (one lenF) (consA (varM 1) nilA)) nilA))) (nameG 7))
      (seqS (asgS (callM tupleC (consA (lcM false [12] (rng1I (consA (binM (itemO B) (varM 2) (varM 7)) nilA)) (nameG 12) yesT (callM (defC call j__law_pick 2 []) (consA (varM 0) (consA (lstM false (consA (cM (.int 1)) (consA (cM (.int 2)) (consA (cM (.int 1)) (consA (cM (.int 99)) (consA (callM (defC call j__law_value 1 []) (consA (varM 0) nilA)) nilA)))))) nilA)))) nilA)) (nameG 8))
      (seqS (asgS (tupM (consA (callM (defC call j__law_draw 2 []) (consA (varM 0) (consA (varM 3) nilA))) (consA (binM (itemO B) (varM 1) (varM 7)) (consA (varM 8) nilA)))) (nameG 9))
      (seqS (ifS (bolM (binM (notMemO B) (varM 9) (varM 4)))
      (seqS (exprS (mthL appendO (varM 4) (consA (varM 9) nilA)))
        (seqS (asgS (callM tupleC (consA (lcM false [12] (rng1I (consA (callM (defC call j__law_pick 2 []) (consA (varM 0) (consA (lstM false (consA (cM (.int 1)) (consA (cM (.int 1)) (consA (cM (.int 0)) (consA (cM (.int 2)) (consA (cM (.int 3)) nilA)))))) nilA))) nilA)) (nameG 12) yesT (callM (defC call j__law_pick 2 []) (consA (varM 0) (consA (lstM false (consA (cM (.int 0)) (consA (cM (.int 1)) (consA (cM (.int 2)) (consA (callM (defC call j__law_word 1 []) (consA (varM 0) nilA)) nilA))))) nilA)))) nilA)) (nameG 11))
        (seqS (exprS (mthL appendO (varM 5) (consA (binM (addO false) (varM 9) (tupM (consA (callM (defC call j__law_draw 2 []) (consA (varM 0) (consA (varM 3) nilA))) (consA (varM 11) nilA)))) nilA)))
        nextS)))
      nextS)
      nextS)))))
    (seqS (retS (tupM (consA (cM (.sym 36)) (consA (callM (defC call j__law_draw 2 []) (consA (varM 0) (consA (varM 3) nilA))) (consA (callM tupleC (consA (varM 5) nilA)) nilA)))))
    nextS)))))))
theorem b__law_k_some_table (C : List V) (call : Nat → CM) : blkS (evS 60 30 ((pg C).ctx call t__law_k_some_table)) t__law_k_some_table.body = m__law_k_some_table (TB C) call := by kernel_rfl
def m__law_e_object (B : Tb) (call : Nat → CM) : SM :=
  (seqS (asgS (callM (defC call j__law_pick 2 []) (consA (varM 0) (consA (lstM false (consA (lstM false nilA) (consA (lstM false nilA) (consA (lstM false (consA (cM (.sym 97)) nilA)) (consA (lstM false (consA (cM (.sym 97)) (consA (cM (.sym 98)) nilA))) nilA))))) nilA))) (nameG 2))
    (seqS (asgS (ifM (truM (varM 2)) (callM (defC call j__law_draw 2 []) (consA (varM 0) (consA (cM (.int 3)) nilA))) (cM (.int 0))) (nameG 3))
    (seqS (asgS (dctM false (consK (cM (.sym 35)) (lstM false (consA (cM (.sym 82)) (consA (cM (.sym 83)) nilA))) (consK (cM (.sym 45)) (lstM false (consA (cM (.sym 84)) (consA (cM (.sym 85)) nilA))) (consK (cM (.sym 46)) (callM (defC call j__law_pick 2 []) (consA (varM 0) (consA (lstM false (consA (lstM false nilA) (consA (lstM false (consA (cM (.sym 102)) nilA)) nilA))) nilA))) (consK (cM (.sym 34)) (varM 2) (consK (cM (.sym 47)) (varM 3) (consK (cM (.sym 33)) (cM (.bl false)) (consK (cM (.sym 48)) (lstM false nilA) nilK)))))))) (nameG 4))
    (seqS (asgS (tupM nilA) (nameG 5))
    (seqS (forS (seqI (slcM (slO false) (callM (defC call j__law_shuffled 2 []) (consA (varM 0) (consA (lstM false (consA (cM (.sym 99)) (consA (cM (.sym 100)) (consA (cM (.sym 78)) (consA (cM (.sym 29)) nilA))))) nilA))) none (some (binM (addO false) (cM (.int 1)) (callM (defC call j__law_draw 2 []) (consA (varM 0) (consA (cM (.int 3)) nilA))))))) (nameG 6)
    (seqS (asgS (binM (addO false) (varM 5) (tupM (consA (tupM (consA (varM 6) (consA (callM (defC call j__law_draw 2 []) (consA (varM 0) (consA (cM (.int 3)) nilA))) (consA (tupM (consA (cM (.sym 82)) (consA (cM (.sym 83)) nilA))) (consA (callM (defC call j__law_body 5 []) (consA (varM 0) (consA (callM (defC call j__law_pick 2 []) (consA (varM 0) (consA (lstM false (consA (cM (.int 1)) (consA (cM (.int 2)) (consA (cM (.int 3)) (consA (cM (.int 3)) (consA (cM (.int 6)) nilA)))))) nilA))) (consA (varM 1) (consA (varM 4) (consA (cM (.bl false)) nilA)))))) nilA))))) nilA))) (nameG 5))
      nextS))
    (seqS (asgS (callM tupleC (consA (lcM false [9] (seqI (binM (itemO B) (varM 4) (cM (.sym 46)))) (nameG 9) yesT (tupM (consA (varM 9) (consA (tupM (consA (cM (.int 0)) (consA (cM (.int 1)) nilA))) nilA)))) nilA)) (nameG 7))
    (seqS (asgS (ifM (truM (varM 2)) (binM (addO false) (cM (.int 1)) (callM (defC call j__law_draw 2 []) (consA (varM 0) (consA (cM (.int 8)) nilA)))) (cM (.int 0))) (nameG 8))
    (seqS (retS (tupM (consA (cM (.sym 11)) (consA (cM .non) (consA (callM tupleC (consA (varM 2) nilA)) (consA (varM 8) (consA (tupM nilA) (consA (varM 3) (consA (tupM (consA (tupM (consA (cM (.sym 84)) (consA (tupM (consA (cM (.int 0)) (consA (cM (.int 99)) nilA))) nilA))) (consA (tupM (consA (cM (.sym 85)) (consA (tupM (consA (cM (.int 1)) nilA)) nilA))) nilA))) (consA (varM 7) (consA (varM 5) nilA)))))))))))
    nextS))))))))
theorem b__law_e_object (C : List V) (call : Nat → CM) : blkS (evS 60 30 ((pg C).ctx call t__law_e_object)) t__law_e_object.body = m__law_e_object (TB C) call := by kernel_rfl
def m__law_e_ways (B : Tb) (call : Nat → CM) : SM :=
  (seqS (asgS (binM (itemO B) (varM 0) (varM 1)) (nameG 2))
    (seqS (ifS (bolM (binM eqO (binM (itemO B) (varM 2) (cM (.int 0))) (cM (.sym 23))))
    (seqS (retS (lstM false nilA))
      nextS)
    nextS)
    (seqS (ifS (bolM (binM eqO (binM (itemO B) (varM 2) (cM (.int 0))) (cM (.sym 10))))
    (seqS (retS (lstM false (consA (binM (itemO B) (varM 2) (cM (.int 1))) nilA)))
      nextS)
    nextS)
    (seqS (retS (ifM (bolM (binM eqO (binM (itemO B) (varM 2) (cM (.int 0))) (cM (.sym 9)))) (lstM false (consA (binM (addO false) (varM 1) (cM (.int 1))) (consA (binM (itemO B) (varM 2) (cM (.int 2))) nilA))) (lstM false (consA (binM (addO false) (varM 1) (cM (.int 1))) nilA))))
    nextS))))
theorem b__law_e_ways (C : List V) (call : Nat → CM) : blkS (evS 60 30 ((pg C).ctx call t__law_e_ways)) t__law_e_ways.body = m__law_e_ways (TB C) call := by kernel_rfl
def m__law_e_code_steps (B : Tb) (call : Nat → CM) : SM :=
  (seqS (asgS (binM (addO true) (lstM false (consA (cM (.int 0)) nilA)) (binM (mulO false) (lstM false (consA (unM negM (cM (.int 1))) nilA)) (callM (one lenF) (consA (varM 0) nilA)))) (nameG 1))
    (seqS (forS (rng1I (consA (cM (.int 3)) nilA)) (nameG 2)
    (seqS (asgS (tupM (consA (cM (.bl true)) (consA (cM (.int 0)) nilA))) (tupG 2 (consG (nameG 4) (consG (nameG 5) nilG))))
      (seqS (forS (rng1I (consA (callM (one lenF) (consA (varM 0) nilA)) nilA)) (nameG 3)
      (seqS (ifS (bolM (binM (cmpO fun i j => decide (j ≤ i)) (binM (itemO B) (varM 1) (varM 3)) (cM (.int 0))))
        (seqS (asgS (binM (addO false) (binM (itemO B) (varM 1) (varM 3)) (callM (one intF) (consA (binM (notMemO B) (binM (itemO B) (binM (itemO B) (varM 0) (varM 3)) (cM (.int 0))) (lstM false (consA (cM (.sym 4)) (consA (cM (.sym 5)) (consA (cM (.sym 10)) (consA (cM (.sym 9)) (consA (cM (.sym 23)) nilA))))))) nilA))) (nameG 6))
          (seqS (asgS (callM max2C (consA (varM 5) (consA (varM 6) nilA))) (nameG 5))
          (seqS (forS (seqI (callM (defC call j__law_e_ways 2 []) (consA (varM 0) (consA (varM 3) nilA)))) (nameG 7)
          (seqS (ifS (bolM (binM (cmpO fun i j => decide (j < i)) (varM 6) (binM (itemO B) (varM 1) (varM 7))))
            (seqS (asgS (varM 6) (subG (varM 1) (varM 7)))
              (seqS (asgS (cM (.bl false)) (nameG 4))
              nextS))
            nextS)
            nextS))
          nextS)))
        nextS)
        nextS))
      (seqS (ifS (truM (varM 4))
      (seqS (retS (varM 5))
        nextS)
      nextS)
      nextS))))
    (seqS (retS (unM negM (cM (.int 1))))
    nextS)))
theorem b__law_e_code_steps (C : List V) (call : Nat → CM) : blkS (evS 60 30 ((pg C).ctx call t__law_e_code_steps)) t__law_e_code_steps.body = m__law_e_code_steps (TB C) call := by kernel_rfl
def m__law_e_quiet (B : Tb) (call : Nat → CM) : SM :=
  (seqS (asgS (dctM true (consK (cM (.sym 14)) (cM (.int 1)) (consK (cM (.sym 15)) (cM (.int 2)) (consK (cM (.sym 16)) (cM (.int 5)) (consK (cM (.sym 17)) (callM max2C (consA (cM (.int 3)) (consA (varM 1) nilA))) (consK (cM (.sym 18)) (binM (addO false) (binM (mulO false) (cM (.int 2)) (varM 2)) (cM (.int 1))) (consK (cM (.sym 20)) (binM (addO false) (binM (mulO false) (cM (.int 4)) (varM 2)) (cM (.int 4))) nilK))))))) (nameG 4))
    (seqS (asgS (callM max2C (consA (binM (addO false) (binM (mulO false) (cM (.int 2)) (varM 2)) (cM (.int 1))) (consA (binM (mulO false) (binM (mulO false) (cM (.int 2)) (varM 1)) (binM (addO false) (varM 2) (cM (.int 1)))) nilA))) (subG (varM 4) (cM (.sym 19))))
    (seqS (ifS (bolM (binM (memO B) (varM 0) (varM 4)))
    (seqS (retS (binM (itemO B) (varM 4) (varM 0)))
      nextS)
    nextS)
    (seqS (asgS (ifM (bolM (binM isO (varM 3) (cM .non))) (cM (.sym 49)) (binM (itemO B) (varM 3) (cM (.int 0)))) (nameG 5))
    (seqS (ifS (orT (bolM (binM (notMemO B) (varM 0) (lstM false (consA (cM (.sym 6)) (consA (cM (.sym 7)) (consA (cM (.sym 8)) nilA)))))) (bolM (binM (notMemO B) (varM 5) (lstM false (consA (cM (.sym 49)) (consA (cM (.sym 12)) (consA (cM (.sym 13)) nilA)))))))
    (seqS (retS (unM negM (cM (.int 1))))
      nextS)
    nextS)
    (seqS (asgS (ifM (bolM (binM eqO (varM 0) (cM (.sym 8)))) (cM (.int 2)) (cM (.int 1))) (nameG 6))
    (seqS (asgS (tupM (consA (cM (.int 1)) (consA (cM (.int 1)) (consA (cM (.int 1)) (consA (cM (.int 1)) nilA))))) (tupG 4 (consG (nameG 7) (consG (nameG 8) (consG (nameG 9) (consG (nameG 10) nilG))))))
    (seqS (ifS (bolM (binM eqO (varM 5) (cM (.sym 12))))
    (seqS (parS [8, 9, 10] (consA (cM (.int 2)) (consA (binM (addO false) (varM 6) (cM (.int 1))) (consA (binM (addO false) (binM (addO false) (binM (mulO false) (binM (mulO false) (cM (.int 2)) (varM 2)) (varM 6)) (binM (itemO B) (varM 3) (cM (.int 1)))) (cM (.int 1))) nilA))))
      nextS)
    nextS)
    (seqS (ifS (bolM (binM eqO (varM 5) (cM (.sym 13))))
    (seqS (parS [7, 9] (consA (binM (addO false) (binM (addO false) (binM (mulO false) (cM (.int 5)) (varM 2)) (varM 1)) (cM (.int 4))) (consA (cM (.int 2)) nilA)))
      nextS)
    nextS)
    (seqS (ifS (bolM (binM eqO (varM 0) (cM (.sym 6))))
    (seqS (retS (callM max2C (consA (binM (addO false) (varM 10) (cM (.int 2))) (consA (binM (addO false) (binM (addO false) (binM (addO false) (varM 7) (varM 9)) (cM (.int 2))) (binM (mulO false) (binM (addO false) (varM 2) (cM (.int 1))) (binM (addO false) (varM 8) (cM (.int 2))))) nilA))))
      nextS)
    nextS)
    (seqS (ifS (bolM (binM eqO (varM 0) (cM (.sym 7))))
    (seqS (retS (callM max2C (consA (binM (addO false) (binM (mulO false) (cM (.int 3)) (varM 2)) (cM (.int 4))) (consA (binM (addO false) (binM (addO false) (binM (addO false) (binM (addO false) (varM 7) (varM 9)) (varM 10)) (cM (.int 1))) (binM (mulO false) (binM (addO false) (varM 2) (cM (.int 1))) (binM (addO false) (varM 8) (cM (.int 4))))) nilA))))
      nextS)
    nextS)
    (seqS (retS (binM (addO false) (binM (addO false) (binM (addO false) (binM (addO false) (varM 7) (varM 9)) (varM 10)) (cM (.int 2))) (binM (mulO false) (binM (addO false) (binM (mulO false) (cM (.int 2)) (varM 2)) (cM (.int 1))) (binM (addO false) (binM (mulO false) (cM (.int 2)) (varM 8)) (cM (.int 7))))))
    nextS))))))))))))
theorem b__law_e_quiet (C : List V) (call : Nat → CM) : blkS (evS 60 30 ((pg C).ctx call t__law_e_quiet)) t__law_e_quiet.body = m__law_e_quiet (TB C) call := by kernel_rfl
def m__law_e_named (B : Tb) (call : Nat → CM) : SM :=
  (seqS (asgS (lstM false (consA (cM (.sym 14)) (consA (cM (.sym 18)) (consA (cM (.sym 17)) (consA (cM (.sym 15)) (consA (cM (.sym 19)) (consA (cM (.sym 50)) (consA (cM (.sym 51)) (consA (cM (.sym 52)) (consA (cM (.sym 16)) (consA (cM (.sym 20)) nilA))))))))))) (nameG 1))
    (seqS (asgS (binM (addO false) (varM 1) (lstM false (consA (cM (.sym 86)) (consA (cM (.sym 87)) (consA (cM (.sym 6)) (consA (cM (.sym 7)) (consA (cM (.sym 8)) (consA (cM (.sym 6)) (consA (cM (.sym 7)) (consA (cM (.sym 8)) (consA (cM (.sym 8)) nilA))))))))))) (nameG 1))
    (seqS (parS [3, 4, 5] (consA (callM (defC call j__law_pick 2 []) (consA (varM 0) (consA (varM 1) nilA))) (consA (binM (addO false) (cM (.int 1)) (callM (defC call j__law_draw 2 []) (consA (varM 0) (consA (cM (.int 4)) nilA)))) (consA (cM .non) nilA))))
    (seqS (asgS (binM (addO false) (cM (.int 2)) (callM (defC call j__law_draw 2 []) (consA (varM 0) (consA (cM (.int 7)) nilA)))) (nameG 2))
    (seqS (ifS (bolM (binM (memO B) (varM 3) (lstM false (consA (cM (.sym 14)) (consA (cM (.sym 18)) nilA)))))
    (seqS (asgS (callM (defC call j__law_pick 2 []) (consA (varM 0) (consA (lstM false (consA (cM (.int 2)) (consA (cM (.int 3)) (consA (cM (.int 32)) (consA (binM (addO false) (cM (.int 2)) (callM (defC call j__law_draw 2 []) (consA (varM 0) (consA (cM (.int 31)) nilA)))) nilA))))) nilA))) (nameG 2))
      nextS)
    nextS)
    (seqS (ifS (bolM (binM (memO B) (varM 3) (lstM false (consA (cM (.sym 17)) (consA (cM (.sym 19)) nilA)))))
    (seqS (asgS (binM (addO false) (cM (.int 1)) (callM (defC call j__law_draw 2 []) (consA (varM 0) (consA (ifM (bolM (binM eqO (varM 3) (cM (.sym 17)))) (cM (.int 4)) (cM (.int 3))) nilA)))) (nameG 2))
      nextS)
    nextS)
    (seqS (ifS (bolM (binM (memO B) (varM 3) (lstM false (consA (cM (.sym 16)) (consA (cM (.sym 20)) nilA)))))
    (seqS (asgS (callM (defC call j__law_pick 2 []) (consA (varM 0) (consA (lstM false (consA (cM (.int 1)) (consA (cM (.int 2)) (consA (cM (.int 4)) (consA (cM (.int 8)) nilA))))) nilA))) (nameG 2))
      nextS)
    nextS)
    (seqS (ifS (bolM (binM eqO (varM 3) (cM (.sym 15))))
    (seqS (asgS (callM (defC call j__law_value 1 []) (consA (varM 0) nilA)) (nameG 2))
      nextS)
    nextS)
    (seqS (ifS (bolM (binM (memO B) (varM 3) (lstM false (consA (cM (.sym 50)) (consA (cM (.sym 51)) (consA (cM (.sym 52)) nilA))))))
    (seqS (asgS (cM (.int 0)) (nameG 2))
      nextS)
    nextS)
    (seqS (ifS (bolM (binM eqO (varM 3) (cM (.sym 7))))
    (seqS (asgS (binM (addO false) (cM (.int 1)) (callM (defC call j__law_draw 2 []) (consA (varM 0) (consA (cM (.int 8)) nilA)))) (nameG 2))
      nextS)
    nextS)
    (seqS (ifS (andT (bolM (binM (memO B) (varM 3) (lstM false (consA (cM (.sym 6)) (consA (cM (.sym 7)) (consA (cM (.sym 8)) (consA (cM (.sym 87)) nilA))))))) (bolM (binM (cmpO fun i j => decide (j < i)) (callM (defC call j__law_draw 2 []) (consA (varM 0) (consA (cM (.int 4)) nilA))) (cM (.int 0)))))
    (seqS (asgS (ifM (bolM (binM (memO B) (varM 3) (lstM false (consA (cM (.sym 8)) (consA (cM (.sym 87)) nilA))))) (cM (.int 2)) (cM (.int 1))) (nameG 6))
      (seqS (asgS (callM (defC call j__law_pick 2 []) (consA (varM 0) (consA (binM (addO false) (lstM false (consA (tupM (consA (cM (.sym 49)) nilA)) (consA (tupM (consA (cM (.sym 103)) nilA)) (consA (tupM (consA (cM (.sym 104)) nilA)) (consA (tupM (consA (cM (.sym 13)) nilA)) (consA (tupM (consA (cM (.sym 13)) nilA)) nilA)))))) (lcM false [7] (rng2I (consA (cM (.int 1)) (consA (callM min2C (consA (cM (.int 4)) (consA (binM subO (cM (.int 9)) (binM (mulO false) (varM 4) (varM 6))) nilA))) nilA))) (nameG 7) yesT (tupM (consA (cM (.sym 12)) (consA (varM 7) nilA))))) nilA))) (nameG 5))
      nextS))
    nextS)
    (seqS (retS (tupM (consA (varM 3) (consA (varM 2) (consA (varM 4) (consA (varM 5) nilA))))))
    nextS))))))))))))
theorem b__law_e_named (C : List V) (call : Nat → CM) : blkS (evS 60 30 ((pg C).ctx call t__law_e_named)) t__law_e_named.body = m__law_e_named (TB C) call := by kernel_rfl
def m__law_k82_due (B : Tb) (call : Nat → CM) : SM :=
  (seqS (ifS (bolM (binM neO (binM (itemO B) (varM 0) (cM (.int 0))) (cM (.sym 11))))
    (seqS (retS (cM (.int 1)))
      nextS)
    nextS)
    (seqS (retS (callM (defC call j__law_e_code_steps 1 []) (consA (callM (defC call j__law_m_code 3 []) (consA (binM (itemO B) (binM (itemO B) (lcM false [2] (seqI (binM (itemO B) (varM 0) (cM (.int 8)))) (nameG 2) (bolM (binM eqO (binM (itemO B) (varM 2) (cM (.int 0))) (varM 1))) (varM 2)) (cM (.int 0))) (cM (.int 3))) (consA (cM (.int 0)) (consA (cM (.int 0)) nilA)))) nilA)))
    nextS))
theorem b__law_k82_due (C : List V) (call : Nat → CM) : blkS (evS 60 30 ((pg C).ctx call t__law_k82_due)) t__law_k82_due.body = m__law_k82_due (TB C) call := by kernel_rfl
def m__law_k82_steps (B : Tb) (call : Nat → CM) : SM :=
  (seqS (asgS (callM (defC call j__law_e_object 2 []) (consA (varM 0) (consA (callM (defC call j__law_pick 2 []) (consA (varM 0) (consA (lstM false (consA (cM (.int 2)) (consA (cM (.int 4)) (consA (cM (.int 6)) (consA (cM (.int 8)) (consA (cM (.int 10)) (consA (cM (.int 12)) (consA (cM (.int 6)) (consA (cM (.int 40)) nilA))))))))) nilA))) nilA))) (nameG 1))
    (seqS (asgS (callM (defC call j__law_draw 2 []) (consA (varM 0) (consA (callM (one lenF) (consA (binM (itemO B) (varM 1) (cM (.int 8))) nilA)) nilA))) (nameG 2))
    (seqS (asgS (binM (itemO B) (binM (itemO B) (varM 1) (cM (.int 8))) (varM 2)) (tupG 4 (consG (nameG 6) (consG (nameG 7) (consG (nameG 8) (consG (nameG 9) nilG))))))
    (seqS (asgS (binM (addO false) (slcM (slO false) (varM 1) none (some (cM (.int 8)))) (tupM (consA (binM (addO false) (binM (addO false) (slcM (slO false) (binM (itemO B) (varM 1) (cM (.int 8))) none (some (varM 2))) (tupM (consA (tupM (consA (varM 6) (consA (varM 7) (consA (varM 8) (consA (slcM (slO false) (varM 9) (some (cM (.int 1))) none) nilA))))) nilA))) (slcM (slO false) (binM (itemO B) (varM 1) (cM (.int 8))) (some (binM (addO false) (varM 2) (cM (.int 1)))) none)) nilA))) (nameG 3))
    (seqS (asgS (callM (defC call j__law_k_some_kind 1 []) (consA (varM 0) nilA)) (nameG 4))
    (seqS (asgS (binM (addO false) (lcM false [10] (seqI (binM (itemO B) (varM 1) (cM (.int 8)))) (nameG 10) yesT (tupM (consA (varM 1) (consA (binM (itemO B) (varM 10) (cM (.int 0))) nilA)))) (lstM false (consA (tupM (consA (varM 3) (consA (varM 6) nilA))) (consA (tupM (consA (varM 4) (consA (binM (itemO B) (callM (defC call j__law_pick 2 []) (consA (varM 0) (consA (callM (defC call j__law_k_operations 1 []) (consA (varM 4) nilA)) nilA))) (cM (.int 0))) nilA))) nilA)))) (nameG 5))
    (seqS (asgS (callM (defC call j__law_shuffled 2 []) (consA (varM 0) (consA (varM 5) nilA))) (nameG 5))
    (seqS (forS (seqI (binM (addO false) (varM 5) (slcM (slO false) (varM 5) none (some (cM (.int 2)))))) (tupG 2 (consG (nameG 1) (consG (nameG 6) nilG)))
    (seqS (ifS (notT (truM (callM (defC call j__law_same 2 []) (consA (callM (defC call j_code_steps 2 []) (consA (varM 1) (consA (varM 6) nilA))) (consA (callM (defC call j__law_k82_due 2 []) (consA (varM 1) (consA (varM 6) nilA))) nilA)))))
      (seqS (retS (cM (.bl false)))
        nextS)
      nextS)
      nextS))
    (seqS (retS (cM (.bl true)))
    nextS)))))))))
theorem b__law_k82_steps (C : List V) (call : Nat → CM) : blkS (evS 60 30 ((pg C).ctx call t__law_k82_steps)) t__law_k82_steps.body = m__law_k82_steps (TB C) call := by kernel_rfl
def m__law_k82_asked (B : Tb) (call : Nat → CM) : SM :=
  (seqS (asgS (callM (defC call j__law_e_quiet 4 []) (consA (varM 0) (consA (varM 1) (consA (varM 2) (consA (varM 3) nilA))))) (nameG 4))
    (seqS (ifS (andT (bolM (binM isO (varM 3) (cM .non))) (notT (truM (callM (defC call j__law_same 2 []) (consA (callM (defC call j_quiet_bound 4 [.non]) (consA (varM 0) (consA (varM 1) (consA (varM 2) nilA)))) (consA (varM 4) nilA))))))
    (seqS (retS (cM (.bl false)))
      nextS)
    nextS)
    (seqS (retS (callM (defC call j__law_same 2 []) (consA (kwM 4 (call j_quiet_bound) (consA (varM 0) (consA (varM 1) (consA (varM 2) nilA))) (consA (varM 3) nilA)) (consA (varM 4) nilA))))
    nextS)))
theorem b__law_k82_asked (C : List V) (call : Nat → CM) : blkS (evS 60 30 ((pg C).ctx call t__law_k82_asked)) t__law_k82_asked.body = m__law_k82_asked (TB C) call := by kernel_rfl
def m__law_k82_bounds (B : Tb) (call : Nat → CM) : SM :=
  (seqS (parS [2, 3] (consA (callM (defC call j__law_e_named 1 []) (consA (varM 0) nilA)) (consA (callM (defC call j__law_e_named 1 []) (consA (varM 0) nilA)) nilA)))
    (seqS (asgS (varM 2) (tupG 4 (consG (nameG 4) (consG (nameG 5) (consG (nameG 6) (consG (nameG 7) nilG))))))
    (seqS (asgS (tupM (consA (varM 4) (consA (varM 5) (consA (binM (addO false) (cM (.int 1)) (binM modO (callM (one intF) (consA (varM 6) nilA)) (cM (.int 4)))) (consA (cM .non) nilA))))) (nameG 1))
    (seqS (ifS (andT (bolM (binM isNotO (varM 7) (cM .non))) (bolM (binM eqO (callM (defC call j__law_draw 2 []) (consA (varM 0) (consA (cM (.int 2)) nilA))) (cM (.int 0)))))
    (seqS (asgS (tupM (consA (varM 4) (consA (varM 5) (consA (varM 6) (consA (callM (defC call j__law_pick 2 []) (consA (varM 0) (consA (lstM false (consA (tupM (consA (cM (.sym 49)) nilA)) (consA (tupM (consA (cM (.sym 13)) nilA)) (consA (tupM (consA (cM (.sym 104)) nilA)) nilA)))) nilA))) nilA))))) (nameG 1))
      nextS)
    nextS)
    (seqS (forS (seqI (lstM false (consA (varM 2) (consA (varM 1) (consA (varM 3) (consA (varM 2) nilA)))))) (tupG 4 (consG (nameG 4) (consG (nameG 5) (consG (nameG 6) (consG (nameG 7) nilG)))))
    (seqS (ifS (notT (truM (callM (defC call j__law_k82_asked 4 []) (consA (varM 4) (consA (varM 5) (consA (varM 6) (consA (varM 7) nilA)))))))
      (seqS (retS (cM (.bl false)))
        nextS)
      nextS)
      nextS))
    (seqS (retS (cM (.bl true)))
    nextS))))))
theorem b__law_k82_bounds (C : List V) (call : Nat → CM) : blkS (evS 60 30 ((pg C).ctx call t__law_k82_bounds)) t__law_k82_bounds.body = m__law_k82_bounds (TB C) call := by kernel_rfl
def m_law (B : Tb) (call : Nat → CM) : SM :=
  (seqS (asgS (callM (defC call j__law_tape 1 []) (consA (varM 0) nilA)) (nameG 1))
    (seqS (forS (seqI (callM (defC call j__law_turns 2 []) (consA (varM 1) (consA (cM (.int 2)) nilA)))) (nameG 2)
    (seqS (ifS (andT (bolM (binM eqO (varM 2) (cM (.int 0)))) (notT (truM (callM (defC call j__law_k82_steps 1 []) (consA (varM 1) nilA)))))
      (seqS (retS (cM (.bl false)))
        nextS)
      nextS)
      (seqS (ifS (andT (bolM (binM eqO (varM 2) (cM (.int 1)))) (notT (andT (truM (callM (defC call j__law_k82_bounds 1 []) (consA (varM 1) nilA))) (truM (callM (defC call j__law_k82_bounds 1 []) (consA (varM 1) nilA))))))
      (seqS (retS (cM (.bl false)))
        nextS)
      nextS)
      nextS)))
    (seqS (retS (cM (.bl true)))
    nextS)))
theorem b_law (C : List V) (call : Nat → CM) : blkS (evS 60 30 ((pg C).ctx call t_law)) t_law.body = m_law (TB C) call := by kernel_rfl
end H82
set_option Elab.async false
set_option linter.all false
set_option maxRecDepth 100000
set_option maxHeartbeats 0
set_option autoImplicit false
namespace H82
open PySem PySem.Spec PyProof.Rows L2 Mn He
def argsOf : Stmt → Arguments
  | .FunctionDef (args := b) .. => b
  | _ => { posonlyargs := [], args := [], vararg := none, kwonlyargs := [], kw_defaults := [], kwarg := none, defaults := [] }
def d_add_body : DefD := ⟨((Str.ofString "add_body"), none), (Str.ofString "add_body"), (Str.ofString "add_body"), argsOf (dAt 2), bodyOf (dAt 2), scopeOf (dAt 2), [], []⟩
def d_add_choice : DefD := ⟨((Str.ofString "add_choice"), none), (Str.ofString "add_choice"), (Str.ofString "add_choice"), argsOf (dAt 3), bodyOf (dAt 3), scopeOf (dAt 3), [], []⟩
def d_add_loop : DefD := ⟨((Str.ofString "add_loop"), none), (Str.ofString "add_loop"), (Str.ofString "add_loop"), argsOf (dAt 4), bodyOf (dAt 4), scopeOf (dAt 4), [], []⟩
def d_translated : DefD := ⟨((Str.ofString "translated"), none), (Str.ofString "translated"), (Str.ofString "translated"), argsOf (dAt 5), bodyOf (dAt 5), scopeOf (dAt 5), [], []⟩
def d_is_local_instruction : DefD := ⟨((Str.ofString "is_local_instruction"), none), (Str.ofString "is_local_instruction"), (Str.ofString "is_local_instruction"), argsOf (dAt 6), bodyOf (dAt 6), scopeOf (dAt 6), [], []⟩
def d_ways : DefD := ⟨((Str.ofString "ways"), none), (Str.ofString "ways"), (Str.ofString "ways"), argsOf (dAt 7), bodyOf (dAt 7), scopeOf (dAt 7), [], []⟩
def d_is_structure : DefD := ⟨((Str.ofString "is_structure"), none), (Str.ofString "is_structure"), (Str.ofString "is_structure"), argsOf (dAt 10), bodyOf (dAt 10), scopeOf (dAt 10), [], []⟩
def d_step_count : DefD := ⟨((Str.ofString "step_count"), none), (Str.ofString "step_count"), (Str.ofString "step_count"), argsOf (dAt 15), bodyOf (dAt 15), scopeOf (dAt 15), [], []⟩
def d_longest_way : DefD := ⟨((Str.ofString "longest_way"), none), (Str.ofString "longest_way"), (Str.ofString "longest_way"), argsOf (dAt 16), bodyOf (dAt 16), scopeOf (dAt 16), [], []⟩
def d_code_steps : DefD := ⟨((Str.ofString "code_steps"), none), (Str.ofString "code_steps"), (Str.ofString "code_steps"), argsOf (dAt 17), bodyOf (dAt 17), scopeOf (dAt 17), [], []⟩
def d_costs_of : DefD := ⟨((Str.ofString "costs_of"), none), (Str.ofString "costs_of"), (Str.ofString "costs_of"), argsOf (dAt 18), bodyOf (dAt 18), scopeOf (dAt 18), [], []⟩
def d_plain_bound : DefD := ⟨((Str.ofString "plain_bound"), none), (Str.ofString "plain_bound"), (Str.ofString "plain_bound"), argsOf (dAt 19), bodyOf (dAt 19), scopeOf (dAt 19), [], []⟩
def d_quiet_bound : DefD := ⟨((Str.ofString "quiet_bound"), none), (Str.ofString "quiet_bound"), (Str.ofString "quiet_bound"), argsOf (dAt 20), bodyOf (dAt 20), scopeOf (dAt 20), [], [((Str.ofString "reclaimer"), .non)]⟩
def d__law_tape : DefD := ⟨((Str.ofString "_law_tape"), none), (Str.ofString "_law_tape"), (Str.ofString "_law_tape"), argsOf (dAt 22), bodyOf (dAt 22), scopeOf (dAt 22), [], []⟩
def d__law_draw : DefD := ⟨((Str.ofString "_law_draw"), none), (Str.ofString "_law_draw"), (Str.ofString "_law_draw"), argsOf (dAt 23), bodyOf (dAt 23), scopeOf (dAt 23), [], []⟩
def d__law_pick : DefD := ⟨((Str.ofString "_law_pick"), none), (Str.ofString "_law_pick"), (Str.ofString "_law_pick"), argsOf (dAt 24), bodyOf (dAt 24), scopeOf (dAt 24), [], []⟩
def d__law_turns : DefD := ⟨((Str.ofString "_law_turns"), none), (Str.ofString "_law_turns"), (Str.ofString "_law_turns"), argsOf (dAt 25), bodyOf (dAt 25), scopeOf (dAt 25), [], []⟩
def d__law_shuffled : DefD := ⟨((Str.ofString "_law_shuffled"), none), (Str.ofString "_law_shuffled"), (Str.ofString "_law_shuffled"), argsOf (dAt 26), bodyOf (dAt 26), scopeOf (dAt 26), [], []⟩
def d__law_same : DefD := ⟨((Str.ofString "_law_same"), none), (Str.ofString "_law_same"), (Str.ofString "_law_same"), argsOf (dAt 27), bodyOf (dAt 27), scopeOf (dAt 27), [], []⟩
def d__law_all_words : DefD := ⟨((Str.ofString "_law_all_words"), none), (Str.ofString "_law_all_words"), (Str.ofString "_law_all_words"), argsOf (dAt 28), bodyOf (dAt 28), scopeOf (dAt 28), [], []⟩
def d__law_word : DefD := ⟨((Str.ofString "_law_word"), none), (Str.ofString "_law_word"), (Str.ofString "_law_word"), argsOf (dAt 29), bodyOf (dAt 29), scopeOf (dAt 29), [], []⟩
def d__law_value : DefD := ⟨((Str.ofString "_law_value"), none), (Str.ofString "_law_value"), (Str.ofString "_law_value"), argsOf (dAt 30), bodyOf (dAt 30), scopeOf (dAt 30), [], []⟩
def d__law_size : DefD := ⟨((Str.ofString "_law_size"), none), (Str.ofString "_law_size"), (Str.ofString "_law_size"), argsOf (dAt 31), bodyOf (dAt 31), scopeOf (dAt 31), [], []⟩
def d__law_term_of : DefD := ⟨((Str.ofString "_law_term_of"), none), (Str.ofString "_law_term_of"), (Str.ofString "_law_term_of"), argsOf (dAt 32), bodyOf (dAt 32), scopeOf (dAt 32), [], []⟩
def d__law_small : DefD := ⟨((Str.ofString "_law_small"), none), (Str.ofString "_law_small"), (Str.ofString "_law_small"), argsOf (dAt 33), bodyOf (dAt 33), scopeOf (dAt 33), [], []⟩
def d__law_location : DefD := ⟨((Str.ofString "_law_location"), none), (Str.ofString "_law_location"), (Str.ofString "_law_location"), argsOf (dAt 34), bodyOf (dAt 34), scopeOf (dAt 34), [], []⟩
def d__law_step_of : DefD := ⟨((Str.ofString "_law_step_of"), none), (Str.ofString "_law_step_of"), (Str.ofString "_law_step_of"), argsOf (dAt 35), bodyOf (dAt 35), scopeOf (dAt 35), [], []⟩
def d__law_step : DefD := ⟨((Str.ofString "_law_step"), none), (Str.ofString "_law_step"), (Str.ofString "_law_step"), argsOf (dAt 36), bodyOf (dAt 36), scopeOf (dAt 36), [], []⟩
def d__law_local : DefD := ⟨((Str.ofString "_law_local"), none), (Str.ofString "_law_local"), (Str.ofString "_law_local"), argsOf (dAt 37), bodyOf (dAt 37), scopeOf (dAt 37), [], []⟩
def d__law_many : DefD := ⟨((Str.ofString "_law_many"), none), (Str.ofString "_law_many"), (Str.ofString "_law_many"), argsOf (dAt 38), bodyOf (dAt 38), scopeOf (dAt 38), [], []⟩
def d__law_body : DefD := ⟨((Str.ofString "_law_body"), none), (Str.ofString "_law_body"), (Str.ofString "_law_body"), argsOf (dAt 39), bodyOf (dAt 39), scopeOf (dAt 39), [], []⟩
def d__law_m_long : DefD := ⟨((Str.ofString "_law_m_long"), none), (Str.ofString "_law_m_long"), (Str.ofString "_law_m_long"), argsOf (dAt 40), bodyOf (dAt 40), scopeOf (dAt 40), [], []⟩
def d__law_m_code : DefD := ⟨((Str.ofString "_law_m_code"), none), (Str.ofString "_law_m_code"), (Str.ofString "_law_m_code"), argsOf (dAt 41), bodyOf (dAt 41), scopeOf (dAt 41), [], []⟩
def d__law_k_operations : DefD := ⟨((Str.ofString "_law_k_operations"), none), (Str.ofString "_law_k_operations"), (Str.ofString "_law_k_operations"), argsOf (dAt 42), bodyOf (dAt 42), scopeOf (dAt 42), [], []⟩
def d__law_k_some_kind : DefD := ⟨((Str.ofString "_law_k_some_kind"), none), (Str.ofString "_law_k_some_kind"), (Str.ofString "_law_k_some_kind"), argsOf (dAt 43), bodyOf (dAt 43), scopeOf (dAt 43), [], []⟩
def d__law_k_some_table : DefD := ⟨((Str.ofString "_law_k_some_table"), none), (Str.ofString "_law_k_some_table"), (Str.ofString "_law_k_some_table"), argsOf (dAt 44), bodyOf (dAt 44), scopeOf (dAt 44), [], []⟩
def d__law_e_object : DefD := ⟨((Str.ofString "_law_e_object"), none), (Str.ofString "_law_e_object"), (Str.ofString "_law_e_object"), argsOf (dAt 45), bodyOf (dAt 45), scopeOf (dAt 45), [], []⟩
def d__law_e_ways : DefD := ⟨((Str.ofString "_law_e_ways"), none), (Str.ofString "_law_e_ways"), (Str.ofString "_law_e_ways"), argsOf (dAt 46), bodyOf (dAt 46), scopeOf (dAt 46), [], []⟩
def d__law_e_code_steps : DefD := ⟨((Str.ofString "_law_e_code_steps"), none), (Str.ofString "_law_e_code_steps"), (Str.ofString "_law_e_code_steps"), argsOf (dAt 47), bodyOf (dAt 47), scopeOf (dAt 47), [], []⟩
def d__law_e_quiet : DefD := ⟨((Str.ofString "_law_e_quiet"), none), (Str.ofString "_law_e_quiet"), (Str.ofString "_law_e_quiet"), argsOf (dAt 48), bodyOf (dAt 48), scopeOf (dAt 48), [], []⟩
def d__law_e_named : DefD := ⟨((Str.ofString "_law_e_named"), none), (Str.ofString "_law_e_named"), (Str.ofString "_law_e_named"), argsOf (dAt 49), bodyOf (dAt 49), scopeOf (dAt 49), [], []⟩
def d__law_k82_due : DefD := ⟨((Str.ofString "_law_k82_due"), none), (Str.ofString "_law_k82_due"), (Str.ofString "_law_k82_due"), argsOf (dAt 50), bodyOf (dAt 50), scopeOf (dAt 50), [], []⟩
def d__law_k82_steps : DefD := ⟨((Str.ofString "_law_k82_steps"), none), (Str.ofString "_law_k82_steps"), (Str.ofString "_law_k82_steps"), argsOf (dAt 51), bodyOf (dAt 51), scopeOf (dAt 51), [], []⟩
def d__law_k82_asked : DefD := ⟨((Str.ofString "_law_k82_asked"), none), (Str.ofString "_law_k82_asked"), (Str.ofString "_law_k82_asked"), argsOf (dAt 52), bodyOf (dAt 52), scopeOf (dAt 52), [], []⟩
def d__law_k82_bounds : DefD := ⟨((Str.ofString "_law_k82_bounds"), none), (Str.ofString "_law_k82_bounds"), (Str.ofString "_law_k82_bounds"), argsOf (dAt 53), bodyOf (dAt 53), scopeOf (dAt 53), [], []⟩
def d_law : DefD := ⟨((Str.ofString "law"), none), (Str.ofString "law"), (Str.ofString "law"), argsOf (dAt 54), bodyOf (dAt 54), scopeOf (dAt 54), [], []⟩
def fn : List DefD := [d_add_body, d_add_choice, d_add_loop, d_translated, d_is_local_instruction, d_ways, d_is_structure, d_step_count, d_longest_way, d_code_steps, d_costs_of, d_plain_bound, d_quiet_bound, d__law_tape, d__law_draw, d__law_pick, d__law_turns, d__law_shuffled, d__law_same, d__law_all_words, d__law_word, d__law_value, d__law_size, d__law_term_of, d__law_small, d__law_location, d__law_step_of, d__law_step, d__law_local, d__law_many, d__law_body, d__law_m_long, d__law_m_code, d__law_k_operations, d__law_k_some_kind, d__law_k_some_table, d__law_e_object, d__law_e_ways, d__law_e_code_steps, d__law_e_quiet, d__law_e_named, d__law_k82_due, d__law_k82_steps, d__law_k82_asked, d__law_k82_bounds, d_law]
def fa : List Fa := [.glo (Str.ofString "add_body"), .glo (Str.ofString "add_choice"), .glo (Str.ofString "add_loop"), .glo (Str.ofString "translated"), .glo (Str.ofString "is_local_instruction"), .glo (Str.ofString "ways"), .glo (Str.ofString "is_structure"), .glo (Str.ofString "step_count"), .glo (Str.ofString "longest_way"), .glo (Str.ofString "code_steps"), .glo (Str.ofString "costs_of"), .glo (Str.ofString "plain_bound"), .glo (Str.ofString "quiet_bound"), .glo (Str.ofString "_law_tape"), .glo (Str.ofString "_law_draw"), .glo (Str.ofString "_law_pick"), .glo (Str.ofString "_law_turns"), .glo (Str.ofString "_law_shuffled"), .glo (Str.ofString "_law_same"), .glo (Str.ofString "_law_all_words"), .glo (Str.ofString "_law_word"), .glo (Str.ofString "_law_value"), .glo (Str.ofString "_law_size"), .glo (Str.ofString "_law_term_of"), .glo (Str.ofString "_law_small"), .glo (Str.ofString "_law_location"), .glo (Str.ofString "_law_step_of"), .glo (Str.ofString "_law_step"), .glo (Str.ofString "_law_local"), .glo (Str.ofString "_law_many"), .glo (Str.ofString "_law_body"), .glo (Str.ofString "_law_m_long"), .glo (Str.ofString "_law_m_code"), .glo (Str.ofString "_law_k_operations"), .glo (Str.ofString "_law_k_some_kind"), .glo (Str.ofString "_law_k_some_table"), .glo (Str.ofString "_law_e_object"), .glo (Str.ofString "_law_e_ways"), .glo (Str.ofString "_law_e_code_steps"), .glo (Str.ofString "_law_e_quiet"), .glo (Str.ofString "_law_e_named"), .glo (Str.ofString "_law_k82_due"), .glo (Str.ofString "_law_k82_steps"), .glo (Str.ofString "_law_k82_asked"), .glo (Str.ofString "_law_k82_bounds"), .glo (Str.ofString "law"), .free (Str.ofString "abs"), .free (Str.ofString "bool"), .free (Str.ofString "int"), .free (Str.ofString "isinstance"), .free (Str.ofString "len"), .free (Str.ofString "list"), .free (Str.ofString "max"), .free (Str.ofString "min"), .free (Str.ofString "range"), .free (Str.ofString "reversed"), .free (Str.ofString "sorted"), .free (Str.ofString "str"), .free (Str.ofString "sum"), .free (Str.ofString "tuple")]
def ts : List Tab := [((fun K => ga K (Str.ofString "SLOTS")), [(Str.ofString "copy_pair"), (Str.ofString "linked_stack"), (Str.ofString "linked_queue")])]
def Cs (K : PySem.W.Frag) : List V := [V.ref (ga K (Str.ofString "SLOTS"))]
def glc : List (Str × D) := [((Str.ofString "LOCAL"), gc_LOCAL), ((Str.ofString "OPERATIONS"), gc_OPERATIONS), ((Str.ofString "NO_BOUND"), gc_NO_BOUND), ((Str.ofString "SLOTS"), gc_SLOTS), ((Str.ofString "KEEP_COSTS"), gc_KEEP_COSTS)]
def cds : List ((PySem.W.Frag → Addr) × List (Nat × D)) := [((fun K => ga K (Str.ofString "SLOTS")), CD.getD 0 [])]
def ck (K : PySem.W.Frag) : Bool := ckM T Cs glc cds K
section
variable {K : PySem.W.Frag} {w : World} {mg : Str → Option Value} {h : Heap}
theorem g_add_body (c : SaysM fa fn ts ck w K) (X : K.In h) (G : h.Ns mainGlobals mg) : FnGood (pg (Cs K)) K mg (Str.ofString "add_body") 0 3 [] none := by
  obtain ⟨fd, F⟩ := c.t.d.def_ 0 (d := d_add_body) rfl
  exact fn_good (t := t_add_body) (ps := [(Str.ofString "code"), (Str.ofString "body"), (Str.ofString "breaks")]) X G (c.t.d.fact 0 (f := .glo (Str.ofString "add_body")) rfl) F rfl rfl (by decide +kernel) ⟨[], .nil, FunD.bindsN F fun _ _ _ _ _ _ us hl => match us, hl with | [_, _, _], _ => rfl⟩ (fun _ _ => rfl) (fun _ z => nomatch z)
theorem g_add_choice (c : SaysM fa fn ts ck w K) (X : K.In h) (G : h.Ns mainGlobals mg) : FnGood (pg (Cs K)) K mg (Str.ofString "add_choice") 1 3 [] none := by
  obtain ⟨fd, F⟩ := c.t.d.def_ 1 (d := d_add_choice) rfl
  exact fn_good (t := t_add_choice) (ps := [(Str.ofString "code"), (Str.ofString "statement"), (Str.ofString "breaks")]) X G (c.t.d.fact 1 (f := .glo (Str.ofString "add_choice")) rfl) F rfl rfl (by decide +kernel) ⟨[], .nil, FunD.bindsN F fun _ _ _ _ _ _ us hl => match us, hl with | [_, _, _], _ => rfl⟩ (fun _ _ => rfl) (fun _ z => nomatch z)
theorem g_add_loop (c : SaysM fa fn ts ck w K) (X : K.In h) (G : h.Ns mainGlobals mg) : FnGood (pg (Cs K)) K mg (Str.ofString "add_loop") 2 2 [] none := by
  obtain ⟨fd, F⟩ := c.t.d.def_ 2 (d := d_add_loop) rfl
  exact fn_good (t := t_add_loop) (ps := [(Str.ofString "code"), (Str.ofString "body")]) X G (c.t.d.fact 2 (f := .glo (Str.ofString "add_loop")) rfl) F rfl rfl (by decide +kernel) ⟨[], .nil, FunD.bindsN F fun _ _ _ _ _ _ us hl => match us, hl with | [_, _], _ => rfl⟩ (fun _ _ => rfl) (fun _ z => nomatch z)
theorem g_translated (c : SaysM fa fn ts ck w K) (X : K.In h) (G : h.Ns mainGlobals mg) : FnGood (pg (Cs K)) K mg (Str.ofString "translated") 3 1 [] none := by
  obtain ⟨fd, F⟩ := c.t.d.def_ 3 (d := d_translated) rfl
  exact fn_good (t := t_translated) (ps := [(Str.ofString "body")]) X G (c.t.d.fact 3 (f := .glo (Str.ofString "translated")) rfl) F rfl rfl (by decide +kernel) ⟨[], .nil, FunD.bindsN F fun _ _ _ _ _ _ us hl => match us, hl with | [_], _ => rfl⟩ (fun _ _ => rfl) (fun _ z => nomatch z)
theorem g_is_local_instruction (c : SaysM fa fn ts ck w K) (X : K.In h) (G : h.Ns mainGlobals mg) : FnGood (pg (Cs K)) K mg (Str.ofString "is_local_instruction") 4 1 [] none := by
  obtain ⟨fd, F⟩ := c.t.d.def_ 4 (d := d_is_local_instruction) rfl
  exact fn_good (t := t_is_local_instruction) (ps := [(Str.ofString "instruction")]) X G (c.t.d.fact 4 (f := .glo (Str.ofString "is_local_instruction")) rfl) F rfl rfl (by decide +kernel) ⟨[], .nil, FunD.bindsN F fun _ _ _ _ _ _ us hl => match us, hl with | [_], _ => rfl⟩ (fun _ _ => rfl) (fun _ z => nomatch z)
theorem g_ways (c : SaysM fa fn ts ck w K) (X : K.In h) (G : h.Ns mainGlobals mg) : FnGood (pg (Cs K)) K mg (Str.ofString "ways") 5 2 [] none := by
  obtain ⟨fd, F⟩ := c.t.d.def_ 5 (d := d_ways) rfl
  exact fn_good (t := t_ways) (ps := [(Str.ofString "code"), (Str.ofString "place")]) X G (c.t.d.fact 5 (f := .glo (Str.ofString "ways")) rfl) F rfl rfl (by decide +kernel) ⟨[], .nil, FunD.bindsN F fun _ _ _ _ _ _ us hl => match us, hl with | [_, _], _ => rfl⟩ (fun _ _ => rfl) (fun _ z => nomatch z)
theorem g_is_structure (c : SaysM fa fn ts ck w K) (X : K.In h) (G : h.Ns mainGlobals mg) : FnGood (pg (Cs K)) K mg (Str.ofString "is_structure") 6 1 [] none := by
  obtain ⟨fd, F⟩ := c.t.d.def_ 6 (d := d_is_structure) rfl
  exact fn_good (t := t_is_structure) (ps := [(Str.ofString "how")]) X G (c.t.d.fact 6 (f := .glo (Str.ofString "is_structure")) rfl) F rfl rfl (by decide +kernel) ⟨[], .nil, FunD.bindsN F fun _ _ _ _ _ _ us hl => match us, hl with | [_], _ => rfl⟩ (fun _ _ => rfl) (fun _ z => nomatch z)
theorem g_step_count (c : SaysM fa fn ts ck w K) (X : K.In h) (G : h.Ns mainGlobals mg) : FnGood (pg (Cs K)) K mg (Str.ofString "step_count") 7 1 [] none := by
  obtain ⟨fd, F⟩ := c.t.d.def_ 7 (d := d_step_count) rfl
  exact fn_good (t := t_step_count) (ps := [(Str.ofString "instruction")]) X G (c.t.d.fact 7 (f := .glo (Str.ofString "step_count")) rfl) F rfl rfl (by decide +kernel) ⟨[], .nil, FunD.bindsN F fun _ _ _ _ _ _ us hl => match us, hl with | [_], _ => rfl⟩ (fun _ _ => rfl) (fun _ z => nomatch z)
theorem g_longest_way (c : SaysM fa fn ts ck w K) (X : K.In h) (G : h.Ns mainGlobals mg) : FnGood (pg (Cs K)) K mg (Str.ofString "longest_way") 8 1 [] none := by
  obtain ⟨fd, F⟩ := c.t.d.def_ 8 (d := d_longest_way) rfl
  exact fn_good (t := t_longest_way) (ps := [(Str.ofString "code")]) X G (c.t.d.fact 8 (f := .glo (Str.ofString "longest_way")) rfl) F rfl rfl (by decide +kernel) ⟨[], .nil, FunD.bindsN F fun _ _ _ _ _ _ us hl => match us, hl with | [_], _ => rfl⟩ (fun _ _ => rfl) (fun _ z => nomatch z)
theorem g_code_steps (c : SaysM fa fn ts ck w K) (X : K.In h) (G : h.Ns mainGlobals mg) : FnGood (pg (Cs K)) K mg (Str.ofString "code_steps") 9 2 [] none := by
  obtain ⟨fd, F⟩ := c.t.d.def_ 9 (d := d_code_steps) rfl
  exact fn_good (t := t_code_steps) (ps := [(Str.ofString "how"), (Str.ofString "word")]) X G (c.t.d.fact 9 (f := .glo (Str.ofString "code_steps")) rfl) F rfl rfl (by decide +kernel) ⟨[], .nil, FunD.bindsN F fun _ _ _ _ _ _ us hl => match us, hl with | [_, _], _ => rfl⟩ (fun _ _ => rfl) (fun _ z => nomatch z)
theorem g_costs_of (c : SaysM fa fn ts ck w K) (X : K.In h) (G : h.Ns mainGlobals mg) : FnGood (pg (Cs K)) K mg (Str.ofString "costs_of") 10 4 [] none := by
  obtain ⟨fd, F⟩ := c.t.d.def_ 10 (d := d_costs_of) rfl
  exact fn_good (t := t_costs_of) (ps := [(Str.ofString "reclaimer"), (Str.ofString "threads"), (Str.ofString "slots"), (Str.ofString "room")]) X G (c.t.d.fact 10 (f := .glo (Str.ofString "costs_of")) rfl) F rfl rfl (by decide +kernel) ⟨[], .nil, FunD.bindsN F fun _ _ _ _ _ _ us hl => match us, hl with | [_, _, _, _], _ => rfl⟩ (fun _ _ => rfl) (fun _ z => nomatch z)
theorem g_plain_bound (c : SaysM fa fn ts ck w K) (X : K.In h) (G : h.Ns mainGlobals mg) : FnGood (pg (Cs K)) K mg (Str.ofString "plain_bound") 11 3 [] none := by
  obtain ⟨fd, F⟩ := c.t.d.def_ 11 (d := d_plain_bound) rfl
  exact fn_good (t := t_plain_bound) (ps := [(Str.ofString "name"), (Str.ofString "number"), (Str.ofString "threads")]) X G (c.t.d.fact 11 (f := .glo (Str.ofString "plain_bound")) rfl) F rfl rfl (by decide +kernel) ⟨[], .nil, FunD.bindsN F fun _ _ _ _ _ _ us hl => match us, hl with | [_, _, _], _ => rfl⟩ (fun _ _ => rfl) (fun _ z => nomatch z)
theorem g_quiet_bound (c : SaysM fa fn ts ck w K) (X : K.In h) (G : h.Ns mainGlobals mg) : FnGood (pg (Cs K)) K mg (Str.ofString "quiet_bound") 12 4 [.non] (some (Str.ofString "reclaimer")) := by
  obtain ⟨fd, F⟩ := c.t.d.def_ 12 (d := d_quiet_bound) rfl
  obtain ⟨ds, v1, v2⟩ := FunD.binds0 (ps := [(Str.ofString "name"), (Str.ofString "number"), (Str.ofString "threads"), (Str.ofString "reclaimer")]) F 3 (by exact List.cons_ne_nil _ _) rfl fun D _ _ _ _ _ us ks hl hk => match us, ks, hl, hk with | [_, _, _], [_], _, _ => ⟨_, _, _, _, _, _, rfl, rfl, rfl⟩
  obtain ⟨mv, kb⟩ := FunD.kbinds0 (ps := [(Str.ofString "name"), (Str.ofString "number"), (Str.ofString "threads"), (Str.ofString "reclaimer")]) F 3 [(Str.ofString "reclaimer")] [] (fun us _ ws => us ++ ws) (by exact List.cons_ne_nil _ _) (fun _ z => nomatch z) (fun r1 _ r2 => r1.append r2) fun D _ _ _ _ _ us mv ws hl hm hw => match us, mv, ws, hl, hm, hw with | [_, _, _], [], [_], _, _, _ => rfl
  exact fn_good (t := t_quiet_bound) (ps := [(Str.ofString "name"), (Str.ofString "number"), (Str.ofString "threads"), (Str.ofString "reclaimer")]) X G (c.t.d.fact 12 (f := .glo (Str.ofString "quiet_bound")) rfl) F rfl rfl (by decide +kernel) ⟨ds, v1, v2⟩ (fun _ _ => ⟨.non, [], rfl, rfl, rfl⟩) (fun kx e => by cases e; exact kb)
theorem g__law_tape (c : SaysM fa fn ts ck w K) (X : K.In h) (G : h.Ns mainGlobals mg) : FnGood (pg (Cs K)) K mg (Str.ofString "_law_tape") 13 1 [] none := by
  obtain ⟨fd, F⟩ := c.t.d.def_ 13 (d := d__law_tape) rfl
  exact fn_good (t := t__law_tape) (ps := [(Str.ofString "script")]) X G (c.t.d.fact 13 (f := .glo (Str.ofString "_law_tape")) rfl) F rfl rfl (by decide +kernel) ⟨[], .nil, FunD.bindsN F fun _ _ _ _ _ _ us hl => match us, hl with | [_], _ => rfl⟩ (fun _ _ => rfl) (fun _ z => nomatch z)
theorem g__law_draw (c : SaysM fa fn ts ck w K) (X : K.In h) (G : h.Ns mainGlobals mg) : FnGood (pg (Cs K)) K mg (Str.ofString "_law_draw") 14 2 [] none := by
  obtain ⟨fd, F⟩ := c.t.d.def_ 14 (d := d__law_draw) rfl
  exact fn_good (t := t__law_draw) (ps := [(Str.ofString "tape"), (Str.ofString "count")]) X G (c.t.d.fact 14 (f := .glo (Str.ofString "_law_draw")) rfl) F rfl rfl (by decide +kernel) ⟨[], .nil, FunD.bindsN F fun _ _ _ _ _ _ us hl => match us, hl with | [_, _], _ => rfl⟩ (fun _ _ => rfl) (fun _ z => nomatch z)
theorem g__law_pick (c : SaysM fa fn ts ck w K) (X : K.In h) (G : h.Ns mainGlobals mg) : FnGood (pg (Cs K)) K mg (Str.ofString "_law_pick") 15 2 [] none := by
  obtain ⟨fd, F⟩ := c.t.d.def_ 15 (d := d__law_pick) rfl
  exact fn_good (t := t__law_pick) (ps := [(Str.ofString "tape"), (Str.ofString "menu")]) X G (c.t.d.fact 15 (f := .glo (Str.ofString "_law_pick")) rfl) F rfl rfl (by decide +kernel) ⟨[], .nil, FunD.bindsN F fun _ _ _ _ _ _ us hl => match us, hl with | [_, _], _ => rfl⟩ (fun _ _ => rfl) (fun _ z => nomatch z)
theorem g__law_turns (c : SaysM fa fn ts ck w K) (X : K.In h) (G : h.Ns mainGlobals mg) : FnGood (pg (Cs K)) K mg (Str.ofString "_law_turns") 16 2 [] none := by
  obtain ⟨fd, F⟩ := c.t.d.def_ 16 (d := d__law_turns) rfl
  exact fn_good (t := t__law_turns) (ps := [(Str.ofString "tape"), (Str.ofString "count")]) X G (c.t.d.fact 16 (f := .glo (Str.ofString "_law_turns")) rfl) F rfl rfl (by decide +kernel) ⟨[], .nil, FunD.bindsN F fun _ _ _ _ _ _ us hl => match us, hl with | [_, _], _ => rfl⟩ (fun _ _ => rfl) (fun _ z => nomatch z)
theorem g__law_shuffled (c : SaysM fa fn ts ck w K) (X : K.In h) (G : h.Ns mainGlobals mg) : FnGood (pg (Cs K)) K mg (Str.ofString "_law_shuffled") 17 2 [] none := by
  obtain ⟨fd, F⟩ := c.t.d.def_ 17 (d := d__law_shuffled) rfl
  exact fn_good (t := t__law_shuffled) (ps := [(Str.ofString "tape"), (Str.ofString "menu")]) X G (c.t.d.fact 17 (f := .glo (Str.ofString "_law_shuffled")) rfl) F rfl rfl (by decide +kernel) ⟨[], .nil, FunD.bindsN F fun _ _ _ _ _ _ us hl => match us, hl with | [_, _], _ => rfl⟩ (fun _ _ => rfl) (fun _ z => nomatch z)
theorem g__law_same (c : SaysM fa fn ts ck w K) (X : K.In h) (G : h.Ns mainGlobals mg) : FnGood (pg (Cs K)) K mg (Str.ofString "_law_same") 18 2 [] none := by
  obtain ⟨fd, F⟩ := c.t.d.def_ 18 (d := d__law_same) rfl
  exact fn_good (t := t__law_same) (ps := [(Str.ofString "told"), (Str.ofString "wanted")]) X G (c.t.d.fact 18 (f := .glo (Str.ofString "_law_same")) rfl) F rfl rfl (by decide +kernel) ⟨[], .nil, FunD.bindsN F fun _ _ _ _ _ _ us hl => match us, hl with | [_, _], _ => rfl⟩ (fun _ _ => rfl) (fun _ z => nomatch z)
theorem g__law_all_words (c : SaysM fa fn ts ck w K) (X : K.In h) (G : h.Ns mainGlobals mg) : FnGood (pg (Cs K)) K mg (Str.ofString "_law_all_words") 19 0 [] none := by
  obtain ⟨fd, F⟩ := c.t.d.def_ 19 (d := d__law_all_words) rfl
  exact fn_good (t := t__law_all_words) (ps := []) X G (c.t.d.fact 19 (f := .glo (Str.ofString "_law_all_words")) rfl) F rfl rfl (by decide +kernel) ⟨[], .nil, FunD.bindsN F fun _ _ _ _ _ _ us hl => match us, hl with | [], _ => rfl⟩ (fun _ _ => rfl) (fun _ z => nomatch z)
theorem g__law_word (c : SaysM fa fn ts ck w K) (X : K.In h) (G : h.Ns mainGlobals mg) : FnGood (pg (Cs K)) K mg (Str.ofString "_law_word") 20 1 [] none := by
  obtain ⟨fd, F⟩ := c.t.d.def_ 20 (d := d__law_word) rfl
  exact fn_good (t := t__law_word) (ps := [(Str.ofString "tape")]) X G (c.t.d.fact 20 (f := .glo (Str.ofString "_law_word")) rfl) F rfl rfl (by decide +kernel) ⟨[], .nil, FunD.bindsN F fun _ _ _ _ _ _ us hl => match us, hl with | [_], _ => rfl⟩ (fun _ _ => rfl) (fun _ z => nomatch z)
theorem g__law_value (c : SaysM fa fn ts ck w K) (X : K.In h) (G : h.Ns mainGlobals mg) : FnGood (pg (Cs K)) K mg (Str.ofString "_law_value") 21 1 [] none := by
  obtain ⟨fd, F⟩ := c.t.d.def_ 21 (d := d__law_value) rfl
  exact fn_good (t := t__law_value) (ps := [(Str.ofString "tape")]) X G (c.t.d.fact 21 (f := .glo (Str.ofString "_law_value")) rfl) F rfl rfl (by decide +kernel) ⟨[], .nil, FunD.bindsN F fun _ _ _ _ _ _ us hl => match us, hl with | [_], _ => rfl⟩ (fun _ _ => rfl) (fun _ z => nomatch z)
theorem g__law_size (c : SaysM fa fn ts ck w K) (X : K.In h) (G : h.Ns mainGlobals mg) : FnGood (pg (Cs K)) K mg (Str.ofString "_law_size") 22 1 [] none := by
  obtain ⟨fd, F⟩ := c.t.d.def_ 22 (d := d__law_size) rfl
  exact fn_good (t := t__law_size) (ps := [(Str.ofString "term")]) X G (c.t.d.fact 22 (f := .glo (Str.ofString "_law_size")) rfl) F rfl rfl (by decide +kernel) ⟨[], .nil, FunD.bindsN F fun _ _ _ _ _ _ us hl => match us, hl with | [_], _ => rfl⟩ (fun _ _ => rfl) (fun _ z => nomatch z)
theorem g__law_term_of (c : SaysM fa fn ts ck w K) (X : K.In h) (G : h.Ns mainGlobals mg) : FnGood (pg (Cs K)) K mg (Str.ofString "_law_term_of") 23 5 [] none := by
  obtain ⟨fd, F⟩ := c.t.d.def_ 23 (d := d__law_term_of) rfl
  exact fn_good (t := t__law_term_of) (ps := [(Str.ofString "tape"), (Str.ofString "deep"), (Str.ofString "most"), (Str.ofString "names"), (Str.ofString "privates")]) X G (c.t.d.fact 23 (f := .glo (Str.ofString "_law_term_of")) rfl) F rfl rfl (by decide +kernel) ⟨[], .nil, FunD.bindsN F fun _ _ _ _ _ _ us hl => match us, hl with | [_, _, _, _, _], _ => rfl⟩ (fun _ _ => rfl) (fun _ z => nomatch z)
theorem g__law_small (c : SaysM fa fn ts ck w K) (X : K.In h) (G : h.Ns mainGlobals mg) : FnGood (pg (Cs K)) K mg (Str.ofString "_law_small") 24 2 [] none := by
  obtain ⟨fd, F⟩ := c.t.d.def_ 24 (d := d__law_small) rfl
  exact fn_good (t := t__law_small) (ps := [(Str.ofString "tape"), (Str.ofString "scope")]) X G (c.t.d.fact 24 (f := .glo (Str.ofString "_law_small")) rfl) F rfl rfl (by decide +kernel) ⟨[], .nil, FunD.bindsN F fun _ _ _ _ _ _ us hl => match us, hl with | [_, _], _ => rfl⟩ (fun _ _ => rfl) (fun _ z => nomatch z)
theorem g__law_location (c : SaysM fa fn ts ck w K) (X : K.In h) (G : h.Ns mainGlobals mg) : FnGood (pg (Cs K)) K mg (Str.ofString "_law_location") 25 2 [] none := by
  obtain ⟨fd, F⟩ := c.t.d.def_ 25 (d := d__law_location) rfl
  exact fn_good (t := t__law_location) (ps := [(Str.ofString "tape"), (Str.ofString "scope")]) X G (c.t.d.fact 25 (f := .glo (Str.ofString "_law_location")) rfl) F rfl rfl (by decide +kernel) ⟨[], .nil, FunD.bindsN F fun _ _ _ _ _ _ us hl => match us, hl with | [_, _], _ => rfl⟩ (fun _ _ => rfl) (fun _ z => nomatch z)
theorem g__law_step_of (c : SaysM fa fn ts ck w K) (X : K.In h) (G : h.Ns mainGlobals mg) : FnGood (pg (Cs K)) K mg (Str.ofString "_law_step_of") 26 3 [] none := by
  obtain ⟨fd, F⟩ := c.t.d.def_ 26 (d := d__law_step_of) rfl
  exact fn_good (t := t__law_step_of) (ps := [(Str.ofString "tape"), (Str.ofString "scope"), (Str.ofString "word")]) X G (c.t.d.fact 26 (f := .glo (Str.ofString "_law_step_of")) rfl) F rfl rfl (by decide +kernel) ⟨[], .nil, FunD.bindsN F fun _ _ _ _ _ _ us hl => match us, hl with | [_, _, _], _ => rfl⟩ (fun _ _ => rfl) (fun _ z => nomatch z)
theorem g__law_step (c : SaysM fa fn ts ck w K) (X : K.In h) (G : h.Ns mainGlobals mg) : FnGood (pg (Cs K)) K mg (Str.ofString "_law_step") 27 2 [] none := by
  obtain ⟨fd, F⟩ := c.t.d.def_ 27 (d := d__law_step) rfl
  exact fn_good (t := t__law_step) (ps := [(Str.ofString "tape"), (Str.ofString "scope")]) X G (c.t.d.fact 27 (f := .glo (Str.ofString "_law_step")) rfl) F rfl rfl (by decide +kernel) ⟨[], .nil, FunD.bindsN F fun _ _ _ _ _ _ us hl => match us, hl with | [_, _], _ => rfl⟩ (fun _ _ => rfl) (fun _ z => nomatch z)
theorem g__law_local (c : SaysM fa fn ts ck w K) (X : K.In h) (G : h.Ns mainGlobals mg) : FnGood (pg (Cs K)) K mg (Str.ofString "_law_local") 28 2 [] none := by
  obtain ⟨fd, F⟩ := c.t.d.def_ 28 (d := d__law_local) rfl
  exact fn_good (t := t__law_local) (ps := [(Str.ofString "tape"), (Str.ofString "scope")]) X G (c.t.d.fact 28 (f := .glo (Str.ofString "_law_local")) rfl) F rfl rfl (by decide +kernel) ⟨[], .nil, FunD.bindsN F fun _ _ _ _ _ _ us hl => match us, hl with | [_, _], _ => rfl⟩ (fun _ _ => rfl) (fun _ z => nomatch z)
theorem g__law_many (c : SaysM fa fn ts ck w K) (X : K.In h) (G : h.Ns mainGlobals mg) : FnGood (pg (Cs K)) K mg (Str.ofString "_law_many") 29 1 [] none := by
  obtain ⟨fd, F⟩ := c.t.d.def_ 29 (d := d__law_many) rfl
  exact fn_good (t := t__law_many) (ps := [(Str.ofString "body")]) X G (c.t.d.fact 29 (f := .glo (Str.ofString "_law_many")) rfl) F rfl rfl (by decide +kernel) ⟨[], .nil, FunD.bindsN F fun _ _ _ _ _ _ us hl => match us, hl with | [_], _ => rfl⟩ (fun _ _ => rfl) (fun _ z => nomatch z)
theorem g__law_body (c : SaysM fa fn ts ck w K) (X : K.In h) (G : h.Ns mainGlobals mg) : FnGood (pg (Cs K)) K mg (Str.ofString "_law_body") 30 5 [] none := by
  obtain ⟨fd, F⟩ := c.t.d.def_ 30 (d := d__law_body) rfl
  exact fn_good (t := t__law_body) (ps := [(Str.ofString "tape"), (Str.ofString "deep"), (Str.ofString "count"), (Str.ofString "scope"), (Str.ofString "looped")]) X G (c.t.d.fact 30 (f := .glo (Str.ofString "_law_body")) rfl) F rfl rfl (by decide +kernel) ⟨[], .nil, FunD.bindsN F fun _ _ _ _ _ _ us hl => match us, hl with | [_, _, _, _, _], _ => rfl⟩ (fun _ _ => rfl) (fun _ z => nomatch z)
theorem g__law_m_long (c : SaysM fa fn ts ck w K) (X : K.In h) (G : h.Ns mainGlobals mg) : FnGood (pg (Cs K)) K mg (Str.ofString "_law_m_long") 31 1 [] none := by
  obtain ⟨fd, F⟩ := c.t.d.def_ 31 (d := d__law_m_long) rfl
  exact fn_good (t := t__law_m_long) (ps := [(Str.ofString "body")]) X G (c.t.d.fact 31 (f := .glo (Str.ofString "_law_m_long")) rfl) F rfl rfl (by decide +kernel) ⟨[], .nil, FunD.bindsN F fun _ _ _ _ _ _ us hl => match us, hl with | [_], _ => rfl⟩ (fun _ _ => rfl) (fun _ z => nomatch z)
theorem g__law_m_code (c : SaysM fa fn ts ck w K) (X : K.In h) (G : h.Ns mainGlobals mg) : FnGood (pg (Cs K)) K mg (Str.ofString "_law_m_code") 32 3 [] none := by
  obtain ⟨fd, F⟩ := c.t.d.def_ 32 (d := d__law_m_code) rfl
  exact fn_good (t := t__law_m_code) (ps := [(Str.ofString "body"), (Str.ofString "at"), (Str.ofString "out")]) X G (c.t.d.fact 32 (f := .glo (Str.ofString "_law_m_code")) rfl) F rfl rfl (by decide +kernel) ⟨[], .nil, FunD.bindsN F fun _ _ _ _ _ _ us hl => match us, hl with | [_, _, _], _ => rfl⟩ (fun _ _ => rfl) (fun _ z => nomatch z)
theorem g__law_k_operations (c : SaysM fa fn ts ck w K) (X : K.In h) (G : h.Ns mainGlobals mg) : FnGood (pg (Cs K)) K mg (Str.ofString "_law_k_operations") 33 1 [] none := by
  obtain ⟨fd, F⟩ := c.t.d.def_ 33 (d := d__law_k_operations) rfl
  exact fn_good (t := t__law_k_operations) (ps := [(Str.ofString "kind")]) X G (c.t.d.fact 33 (f := .glo (Str.ofString "_law_k_operations")) rfl) F rfl rfl (by decide +kernel) ⟨[], .nil, FunD.bindsN F fun _ _ _ _ _ _ us hl => match us, hl with | [_], _ => rfl⟩ (fun _ _ => rfl) (fun _ z => nomatch z)
theorem g__law_k_some_kind (c : SaysM fa fn ts ck w K) (X : K.In h) (G : h.Ns mainGlobals mg) : FnGood (pg (Cs K)) K mg (Str.ofString "_law_k_some_kind") 34 1 [] none := by
  obtain ⟨fd, F⟩ := c.t.d.def_ 34 (d := d__law_k_some_kind) rfl
  exact fn_good (t := t__law_k_some_kind) (ps := [(Str.ofString "tape")]) X G (c.t.d.fact 34 (f := .glo (Str.ofString "_law_k_some_kind")) rfl) F rfl rfl (by decide +kernel) ⟨[], .nil, FunD.bindsN F fun _ _ _ _ _ _ us hl => match us, hl with | [_], _ => rfl⟩ (fun _ _ => rfl) (fun _ z => nomatch z)
theorem g__law_k_some_table (c : SaysM fa fn ts ck w K) (X : K.In h) (G : h.Ns mainGlobals mg) : FnGood (pg (Cs K)) K mg (Str.ofString "_law_k_some_table") 35 1 [] none := by
  obtain ⟨fd, F⟩ := c.t.d.def_ 35 (d := d__law_k_some_table) rfl
  exact fn_good (t := t__law_k_some_table) (ps := [(Str.ofString "tape")]) X G (c.t.d.fact 35 (f := .glo (Str.ofString "_law_k_some_table")) rfl) F rfl rfl (by decide +kernel) ⟨[], .nil, FunD.bindsN F fun _ _ _ _ _ _ us hl => match us, hl with | [_], _ => rfl⟩ (fun _ _ => rfl) (fun _ z => nomatch z)
theorem g__law_e_object (c : SaysM fa fn ts ck w K) (X : K.In h) (G : h.Ns mainGlobals mg) : FnGood (pg (Cs K)) K mg (Str.ofString "_law_e_object") 36 2 [] none := by
  obtain ⟨fd, F⟩ := c.t.d.def_ 36 (d := d__law_e_object) rfl
  exact fn_good (t := t__law_e_object) (ps := [(Str.ofString "tape"), (Str.ofString "count")]) X G (c.t.d.fact 36 (f := .glo (Str.ofString "_law_e_object")) rfl) F rfl rfl (by decide +kernel) ⟨[], .nil, FunD.bindsN F fun _ _ _ _ _ _ us hl => match us, hl with | [_, _], _ => rfl⟩ (fun _ _ => rfl) (fun _ z => nomatch z)
theorem g__law_e_ways (c : SaysM fa fn ts ck w K) (X : K.In h) (G : h.Ns mainGlobals mg) : FnGood (pg (Cs K)) K mg (Str.ofString "_law_e_ways") 37 2 [] none := by
  obtain ⟨fd, F⟩ := c.t.d.def_ 37 (d := d__law_e_ways) rfl
  exact fn_good (t := t__law_e_ways) (ps := [(Str.ofString "code"), (Str.ofString "place")]) X G (c.t.d.fact 37 (f := .glo (Str.ofString "_law_e_ways")) rfl) F rfl rfl (by decide +kernel) ⟨[], .nil, FunD.bindsN F fun _ _ _ _ _ _ us hl => match us, hl with | [_, _], _ => rfl⟩ (fun _ _ => rfl) (fun _ z => nomatch z)
theorem g__law_e_code_steps (c : SaysM fa fn ts ck w K) (X : K.In h) (G : h.Ns mainGlobals mg) : FnGood (pg (Cs K)) K mg (Str.ofString "_law_e_code_steps") 38 1 [] none := by
  obtain ⟨fd, F⟩ := c.t.d.def_ 38 (d := d__law_e_code_steps) rfl
  exact fn_good (t := t__law_e_code_steps) (ps := [(Str.ofString "code")]) X G (c.t.d.fact 38 (f := .glo (Str.ofString "_law_e_code_steps")) rfl) F rfl rfl (by decide +kernel) ⟨[], .nil, FunD.bindsN F fun _ _ _ _ _ _ us hl => match us, hl with | [_], _ => rfl⟩ (fun _ _ => rfl) (fun _ z => nomatch z)
theorem g__law_e_quiet (c : SaysM fa fn ts ck w K) (X : K.In h) (G : h.Ns mainGlobals mg) : FnGood (pg (Cs K)) K mg (Str.ofString "_law_e_quiet") 39 4 [] none := by
  obtain ⟨fd, F⟩ := c.t.d.def_ 39 (d := d__law_e_quiet) rfl
  exact fn_good (t := t__law_e_quiet) (ps := [(Str.ofString "name"), (Str.ofString "number"), (Str.ofString "n"), (Str.ofString "tool")]) X G (c.t.d.fact 39 (f := .glo (Str.ofString "_law_e_quiet")) rfl) F rfl rfl (by decide +kernel) ⟨[], .nil, FunD.bindsN F fun _ _ _ _ _ _ us hl => match us, hl with | [_, _, _, _], _ => rfl⟩ (fun _ _ => rfl) (fun _ z => nomatch z)
theorem g__law_e_named (c : SaysM fa fn ts ck w K) (X : K.In h) (G : h.Ns mainGlobals mg) : FnGood (pg (Cs K)) K mg (Str.ofString "_law_e_named") 40 1 [] none := by
  obtain ⟨fd, F⟩ := c.t.d.def_ 40 (d := d__law_e_named) rfl
  exact fn_good (t := t__law_e_named) (ps := [(Str.ofString "tape")]) X G (c.t.d.fact 40 (f := .glo (Str.ofString "_law_e_named")) rfl) F rfl rfl (by decide +kernel) ⟨[], .nil, FunD.bindsN F fun _ _ _ _ _ _ us hl => match us, hl with | [_], _ => rfl⟩ (fun _ _ => rfl) (fun _ z => nomatch z)
theorem g__law_k82_due (c : SaysM fa fn ts ck w K) (X : K.In h) (G : h.Ns mainGlobals mg) : FnGood (pg (Cs K)) K mg (Str.ofString "_law_k82_due") 41 2 [] none := by
  obtain ⟨fd, F⟩ := c.t.d.def_ 41 (d := d__law_k82_due) rfl
  exact fn_good (t := t__law_k82_due) (ps := [(Str.ofString "how"), (Str.ofString "word")]) X G (c.t.d.fact 41 (f := .glo (Str.ofString "_law_k82_due")) rfl) F rfl rfl (by decide +kernel) ⟨[], .nil, FunD.bindsN F fun _ _ _ _ _ _ us hl => match us, hl with | [_, _], _ => rfl⟩ (fun _ _ => rfl) (fun _ z => nomatch z)
theorem g__law_k82_steps (c : SaysM fa fn ts ck w K) (X : K.In h) (G : h.Ns mainGlobals mg) : FnGood (pg (Cs K)) K mg (Str.ofString "_law_k82_steps") 42 1 [] none := by
  obtain ⟨fd, F⟩ := c.t.d.def_ 42 (d := d__law_k82_steps) rfl
  exact fn_good (t := t__law_k82_steps) (ps := [(Str.ofString "tape")]) X G (c.t.d.fact 42 (f := .glo (Str.ofString "_law_k82_steps")) rfl) F rfl rfl (by decide +kernel) ⟨[], .nil, FunD.bindsN F fun _ _ _ _ _ _ us hl => match us, hl with | [_], _ => rfl⟩ (fun _ _ => rfl) (fun _ z => nomatch z)
theorem g__law_k82_asked (c : SaysM fa fn ts ck w K) (X : K.In h) (G : h.Ns mainGlobals mg) : FnGood (pg (Cs K)) K mg (Str.ofString "_law_k82_asked") 43 4 [] none := by
  obtain ⟨fd, F⟩ := c.t.d.def_ 43 (d := d__law_k82_asked) rfl
  exact fn_good (t := t__law_k82_asked) (ps := [(Str.ofString "name"), (Str.ofString "number"), (Str.ofString "n"), (Str.ofString "tool")]) X G (c.t.d.fact 43 (f := .glo (Str.ofString "_law_k82_asked")) rfl) F rfl rfl (by decide +kernel) ⟨[], .nil, FunD.bindsN F fun _ _ _ _ _ _ us hl => match us, hl with | [_, _, _, _], _ => rfl⟩ (fun _ _ => rfl) (fun _ z => nomatch z)
theorem g__law_k82_bounds (c : SaysM fa fn ts ck w K) (X : K.In h) (G : h.Ns mainGlobals mg) : FnGood (pg (Cs K)) K mg (Str.ofString "_law_k82_bounds") 44 1 [] none := by
  obtain ⟨fd, F⟩ := c.t.d.def_ 44 (d := d__law_k82_bounds) rfl
  exact fn_good (t := t__law_k82_bounds) (ps := [(Str.ofString "tape")]) X G (c.t.d.fact 44 (f := .glo (Str.ofString "_law_k82_bounds")) rfl) F rfl rfl (by decide +kernel) ⟨[], .nil, FunD.bindsN F fun _ _ _ _ _ _ us hl => match us, hl with | [_], _ => rfl⟩ (fun _ _ => rfl) (fun _ z => nomatch z)
theorem g_law (c : SaysM fa fn ts ck w K) (X : K.In h) (G : h.Ns mainGlobals mg) : FnGood (pg (Cs K)) K mg (Str.ofString "law") 45 1 [] none := by
  obtain ⟨fd, F⟩ := c.t.d.def_ 45 (d := d_law) rfl
  exact fn_good (t := t_law) (ps := [(Str.ofString "script")]) X G (c.t.d.fact 45 (f := .glo (Str.ofString "law")) rfl) F rfl rfl (by decide +kernel) ⟨[], .nil, FunD.bindsN F fun _ _ _ _ _ _ us hl => match us, hl with | [_], _ => rfl⟩ (fun _ _ => rfl) (fun _ z => nomatch z)
theorem const_ck (c : SaysM fa fn ts ck w K) (X : K.In h) (G : h.Ns mainGlobals mg) {q : Str × D} (hq : q ∈ glc) : Good (pg (Cs K)) K mg q.1 (.const q.2) := const_good X G (List.all_eq_true.mp (ba (show (_ && _) = true from c.k)).1 q hq)
theorem goodAll (c : SaysM fa fn ts ck w K) (X : K.In h) (G : h.Ns mainGlobals mg) : GoodAll (pg (Cs K)) K mg (pg (Cs K)).gl :=
  ⟨g_add_body c X G,
   g_add_choice c X G,
   g_add_loop c X G,
   g_translated c X G,
   g_is_local_instruction c X G,
   g_ways c X G,
   g_is_structure c X G,
   g_step_count c X G,
   g_longest_way c X G,
   g_code_steps c X G,
   g_costs_of c X G,
   g_plain_bound c X G,
   g_quiet_bound c X G,
   g__law_tape c X G,
   g__law_draw c X G,
   g__law_pick c X G,
   g__law_turns c X G,
   g__law_shuffled c X G,
   g__law_same c X G,
   g__law_all_words c X G,
   g__law_word c X G,
   g__law_value c X G,
   g__law_size c X G,
   g__law_term_of c X G,
   g__law_small c X G,
   g__law_location c X G,
   g__law_step_of c X G,
   g__law_step c X G,
   g__law_local c X G,
   g__law_many c X G,
   g__law_body c X G,
   g__law_m_long c X G,
   g__law_m_code c X G,
   g__law_k_operations c X G,
   g__law_k_some_kind c X G,
   g__law_k_some_table c X G,
   g__law_e_object c X G,
   g__law_e_ways c X G,
   g__law_e_code_steps c X G,
   g__law_e_quiet c X G,
   g__law_e_named c X G,
   g__law_k82_due c X G,
   g__law_k82_steps c X G,
   g__law_k82_asked c X G,
   g__law_k82_bounds c X G,
   g_law c X G,
   const_ck c X G (q := ((Str.ofString "LOCAL"), gc_LOCAL)) (List.mem_of_getElem? (i := 0) rfl),
   const_ck c X G (q := ((Str.ofString "OPERATIONS"), gc_OPERATIONS)) (List.mem_of_getElem? (i := 1) rfl),
   const_ck c X G (q := ((Str.ofString "NO_BOUND"), gc_NO_BOUND)) (List.mem_of_getElem? (i := 2) rfl),
   const_ck c X G (q := ((Str.ofString "SLOTS"), gc_SLOTS)) (List.mem_of_getElem? (i := 3) rfl),
   const_ck c X G (q := ((Str.ofString "KEEP_COSTS"), gc_KEEP_COSTS)) (List.mem_of_getElem? (i := 4) rfl),
   free_ok X G (c.t.d.fact 46 (f := .free (Str.ofString "abs")) rfl),
   free_ok X G (c.t.d.fact 47 (f := .free (Str.ofString "bool")) rfl),
   free_ok X G (c.t.d.fact 48 (f := .free (Str.ofString "int")) rfl),
   free_ok X G (c.t.d.fact 49 (f := .free (Str.ofString "isinstance")) rfl),
   free_ok X G (c.t.d.fact 50 (f := .free (Str.ofString "len")) rfl),
   free_ok X G (c.t.d.fact 51 (f := .free (Str.ofString "list")) rfl),
   free_ok X G (c.t.d.fact 52 (f := .free (Str.ofString "max")) rfl),
   free_ok X G (c.t.d.fact 53 (f := .free (Str.ofString "min")) rfl),
   free_ok X G (c.t.d.fact 54 (f := .free (Str.ofString "range")) rfl),
   free_ok X G (c.t.d.fact 55 (f := .free (Str.ofString "reversed")) rfl),
   free_ok X G (c.t.d.fact 56 (f := .free (Str.ofString "sorted")) rfl),
   free_ok X G (c.t.d.fact 57 (f := .free (Str.ofString "str")) rfl),
   free_ok X G (c.t.d.fact 58 (f := .free (Str.ofString "sum")) rfl),
   free_ok X G (c.t.d.fact 59 (f := .free (Str.ofString "tuple")) rfl), trivial⟩
theorem conAll (c : SaysM fa fn ts ck w K) (k : Nat) (kvs : List (Nat × D)) (e : (pg (Cs K)).B.CD[k]? = some kvs) : ∃ (d : Addr) (es : Array DictEntry) (n : Nat), (pg (Cs K)).B.C[k]? = some (V.ref d) ∧ KDict K w d es n ∧ conB K (pg (Cs K)).B.T (pg (Cs K)).B.C d kvs = true := by
  have c2 := (ba (show (_ && _) = true from c.k)).2
  have e : CD[k]? = some kvs := e
  by_cases k0 : k = 0
  · subst k0
    cases e
    obtain ⟨es, n, kd⟩ := c.t.tab 0 rfl
    exact ⟨_, es, n, rfl, kd, List.all_eq_true.mp c2 _ (List.mem_of_getElem? (i := 0) (a := ((fun K => ga K (Str.ofString "SLOTS")), CD.getD 0 [])) rfl)⟩
  have hl := (List.getElem?_eq_some_iff.mp e).1
  have : CD.length = 1 := rfl
  omega
theorem glOk (c : SaysM fa fn ts ck w K) (X : K.In h) (G : h.Ns mainGlobals mg) : GlOk (pg (Cs K)) w K mg := glOk_of (goodAll c X G) ⟨show T.Nodup by decide +kernel, show T.all PyData.strOk = true by decide +kernel⟩ (conAll c)
end
abbrev R : PySem.W.OpenRow := PySem.W.OpenLaw.row PySem.Challenge.rw_lockfree_k82_code_steps_quiet_bounds
abbrev hk : PySem.W.Hook := hookM 4 fa fn ts ck
def ob (s : PySem.W.SharedT) : AlM := obsMG 4 fa fn ts ck (HandSHeadRun.getT s)
theorem ob_eq (s : PySem.W.SharedT) : ob s = hk.obs s.abs := obsMG_eq (HandSHeadRun.getT_eq s)
def lawIx : Nat := PW.main.body.length - 1
def loose : List Str := ((PW.main.scope.names.map (·.1)).filter fun n => !(n == (Str.ofString "law")))
end H82
set_option Elab.async false
set_option linter.all false
set_option maxRecDepth 100000
set_option maxHeartbeats 4000000
set_option autoImplicit false
namespace H82
open PySem PySem.Spec PyProof.Rows L2 Mn
theorem W_defC {call : Nat → CM} {j np : Nat} {ds : List D} {st : Store} {Q : D × Store → Prop} : W (defC call j np [] ds st) Q ↔ NL ds np (W (call j ds st) Q) := Mn.W_defC rfl
theorem r_add_body {C : List V} {k : Nat} {Q : D × Store → Prop} {st : Store} {a0 a1 a2 : D} (h : W (m_add_body (TB C) (runP (pg C) k) [some a0, some a1, some a2, none] st) (EX false st.length Q)) : W (runP (pg C) (k + 1) j_add_body [a0, a1, a2] st) Q := W_run (t := t_add_body) rfl (b_add_body C _) h
theorem r_add_choice {C : List V} {k : Nat} {Q : D × Store → Prop} {st : Store} {a0 a1 a2 : D} (h : W (m_add_choice (TB C) (runP (pg C) k) [some a0, some a1, some a2, none, none] st) (EX false st.length Q)) : W (runP (pg C) (k + 1) j_add_choice [a0, a1, a2] st) Q := W_run (t := t_add_choice) rfl (b_add_choice C _) h
theorem r_add_loop {C : List V} {k : Nat} {Q : D × Store → Prop} {st : Store} {a0 a1 : D} (h : W (m_add_loop (TB C) (runP (pg C) k) [some a0, some a1, none, none, none] st) (EX false st.length Q)) : W (runP (pg C) (k + 1) j_add_loop [a0, a1] st) Q := W_run (t := t_add_loop) rfl (b_add_loop C _) h
theorem r_translated {C : List V} {k : Nat} {Q : D × Store → Prop} {st : Store} {a0 : D} (h : W (m_translated (TB C) (runP (pg C) k) [some a0, none] st) (EX false st.length Q)) : W (runP (pg C) (k + 1) j_translated [a0] st) Q := W_run (t := t_translated) rfl (b_translated C _) h
theorem r_is_local_instruction {C : List V} {k : Nat} {Q : D × Store → Prop} {st : Store} {a0 : D} (h : W (m_is_local_instruction (TB C) (runP (pg C) k) [some a0] st) (EX false st.length Q)) : W (runP (pg C) (k + 1) j_is_local_instruction [a0] st) Q := W_run (t := t_is_local_instruction) rfl (b_is_local_instruction C _) h
theorem r_ways {C : List V} {k : Nat} {Q : D × Store → Prop} {st : Store} {a0 a1 : D} (h : W (m_ways (TB C) (runP (pg C) k) [some a0, some a1] st) (EX false st.length Q)) : W (runP (pg C) (k + 1) j_ways [a0, a1] st) Q := W_run (t := t_ways) rfl (b_ways C _) h
theorem r_is_structure {C : List V} {k : Nat} {Q : D × Store → Prop} {st : Store} {a0 : D} (h : W (m_is_structure (TB C) (runP (pg C) k) [some a0] st) (EX false st.length Q)) : W (runP (pg C) (k + 1) j_is_structure [a0] st) Q := W_run (t := t_is_structure) rfl (b_is_structure C _) h
theorem r_step_count {C : List V} {k : Nat} {Q : D × Store → Prop} {st : Store} {a0 : D} (h : W (m_step_count (TB C) (runP (pg C) k) [some a0] st) (EX false st.length Q)) : W (runP (pg C) (k + 1) j_step_count [a0] st) Q := W_run (t := t_step_count) rfl (b_step_count C _) h
theorem r_longest_way {C : List V} {k : Nat} {Q : D × Store → Prop} {st : Store} {a0 : D} (h : W (m_longest_way (TB C) (runP (pg C) k) [some a0, none, none, none, none, none, none] st) (EX false st.length Q)) : W (runP (pg C) (k + 1) j_longest_way [a0] st) Q := W_run (t := t_longest_way) rfl (b_longest_way C _) h
theorem r_code_steps {C : List V} {k : Nat} {Q : D × Store → Prop} {st : Store} {a0 a1 : D} (h : W (m_code_steps (TB C) (runP (pg C) k) [some a0, some a1, none, none] st) (EX false st.length Q)) : W (runP (pg C) (k + 1) j_code_steps [a0, a1] st) Q := W_run (t := t_code_steps) rfl (b_code_steps C _) h
theorem r_costs_of {C : List V} {k : Nat} {Q : D × Store → Prop} {st : Store} {a0 a1 a2 a3 : D} (h : W (m_costs_of (TB C) (runP (pg C) k) [some a0, some a1, some a2, some a3] st) (EX false st.length Q)) : W (runP (pg C) (k + 1) j_costs_of [a0, a1, a2, a3] st) Q := W_run (t := t_costs_of) rfl (b_costs_of C _) h
theorem r_plain_bound {C : List V} {k : Nat} {Q : D × Store → Prop} {st : Store} {a0 a1 a2 : D} (h : W (m_plain_bound (TB C) (runP (pg C) k) [some a0, some a1, some a2] st) (EX false st.length Q)) : W (runP (pg C) (k + 1) j_plain_bound [a0, a1, a2] st) Q := W_run (t := t_plain_bound) rfl (b_plain_bound C _) h
theorem r_quiet_bound {C : List V} {k : Nat} {Q : D × Store → Prop} {st : Store} {a0 a1 a2 a3 : D} (h : W (m_quiet_bound (TB C) (runP (pg C) k) [some a0, some a1, some a2, some a3, none, none, none, none, none] st) (EX false st.length Q)) : W (runP (pg C) (k + 1) j_quiet_bound [a0, a1, a2, a3] st) Q := W_run (t := t_quiet_bound) rfl (b_quiet_bound C _) h
theorem r__law_tape {C : List V} {k : Nat} {Q : D × Store → Prop} {st : Store} {a0 : D} (h : W (m__law_tape (TB C) (runP (pg C) k) [some a0, none, none] st) (EX true st.length Q)) : W (runP (pg C) (k + 1) j__law_tape [a0] st) Q := W_run (t := t__law_tape) rfl (b__law_tape C _) h
theorem r__law_draw {C : List V} {k : Nat} {Q : D × Store → Prop} {st : Store} {a0 a1 : D} (h : W (m__law_draw (TB C) (runP (pg C) k) [some a0, some a1, none, none] st) (EX false st.length Q)) : W (runP (pg C) (k + 1) j__law_draw [a0, a1] st) Q := W_run (t := t__law_draw) rfl (b__law_draw C _) h
theorem r__law_pick {C : List V} {k : Nat} {Q : D × Store → Prop} {st : Store} {a0 a1 : D} (h : W (m__law_pick (TB C) (runP (pg C) k) [some a0, some a1] st) (EX false st.length Q)) : W (runP (pg C) (k + 1) j__law_pick [a0, a1] st) Q := W_run (t := t__law_pick) rfl (b__law_pick C _) h
theorem r__law_turns {C : List V} {k : Nat} {Q : D × Store → Prop} {st : Store} {a0 a1 : D} (h : W (m__law_turns (TB C) (runP (pg C) k) [some a0, some a1, none, none, none] st) (EX false st.length Q)) : W (runP (pg C) (k + 1) j__law_turns [a0, a1] st) Q := W_run (t := t__law_turns) rfl (b__law_turns C _) h
theorem r__law_shuffled {C : List V} {k : Nat} {Q : D × Store → Prop} {st : Store} {a0 a1 : D} (h : W (m__law_shuffled (TB C) (runP (pg C) k) [some a0, some a1, none, none, none] st) (EX false st.length Q)) : W (runP (pg C) (k + 1) j__law_shuffled [a0, a1] st) Q := W_run (t := t__law_shuffled) rfl (b__law_shuffled C _) h
theorem r__law_same {C : List V} {k : Nat} {Q : D × Store → Prop} {st : Store} {a0 a1 : D} (h : W (m__law_same (TB C) (runP (pg C) k) [some a0, some a1, none] st) (EX false st.length Q)) : W (runP (pg C) (k + 1) j__law_same [a0, a1] st) Q := W_run (t := t__law_same) rfl (b__law_same C _) h
theorem r__law_all_words {C : List V} {k : Nat} {Q : D × Store → Prop} {st : Store} (h : W (m__law_all_words (TB C) (runP (pg C) k) [] st) (EX false st.length Q)) : W (runP (pg C) (k + 1) j__law_all_words [] st) Q := W_run (t := t__law_all_words) rfl (b__law_all_words C _) h
theorem r__law_word {C : List V} {k : Nat} {Q : D × Store → Prop} {st : Store} {a0 : D} (h : W (m__law_word (TB C) (runP (pg C) k) [some a0, none] st) (EX false st.length Q)) : W (runP (pg C) (k + 1) j__law_word [a0] st) Q := W_run (t := t__law_word) rfl (b__law_word C _) h
theorem r__law_value {C : List V} {k : Nat} {Q : D × Store → Prop} {st : Store} {a0 : D} (h : W (m__law_value (TB C) (runP (pg C) k) [some a0, none] st) (EX false st.length Q)) : W (runP (pg C) (k + 1) j__law_value [a0] st) Q := W_run (t := t__law_value) rfl (b__law_value C _) h
theorem r__law_size {C : List V} {k : Nat} {Q : D × Store → Prop} {st : Store} {a0 : D} (h : W (m__law_size (TB C) (runP (pg C) k) [some a0, none, none] st) (EX false st.length Q)) : W (runP (pg C) (k + 1) j__law_size [a0] st) Q := W_run (t := t__law_size) rfl (b__law_size C _) h
theorem r__law_term_of {C : List V} {k : Nat} {Q : D × Store → Prop} {st : Store} {a0 a1 a2 a3 a4 : D} (h : W (m__law_term_of (TB C) (runP (pg C) k) [some a0, some a1, some a2, some a3, some a4, none, none, none] st) (EX false st.length Q)) : W (runP (pg C) (k + 1) j__law_term_of [a0, a1, a2, a3, a4] st) Q := W_run (t := t__law_term_of) rfl (b__law_term_of C _) h
theorem r__law_small {C : List V} {k : Nat} {Q : D × Store → Prop} {st : Store} {a0 a1 : D} (h : W (m__law_small (TB C) (runP (pg C) k) [some a0, some a1, none] st) (EX false st.length Q)) : W (runP (pg C) (k + 1) j__law_small [a0, a1] st) Q := W_run (t := t__law_small) rfl (b__law_small C _) h
theorem r__law_location {C : List V} {k : Nat} {Q : D × Store → Prop} {st : Store} {a0 a1 : D} (h : W (m__law_location (TB C) (runP (pg C) k) [some a0, some a1, none] st) (EX false st.length Q)) : W (runP (pg C) (k + 1) j__law_location [a0, a1] st) Q := W_run (t := t__law_location) rfl (b__law_location C _) h
theorem r__law_step_of {C : List V} {k : Nat} {Q : D × Store → Prop} {st : Store} {a0 a1 a2 : D} (h : W (m__law_step_of (TB C) (runP (pg C) k) [some a0, some a1, some a2, none, none, none, none, none, none, none, none, none] st) (EX false st.length Q)) : W (runP (pg C) (k + 1) j__law_step_of [a0, a1, a2] st) Q := W_run (t := t__law_step_of) rfl (b__law_step_of C _) h
theorem r__law_step {C : List V} {k : Nat} {Q : D × Store → Prop} {st : Store} {a0 a1 : D} (h : W (m__law_step (TB C) (runP (pg C) k) [some a0, some a1, none, none] st) (EX false st.length Q)) : W (runP (pg C) (k + 1) j__law_step [a0, a1] st) Q := W_run (t := t__law_step) rfl (b__law_step C _) h
theorem r__law_local {C : List V} {k : Nat} {Q : D × Store → Prop} {st : Store} {a0 a1 : D} (h : W (m__law_local (TB C) (runP (pg C) k) [some a0, some a1, none, none] st) (EX false st.length Q)) : W (runP (pg C) (k + 1) j__law_local [a0, a1] st) Q := W_run (t := t__law_local) rfl (b__law_local C _) h
theorem r__law_many {C : List V} {k : Nat} {Q : D × Store → Prop} {st : Store} {a0 : D} (h : W (m__law_many (TB C) (runP (pg C) k) [some a0, none, none] st) (EX false st.length Q)) : W (runP (pg C) (k + 1) j__law_many [a0] st) Q := W_run (t := t__law_many) rfl (b__law_many C _) h
theorem r__law_body {C : List V} {k : Nat} {Q : D × Store → Prop} {st : Store} {a0 a1 a2 a3 a4 : D} (h : W (m__law_body (TB C) (runP (pg C) k) [some a0, some a1, some a2, some a3, some a4, none, none, none, none, none, none, none, none] st) (EX false st.length Q)) : W (runP (pg C) (k + 1) j__law_body [a0, a1, a2, a3, a4] st) Q := W_run (t := t__law_body) rfl (b__law_body C _) h
theorem r__law_m_long {C : List V} {k : Nat} {Q : D × Store → Prop} {st : Store} {a0 : D} (h : W (m__law_m_long (TB C) (runP (pg C) k) [some a0, none, none] st) (EX false st.length Q)) : W (runP (pg C) (k + 1) j__law_m_long [a0] st) Q := W_run (t := t__law_m_long) rfl (b__law_m_long C _) h
theorem r__law_m_code {C : List V} {k : Nat} {Q : D × Store → Prop} {st : Store} {a0 a1 a2 : D} (h : W (m__law_m_code (TB C) (runP (pg C) k) [some a0, some a1, some a2, none, none, none, none] st) (EX false st.length Q)) : W (runP (pg C) (k + 1) j__law_m_code [a0, a1, a2] st) Q := W_run (t := t__law_m_code) rfl (b__law_m_code C _) h
theorem r__law_k_operations {C : List V} {k : Nat} {Q : D × Store → Prop} {st : Store} {a0 : D} (h : W (m__law_k_operations (TB C) (runP (pg C) k) [some a0, none, none, none] st) (EX false st.length Q)) : W (runP (pg C) (k + 1) j__law_k_operations [a0] st) Q := W_run (t := t__law_k_operations) rfl (b__law_k_operations C _) h
theorem r__law_k_some_kind {C : List V} {k : Nat} {Q : D × Store → Prop} {st : Store} {a0 : D} (h : W (m__law_k_some_kind (TB C) (runP (pg C) k) [some a0, none] st) (EX false st.length Q)) : W (runP (pg C) (k + 1) j__law_k_some_kind [a0] st) Q := W_run (t := t__law_k_some_kind) rfl (b__law_k_some_kind C _) h
theorem r__law_k_some_table {C : List V} {k : Nat} {Q : D × Store → Prop} {st : Store} {a0 : D} (h : W (m__law_k_some_table (TB C) (runP (pg C) k) [some a0, none, none, none, none, none, none, none, none, none, none, none, none] st) (EX false st.length Q)) : W (runP (pg C) (k + 1) j__law_k_some_table [a0] st) Q := W_run (t := t__law_k_some_table) rfl (b__law_k_some_table C _) h
theorem r__law_e_object {C : List V} {k : Nat} {Q : D × Store → Prop} {st : Store} {a0 a1 : D} (h : W (m__law_e_object (TB C) (runP (pg C) k) [some a0, some a1, none, none, none, none, none, none, none, none] st) (EX false st.length Q)) : W (runP (pg C) (k + 1) j__law_e_object [a0, a1] st) Q := W_run (t := t__law_e_object) rfl (b__law_e_object C _) h
theorem r__law_e_ways {C : List V} {k : Nat} {Q : D × Store → Prop} {st : Store} {a0 a1 : D} (h : W (m__law_e_ways (TB C) (runP (pg C) k) [some a0, some a1, none] st) (EX false st.length Q)) : W (runP (pg C) (k + 1) j__law_e_ways [a0, a1] st) Q := W_run (t := t__law_e_ways) rfl (b__law_e_ways C _) h
theorem r__law_e_code_steps {C : List V} {k : Nat} {Q : D × Store → Prop} {st : Store} {a0 : D} (h : W (m__law_e_code_steps (TB C) (runP (pg C) k) [some a0, none, none, none, none, none, none, none] st) (EX false st.length Q)) : W (runP (pg C) (k + 1) j__law_e_code_steps [a0] st) Q := W_run (t := t__law_e_code_steps) rfl (b__law_e_code_steps C _) h
theorem r__law_e_quiet {C : List V} {k : Nat} {Q : D × Store → Prop} {st : Store} {a0 a1 a2 a3 : D} (h : W (m__law_e_quiet (TB C) (runP (pg C) k) [some a0, some a1, some a2, some a3, none, none, none, none, none, none, none] st) (EX false st.length Q)) : W (runP (pg C) (k + 1) j__law_e_quiet [a0, a1, a2, a3] st) Q := W_run (t := t__law_e_quiet) rfl (b__law_e_quiet C _) h
theorem r__law_e_named {C : List V} {k : Nat} {Q : D × Store → Prop} {st : Store} {a0 : D} (h : W (m__law_e_named (TB C) (runP (pg C) k) [some a0, none, none, none, none, none, none, none] st) (EX false st.length Q)) : W (runP (pg C) (k + 1) j__law_e_named [a0] st) Q := W_run (t := t__law_e_named) rfl (b__law_e_named C _) h
theorem r__law_k82_due {C : List V} {k : Nat} {Q : D × Store → Prop} {st : Store} {a0 a1 : D} (h : W (m__law_k82_due (TB C) (runP (pg C) k) [some a0, some a1, none] st) (EX false st.length Q)) : W (runP (pg C) (k + 1) j__law_k82_due [a0, a1] st) Q := W_run (t := t__law_k82_due) rfl (b__law_k82_due C _) h
theorem r__law_k82_steps {C : List V} {k : Nat} {Q : D × Store → Prop} {st : Store} {a0 : D} (h : W (m__law_k82_steps (TB C) (runP (pg C) k) [some a0, none, none, none, none, none, none, none, none, none, none] st) (EX false st.length Q)) : W (runP (pg C) (k + 1) j__law_k82_steps [a0] st) Q := W_run (t := t__law_k82_steps) rfl (b__law_k82_steps C _) h
theorem r__law_k82_asked {C : List V} {k : Nat} {Q : D × Store → Prop} {st : Store} {a0 a1 a2 a3 : D} (h : W (m__law_k82_asked (TB C) (runP (pg C) k) [some a0, some a1, some a2, some a3, none] st) (EX false st.length Q)) : W (runP (pg C) (k + 1) j__law_k82_asked [a0, a1, a2, a3] st) Q := W_run (t := t__law_k82_asked) rfl (b__law_k82_asked C _) h
theorem r__law_k82_bounds {C : List V} {k : Nat} {Q : D × Store → Prop} {st : Store} {a0 : D} (h : W (m__law_k82_bounds (TB C) (runP (pg C) k) [some a0, none, none, none, none, none, none, none] st) (EX false st.length Q)) : W (runP (pg C) (k + 1) j__law_k82_bounds [a0] st) Q := W_run (t := t__law_k82_bounds) rfl (b__law_k82_bounds C _) h
theorem r_law {C : List V} {k : Nat} {Q : D × Store → Prop} {st : Store} {a0 : D} (h : W (m_law (TB C) (runP (pg C) k) [some a0, none, none] st) (EX false st.length Q)) : W (runP (pg C) (k + 1) j_law [a0] st) Q := W_run (t := t_law) rfl (b_law C _) h
end H82
set_option Elab.async false
set_option linter.all false
set_option maxRecDepth 100000
set_option maxHeartbeats 4000000
set_option autoImplicit false
namespace H82
open PySem PySem.Spec PyProof.Rows L2 Mn
theorem sm1 : smallI 48271 = true := rfl
theorem sm2 : smallI 69621 = true := rfl
theorem sm3 : smallI 31 = true := rfl
theorem p18 : ((0 : Int) ≤ 18 ∧ (18 : Int) ≤ 1000000 ∧ Int.natAbs 10 < 2 ^ 64) = True := eq_true (by decide)
theorem fm {a b : Int} (hb : 0 < b) : 0 ≤ a.fmod b ∧ a.fmod b < b := by
  rw [Int.fmod_eq_emod_of_nonneg _ (Int.le_of_lt hb)]
  exact ⟨Int.emod_nonneg _ (by omega), Int.emod_lt_of_pos _ hb⟩
local macro_rules
  | `(tactic| simp? only [$ls,*]) => `(tactic| simp only [$ls,*, ↓br_t, ↓br_f, ↓KS_nx, ↓KS_ret, ↓KS_brk, ↓KS_cnt, ↓LQ_nx, ↓LQ_cnt, ↓LQ_brk, ↓LQ_ret, ↓EX_nx, ↓EX_ret, ↓SETE_0, ↓SETE_s, ↓BL_b, ↓INT_i, ↓KEY_s, ↓NL_0, ↓NL_s, ↓W_lstAt0, ↓W_lstAts, ↓W_at0, ↓W_ats, ↓PAR2_c, ↓PAR3_c, ↓RNG_i, ↓SEQ_l, ↓SEQ_f, ↓SEQ_t, ↓SEQ_r, ↓W_some, ↓W_atI0, ↓W_atI1, ↓W_atI2, ↓W_atI3, ↓W_atI4, ↓W_atI5, ↓W_atI6, ↓W_atI7, ↓W_atI8, ↓W_atI9, ↓W_atI10, ↓W_atI11, ↓W_atI12, ↓W_seqS, ↓W_asgS, ↓W_exprS, ↓W_retS, ↓W_retN, ↓W_brkS, ↓W_cntS, ↓W_nextS, ↓W_ifS, ↓W_forS, ↓W_par2, ↓W_par3, ↓W_nameG, ↓W_tupG, ↓W_consG, ↓W_nilG, ↓W_subG, ↓W_setO0, ↓W_setOs, ↓SETL_0, ↓SETL_s, ↓IXN_0, ↓IXN_1, ↓IXN_2, ↓IXN_3, ↓IXN_nat, ↓W_var0, ↓W_vars, ↓W_cM, ↓W_binM, ↓W_unM, ↓W_negM, ↓W_nilA, ↓W_consA, ↓W_callM, ↓W_tupM, ↓W_lstM, ↓W_lstMt, ↓W_slcM, ↓W_part0, ↓W_parts, ↓W_slOt, ↓W_slOl, ↓W_slOr, ↓W_ifM, ↓W_truM, ↓W_bolM, ↓W_andT, ↓W_orT, ↓W_notT, ↓W_andE, ↓W_orE, ↓W_notE, ↓W_mthL, ↓W_lstFr, ↓W_dctM, ↓W_dctMt, ↓W_nilK, ↓W_consK, ↓W_kwM, ↓W_maxdM, ↓W_sort2M, ↓W_listRgM, ↓W_listRgMt, ↓W_lcM, ↓W_rng1I, ↓W_seqI, ↓W_addI, ↓W_addT, ↓W_addL, ↓W_addLt, ↓W_subI, ↓W_mulI, ↓W_mulL, ↓W_fdiv, ↓W_mod, ↓W_pow, ↓W_cmp, ↓W_is, ↓W_isNot, ↓W_eqi, ↓W_eqis, ↓W_eqb, ↓W_nei, ↓W_neis, ↓W_neb, ↓W_itT, ↓W_itL, ↓W_itF, ↓W_itD, ↓W_one, ↓W_lenL, ↓W_lenT, ↓W_lenF, ↓W_intI, ↓W_intB, ↓W_absI, ↓W_max2, ↓W_min2, ↓W_tupCl, ↓W_tupCr, ↓W_tupCt, ↓W_lstCf, ↓W_lstCl, ↓W_truL, ↓W_truT, ↓W_truB, ↓W_yesT, ↓W_itR0, ↓W_itRs, ↓H82.W_defC, ↓W_dget_hit, ↓W_dget_miss, ↓W_eqs_t, ↓W_eqs_f, ↓W_nes_t, ↓W_nes_f, ↓W_isiST, ↓W_isiIT, ↓W_isiTT, ↓W_isiIS, ↓W_isiIB, ↓W_isiII, ↓W_memT', ↓W_listRg2M, ↓W_rng2I, ↓RNG2_i, ↓W_lstAt_end, ↓W_apps, ↓W_app_end, ↓W_memLd, ↓W_notMemLd, ↓MEMD_nil, ↓MEMD_hit, ↓MEMD_miss, List.length_cons, List.length_nil, List.length_map, Nat.reduceAdd, Nat.reduceLT, Nat.reduceLeDiff, Nat.zero_add, List.append_nil, List.nil_append, List.cons_append, Nat.reduceBEq, Int.reduceBEq, Nat.reduceEqDiff, beq_self_eq_true, true_and, and_true, Bool.not_true, Bool.not_false, Bool.or_true, Bool.true_or, H82.sm1, H82.sm2, H82.sm3, H82.p18, ne_eq, not_false_eq_true, Int.reduceEq, reduceCtorEq, List.isEmpty_nil, List.isEmpty_cons, List.all_cons, List.all_nil, isSym_s, List.any_cons, List.any_nil, eqv_sym, Bool.or_false, Bool.false_or, Bool.and_self, Int.reduceLT, Int.reduceAdd, Int.reduceSub, decide_true, decide_false])
/-! the tape, draws -/
def Tape (o : MObj) : Prop := ∃ (xs : List Int) (p : Nat) (n m : Int), o = .lst [.lst (xs.map D.int), .int p, .int n, .int m]
theorem Tape.cl {o : MObj} (h : Tape o) : cloO 0 o = true := by
  obtain ⟨xs, p, n, m, rfl⟩ := h
  have e : clos 0 (xs.map D.int) = true := clos_iff.mpr fun d hd => by
    obtain ⟨i, _, rfl⟩ := List.mem_map.mp hd
    rfl
  show (clos 0 (xs.map D.int) && true) = true
  rw [e]; rfl
def PQ (R : D → Prop) (rest : Store) : D × Store → Prop := fun q => R q.1 ∧ ∃ o', Tape o' ∧ q.2 = o' :: rest
/-- a def that draws: R of what it gives -/
def Dr (C : List V) (k j : Nat) (ds : List D) (rest : Store) (R : D → Prop) : Prop := ∀ o, Tape o → W (runP (pg C) k j ds (o :: rest)) (PQ R rest)
theorem Dr.W {C : List V} {k j : Nat} {ds : List D} {rest : Store} {R : D → Prop} {o : MObj} {Q : D × Store → Prop} (h : Dr C k j ds rest R) (ho : Tape o) (q : ∀ d o', R d → Tape o' → Q (d, o' :: rest)) : Mn.W (runP (pg C) k j ds (o :: rest)) Q :=
  (h o ho).mono fun ⟨d, s⟩ ⟨h1, o', h2, h3⟩ => by
    subst h3
    exact q d o' h1 h2
theorem draw_ok (C : List V) (k : Nat) (c : Int) (rest : Store) (hr : CL rest) (hc : c.natAbs < 1073741824) : Dr C (k + 1) j__law_draw [.ref 0, .int c] rest fun d => ∃ r : Int, d = .int r ∧ 0 ≤ r ∧ r < max c 1 := by
  rintro o ⟨xs, p, n, m, rfl⟩
  have fin : ∀ (r : Int) (xs : List Int) (p : Nat) (n m : Int), 0 ≤ r → r < max c 1 → Mn.W (exitR false (MObj.lst [.lst (xs.map D.int), .int p, .int n, .int m] :: rest).length (.int r) (MObj.lst [.lst (xs.map D.int), .int p, .int n, .int m] :: rest)) (PQ (fun d => ∃ r : Int, d = .int r ∧ 0 ≤ r ∧ r < max c 1) rest) := by
    intro r xs p n m h1 h2
    have ht : Tape (.lst [.lst (xs.map D.int), .int p, .int n, .int m]) := ⟨xs, p, n, m, rfl⟩
    exact exit_clo0 rfl (CL_cons.mpr ⟨ht.cl, hr⟩) rfl (fun _ z => nomatch z) ⟨⟨r, rfl, h1, h2⟩, _, ht, rfl⟩
  have m1 : (if 1 > c then 1 else c) = max c 1 := by split <;> omega
  have m0 : 0 < max c 1 := by omega
  have m2 : (if 2 > c then 2 else c) ≠ 0 ∧ (if 2 > c then 2 else c).natAbs < 1073741824 := by split <;> omega
  have m3 : ¬ max c 1 = 0 := by omega
  refine r__law_draw ?_
  unfold m__law_draw
  simp? only [true_and]
  rw [m1]
  refine br_i (fun _ => br_i (fun hp => ?_) fun _ => ?_) fun _ => ⟨m2, m3, fin _ xs p _ m (fm m0).1 (fm m0).2⟩
  · have hp : p < xs.length := by simpa using hp
    rw [show L2.atI (xs.map D.int) (p : Int) = some (.int xs[p]) from (atI_of _ p).trans (by simp [hp])]
    simp? only [true_and]
    exact br_i (fun _ => ⟨m3, fin _ xs (p + 1) _ m (fm m0).1 (fm m0).2⟩) fun _ => ⟨m2, m3, fin _ xs (p + 1) _ m (fm m0).1 (fm m0).2⟩
  · exact br_i (fun _ => ⟨m3, fin _ xs (p + 1) _ _ (fm m0).1 (fm m0).2⟩) fun _ => ⟨m2, m3, fin _ xs (p + 1) _ _ (fm m0).1 (fm m0).2⟩
theorem fin {o : MObj} {rest : Store} {d : D} {R : D → Prop} (ho : Tape o) (hr : CL rest) (hd : clo 0 d = true) (h : R d) : Mn.W (exitR false (List.length rest + 1) d (o :: rest)) (PQ R rest) :=
  exitC0 rfl (CL_cons.mpr ⟨ho.cl, hr⟩) hd ⟨h, o, ho, rfl⟩
theorem Dr.imp {C : List V} {k j : Nat} {ds : List D} {rest : Store} {R R' : D → Prop} (h : Dr C k j ds rest R) (q : ∀ d, R d → R' d) : Dr C k j ds rest R' := fun o ho => (h o ho).mono fun a ⟨h1, h2⟩ => ⟨q _ h1, h2⟩
theorem draw_ok' (C : List V) {k : Nat} (hk : 1 ≤ k) (c : Int) {rest : Store} (hr : CL rest) (hc : c.natAbs < 1073741824) : Dr C k j__law_draw [.ref 0, .int c] rest fun d => ∃ r : Int, d = .int r ∧ 0 ≤ r ∧ r < max c 1 := by
  obtain ⟨k, rfl⟩ := Nat.exists_eq_add_of_le' hk
  exact draw_ok C k c rest hr hc
/-- one of a menu -/
theorem pick_ok (C : List V) {k : Nat} (hk : 2 ≤ k) {xs : List D} {rest : Store} (hr : CL rest) (h0 : 0 < xs.length) (hx : ∀ d ∈ xs, clo 0 d = true) (hl : xs.length < 1073741824) : Dr C k j__law_pick [.ref 0, .lst xs] rest fun d => d ∈ xs := by
  obtain ⟨k, rfl⟩ := Nat.exists_eq_add_of_le' hk
  intro o ho
  refine r__law_pick ?_
  unfold m__law_pick
  simp? only [true_and]
  refine (draw_ok C k xs.length rest hr (by omega)).W ho ?_
  rintro d o' ⟨r, rfl, h1, h2⟩ ho'
  simp? only [true_and]
  obtain ⟨d, hd, e⟩ := atI_mem (xs := xs) h1 (by omega)
  rw [e]
  simp? only [true_and]
  exact fin ho' hr (hx d hd) hd
/-- whole numbers from lo up to hi, not hi -/
def Rg (lo hi : Int) (d : D) : Prop := ∃ i : Int, d = .int i ∧ lo ≤ i ∧ i < hi
theorem Rg.clo {lo hi : Int} {d : D} (h : Rg lo hi d) : clo 0 d = true := by
  obtain ⟨i, rfl, _⟩ := h
  rfl
theorem rg_of {lo hi i : Int} (h1 : lo ≤ i) (h2 : i < hi) : Rg lo hi (.int i) := ⟨i, rfl, h1, h2⟩
theorem mem_int {xs : List D} {lo hi : Int} (h : ∀ d ∈ xs, Rg lo hi d) : ∀ d ∈ xs, clo 0 d = true := fun d hd => (h d hd).clo
theorem value_ok (C : List V) {k : Nat} (hk : 3 ≤ k) {rest : Store} (hr : CL rest) : Dr C k j__law_value [.ref 0] rest (Rg 0 1000) := by
  obtain ⟨k, rfl⟩ := Nat.exists_eq_add_of_le' hk
  intro o ho
  refine r__law_value ?_
  unfold m__law_value
  simp? only [true_and]
  refine (draw_ok' C (by omega) 6 hr (by decide)).W ho ?_
  rintro d o' ⟨r, rfl, h1, h2⟩ ho'
  simp? only [true_and]
  refine br_i (fun _ => fin ho' hr rfl (rg_of (by decide) (by decide))) fun c0 => br_i (fun c1 => ?_) fun c1 => ?_
  · refine ⟨by decide, (pick_ok C (by omega) hr (by decide) (by decide) (by decide)).W ho' fun d o2 hd ho2 => ?_⟩
    simp only [List.mem_cons, List.not_mem_nil, or_false] at hd
    rcases hd with rfl | rfl
    · simp? only [true_and]
      exact fin ho2 hr rfl (rg_of (by decide) (by decide))
    · simp? only [true_and]
      exact fin ho2 hr rfl (rg_of (by decide) (by decide))
  · have c0 : r ≠ 0 := by simpa using c0
    have c1 : r ≠ 1 := by simpa using c1
    have h2 : r < 6 := by omega
    obtain ⟨d, hd, e⟩ := atI_mem (xs := [.int 32, .int 4, .int 4, .int 8]) (r := r - 2) (by omega) (by simp only [List.length_cons, List.length_nil]; omega)
    refine ⟨by decide, ?_⟩
    rw [e]
    simp only [List.mem_cons, List.not_mem_nil, or_false] at hd
    have : ∃ c : Int, d = .int c ∧ 1 ≤ c ∧ c ≤ 32 := by rcases hd with rfl | rfl | rfl | rfl <;> exact ⟨_, rfl, by decide, by decide⟩
    obtain ⟨c, rfl, c2, c3⟩ := this
    simp? only [true_and]
    refine (draw_ok' C (by omega) c hr (by omega)).W ho' ?_
    rintro d o2 ⟨r2, rfl, h3, h4⟩ ho2
    simp? only [true_and]
    exact fin ho2 hr rfl (rg_of h3 (by omega))
end H82
set_option Elab.async false
set_option linter.all false
set_option maxRecDepth 100000
set_option maxHeartbeats 4000000
set_option autoImplicit false
namespace H82
open PySem PySem.Spec PyProof.Rows L2 Mn
local macro_rules
  | `(tactic| simp? only [$ls,*]) => `(tactic| simp only [$ls,*, ↓br_t, ↓br_f, ↓KS_nx, ↓KS_ret, ↓KS_brk, ↓KS_cnt, ↓LQ_nx, ↓LQ_cnt, ↓LQ_brk, ↓LQ_ret, ↓EX_nx, ↓EX_ret, ↓SETE_0, ↓SETE_s, ↓BL_b, ↓INT_i, ↓KEY_s, ↓NL_0, ↓NL_s, ↓W_lstAt0, ↓W_lstAts, ↓W_at0, ↓W_ats, ↓PAR2_c, ↓PAR3_c, ↓RNG_i, ↓SEQ_l, ↓SEQ_f, ↓SEQ_t, ↓SEQ_r, ↓W_some, ↓W_atI0, ↓W_atI1, ↓W_atI2, ↓W_atI3, ↓W_atI4, ↓W_atI5, ↓W_atI6, ↓W_atI7, ↓W_atI8, ↓W_atI9, ↓W_atI10, ↓W_atI11, ↓W_atI12, ↓W_seqS, ↓W_asgS, ↓W_exprS, ↓W_retS, ↓W_retN, ↓W_brkS, ↓W_cntS, ↓W_nextS, ↓W_ifS, ↓W_forS, ↓W_par2, ↓W_par3, ↓W_nameG, ↓W_tupG, ↓W_consG, ↓W_nilG, ↓W_subG, ↓W_setO0, ↓W_setOs, ↓SETL_0, ↓SETL_s, ↓IXN_0, ↓IXN_1, ↓IXN_2, ↓IXN_3, ↓IXN_nat, ↓W_var0, ↓W_vars, ↓W_cM, ↓W_binM, ↓W_unM, ↓W_negM, ↓W_nilA, ↓W_consA, ↓W_callM, ↓W_tupM, ↓W_lstM, ↓W_lstMt, ↓W_slcM, ↓W_part0, ↓W_parts, ↓W_slOt, ↓W_slOl, ↓W_slOr, ↓W_ifM, ↓W_truM, ↓W_bolM, ↓W_andT, ↓W_orT, ↓W_notT, ↓W_andE, ↓W_orE, ↓W_notE, ↓W_mthL, ↓W_lstFr, ↓W_dctM, ↓W_dctMt, ↓W_nilK, ↓W_consK, ↓W_kwM, ↓W_maxdM, ↓W_sort2M, ↓W_listRgM, ↓W_listRgMt, ↓W_lcM, ↓W_rng1I, ↓W_seqI, ↓W_addI, ↓W_addT, ↓W_addL, ↓W_addLt, ↓W_subI, ↓W_mulI, ↓W_mulL, ↓W_fdiv, ↓W_mod, ↓W_pow, ↓W_cmp, ↓W_is, ↓W_isNot, ↓W_eqi, ↓W_eqis, ↓W_eqb, ↓W_nei, ↓W_neis, ↓W_neb, ↓W_itT, ↓W_itL, ↓W_itF, ↓W_itD, ↓W_one, ↓W_lenL, ↓W_lenT, ↓W_lenF, ↓W_intI, ↓W_intB, ↓W_absI, ↓W_max2, ↓W_min2, ↓W_tupCl, ↓W_tupCr, ↓W_tupCt, ↓W_lstCf, ↓W_lstCl, ↓W_truL, ↓W_truT, ↓W_truB, ↓W_yesT, ↓W_itR0, ↓W_itRs, ↓H82.W_defC, ↓W_dget_hit, ↓W_dget_miss, ↓W_eqs_t, ↓W_eqs_f, ↓W_nes_t, ↓W_nes_f, ↓W_isiST, ↓W_isiIT, ↓W_isiTT, ↓W_isiIS, ↓W_isiIB, ↓W_isiII, ↓W_memT', ↓W_listRg2M, ↓W_rng2I, ↓RNG2_i, ↓W_lstAt_end, ↓W_apps, ↓W_app_end, ↓W_memLd, ↓W_notMemLd, ↓MEMD_nil, ↓MEMD_hit, ↓MEMD_miss, List.length_cons, List.length_nil, List.length_map, Nat.reduceAdd, Nat.reduceLT, Nat.reduceLeDiff, Nat.zero_add, List.append_nil, List.nil_append, List.cons_append, Nat.reduceBEq, Int.reduceBEq, Nat.reduceEqDiff, beq_self_eq_true, true_and, and_true, Bool.not_true, Bool.not_false, Bool.or_true, Bool.true_or, H82.sm1, H82.sm2, H82.sm3, H82.p18, ne_eq, not_false_eq_true, Int.reduceEq, reduceCtorEq, List.isEmpty_nil, List.isEmpty_cons, List.all_cons, List.all_nil, isSym_s, List.any_cons, List.any_nil, eqv_sym, Bool.or_false, Bool.false_or, Bool.and_self, Int.reduceLT, Int.reduceAdd, Int.reduceSub, decide_true, decide_false])
theorem all_words_ok (C : List V) {k : Nat} (hk : 1 ≤ k) (st : Store) (hs : CL st) : W (runP (pg C) k j__law_all_words [] st) fun q => q.2 = st ∧ ∃ xs, q.1 = .lst xs ∧ 0 < xs.length ∧ xs.length < 1000 ∧ ∀ d ∈ xs, Rg 0 1000 d := by
  obtain ⟨k, rfl⟩ := Nat.exists_eq_add_of_le' hk
  refine r__law_all_words ?_
  unfold m__law_all_words
  simp? only [true_and]
  refine ⟨by decide, by decide, by decide, by decide, by decide, by decide, by decide, by decide, by decide, ?_⟩
  have all : ∀ d ∈ rngL 0 32 ++ [D.int 99] ++ rngL 100 108 ++ [.int 199] ++ rngL 200 208, Rg 0 1000 d := by
    intro d hd
    simp only [List.mem_append, List.mem_singleton] at hd
    rcases hd with (((hd | rfl) | hd) | rfl) | hd
    · obtain ⟨i, rfl, h1, h2⟩ := rngL_mem hd
      exact rg_of (by omega) (by omega)
    · exact rg_of (by decide) (by decide)
    · obtain ⟨i, rfl, h1, h2⟩ := rngL_mem hd
      exact rg_of (by omega) (by omega)
    · exact rg_of (by decide) (by decide)
    · obtain ⟨i, rfl, h1, h2⟩ := rngL_mem hd
      exact rg_of (by omega) (by omega)
  exact exitC0 rfl hs (clos_iff.mpr (mem_int all)) ⟨rfl, _, rfl, by decide, by decide, all⟩
theorem word_ok (C : List V) {k : Nat} (hk : 3 ≤ k) {rest : Store} (hr : CL rest) : Dr C k j__law_word [.ref 0] rest (Rg 0 1000) := by
  obtain ⟨k, rfl⟩ := Nat.exists_eq_add_of_le' hk
  intro o ho
  refine r__law_word ?_
  unfold m__law_word
  simp? only [true_and]
  refine (draw_ok' C (by omega) 6 hr (by decide)).W ho ?_
  rintro d o' ⟨r, rfl, h1, h2⟩ ho'
  simp? only [true_and]
  refine br_i (fun _ => ?_) fun _ => br_i (fun _ => ?_) fun _ => br_i (fun _ => ?_) fun _ => br_i (fun _ => ?_) fun _ => ?_
  · refine (draw_ok' C (by omega) 32 hr (by decide)).W ho' ?_
    rintro d o2 ⟨r2, rfl, h3, h4⟩ ho2
    simp? only [true_and]
    exact fin ho2 hr rfl (rg_of h3 (by omega))
  · refine ⟨by decide, (pick_ok C (by omega) hr (by decide) (by decide) (by decide)).W ho' fun d o2 hd ho2 => ?_⟩
    simp only [List.mem_cons, List.not_mem_nil, or_false] at hd
    rcases hd with rfl | rfl | rfl | rfl | rfl <;> simp? only [true_and] <;> exact fin ho2 hr rfl (rg_of (by decide) (by decide))
  · refine (draw_ok' C (by omega) 8 hr (by decide)).W ho' ?_
    rintro d o2 ⟨r2, rfl, h3, h4⟩ ho2
    simp? only [true_and]
    exact fin ho2 hr rfl (rg_of (by omega) (by omega))
  · refine (draw_ok' C (by omega) 8 hr (by decide)).W ho' ?_
    rintro d o2 ⟨r2, rfl, h3, h4⟩ ho2
    simp? only [true_and]
    exact fin ho2 hr rfl (rg_of (by omega) (by omega))
  · refine (all_words_ok C (by omega) _ (CL_cons.mpr ⟨ho'.cl, hr⟩)).mono ?_
    rintro ⟨d, s⟩ ⟨rfl, xs, rfl, h3, h4, h5⟩
    simp? only [true_and]
    refine (pick_ok C (by omega) hr h3 (mem_int h5) (by omega)).W ho' fun d o2 hd ho2 => ?_
    obtain ⟨i, rfl, h6, h7⟩ := h5 d hd
    simp? only [true_and]
    exact fin ho2 hr rfl (rg_of h6 h7)
/-! terms -/
def Leaf (d : D) : Prop := (∃ k, d = .sym k) ∨ ∃ i, d = .int i
def Tm : Nat → D → Prop
  | 0, d => Leaf d
  | n + 1, d => Leaf d ∨ ∃ w args, d = .tup (.sym w :: args) ∧ args.length ≤ 3 ∧ ∀ a ∈ args, Tm n a
theorem Tm.leaf {n : Nat} {d : D} (h : Leaf d) : Tm n d := by
  cases n with
  | zero => exact h
  | succ n => exact .inl h
theorem Tm.clo : ∀ {n : Nat} {d : D}, Tm n d → clo 0 d = true
  | 0, d, h => by rcases h with ⟨k, rfl⟩ | ⟨i, rfl⟩ <;> rfl
  | n + 1, d, h => by
    rcases h with (⟨k, rfl⟩ | ⟨i, rfl⟩) | ⟨w, args, rfl, _, ha⟩
    · rfl
    · rfl
    · show (true && clos 0 args) = true
      rw [Bool.true_and]
      exact clos_iff.mpr fun a h => Tm.clo (ha a h)
theorem Tm.mono : ∀ {n : Nat} {d : D}, Tm n d → Tm (n + 1) d
  | 0, d, h => .inl h
  | n + 1, d, h => by
    rcases h with h | ⟨w, args, rfl, hl, ha⟩
    · exact .inl h
    · exact .inr ⟨w, args, rfl, hl, fun a h => Tm.mono (ha a h)⟩
theorem size_ok (C : List V) : ∀ (n : Nat) {k : Nat} (_ : n + 1 ≤ k) {d : D} (_ : Tm n d) (st : Store) (_ : CL st), W (runP (pg C) k j__law_size [d] st) fun q => q.2 = st ∧ ∃ i : Int, q.1 = .int i := by
  intro n
  induction n with
  | zero =>
    intro k hk d hd st hs
    obtain ⟨k, rfl⟩ := Nat.exists_eq_add_of_le' (show 1 ≤ k by omega)
    refine r__law_size ?_
    unfold m__law_size
    rcases hd with ⟨j, rfl⟩ | ⟨i, rfl⟩ <;> simp? only [true_and] <;> exact exitC0 rfl hs rfl ⟨rfl, _, rfl⟩
  | succ n ih =>
    intro k hk d hd st hs
    obtain ⟨k, rfl⟩ := Nat.exists_eq_add_of_le' (show 1 ≤ k by omega)
    refine r__law_size ?_
    unfold m__law_size
    rcases hd with (⟨j, rfl⟩ | ⟨i, rfl⟩) | ⟨w, args, rfl, hl, ha⟩
    · simp? only [true_and]; exact exitC0 rfl hs rfl ⟨rfl, _, rfl⟩
    · simp? only [true_and]; exact exitC0 rfl hs rfl ⟨rfl, _, rfl⟩
    · simp? only [true_and]
      refine ⟨by rw [okR_small (by decide), okR_small (by omega)]; rfl, ?_⟩
      obtain ⟨J, hJ⟩ : ∃ J : List D → Mn.Env → Store → Prop, J = fun r env s => ∃ (i : Int) (x : Option D), env = [some (.tup (.sym w :: args)), some (.int i), x] ∧ s = st ∧ ∀ d ∈ r, ∃ k : Int, d = .int k ∧ 1 ≤ k ∧ k < args.length + 1 := ⟨_, rfl⟩
      refine forL_W J ?_ ?_ _ _ _ (by rw [hJ]; exact ⟨1, none, rfl, rfl, fun d hd => by obtain ⟨kk, rfl, k1, k2⟩ := rngL_mem hd; exact ⟨kk, rfl, k1, by omega⟩⟩)
      · intro d r env s h
        rw [hJ] at h
        obtain ⟨i, x, rfl, rfl, hr⟩ := h
        obtain ⟨kk, rfl, k1, k2⟩ := hr d List.mem_cons_self
        have skip : ∀ (i : Int) (x : Option D), J r [some (D.tup (.sym w :: args)), some (.int i), x] s := fun i x => by rw [hJ]; exact ⟨i, x, rfl, rfl, fun d hd => hr d (List.mem_cons_of_mem _ hd)⟩
        refine ⟨rfl, ?_⟩
        have go : W (L2.atI (D.sym w :: args) kk) fun d => W (runP (pg C) k j__law_size [d] s) fun p => W (addO false (.int i) p.1 p.2) fun p => J r [some (D.tup (.sym w :: args)), some p.1, some (.int kk)] p.2 := by
          obtain ⟨m, rfl⟩ : ∃ m : Nat, kk = ((m + 1 : Nat) : Int) := ⟨(kk - 1).toNat, by omega⟩
          have hm : m < args.length := by omega
          rw [atI_of, List.getElem?_cons_succ, List.getElem?_eq_getElem hm]
          simp? only [true_and]
          refine (ih (by omega) (ha _ (List.getElem_mem hm)) s hs).mono ?_
          rintro ⟨d, s'⟩ ⟨rfl, i2, rfl⟩
          simp? only [true_and]
          exact skip _ _
        simp? only [↓W_eqs]
        repeat' (first | exact skip _ _ | exact go | refine br_i (fun _ => ?_) fun _ => ?_)
      · intro env s h
        rw [hJ] at h
        obtain ⟨i, x, rfl, rfl, _⟩ := h
        refine ⟨rfl, ?_⟩
        simp? only [true_and]
        exact exitC0 rfl hs rfl ⟨rfl, _, rfl⟩
theorem leaf_ok (C : List V) (nm : List D) (hnm : ∀ d ∈ nm, ∃ k, d = .sym k) (hn0 : 0 < nm.length) (hnl : nm.length < 10) {n k : Nat} (hk : 3 ≤ k) {rest : Store} (hr : CL rest) {o' : MObj} (ho' : Tape o') {r : Int} :
    br (r.fmod 4 == 1) (W (exitR false (List.length rest + 1) (D.sym 54) (o' :: rest)) (PQ (Tm n) rest))
      (br (!r.fmod 4 == 3)
        (W (runP (pg C) k j__law_pick [D.ref 0, D.lst nm] (o' :: rest)) fun p => W (exitR false (List.length rest + 1) p.fst p.snd) (PQ (Tm n) rest))
        (W (runP (pg C) k j__law_draw [D.ref 0, D.int 32] (o' :: rest)) fun p => 3 ≤ bigN ∧
          W (runP (pg C) k j__law_pick [D.ref 0, D.lst [D.int 0, D.int 1, D.int 31]] p.snd) fun p_1 => 3 ≤ bigN ∧
            W (runP (pg C) k j__law_pick [D.ref 0, D.lst [p.fst, p_1.fst, D.int 99]] p_1.snd) fun p => W (exitR false (List.length rest + 1) p.fst p.snd) (PQ (Tm n) rest))) := by
  refine br_i (fun _ => fin ho' hr rfl (Tm.leaf (.inl ⟨_, rfl⟩))) fun _ => br_i (fun _ => ?_) fun _ => ?_
  · refine (pick_ok C (by omega) hr hn0 (fun d hd => by obtain ⟨j, rfl⟩ := hnm d hd; rfl) (by omega)).W ho' fun d o2 hd ho2 => ?_
    obtain ⟨j, rfl⟩ := hnm d hd
    exact fin ho2 hr rfl (Tm.leaf (.inl ⟨_, rfl⟩))
  · refine (draw_ok' C (by omega) 32 hr (by decide)).W ho' ?_
    rintro d o2 ⟨r2, rfl, h3, h4⟩ ho2
    refine ⟨by decide, (pick_ok C (by omega) hr (by decide) (by decide) (by decide)).W ho2 fun d o3 hd ho3 => ⟨by decide, ?_⟩⟩
    have : ∃ c : Int, d = .int c := by
      simp only [List.mem_cons, List.not_mem_nil, or_false] at hd
      rcases hd with rfl | rfl | rfl <;> exact ⟨_, rfl⟩
    obtain ⟨c, rfl⟩ := this
    refine (pick_ok C (by omega) hr (by show 0 < 3; decide) (fun d hd => ?_) (by show 3 < 1073741824; decide)).W ho3 fun d o4 hd ho4 => ?_
    · simp only [List.mem_cons, List.not_mem_nil, or_false] at hd
      rcases hd with rfl | rfl | rfl <;> rfl
    · simp only [List.mem_cons, List.not_mem_nil, or_false] at hd
      rcases hd with rfl | rfl | rfl <;> exact fin ho4 hr rfl (Tm.leaf (.inr ⟨_, rfl⟩))
/-- a term of depth n -/
theorem term_ok (C : List V) (nm pr : List D) (hnm : ∀ d ∈ nm, ∃ k, d = .sym k) (hn0 : 0 < nm.length) (hnl : nm.length < 10) (hpr : ∀ d ∈ pr, ∃ k, d = .sym k) (hpl : pr.length < 10) : ∀ (n : Nat) {k : Nat} (_ : n + 4 ≤ k) (deep most : Int) (_ : deep ≤ n + 1) {rest : Store} (_ : CL rest), Dr C k j__law_term_of [.ref 0, .int deep, .int most, .lst nm, .lst pr] rest (Tm n) := by
  have hne : nm.isEmpty = false := by cases nm with | nil => exact absurd hn0 (by decide) | cons _ _ => rfl
  intro n
  induction n with
  | zero =>
    intro k hk deep most hd rest hr
    obtain ⟨k, rfl⟩ := Nat.exists_eq_add_of_le' (show 1 ≤ k by omega)
    intro o ho
    refine r__law_term_of ?_
    unfold m__law_term_of
    simp? only [true_and]
    refine (draw_ok' C (by omega) 16 hr (by decide)).W ho ?_
    rintro d o' ⟨r, rfl, h1, h2⟩ ho'
    have h9 : deep < 2 := by omega
    simp? only [decide_eq_true h9, hne]
    exact leaf_ok C nm hnm hn0 hnl (by omega) hr ho'
  | succ n ih =>
    intro k hk deep most hd rest hr
    obtain ⟨k, rfl⟩ := Nat.exists_eq_add_of_le' (show 1 ≤ k by omega)
    intro o ho
    refine r__law_term_of ?_
    unfold m__law_term_of
    simp? only [true_and]
    refine (draw_ok' C (by omega) 16 hr (by decide)).W ho ?_
    rintro d o' ⟨r, rfl, h1, h2⟩ ho'
    have two : ∀ {o2 : MObj} (_ : Tape o2) {w : Nat} {t : D} (_ : Tm n t), W (exitR false (List.length rest + 1) (.tup [.sym w, t]) (o2 :: rest)) (PQ (Tm (n + 1)) rest) := fun {_} ho2 {w t} ht =>
      have h : Tm (n + 1) (.tup [.sym w, t]) := .inr ⟨w, [t], rfl, by show 1 ≤ 3; decide, fun a ha => by rw [List.mem_singleton.mp ha]; exact ht⟩
      fin ho2 hr h.clo h
    have three : ∀ {o2 : MObj} (_ : Tape o2) {w : Nat} {t u : D} (_ : Tm n t) (_ : Tm n u), W (exitR false (List.length rest + 1) (.tup [.sym w, t, u]) (o2 :: rest)) (PQ (Tm (n + 1)) rest) := fun {_} ho2 {w t u} ht hu =>
      have h : Tm (n + 1) (.tup [.sym w, t, u]) := .inr ⟨w, [t, u], rfl, by show 2 ≤ 3; decide, fun a ha => by
        rcases List.mem_cons.mp ha with rfl | ha
        · exact ht
        · rw [List.mem_singleton.mp ha]; exact hu⟩
      fin ho2 hr h.clo h
    have ih' : ∀ (m : Int), Dr C k j__law_term_of [.ref 0, .int (deep - 1), .int m, .lst nm, .lst pr] rest (Tm n) := fun m => ih (by omega) (deep - 1) m (by omega) hr
    have k4 : 0 < pr.length → W (runP (pg C) k j__law_pick [D.ref 0, D.lst pr] (o' :: rest)) fun p => W (runP (pg C) k j__law_term_of [D.ref 0, D.int (deep - 1), D.int (most - 1), D.lst nm, D.lst pr] p.snd) fun p_1 =>
        3 ≤ bigN ∧ W (exitR false (List.length rest + 1) (D.tup [D.sym 55, p.fst, p_1.fst]) p_1.snd) (PQ (Tm (n + 1)) rest) := fun h0 => by
      refine (pick_ok C (by omega) hr h0 (fun d hd => by obtain ⟨j, rfl⟩ := hpr d hd; rfl) (by omega)).W ho' fun d o2 hd ho2 => ?_
      obtain ⟨j, rfl⟩ := hpr d hd
      exact (ih' _).W ho2 fun t o3 ht ho3 => ⟨by decide, three ho3 (Tm.leaf (.inl ⟨_, rfl⟩)) ht⟩
    have k5 : 4 ≤ bigN ∧ W (runP (pg C) k j__law_draw [D.ref 0, D.int 4] (o' :: rest)) fun q => W (itemO (TB C) (D.lst [D.sym 88, D.sym 89, D.sym 90, D.sym 91]) q.fst q.snd) fun p =>
        W (runP (pg C) k j__law_term_of [D.ref 0, D.int (deep - 1), D.int (most - 1), D.lst nm, D.lst pr] p.snd) fun p_1 => 2 ≤ bigN ∧ W (exitR false (List.length rest + 1) (D.tup [p.fst, p_1.fst]) p_1.snd) (PQ (Tm (n + 1)) rest) := by
      refine ⟨by decide, (draw_ok' C (by omega) 4 hr (by decide)).W ho' ?_⟩
      rintro d o2 ⟨r2, rfl, h3, h4⟩ ho2
      simp? only [true_and]
      obtain ⟨d, hd, e⟩ := atI_mem (xs := [D.sym 88, D.sym 89, D.sym 90, D.sym 91]) (r := r2) h3 (by show r2 < 4; omega)
      have : ∃ w, d = .sym w := by
        simp only [List.mem_cons, List.not_mem_nil, or_false] at hd
        rcases hd with rfl | rfl | rfl | rfl <;> exact ⟨_, rfl⟩
      obtain ⟨w, rfl⟩ := this
      rw [e]
      simp? only [true_and]
      exact (ih' _).W ho2 fun t o3 ht ho3 => ⟨by decide, two ho3 ht⟩
    have k6 : W (runP (pg C) k j__law_term_of [D.ref 0, D.int (deep - 1), D.int (most - 1), D.lst nm, D.lst pr] (o' :: rest)) fun p => W (runP (pg C) k j__law_draw [D.ref 0, D.int 32] p.snd) fun q =>
        W (addO false (D.int 1) q.fst q.snd) fun p_1 => 3 ≤ bigN ∧ W (exitR false (List.length rest + 1) (D.tup [D.sym 56, p.fst, p_1.fst]) p_1.snd) (PQ (Tm (n + 1)) rest) := by
      refine (ih' _).W ho' fun t o3 ht ho3 => ?_
      refine (draw_ok' C (by omega) 32 hr (by decide)).W ho3 ?_
      rintro d o2 ⟨r2, rfl, h3, h4⟩ ho2
      simp? only [true_and]
      exact ⟨by decide, three ho2 ht (Tm.leaf (.inr ⟨_, rfl⟩))⟩
    have k7 : 10 ≤ r → 6 ≤ bigN ∧ W (L2.atI [D.sym 57, D.sym 58, D.sym 59, D.sym 60, D.sym 61, D.sym 62] (r - 10)) fun d =>
        W (runP (pg C) k j__law_term_of [D.ref 0, D.int (deep - 1), D.int (most - 2), D.lst nm, D.lst pr] (o' :: rest)) fun p => W (runP (pg C) k j__law_size [p.fst] p.snd) fun q => W (subO (D.int (most - 1)) q.fst q.snd) fun p_1 =>
          W (runP (pg C) k j__law_term_of [D.ref 0, D.int (deep - 1), p_1.fst, D.lst nm, D.lst pr] p_1.snd) fun p_2 => 3 ≤ bigN ∧ W (exitR false (List.length rest + 1) (D.tup [d, p.fst, p_2.fst]) p_2.snd) (PQ (Tm (n + 1)) rest) := fun h10 => by
      refine ⟨by decide, ?_⟩
      obtain ⟨d, hd, e⟩ := atI_mem (xs := [D.sym 57, D.sym 58, D.sym 59, D.sym 60, D.sym 61, D.sym 62]) (r := r - 10) (by omega) (by show r - 10 < 6; omega)
      have : ∃ w, d = .sym w := by
        simp only [List.mem_cons, List.not_mem_nil, or_false] at hd
        rcases hd with rfl | rfl | rfl | rfl | rfl | rfl <;> exact ⟨_, rfl⟩
      obtain ⟨w, rfl⟩ := this
      rw [e]
      simp? only [true_and]
      refine (ih' _).W ho' fun t o3 ht ho3 => ?_
      refine (size_ok C n (by omega) ht _ (CL_cons.mpr ⟨ho3.cl, hr⟩)).mono ?_
      rintro ⟨d, s⟩ ⟨rfl, i, rfl⟩
      simp? only [true_and]
      exact (ih' _).W ho3 fun u o4 hu ho4 => ⟨by decide, three ho4 ht hu⟩
    have hpe : pr.isEmpty = false → 0 < pr.length := fun h => by cases pr with | nil => cases h | cons _ _ => exact Nat.zero_lt_succ _
    cases hp : pr.isEmpty <;> simp? only [hne, hp] <;>
      repeat' (first | exact leaf_ok C nm hnm hn0 hnl (by omega) hr ho' | exact k4 (hpe hp) | exact k5 | exact k6 | exact k7 (by omega) | refine br_d (fun _ => ?_) fun _ => ?_ | refine br_e (fun _ => ?_) fun _ => ?_ | refine br_i (fun _ => ?_) fun _ => ?_)
/-! scopes -/
def sNm : List D := [.sym 82, .sym 83]
def sSh : List D := [.sym 84, .sym 85]
def Sc (pr parts : List D) (each : Int) : D := .dct [.s 35, .s 45, .s 46, .s 34, .s 47, .s 33, .s 48] [.lst sNm, .lst sSh, .lst pr, .lst parts, .int each, .bl false, .lst []]
structure ScOk (pr parts : List D) (each : Int) : Prop where
  prs : ∀ d ∈ pr, ∃ k, d = .sym k
  prl : pr.length < 10
  pas : ∀ d ∈ parts, ∃ k, d = .sym k
  pal : parts.length < 10
  each0 : 0 ≤ each
  each1 : each < 10
theorem syms_clo {xs : List D} (h : ∀ d ∈ xs, ∃ k, d = .sym k) : ∀ d ∈ xs, clo 0 d = true := fun d hd => by
  obtain ⟨k, rfl⟩ := h d hd
  rfl
theorem nm_ok : ∀ d ∈ sNm, ∃ k, d = D.sym k := fun d hd => by
  simp only [sNm, List.mem_cons, List.not_mem_nil, or_false] at hd
  rcases hd with rfl | rfl <;> exact ⟨_, rfl⟩
theorem sh_ok : ∀ d ∈ sSh, ∃ k, d = D.sym k := fun d hd => by
  simp only [sSh, List.mem_cons, List.not_mem_nil, or_false] at hd
  rcases hd with rfl | rfl <;> exact ⟨_, rfl⟩
def Cl (d : D) : Prop := clo 0 d = true
theorem ints_mem {d : D} {l : List Int} (h : d ∈ l.map D.int) : ∃ i ∈ l, d = .int i := by
  obtain ⟨i, h1, rfl⟩ := List.mem_map.mp h
  exact ⟨i, h1, rfl⟩
theorem small_ok (C : List V) {pr parts : List D} {each : Int} (S : ScOk pr parts each) {k : Nat} (hk : 9 ≤ k) {rest : Store} (hr : CL rest) : Dr C k j__law_small [.ref 0, Sc pr parts each] rest Cl := by
  obtain ⟨k, rfl⟩ := Nat.exists_eq_add_of_le' (show 1 ≤ k by omega)
  intro o ho
  refine r__law_small ?_
  unfold m__law_small
  simp? only [true_and]
  refine ⟨by decide, (draw_ok' C (by omega) 6 hr (by decide)).W ho ?_⟩
  rintro d o2 ⟨r, rfl, h1, h2⟩ ho2
  simp? only [true_and]
  obtain ⟨d, hd, e⟩ := atI_mem (xs := [D.int 1, .int 1, .int 2, .int 2, .int 3, .int 5]) (r := r) h1 (by show r < 6; omega)
  have : ∃ c : Int, d = .int c ∧ c ≤ 5 := by
    simp only [List.mem_cons, List.not_mem_nil, or_false] at hd
    rcases hd with rfl | rfl | rfl | rfl | rfl | rfl <;> exact ⟨_, rfl, by decide⟩
  obtain ⟨c, rfl, hc⟩ := this
  rw [e]
  simp? only [true_and]
  refine ⟨by decide, (draw_ok' C (by omega) 3 hr (by decide)).W ho2 ?_⟩
  rintro d o3 ⟨r2, rfl, h3, h4⟩ ho3
  simp? only [true_and]
  obtain ⟨d, hd, e⟩ := atI_mem (xs := [D.int 3, .int 5, .int 15]) (r := r2) h3 (by show r2 < 3; omega)
  have : ∃ c : Int, d = .int c := by
    simp only [List.mem_cons, List.not_mem_nil, or_false] at hd
    rcases hd with rfl | rfl | rfl <;> exact ⟨_, rfl⟩
  obtain ⟨c2, rfl⟩ := this
  rw [e]
  unfold Sc
  simp? only [true_and]
  refine (term_ok C sNm pr nm_ok (by decide) (by decide) S.prs S.prl 4 (by omega) c c2 (by omega) hr).W ho3 fun t o4 ht ho4 => ?_
  exact fin ho4 hr ht.clo ht.clo
end H82
set_option Elab.async false
set_option linter.all false
set_option maxRecDepth 100000
set_option maxHeartbeats 4000000
set_option autoImplicit false
namespace H82
open PySem PySem.Spec PyProof.Rows L2 Mn
local macro_rules
  | `(tactic| simp? only [$ls,*]) => `(tactic| simp only [$ls,*, ↓br_t, ↓br_f, ↓KS_nx, ↓KS_ret, ↓KS_brk, ↓KS_cnt, ↓LQ_nx, ↓LQ_cnt, ↓LQ_brk, ↓LQ_ret, ↓EX_nx, ↓EX_ret, ↓SETE_0, ↓SETE_s, ↓BL_b, ↓INT_i, ↓KEY_s, ↓NL_0, ↓NL_s, ↓W_lstAt0, ↓W_lstAts, ↓W_at0, ↓W_ats, ↓PAR2_c, ↓PAR3_c, ↓RNG_i, ↓SEQ_l, ↓SEQ_f, ↓SEQ_t, ↓SEQ_r, ↓W_some, ↓W_atI0, ↓W_atI1, ↓W_atI2, ↓W_atI3, ↓W_atI4, ↓W_atI5, ↓W_atI6, ↓W_atI7, ↓W_atI8, ↓W_atI9, ↓W_atI10, ↓W_atI11, ↓W_atI12, ↓W_seqS, ↓W_asgS, ↓W_exprS, ↓W_retS, ↓W_retN, ↓W_brkS, ↓W_cntS, ↓W_nextS, ↓W_ifS, ↓W_forS, ↓W_par2, ↓W_par3, ↓W_nameG, ↓W_tupG, ↓W_consG, ↓W_nilG, ↓W_subG, ↓W_setO0, ↓W_setOs, ↓SETL_0, ↓SETL_s, ↓IXN_0, ↓IXN_1, ↓IXN_2, ↓IXN_3, ↓IXN_nat, ↓W_var0, ↓W_vars, ↓W_cM, ↓W_binM, ↓W_unM, ↓W_negM, ↓W_nilA, ↓W_consA, ↓W_callM, ↓W_tupM, ↓W_lstM, ↓W_lstMt, ↓W_slcM, ↓W_part0, ↓W_parts, ↓W_slOt, ↓W_slOl, ↓W_slOr, ↓W_ifM, ↓W_truM, ↓W_bolM, ↓W_andT, ↓W_orT, ↓W_notT, ↓W_andE, ↓W_orE, ↓W_notE, ↓W_mthL, ↓W_lstFr, ↓W_dctM, ↓W_dctMt, ↓W_nilK, ↓W_consK, ↓W_kwM, ↓W_maxdM, ↓W_sort2M, ↓W_listRgM, ↓W_listRgMt, ↓W_lcM, ↓W_rng1I, ↓W_seqI, ↓W_addI, ↓W_addT, ↓W_addL, ↓W_addLt, ↓W_subI, ↓W_mulI, ↓W_mulL, ↓W_fdiv, ↓W_mod, ↓W_pow, ↓W_cmp, ↓W_is, ↓W_isNot, ↓W_eqi, ↓W_eqis, ↓W_eqb, ↓W_nei, ↓W_neis, ↓W_neb, ↓W_itT, ↓W_itL, ↓W_itF, ↓W_itD, ↓W_one, ↓W_lenL, ↓W_lenT, ↓W_lenF, ↓W_intI, ↓W_intB, ↓W_absI, ↓W_max2, ↓W_min2, ↓W_tupCl, ↓W_tupCr, ↓W_tupCt, ↓W_lstCf, ↓W_lstCl, ↓W_truL, ↓W_truT, ↓W_truB, ↓W_yesT, ↓W_itR0, ↓W_itRs, ↓H82.W_defC, ↓W_dget_hit, ↓W_dget_miss, ↓W_eqs_t, ↓W_eqs_f, ↓W_nes_t, ↓W_nes_f, ↓W_isiST, ↓W_isiIT, ↓W_isiTT, ↓W_isiIS, ↓W_isiIB, ↓W_isiII, ↓W_memT', ↓W_listRg2M, ↓W_rng2I, ↓RNG2_i, ↓W_lstAt_end, ↓W_apps, ↓W_app_end, ↓W_memLd, ↓W_notMemLd, ↓MEMD_nil, ↓MEMD_hit, ↓MEMD_miss, List.length_cons, List.length_nil, List.length_map, Nat.reduceAdd, Nat.reduceLT, Nat.reduceLeDiff, Nat.zero_add, List.append_nil, List.nil_append, List.cons_append, Nat.reduceBEq, Int.reduceBEq, Nat.reduceEqDiff, beq_self_eq_true, true_and, and_true, Bool.not_true, Bool.not_false, Bool.or_true, Bool.true_or, H82.sm1, H82.sm2, H82.sm3, H82.p18, ne_eq, not_false_eq_true, Int.reduceEq, reduceCtorEq, List.isEmpty_nil, List.isEmpty_cons, List.all_cons, List.all_nil, isSym_s, List.any_cons, List.any_nil, eqv_sym, Bool.or_false, Bool.false_or, Bool.and_self, Int.reduceLT, Int.reduceAdd, Int.reduceSub, decide_true, decide_false])
theorem pos_of {xs : List D} (h : xs.isEmpty = false) : 0 < xs.length := by cases xs with | nil => cases h | cons _ _ => exact Nat.zero_lt_succ _
theorem clo2 {w : Nat} {a b : D} (ha : Cl a) (hb : Cl b) : Cl (.tup [.sym w, a, b]) := by
  show (true && (clo 0 a && (clo 0 b && true))) = true
  rw [show clo 0 a = true from ha, show clo 0 b = true from hb]; rfl
theorem clo1 {w : Nat} {a : D} (ha : Cl a) : Cl (.tup [.sym w, a]) := by
  show (true && (clo 0 a && true)) = true
  rw [show clo 0 a = true from ha]; rfl
theorem sNm_e : sNm.isEmpty = false := rfl
theorem sSh_e : sSh.isEmpty = false := rfl
theorem sNm_l : sNm.length = 2 := rfl
theorem sSh_l : sSh.length = 2 := rfl
section
variable {B : Tb} {pr parts : List D} {each : Int} {st : Store} {Q : D × Store → Prop}
theorem sc_names : W (itemO B (Sc pr parts each) (.sym 35) st) Q ↔ Q (.lst sNm, st) := by unfold Sc; simp? only [true_and]
theorem sc_shared : W (itemO B (Sc pr parts each) (.sym 45) st) Q ↔ Q (.lst sSh, st) := by unfold Sc; simp? only [true_and]
theorem sc_privates : W (itemO B (Sc pr parts each) (.sym 46) st) Q ↔ Q (.lst pr, st) := by unfold Sc; simp? only [true_and]
theorem sc_fields : W (itemO B (Sc pr parts each) (.sym 34) st) Q ↔ Q (.lst parts, st) := by unfold Sc; simp? only [true_and]
theorem sc_slots : W (itemO B (Sc pr parts each) (.sym 47) st) Q ↔ Q (.int each, st) := by unfold Sc; simp? only [true_and]
theorem sc_program : W (itemO B (Sc pr parts each) (.sym 33) st) Q ↔ Q (.bl false, st) := by unfold Sc; simp? only [true_and]
theorem sc_calls : W (itemO B (Sc pr parts each) (.sym 48) st) Q ↔ Q (.lst [], st) := by unfold Sc; simp? only [true_and]
end
local macro_rules
  | `(tactic| simp? [$ls,*]) => `(tactic| simp only [$ls,*, ↓br_t, ↓br_f, ↓KS_nx, ↓KS_ret, ↓KS_brk, ↓KS_cnt, ↓LQ_nx, ↓LQ_cnt, ↓LQ_brk, ↓LQ_ret, ↓EX_nx, ↓EX_ret, ↓SETE_0, ↓SETE_s, ↓BL_b, ↓INT_i, ↓KEY_s, ↓NL_0, ↓NL_s, ↓W_lstAt0, ↓W_lstAts, ↓W_at0, ↓W_ats, ↓PAR2_c, ↓PAR3_c, ↓RNG_i, ↓SEQ_l, ↓SEQ_f, ↓SEQ_t, ↓SEQ_r, ↓W_some, ↓W_atI0, ↓W_atI1, ↓W_atI2, ↓W_atI3, ↓W_atI4, ↓W_atI5, ↓W_atI6, ↓W_atI7, ↓W_atI8, ↓W_atI9, ↓W_atI10, ↓W_atI11, ↓W_atI12, ↓W_seqS, ↓W_asgS, ↓W_exprS, ↓W_retS, ↓W_retN, ↓W_brkS, ↓W_cntS, ↓W_nextS, ↓W_ifS, ↓W_forS, ↓W_par2, ↓W_par3, ↓W_nameG, ↓W_tupG, ↓W_consG, ↓W_nilG, ↓W_subG, ↓W_setO0, ↓W_setOs, ↓SETL_0, ↓SETL_s, ↓IXN_0, ↓IXN_1, ↓IXN_2, ↓IXN_3, ↓IXN_nat, ↓W_var0, ↓W_vars, ↓W_cM, ↓W_binM, ↓W_unM, ↓W_negM, ↓W_nilA, ↓W_consA, ↓W_callM, ↓W_tupM, ↓W_lstM, ↓W_lstMt, ↓W_slcM, ↓W_part0, ↓W_parts, ↓W_slOt, ↓W_slOl, ↓W_slOr, ↓W_ifM, ↓W_truM, ↓W_bolM, ↓W_andT, ↓W_orT, ↓W_notT, ↓W_andE, ↓W_orE, ↓W_notE, ↓W_mthL, ↓W_lstFr, ↓W_dctM, ↓W_dctMt, ↓W_nilK, ↓W_consK, ↓W_kwM, ↓W_maxdM, ↓W_sort2M, ↓W_listRgM, ↓W_listRgMt, ↓W_lcM, ↓W_rng1I, ↓W_seqI, ↓W_addI, ↓W_addT, ↓W_addL, ↓W_addLt, ↓W_subI, ↓W_mulI, ↓W_mulL, ↓W_fdiv, ↓W_mod, ↓W_pow, ↓W_cmp, ↓W_is, ↓W_isNot, ↓W_eqi, ↓W_eqis, ↓W_eqb, ↓W_nei, ↓W_neis, ↓W_neb, ↓W_itT, ↓W_itL, ↓W_itF, ↓W_itD, ↓W_one, ↓W_lenL, ↓W_lenT, ↓W_lenF, ↓W_intI, ↓W_intB, ↓W_absI, ↓W_max2, ↓W_min2, ↓W_tupCl, ↓W_tupCr, ↓W_tupCt, ↓W_lstCf, ↓W_lstCl, ↓W_truL, ↓W_truT, ↓W_truB, ↓W_yesT, ↓W_itR0, ↓W_itRs, ↓H82.W_defC, ↓W_dget_hit, ↓W_dget_miss, ↓W_eqs_t, ↓W_eqs_f, ↓W_nes_t, ↓W_nes_f, ↓W_isiST, ↓W_isiIT, ↓W_isiTT, ↓W_isiIS, ↓W_isiIB, ↓W_isiII, ↓W_memT', ↓W_listRg2M, ↓W_rng2I, ↓RNG2_i, ↓W_lstAt_end, ↓W_apps, ↓W_app_end, ↓W_memLd, ↓W_notMemLd, ↓MEMD_nil, ↓MEMD_hit, ↓MEMD_miss, List.length_cons, List.length_nil, List.length_map, Nat.reduceAdd, Nat.reduceLT, Nat.reduceLeDiff, Nat.zero_add, List.append_nil, List.nil_append, List.cons_append, Nat.reduceBEq, Int.reduceBEq, Nat.reduceEqDiff, beq_self_eq_true, true_and, and_true, Bool.not_true, Bool.not_false, Bool.or_true, Bool.true_or, H82.sm1, H82.sm2, H82.sm3, H82.p18, ne_eq, not_false_eq_true, Int.reduceEq, reduceCtorEq, List.isEmpty_nil, List.isEmpty_cons, List.all_cons, List.all_nil, isSym_s, List.any_cons, List.any_nil, eqv_sym, Bool.or_false, Bool.false_or, Bool.and_self, Int.reduceLT, Int.reduceAdd, Int.reduceSub, decide_true, decide_false, ↓sc_names, ↓sc_shared, ↓sc_privates, ↓sc_fields, ↓sc_slots, ↓sc_program, ↓sc_calls, sNm_e, sSh_e, sNm_l, sSh_l, bigN])
theorem location_ok (C : List V) {pr parts : List D} {each : Int} (S : ScOk pr parts each) {k : Nat} (hk : 10 ≤ k) {rest : Store} (hr : CL rest) : Dr C k j__law_location [.ref 0, Sc pr parts each] rest Cl := by
  obtain ⟨k, rfl⟩ := Nat.exists_eq_add_of_le' (show 1 ≤ k by omega)
  intro o ho
  have sm : Dr C k j__law_small [.ref 0, Sc pr parts each] rest Cl := small_ok C S (by omega) hr
  have cell : ∀ {o : MObj} (_ : Tape o), W (runP (pg C) k j__law_pick [D.ref 0, D.lst sSh] (o :: rest)) fun p => W (runP (pg C) k j__law_draw [D.ref 0, D.int 2] p.snd) fun p_1 => W (eqO p_1.fst (D.int 0) p_1.snd) fun q => BL q.fst fun b =>
      br b (W (exitR false (List.length rest + 1) (D.tup [D.sym 21, p.fst, D.int 0]) q.snd) (PQ Cl rest))
        (W (runP (pg C) k j__law_small [D.ref 0, Sc pr parts each] q.snd) fun r => W (exitR false (List.length rest + 1) (D.tup [D.sym 21, p.fst, r.fst]) r.snd) (PQ Cl rest)) := fun {o} ho => by
    refine (pick_ok C (by omega) hr (by decide) (syms_clo sh_ok) (by decide)).W ho fun d o2 hd ho2 => ?_
    obtain ⟨j, rfl⟩ := sh_ok d hd
    refine (draw_ok' C (by omega) 2 hr (by decide)).W ho2 ?_
    rintro d o3 ⟨r, rfl, h1, h2⟩ ho3
    simp? only [true_and]
    refine br_e (fun _ => fin ho3 hr rfl rfl) fun _ => sm.W ho3 fun t o4 ht ho4 => ?_
    have h := clo2 (w := 21) (a := .sym j) rfl ht
    exact fin ho4 hr h h
  refine r__law_location ?_
  unfold m__law_location
  cases hp : parts.isEmpty with
  | true =>
    simp? [hp]
    exact cell ho
  | false =>
    simp? [hp]
    refine (draw_ok' C (by omega) 3 hr (by decide)).W ho ?_
    rintro d o2 ⟨r, rfl, h1, h2⟩ ho2
    simp? [true_and]
    refine br_e (fun _ => sm.W ho2 fun t o3 ht ho3 => ?_) fun _ => cell ho2
    refine (pick_ok C (by omega) hr (pos_of hp) (syms_clo S.pas) (by have := S.pal; omega)).W ho3 fun d o4 hd ho4 => ?_
    obtain ⟨j, rfl⟩ := S.pas d hd
    have h := clo2 (w := 63) (b := .sym j) ht rfl
    exact fin ho4 hr h h
/-! steps -/
def Row (w : Nat) (d : D) : Prop := ∃ r, d = .tup (.sym w :: r) ∧ clos 0 r = true
theorem Row.clo {w : Nat} {d : D} (h : Row w d) : clo 0 d = true := by
  obtain ⟨r, rfl, h⟩ := h
  show (true && clos 0 r) = true
  rw [h]; rfl
theorem row_of {w : Nat} {r : List D} (h : ∀ d ∈ r, Cl d) : Row w (.tup (.sym w :: r)) := ⟨r, rfl, clos_iff.mpr h⟩
theorem finR {o : MObj} {rest : Store} {w : Nat} {r : List D} (ho : Tape o) (hr : CL rest) (h : ∀ d ∈ r, Cl d) : Mn.W (exitR false (List.length rest + 1) (.tup (.sym w :: r)) (o :: rest)) (PQ (Row w) rest) :=
  fin ho hr (row_of h).clo (row_of h)
theorem cl1 {a : D} (ha : Cl a) : ∀ d ∈ [a], Cl d := fun d hd => by rw [List.mem_singleton.mp hd]; exact ha
theorem clc {a : D} {l : List D} (ha : Cl a) (h : ∀ d ∈ l, Cl d) : ∀ d ∈ a :: l, Cl d := fun d hd => by
  rcases List.mem_cons.mp hd with rfl | hd
  · exact ha
  · exact h d hd
theorem cl0 : ∀ d ∈ ([] : List D), Cl d := fun d hd => absurd hd (by simp)
/-- the words of steps -/
def stepWords : List Nat := [30, 31, 32, 24, 27, 28, 29, 78, 23, 66, 26, 64, 22, 65, 67]
theorem comp_ok (C : List V) {pr parts : List D} {each : Int} {k : Nat} {rest : Store} (sm : Dr C k j__law_small [.ref 0, Sc pr parts each] rest Cl) (i : Nat) (tl : Mn.Env) (items : List D) {o : MObj} (ho : Tape o) :
    W (lcL (fun _ => true) (nameG (i + 2)) yesT (callM (defC (runP (pg C) k) j__law_small 2 []) (consA (varM 0) (consA (varM 1) nilA))) (some (.ref 0) :: some (Sc pr parts each) :: tl) items (o :: rest)) fun q => q.1.length ≤ items.length ∧ (∀ d ∈ q.1, Cl d) ∧ ∃ o', Tape o' ∧ q.2 = o' :: rest := by
  refine lcL_all (T := fun s => ∃ o', Tape o' ∧ s = o' :: rest) (R := Cl) ?_ items _ ⟨o, ho, rfl⟩
  rintro d s ⟨o1, ho1, rfl⟩
  simp? only [true_and]
  show W (runP (pg C) k j__law_small [.ref 0, Sc pr parts each] (o1 :: rest)) fun x => Cl x.1 ∧ ∃ o', Tape o' ∧ x.2 = o' :: rest
  exact sm.W ho1 fun t o2 ht ho2 => ⟨ht, o2, ho2, rfl⟩
theorem step_of_ok (C : List V) {pr parts : List D} {each : Int} (S : ScOk pr parts each) {k : Nat} (hk : 11 ≤ k) {rest : Store} (hr : CL rest) (w : Nat) (hw : w ∈ stepWords) : Dr C k j__law_step_of [.ref 0, Sc pr parts each, .sym w] rest (Row w) := by
  obtain ⟨k, rfl⟩ := Nat.exists_eq_add_of_le' (show 1 ≤ k by omega)
  intro o ho
  have sm : Dr C k j__law_small [.ref 0, Sc pr parts each] rest Cl := small_ok C S (by omega) hr
  have lo : Dr C k j__law_location [.ref 0, Sc pr parts each] rest Cl := location_ok C S (by omega) hr
  have pk : Dr C k j__law_pick [.ref 0, .lst sNm] rest Cl := (pick_ok C (by omega) hr (by decide) (syms_clo nm_ok) (by decide)).imp fun d hd => syms_clo nm_ok d hd
  refine r__law_step_of ?_
  unfold m__law_step_of
  simp only [stepWords, List.mem_cons, List.not_mem_nil, or_false] at hw
  rcases hw with rfl | rfl | rfl | rfl | rfl | rfl | rfl | rfl | rfl | rfl | rfl | rfl | rfl | rfl | rfl
  all_goals simp? [true_and]
  all_goals repeat' (first
    | refine sm.W (by assumption) fun t _ ht ho => ?_
    | refine lo.W (by assumption) fun t _ ht ho => ?_
    | refine pk.W (by assumption) fun t _ ht ho => ?_
    | (refine finR (by assumption) hr ?_; (repeat (first | exact cl0 | refine clc (by first | assumption | rfl) ?_)); done))
  · refine (draw_ok' C (by omega) 31 hr (by decide)).W (by assumption) ?_
    rintro d o5 ⟨r, rfl, h1, h2⟩ ho5
    simp? [true_and]
    refine finR ho5 hr ?_
    repeat (first | exact cl0 | refine clc (by first | assumption | rfl) ?_)
  · refine (draw_ok' C (by omega) 5 hr (by decide)).W (by assumption) ?_
    rintro d o5 ⟨r, rfl, h1, h2⟩ ho5
    simp? [true_and]
    obtain ⟨d, hd, e⟩ := atI_mem (xs := [D.int 0, .int 1, .int 1, .int 2, .int 3]) (r := r) h1 (by show r < 5; omega)
    have : ∃ c : Nat, d = .int c ∧ c < 4 := by
      simp only [List.mem_cons, List.not_mem_nil, or_false] at hd
      rcases hd with rfl | rfl | rfl | rfl | rfl
      · exact ⟨0, rfl, by decide⟩
      · exact ⟨1, rfl, by decide⟩
      · exact ⟨1, rfl, by decide⟩
      · exact ⟨2, rfl, by decide⟩
      · exact ⟨3, rfl, by decide⟩
    obtain ⟨c, rfl, hc⟩ := this
    rw [e]
    simp? [true_and]
    refine ⟨okR_small (by omega), (comp_ok C sm 8 _ (rngL 0 c) ho5).mono ?_⟩
    rintro ⟨xs, s⟩ ⟨h3, h4, o6, ho6, rfl⟩
    rw [rngL_len] at h3
    refine ⟨by dsimp only at h3 ⊢; omega, ?_⟩
    refine finR ho6 hr (cl1 (clos_iff.mpr h4))
  · refine (comp_ok C sm 9 _ parts (by assumption)).mono ?_
    rintro ⟨xs, s⟩ ⟨h3, h4, o6, ho6, rfl⟩
    have := S.pal
    refine ⟨by dsimp only at h3 ⊢; omega, ?_⟩
    refine finR ho6 hr (clc (by assumption) (cl1 (clos_iff.mpr h4)))
  · have := S.each0
    have := S.each1
    refine (draw_ok' C (by omega) each hr (by omega)).W (by assumption) ?_
    rintro d o5 ⟨r, rfl, h1, h2⟩ ho5
    refine sm.W ho5 fun t _ ht ho6 => ?_
    exact finR ho6 hr (clc rfl (cl1 ht))
end H82
set_option Elab.async false
set_option linter.all false
set_option maxRecDepth 100000
set_option maxHeartbeats 4000000
set_option autoImplicit false
namespace H82
open PySem PySem.Spec PyProof.Rows L2 Mn
local macro_rules
  | `(tactic| simp? only [$ls,*]) => `(tactic| simp only [$ls,*, ↓br_t, ↓br_f, ↓KS_nx, ↓KS_ret, ↓KS_brk, ↓KS_cnt, ↓LQ_nx, ↓LQ_cnt, ↓LQ_brk, ↓LQ_ret, ↓EX_nx, ↓EX_ret, ↓SETE_0, ↓SETE_s, ↓BL_b, ↓INT_i, ↓KEY_s, ↓NL_0, ↓NL_s, ↓W_lstAt0, ↓W_lstAts, ↓W_at0, ↓W_ats, ↓PAR2_c, ↓PAR3_c, ↓RNG_i, ↓SEQ_l, ↓SEQ_f, ↓SEQ_t, ↓SEQ_r, ↓W_some, ↓W_atI0, ↓W_atI1, ↓W_atI2, ↓W_atI3, ↓W_atI4, ↓W_atI5, ↓W_atI6, ↓W_atI7, ↓W_atI8, ↓W_atI9, ↓W_atI10, ↓W_atI11, ↓W_atI12, ↓W_seqS, ↓W_asgS, ↓W_exprS, ↓W_retS, ↓W_retN, ↓W_brkS, ↓W_cntS, ↓W_nextS, ↓W_ifS, ↓W_forS, ↓W_par2, ↓W_par3, ↓W_nameG, ↓W_tupG, ↓W_consG, ↓W_nilG, ↓W_subG, ↓W_setO0, ↓W_setOs, ↓SETL_0, ↓SETL_s, ↓IXN_0, ↓IXN_1, ↓IXN_2, ↓IXN_3, ↓IXN_nat, ↓W_var0, ↓W_vars, ↓W_cM, ↓W_binM, ↓W_unM, ↓W_negM, ↓W_nilA, ↓W_consA, ↓W_callM, ↓W_tupM, ↓W_lstM, ↓W_lstMt, ↓W_slcM, ↓W_part0, ↓W_parts, ↓W_slOt, ↓W_slOl, ↓W_slOr, ↓W_ifM, ↓W_truM, ↓W_bolM, ↓W_andT, ↓W_orT, ↓W_notT, ↓W_andE, ↓W_orE, ↓W_notE, ↓W_mthL, ↓W_lstFr, ↓W_dctM, ↓W_dctMt, ↓W_nilK, ↓W_consK, ↓W_kwM, ↓W_maxdM, ↓W_sort2M, ↓W_listRgM, ↓W_listRgMt, ↓W_lcM, ↓W_rng1I, ↓W_seqI, ↓W_addI, ↓W_addT, ↓W_addL, ↓W_addLt, ↓W_subI, ↓W_mulI, ↓W_mulL, ↓W_fdiv, ↓W_mod, ↓W_pow, ↓W_cmp, ↓W_is, ↓W_isNot, ↓W_eqi, ↓W_eqis, ↓W_eqb, ↓W_nei, ↓W_neis, ↓W_neb, ↓W_itT, ↓W_itL, ↓W_itF, ↓W_itD, ↓W_one, ↓W_lenL, ↓W_lenT, ↓W_lenF, ↓W_intI, ↓W_intB, ↓W_absI, ↓W_max2, ↓W_min2, ↓W_tupCl, ↓W_tupCr, ↓W_tupCt, ↓W_lstCf, ↓W_lstCl, ↓W_truL, ↓W_truT, ↓W_truB, ↓W_yesT, ↓W_itR0, ↓W_itRs, ↓H82.W_defC, ↓W_dget_hit, ↓W_dget_miss, ↓W_eqs_t, ↓W_eqs_f, ↓W_nes_t, ↓W_nes_f, ↓W_isiST, ↓W_isiIT, ↓W_isiTT, ↓W_isiIS, ↓W_isiIB, ↓W_isiII, ↓W_memT', ↓W_listRg2M, ↓W_rng2I, ↓RNG2_i, ↓W_lstAt_end, ↓W_apps, ↓W_app_end, ↓W_memLd, ↓W_notMemLd, ↓MEMD_nil, ↓MEMD_hit, ↓MEMD_miss, List.length_cons, List.length_nil, List.length_map, Nat.reduceAdd, Nat.reduceLT, Nat.reduceLeDiff, Nat.zero_add, List.append_nil, List.nil_append, List.cons_append, Nat.reduceBEq, Int.reduceBEq, Nat.reduceEqDiff, beq_self_eq_true, true_and, and_true, Bool.not_true, Bool.not_false, Bool.or_true, Bool.true_or, H82.sm1, H82.sm2, H82.sm3, H82.p18, ne_eq, not_false_eq_true, Int.reduceEq, reduceCtorEq, List.isEmpty_nil, List.isEmpty_cons, List.all_cons, List.all_nil, isSym_s, List.any_cons, List.any_nil, eqv_sym, Bool.or_false, Bool.false_or, Bool.and_self, Int.reduceLT, Int.reduceAdd, Int.reduceSub, decide_true, decide_false])
local macro_rules
  | `(tactic| simp? [$ls,*]) => `(tactic| simp only [$ls,*, ↓br_t, ↓br_f, ↓KS_nx, ↓KS_ret, ↓KS_brk, ↓KS_cnt, ↓LQ_nx, ↓LQ_cnt, ↓LQ_brk, ↓LQ_ret, ↓EX_nx, ↓EX_ret, ↓SETE_0, ↓SETE_s, ↓BL_b, ↓INT_i, ↓KEY_s, ↓NL_0, ↓NL_s, ↓W_lstAt0, ↓W_lstAts, ↓W_at0, ↓W_ats, ↓PAR2_c, ↓PAR3_c, ↓RNG_i, ↓SEQ_l, ↓SEQ_f, ↓SEQ_t, ↓SEQ_r, ↓W_some, ↓W_atI0, ↓W_atI1, ↓W_atI2, ↓W_atI3, ↓W_atI4, ↓W_atI5, ↓W_atI6, ↓W_atI7, ↓W_atI8, ↓W_atI9, ↓W_atI10, ↓W_atI11, ↓W_atI12, ↓W_seqS, ↓W_asgS, ↓W_exprS, ↓W_retS, ↓W_retN, ↓W_brkS, ↓W_cntS, ↓W_nextS, ↓W_ifS, ↓W_forS, ↓W_par2, ↓W_par3, ↓W_nameG, ↓W_tupG, ↓W_consG, ↓W_nilG, ↓W_subG, ↓W_setO0, ↓W_setOs, ↓SETL_0, ↓SETL_s, ↓IXN_0, ↓IXN_1, ↓IXN_2, ↓IXN_3, ↓IXN_nat, ↓W_var0, ↓W_vars, ↓W_cM, ↓W_binM, ↓W_unM, ↓W_negM, ↓W_nilA, ↓W_consA, ↓W_callM, ↓W_tupM, ↓W_lstM, ↓W_lstMt, ↓W_slcM, ↓W_part0, ↓W_parts, ↓W_slOt, ↓W_slOl, ↓W_slOr, ↓W_ifM, ↓W_truM, ↓W_bolM, ↓W_andT, ↓W_orT, ↓W_notT, ↓W_andE, ↓W_orE, ↓W_notE, ↓W_mthL, ↓W_lstFr, ↓W_dctM, ↓W_dctMt, ↓W_nilK, ↓W_consK, ↓W_kwM, ↓W_maxdM, ↓W_sort2M, ↓W_listRgM, ↓W_listRgMt, ↓W_lcM, ↓W_rng1I, ↓W_seqI, ↓W_addI, ↓W_addT, ↓W_addL, ↓W_addLt, ↓W_subI, ↓W_mulI, ↓W_mulL, ↓W_fdiv, ↓W_mod, ↓W_pow, ↓W_cmp, ↓W_is, ↓W_isNot, ↓W_eqi, ↓W_eqis, ↓W_eqb, ↓W_nei, ↓W_neis, ↓W_neb, ↓W_itT, ↓W_itL, ↓W_itF, ↓W_itD, ↓W_one, ↓W_lenL, ↓W_lenT, ↓W_lenF, ↓W_intI, ↓W_intB, ↓W_absI, ↓W_max2, ↓W_min2, ↓W_tupCl, ↓W_tupCr, ↓W_tupCt, ↓W_lstCf, ↓W_lstCl, ↓W_truL, ↓W_truT, ↓W_truB, ↓W_yesT, ↓W_itR0, ↓W_itRs, ↓H82.W_defC, ↓W_dget_hit, ↓W_dget_miss, ↓W_eqs_t, ↓W_eqs_f, ↓W_nes_t, ↓W_nes_f, ↓W_isiST, ↓W_isiIT, ↓W_isiTT, ↓W_isiIS, ↓W_isiIB, ↓W_isiII, ↓W_memT', ↓W_listRg2M, ↓W_rng2I, ↓RNG2_i, ↓W_lstAt_end, ↓W_apps, ↓W_app_end, ↓W_memLd, ↓W_notMemLd, ↓MEMD_nil, ↓MEMD_hit, ↓MEMD_miss, List.length_cons, List.length_nil, List.length_map, Nat.reduceAdd, Nat.reduceLT, Nat.reduceLeDiff, Nat.zero_add, List.append_nil, List.nil_append, List.cons_append, Nat.reduceBEq, Int.reduceBEq, Nat.reduceEqDiff, beq_self_eq_true, true_and, and_true, Bool.not_true, Bool.not_false, Bool.or_true, Bool.true_or, H82.sm1, H82.sm2, H82.sm3, H82.p18, ne_eq, not_false_eq_true, Int.reduceEq, reduceCtorEq, List.isEmpty_nil, List.isEmpty_cons, List.all_cons, List.all_nil, isSym_s, List.any_cons, List.any_nil, eqv_sym, Bool.or_false, Bool.false_or, Bool.and_self, Int.reduceLT, Int.reduceAdd, Int.reduceSub, decide_true, decide_false, ↓sc_names, ↓sc_shared, ↓sc_privates, ↓sc_fields, ↓sc_slots, ↓sc_program, ↓sc_calls, sNm_e, sSh_e, sNm_l, sSh_l, bigN])
def StepRow (d : D) : Prop := ∃ w ∈ stepWords, Row w d
def wordsB (xs : List D) : Bool := xs.all fun d => match d with
  | .sym w => decide (w ∈ stepWords)
  | _ => false
theorem wordsB_ok {xs : List D} (h : wordsB xs = true) : ∀ d ∈ xs, ∃ w ∈ stepWords, d = .sym w := fun d hd => by
  have := List.all_eq_true.mp h d hd
  cases d with
  | sym w => exact ⟨w, of_decide_eq_true this, rfl⟩
  | _ => cases this
theorem step_ok (C : List V) {pr parts : List D} {each : Int} (S : ScOk pr parts each) {k : Nat} (hk : 12 ≤ k) {rest : Store} (hr : CL rest) : Dr C k j__law_step [.ref 0, Sc pr parts each] rest StepRow := by
  obtain ⟨k, rfl⟩ := Nat.exists_eq_add_of_le' (show 1 ≤ k by omega)
  intro o ho
  have go : ∀ (xs : List D) (_ : wordsB xs = true) (_ : 0 < xs.length) (_ : xs.length < 100), W (runP (pg C) k j__law_pick [D.ref 0, D.lst xs] (o :: rest)) fun p => W (runP (pg C) k j__law_step_of [D.ref 0, Sc pr parts each, p.fst] p.snd) fun p => W (exitR false (List.length rest + 1) p.fst p.snd) (PQ StepRow rest) := fun xs h1 h2 h3 => by
    refine (pick_ok C (by omega) hr h2 (fun d hd => by obtain ⟨w, _, rfl⟩ := wordsB_ok h1 d hd; rfl) (by omega)).W ho fun d o2 hd ho2 => ?_
    obtain ⟨w, hw, rfl⟩ := wordsB_ok h1 d hd
    exact (step_of_ok C S (by omega) hr w hw).W ho2 fun t o3 ht ho3 => fin ho3 hr ht.clo ⟨w, hw, ht⟩
  refine r__law_step ?_
  unfold m__law_step
  cases hp : parts.isEmpty <;> simp? [hp] <;> repeat' (first | exact go _ (by decide) (by decide) (by decide) | refine br_i (fun _ => ?_) fun _ => ?_)
theorem local_ok (C : List V) {pr parts : List D} {each : Int} (S : ScOk pr parts each) {k : Nat} (hk : 10 ≤ k) {rest : Store} (hr : CL rest) : Dr C k j__law_local [.ref 0, Sc pr parts each] rest fun d => ∃ w, (w = 5 ∨ w = 4) ∧ Row w d := by
  obtain ⟨k, rfl⟩ := Nat.exists_eq_add_of_le' (show 1 ≤ k by omega)
  intro o ho
  have sm : Dr C k j__law_small [.ref 0, Sc pr parts each] rest Cl := small_ok C S (by omega) hr
  have pk : Dr C k j__law_pick [.ref 0, .lst sNm] rest Cl := (pick_ok C (by omega) hr (by decide) (syms_clo nm_ok) (by decide)).imp fun d hd => syms_clo nm_ok d hd
  have go : ∀ {o : MObj} (_ : Tape o), W (runP (pg C) k j__law_pick [D.ref 0, D.lst sNm] (o :: rest)) fun p => W (runP (pg C) k j__law_small [D.ref 0, Sc pr parts each] p.snd) fun p_1 => W (exitR false (List.length rest + 1) (D.tup [D.sym 4, p.fst, p_1.fst]) p_1.snd) (PQ (fun d => ∃ w, (w = 5 ∨ w = 4) ∧ Row w d) rest) := fun {o} ho => by
    refine pk.W ho fun t o2 ht ho2 => sm.W ho2 fun u o3 hu ho3 => ?_
    have h : Row 4 (.tup [.sym 4, t, u]) := row_of (clc ht (cl1 hu))
    exact fin ho3 hr h.clo ⟨_, .inr rfl, h⟩
  refine r__law_local ?_
  unfold m__law_local
  cases hp : pr.isEmpty <;> simp? [hp]
  · refine (draw_ok' C (by omega) 3 hr (by decide)).W ho ?_
    rintro d o2 ⟨r, rfl, h1, h2⟩ ho2
    simp? [true_and]
    refine br_e (fun _ => ?_) fun _ => go ho2
    refine (pick_ok C (by omega) hr (pos_of hp) (syms_clo S.prs) (by have := S.prl; omega)).W ho2 fun t o3 ht ho3 => sm.W ho3 fun u o4 hu ho4 => sm.W ho4 fun v o5 hv ho5 => ?_
    have h : Row 5 (.tup [.sym 5, t, u, v]) := row_of (clc (syms_clo S.prs t ht) (clc hu (cl1 hv)))
    exact fin ho5 hr h.clo ⟨_, .inl rfl, h⟩
  · exact go ho
/-! bodies -/
inductive Stm where
  | cond (t : D) (y n : List Stm)
  | loop (b : List Stm)
  | brk
  | row (d : D)
mutual
def enc : Stm → D
  | .cond t y n => .tup [.sym 53, t, .tup (encs y), .tup (encs n)]
  | .loop b => .tup [.sym 68, .tup (encs b)]
  | .brk => .tup [.sym 101]
  | .row d => d
def encs : List Stm → List D
  | [] => []
  | s :: ss => enc s :: encs ss
end
mutual
def many : Stm → Nat
  | .cond _ y n => 1 + manys y + manys n
  | .loop b => 1 + manys b
  | .brk => 1
  | .row _ => 1
def manys : List Stm → Nat
  | [] => 0
  | s :: ss => many s + manys ss
end
/-- the words of rows -/
def rowWords : List Nat := 5 :: 4 :: stepWords
/-- a word that counts a step, or the end -/
def isStep (d : D) : Prop := StepRow d
mutual
/-- n deep; lp: in a loop -/
def WF (lp : Bool) : Nat → Stm → Prop
  | 0, .cond _ _ _ => False
  | 0, .loop _ => False
  | n + 1, .cond t y no => Cl t ∧ WFs lp n y ∧ WFs lp n no
  | n + 1, .loop b => (∃ d r, b = .row d :: r ∧ isStep d) ∧ WFs true n b
  | _, .brk => lp = true
  | _, .row d => ∃ w ∈ rowWords, Row w d
def WFs (lp : Bool) : Nat → List Stm → Prop
  | _, [] => True
  | n, s :: ss => WF lp n s ∧ WFs lp n ss
end
end H82
set_option Elab.async false
set_option linter.all false
set_option maxRecDepth 100000
set_option maxHeartbeats 4000000
set_option autoImplicit false
namespace H82
open PySem PySem.Spec PyProof.Rows L2 Mn
local macro_rules
  | `(tactic| simp? only [$ls,*]) => `(tactic| simp only [$ls,*, ↓br_t, ↓br_f, ↓KS_nx, ↓KS_ret, ↓KS_brk, ↓KS_cnt, ↓LQ_nx, ↓LQ_cnt, ↓LQ_brk, ↓LQ_ret, ↓EX_nx, ↓EX_ret, ↓SETE_0, ↓SETE_s, ↓BL_b, ↓INT_i, ↓KEY_s, ↓NL_0, ↓NL_s, ↓W_lstAt0, ↓W_lstAts, ↓W_at0, ↓W_ats, ↓PAR2_c, ↓PAR3_c, ↓RNG_i, ↓SEQ_l, ↓SEQ_f, ↓SEQ_t, ↓SEQ_r, ↓W_some, ↓W_atI0, ↓W_atI1, ↓W_atI2, ↓W_atI3, ↓W_atI4, ↓W_atI5, ↓W_atI6, ↓W_atI7, ↓W_atI8, ↓W_atI9, ↓W_atI10, ↓W_atI11, ↓W_atI12, ↓W_seqS, ↓W_asgS, ↓W_exprS, ↓W_retS, ↓W_retN, ↓W_brkS, ↓W_cntS, ↓W_nextS, ↓W_ifS, ↓W_forS, ↓W_par2, ↓W_par3, ↓W_nameG, ↓W_tupG, ↓W_consG, ↓W_nilG, ↓W_subG, ↓W_setO0, ↓W_setOs, ↓SETL_0, ↓SETL_s, ↓IXN_0, ↓IXN_1, ↓IXN_2, ↓IXN_3, ↓IXN_nat, ↓W_var0, ↓W_vars, ↓W_cM, ↓W_binM, ↓W_unM, ↓W_negM, ↓W_nilA, ↓W_consA, ↓W_callM, ↓W_tupM, ↓W_lstM, ↓W_lstMt, ↓W_slcM, ↓W_part0, ↓W_parts, ↓W_slOt, ↓W_slOl, ↓W_slOr, ↓W_ifM, ↓W_truM, ↓W_bolM, ↓W_andT, ↓W_orT, ↓W_notT, ↓W_andE, ↓W_orE, ↓W_notE, ↓W_mthL, ↓W_lstFr, ↓W_dctM, ↓W_dctMt, ↓W_nilK, ↓W_consK, ↓W_kwM, ↓W_maxdM, ↓W_sort2M, ↓W_listRgM, ↓W_listRgMt, ↓W_lcM, ↓W_rng1I, ↓W_seqI, ↓W_addI, ↓W_addT, ↓W_addL, ↓W_addLt, ↓W_subI, ↓W_mulI, ↓W_mulL, ↓W_fdiv, ↓W_mod, ↓W_pow, ↓W_cmp, ↓W_is, ↓W_isNot, ↓W_eqi, ↓W_eqis, ↓W_eqb, ↓W_nei, ↓W_neis, ↓W_neb, ↓W_itT, ↓W_itL, ↓W_itF, ↓W_itD, ↓W_one, ↓W_lenL, ↓W_lenT, ↓W_lenF, ↓W_intI, ↓W_intB, ↓W_absI, ↓W_max2, ↓W_min2, ↓W_tupCl, ↓W_tupCr, ↓W_tupCt, ↓W_lstCf, ↓W_lstCl, ↓W_truL, ↓W_truT, ↓W_truB, ↓W_yesT, ↓W_itR0, ↓W_itRs, ↓H82.W_defC, ↓W_dget_hit, ↓W_dget_miss, ↓W_eqs_t, ↓W_eqs_f, ↓W_nes_t, ↓W_nes_f, ↓W_isiST, ↓W_isiIT, ↓W_isiTT, ↓W_isiIS, ↓W_isiIB, ↓W_isiII, ↓W_memT', ↓W_listRg2M, ↓W_rng2I, ↓RNG2_i, ↓W_lstAt_end, ↓W_apps, ↓W_app_end, ↓W_memLd, ↓W_notMemLd, ↓MEMD_nil, ↓MEMD_hit, ↓MEMD_miss, List.length_cons, List.length_nil, List.length_map, Nat.reduceAdd, Nat.reduceLT, Nat.reduceLeDiff, Nat.zero_add, List.append_nil, List.nil_append, List.cons_append, Nat.reduceBEq, Int.reduceBEq, Nat.reduceEqDiff, beq_self_eq_true, true_and, and_true, Bool.not_true, Bool.not_false, Bool.or_true, Bool.true_or, H82.sm1, H82.sm2, H82.sm3, H82.p18, ne_eq, not_false_eq_true, Int.reduceEq, reduceCtorEq, List.isEmpty_nil, List.isEmpty_cons, List.all_cons, List.all_nil, isSym_s, List.any_cons, List.any_nil, eqv_sym, Bool.or_false, Bool.false_or, Bool.and_self, Int.reduceLT, Int.reduceAdd, Int.reduceSub, decide_true, decide_false])
local macro_rules
  | `(tactic| simp? [$ls,*]) => `(tactic| simp only [$ls,*, ↓br_t, ↓br_f, ↓KS_nx, ↓KS_ret, ↓KS_brk, ↓KS_cnt, ↓LQ_nx, ↓LQ_cnt, ↓LQ_brk, ↓LQ_ret, ↓EX_nx, ↓EX_ret, ↓SETE_0, ↓SETE_s, ↓BL_b, ↓INT_i, ↓KEY_s, ↓NL_0, ↓NL_s, ↓W_lstAt0, ↓W_lstAts, ↓W_at0, ↓W_ats, ↓PAR2_c, ↓PAR3_c, ↓RNG_i, ↓SEQ_l, ↓SEQ_f, ↓SEQ_t, ↓SEQ_r, ↓W_some, ↓W_atI0, ↓W_atI1, ↓W_atI2, ↓W_atI3, ↓W_atI4, ↓W_atI5, ↓W_atI6, ↓W_atI7, ↓W_atI8, ↓W_atI9, ↓W_atI10, ↓W_atI11, ↓W_atI12, ↓W_seqS, ↓W_asgS, ↓W_exprS, ↓W_retS, ↓W_retN, ↓W_brkS, ↓W_cntS, ↓W_nextS, ↓W_ifS, ↓W_forS, ↓W_par2, ↓W_par3, ↓W_nameG, ↓W_tupG, ↓W_consG, ↓W_nilG, ↓W_subG, ↓W_setO0, ↓W_setOs, ↓SETL_0, ↓SETL_s, ↓IXN_0, ↓IXN_1, ↓IXN_2, ↓IXN_3, ↓IXN_nat, ↓W_var0, ↓W_vars, ↓W_cM, ↓W_binM, ↓W_unM, ↓W_negM, ↓W_nilA, ↓W_consA, ↓W_callM, ↓W_tupM, ↓W_lstM, ↓W_lstMt, ↓W_slcM, ↓W_part0, ↓W_parts, ↓W_slOt, ↓W_slOl, ↓W_slOr, ↓W_ifM, ↓W_truM, ↓W_bolM, ↓W_andT, ↓W_orT, ↓W_notT, ↓W_andE, ↓W_orE, ↓W_notE, ↓W_mthL, ↓W_lstFr, ↓W_dctM, ↓W_dctMt, ↓W_nilK, ↓W_consK, ↓W_kwM, ↓W_maxdM, ↓W_sort2M, ↓W_listRgM, ↓W_listRgMt, ↓W_lcM, ↓W_rng1I, ↓W_seqI, ↓W_addI, ↓W_addT, ↓W_addL, ↓W_addLt, ↓W_subI, ↓W_mulI, ↓W_mulL, ↓W_fdiv, ↓W_mod, ↓W_pow, ↓W_cmp, ↓W_is, ↓W_isNot, ↓W_eqi, ↓W_eqis, ↓W_eqb, ↓W_nei, ↓W_neis, ↓W_neb, ↓W_itT, ↓W_itL, ↓W_itF, ↓W_itD, ↓W_one, ↓W_lenL, ↓W_lenT, ↓W_lenF, ↓W_intI, ↓W_intB, ↓W_absI, ↓W_max2, ↓W_min2, ↓W_tupCl, ↓W_tupCr, ↓W_tupCt, ↓W_lstCf, ↓W_lstCl, ↓W_truL, ↓W_truT, ↓W_truB, ↓W_yesT, ↓W_itR0, ↓W_itRs, ↓H82.W_defC, ↓W_dget_hit, ↓W_dget_miss, ↓W_eqs_t, ↓W_eqs_f, ↓W_nes_t, ↓W_nes_f, ↓W_isiST, ↓W_isiIT, ↓W_isiTT, ↓W_isiIS, ↓W_isiIB, ↓W_isiII, ↓W_memT', ↓W_listRg2M, ↓W_rng2I, ↓RNG2_i, ↓W_lstAt_end, ↓W_apps, ↓W_app_end, ↓W_memLd, ↓W_notMemLd, ↓MEMD_nil, ↓MEMD_hit, ↓MEMD_miss, List.length_cons, List.length_nil, List.length_map, Nat.reduceAdd, Nat.reduceLT, Nat.reduceLeDiff, Nat.zero_add, List.append_nil, List.nil_append, List.cons_append, Nat.reduceBEq, Int.reduceBEq, Nat.reduceEqDiff, beq_self_eq_true, true_and, and_true, Bool.not_true, Bool.not_false, Bool.or_true, Bool.true_or, H82.sm1, H82.sm2, H82.sm3, H82.p18, ne_eq, not_false_eq_true, Int.reduceEq, reduceCtorEq, List.isEmpty_nil, List.isEmpty_cons, List.all_cons, List.all_nil, isSym_s, List.any_cons, List.any_nil, eqv_sym, Bool.or_false, Bool.false_or, Bool.and_self, Int.reduceLT, Int.reduceAdd, Int.reduceSub, decide_true, decide_false, ↓sc_names, ↓sc_shared, ↓sc_privates, ↓sc_fields, ↓sc_slots, ↓sc_program, ↓sc_calls, sNm_e, sSh_e, sNm_l, sSh_l, bigN])
theorem rowWord_ne {w : Nat} (h : w ∈ rowWords) : w ≠ 53 ∧ w ≠ 68 ∧ w ≠ 101 ∧ w ≠ 10 ∧ w ≠ 9 := by
  have all : ∀ w ∈ rowWords, w ≠ 53 ∧ w ≠ 68 ∧ w ≠ 101 ∧ w ≠ 10 ∧ w ≠ 9 := by decide
  exact all w h
theorem encs_len : ∀ ss : List Stm, (encs ss).length = ss.length
  | [] => rfl
  | s :: ss => congrArg (· + 1) (encs_len ss)
theorem encs_app : ∀ a b : List Stm, encs (a ++ b) = encs a ++ encs b
  | [], b => rfl
  | s :: ss, b => congrArg (enc s :: ·) (encs_app ss b)
theorem manys_app : ∀ a b : List Stm, manys (a ++ b) = manys a + manys b
  | [], b => by show manys b = 0 + manys b; omega
  | s :: ss, b => by show many s + manys (ss ++ b) = many s + manys ss + manys b; rw [manys_app ss b]; omega
theorem WFs_app {lp : Bool} {n : Nat} : ∀ {a b : List Stm}, WFs lp n (a ++ b) ↔ WFs lp n a ∧ WFs lp n b
  | [], b => by simp [WFs]
  | s :: ss, b => by
    show WF lp n s ∧ WFs lp n (ss ++ b) ↔ (WF lp n s ∧ WFs lp n ss) ∧ WFs lp n b
    rw [WFs_app, and_assoc]
mutual
theorem WF.clo {lp : Bool} : ∀ (n : Nat) (s : Stm), WF lp n s → clo 0 (enc s) = true
  | 0, .cond _ _ _, h => h.elim
  | 0, .loop _, h => h.elim
  | n + 1, .cond t y no, h => by
    obtain ⟨h1, h2, h3⟩ := h
    show (true && (clo 0 t && (clos 0 (encs y) && (clos 0 (encs no) && true)))) = true
    rw [show clo 0 t = true from h1, WFs.clos n y h2, WFs.clos n no h3]; rfl
  | n + 1, .loop b, h => by
    show (true && (clos 0 (encs b) && true)) = true
    rw [WFs.clos n b h.2]; rfl
  | 0, .brk, _ => rfl
  | n + 1, .brk, _ => rfl
  | 0, .row d, h => by obtain ⟨w, _, h⟩ := h; exact h.clo
  | n + 1, .row d, h => by obtain ⟨w, _, h⟩ := h; exact h.clo
theorem WFs.clos {lp : Bool} : ∀ (n : Nat) (ss : List Stm), WFs lp n ss → Mn.clos 0 (encs ss) = true
  | _, [], _ => rfl
  | n, s :: ss, h => by
    show (clo 0 (enc s) && Mn.clos 0 (encs ss)) = true
    rw [WF.clo n s h.1, WFs.clos n ss h.2]; rfl
end
theorem wf_row {lp : Bool} {n : Nat} {d : D} : WF lp n (.row d) ↔ ∃ w ∈ rowWords, Row w d := by cases n <;> exact Iff.rfl
theorem wf_brk {lp : Bool} {n : Nat} : WF lp n .brk ↔ lp = true := by cases n <;> exact Iff.rfl
theorem many_ok (C : List V) {lp : Bool} : ∀ (n : Nat) {k : Nat} (_ : n + 1 ≤ k) (ss : List Stm) (_ : WFs lp n ss) (d : D) (_ : d = .tup (encs ss) ∨ d = .lst (encs ss)) (st : Store) (_ : CL st), W (runP (pg C) k j__law_many [d] st) fun q => q = (.int (manys ss), st)
  | n, k, hk, ss, hw, d, hd, st, hs => by
    obtain ⟨k, rfl⟩ := Nat.exists_eq_add_of_le' (show 1 ≤ k by omega)
    refine r__law_many ?_
    unfold m__law_many
    obtain ⟨J, hJ⟩ : ∃ J : List D → Mn.Env → Store → Prop, J = fun r env s => ∃ (m : Nat) (x : Option D), env = [some d, some (.int m), x] ∧ s = st ∧ ∃ ss', r = encs ss' ∧ WFs lp n ss' ∧ m + manys ss' = manys ss := ⟨_, rfl⟩
    have loop : W (forL (fun _ => true) (nameG 2)
        (seqS (asgS (binM (addO false) (varM 1) (cM (.int 1))) (nameG 1))
          (seqS (ifS (bolM (binM eqO (binM (itemO (TB C)) (varM 2) (cM (.int 0))) (cM (.sym 53))))
            (seqS (asgS (binM (addO false) (binM (addO false) (varM 1) (callM (defC (runP (pg C) k) j__law_many 1 []) (consA (binM (itemO (TB C)) (varM 2) (cM (.int 2))) nilA))) (callM (defC (runP (pg C) k) j__law_many 1 []) (consA (binM (itemO (TB C)) (varM 2) (cM (.int 3))) nilA))) (nameG 1)) nextS) nextS)
          (seqS (ifS (bolM (binM eqO (binM (itemO (TB C)) (varM 2) (cM (.int 0))) (cM (.sym 68))))
            (seqS (asgS (binM (addO false) (varM 1) (callM (defC (runP (pg C) k) j__law_many 1 []) (consA (binM (itemO (TB C)) (varM 2) (cM (.int 1))) nilA))) (nameG 1)) nextS) nextS) nextS)))
        (encs ss) [some d, some (.int 0), none] st) (KS (seqS (retS (varM 1)) nextS) (EX false st.length fun q => q = (.int (manys ss), st))) := by
      refine forL_W J ?_ ?_ _ _ _ (by rw [hJ]; exact ⟨0, none, rfl, rfl, ss, rfl, hw, by omega⟩)
      · intro e r env s h
        rw [hJ] at h
        obtain ⟨m, x, rfl, rfl, ss', hr, hw', hm⟩ := h
        cases ss' with
        | nil => cases hr
        | cons s0 ss' =>
          obtain ⟨rfl, rfl⟩ := List.cons.inj (show e :: r = enc s0 :: encs ss' from hr)
          have hm' : m + many s0 + manys ss' = manys ss := by rw [← hm]; show m + many s0 + manys ss' = m + (many s0 + manys ss'); omega
          have fin : ∀ (i : Int) (x : Option D), i = ((m + many s0 : Nat) : Int) → J (encs ss') [some d, some (.int i), x] s := fun i x hi => by
            rw [hJ]
            exact ⟨m + many s0, x, by rw [hi], rfl, ss', rfl, hw'.2, hm'⟩
          refine ⟨rfl, ?_⟩
          cases s0 with
          | cond t y no =>
            cases n with
            | zero => exact hw'.1.elim
            | succ n =>
              obtain ⟨h1, h2, h3⟩ := hw'.1
              simp? [enc]
              refine (many_ok C n (by omega) y h2 _ (.inl rfl) s hs).mono ?_
              rintro q rfl
              simp? [true_and]
              refine (many_ok C n (by omega) no h3 _ (.inl rfl) s hs).mono ?_
              rintro q rfl
              simp? [true_and]
              exact fin _ _ (by simp only [many]; omega)
          | loop b =>
            cases n with
            | zero => exact hw'.1.elim
            | succ n =>
              obtain ⟨h1, h2⟩ := hw'.1
              simp? [enc]
              refine (many_ok C n (by omega) b h2 _ (.inl rfl) s hs).mono ?_
              rintro q rfl
              simp? [true_and]
              exact fin _ _ (by simp only [many]; omega)
          | brk =>
            simp? [enc]
            exact fin _ _ (by simp only [many]; omega)
          | row d0 =>
            obtain ⟨w, hw1, r, rfl, _⟩ := wf_row.mp hw'.1
            obtain ⟨n1, n2, _⟩ := rowWord_ne hw1
            simp? [enc, n1, n2]
            exact fin _ _ (by simp only [many]; omega)
      · intro env s h
        rw [hJ] at h
        obtain ⟨m, x, rfl, rfl, ss', hr, hw', hm⟩ := h
        cases ss' with
        | cons s0 ss' => cases hr
        | nil =>
          refine ⟨rfl, ?_⟩
          simp? [true_and]
          have : m = manys ss := by simpa [manys] using hm
          subst this
          exact exitC0 rfl hs rfl rfl
    rcases hd with rfl | rfl <;> simp? [true_and] <;> exact loop
termination_by n => n
end H82
set_option Elab.async false
set_option linter.all false
set_option maxRecDepth 100000
set_option maxHeartbeats 4000000
set_option autoImplicit false
namespace H82
open PySem PySem.Spec PyProof.Rows L2 Mn
local macro_rules
  | `(tactic| simp? only [$ls,*]) => `(tactic| simp only [$ls,*, ↓br_t, ↓br_f, ↓KS_nx, ↓KS_ret, ↓KS_brk, ↓KS_cnt, ↓LQ_nx, ↓LQ_cnt, ↓LQ_brk, ↓LQ_ret, ↓EX_nx, ↓EX_ret, ↓SETE_0, ↓SETE_s, ↓BL_b, ↓INT_i, ↓KEY_s, ↓NL_0, ↓NL_s, ↓W_lstAt0, ↓W_lstAts, ↓W_at0, ↓W_ats, ↓PAR2_c, ↓PAR3_c, ↓RNG_i, ↓SEQ_l, ↓SEQ_f, ↓SEQ_t, ↓SEQ_r, ↓W_some, ↓W_atI0, ↓W_atI1, ↓W_atI2, ↓W_atI3, ↓W_atI4, ↓W_atI5, ↓W_atI6, ↓W_atI7, ↓W_atI8, ↓W_atI9, ↓W_atI10, ↓W_atI11, ↓W_atI12, ↓W_seqS, ↓W_asgS, ↓W_exprS, ↓W_retS, ↓W_retN, ↓W_brkS, ↓W_cntS, ↓W_nextS, ↓W_ifS, ↓W_forS, ↓W_par2, ↓W_par3, ↓W_nameG, ↓W_tupG, ↓W_consG, ↓W_nilG, ↓W_subG, ↓W_setO0, ↓W_setOs, ↓SETL_0, ↓SETL_s, ↓IXN_0, ↓IXN_1, ↓IXN_2, ↓IXN_3, ↓IXN_nat, ↓W_var0, ↓W_vars, ↓W_cM, ↓W_binM, ↓W_unM, ↓W_negM, ↓W_nilA, ↓W_consA, ↓W_callM, ↓W_tupM, ↓W_lstM, ↓W_lstMt, ↓W_slcM, ↓W_part0, ↓W_parts, ↓W_slOt, ↓W_slOl, ↓W_slOr, ↓W_ifM, ↓W_truM, ↓W_bolM, ↓W_andT, ↓W_orT, ↓W_notT, ↓W_andE, ↓W_orE, ↓W_notE, ↓W_mthL, ↓W_lstFr, ↓W_dctM, ↓W_dctMt, ↓W_nilK, ↓W_consK, ↓W_kwM, ↓W_maxdM, ↓W_sort2M, ↓W_listRgM, ↓W_listRgMt, ↓W_lcM, ↓W_rng1I, ↓W_seqI, ↓W_addI, ↓W_addT, ↓W_addL, ↓W_addLt, ↓W_subI, ↓W_mulI, ↓W_mulL, ↓W_fdiv, ↓W_mod, ↓W_pow, ↓W_cmp, ↓W_is, ↓W_isNot, ↓W_eqi, ↓W_eqis, ↓W_eqb, ↓W_nei, ↓W_neis, ↓W_neb, ↓W_itT, ↓W_itL, ↓W_itF, ↓W_itD, ↓W_one, ↓W_lenL, ↓W_lenT, ↓W_lenF, ↓W_intI, ↓W_intB, ↓W_absI, ↓W_max2, ↓W_min2, ↓W_tupCl, ↓W_tupCr, ↓W_tupCt, ↓W_lstCf, ↓W_lstCl, ↓W_truL, ↓W_truT, ↓W_truB, ↓W_yesT, ↓W_itR0, ↓W_itRs, ↓H82.W_defC, ↓W_dget_hit, ↓W_dget_miss, ↓W_eqs_t, ↓W_eqs_f, ↓W_nes_t, ↓W_nes_f, ↓W_isiST, ↓W_isiIT, ↓W_isiTT, ↓W_isiIS, ↓W_isiIB, ↓W_isiII, ↓W_memT', ↓W_listRg2M, ↓W_rng2I, ↓RNG2_i, ↓W_lstAt_end, ↓W_apps, ↓W_app_end, ↓W_memLd, ↓W_notMemLd, ↓MEMD_nil, ↓MEMD_hit, ↓MEMD_miss, List.length_cons, List.length_nil, List.length_map, Nat.reduceAdd, Nat.reduceLT, Nat.reduceLeDiff, Nat.zero_add, List.append_nil, List.nil_append, List.cons_append, Nat.reduceBEq, Int.reduceBEq, Nat.reduceEqDiff, beq_self_eq_true, true_and, and_true, Bool.not_true, Bool.not_false, Bool.or_true, Bool.true_or, H82.sm1, H82.sm2, H82.sm3, H82.p18, ne_eq, not_false_eq_true, Int.reduceEq, reduceCtorEq, List.isEmpty_nil, List.isEmpty_cons, List.all_cons, List.all_nil, isSym_s, List.any_cons, List.any_nil, eqv_sym, Bool.or_false, Bool.false_or, Bool.and_self, Int.reduceLT, Int.reduceAdd, Int.reduceSub, decide_true, decide_false])
local macro_rules
  | `(tactic| simp? [$ls,*]) => `(tactic| simp only [$ls,*, ↓br_t, ↓br_f, ↓KS_nx, ↓KS_ret, ↓KS_brk, ↓KS_cnt, ↓LQ_nx, ↓LQ_cnt, ↓LQ_brk, ↓LQ_ret, ↓EX_nx, ↓EX_ret, ↓SETE_0, ↓SETE_s, ↓BL_b, ↓INT_i, ↓KEY_s, ↓NL_0, ↓NL_s, ↓W_lstAt0, ↓W_lstAts, ↓W_at0, ↓W_ats, ↓PAR2_c, ↓PAR3_c, ↓RNG_i, ↓SEQ_l, ↓SEQ_f, ↓SEQ_t, ↓SEQ_r, ↓W_some, ↓W_atI0, ↓W_atI1, ↓W_atI2, ↓W_atI3, ↓W_atI4, ↓W_atI5, ↓W_atI6, ↓W_atI7, ↓W_atI8, ↓W_atI9, ↓W_atI10, ↓W_atI11, ↓W_atI12, ↓W_seqS, ↓W_asgS, ↓W_exprS, ↓W_retS, ↓W_retN, ↓W_brkS, ↓W_cntS, ↓W_nextS, ↓W_ifS, ↓W_forS, ↓W_par2, ↓W_par3, ↓W_nameG, ↓W_tupG, ↓W_consG, ↓W_nilG, ↓W_subG, ↓W_setO0, ↓W_setOs, ↓SETL_0, ↓SETL_s, ↓IXN_0, ↓IXN_1, ↓IXN_2, ↓IXN_3, ↓IXN_nat, ↓W_var0, ↓W_vars, ↓W_cM, ↓W_binM, ↓W_unM, ↓W_negM, ↓W_nilA, ↓W_consA, ↓W_callM, ↓W_tupM, ↓W_lstM, ↓W_lstMt, ↓W_slcM, ↓W_part0, ↓W_parts, ↓W_slOt, ↓W_slOl, ↓W_slOr, ↓W_ifM, ↓W_truM, ↓W_bolM, ↓W_andT, ↓W_orT, ↓W_notT, ↓W_andE, ↓W_orE, ↓W_notE, ↓W_mthL, ↓W_lstFr, ↓W_dctM, ↓W_dctMt, ↓W_nilK, ↓W_consK, ↓W_kwM, ↓W_maxdM, ↓W_sort2M, ↓W_listRgM, ↓W_listRgMt, ↓W_lcM, ↓W_rng1I, ↓W_seqI, ↓W_addI, ↓W_addT, ↓W_addL, ↓W_addLt, ↓W_subI, ↓W_mulI, ↓W_mulL, ↓W_fdiv, ↓W_mod, ↓W_pow, ↓W_cmp, ↓W_is, ↓W_isNot, ↓W_eqi, ↓W_eqis, ↓W_eqb, ↓W_nei, ↓W_neis, ↓W_neb, ↓W_itT, ↓W_itL, ↓W_itF, ↓W_itD, ↓W_one, ↓W_lenL, ↓W_lenT, ↓W_lenF, ↓W_intI, ↓W_intB, ↓W_absI, ↓W_max2, ↓W_min2, ↓W_tupCl, ↓W_tupCr, ↓W_tupCt, ↓W_lstCf, ↓W_lstCl, ↓W_truL, ↓W_truT, ↓W_truB, ↓W_yesT, ↓W_itR0, ↓W_itRs, ↓H82.W_defC, ↓W_dget_hit, ↓W_dget_miss, ↓W_eqs_t, ↓W_eqs_f, ↓W_nes_t, ↓W_nes_f, ↓W_isiST, ↓W_isiIT, ↓W_isiTT, ↓W_isiIS, ↓W_isiIB, ↓W_isiII, ↓W_memT', ↓W_listRg2M, ↓W_rng2I, ↓RNG2_i, ↓W_lstAt_end, ↓W_apps, ↓W_app_end, ↓W_memLd, ↓W_notMemLd, ↓MEMD_nil, ↓MEMD_hit, ↓MEMD_miss, List.length_cons, List.length_nil, List.length_map, Nat.reduceAdd, Nat.reduceLT, Nat.reduceLeDiff, Nat.zero_add, List.append_nil, List.nil_append, List.cons_append, Nat.reduceBEq, Int.reduceBEq, Nat.reduceEqDiff, beq_self_eq_true, true_and, and_true, Bool.not_true, Bool.not_false, Bool.or_true, Bool.true_or, H82.sm1, H82.sm2, H82.sm3, H82.p18, ne_eq, not_false_eq_true, Int.reduceEq, reduceCtorEq, List.isEmpty_nil, List.isEmpty_cons, List.all_cons, List.all_nil, isSym_s, List.any_cons, List.any_nil, eqv_sym, Bool.or_false, Bool.false_or, Bool.and_self, Int.reduceLT, Int.reduceAdd, Int.reduceSub, decide_true, decide_false, ↓sc_names, ↓sc_shared, ↓sc_privates, ↓sc_fields, ↓sc_slots, ↓sc_program, ↓sc_calls, sNm_e, sSh_e, sNm_l, sSh_l, bigN])
def BodyR (lp : Bool) (n : Nat) (count : Int) (d : D) : Prop := ∃ ss, d = .tup (encs ss) ∧ WFs lp n ss ∧ (manys ss : Int) ≤ max count 0
theorem many_pos : ∀ s : Stm, 1 ≤ many s
  | .cond _ y n => by simp only [many]; omega
  | .loop b => by simp only [many]; omega
  | .brk => Nat.le_refl 1
  | .row _ => Nat.le_refl 1
theorem len_le : ∀ ss : List Stm, ss.length ≤ manys ss
  | [] => Nat.le_refl 0
  | s :: ss => by
    have h1 := many_pos s
    have h2 := len_le ss
    show ss.length + 1 ≤ many s + manys ss
    omega
theorem body_ok (C : List V) {pr parts : List D} {each : Int} (S : ScOk pr parts each) : ∀ (n : Nat) {k : Nat} (_ : n + 13 ≤ k) (lp : Bool) (count : Int) (_ : -1000 ≤ count) (_ : count ≤ 1000) {rest : Store} (_ : CL rest), Dr C k j__law_body [.ref 0, .int (n + 1), .int count, Sc pr parts each, .bl lp] rest (BodyR lp n count)
  | n, k, hk, lp, count, hc0, hc, rest, hr => by
    obtain ⟨k, rfl⟩ := Nat.exists_eq_add_of_le' (show 1 ≤ k by omega)
    intro o ho
    refine r__law_body ?_
    unfold m__law_body
    simp? [true_and]
    refine ⟨okR_small (by omega), ?_⟩
    obtain ⟨J, hJ⟩ : ∃ J : List D → Mn.Env → Store → Prop, J = fun r env s => ∃ (acc : List Stm) (x7 x8 x9 x10 x11 x12 : Option D) (o' : MObj), env = [some (D.ref 0), some (D.int (↑n + 1)), some (D.int count), some (Sc pr parts each), some (D.bl lp), some (D.ref (List.length rest + 1)), some (D.int (count - manys acc)), x7, x8, x9, x10, x11, x12] ∧
      s = o' :: (rest ++ [MObj.lst (encs acc)]) ∧ Tape o' ∧ WFs lp n acc ∧ (manys acc : Int) ≤ max count 0 ∧ acc.length ≤ manys acc ∧ ∀ d ∈ r, ∃ i, d = .int i := ⟨_, rfl⟩
    refine forL_W J ?_ ?_ _ _ _ ?_
    · intro e r env s h
      rw [hJ] at h
      obtain ⟨acc, x7, x8, x9, x10, x11, x12, o1, rfl, rfl, ho1, hw, hm, hl, hr'⟩ := h
      obtain ⟨kk, rfl⟩ := hr' e List.mem_cons_self
      refine ⟨rfl, ?_⟩
      have hr2 : ∀ d ∈ r, ∃ i, d = .int i := fun d hd => hr' d (List.mem_cons_of_mem _ hd)
      have hacc : CL (rest ++ [MObj.lst (encs acc)]) := CL_app.mpr ⟨hr, CL_cons.mpr ⟨WFs.clos n acc hw, CL_nil⟩⟩
      have hlen : (encs acc).length < 16777216 := by rw [encs_len]; omega
      have tail : ∀ {o3 : MObj} (_ : Tape o3) (s0 : Stm) (_ : WF lp n s0) (_ : 1 ≤ many s0) (_ : (many s0 : Int) ≤ count - manys acc) (y8 y9 y10 y11 y12 : Option D), W (runP (pg C) k j__law_many [.lst [enc s0]] (o3 :: (rest ++ [.lst (encs acc ++ [enc s0])]))) fun q => W (subO (.int (count - manys acc)) q.1 q.2) fun p =>
          J r [some (D.ref 0), some (D.int (↑n + 1)), some (D.int count), some (Sc pr parts each), some (D.bl lp), some (D.ref (List.length rest + 1)), some p.1, some (D.int kk), y8, y9, y10, y11, y12] p.2 := fun {o3} ho3 s0 h0 h1 hm0 y8 y9 y10 y11 y12 => by
        have hw' : WFs lp n (acc ++ [s0]) := WFs_app.mpr ⟨hw, h0, trivial⟩
        have e : encs acc ++ [enc s0] = encs (acc ++ [s0]) := by rw [encs_app]; rfl
        rw [e]
        have hcl : CL (o3 :: (rest ++ [MObj.lst (encs (acc ++ [s0]))])) := CL_cons.mpr ⟨ho3.cl, CL_app.mpr ⟨hr, CL_cons.mpr ⟨WFs.clos n _ hw', CL_nil⟩⟩⟩
        refine (many_ok C n (by omega) [s0] ⟨h0, trivial⟩ _ (.inr rfl) _ hcl).mono ?_
        rintro q rfl
        simp? [true_and]
        rw [hJ]
        have em : manys (acc ++ [s0]) = manys acc + many s0 := by rw [manys_app]; simp [manys]
        have em2 : manys [s0] = many s0 := by simp [manys]
        have this : count - (manys acc : Int) - (manys [s0] : Nat) = count - (manys (acc ++ [s0]) : Nat) := by rw [em, em2]; omega
        exact ⟨acc ++ [s0], some (.int kk), y8, y9, y10, y11, y12, o3, by rw [this], rfl, ho3, hw', by rw [em]; omega, by rw [em, List.length_append, List.length_singleton]; omega, hr2⟩
      simp? [true_and]
      refine br_d (fun h0 => ?_) fun h0 => ?_
      · exact exitC (st := o1 :: rest) (ex := [MObj.lst (encs acc)]) rfl (CL_cons.mpr ⟨ho1.cl, hr⟩) (WFs.clos n acc hw) ⟨⟨acc, rfl, hw, hm⟩, o1, ho1, rfl⟩
      have hcl := hacc
      refine (draw_ok' C (by omega) 10 hcl (by decide)).W ho1 ?_
      rintro d o2 ⟨r2, rfl, h1, h2⟩ ho2
      simp? [cutL_last]
      have loc : W (runP (pg C) k j__law_local [D.ref 0, Sc pr parts each] (o2 :: (rest ++ [MObj.lst (encs acc)]))) fun p => W (appendO (D.ref (List.length rest + 1)) [p.fst] p.snd) fun p => W (lstAt p.snd (List.length rest + 1)) fun xs =>
          W (runP (pg C) k j__law_many [D.lst (cutL xs (some (-1)) none)] p.snd) fun q => W (subO (D.int (count - ↑(manys acc))) q.fst q.snd) fun p =>
            J r [some (D.ref 0), some (D.int (↑n + 1)), some (D.int count), some (Sc pr parts each), some (D.bl lp), some (D.ref (List.length rest + 1)), some p.fst, some (D.int kk), some (D.int r2), x9, x10, x11, x12] p.snd := by
        refine (local_ok C S (by omega) hcl).W ho2 fun t o3 ⟨w, hw1, ht⟩ ho3 => ?_
        simp? [cutL_last]
        refine ⟨hlen, tail ho3 (.row t) (wf_row.mpr ⟨w, ?_, ht⟩) (Nat.le_refl 1) (by show ((1 : Nat) : Int) ≤ _; omega) _ _ _ _ _⟩
        rcases hw1 with rfl | rfl <;> decide
      have stp : W (runP (pg C) k j__law_step [D.ref 0, Sc pr parts each] (o2 :: (rest ++ [MObj.lst (encs acc)]))) fun p => W (appendO (D.ref (List.length rest + 1)) [p.fst] p.snd) fun p => W (lstAt p.snd (List.length rest + 1)) fun xs =>
          W (runP (pg C) k j__law_many [D.lst (cutL xs (some (-1)) none)] p.snd) fun q => W (subO (D.int (count - ↑(manys acc))) q.fst q.snd) fun p =>
            J r [some (D.ref 0), some (D.int (↑n + 1)), some (D.int count), some (Sc pr parts each), some (D.bl lp), some (D.ref (List.length rest + 1)), some p.fst, some (D.int kk), some (D.int r2), x9, x10, x11, x12] p.snd := by
        refine (step_ok C S (by omega) hcl).W ho2 fun t o3 ⟨w, hw1, ht⟩ ho3 => ?_
        simp? [cutL_last]
        exact ⟨hlen, tail ho3 (.row t) (wf_row.mpr ⟨w, List.mem_cons_of_mem _ (List.mem_cons_of_mem _ hw1), ht⟩) (Nat.le_refl 1) (by show ((1 : Nat) : Int) ≤ _; omega) _ _ _ _ _⟩
      have brk : lp = true → (encs acc).length < 16777216 ∧ W (runP (pg C) k j__law_many [D.lst [D.tup [D.sym 101]]] (o2 :: (rest ++ [MObj.lst (encs acc ++ [D.tup [D.sym 101]])]))) fun q => W (subO (D.int (count - ↑(manys acc))) q.fst q.snd) fun p =>
            J r [some (D.ref 0), some (D.int (↑n + 1)), some (D.int count), some (Sc pr parts each), some (D.bl lp), some (D.ref (List.length rest + 1)), some p.fst, some (D.int kk), some (D.int r2), x9, x10, x11, x12] p.snd := fun hlp =>
        ⟨hlen, tail ho2 .brk (wf_brk.mpr hlp) (Nat.le_refl 1) (by show ((1 : Nat) : Int) ≤ _; omega) _ _ _ _ _⟩
      repeat' (first | (exfalso; omega) | exact loc | exact stp | exact brk (by assumption) | refine br_d (fun _ => ?_) fun _ => ?_ | refine br_e (fun _ => ?_) fun _ => ?_ | refine br_i (fun _ => ?_) fun _ => ?_)
      · obtain ⟨m, rfl⟩ : ∃ m, n = m + 1 := ⟨n - 1, by omega⟩
        have e : ((m + 1 : Nat) : Int) + 1 - 1 = (m : Int) + 1 := by omega
        have bd : ∀ (c : Int) (_ : -1000 ≤ c) (_ : c ≤ 1000), Dr C k j__law_body [.ref 0, .int (((m + 1 : Nat) : Int) + 1 - 1), .int c, Sc pr parts each, .bl lp] (rest ++ [MObj.lst (encs acc)]) (BodyR lp m c) := fun c h3 h4 => by rw [e]; exact body_ok C S m (by omega) lp c h3 h4 hcl
        refine (small_ok C S (by omega) hcl).W ho2 fun t o3 ht ho3 => ?_
        refine (draw_ok' C (by omega) (count - manys acc) hcl (by omega)).W ho3 ?_
        rintro d o4 ⟨c1, rfl, h3, h4⟩ ho4
        refine (bd c1 (by omega) (by omega)).W ho4 ?_
        rintro d o5 ⟨y, rfl, hy, hym⟩ ho5
        refine (many_ok C m (by omega) y hy _ (.inl rfl) _ (CL_cons.mpr ⟨ho5.cl, hcl⟩)).mono ?_
        rintro q rfl
        simp? [true_and]
        refine (draw_ok' C (by omega) (count - manys acc - manys y) hcl (by omega)).W ho5 ?_
        rintro d o6 ⟨c2, rfl, h5, h6⟩ ho6
        refine (bd c2 (by omega) (by omega)).W ho6 ?_
        rintro d o7 ⟨no, rfl, hno, hnm⟩ ho7
        simp? [cutL_last]
        have em : many (.cond t y no) = 1 + manys y + manys no := by simp only [many]
        exact ⟨hlen, tail ho7 (.cond t y no) ⟨ht, hy, hno⟩ (by omega) (by omega) _ _ _ _ _⟩
      · obtain ⟨m, rfl⟩ : ∃ m, n = m + 1 := ⟨n - 1, by omega⟩
        have e : ((m + 1 : Nat) : Int) + 1 - 1 = (m : Int) + 1 := by omega
        refine (step_ok C S (by omega) hcl).W ho2 fun b o3 hb ho3 => ?_
        simp? [true_and]
        refine (draw_ok' C (by omega) (count - manys acc - 1) hcl (by omega)).W ho3 ?_
        rintro d o4 ⟨c1, rfl, h3, h4⟩ ho4
        rw [e]
        refine (body_ok C S m (by omega) true c1 (by omega) (by omega) hcl).W ho4 ?_
        rintro d o5 ⟨y, rfl, hy, hym⟩ ho5
        simp? [cutL_last]
        have em : many (.loop (.row b :: y)) = 1 + (1 + manys y) := by simp only [many, manys]
        have hb2 : WF true m (.row b) := by
          obtain ⟨w, hw1, hb⟩ := hb
          exact wf_row.mpr ⟨w, List.mem_cons_of_mem _ (List.mem_cons_of_mem _ hw1), hb⟩
        refine ⟨by rw [encs_len]; have := len_le y; omega, hlen, tail ho5 (.loop (.row b :: y)) ⟨⟨b, y, rfl, hb⟩, hb2, hy⟩ (by omega) (by omega) _ _ _ _ _⟩
    · intro env s h
      rw [hJ] at h
      obtain ⟨acc, x7, x8, x9, x10, x11, x12, o1, rfl, rfl, ho1, hw, hm, hl, hr'⟩ := h
      refine ⟨rfl, ?_⟩
      simp? [true_and]
      exact exitC (st := o1 :: rest) (ex := [MObj.lst (encs acc)]) rfl (CL_cons.mpr ⟨ho1.cl, hr⟩) (WFs.clos n acc hw) ⟨⟨acc, rfl, hw, hm⟩, o1, ho1, rfl⟩
    · rw [hJ]
      refine ⟨[], none, none, none, none, none, none, o, by simp [manys], rfl, ho, trivial, by simp [manys]; omega, by simp, fun d hd => ?_⟩
      obtain ⟨i, rfl, _⟩ := rngL_mem hd
      exact ⟨i, rfl⟩
termination_by n => n
end H82
set_option Elab.async false
set_option linter.all false
set_option maxRecDepth 100000
set_option maxHeartbeats 4000000
set_option autoImplicit false
namespace H82
open PySem PySem.Spec PyProof.Rows L2 Mn
local macro_rules
  | `(tactic| simp? only [$ls,*]) => `(tactic| simp only [$ls,*, ↓br_t, ↓br_f, ↓KS_nx, ↓KS_ret, ↓KS_brk, ↓KS_cnt, ↓LQ_nx, ↓LQ_cnt, ↓LQ_brk, ↓LQ_ret, ↓EX_nx, ↓EX_ret, ↓SETE_0, ↓SETE_s, ↓BL_b, ↓INT_i, ↓KEY_s, ↓NL_0, ↓NL_s, ↓W_lstAt0, ↓W_lstAts, ↓W_at0, ↓W_ats, ↓PAR2_c, ↓PAR3_c, ↓RNG_i, ↓SEQ_l, ↓SEQ_f, ↓SEQ_t, ↓SEQ_r, ↓W_some, ↓W_atI0, ↓W_atI1, ↓W_atI2, ↓W_atI3, ↓W_atI4, ↓W_atI5, ↓W_atI6, ↓W_atI7, ↓W_atI8, ↓W_atI9, ↓W_atI10, ↓W_atI11, ↓W_atI12, ↓W_seqS, ↓W_asgS, ↓W_exprS, ↓W_retS, ↓W_retN, ↓W_brkS, ↓W_cntS, ↓W_nextS, ↓W_ifS, ↓W_forS, ↓W_par2, ↓W_par3, ↓W_nameG, ↓W_tupG, ↓W_consG, ↓W_nilG, ↓W_subG, ↓W_setO0, ↓W_setOs, ↓SETL_0, ↓SETL_s, ↓IXN_0, ↓IXN_1, ↓IXN_2, ↓IXN_3, ↓IXN_nat, ↓W_var0, ↓W_vars, ↓W_cM, ↓W_binM, ↓W_unM, ↓W_negM, ↓W_nilA, ↓W_consA, ↓W_callM, ↓W_tupM, ↓W_lstM, ↓W_lstMt, ↓W_slcM, ↓W_part0, ↓W_parts, ↓W_slOt, ↓W_slOl, ↓W_slOr, ↓W_ifM, ↓W_truM, ↓W_bolM, ↓W_andT, ↓W_orT, ↓W_notT, ↓W_andE, ↓W_orE, ↓W_notE, ↓W_mthL, ↓W_lstFr, ↓W_dctM, ↓W_dctMt, ↓W_nilK, ↓W_consK, ↓W_kwM, ↓W_maxdM, ↓W_sort2M, ↓W_listRgM, ↓W_listRgMt, ↓W_lcM, ↓W_rng1I, ↓W_seqI, ↓W_addI, ↓W_addT, ↓W_addL, ↓W_addLt, ↓W_subI, ↓W_mulI, ↓W_mulL, ↓W_fdiv, ↓W_mod, ↓W_pow, ↓W_cmp, ↓W_is, ↓W_isNot, ↓W_eqi, ↓W_eqis, ↓W_eqb, ↓W_nei, ↓W_neis, ↓W_neb, ↓W_itT, ↓W_itL, ↓W_itF, ↓W_itD, ↓W_one, ↓W_lenL, ↓W_lenT, ↓W_lenF, ↓W_intI, ↓W_intB, ↓W_absI, ↓W_max2, ↓W_min2, ↓W_tupCl, ↓W_tupCr, ↓W_tupCt, ↓W_lstCf, ↓W_lstCl, ↓W_truL, ↓W_truT, ↓W_truB, ↓W_yesT, ↓W_itR0, ↓W_itRs, ↓H82.W_defC, ↓W_dget_hit, ↓W_dget_miss, ↓W_eqs_t, ↓W_eqs_f, ↓W_nes_t, ↓W_nes_f, ↓W_isiST, ↓W_isiIT, ↓W_isiTT, ↓W_isiIS, ↓W_isiIB, ↓W_isiII, ↓W_memT', ↓W_listRg2M, ↓W_rng2I, ↓RNG2_i, ↓W_lstAt_end, ↓W_apps, ↓W_app_end, ↓W_memLd, ↓W_notMemLd, ↓MEMD_nil, ↓MEMD_hit, ↓MEMD_miss, List.length_cons, List.length_nil, List.length_map, Nat.reduceAdd, Nat.reduceLT, Nat.reduceLeDiff, Nat.zero_add, List.append_nil, List.nil_append, List.cons_append, Nat.reduceBEq, Int.reduceBEq, Nat.reduceEqDiff, beq_self_eq_true, true_and, and_true, Bool.not_true, Bool.not_false, Bool.or_true, Bool.true_or, H82.sm1, H82.sm2, H82.sm3, H82.p18, ne_eq, not_false_eq_true, Int.reduceEq, reduceCtorEq, List.isEmpty_nil, List.isEmpty_cons, List.all_cons, List.all_nil, isSym_s, List.any_cons, List.any_nil, eqv_sym, Bool.or_false, Bool.false_or, Bool.and_self, Int.reduceLT, Int.reduceAdd, Int.reduceSub, decide_true, decide_false])
local macro_rules
  | `(tactic| simp? [$ls,*]) => `(tactic| simp only [$ls,*, ↓br_t, ↓br_f, ↓KS_nx, ↓KS_ret, ↓KS_brk, ↓KS_cnt, ↓LQ_nx, ↓LQ_cnt, ↓LQ_brk, ↓LQ_ret, ↓EX_nx, ↓EX_ret, ↓SETE_0, ↓SETE_s, ↓BL_b, ↓INT_i, ↓KEY_s, ↓NL_0, ↓NL_s, ↓W_lstAt0, ↓W_lstAts, ↓W_at0, ↓W_ats, ↓PAR2_c, ↓PAR3_c, ↓RNG_i, ↓SEQ_l, ↓SEQ_f, ↓SEQ_t, ↓SEQ_r, ↓W_some, ↓W_atI0, ↓W_atI1, ↓W_atI2, ↓W_atI3, ↓W_atI4, ↓W_atI5, ↓W_atI6, ↓W_atI7, ↓W_atI8, ↓W_atI9, ↓W_atI10, ↓W_atI11, ↓W_atI12, ↓W_seqS, ↓W_asgS, ↓W_exprS, ↓W_retS, ↓W_retN, ↓W_brkS, ↓W_cntS, ↓W_nextS, ↓W_ifS, ↓W_forS, ↓W_par2, ↓W_par3, ↓W_nameG, ↓W_tupG, ↓W_consG, ↓W_nilG, ↓W_subG, ↓W_setO0, ↓W_setOs, ↓SETL_0, ↓SETL_s, ↓IXN_0, ↓IXN_1, ↓IXN_2, ↓IXN_3, ↓IXN_nat, ↓W_var0, ↓W_vars, ↓W_cM, ↓W_binM, ↓W_unM, ↓W_negM, ↓W_nilA, ↓W_consA, ↓W_callM, ↓W_tupM, ↓W_lstM, ↓W_lstMt, ↓W_slcM, ↓W_part0, ↓W_parts, ↓W_slOt, ↓W_slOl, ↓W_slOr, ↓W_ifM, ↓W_truM, ↓W_bolM, ↓W_andT, ↓W_orT, ↓W_notT, ↓W_andE, ↓W_orE, ↓W_notE, ↓W_mthL, ↓W_lstFr, ↓W_dctM, ↓W_dctMt, ↓W_nilK, ↓W_consK, ↓W_kwM, ↓W_maxdM, ↓W_sort2M, ↓W_listRgM, ↓W_listRgMt, ↓W_lcM, ↓W_rng1I, ↓W_seqI, ↓W_addI, ↓W_addT, ↓W_addL, ↓W_addLt, ↓W_subI, ↓W_mulI, ↓W_mulL, ↓W_fdiv, ↓W_mod, ↓W_pow, ↓W_cmp, ↓W_is, ↓W_isNot, ↓W_eqi, ↓W_eqis, ↓W_eqb, ↓W_nei, ↓W_neis, ↓W_neb, ↓W_itT, ↓W_itL, ↓W_itF, ↓W_itD, ↓W_one, ↓W_lenL, ↓W_lenT, ↓W_lenF, ↓W_intI, ↓W_intB, ↓W_absI, ↓W_max2, ↓W_min2, ↓W_tupCl, ↓W_tupCr, ↓W_tupCt, ↓W_lstCf, ↓W_lstCl, ↓W_truL, ↓W_truT, ↓W_truB, ↓W_yesT, ↓W_itR0, ↓W_itRs, ↓H82.W_defC, ↓W_dget_hit, ↓W_dget_miss, ↓W_eqs_t, ↓W_eqs_f, ↓W_nes_t, ↓W_nes_f, ↓W_isiST, ↓W_isiIT, ↓W_isiTT, ↓W_isiIS, ↓W_isiIB, ↓W_isiII, ↓W_memT', ↓W_listRg2M, ↓W_rng2I, ↓RNG2_i, ↓W_lstAt_end, ↓W_apps, ↓W_app_end, ↓W_memLd, ↓W_notMemLd, ↓MEMD_nil, ↓MEMD_hit, ↓MEMD_miss, List.length_cons, List.length_nil, List.length_map, Nat.reduceAdd, Nat.reduceLT, Nat.reduceLeDiff, Nat.zero_add, List.append_nil, List.nil_append, List.cons_append, Nat.reduceBEq, Int.reduceBEq, Nat.reduceEqDiff, beq_self_eq_true, true_and, and_true, Bool.not_true, Bool.not_false, Bool.or_true, Bool.true_or, H82.sm1, H82.sm2, H82.sm3, H82.p18, ne_eq, not_false_eq_true, Int.reduceEq, reduceCtorEq, List.isEmpty_nil, List.isEmpty_cons, List.all_cons, List.all_nil, isSym_s, List.any_cons, List.any_nil, eqv_sym, Bool.or_false, Bool.false_or, Bool.and_self, Int.reduceLT, Int.reduceAdd, Int.reduceSub, decide_true, decide_false, ↓sc_names, ↓sc_shared, ↓sc_privates, ↓sc_fields, ↓sc_slots, ↓sc_program, ↓sc_calls, sNm_e, sSh_e, sNm_l, sSh_l, bigN])
/-! the law's own translation -/
mutual
def longOf : Stm → Nat
  | .cond _ y n => 1 + longs y + longs n + (if n.length > 0 then 1 else 0)
  | .loop b => 1 + longs b
  | .brk => 1
  | .row _ => 1
def longs : List Stm → Nat
  | [] => 0
  | s :: ss => longOf s + longs ss
end
def partL : Stm → Option Int
  | .loop b => some (longs b)
  | _ => none
def partC : Stm → Option Int
  | .cond _ y n => some (longs y + longs n + (if n.length > 0 then 1 else 0))
  | _ => none
theorem parts_sum : ∀ ss : List Stm, (ss.length : Int) + (ss.filterMap partL).sum + (ss.filterMap partC).sum = longs ss
  | [] => rfl
  | s :: ss => by
    have ih := parts_sum ss
    cases s with
    | cond t y n =>
      simp only [List.filterMap_cons, partL, partC, List.sum_cons, List.length_cons, longs, longOf]
      split <;> omega
    | loop b =>
      simp only [List.filterMap_cons, partL, partC, List.sum_cons, List.length_cons, longs, longOf]
      omega
    | brk =>
      simp only [List.filterMap_cons, partL, partC, List.sum_cons, List.length_cons, longs, longOf]
      omega
    | row d =>
      simp only [List.filterMap_cons, partL, partC, List.sum_cons, List.length_cons, longs, longOf]
      omega
theorem lcL_fm {tg : GM} {t : TM} {e : EM} {wenv : Mn.Env} {st : Store} (φ : Stm → Option Int) (ok : Stm → Prop) (step : ∀ s, ok s → W (tg (enc s) wenv st) fun p => W (t p.1 p.2) fun q => br q.1 (W (e p.1 q.2) fun x => ∃ v, φ s = some v ∧ x = (.int v, st)) (φ s = none ∧ q.2 = st)) :
    ∀ (ss : List Stm), (∀ s ∈ ss, ok s) → W (lcL (fun _ => true) tg t e wenv (encs ss) st) fun q => q = ((ss.filterMap φ).map D.int, st)
  | [], _ => by
    show W (lcL (fun _ => true) tg t e wenv [] st) _
    unfold lcL
    rw [if_pos rfl]
    exact ⟨_, rfl, rfl⟩
  | s :: ss, h => by
    obtain ⟨⟨e1, s1⟩, h2, ⟨b, s2⟩, h3, h4⟩ := step s (h s List.mem_cons_self)
    have ih := lcL_fm φ ok step ss fun x hx => h x (List.mem_cons_of_mem _ hx)
    show W (lcL (fun _ => true) tg t e wenv (enc s :: encs ss) st) _
    unfold lcL
    rw [if_pos rfl, h2, Option.bind_some, h3, Option.bind_some]
    cases b with
    | false =>
      obtain ⟨h5, rfl⟩ := h4
      refine ih.mono fun q hq => ?_
      rw [hq, List.filterMap_cons, h5]
    | true =>
      obtain ⟨⟨x, s3⟩, h5, v, h6, h7⟩ := h4
      cases h7
      dsimp only
      rw [if_pos rfl, h5, Option.bind_some, W_map]
      refine ih.mono fun q hq => ?_
      subst hq
      rw [List.filterMap_cons, h6]
      rfl
theorem W_sum {ns : List Int} {st : Store} {Q : D → Prop} : W (sumF st (.lst (ns.map D.int))) Q ↔ Q (.int ns.sum) := by
  have e : intsOf (ns.map D.int) = some ns := by
    induction ns with
    | nil => rfl
    | cons n ns ih =>
      show (intsOf (ns.map D.int)).map (n :: ·) = some (n :: ns)
      rw [ih]; rfl
  unfold sumF
  simp only [lstOf, e, W_map, W_some]
theorem all_wf {lp : Bool} {n : Nat} : ∀ {ss : List Stm}, WFs lp n ss → ∀ s ∈ ss, WF lp n s
  | [], _, s, h => absurd h (by simp)
  | x :: ss, hw, s, h => by
    rcases List.mem_cons.mp h with rfl | h
    · exact hw.1
    · exact all_wf hw.2 s h
theorem encs_fm_len {φ : Stm → Option Int} {ss : List Stm} : ((ss.filterMap φ).map D.int).length ≤ ss.length := by
  rw [List.length_map]
  exact List.length_filterMap_le _ _
theorem manys_mem : ∀ {ss : List Stm} {s : Stm}, s ∈ ss → many s ≤ manys ss
  | [], s, h => absurd h (by simp)
  | x :: ss, s, h => by
    show many s ≤ many x + manys ss
    rcases List.mem_cons.mp h with rfl | h
    · omega
    · have := manys_mem h
      omega
theorem m_long_ok (C : List V) {lp : Bool} : ∀ (n : Nat) {k : Nat} (_ : n + 1 ≤ k) (ss : List Stm) (_ : WFs lp n ss) (_ : manys ss ≤ 1000) (st : Store) (_ : CL st), W (runP (pg C) k j__law_m_long [.tup (encs ss)] st) fun q => q = (.int (longs ss), st)
  | n, k, hk, ss, hw, hm, st, hs => by
    obtain ⟨k, rfl⟩ := Nat.exists_eq_add_of_le' (show 1 ≤ k by omega)
    refine r__law_m_long ?_
    unfold m__law_m_long
    simp? [true_and]
    have hl := len_le ss
    refine (lcL_fm partL (fun s => WF lp n s ∧ many s ≤ manys ss) ?_ ss fun s h => ⟨all_wf hw s h, manys_mem h⟩).mono ?_
    · rintro s ⟨hs1, hs2⟩
      cases s with
      | cond t y no =>
        simp? [enc, wipeE, List.set_cons_succ, List.set_cons_zero]
        exact rfl
      | loop b =>
        cases n with
        | zero => exact hs1.elim
        | succ n =>
          simp? [enc, wipeE, List.set_cons_succ, List.set_cons_zero]
          have : many (.loop b) = 1 + manys b := by simp only [many]
          refine (m_long_ok C n (by omega) b hs1.2 (by omega) st hs).mono ?_
          rintro q rfl
          exact ⟨_, rfl, rfl⟩
      | brk =>
        simp? [enc, wipeE, List.set_cons_succ, List.set_cons_zero]
        exact rfl
      | row d0 =>
        obtain ⟨w, hw1, r, rfl, _⟩ := wf_row.mp hs1
        obtain ⟨n1, n2, _⟩ := rowWord_ne hw1
        simp? [enc, wipeE, List.set_cons_succ, List.set_cons_zero, n1, n2]
        exact rfl
    rintro q rfl
    simp? [↓W_sum]
    have hl2 := encs_fm_len (φ := partL) (ss := ss)
    have hl3 := encs_fm_len (φ := partC) (ss := ss)
    rw [List.length_map] at hl2 hl3
    refine ⟨by omega, ?_⟩
    refine (lcL_fm partC (fun s => WF lp n s ∧ many s ≤ manys ss) ?_ ss fun s h => ⟨all_wf hw s h, manys_mem h⟩).mono ?_
    · rintro s ⟨hs1, hs2⟩
      cases s with
      | loop b =>
        simp? [enc, wipeE, List.set_cons_succ, List.set_cons_zero]
        exact rfl
      | cond t y no =>
        cases n with
        | zero => exact hs1.elim
        | succ n =>
          simp? [enc, wipeE, List.set_cons_succ, List.set_cons_zero]
          have : many (.cond t y no) = 1 + manys y + manys no := by simp only [many]
          refine (m_long_ok C n (by omega) y hs1.2.1 (by omega) st hs).mono ?_
          rintro q rfl
          refine (m_long_ok C n (by omega) no hs1.2.2 (by omega) st hs).mono ?_
          rintro q rfl
          simp? [true_and]
          refine ⟨_, rfl, ?_⟩
          rw [encs_len]
          have e : (if decide ((0 : Int) < (no.length : Int)) = true then (1 : Int) else 0) = if no.length > 0 then 1 else 0 := by
            by_cases h : no.length > 0
            · rw [if_pos h, if_pos (decide_eq_true (by omega))]
            · rw [if_neg h, if_neg (by rw [decide_eq_true_eq]; omega)]
          rw [e]
      | brk =>
        simp? [enc, wipeE, List.set_cons_succ, List.set_cons_zero]
        exact rfl
      | row d0 =>
        obtain ⟨w, hw1, r, rfl, _⟩ := wf_row.mp hs1
        obtain ⟨n1, n2, _⟩ := rowWord_ne hw1
        simp? [enc, wipeE, List.set_cons_succ, List.set_cons_zero, n1, n2]
        exact rfl
    rintro q rfl
    simp? [↓W_sum]
    refine ⟨by omega, exitC0 rfl hs rfl ?_⟩
    rw [encs_len, parts_sum]
termination_by n => n
end H82
set_option Elab.async false
set_option linter.all false
set_option maxRecDepth 100000
set_option maxHeartbeats 4000000
set_option autoImplicit false
namespace H82
open PySem PySem.Spec PyProof.Rows L2 Mn
local macro_rules
  | `(tactic| simp? only [$ls,*]) => `(tactic| simp only [$ls,*, ↓br_t, ↓br_f, ↓KS_nx, ↓KS_ret, ↓KS_brk, ↓KS_cnt, ↓LQ_nx, ↓LQ_cnt, ↓LQ_brk, ↓LQ_ret, ↓EX_nx, ↓EX_ret, ↓SETE_0, ↓SETE_s, ↓BL_b, ↓INT_i, ↓KEY_s, ↓NL_0, ↓NL_s, ↓W_lstAt0, ↓W_lstAts, ↓W_at0, ↓W_ats, ↓PAR2_c, ↓PAR3_c, ↓RNG_i, ↓SEQ_l, ↓SEQ_f, ↓SEQ_t, ↓SEQ_r, ↓W_some, ↓W_atI0, ↓W_atI1, ↓W_atI2, ↓W_atI3, ↓W_atI4, ↓W_atI5, ↓W_atI6, ↓W_atI7, ↓W_atI8, ↓W_atI9, ↓W_atI10, ↓W_atI11, ↓W_atI12, ↓W_seqS, ↓W_asgS, ↓W_exprS, ↓W_retS, ↓W_retN, ↓W_brkS, ↓W_cntS, ↓W_nextS, ↓W_ifS, ↓W_forS, ↓W_par2, ↓W_par3, ↓W_nameG, ↓W_tupG, ↓W_consG, ↓W_nilG, ↓W_subG, ↓W_setO0, ↓W_setOs, ↓SETL_0, ↓SETL_s, ↓IXN_0, ↓IXN_1, ↓IXN_2, ↓IXN_3, ↓IXN_nat, ↓W_var0, ↓W_vars, ↓W_cM, ↓W_binM, ↓W_unM, ↓W_negM, ↓W_nilA, ↓W_consA, ↓W_callM, ↓W_tupM, ↓W_lstM, ↓W_lstMt, ↓W_slcM, ↓W_part0, ↓W_parts, ↓W_slOt, ↓W_slOl, ↓W_slOr, ↓W_ifM, ↓W_truM, ↓W_bolM, ↓W_andT, ↓W_orT, ↓W_notT, ↓W_andE, ↓W_orE, ↓W_notE, ↓W_mthL, ↓W_lstFr, ↓W_dctM, ↓W_dctMt, ↓W_nilK, ↓W_consK, ↓W_kwM, ↓W_maxdM, ↓W_sort2M, ↓W_listRgM, ↓W_listRgMt, ↓W_lcM, ↓W_rng1I, ↓W_seqI, ↓W_addI, ↓W_addT, ↓W_addL, ↓W_addLt, ↓W_subI, ↓W_mulI, ↓W_mulL, ↓W_fdiv, ↓W_mod, ↓W_pow, ↓W_cmp, ↓W_is, ↓W_isNot, ↓W_eqi, ↓W_eqis, ↓W_eqb, ↓W_nei, ↓W_neis, ↓W_neb, ↓W_itT, ↓W_itL, ↓W_itF, ↓W_itD, ↓W_one, ↓W_lenL, ↓W_lenT, ↓W_lenF, ↓W_intI, ↓W_intB, ↓W_absI, ↓W_max2, ↓W_min2, ↓W_tupCl, ↓W_tupCr, ↓W_tupCt, ↓W_lstCf, ↓W_lstCl, ↓W_truL, ↓W_truT, ↓W_truB, ↓W_yesT, ↓W_itR0, ↓W_itRs, ↓H82.W_defC, ↓W_dget_hit, ↓W_dget_miss, ↓W_eqs_t, ↓W_eqs_f, ↓W_nes_t, ↓W_nes_f, ↓W_isiST, ↓W_isiIT, ↓W_isiTT, ↓W_isiIS, ↓W_isiIB, ↓W_isiII, ↓W_memT', ↓W_listRg2M, ↓W_rng2I, ↓RNG2_i, ↓W_lstAt_end, ↓W_apps, ↓W_app_end, ↓W_memLd, ↓W_notMemLd, ↓MEMD_nil, ↓MEMD_hit, ↓MEMD_miss, List.length_cons, List.length_nil, List.length_map, Nat.reduceAdd, Nat.reduceLT, Nat.reduceLeDiff, Nat.zero_add, List.append_nil, List.nil_append, List.cons_append, Nat.reduceBEq, Int.reduceBEq, Nat.reduceEqDiff, beq_self_eq_true, true_and, and_true, Bool.not_true, Bool.not_false, Bool.or_true, Bool.true_or, H82.sm1, H82.sm2, H82.sm3, H82.p18, ne_eq, not_false_eq_true, Int.reduceEq, reduceCtorEq, List.isEmpty_nil, List.isEmpty_cons, List.all_cons, List.all_nil, isSym_s, List.any_cons, List.any_nil, eqv_sym, Bool.or_false, Bool.false_or, Bool.and_self, Int.reduceLT, Int.reduceAdd, Int.reduceSub, decide_true, decide_false])
local macro_rules
  | `(tactic| simp? [$ls,*]) => `(tactic| simp only [$ls,*, ↓br_t, ↓br_f, ↓KS_nx, ↓KS_ret, ↓KS_brk, ↓KS_cnt, ↓LQ_nx, ↓LQ_cnt, ↓LQ_brk, ↓LQ_ret, ↓EX_nx, ↓EX_ret, ↓SETE_0, ↓SETE_s, ↓BL_b, ↓INT_i, ↓KEY_s, ↓NL_0, ↓NL_s, ↓W_lstAt0, ↓W_lstAts, ↓W_at0, ↓W_ats, ↓PAR2_c, ↓PAR3_c, ↓RNG_i, ↓SEQ_l, ↓SEQ_f, ↓SEQ_t, ↓SEQ_r, ↓W_some, ↓W_atI0, ↓W_atI1, ↓W_atI2, ↓W_atI3, ↓W_atI4, ↓W_atI5, ↓W_atI6, ↓W_atI7, ↓W_atI8, ↓W_atI9, ↓W_atI10, ↓W_atI11, ↓W_atI12, ↓W_seqS, ↓W_asgS, ↓W_exprS, ↓W_retS, ↓W_retN, ↓W_brkS, ↓W_cntS, ↓W_nextS, ↓W_ifS, ↓W_forS, ↓W_par2, ↓W_par3, ↓W_nameG, ↓W_tupG, ↓W_consG, ↓W_nilG, ↓W_subG, ↓W_setO0, ↓W_setOs, ↓SETL_0, ↓SETL_s, ↓IXN_0, ↓IXN_1, ↓IXN_2, ↓IXN_3, ↓IXN_nat, ↓W_var0, ↓W_vars, ↓W_cM, ↓W_binM, ↓W_unM, ↓W_negM, ↓W_nilA, ↓W_consA, ↓W_callM, ↓W_tupM, ↓W_lstM, ↓W_lstMt, ↓W_slcM, ↓W_part0, ↓W_parts, ↓W_slOt, ↓W_slOl, ↓W_slOr, ↓W_ifM, ↓W_truM, ↓W_bolM, ↓W_andT, ↓W_orT, ↓W_notT, ↓W_andE, ↓W_orE, ↓W_notE, ↓W_mthL, ↓W_lstFr, ↓W_dctM, ↓W_dctMt, ↓W_nilK, ↓W_consK, ↓W_kwM, ↓W_maxdM, ↓W_sort2M, ↓W_listRgM, ↓W_listRgMt, ↓W_lcM, ↓W_rng1I, ↓W_seqI, ↓W_addI, ↓W_addT, ↓W_addL, ↓W_addLt, ↓W_subI, ↓W_mulI, ↓W_mulL, ↓W_fdiv, ↓W_mod, ↓W_pow, ↓W_cmp, ↓W_is, ↓W_isNot, ↓W_eqi, ↓W_eqis, ↓W_eqb, ↓W_nei, ↓W_neis, ↓W_neb, ↓W_itT, ↓W_itL, ↓W_itF, ↓W_itD, ↓W_one, ↓W_lenL, ↓W_lenT, ↓W_lenF, ↓W_intI, ↓W_intB, ↓W_absI, ↓W_max2, ↓W_min2, ↓W_tupCl, ↓W_tupCr, ↓W_tupCt, ↓W_lstCf, ↓W_lstCl, ↓W_truL, ↓W_truT, ↓W_truB, ↓W_yesT, ↓W_itR0, ↓W_itRs, ↓H82.W_defC, ↓W_dget_hit, ↓W_dget_miss, ↓W_eqs_t, ↓W_eqs_f, ↓W_nes_t, ↓W_nes_f, ↓W_isiST, ↓W_isiIT, ↓W_isiTT, ↓W_isiIS, ↓W_isiIB, ↓W_isiII, ↓W_memT', ↓W_listRg2M, ↓W_rng2I, ↓RNG2_i, ↓W_lstAt_end, ↓W_apps, ↓W_app_end, ↓W_memLd, ↓W_notMemLd, ↓MEMD_nil, ↓MEMD_hit, ↓MEMD_miss, List.length_cons, List.length_nil, List.length_map, Nat.reduceAdd, Nat.reduceLT, Nat.reduceLeDiff, Nat.zero_add, List.append_nil, List.nil_append, List.cons_append, Nat.reduceBEq, Int.reduceBEq, Nat.reduceEqDiff, beq_self_eq_true, true_and, and_true, Bool.not_true, Bool.not_false, Bool.or_true, Bool.true_or, H82.sm1, H82.sm2, H82.sm3, H82.p18, ne_eq, not_false_eq_true, Int.reduceEq, reduceCtorEq, List.isEmpty_nil, List.isEmpty_cons, List.all_cons, List.all_nil, isSym_s, List.any_cons, List.any_nil, eqv_sym, Bool.or_false, Bool.false_or, Bool.and_self, Int.reduceLT, Int.reduceAdd, Int.reduceSub, decide_true, decide_false, ↓sc_names, ↓sc_shared, ↓sc_privates, ↓sc_fields, ↓sc_slots, ↓sc_program, ↓sc_calls, sNm_e, sSh_e, sNm_l, sSh_l, bigN])
inductive Ins where
  | jmp (n : Nat) | unl (t : D) (n : Nat) | row (d : D)
def encI : Ins → D
  | .jmp n => .tup [.sym 10, .int n]
  | .unl t n => .tup [.sym 9, t, .int n]
  | .row d => d
def dl (n : List Stm) : Nat := if n.length > 0 then 1 else 0
mutual
def codeOf : Stm → Nat → Nat → List Ins
  | .cond t y n, at_, out => .unl t (at_ + 1 + longs y + dl n) :: (codes y (at_ + 1) out ++ (match n with
    | [] => []
    | _ :: _ => .jmp (at_ + 1 + longs y + dl n + longs n) :: codes n (at_ + 1 + longs y + dl n) out))
  | .loop b, at_, out => codes b at_ (at_ + longs b + 1) ++ [.jmp at_]
  | .brk, _, out => [.jmp out]
  | .row d, _, _ => [.row d]
def codes : List Stm → Nat → Nat → List Ins
  | [], _, _ => []
  | s :: ss, at_, out => codeOf s at_ out ++ codes ss (at_ + longOf s) out
end
mutual
theorem codeOf_len : ∀ (s : Stm) (a o : Nat), (codeOf s a o).length = longOf s
  | .cond t y n, a, o => by
    unfold codeOf longOf
    cases n with
    | nil =>
      simp only [List.length_cons, List.length_append, codes_len y, List.length_nil, longs]
      simp; omega
    | cons x n =>
      simp only [List.length_cons, List.length_append, codes_len y, codes_len (x :: n)]
      rw [if_pos (by omega)]; omega
  | .loop b, a, o => by
    unfold codeOf longOf
    simp only [List.length_cons, List.length_append, codes_len b, List.length_nil]; omega
  | .brk, _, _ => by unfold codeOf longOf; rfl
  | .row _, _, _ => by unfold codeOf longOf; rfl
theorem codes_len : ∀ (ss : List Stm) (a o : Nat), (codes ss a o).length = longs ss
  | [], _, _ => by unfold codes longs; rfl
  | s :: ss, a, o => by
    unfold codes longs
    rw [List.length_append, codeOf_len s, codes_len ss]
end
mutual
theorem longOf_le : ∀ s : Stm, longOf s ≤ 2 * many s
  | .cond t y n => by
    have h1 := longs_le y
    have h2 := longs_le n
    unfold longOf many
    split <;> omega
  | .loop b => by
    have h1 := longs_le b
    unfold longOf many
    omega
  | .brk => by unfold longOf many; omega
  | .row _ => by unfold longOf many; omega
theorem longs_le : ∀ ss : List Stm, longs ss ≤ 2 * manys ss
  | [] => by unfold longs; omega
  | s :: ss => by
    have h1 := longOf_le s
    have h2 := longs_le ss
    unfold longs manys
    omega
end
def encIs (l : List Ins) : List D := l.map encI
theorem encIs_len (l : List Ins) : (encIs l).length = l.length := List.length_map _
theorem encIs_app (a b : List Ins) : encIs (a ++ b) = encIs a ++ encIs b := List.map_append
mutual
theorem codeOf_clo {lp : Bool} : ∀ (n : Nat) (s : Stm), WF lp n s → ∀ (a o : Nat), Mn.clos 0 (encIs (codeOf s a o)) = true
  | 0, .cond _ _ _, h, _, _ => h.elim
  | 0, .loop _, h, _, _ => h.elim
  | n + 1, .cond t y no, h, a, o => by
    obtain ⟨h1, h2, h3⟩ := h
    unfold codeOf
    have hy := codes_clo n y h2 (a + 1) o
    have ht : clo 0 t = true := h1
    cases no with
    | nil =>
      rw [List.append_nil]
      show (clo 0 (.tup [_, t, _]) && Mn.clos 0 (encIs _)) = true
      rw [hy]
      show ((true && (clo 0 t && (true && true))) && true) = true
      rw [ht]; rfl
    | cons z no =>
      have hn := codes_clo n (z :: no) h3 (a + 1 + longs y + dl (z :: no)) o
      refine clos_iff.mpr fun d hd => ?_
      obtain ⟨i, hi, rfl⟩ := List.mem_map.mp hd
      rcases List.mem_cons.mp hi with rfl | hi
      · show (true && (clo 0 t && (true && true))) = true
        rw [ht]; rfl
      rcases List.mem_append.mp hi with hi | hi
      · exact clos_iff.mp hy _ (List.mem_map_of_mem hi)
      rcases List.mem_cons.mp hi with rfl | hi
      · rfl
      · exact clos_iff.mp hn _ (List.mem_map_of_mem hi)
  | n + 1, .loop b, h, a, o => by
    unfold codeOf
    have hb := codes_clo n b h.2 a (a + longs b + 1)
    refine clos_iff.mpr fun d hd => ?_
    obtain ⟨i, hi, rfl⟩ := List.mem_map.mp hd
    rcases List.mem_append.mp hi with hi | hi
    · exact clos_iff.mp hb _ (List.mem_map_of_mem hi)
    · rw [List.mem_singleton.mp hi]; rfl
  | 0, .brk, _, _, _ => rfl
  | n + 1, .brk, _, _, _ => rfl
  | 0, .row d, h, _, _ => by
    obtain ⟨w, _, h⟩ := h
    show (clo 0 d && true) = true
    rw [h.clo]; rfl
  | n + 1, .row d, h, _, _ => by
    obtain ⟨w, _, h⟩ := h
    show (clo 0 d && true) = true
    rw [h.clo]; rfl
theorem codes_clo {lp : Bool} : ∀ (n : Nat) (ss : List Stm), WFs lp n ss → ∀ (a o : Nat), Mn.clos 0 (encIs (codes ss a o)) = true
  | _, [], _, _, _ => rfl
  | n, s :: ss, h, a, o => by
    unfold codes
    refine clos_iff.mpr fun d hd => ?_
    rw [encIs_app] at hd
    rcases List.mem_append.mp hd with hd | hd
    · exact clos_iff.mp (codeOf_clo n s h.1 a o) d hd
    · exact clos_iff.mp (codes_clo n ss h.2 _ o) d hd
end
theorem m_code_ok (C : List V) {lp : Bool} : ∀ (n : Nat) {k : Nat} (_ : n + 2 ≤ k) (ss : List Stm) (_ : WFs lp n ss) (_ : manys ss ≤ 1000) (a o : Nat) (st : Store) (_ : CL st), W (runP (pg C) k j__law_m_code [.tup (encs ss), .int a, .int o] st) fun q => q = (.tup (encIs (codes ss a o)), st)
  | n, k, hk, ss, hw, hm, a, o, st, hs => by
    obtain ⟨k, rfl⟩ := Nat.exists_eq_add_of_le' (show 1 ≤ k by omega)
    refine r__law_m_code ?_
    unfold m__law_m_code
    simp? [true_and]
    obtain ⟨J, hJ⟩ : ∃ J : List D → Mn.Env → Store → Prop, J = fun r env s => ∃ (acc : List Ins) (x4 x5 x6 : Option D) (ss' : List Stm), env = [some (.tup (encs ss)), some (.int a), some (.int o), some (.tup (encIs acc)), x4, x5, x6] ∧ s = st ∧ r = encs ss' ∧ WFs lp n ss' ∧ acc ++ codes ss' (a + acc.length) o = codes ss a o ∧ manys ss' ≤ manys ss := ⟨_, rfl⟩
    refine forL_W J ?_ ?_ _ _ _ (by rw [hJ]; exact ⟨[], none, none, none, ss, rfl, rfl, rfl, hw, rfl, Nat.le_refl _⟩)
    · intro e r env s h
      rw [hJ] at h
      obtain ⟨acc, x4, x5, x6, ss', rfl, rfl, hr, hw', hc, hm'⟩ := h
      cases ss' with
      | nil => cases hr
      | cons s0 ss' =>
        obtain ⟨rfl, rfl⟩ := List.cons.inj (show e :: r = enc s0 :: encs ss' from hr)
        have hms : many s0 + manys ss' ≤ manys ss := hm'
        have hlen : (encIs acc).length + longOf s0 ≤ 2000 := by
          have h1 := congrArg List.length hc
          have h2 := longs_le ss
          rw [List.length_append, codes_len, codes_len] at h1
          have h3 : longs (s0 :: ss') = longOf s0 + longs ss' := by simp only [longs]
          show (acc.map encI).length + longOf s0 ≤ 2000
          rw [List.length_map]
          omega
        have hal : (encIs acc).length = acc.length := List.length_map _
        have fin : ∀ (x4 x5 x6 : Option D) (d : List D), d = encIs (codeOf s0 (a + acc.length) o) → J (encs ss') [some (.tup (encs ss)), some (.int a), some (.int o), some (.tup (encIs acc ++ d)), x4, x5, x6] s := fun x4 x5 x6 d hd => by
          subst hd
          rw [hJ]
          refine ⟨acc ++ codeOf s0 (a + acc.length) o, x4, x5, x6, ss', by simp [encIs], rfl, rfl, hw'.2, ?_, by omega⟩
          rw [← hc, List.length_append, codeOf_len, List.append_assoc, ← Nat.add_assoc]
          simp only [codes]
        refine ⟨rfl, ?_⟩
        cases s0 with
        | cond t y no =>
          cases n with
          | zero => exact hw'.1.elim
          | succ n =>
            obtain ⟨h1, h2, h3⟩ := hw'.1
            have : many (.cond t y no) = 1 + manys y + manys no := by simp only [many]
            simp? [enc]
            have hlo : longOf (.cond t y no) = 1 + longs y + longs no + (if no.length > 0 then 1 else 0) := by simp only [longOf]
            refine (m_long_ok C n (by omega) y h2 (by omega) s hs).mono ?_
            rintro q rfl
            simp? [true_and]
            have eo : (a : Int) + ((encIs acc).length : Int) + 1 + (longs y : Int) + (if decide ((0 : Int) < ((encs no).length : Int)) = true then (1 : Int) else 0) = ((a + acc.length + 1 + longs y + dl no : Nat) : Int) := by
              rw [encIs_len, encs_len]
              unfold dl
              by_cases h : no.length > 0
              · rw [if_pos h, if_pos (decide_eq_true (by omega))]; omega
              · rw [if_neg h, if_neg (by rw [decide_eq_true_eq]; omega)]; omega
            have e2 : (a : Int) + ((encIs acc).length : Int) + 1 = ((a + acc.length + 1 : Nat) : Int) := by rw [encIs_len]; omega
            refine ⟨by omega, ?_⟩
            rw [eo, e2]
            refine (m_code_ok C n (by omega) y h2 (by omega) (a + acc.length + 1) o s hs).mono ?_
            rintro q rfl
            simp? [encIs_len, codes_len, List.length_append]
            rw [encIs_len] at hlen
            refine ⟨by omega, ?_⟩
            cases no with
            | nil =>
              refine br_d (fun h => absurd h (by simp [encs])) fun _ => ?_
              rw [List.append_assoc]
              exact fin _ _ _ _ (by simp [encIs, codeOf, encI])
            | cons z no =>
              refine br_d (fun _ => ?_) fun h => absurd (show (0 : Int) < ((encs (z :: no)).length : Int) by rw [encs_len, List.length_cons]; omega) h
              refine (m_long_ok C n (by omega) (z :: no) h3 (by omega) s hs).mono ?_
              rintro q rfl
              have hz : (if (z :: no).length > 0 then 1 else 0) = 1 := if_pos (Nat.zero_lt_succ _)
              rw [hz] at hlo
              simp? [encIs_len, codes_len, List.length_append]
              refine ⟨by omega, ?_⟩
              refine (m_code_ok C n (by omega) (z :: no) h3 (by omega) (a + acc.length + 1 + longs y + dl (z :: no)) o s hs).mono ?_
              rintro q rfl
              simp? [encIs_len, codes_len, List.length_append]
              refine ⟨by omega, ?_⟩
              simp only [List.append_assoc]
              exact fin _ _ _ _ (by simp [encIs, codeOf, encI])
        | loop b =>
          cases n with
          | zero => exact hw'.1.elim
          | succ n =>
            obtain ⟨h1, h2⟩ := hw'.1
            have : many (.loop b) = 1 + manys b := by simp only [many]
            have hlo : longOf (.loop b) = 1 + longs b := by simp only [longOf]
            simp? [enc]
            refine (m_long_ok C n (by omega) b h2 (by omega) s hs).mono ?_
            rintro q rfl
            simp? [true_and]
            have e1 : (a : Int) + ((encIs acc).length : Int) + (longs b : Int) + 1 = ((a + acc.length + longs b + 1 : Nat) : Int) := by rw [encIs_len]; omega
            have e2 : (a : Int) + ((encIs acc).length : Int) = ((a + acc.length : Nat) : Int) := by rw [encIs_len]; omega
            rw [e1, e2]
            refine (m_code_ok C n (by omega) b h2 (by omega) (a + acc.length) (a + acc.length + longs b + 1) s hs).mono ?_
            rintro q rfl
            simp? [encIs_len, codes_len, List.length_append]
            rw [encIs_len] at hlen
            refine ⟨by omega, by omega, ?_⟩
            rw [List.append_assoc]
            exact fin _ _ _ _ (by simp [encIs, codeOf, encI])
        | brk =>
          simp? [enc]
          refine ⟨by omega, ?_⟩
          exact fin _ _ _ _ rfl
        | row d0 =>
          obtain ⟨w, hw1, r, rfl, _⟩ := wf_row.mp hw'.1
          obtain ⟨n1, n2, n3, _⟩ := rowWord_ne hw1
          simp? [enc, n1, n2, n3]
          refine ⟨by omega, ?_⟩
          exact fin _ _ _ _ rfl
    · intro env s h
      rw [hJ] at h
      obtain ⟨acc, x4, x5, x6, ss', rfl, rfl, hr, hw', hc, hm'⟩ := h
      cases ss' with
      | cons s0 ss' => cases hr
      | nil =>
        refine ⟨rfl, ?_⟩
        simp? [true_and]
        have : acc = codes ss a o := by rw [← hc]; simp [codes]
        subst this
        exact exitC0 rfl hs (codes_clo n ss hw a o) rfl
termination_by n => n
end H82
set_option Elab.async false
set_option linter.all false
set_option maxRecDepth 100000
set_option maxHeartbeats 4000000
set_option autoImplicit false
namespace H82
open PySem PySem.Spec PyProof.Rows L2 Mn
local macro_rules
  | `(tactic| simp? only [$ls,*]) => `(tactic| simp only [$ls,*, ↓br_t, ↓br_f, ↓KS_nx, ↓KS_ret, ↓KS_brk, ↓KS_cnt, ↓LQ_nx, ↓LQ_cnt, ↓LQ_brk, ↓LQ_ret, ↓EX_nx, ↓EX_ret, ↓SETE_0, ↓SETE_s, ↓BL_b, ↓INT_i, ↓KEY_s, ↓NL_0, ↓NL_s, ↓W_lstAt0, ↓W_lstAts, ↓W_at0, ↓W_ats, ↓PAR2_c, ↓PAR3_c, ↓RNG_i, ↓SEQ_l, ↓SEQ_f, ↓SEQ_t, ↓SEQ_r, ↓W_some, ↓W_atI0, ↓W_atI1, ↓W_atI2, ↓W_atI3, ↓W_atI4, ↓W_atI5, ↓W_atI6, ↓W_atI7, ↓W_atI8, ↓W_atI9, ↓W_atI10, ↓W_atI11, ↓W_atI12, ↓W_seqS, ↓W_asgS, ↓W_exprS, ↓W_retS, ↓W_retN, ↓W_brkS, ↓W_cntS, ↓W_nextS, ↓W_ifS, ↓W_forS, ↓W_par2, ↓W_par3, ↓W_nameG, ↓W_tupG, ↓W_consG, ↓W_nilG, ↓W_subG, ↓W_setO0, ↓W_setOs, ↓SETL_0, ↓SETL_s, ↓IXN_0, ↓IXN_1, ↓IXN_2, ↓IXN_3, ↓IXN_nat, ↓W_var0, ↓W_vars, ↓W_cM, ↓W_binM, ↓W_unM, ↓W_negM, ↓W_nilA, ↓W_consA, ↓W_callM, ↓W_tupM, ↓W_lstM, ↓W_lstMt, ↓W_slcM, ↓W_part0, ↓W_parts, ↓W_slOt, ↓W_slOl, ↓W_slOr, ↓W_ifM, ↓W_truM, ↓W_bolM, ↓W_andT, ↓W_orT, ↓W_notT, ↓W_andE, ↓W_orE, ↓W_notE, ↓W_mthL, ↓W_lstFr, ↓W_dctM, ↓W_dctMt, ↓W_nilK, ↓W_consK, ↓W_kwM, ↓W_maxdM, ↓W_sort2M, ↓W_listRgM, ↓W_listRgMt, ↓W_lcM, ↓W_rng1I, ↓W_seqI, ↓W_addI, ↓W_addT, ↓W_addL, ↓W_addLt, ↓W_subI, ↓W_mulI, ↓W_mulL, ↓W_fdiv, ↓W_mod, ↓W_pow, ↓W_cmp, ↓W_is, ↓W_isNot, ↓W_eqi, ↓W_eqis, ↓W_eqb, ↓W_nei, ↓W_neis, ↓W_neb, ↓W_itT, ↓W_itL, ↓W_itF, ↓W_itD, ↓W_one, ↓W_lenL, ↓W_lenT, ↓W_lenF, ↓W_intI, ↓W_intB, ↓W_absI, ↓W_max2, ↓W_min2, ↓W_tupCl, ↓W_tupCr, ↓W_tupCt, ↓W_lstCf, ↓W_lstCl, ↓W_truL, ↓W_truT, ↓W_truB, ↓W_yesT, ↓W_itR0, ↓W_itRs, ↓H82.W_defC, ↓W_dget_hit, ↓W_dget_miss, ↓W_eqs_t, ↓W_eqs_f, ↓W_nes_t, ↓W_nes_f, ↓W_isiST, ↓W_isiIT, ↓W_isiTT, ↓W_isiIS, ↓W_isiIB, ↓W_isiII, ↓W_memT', ↓W_listRg2M, ↓W_rng2I, ↓RNG2_i, ↓W_lstAt_end, ↓W_apps, ↓W_app_end, ↓W_memLd, ↓W_notMemLd, ↓MEMD_nil, ↓MEMD_hit, ↓MEMD_miss, List.length_cons, List.length_nil, List.length_map, Nat.reduceAdd, Nat.reduceLT, Nat.reduceLeDiff, Nat.zero_add, List.append_nil, List.nil_append, List.cons_append, Nat.reduceBEq, Int.reduceBEq, Nat.reduceEqDiff, beq_self_eq_true, true_and, and_true, Bool.not_true, Bool.not_false, Bool.or_true, Bool.true_or, H82.sm1, H82.sm2, H82.sm3, H82.p18, ne_eq, not_false_eq_true, Int.reduceEq, reduceCtorEq, List.isEmpty_nil, List.isEmpty_cons, List.all_cons, List.all_nil, isSym_s, List.any_cons, List.any_nil, eqv_sym, Bool.or_false, Bool.false_or, Bool.and_self, Int.reduceLT, Int.reduceAdd, Int.reduceSub, decide_true, decide_false])
local macro_rules
  | `(tactic| simp? [$ls,*]) => `(tactic| simp only [$ls,*, ↓br_t, ↓br_f, ↓KS_nx, ↓KS_ret, ↓KS_brk, ↓KS_cnt, ↓LQ_nx, ↓LQ_cnt, ↓LQ_brk, ↓LQ_ret, ↓EX_nx, ↓EX_ret, ↓SETE_0, ↓SETE_s, ↓BL_b, ↓INT_i, ↓KEY_s, ↓NL_0, ↓NL_s, ↓W_lstAt0, ↓W_lstAts, ↓W_at0, ↓W_ats, ↓PAR2_c, ↓PAR3_c, ↓RNG_i, ↓SEQ_l, ↓SEQ_f, ↓SEQ_t, ↓SEQ_r, ↓W_some, ↓W_atI0, ↓W_atI1, ↓W_atI2, ↓W_atI3, ↓W_atI4, ↓W_atI5, ↓W_atI6, ↓W_atI7, ↓W_atI8, ↓W_atI9, ↓W_atI10, ↓W_atI11, ↓W_atI12, ↓W_seqS, ↓W_asgS, ↓W_exprS, ↓W_retS, ↓W_retN, ↓W_brkS, ↓W_cntS, ↓W_nextS, ↓W_ifS, ↓W_forS, ↓W_par2, ↓W_par3, ↓W_nameG, ↓W_tupG, ↓W_consG, ↓W_nilG, ↓W_subG, ↓W_setO0, ↓W_setOs, ↓SETL_0, ↓SETL_s, ↓IXN_0, ↓IXN_1, ↓IXN_2, ↓IXN_3, ↓IXN_nat, ↓W_var0, ↓W_vars, ↓W_cM, ↓W_binM, ↓W_unM, ↓W_negM, ↓W_nilA, ↓W_consA, ↓W_callM, ↓W_tupM, ↓W_lstM, ↓W_lstMt, ↓W_slcM, ↓W_part0, ↓W_parts, ↓W_slOt, ↓W_slOl, ↓W_slOr, ↓W_ifM, ↓W_truM, ↓W_bolM, ↓W_andT, ↓W_orT, ↓W_notT, ↓W_andE, ↓W_orE, ↓W_notE, ↓W_mthL, ↓W_lstFr, ↓W_dctM, ↓W_dctMt, ↓W_nilK, ↓W_consK, ↓W_kwM, ↓W_maxdM, ↓W_sort2M, ↓W_listRgM, ↓W_listRgMt, ↓W_lcM, ↓W_rng1I, ↓W_seqI, ↓W_addI, ↓W_addT, ↓W_addL, ↓W_addLt, ↓W_subI, ↓W_mulI, ↓W_mulL, ↓W_fdiv, ↓W_mod, ↓W_pow, ↓W_cmp, ↓W_is, ↓W_isNot, ↓W_eqi, ↓W_eqis, ↓W_eqb, ↓W_nei, ↓W_neis, ↓W_neb, ↓W_itT, ↓W_itL, ↓W_itF, ↓W_itD, ↓W_one, ↓W_lenL, ↓W_lenT, ↓W_lenF, ↓W_intI, ↓W_intB, ↓W_absI, ↓W_max2, ↓W_min2, ↓W_tupCl, ↓W_tupCr, ↓W_tupCt, ↓W_lstCf, ↓W_lstCl, ↓W_truL, ↓W_truT, ↓W_truB, ↓W_yesT, ↓W_itR0, ↓W_itRs, ↓H82.W_defC, ↓W_dget_hit, ↓W_dget_miss, ↓W_eqs_t, ↓W_eqs_f, ↓W_nes_t, ↓W_nes_f, ↓W_isiST, ↓W_isiIT, ↓W_isiTT, ↓W_isiIS, ↓W_isiIB, ↓W_isiII, ↓W_memT', ↓W_listRg2M, ↓W_rng2I, ↓RNG2_i, ↓W_lstAt_end, ↓W_apps, ↓W_app_end, ↓W_memLd, ↓W_notMemLd, ↓MEMD_nil, ↓MEMD_hit, ↓MEMD_miss, List.length_cons, List.length_nil, List.length_map, Nat.reduceAdd, Nat.reduceLT, Nat.reduceLeDiff, Nat.zero_add, List.append_nil, List.nil_append, List.cons_append, Nat.reduceBEq, Int.reduceBEq, Nat.reduceEqDiff, beq_self_eq_true, true_and, and_true, Bool.not_true, Bool.not_false, Bool.or_true, Bool.true_or, H82.sm1, H82.sm2, H82.sm3, H82.p18, ne_eq, not_false_eq_true, Int.reduceEq, reduceCtorEq, List.isEmpty_nil, List.isEmpty_cons, List.all_cons, List.all_nil, isSym_s, List.any_cons, List.any_nil, eqv_sym, Bool.or_false, Bool.false_or, Bool.and_self, Int.reduceLT, Int.reduceAdd, Int.reduceSub, decide_true, decide_false, ↓sc_names, ↓sc_shared, ↓sc_privates, ↓sc_fields, ↓sc_slots, ↓sc_program, ↓sc_calls, sNm_e, sSh_e, sNm_l, sSh_l, bigN])
mutual
def brkOf : Stm → Nat → List Nat
  | .cond _ y n, a => brks y (a + 1) ++ (match n with
    | [] => []
    | _ :: _ => brks n (a + 1 + longs y + 1))
  | .loop _, _ => []
  | .brk, a => [a]
  | .row _, _ => []
def brks : List Stm → Nat → List Nat
  | [], _ => []
  | s :: ss, a => brkOf s a ++ brks ss (a + longOf s)
end
def patch (l : List Ins) (ps : List Nat) (x : Ins) : List Ins := ps.foldl (fun l p => l.set p x) l
theorem patch_app {l : List Ins} {a b : List Nat} {x : Ins} : patch l (a ++ b) x = patch (patch l a x) b x := List.foldl_append
mutual
theorem patch_one : ∀ (s : Stm) (pre tl : List Ins) (o : Nat), patch (pre ++ codeOf s pre.length 0 ++ tl) (brkOf s pre.length) (.jmp o) = pre ++ codeOf s pre.length o ++ tl
  | .cond t y n, pre, tl, o => by
    unfold codeOf brkOf
    rw [patch_app]
    cases n with
    | nil =>
      have h := patch_all y (pre ++ [.unl t (pre.length + 1 + longs y + dl [])]) tl o
      simp only [List.length_append, List.length_singleton] at h
      simp only [List.append_nil, List.append_assoc, List.cons_append, List.nil_append] at h ⊢
      rw [h]; rfl
    | cons z n =>
      have hd : dl (z :: n) = 1 := if_pos (Nat.zero_lt_succ _)
      rw [hd]
      have h := patch_all y (pre ++ [.unl t (pre.length + 1 + longs y + 1)]) (.jmp (pre.length + 1 + longs y + 1 + longs (z :: n)) :: (codes (z :: n) (pre.length + 1 + longs y + 1) 0 ++ tl)) o
      simp only [List.length_append, List.length_singleton] at h
      have h2 := patch_all (z :: n) (pre ++ [.unl t (pre.length + 1 + longs y + 1)] ++ codes y (pre.length + 1) o ++ [.jmp (pre.length + 1 + longs y + 1 + longs (z :: n))]) tl o
      simp only [List.length_append, List.length_singleton, codes_len] at h2
      simp only [List.append_assoc, List.cons_append, List.nil_append] at h h2 ⊢
      rw [h, h2]
  | .loop b, pre, tl, o => by
    unfold codeOf brkOf
    rfl
  | .brk, pre, tl, o => by
    unfold codeOf brkOf
    show (pre ++ [Ins.jmp 0] ++ tl).set pre.length (.jmp o) = pre ++ [Ins.jmp o] ++ tl
    rw [List.append_assoc, List.set_append_right _ _ (Nat.le_refl _)]
    simp
  | .row d, pre, tl, o => by
    unfold codeOf brkOf
    rfl
theorem patch_all : ∀ (ss : List Stm) (pre tl : List Ins) (o : Nat), patch (pre ++ codes ss pre.length 0 ++ tl) (brks ss pre.length) (.jmp o) = pre ++ codes ss pre.length o ++ tl
  | [], pre, tl, o => by
    unfold codes brks
    rfl
  | s :: ss, pre, tl, o => by
    unfold codes brks
    rw [patch_app]
    have h := patch_one s pre (codes ss (pre.length + longOf s) 0 ++ tl) o
    have h2 := patch_all ss (pre ++ codeOf s pre.length o) tl o
    rw [List.length_append, codeOf_len] at h2
    simp only [List.append_assoc] at h h2 ⊢
    rw [h, h2]
end
/-! two lists of the store -/
def S2 (s : Store) (c b : Nat) (u v : List D) : Store := (s.set c (.lst u)).set b (.lst v)
structure At2 (s : Store) (c b : Nat) : Prop where
  lc : c < s.length
  lb : b < s.length
  ne : c ≠ b
section
variable {s : Store} {c b : Nat} {u v u' v' : List D}
theorem S2_c (h : At2 s c b) : (S2 s c b u v)[c]? = some (.lst u) := by
  unfold S2
  rw [List.getElem?_set_ne (Ne.symm h.ne), List.getElem?_set_self h.lc]
theorem S2_b (h : At2 s c b) : (S2 s c b u v)[b]? = some (.lst v) := by
  unfold S2
  rw [List.getElem?_set_self (by rw [List.length_set]; exact h.lb)]
theorem S2_setc (h : At2 s c b) : (S2 s c b u v).set c (.lst u') = S2 s c b u' v := by
  unfold S2
  rw [List.set_comm _ _ (Ne.symm h.ne), List.set_set]
theorem S2_setb : (S2 s c b u v).set b (.lst v') = S2 s c b u v' := by
  unfold S2
  rw [List.set_set]
theorem S2_len : (S2 s c b u v).length = s.length := by
  unfold S2
  rw [List.length_set, List.length_set]
theorem CL_set {s : Store} {i : Nat} {o : MObj} (h : CL s) (ho : cloO 0 o = true) : CL (s.set i o) := by
  refine List.all_eq_true.mpr fun x hx => ?_
  rcases List.mem_or_eq_of_mem_set hx with hx | rfl
  · exact List.all_eq_true.mp h x hx
  · exact ho
theorem S2_CL (h : CL s) (hu : Mn.clos 0 u = true) (hv : Mn.clos 0 v = true) : CL (S2 s c b u v) := CL_set (CL_set h hu) hv
theorem S2_id (h1 : s[c]? = some (.lst u)) (h2 : s[b]? = some (.lst v)) : S2 s c b u v = s := by
  have set_id : ∀ {s : Store} {i : Nat} {o : MObj}, s[i]? = some o → s.set i o = s := fun {s i o} h => by
    obtain ⟨hl, e⟩ := List.getElem?_eq_some_iff.mp h
    rw [← e]
    exact List.set_getElem_self hl
  unfold S2
  rw [set_id h1, set_id h2]
end
def nats (l : List Nat) : List D := l.map fun (n : Nat) => D.int (n : Int)
theorem nats_app (a b : List Nat) : nats (a ++ b) = nats a ++ nats b := List.map_append
theorem nats_clo (l : List Nat) : Mn.clos 0 (nats l) = true := clos_iff.mpr fun d hd => by
  obtain ⟨n, _, rfl⟩ := List.mem_map.mp hd
  rfl
/-- code that is closed -/
def CI (l : List Ins) : Prop := Mn.clos 0 (encIs l) = true
theorem CI_app {a b : List Ins} (ha : CI a) (hb : CI b) : CI (a ++ b) := by
  unfold CI
  rw [encIs_app]
  refine clos_iff.mpr fun d hd => ?_
  rcases List.mem_append.mp hd with hd | hd
  · exact clos_iff.mp ha d hd
  · exact clos_iff.mp hb d hd
theorem encIs_set {l : List Ins} {i : Nat} {x : Ins} : (encIs l).set i (encI x) = encIs (l.set i x) := List.map_set.symm
theorem set_mid {a b : List Ins} {x y : Ins} : (a ++ x :: b).set a.length y = a ++ y :: b := by
  rw [List.set_append_right _ _ (Nat.le_refl _)]
  simp
section
variable {s : Store} {c b : Nat} {u v : List D} {d : D}
theorem s2_c (h : At2 s c b) {Q : List D → Prop} : W (lstAt (S2 s c b u v) c) Q ↔ Q u := lstAt_at (S2_c h)
theorem s2_b (h : At2 s c b) {Q : List D → Prop} : W (lstAt (S2 s c b u v) b) Q ↔ Q v := lstAt_at (S2_b h)
theorem s2_len (h : At2 s c b) {Q : D → Prop} : W (lenF (S2 s c b u v) (.ref c)) Q ↔ Q (.int u.length) := len_at (S2_c h)
theorem s2_app (h : At2 s c b) {Q : D × Store → Prop} : W (appendO (.ref c) [d] (S2 s c b u v)) Q ↔ u.length < bigN ∧ Q (.non, S2 s c b (u ++ [d]) v) := by
  rw [append_at (S2_c h), S2_setc h]
theorem s2_appb (h : At2 s c b) {Q : D × Store → Prop} : W (appendO (.ref b) [d] (S2 s c b u v)) Q ↔ v.length < bigN ∧ Q (.non, S2 s c b u (v ++ [d])) := by
  rw [append_at (S2_b h), S2_setb]
theorem s2_set (h : At2 s c b) {k : Int} {Q : Store → Prop} : W (setO (.ref c) (.int k) d (S2 s c b u v)) Q ↔ IXN u.length k fun j => Q (S2 s c b (u.set j d) v) := by
  rw [setO_at (S2_c h)]
  unfold IXN
  simp only [S2_setc h]
end
def ABSpec (C : List V) (n : Nat) : Prop := ∀ (lp : Bool) (k : Nat) (_ : 2 * n + 1 ≤ k) (ss : List Stm) (_ : WFs lp n ss) (acc : List Ins) (_ : CI acc) (bs : List Nat) (_ : acc.length + 2 * manys ss ≤ 10000) (_ : bs.length + manys ss ≤ 10000) (s : Store) (c b : Nat) (_ : At2 s c b) (_ : CL s),
    W (runP (pg C) k j_add_body [.ref c, .tup (encs ss), .ref b] (S2 s c b (encIs acc) (nats bs))) fun q => q = (.non, S2 s c b (encIs (acc ++ codes ss acc.length 0)) (nats (bs ++ brks ss acc.length)))
theorem ci_unl {t : D} {n : Nat} (h : Cl t) : CI [.unl t n] := by
  show ((true && (clo 0 t && (true && true))) && true) = true
  rw [show clo 0 t = true from h]; rfl
theorem ci_jmp {n : Nat} : CI [.jmp n] := rfl
mutual
theorem brkOf_len : ∀ (s : Stm) (a : Nat), (brkOf s a).length ≤ many s
  | .cond t y n, a => by
    unfold brkOf many
    have h1 := brks_len y (a + 1)
    cases n with
    | nil => simp only [List.length_append, List.length_nil]; omega
    | cons z n =>
      have h2 := brks_len (z :: n) (a + 1 + longs y + 1)
      simp only [List.length_append]; omega
  | .loop b, a => by unfold brkOf; exact Nat.zero_le _
  | .brk, a => by unfold brkOf many; exact Nat.le_refl 1
  | .row d, a => by unfold brkOf; exact Nat.zero_le _
theorem brks_len : ∀ (ss : List Stm) (a : Nat), (brks ss a).length ≤ manys ss
  | [], _ => Nat.zero_le _
  | s :: ss, a => by
    unfold brks manys
    have h1 := brkOf_len s a
    have h2 := brks_len ss (a + longOf s)
    rw [List.length_append]; omega
end
theorem choice_ok (C : List V) {n : Nat} (ih : ABSpec C n) {lp : Bool} {k : Nat} (hk : 2 * n + 2 ≤ k) {t : D} {y no : List Stm} (ht : Cl t) (hy : WFs lp n y) (hno : WFs lp n no) {acc : List Ins} (ha : CI acc) {bs : List Nat} (hl : acc.length + 2 * many (.cond t y no) ≤ 10000) (hb : bs.length + many (.cond t y no) ≤ 10000) {s : Store} {c b : Nat} (h2 : At2 s c b) (hs : CL s) :
    W (runP (pg C) k j_add_choice [.ref c, enc (.cond t y no), .ref b] (S2 s c b (encIs acc) (nats bs))) fun q => q = (.non, S2 s c b (encIs (acc ++ codeOf (.cond t y no) acc.length 0)) (nats (bs ++ brkOf (.cond t y no) acc.length))) := by
  obtain ⟨k, rfl⟩ := Nat.exists_eq_add_of_le' (show 1 ≤ k by omega)
  have hm : many (.cond t y no) = 1 + manys y + manys no := by simp only [many]
  have hly := longs_le y
  have hln := longs_le no
  have hbl := brks_len y (acc.length + 1)
  refine r_add_choice ?_
  unfold m_add_choice
  simp? [enc, ↓s2_c h2, ↓s2_b h2, ↓s2_len h2, ↓s2_app h2, ↓s2_appb h2, ↓s2_set h2]
  have e1 : encIs acc ++ [D.tup [.sym 9, t, .int 0]] = encIs (acc ++ [.unl t 0]) := by rw [encIs_app]; rfl
  rw [e1, encIs_len]
  refine ⟨by omega, ?_⟩
  refine (ih lp k (by omega) y hy (acc ++ [.unl t 0]) (CI_app ha (ci_unl ht)) bs (by rw [List.length_append, List.length_singleton]; omega) (by omega) s c b h2 hs).mono ?_
  rintro q rfl
  simp? [↓s2_c h2, ↓s2_b h2, ↓s2_len h2, ↓s2_app h2, ↓s2_appb h2, ↓s2_set h2]
  have hA : (acc ++ [Ins.unl t 0]).length = acc.length + 1 := by rw [List.length_append, List.length_singleton]
  have hset : ∀ (m : Nat) (tl : List Ins), (encIs (acc ++ [Ins.unl t 0] ++ tl)).set acc.length (D.tup [.sym 9, t, .int (m : Int)]) = encIs (acc ++ [Ins.unl t m] ++ tl) := fun m tl => by
    rw [show D.tup [.sym 9, t, .int (m : Int)] = encI (.unl t m) from rfl, encIs_set, List.append_assoc, List.append_assoc]
    show encIs ((acc ++ (Ins.unl t 0 :: tl)).set acc.length _) = _
    rw [set_mid]; rfl
  have hcy : CI (codes y (acc.length + 1) 0) := codes_clo n y hy _ _
  rw [hA]
  cases no with
  | nil =>
    refine br_e (fun _ => ?_) fun h => absurd rfl h
    have hl2 : (acc ++ [Ins.unl t 0] ++ codes y (acc.length + 1) 0).length = acc.length + 1 + longs y := by simp only [List.length_append, codes_len, List.length_singleton]
    rw [encIs_len, hl2]
    refine ⟨by omega, ?_⟩
    rw [hset]
    refine exitC0 (by rw [S2_len, S2_len]) (S2_CL hs (CI_app (CI_app ha (ci_unl ht)) hcy) (nats_clo _)) rfl ?_
    have e : acc ++ codeOf (.cond t y []) acc.length 0 = acc ++ [Ins.unl t (acc.length + 1 + longs y)] ++ codes y (acc.length + 1) 0 := by
      unfold codeOf dl
      simp
    have e' : brkOf (.cond t y []) acc.length = brks y (acc.length + 1) := by
      unfold brkOf
      simp
    rw [e, e']
  | cons z no =>
    refine br_e (fun h => absurd h (by rw [encs_len, List.length_cons]; omega)) fun _ => ?_
    have hd : dl (z :: no) = 1 := if_pos (Nat.zero_lt_succ _)
    have e3 : encIs (acc ++ [Ins.unl t 0] ++ codes y (acc.length + 1) 0) ++ [D.tup [.sym 10, .int 0]] = encIs (acc ++ [Ins.unl t 0] ++ (codes y (acc.length + 1) 0 ++ [.jmp 0])) := by simp [encIs, encI]
    have hl2 : (acc ++ [Ins.unl t 0] ++ codes y (acc.length + 1) 0).length = acc.length + 1 + longs y := by simp only [List.length_append, codes_len, List.length_singleton]
    have hl3 : (acc ++ [Ins.unl t 0] ++ (codes y (acc.length + 1) 0 ++ [Ins.jmp 0])).length = acc.length + 1 + longs y + 1 := by simp only [List.length_append, codes_len, List.length_singleton]; omega
    have hl4 : ∀ m, (acc ++ [Ins.unl t m] ++ (codes y (acc.length + 1) 0 ++ [Ins.jmp 0])).length = acc.length + 1 + longs y + 1 := fun m => by simp only [List.length_append, codes_len, List.length_singleton]; omega
    rw [e3, hset, encIs_len, encIs_len, hl2, hl3]
    refine ⟨by omega, by omega, ?_⟩
    have hc4 : CI (acc ++ [Ins.unl t (acc.length + 1 + longs y + 1)] ++ (codes y (acc.length + 1) 0 ++ [.jmp 0])) := CI_app (CI_app ha (ci_unl ht)) (CI_app hcy ci_jmp)
    refine (ih lp k (by omega) (z :: no) hno _ hc4 (bs ++ brks y (acc.length + 1)) (by rw [hl4]; omega) (by rw [List.length_append]; omega) s c b h2 hs).mono ?_
    rintro q rfl
    have hcn : CI (codes (z :: no) (acc.length + 1 + longs y + 1) 0) := codes_clo n (z :: no) hno _ _
    rw [hl4]
    have hl5 : (acc ++ [Ins.unl t (acc.length + 1 + longs y + 1)] ++ (codes y (acc.length + 1) 0 ++ [Ins.jmp 0]) ++ codes (z :: no) (acc.length + 1 + longs y + 1) 0).length = acc.length + 1 + longs y + 1 + longs (z :: no) := by simp only [List.length_append, codes_len, List.length_singleton]; omega
    simp? [↓s2_c h2, ↓s2_b h2, ↓s2_len h2, ↓s2_app h2, ↓s2_appb h2, ↓s2_set h2]
    rw [encIs_len, hl5]
    refine ⟨by omega, ?_⟩
    have e6 : (encIs (acc ++ [Ins.unl t (acc.length + 1 + longs y + 1)] ++ (codes y (acc.length + 1) 0 ++ [Ins.jmp 0]) ++ codes (z :: no) (acc.length + 1 + longs y + 1) 0)).set (acc.length + 1 + longs y) (D.tup [.sym 10, .int ((acc.length + 1 + longs y + 1 + longs (z :: no) : Nat) : Int)])
        = encIs (acc ++ codeOf (.cond t y (z :: no)) acc.length 0) := by
      rw [show D.tup [.sym 10, .int ((acc.length + 1 + longs y + 1 + longs (z :: no) : Nat) : Int)] = encI (.jmp (acc.length + 1 + longs y + 1 + longs (z :: no))) from rfl, encIs_set]
      have e7 : acc ++ [Ins.unl t (acc.length + 1 + longs y + 1)] ++ (codes y (acc.length + 1) 0 ++ [Ins.jmp 0]) ++ codes (z :: no) (acc.length + 1 + longs y + 1) 0 = (acc ++ [Ins.unl t (acc.length + 1 + longs y + 1)] ++ codes y (acc.length + 1) 0) ++ Ins.jmp 0 :: codes (z :: no) (acc.length + 1 + longs y + 1) 0 := by simp
      have e8 : acc.length + 1 + longs y = (acc ++ [Ins.unl t (acc.length + 1 + longs y + 1)] ++ codes y (acc.length + 1) 0).length := by simp only [List.length_append, codes_len, List.length_singleton]
      rw [e7]
      conv => lhs; arg 1; arg 2; rw [e8]
      rw [set_mid]
      unfold codeOf
      rw [hd]
      simp
    have e9 : bs ++ brks y (acc.length + 1) ++ brks (z :: no) (acc.length + 1 + longs y + 1) = bs ++ brkOf (.cond t y (z :: no)) acc.length := by
      rw [List.append_assoc]
      unfold brkOf
      rfl
    rw [e6, e9]
    refine exitC0 (by rw [S2_len, S2_len]) (S2_CL hs (CI_app ha (codeOf_clo (n + 1) (.cond t y (z :: no)) ⟨ht, hy, hno⟩ _ _)) (nats_clo _)) rfl rfl
theorem S2_end {s : Store} {c : Nat} {x : MObj} {u v : List D} (hc : c < s.length) : S2 (s ++ [x]) c s.length u v = s.set c (.lst u) ++ [.lst v] := by
  unfold S2
  rw [List.set_append_left _ _ hc, List.set_append_right _ _ (by rw [List.length_set]; exact Nat.le_refl _)]
  simp
theorem patch_len : ∀ (ps : List Nat) (l : List Ins) (x : Ins), (patch l ps x).length = l.length
  | [], _, _ => rfl
  | p :: ps, l, x => by
    show (patch (l.set p x) ps x).length = l.length
    rw [patch_len ps, List.length_set]
mutual
theorem brkOf_lt : ∀ (s : Stm) (a : Nat), ∀ p ∈ brkOf s a, p < a + longOf s
  | .cond t y n, a, p, hp => by
    unfold brkOf at hp
    unfold longOf
    rcases List.mem_append.mp hp with hp | hp
    · have := brks_lt y (a + 1) p hp
      omega
    · cases n with
      | nil => exact absurd hp (by simp)
      | cons z n =>
        have := brks_lt (z :: n) (a + 1 + longs y + 1) p hp
        rw [if_pos (show (z :: n).length > 0 from Nat.zero_lt_succ _)]
        omega
  | .loop b, a, p, hp => by unfold brkOf at hp; exact absurd hp (by simp)
  | .brk, a, p, hp => by
    unfold brkOf at hp
    unfold longOf
    rw [List.mem_singleton.mp hp]; omega
  | .row d, a, p, hp => by unfold brkOf at hp; exact absurd hp (by simp)
theorem brks_lt : ∀ (ss : List Stm) (a : Nat), ∀ p ∈ brks ss a, p < a + longs ss
  | [], a, p, hp => absurd hp (by simp [brks])
  | s :: ss, a, p, hp => by
    unfold brks at hp
    unfold longs
    rcases List.mem_append.mp hp with hp | hp
    · have := brkOf_lt s a p hp
      omega
    · have := brks_lt ss (a + longOf s) p hp
      omega
end
theorem patch_ci {m : Nat} : ∀ (ps : List Nat) (l : List Ins), CI l → CI (patch l ps (.jmp m))
  | [], _, h => h
  | p :: ps, l, h => patch_ci ps (l.set p (.jmp m)) (by
    unfold CI
    rw [← encIs_set]
    refine clos_iff.mpr fun d hd => ?_
    rcases List.mem_or_eq_of_mem_set hd with hd | rfl
    · exact clos_iff.mp h d hd
    · rfl)
theorem loop_ok (C : List V) {n : Nat} (ih : ABSpec C n) {k : Nat} (hk : 2 * n + 2 ≤ k) {b : List Stm} (hw : WFs true n b) {acc : List Ins} (ha : CI acc) (hl : acc.length + 2 * many (.loop b) ≤ 10000) {s : Store} {c : Nat} (hc : s[c]? = some (.lst (encIs acc))) (hs : CL s) :
    W (runP (pg C) k j_add_loop [.ref c, .tup (encs b)] s) fun q => q = (.non, s.set c (.lst (encIs (acc ++ codeOf (.loop b) acc.length 0)))) := by
  obtain ⟨k, rfl⟩ := Nat.exists_eq_add_of_le' (show 1 ≤ k by omega)
  have hm : many (.loop b) = 1 + manys b := by simp only [many]
  have hlb := longs_le b
  have hcl : c < s.length := (List.getElem?_eq_some_iff.mp hc).1
  have h2 : At2 (s ++ [MObj.lst []]) c s.length := ⟨by rw [List.length_append]; omega, by rw [List.length_append, List.length_singleton]; omega, by omega⟩
  have hs2 : CL (s ++ [MObj.lst []]) := CL_app.mpr ⟨hs, CL_cons.mpr ⟨rfl, CL_nil⟩⟩
  refine r_add_loop ?_
  unfold m_add_loop
  simp? [↓len_at hc]
  have e0 : s ++ [MObj.lst []] = S2 (s ++ [MObj.lst []]) c s.length (encIs acc) (nats []) := (S2_id (by rw [List.getElem?_append_left hcl]; exact hc) (by rw [List.getElem?_append_right (Nat.le_refl _)]; simp [nats])).symm
  rw [e0]
  refine (ih true k (by omega) b hw acc ha [] (by omega) (by show 0 + manys b ≤ 10000; omega) _ c s.length h2 hs2).mono ?_
  rintro q rfl
  simp? [↓s2_c h2, ↓s2_b h2, ↓s2_len h2, ↓s2_app h2, ↓s2_appb h2, ↓s2_set h2]
  have hL : encIs (acc ++ codes b acc.length 0) ++ [D.tup [.sym 10, .int ((encIs acc).length : Int)]] = encIs (acc ++ codes b acc.length 0 ++ [.jmp acc.length]) := by rw [encIs_len, encIs_app (acc ++ codes b acc.length 0)]; rfl
  rw [hL]
  have hLl : (acc ++ codes b acc.length 0 ++ [Ins.jmp acc.length]).length = acc.length + longs b + 1 := by simp only [List.length_append, codes_len, List.length_singleton]
  have hLc : CI (acc ++ codes b acc.length 0 ++ [Ins.jmp acc.length]) := CI_app (CI_app ha (codes_clo n b hw _ _)) ci_jmp
  have hfin : patch (acc ++ codes b acc.length 0 ++ [Ins.jmp acc.length]) (brks b acc.length) (.jmp (acc.length + longs b + 1)) = acc ++ codeOf (.loop b) acc.length 0 := by
    rw [patch_all b acc [.jmp acc.length] (acc.length + longs b + 1)]
    unfold codeOf
    rw [List.append_assoc]
  have hlt := brks_lt b acc.length
  generalize hps : brks b acc.length = ps at hfin hlt ⊢
  generalize acc ++ codes b acc.length 0 ++ [Ins.jmp acc.length] = L at hfin hLl hLc ⊢
  refine ⟨by rw [encIs_len, List.length_append, codes_len]; omega, ?_⟩
  obtain ⟨J, hJ⟩ : ∃ J : List D → Mn.Env → Store → Prop, J = fun r env st => ∃ (done rest : List Nat) (x : Option D), env = [some (D.ref c), some (D.tup (encs b)), some (D.int ↑(encIs acc).length), some (D.ref (List.length s)), x] ∧ st = S2 (s ++ [MObj.lst []]) c s.length (encIs (patch L done (.jmp (acc.length + longs b + 1)))) (nats ps) ∧ r = nats rest ∧ ps = done ++ rest := ⟨_, rfl⟩
  refine forL_W J ?_ ?_ _ _ _ (by rw [hJ]; exact ⟨[], ps, none, rfl, rfl, rfl, rfl⟩)
  · intro e r env st h
    rw [hJ] at h
    obtain ⟨done, rest, x, rfl, rfl, hr, hp⟩ := h
    cases rest with
    | nil => cases hr
    | cons p rest =>
      obtain ⟨rfl, rfl⟩ := List.cons.inj (show e :: r = D.int (p : Int) :: nats rest from hr)
      have hpl : p < acc.length + longs b := hlt p (by rw [hp]; simp)
      refine ⟨decide_eq_true (S2_b h2), ?_⟩
      simp? [↓s2_c h2, ↓s2_b h2, ↓s2_len h2, ↓s2_app h2, ↓s2_appb h2, ↓s2_set h2]
      rw [encIs_len, patch_len, hLl]
      refine ⟨by omega, ?_⟩
      rw [hJ]
      refine ⟨done ++ [p], rest, _, rfl, ?_, rfl, by rw [hp]; simp⟩
      rw [patch_app]
      rw [show D.tup [.sym 10, .int ((acc.length + longs b + 1 : Nat) : Int)] = encI (.jmp (acc.length + longs b + 1)) from rfl, encIs_set]
      rfl
  · intro env st h
    rw [hJ] at h
    obtain ⟨done, rest, x, rfl, rfl, hr, hp⟩ := h
    cases rest with
    | cons p rest => cases hr
    | nil =>
      rw [List.append_nil] at hp
      subst hp
      refine ⟨decide_eq_true (S2_b h2), ?_⟩
      simp? [true_and]
      rw [hfin, S2_end hcl]
      have hcc : CI (acc ++ codeOf (.loop b) acc.length 0) := by rw [← hfin]; exact patch_ci _ _ hLc
      exact exitC (by rw [List.length_set]) (CL_set hs hcc) rfl rfl
theorem codes_cons {s : Stm} {ss : List Stm} {p o : Nat} : codes (s :: ss) p o = codeOf s p o ++ codes ss (p + longOf s) o := by simp only [codes]
theorem longs_cons {s : Stm} {ss : List Stm} : longs (s :: ss) = longOf s + longs ss := by simp only [longs]
theorem brks_cons {s : Stm} {ss : List Stm} {p : Nat} : brks (s :: ss) p = brkOf s p ++ brks ss (p + longOf s) := by simp only [brks]
theorem codes_app : ∀ (a b : List Stm) (p o : Nat), codes (a ++ b) p o = codes a p o ++ codes b (p + longs a) o
  | [], b, p, o => by simp [codes, longs]
  | s :: ss, b, p, o => by rw [List.cons_append, codes_cons, codes_cons, codes_app ss b, List.append_assoc, longs_cons, Nat.add_assoc]
theorem brks_app : ∀ (a b : List Stm) (p : Nat), brks (a ++ b) p = brks a p ++ brks b (p + longs a)
  | [], b, p => by simp [brks, longs]
  | s :: ss, b, p => by rw [List.cons_append, brks_cons, brks_cons, brks_app ss b, List.append_assoc, longs_cons, Nat.add_assoc]
theorem ab_step (C : List V) (n : Nat) (ih : ∀ m, m < n → ABSpec C m) : ABSpec C n := by
    intro lp k hk ss hw acc ha bs hl hb s c b h2 hs
    obtain ⟨k, rfl⟩ := Nat.exists_eq_add_of_le' (show 1 ≤ k by omega)
    refine r_add_body ?_
    unfold m_add_body
    simp? [true_and]
    obtain ⟨J, hJ⟩ : ∃ J : List D → Mn.Env → Store → Prop, J = fun r env st => ∃ (done rest : List Stm) (x : Option D), env = [some (.ref c), some (.tup (encs ss)), some (.ref b), x] ∧ st = S2 s c b (encIs (acc ++ codes done acc.length 0)) (nats (bs ++ brks done acc.length)) ∧ r = encs rest ∧ ss = done ++ rest := ⟨_, rfl⟩
    refine forL_W J ?_ ?_ _ _ _ (by rw [hJ]; exact ⟨[], ss, none, rfl, by simp [codes, brks], rfl, rfl⟩)
    · intro e r env st h
      rw [hJ] at h
      obtain ⟨done, rest, x, rfl, rfl, hr, hss⟩ := h
      cases rest with
      | nil => cases hr
      | cons s0 rest =>
        obtain ⟨rfl, rfl⟩ := List.cons.inj (show e :: r = enc s0 :: encs rest from hr)
        have hwa : WFs lp n (done ++ s0 :: rest) := by rw [← hss]; exact hw
        have hwd : WFs lp n done := (WFs_app.mp hwa).1
        have hw0 : WF lp n s0 := (show WF lp n s0 ∧ WFs lp n rest from (WFs_app.mp hwa).2).1
        have hms : manys done + (many s0 + manys rest) = manys ss := by rw [hss, manys_app]; rfl
        have hld := longs_le done
        have hbd := brks_len done acc.length
        have hcd : CI (acc ++ codes done acc.length 0) := CI_app ha (codes_clo n done hwd _ _)
        have hal : (acc ++ codes done acc.length 0).length = acc.length + longs done := by rw [List.length_append, codes_len]
        have fin : ∀ (x : Option D), J (encs rest) [some (.ref c), some (.tup (encs ss)), some (.ref b), x] (S2 s c b (encIs (acc ++ codes done acc.length 0 ++ codeOf s0 (acc.length + longs done) 0)) (nats (bs ++ brks done acc.length ++ brkOf s0 (acc.length + longs done)))) := fun x => by
          rw [hJ]
          refine ⟨done ++ [s0], rest, x, rfl, ?_, rfl, by rw [hss]; simp⟩
          rw [codes_app, brks_app]
          simp [codes, brks]
        refine ⟨rfl, ?_⟩
        cases s0 with
        | cond t y no =>
          cases n with
          | zero => exact hw0.elim
          | succ n =>
            simp? [enc]
            refine (choice_ok C (ih n (Nat.lt_succ_self n)) (by omega) hw0.1 hw0.2.1 hw0.2.2 hcd (bs := bs ++ brks done acc.length) (by rw [hal]; omega) (by rw [List.length_append]; omega) h2 hs).mono ?_
            rintro q rfl
            rw [hal]
            exact fin _
        | loop bb =>
          cases n with
          | zero => exact hw0.elim
          | succ n =>
            simp? [enc]
            refine (loop_ok C (ih n (Nat.lt_succ_self n)) (by omega) hw0.2 hcd (by rw [hal]; omega) (S2_c h2) (S2_CL hs hcd (nats_clo _))).mono ?_
            rintro q rfl
            rw [S2_setc h2, hal]
            have e : bs ++ brks done acc.length = bs ++ brks done acc.length ++ brkOf (.loop bb) (acc.length + longs done) := by unfold brkOf; rw [List.append_nil]
            have := fin (some (enc (.loop bb)))
            rw [← e] at this
            exact this
        | brk =>
          simp? [enc, ↓s2_c h2, ↓s2_b h2, ↓s2_len h2, ↓s2_app h2, ↓s2_appb h2, ↓s2_set h2]
          have hmb : many .brk = 1 := by simp only [many]
          rw [encIs_len, hal]
          refine ⟨by show (nats _).length < _; unfold nats; rw [List.length_map, List.length_append]; omega, by omega, ?_⟩
          have := fin (some (enc .brk))
          have e1 : encIs (acc ++ codes done acc.length 0) ++ [D.tup [.sym 10, .int 0]] = encIs (acc ++ codes done acc.length 0 ++ codeOf .brk (acc.length + longs done) 0) := by rw [encIs_app (acc ++ _)]; unfold codeOf; rfl
          have e2 : nats (bs ++ brks done acc.length) ++ [D.int ((acc.length + longs done : Nat) : Int)] = nats (bs ++ brks done acc.length ++ brkOf .brk (acc.length + longs done)) := by rw [nats_app (bs ++ _)]; unfold brkOf; rfl
          rw [e1, e2]
          exact this
        | row d0 =>
          obtain ⟨w, hw1, r, rfl, hcl⟩ := wf_row.mp hw0
          obtain ⟨n1, n2, n3, _⟩ := rowWord_ne hw1
          simp? [enc, n1, n2, n3, ↓s2_c h2, ↓s2_b h2, ↓s2_len h2, ↓s2_app h2, ↓s2_appb h2, ↓s2_set h2]
          have hmb : many (.row (.tup (.sym w :: r))) = 1 := by simp only [many]
          rw [encIs_len, hal]
          refine ⟨by omega, ?_⟩
          have := fin (some (.tup (.sym w :: r)))
          have e1 : encIs (acc ++ codes done acc.length 0) ++ [D.tup (.sym w :: r)] = encIs (acc ++ codes done acc.length 0 ++ codeOf (.row (.tup (.sym w :: r))) (acc.length + longs done) 0) := by rw [encIs_app (acc ++ _)]; unfold codeOf; rfl
          have e2 : nats (bs ++ brks done acc.length) = nats (bs ++ brks done acc.length ++ brkOf (.row (.tup (.sym w :: r))) (acc.length + longs done)) := by unfold brkOf; rw [List.append_nil]
          rw [e1, e2]
          exact this
    · intro env st h
      rw [hJ] at h
      obtain ⟨done, rest, x, rfl, rfl, hr, hss⟩ := h
      cases rest with
      | cons s0 rest => cases hr
      | nil =>
        rw [List.append_nil] at hss
        subst hss
        refine ⟨rfl, ?_⟩
        simp? [true_and]
        exact exitC0 (by rw [S2_len, S2_len]) (S2_CL hs (CI_app ha (codes_clo n ss hw _ _)) (nats_clo _)) rfl rfl
theorem ab_ok (C : List V) (n : Nat) : ABSpec C n := Nat.strongRecOn n (ab_step C)
theorem translated_ok (C : List V) {n k : Nat} (hk : 2 * n + 2 ≤ k) {ss : List Stm} (hw : WFs false n ss) (hm : manys ss ≤ 1000) {st : Store} (hs : CL st) : W (runP (pg C) k j_translated [.tup (encs ss)] st) fun q => q = (.tup (encIs (codes ss 0 0)), st) := by
  obtain ⟨k, rfl⟩ := Nat.exists_eq_add_of_le' (show 1 ≤ k by omega)
  refine r_translated ?_
  unfold m_translated
  simp? [true_and]
  have h2 : At2 (st ++ [MObj.lst []] ++ [MObj.lst []]) st.length (st ++ [MObj.lst []]).length := ⟨by simp, by simp, by simp⟩
  have hs2 : CL (st ++ [MObj.lst []] ++ [MObj.lst []]) := CL_app.mpr ⟨CL_app.mpr ⟨hs, CL_cons.mpr ⟨rfl, CL_nil⟩⟩, CL_cons.mpr ⟨rfl, CL_nil⟩⟩
  have e0 : st ++ [MObj.lst []] ++ [MObj.lst []] = S2 (st ++ [MObj.lst []] ++ [MObj.lst []]) st.length (st ++ [MObj.lst []]).length (encIs []) (nats []) := (S2_id (by simp [encIs]) (by simp [nats])).symm
  rw [e0]
  refine (ab_ok C n false k (by omega) ss hw [] rfl [] (by show 0 + 2 * manys ss ≤ 10000; omega) (by show 0 + manys ss ≤ 10000; omega) _ _ _ h2 hs2).mono ?_
  rintro q rfl
  simp? [↓s2_c h2]
  have e1 : ∀ u v, S2 (st ++ [MObj.lst []] ++ [MObj.lst []]) st.length (st ++ [MObj.lst []]).length u v = st ++ [MObj.lst u, .lst v] := fun u v => by
    unfold S2
    simp
  rw [e1]
  exact exitC rfl hs (codes_clo n ss hw _ _) rfl
end H82
set_option Elab.async false
set_option linter.all false
set_option maxRecDepth 100000
set_option maxHeartbeats 4000000
set_option autoImplicit false
namespace H82
open PySem PySem.Spec PyProof.Rows L2 Mn
local macro_rules
  | `(tactic| simp? only [$ls,*]) => `(tactic| simp only [$ls,*, ↓br_t, ↓br_f, ↓KS_nx, ↓KS_ret, ↓KS_brk, ↓KS_cnt, ↓LQ_nx, ↓LQ_cnt, ↓LQ_brk, ↓LQ_ret, ↓EX_nx, ↓EX_ret, ↓SETE_0, ↓SETE_s, ↓BL_b, ↓INT_i, ↓KEY_s, ↓NL_0, ↓NL_s, ↓W_lstAt0, ↓W_lstAts, ↓W_at0, ↓W_ats, ↓PAR2_c, ↓PAR3_c, ↓RNG_i, ↓SEQ_l, ↓SEQ_f, ↓SEQ_t, ↓SEQ_r, ↓W_some, ↓W_atI0, ↓W_atI1, ↓W_atI2, ↓W_atI3, ↓W_atI4, ↓W_atI5, ↓W_atI6, ↓W_atI7, ↓W_atI8, ↓W_atI9, ↓W_atI10, ↓W_atI11, ↓W_atI12, ↓W_seqS, ↓W_asgS, ↓W_exprS, ↓W_retS, ↓W_retN, ↓W_brkS, ↓W_cntS, ↓W_nextS, ↓W_ifS, ↓W_forS, ↓W_par2, ↓W_par3, ↓W_nameG, ↓W_tupG, ↓W_consG, ↓W_nilG, ↓W_subG, ↓W_setO0, ↓W_setOs, ↓SETL_0, ↓SETL_s, ↓IXN_0, ↓IXN_1, ↓IXN_2, ↓IXN_3, ↓IXN_nat, ↓W_var0, ↓W_vars, ↓W_cM, ↓W_binM, ↓W_unM, ↓W_negM, ↓W_nilA, ↓W_consA, ↓W_callM, ↓W_tupM, ↓W_lstM, ↓W_lstMt, ↓W_slcM, ↓W_part0, ↓W_parts, ↓W_slOt, ↓W_slOl, ↓W_slOr, ↓W_ifM, ↓W_truM, ↓W_bolM, ↓W_andT, ↓W_orT, ↓W_notT, ↓W_andE, ↓W_orE, ↓W_notE, ↓W_mthL, ↓W_lstFr, ↓W_dctM, ↓W_dctMt, ↓W_nilK, ↓W_consK, ↓W_kwM, ↓W_maxdM, ↓W_sort2M, ↓W_listRgM, ↓W_listRgMt, ↓W_lcM, ↓W_rng1I, ↓W_seqI, ↓W_addI, ↓W_addT, ↓W_addL, ↓W_addLt, ↓W_subI, ↓W_mulI, ↓W_mulL, ↓W_fdiv, ↓W_mod, ↓W_pow, ↓W_cmp, ↓W_is, ↓W_isNot, ↓W_eqi, ↓W_eqis, ↓W_eqb, ↓W_nei, ↓W_neis, ↓W_neb, ↓W_itT, ↓W_itL, ↓W_itF, ↓W_itD, ↓W_one, ↓W_lenL, ↓W_lenT, ↓W_lenF, ↓W_intI, ↓W_intB, ↓W_absI, ↓W_max2, ↓W_min2, ↓W_tupCl, ↓W_tupCr, ↓W_tupCt, ↓W_lstCf, ↓W_lstCl, ↓W_truL, ↓W_truT, ↓W_truB, ↓W_yesT, ↓W_itR0, ↓W_itRs, ↓H82.W_defC, ↓W_dget_hit, ↓W_dget_miss, ↓W_eqs_t, ↓W_eqs_f, ↓W_nes_t, ↓W_nes_f, ↓W_isiST, ↓W_isiIT, ↓W_isiTT, ↓W_isiIS, ↓W_isiIB, ↓W_isiII, ↓W_memT', ↓W_listRg2M, ↓W_rng2I, ↓RNG2_i, ↓W_lstAt_end, ↓W_apps, ↓W_app_end, ↓W_memLd, ↓W_notMemLd, ↓MEMD_nil, ↓MEMD_hit, ↓MEMD_miss, List.length_cons, List.length_nil, List.length_map, Nat.reduceAdd, Nat.reduceLT, Nat.reduceLeDiff, Nat.zero_add, List.append_nil, List.nil_append, List.cons_append, Nat.reduceBEq, Int.reduceBEq, Nat.reduceEqDiff, beq_self_eq_true, true_and, and_true, Bool.not_true, Bool.not_false, Bool.or_true, Bool.true_or, H82.sm1, H82.sm2, H82.sm3, H82.p18, ne_eq, not_false_eq_true, Int.reduceEq, reduceCtorEq, List.isEmpty_nil, List.isEmpty_cons, List.all_cons, List.all_nil, isSym_s, List.any_cons, List.any_nil, eqv_sym, Bool.or_false, Bool.false_or, Bool.and_self, Int.reduceLT, Int.reduceAdd, Int.reduceSub, decide_true, decide_false])
local macro_rules
  | `(tactic| simp? [$ls,*]) => `(tactic| simp only [$ls,*, ↓br_t, ↓br_f, ↓KS_nx, ↓KS_ret, ↓KS_brk, ↓KS_cnt, ↓LQ_nx, ↓LQ_cnt, ↓LQ_brk, ↓LQ_ret, ↓EX_nx, ↓EX_ret, ↓SETE_0, ↓SETE_s, ↓BL_b, ↓INT_i, ↓KEY_s, ↓NL_0, ↓NL_s, ↓W_lstAt0, ↓W_lstAts, ↓W_at0, ↓W_ats, ↓PAR2_c, ↓PAR3_c, ↓RNG_i, ↓SEQ_l, ↓SEQ_f, ↓SEQ_t, ↓SEQ_r, ↓W_some, ↓W_atI0, ↓W_atI1, ↓W_atI2, ↓W_atI3, ↓W_atI4, ↓W_atI5, ↓W_atI6, ↓W_atI7, ↓W_atI8, ↓W_atI9, ↓W_atI10, ↓W_atI11, ↓W_atI12, ↓W_seqS, ↓W_asgS, ↓W_exprS, ↓W_retS, ↓W_retN, ↓W_brkS, ↓W_cntS, ↓W_nextS, ↓W_ifS, ↓W_forS, ↓W_par2, ↓W_par3, ↓W_nameG, ↓W_tupG, ↓W_consG, ↓W_nilG, ↓W_subG, ↓W_setO0, ↓W_setOs, ↓SETL_0, ↓SETL_s, ↓IXN_0, ↓IXN_1, ↓IXN_2, ↓IXN_3, ↓IXN_nat, ↓W_var0, ↓W_vars, ↓W_cM, ↓W_binM, ↓W_unM, ↓W_negM, ↓W_nilA, ↓W_consA, ↓W_callM, ↓W_tupM, ↓W_lstM, ↓W_lstMt, ↓W_slcM, ↓W_part0, ↓W_parts, ↓W_slOt, ↓W_slOl, ↓W_slOr, ↓W_ifM, ↓W_truM, ↓W_bolM, ↓W_andT, ↓W_orT, ↓W_notT, ↓W_andE, ↓W_orE, ↓W_notE, ↓W_mthL, ↓W_lstFr, ↓W_dctM, ↓W_dctMt, ↓W_nilK, ↓W_consK, ↓W_kwM, ↓W_maxdM, ↓W_sort2M, ↓W_listRgM, ↓W_listRgMt, ↓W_lcM, ↓W_rng1I, ↓W_seqI, ↓W_addI, ↓W_addT, ↓W_addL, ↓W_addLt, ↓W_subI, ↓W_mulI, ↓W_mulL, ↓W_fdiv, ↓W_mod, ↓W_pow, ↓W_cmp, ↓W_is, ↓W_isNot, ↓W_eqi, ↓W_eqis, ↓W_eqb, ↓W_nei, ↓W_neis, ↓W_neb, ↓W_itT, ↓W_itL, ↓W_itF, ↓W_itD, ↓W_one, ↓W_lenL, ↓W_lenT, ↓W_lenF, ↓W_intI, ↓W_intB, ↓W_absI, ↓W_max2, ↓W_min2, ↓W_tupCl, ↓W_tupCr, ↓W_tupCt, ↓W_lstCf, ↓W_lstCl, ↓W_truL, ↓W_truT, ↓W_truB, ↓W_yesT, ↓W_itR0, ↓W_itRs, ↓H82.W_defC, ↓W_dget_hit, ↓W_dget_miss, ↓W_eqs_t, ↓W_eqs_f, ↓W_nes_t, ↓W_nes_f, ↓W_isiST, ↓W_isiIT, ↓W_isiTT, ↓W_isiIS, ↓W_isiIB, ↓W_isiII, ↓W_memT', ↓W_listRg2M, ↓W_rng2I, ↓RNG2_i, ↓W_lstAt_end, ↓W_apps, ↓W_app_end, ↓W_memLd, ↓W_notMemLd, ↓MEMD_nil, ↓MEMD_hit, ↓MEMD_miss, List.length_cons, List.length_nil, List.length_map, Nat.reduceAdd, Nat.reduceLT, Nat.reduceLeDiff, Nat.zero_add, List.append_nil, List.nil_append, List.cons_append, Nat.reduceBEq, Int.reduceBEq, Nat.reduceEqDiff, beq_self_eq_true, true_and, and_true, Bool.not_true, Bool.not_false, Bool.or_true, Bool.true_or, H82.sm1, H82.sm2, H82.sm3, H82.p18, ne_eq, not_false_eq_true, Int.reduceEq, reduceCtorEq, List.isEmpty_nil, List.isEmpty_cons, List.all_cons, List.all_nil, isSym_s, List.any_cons, List.any_nil, eqv_sym, Bool.or_false, Bool.false_or, Bool.and_self, Int.reduceLT, Int.reduceAdd, Int.reduceSub, decide_true, decide_false, ↓sc_names, ↓sc_shared, ↓sc_privates, ↓sc_fields, ↓sc_slots, ↓sc_program, ↓sc_calls, sNm_e, sSh_e, sNm_l, sSh_l, bigN])
/-! one instruction -/
def headW : D → Nat
  | .tup (.sym w :: _) => w
  | _ => 0
def isRet : Ins → Bool
  | .row d => headW d == 23
  | _ => false
def cost : Ins → Nat
  | .row d => if headW d == 4 || headW d == 5 || headW d == 23 then 0 else 1
  | _ => 0
/-- an instruction as it stands in a code of N -/
def InsOk (N : Nat) : Ins → Prop
  | .jmp n => n ≤ N
  | .unl t n => Cl t ∧ n ≤ N
  | .row d => ∃ w ∈ rowWords, Row w d
theorem local_instruction_ok (C : List V) {k N : Nat} (hk : 1 ≤ k) {i : Ins} (hi : InsOk N i) {st : Store} (hs : CL st) : W (runP (pg C) k j_is_local_instruction [encI i] st) fun q => q = (.bl (cost i == 0 && !isRet i), st) := by
  obtain ⟨k, rfl⟩ := Nat.exists_eq_add_of_le' hk
  refine r_is_local_instruction ?_
  unfold m_is_local_instruction
  cases i with
  | jmp n =>
    simp? [encI, ↓W_eqs]
    repeat' (first | exact exitC0 rfl hs rfl rfl | refine br_i (fun _ => ?_) fun _ => ?_)
  | unl t n =>
    simp? [encI, ↓W_eqs]
    repeat' (first | exact exitC0 rfl hs rfl rfl | refine br_i (fun _ => ?_) fun _ => ?_)
  | row d =>
    obtain ⟨w, hw, r, rfl, _⟩ := hi
    obtain ⟨n1, n2, n3, n4, n5⟩ := rowWord_ne hw
    simp? [encI, n4, n5]
    have key : (4 == w || 5 == w) = (cost (.row (.tup (.sym w :: r))) == 0 && !isRet (.row (.tup (.sym w :: r)))) := by
      have all : ∀ w ∈ rowWords, (4 == w || 5 == w) = ((if w == 4 || w == 5 || w == 23 then 0 else 1) == 0 && !(w == 23)) := by decide
      exact all w hw
    rw [← key]
    refine br_i (fun h => ?_) fun h => ?_
    · rw [h]; exact exitC0 rfl hs rfl rfl
    · rw [h]; exact exitC0 rfl hs rfl rfl
theorem step_count_ok (C : List V) {k N : Nat} (hk : 2 ≤ k) {i : Ins} (hi : InsOk N i) {st : Store} (hs : CL st) : W (runP (pg C) k j_step_count [encI i] st) fun q => q = (.int (cost i), st) := by
  obtain ⟨k, rfl⟩ := Nat.exists_eq_add_of_le' (show 1 ≤ k by omega)
  refine r_step_count ?_
  unfold m_step_count
  simp? [true_and]
  refine (local_instruction_ok C (by omega) hi hs).mono ?_
  rintro q rfl
  simp? [true_and]
  refine br_i (fun h => ?_) fun h => ?_
  · have hc : cost i = 0 := by
      rw [Bool.and_eq_true] at h
      exact eq_of_beq h.1
    rw [hc]
    exact exitC0 rfl hs rfl rfl
  · cases i with
    | jmp n => cases h
    | unl t n => cases h
    | row d =>
      obtain ⟨w, hw, r, rfl, _⟩ := hi
      simp? [encI, ↓W_eqs]
      refine br_en (fun e => ?_) fun e => ?_
      · subst e
        exact exitC0 rfl hs rfl rfl
      · have hc : cost (.row (.tup (.sym w :: r))) = 1 := by
          show (if w == 4 || w == 5 || w == 23 then 0 else 1) = 1
          have h : ((if w == 4 || w == 5 || w == 23 then 0 else 1) == 0 && !(w == 23)) = false := h
          have e' : (w == 23) = false := by simpa using e
          rw [e'] at h ⊢
          by_cases hh : (w == 4 || w == 5 || false) = true
          · rw [if_pos hh] at h; cases h
          · rw [if_neg hh]
        rw [hc]
        exact exitC0 rfl hs rfl rfl
/-- the program's ways from place p -/
def waysP (cs : List Ins) (p : Nat) : List Nat := match cs[p]? with
  | none => []
  | some (.jmp n) => [n]
  | some (.unl _ n) => if p + 1 = n then [p + 1] else if p + 1 < n then [p + 1, n] else [n, p + 1]
  | some (.row d) => if headW d == 23 then [] else [p + 1]
theorem code_at {cs : List Ins} {p : Nat} {i : Ins} {Q : D → Prop} (h : cs[p]? = some i) : W (L2.atI (encIs cs) (p : Int)) Q ↔ Q (encI i) := by
  rw [atI_of]
  unfold encIs
  rw [List.getElem?_map, h]
  exact W_some
theorem ways_ok (C : List V) {k : Nat} (hk : 1 ≤ k) {cs : List Ins} (hc : ∀ i ∈ cs, InsOk cs.length i) {p : Nat} (hp : p ≤ cs.length) {st : Store} (hs : CL st) : W (runP (pg C) k j_ways [.tup (encIs cs), .int p] st) fun q => q = (.tup (nats (waysP cs p)), st) := by
  obtain ⟨k, rfl⟩ := Nat.exists_eq_add_of_le' hk
  refine r_ways ?_
  unfold m_ways
  simp? [encIs_len]
  by_cases he : p = cs.length
  · subst he
    have e : waysP cs cs.length = [] := by unfold waysP; rw [List.getElem?_eq_none (Nat.le_refl _)]
    rw [e]
    refine br_e (fun _ => exitC0 rfl hs rfl rfl) fun h => absurd rfl h
  · refine br_e (fun h => absurd (by omega) he) fun _ => ?_
    have hlt : p < cs.length := by omega
    have hi := hc cs[p] (List.getElem_mem hlt)
    have ha : cs[p]? = some cs[p] := List.getElem?_eq_getElem hlt
    simp only [↓code_at ha]
    unfold waysP
    rw [ha]
    generalize cs[p] = i at hi ha ⊢
    cases i with
    | jmp n =>
      simp? [encI, ↓W_eqs, ↓code_at ha]
      exact exitC0 rfl hs rfl rfl
    | unl t n =>
      simp? [encI, ↓W_eqs, ↓code_at ha]
      have e : (sort2L ((p : Int) + 1) (n : Int)).map D.int = nats (if p + 1 = n then [p + 1] else if p + 1 < n then [p + 1, n] else [n, p + 1]) := by
        unfold sort2L nats
        by_cases h1 : p + 1 = n
        · rw [if_pos (by omega), if_pos h1]; rfl
        · by_cases h2 : p + 1 < n
          · rw [if_neg (by omega), if_pos (by omega), if_neg h1, if_pos h2]; rfl
          · rw [if_neg (by omega), if_neg (by omega), if_neg h1, if_neg h2]; rfl
      rw [e]
      exact exitC0 rfl hs (nats_clo _) rfl
    | row d =>
      obtain ⟨w, hw, r, rfl, _⟩ := hi
      obtain ⟨n1, n2, n3, n4, n5⟩ := rowWord_ne hw
      have ex : ∀ {l : List Nat}, W (exitR false st.length (.tup (nats l)) st) fun q => q = (.tup (nats l), st) := fun {l} => exitC0 rfl hs (nats_clo _) rfl
      simp? [encI, ↓W_eqs, ↓code_at ha]
      refine br_en (fun e => ?_) fun e => ?_
      · subst e
        exact ex (l := [])
      · have e' : (headW (.tup (.sym w :: r)) == 23) = false := by
          show (w == 23) = false
          simpa using e
        rw [e']
        refine br_en (fun h => absurd h n4) fun _ => br_en (fun h => absurd h n5) fun _ => ?_
        exact ex (l := [p + 1])
/-- the law's ways from place p -/
def waysE (cs : List Ins) (p : Nat) : List Nat := match cs[p]? with
  | none => []
  | some (.jmp n) => [n]
  | some (.unl _ n) => [p + 1, n]
  | some (.row d) => if headW d == 23 then [] else [p + 1]
theorem e_ways_ok (C : List V) {k : Nat} (hk : 1 ≤ k) {cs : List Ins} (hc : ∀ i ∈ cs, InsOk cs.length i) {p : Nat} (hlt : p < cs.length) {st : Store} (hs : CL st) : W (runP (pg C) k j__law_e_ways [.tup (encIs cs), .int p] st) fun q => q = (.lst (nats (waysE cs p)), st) := by
  obtain ⟨k, rfl⟩ := Nat.exists_eq_add_of_le' hk
  refine r__law_e_ways ?_
  unfold m__law_e_ways
  have hi := hc cs[p] (List.getElem_mem hlt)
  have ha : cs[p]? = some cs[p] := List.getElem?_eq_getElem hlt
  simp? [↓code_at ha]
  unfold waysE
  rw [ha]
  generalize cs[p] = i at hi ha ⊢
  cases i with
  | jmp n =>
    simp? [encI, ↓W_eqs, ↓code_at ha]
    exact exitC0 rfl hs rfl rfl
  | unl t n =>
    simp? [encI, ↓W_eqs, ↓code_at ha]
    exact exitC0 rfl hs rfl rfl
  | row d =>
    obtain ⟨w, hw, r, rfl, _⟩ := hi
    obtain ⟨n1, n2, n3, n4, n5⟩ := rowWord_ne hw
    have ex : ∀ {l : List Nat}, W (exitR false st.length (.lst (nats l)) st) fun q => q = (.lst (nats l), st) := fun {l} => exitC0 rfl hs (nats_clo _) rfl
    simp? [encI, ↓W_eqs, ↓code_at ha]
    refine br_en (fun e => ?_) fun e => ?_
    · subst e
      exact ex (l := [])
    · have e' : (headW (.tup (.sym w :: r)) == 23) = false := by
        show (w == 23) = false
        simpa using e
      rw [e']
      refine br_en (fun h => absurd h n4) fun _ => br_en (fun h => absurd h n5) fun _ => ?_
      exact ex (l := [p + 1])
end H82
set_option Elab.async false
set_option linter.all false
set_option maxRecDepth 100000
set_option maxHeartbeats 4000000
set_option autoImplicit false
namespace H82
open PySem PySem.Spec PyProof.Rows L2 Mn
local macro_rules
  | `(tactic| simp? only [$ls,*]) => `(tactic| simp only [$ls,*, ↓br_t, ↓br_f, ↓KS_nx, ↓KS_ret, ↓KS_brk, ↓KS_cnt, ↓LQ_nx, ↓LQ_cnt, ↓LQ_brk, ↓LQ_ret, ↓EX_nx, ↓EX_ret, ↓SETE_0, ↓SETE_s, ↓BL_b, ↓INT_i, ↓KEY_s, ↓NL_0, ↓NL_s, ↓W_lstAt0, ↓W_lstAts, ↓W_at0, ↓W_ats, ↓PAR2_c, ↓PAR3_c, ↓RNG_i, ↓SEQ_l, ↓SEQ_f, ↓SEQ_t, ↓SEQ_r, ↓W_some, ↓W_atI0, ↓W_atI1, ↓W_atI2, ↓W_atI3, ↓W_atI4, ↓W_atI5, ↓W_atI6, ↓W_atI7, ↓W_atI8, ↓W_atI9, ↓W_atI10, ↓W_atI11, ↓W_atI12, ↓W_seqS, ↓W_asgS, ↓W_exprS, ↓W_retS, ↓W_retN, ↓W_brkS, ↓W_cntS, ↓W_nextS, ↓W_ifS, ↓W_forS, ↓W_par2, ↓W_par3, ↓W_nameG, ↓W_tupG, ↓W_consG, ↓W_nilG, ↓W_subG, ↓W_setO0, ↓W_setOs, ↓SETL_0, ↓SETL_s, ↓IXN_0, ↓IXN_1, ↓IXN_2, ↓IXN_3, ↓IXN_nat, ↓W_var0, ↓W_vars, ↓W_cM, ↓W_binM, ↓W_unM, ↓W_negM, ↓W_nilA, ↓W_consA, ↓W_callM, ↓W_tupM, ↓W_lstM, ↓W_lstMt, ↓W_slcM, ↓W_part0, ↓W_parts, ↓W_slOt, ↓W_slOl, ↓W_slOr, ↓W_ifM, ↓W_truM, ↓W_bolM, ↓W_andT, ↓W_orT, ↓W_notT, ↓W_andE, ↓W_orE, ↓W_notE, ↓W_mthL, ↓W_lstFr, ↓W_dctM, ↓W_dctMt, ↓W_nilK, ↓W_consK, ↓W_kwM, ↓W_maxdM, ↓W_sort2M, ↓W_listRgM, ↓W_listRgMt, ↓W_lcM, ↓W_rng1I, ↓W_seqI, ↓W_addI, ↓W_addT, ↓W_addL, ↓W_addLt, ↓W_subI, ↓W_mulI, ↓W_mulL, ↓W_fdiv, ↓W_mod, ↓W_pow, ↓W_cmp, ↓W_is, ↓W_isNot, ↓W_eqi, ↓W_eqis, ↓W_eqb, ↓W_nei, ↓W_neis, ↓W_neb, ↓W_itT, ↓W_itL, ↓W_itF, ↓W_itD, ↓W_one, ↓W_lenL, ↓W_lenT, ↓W_lenF, ↓W_intI, ↓W_intB, ↓W_absI, ↓W_max2, ↓W_min2, ↓W_tupCl, ↓W_tupCr, ↓W_tupCt, ↓W_lstCf, ↓W_lstCl, ↓W_truL, ↓W_truT, ↓W_truB, ↓W_yesT, ↓W_itR0, ↓W_itRs, ↓H82.W_defC, ↓W_dget_hit, ↓W_dget_miss, ↓W_eqs_t, ↓W_eqs_f, ↓W_nes_t, ↓W_nes_f, ↓W_isiST, ↓W_isiIT, ↓W_isiTT, ↓W_isiIS, ↓W_isiIB, ↓W_isiII, ↓W_memT', ↓W_listRg2M, ↓W_rng2I, ↓RNG2_i, ↓W_lstAt_end, ↓W_apps, ↓W_app_end, ↓W_memLd, ↓W_notMemLd, ↓MEMD_nil, ↓MEMD_hit, ↓MEMD_miss, List.length_cons, List.length_nil, List.length_map, Nat.reduceAdd, Nat.reduceLT, Nat.reduceLeDiff, Nat.zero_add, List.append_nil, List.nil_append, List.cons_append, Nat.reduceBEq, Int.reduceBEq, Nat.reduceEqDiff, beq_self_eq_true, true_and, and_true, Bool.not_true, Bool.not_false, Bool.or_true, Bool.true_or, H82.sm1, H82.sm2, H82.sm3, H82.p18, ne_eq, not_false_eq_true, Int.reduceEq, reduceCtorEq, List.isEmpty_nil, List.isEmpty_cons, List.all_cons, List.all_nil, isSym_s, List.any_cons, List.any_nil, eqv_sym, Bool.or_false, Bool.false_or, Bool.and_self, Int.reduceLT, Int.reduceAdd, Int.reduceSub, decide_true, decide_false])
local macro_rules
  | `(tactic| simp? [$ls,*]) => `(tactic| simp only [$ls,*, ↓br_t, ↓br_f, ↓KS_nx, ↓KS_ret, ↓KS_brk, ↓KS_cnt, ↓LQ_nx, ↓LQ_cnt, ↓LQ_brk, ↓LQ_ret, ↓EX_nx, ↓EX_ret, ↓SETE_0, ↓SETE_s, ↓BL_b, ↓INT_i, ↓KEY_s, ↓NL_0, ↓NL_s, ↓W_lstAt0, ↓W_lstAts, ↓W_at0, ↓W_ats, ↓PAR2_c, ↓PAR3_c, ↓RNG_i, ↓SEQ_l, ↓SEQ_f, ↓SEQ_t, ↓SEQ_r, ↓W_some, ↓W_atI0, ↓W_atI1, ↓W_atI2, ↓W_atI3, ↓W_atI4, ↓W_atI5, ↓W_atI6, ↓W_atI7, ↓W_atI8, ↓W_atI9, ↓W_atI10, ↓W_atI11, ↓W_atI12, ↓W_seqS, ↓W_asgS, ↓W_exprS, ↓W_retS, ↓W_retN, ↓W_brkS, ↓W_cntS, ↓W_nextS, ↓W_ifS, ↓W_forS, ↓W_par2, ↓W_par3, ↓W_nameG, ↓W_tupG, ↓W_consG, ↓W_nilG, ↓W_subG, ↓W_setO0, ↓W_setOs, ↓SETL_0, ↓SETL_s, ↓IXN_0, ↓IXN_1, ↓IXN_2, ↓IXN_3, ↓IXN_nat, ↓W_var0, ↓W_vars, ↓W_cM, ↓W_binM, ↓W_unM, ↓W_negM, ↓W_nilA, ↓W_consA, ↓W_callM, ↓W_tupM, ↓W_lstM, ↓W_lstMt, ↓W_slcM, ↓W_part0, ↓W_parts, ↓W_slOt, ↓W_slOl, ↓W_slOr, ↓W_ifM, ↓W_truM, ↓W_bolM, ↓W_andT, ↓W_orT, ↓W_notT, ↓W_andE, ↓W_orE, ↓W_notE, ↓W_mthL, ↓W_lstFr, ↓W_dctM, ↓W_dctMt, ↓W_nilK, ↓W_consK, ↓W_kwM, ↓W_maxdM, ↓W_sort2M, ↓W_listRgM, ↓W_listRgMt, ↓W_lcM, ↓W_rng1I, ↓W_seqI, ↓W_addI, ↓W_addT, ↓W_addL, ↓W_addLt, ↓W_subI, ↓W_mulI, ↓W_mulL, ↓W_fdiv, ↓W_mod, ↓W_pow, ↓W_cmp, ↓W_is, ↓W_isNot, ↓W_eqi, ↓W_eqis, ↓W_eqb, ↓W_nei, ↓W_neis, ↓W_neb, ↓W_itT, ↓W_itL, ↓W_itF, ↓W_itD, ↓W_one, ↓W_lenL, ↓W_lenT, ↓W_lenF, ↓W_intI, ↓W_intB, ↓W_absI, ↓W_max2, ↓W_min2, ↓W_tupCl, ↓W_tupCr, ↓W_tupCt, ↓W_lstCf, ↓W_lstCl, ↓W_truL, ↓W_truT, ↓W_truB, ↓W_yesT, ↓W_itR0, ↓W_itRs, ↓H82.W_defC, ↓W_dget_hit, ↓W_dget_miss, ↓W_eqs_t, ↓W_eqs_f, ↓W_nes_t, ↓W_nes_f, ↓W_isiST, ↓W_isiIT, ↓W_isiTT, ↓W_isiIS, ↓W_isiIB, ↓W_isiII, ↓W_memT', ↓W_listRg2M, ↓W_rng2I, ↓RNG2_i, ↓W_lstAt_end, ↓W_apps, ↓W_app_end, ↓W_memLd, ↓W_notMemLd, ↓MEMD_nil, ↓MEMD_hit, ↓MEMD_miss, List.length_cons, List.length_nil, List.length_map, Nat.reduceAdd, Nat.reduceLT, Nat.reduceLeDiff, Nat.zero_add, List.append_nil, List.nil_append, List.cons_append, Nat.reduceBEq, Int.reduceBEq, Nat.reduceEqDiff, beq_self_eq_true, true_and, and_true, Bool.not_true, Bool.not_false, Bool.or_true, Bool.true_or, H82.sm1, H82.sm2, H82.sm3, H82.p18, ne_eq, not_false_eq_true, Int.reduceEq, reduceCtorEq, List.isEmpty_nil, List.isEmpty_cons, List.all_cons, List.all_nil, isSym_s, List.any_cons, List.any_nil, eqv_sym, Bool.or_false, Bool.false_or, Bool.and_self, Int.reduceLT, Int.reduceAdd, Int.reduceSub, decide_true, decide_false, ↓sc_names, ↓sc_shared, ↓sc_privates, ↓sc_fields, ↓sc_slots, ↓sc_program, ↓sc_calls, sNm_e, sSh_e, sNm_l, sSh_l, bigN])
/-! bounds -/
/-- what a reclaimer is -/
inductive Tool : D → Prop
  | non : Tool .non
  | one (w : Nat) (h : w ∈ [49, 103, 104, 13]) : Tool (.tup [.sym w])
  | haz (m : Int) : Tool (.tup [.sym 12, .int m])
theorem mx {i j : Int} : (if j > i then j else i) = max i j := by split <;> omega
theorem sk1 : smallI 1 = true := rfl
theorem sk2 : smallI 2 = true := rfl
theorem sk3 : smallI 3 = true := rfl
theorem sk4 : smallI 4 = true := rfl
theorem sk5 : smallI 5 = true := rfl
theorem small_of {i : Int} (h : i.natAbs < 1000000000) : smallI i = true := by
  unfold smallI
  simp only [Bool.and_eq_true, decide_eq_true_eq]
  omega
/-- what a step costs: enter, hold, leave, retire -/
def costsE (tool : D) (n each number : Int) : Option (Int × Int × Int × Int) := match tool with
  | .non => some (1, 1, 1, 1)
  | .tup [.sym w] => if w = 49 then some (1, 1, 1, 1) else if w = 13 then some (5 * n + number + 4, 1, 2, 1) else none
  | .tup [.sym _, .int m] => some (1, 2, each + 1, 2 * n * each + m + 1)
  | _ => none
def bndE (name : Nat) (number n : Int) (tool : D) : Int :=
  if name = 14 then 1 else if name = 15 then 2 else if name = 16 then 5 else if name = 17 then max 3 number
  else if name = 18 then 2 * n + 1 else if name = 19 then max (2 * n + 1) (2 * number * (n + 1)) else if name = 20 then 4 * n + 4
  else if name = 6 then (match costsE tool n 1 number with
    | some (e, h, l, r) => max (r + 2) (e + l + 2 + (n + 1) * (h + 2))
    | none => -1)
  else if name = 7 then (match costsE tool n 1 number with
    | some (e, h, l, r) => max (3 * n + 4) (e + l + r + 1 + (n + 1) * (h + 4))
    | none => -1)
  else if name = 8 then (match costsE tool n 2 number with
    | some (e, h, l, r) => e + l + r + 2 + (2 * n + 1) * (2 * h + 7)
    | none => -1)
  else -1
def plainNames : List Nat := [14, 18, 17, 15, 19, 16, 20]
def noneNames : List Nat := [50, 51, 52, 86, 87]
def slotNames : List Nat := [6, 7, 8]
theorem e_quiet_ok (C : List V) {k : Nat} (hk : 1 ≤ k) {name : Nat} (hname : name ∈ plainNames ++ noneNames ++ slotNames) (number n : Int) {tool : D} (ht : Tool tool) {st : Store} (hs : CL st) (hn : n.natAbs < 100000) : W (runP (pg C) k j__law_e_quiet [.sym name, .int number, .int n, tool] st) fun q => q = (.int (bndE name number n tool), st) := by
  obtain ⟨k, rfl⟩ := Nat.exists_eq_add_of_le' hk
  have s1 : smallI (n + 1) = true := small_of (by omega)
  have s2 : smallI (2 * n + 1) = true := small_of (by omega)
  have s3 : smallI (2 * n) = true := small_of (by omega)
  refine r__law_e_quiet ?_
  unfold m__law_e_quiet
  simp? [dputs, dput, DK.s.injEq, List.mem_cons, List.mem_singleton, List.not_mem_nil, or_false, false_or, or_self, reduceIte, if_false, Nat.reduceEqDiff, ↓W_setD_end, ↓W_memD_end, sk1, sk2, sk3, sk4, sk5, s1, s2, s3, mx]
  simp only [plainNames, noneNames, slotNames, List.cons_append, List.nil_append, List.mem_cons, List.not_mem_nil, or_false] at hname
  rcases hname with rfl | rfl | rfl | rfl | rfl | rfl | rfl | rfl | rfl | rfl | rfl | rfl | rfl | rfl | rfl
  iterate 7
    · simp? [↓W_itD_end, ↓DGI_hit, ↓DGI_miss, ↓DGI_nil]
      exact exitC rfl hs rfl rfl
  iterate 5
    · cases ht <;> simp? [↓DGI_hit, ↓DGI_miss, ↓DGI_nil, noCon, isNone] <;> repeat' (first | exact exitC rfl hs rfl rfl | refine br_i (fun _ => ?_) fun _ => ?_)
  all_goals
    cases ht with
    | non =>
      simp? [↓DGI_hit, ↓DGI_miss, ↓DGI_nil, noCon, isNone, sk1, sk2, sk3, sk4, sk5, s1, s2, s3, mx]
      refine exitC rfl hs rfl (congrArg (fun i : Int => (D.int i, st)) ?_)
      simp [bndE, costsE]
      try omega
    | one w hw =>
      simp only [List.mem_cons, List.not_mem_nil, or_false] at hw
      rcases hw with rfl | rfl | rfl | rfl <;> simp? [↓DGI_hit, ↓DGI_miss, ↓DGI_nil, noCon, isNone, sk1, sk2, sk3, sk4, sk5, s1, s2, s3, mx] <;>
        refine exitC rfl hs rfl (congrArg (fun i : Int => (D.int i, st)) ?_) <;> simp [bndE, costsE] <;> try omega
    | haz m =>
      simp? [↓DGI_hit, ↓DGI_miss, ↓DGI_nil, noCon, isNone, sk1, sk2, sk3, sk4, sk5, s1, s2, s3, mx]
      refine exitC rfl hs rfl (congrArg (fun i : Int => (D.int i, st)) ?_)
      simp [bndE, costsE]
      try omega
end H82
set_option Elab.async false
set_option linter.all false
set_option maxRecDepth 100000
set_option maxHeartbeats 4000000
set_option autoImplicit false
namespace H82
/-! longest ways, in plain words -/
section
variable {N : Nat} {S : Nat → List Nat} {c : Nat → Nat}
def maxl (l : List Nat) : Nat := l.foldr max 0
theorem maxl_le {l : List Nat} {x : Nat} (h : x ∈ l) : x ≤ maxl l := by
  induction l with
  | nil => cases h
  | cons y l ih =>
    show x ≤ max y (maxl l)
    rcases List.mem_cons.mp h with rfl | h
    · omega
    · have := ih h
      omega
theorem maxl_mem {l : List Nat} (h : maxl l ≠ 0) : maxl l ∈ l := by
  induction l with
  | nil => exact absurd rfl h
  | cons y l ih =>
    have e : maxl (y :: l) = max y (maxl l) := rfl
    rw [e] at h ⊢
    by_cases hl : maxl l ≤ y
    · rw [Nat.max_eq_left hl]
      exact List.mem_cons_self
    · rw [Nat.max_eq_right (by omega)]
      exact List.mem_cons_of_mem _ (ih (by omega))
inductive Lw (S : Nat → List Nat) (c : Nat → Nat) : Nat → Nat → Prop
  | mk (p : Nat) (f : Nat → Nat) (h : ∀ y ∈ S p, Lw S c y (f y)) : Lw S c p (c p + maxl ((S p).map f))
theorem Lw.uniq {p u : Nat} (h : Lw S c p u) : ∀ {v : Nat}, Lw S c p v → u = v := by
  induction h with
  | mk p f h ih =>
    intro v hv
    cases hv with
    | mk _ g hg =>
      have e : (S p).map f = (S p).map g := List.map_congr_left fun y hy => ih y hy (hg y hy)
      rw [e]
/-- the program's table: settled places hold their longest ways -/
def Sound (S : Nat → List Nat) (c : Nat → Nat) (N : Nat) (m : Nat → Int) : Prop := ∀ p, p ≤ N → m p = -1 ∨ ∃ v : Nat, m p = v ∧ Lw S c p v
theorem none_of {m : Nat → Int} (hN : ∀ x y, y ∈ S x → y ≤ N) (hm : m N ≠ -1) (hs : ∀ p, p < N → m p = -1 → ∃ w ∈ S p, m w = -1) (h0 : m 0 = -1) : ¬ ∃ v, Lw S c 0 v := by
  have key : ∀ p v, Lw S c p v → p ≤ N → m p ≠ -1 := by
    intro p v h
    induction h with
    | mk p f h ih =>
      intro hp e
      by_cases hpN : p = N
      · subst hpN; exact hm e
      · obtain ⟨w, hw, he⟩ := hs p (by omega) e
        exact ih w hw (hN p w hw) he
  rintro ⟨v, hv⟩
  exact key 0 v hv (Nat.zero_le _) h0
/-! a potential that no way lowers -/
def Stable (S : Nat → List Nat) (c : Nat → Nat) (m : Nat → Int) : Prop := ∀ p, 0 ≤ m p → ∀ y ∈ S p, m p + c p ≤ m y
open Classical in
theorem lw_of_stable {m : Nat → Int} {M : Int} (hN : ∀ x y, y ∈ S x → x < N ∧ y ≤ N) (h2 : ∀ x y, y ∈ S x → y ≤ x → c y = 1 ∨ S y = []) (hst : Stable S c m) (hM : ∀ p, m p + c p ≤ M) : ∀ (j : Nat) (k : Nat) (p : Nat), p ≤ N → 0 ≤ m p → (M - (m p + c p)).toNat ≤ j → N - p ≤ k → ∃ v, Lw S c p v := by
  intro j
  induction j with
  | zero =>
    intro k
    induction k with
    | zero =>
      intro p hp h0 hj hk
      refine ⟨_, Lw.mk p (fun _ => 0) fun y hy => ?_⟩
      have := (hN p y hy).1
      omega
    | succ k ih =>
      intro p hp h0 hj hk
      have all : ∀ y ∈ S p, ∃ v, Lw S c y v := fun y hy => by
        have h1 := hst p h0 y hy
        have h3 := hM y
        by_cases hyp : y ≤ p
        · rcases h2 p y hy hyp with e | e
          · omega
          · refine ⟨_, Lw.mk y (fun _ => 0) ?_⟩
            rw [e]
            intro z hz
            cases hz
        · exact ih y (hN p y hy).2 (by omega) (by omega) (by have := (hN p y hy).1; omega)
      exact ⟨_, Lw.mk p (fun y => if h : ∃ v, Lw S c y v then h.choose else 0) fun y hy => by
        rw [dif_pos (all y hy)]
        exact (all y hy).choose_spec⟩
  | succ j ihj =>
    intro k
    induction k with
    | zero =>
      intro p hp h0 hj hk
      refine ⟨_, Lw.mk p (fun _ => 0) fun y hy => ?_⟩
      have := (hN p y hy).1
      omega
    | succ k ih =>
      intro p hp h0 hj hk
      have all : ∀ y ∈ S p, ∃ v, Lw S c y v := fun y hy => by
        have h1 := hst p h0 y hy
        have h3 := hM y
        by_cases hyp : y ≤ p
        · rcases h2 p y hy hyp with e | e
          · exact ihj (N - y) y (hN p y hy).2 (by omega) (by omega) (Nat.le_refl _)
          · refine ⟨_, Lw.mk y (fun _ => 0) ?_⟩
            rw [e]
            intro z hz
            cases hz
        · exact ih y (hN p y hy).2 (by omega) (by omega) (by have := (hN p y hy).1; omega)
      exact ⟨_, Lw.mk p (fun y => if h : ∃ v, Lw S c y v then h.choose else 0) fun y hy => by
        rw [dif_pos (all y hy)]
        exact (all y hy).choose_spec⟩
/-! where all ways end -/
inductive Wy (S : Nat → List Nat) (b : Nat) : Nat → Prop
  | refl : Wy S b b
  | step {x y : Nat} (h : Wy S b x) (hy : y ∈ S x) : Wy S b y
theorem Lw.down {p u : Nat} (h : Lw S c p u) {y : Nat} (hy : y ∈ S p) : ∃ v, Lw S c y v ∧ c p + v ≤ u := by
  cases h with
  | mk _ f h => exact ⟨f y, h y hy, Nat.add_le_add_left (maxl_le (List.mem_map_of_mem hy)) _⟩
theorem Lw.along {p u : Nat} (h : Lw S c p u) {x : Nat} (hw : Wy S p x) : ∃ v, Lw S c x v := by
  induction hw with
  | refl => exact ⟨u, h⟩
  | step _ hy ih =>
    obtain ⟨v, hv⟩ := ih
    obtain ⟨w, hw, _⟩ := hv.down hy
    exact ⟨w, hw⟩
theorem Wy.trans {a b x : Nat} (h : Wy S a b) (h2 : Wy S b x) : Wy S a x := by
  induction h2 with
  | refl => exact h
  | step _ hy ih => exact .step ih hy
/-- no place comes to itself -/
theorem Lw.no_loop {p u : Nat} (h : Lw S c p u) : ∀ y ∈ S p, ¬ Wy S y p := by
  induction h with
  | mk p f h ih =>
    intro y hy hw
    have key : ∀ z, Wy S y z → z = y ∨ ∃ x, Wy S y x ∧ z ∈ S x := fun z hz => by
      cases hz with
      | refl => exact .inl rfl
      | step h hy => exact .inr ⟨_, h, hy⟩
    rcases key p hw with e | ⟨x, hx, hp⟩
    · subst e
      exact ih p hy p hy .refl
    · -- y goes to x, x to p, p to y: y comes to itself
      have loop : ∀ z, Wy S y z → z ≠ y → ∃ y' ∈ S y, Wy S y' z := fun z hz => by
        induction hz with
        | refl => exact fun h => absurd rfl h
        | step h hs ih2 =>
          rename_i a b
          intro hb
          by_cases ha : a = y
          · subst ha
            exact ⟨b, hs, .refl⟩
          · obtain ⟨y', h1, h2⟩ := ih2 ha
            exact ⟨y', h1, .step h2 hs⟩
      by_cases hpy : p = y
      · subst hpy
        exact ih p hy p hy .refl
      · obtain ⟨y', h1, h2⟩ := loop p hw hpy
        exact ih y hy y' h1 (.step h2 hy)
theorem forward {v : Nat} (h : Lw S c 0 v) (h3 : ∀ u v, v ∈ S u → v ≤ u → ∀ x y, y ∈ S x → v < y → y ≤ u → v ≤ x ∧ x ≤ u) {p y : Nat} (hp : Wy S 0 p) (hy : y ∈ S p) : p < y := by
  refine Nat.lt_of_not_le fun hle => ?_
  have key : ∀ x, Wy S 0 x → y ≤ x → x ≤ p → Wy S y x := fun x hx => by
    induction hx with
    | refl =>
      intro h1 _
      have : y = 0 := by omega
      subst this
      exact .refl
    | step hx hz ih =>
      rename_i x z
      intro h1 h2
      by_cases e : z = y
      · subst e; exact .refl
      · obtain ⟨h4, h5⟩ := h3 p y hy hle x z hz (by omega) h2
        exact .step (ih h4 h5) hz
  obtain ⟨u, hu⟩ := h.along hp
  exact hu.no_loop y hy (key p hp hle (Nat.le_refl p))
/-! the law's passes -/
def gt (m : List Int) (p : Nat) : Int := m.getD p 0
def rlx (here : Int) (s : List Int × Bool) (y : Nat) : List Int × Bool := if gt s.1 y < here then (s.1.set y here, false) else s
theorem gt_set {m : List Int} {y : Nat} {v : Int} (hy : y < m.length) (p : Nat) : gt (m.set y v) p = if p = y then v else gt m p := by
  unfold gt
  rw [List.getD_eq_getElem?_getD, List.getD_eq_getElem?_getD, List.getElem?_set]
  by_cases h : y = p
  · rw [if_pos h, if_pos (h ▸ hy), if_pos h.symm]; rfl
  · rw [if_neg h, if_neg fun e => h e.symm]
theorem rlx_all {here : Int} : ∀ (ys : List Nat) (m : List Int) (st : Bool), (∀ y ∈ ys, y < m.length) → (ys.foldl (rlx here) (m, st)).1.length = m.length ∧ (∀ p, gt (ys.foldl (rlx here) (m, st)).1 p = if p ∈ ys then max (gt m p) here else gt m p) ∧ ((ys.foldl (rlx here) (m, st)).2 = true ↔ st = true ∧ ∀ y ∈ ys, here ≤ gt m y) ∧ ((∀ y ∈ ys, here ≤ gt m y) → ys.foldl (rlx here) (m, st) = (m, st))
  | [], m, st, _ => ⟨rfl, fun p => by simp, by simp, fun _ => rfl⟩
  | y :: ys, m, st, h => by
    have hy := h y List.mem_cons_self
    rw [List.foldl_cons]
    by_cases c : gt m y < here
    · have e : rlx here (m, st) y = (m.set y here, false) := if_pos c
      rw [e]
      obtain ⟨h1, h2, h3, _⟩ := rlx_all ys (m.set y here) false fun z hz => by rw [List.length_set]; exact h z (List.mem_cons_of_mem _ hz)
      refine ⟨by rw [h1, List.length_set], fun p => ?_, ?_, fun hall => ?_⟩
      · rw [h2, gt_set hy]
        by_cases e1 : p = y
        · subst e1
          rw [if_pos rfl, if_pos List.mem_cons_self]
          split <;> omega
        · rw [if_neg e1]
          by_cases e2 : p ∈ ys
          · rw [if_pos e2, if_pos (List.mem_cons_of_mem _ e2)]
          · rw [if_neg e2, if_neg fun hc => by rcases List.mem_cons.mp hc with h | h; exact e1 h; exact e2 h]
      · rw [h3]
        refine ⟨fun hc => absurd hc.1 (by simp), fun hc => ?_⟩
        have := hc.2 y List.mem_cons_self
        omega
      · have := hall y List.mem_cons_self
        omega
    · have e : rlx here (m, st) y = (m, st) := if_neg c
      rw [e]
      obtain ⟨h1, h2, h3, h4⟩ := rlx_all ys m st fun z hz => h z (List.mem_cons_of_mem _ hz)
      refine ⟨h1, fun p => ?_, ?_, fun hall => h4 fun z hz => hall z (List.mem_cons_of_mem _ hz)⟩
      · rw [h2]
        by_cases e1 : p = y
        · subst e1
          rw [if_pos List.mem_cons_self]
          split <;> omega
        · by_cases e2 : p ∈ ys
          · rw [if_pos e2, if_pos (List.mem_cons_of_mem _ e2)]
          · rw [if_neg e2, if_neg fun hc => by rcases List.mem_cons.mp hc with h | h; exact e1 h; exact e2 h]
      · rw [h3]
        refine ⟨fun ⟨a, b⟩ => ⟨a, fun z hz => ?_⟩, fun ⟨a, b⟩ => ⟨a, fun z hz => b z (List.mem_cons_of_mem _ hz)⟩⟩
        rcases List.mem_cons.mp hz with rfl | hz
        · omega
        · exact b z hz
abbrev Ps := List Int × Bool × Int
def plc (S : Nat → List Nat) (c : Nat → Nat) (s : Ps) (p : Nat) : Ps :=
  if 0 ≤ gt s.1 p then
    let r := (S p).foldl (rlx (gt s.1 p + c p)) (s.1, s.2.1)
    (r.1, r.2, max s.2.2 (gt s.1 p + c p))
  else s
def psk (S : Nat → List Nat) (c : Nat → Nat) (m : List Int) (k : Nat) : Ps := (List.range k).foldl (plc S c) (m, true, 0)
theorem psk_zero {m : List Int} : psk S c m 0 = (m, true, 0) := rfl
theorem psk_succ {m : List Int} {k : Nat} : psk S c m (k + 1) = plc S c (psk S c m k) k := by
  unfold psk
  rw [List.range_succ, List.foldl_append]
  rfl
variable (hN : ∀ x y, y ∈ S x → x < N ∧ y ≤ N)
include hN
theorem plc_facts {s : Ps} {p : Nat} (hl : s.1.length = N + 1) : (plc S c s p).1.length = N + 1 ∧ (∀ q, gt s.1 q ≤ gt (plc S c s p).1 q) ∧ ((plc S c s p).2.1 = true → s.2.1 = true ∧ (plc S c s p).1 = s.1 ∧ (0 ≤ gt s.1 p → (∀ y ∈ S p, gt s.1 p + c p ≤ gt s.1 y) ∧ gt s.1 p + c p ≤ (plc S c s p).2.2)) ∧ s.2.2 ≤ (plc S c s p).2.2 := by
  unfold plc
  by_cases h0 : 0 ≤ gt s.1 p
  · rw [if_pos h0]
    obtain ⟨h1, h2, h3, h4⟩ := rlx_all (here := gt s.1 p + c p) (S p) s.1 s.2.1 fun y hy => by have := (hN p y hy).2; omega
    refine ⟨by rw [← hl]; exact h1, fun q => ?_, fun h => ?_, by dsimp only; omega⟩
    · have := h2 q
      dsimp only
      rw [this]
      split <;> omega
    · obtain ⟨a, b⟩ := h3.mp h
      refine ⟨a, ?_, fun _ => ⟨b, by dsimp only; omega⟩⟩
      have := h4 b
      dsimp only
      rw [this]
  · rw [if_neg h0]
    exact ⟨hl, fun _ => Int.le_refl _, fun h => ⟨h, rfl, fun h1 => absurd h1 h0⟩, Int.le_refl _⟩
theorem psk_facts {m : List Int} (hl : m.length = N + 1) : ∀ k : Nat, (psk S c m k).1.length = N + 1 ∧ (∀ q, gt m q ≤ gt (psk S c m k).1 q) ∧ 0 ≤ (psk S c m k).2.2 ∧ ((psk S c m k).2.1 = true → (psk S c m k).1 = m ∧ ∀ p, p < k → 0 ≤ gt m p → (∀ y ∈ S p, gt m p + c p ≤ gt m y) ∧ gt m p + c p ≤ (psk S c m k).2.2)
  | 0 => ⟨hl, fun _ => Int.le_refl _, Int.le_refl _, fun _ => ⟨rfl, fun p hp => absurd hp (Nat.not_lt_zero p)⟩⟩
  | k + 1 => by
    obtain ⟨h1, h2, h3, h4⟩ := psk_facts hl k
    obtain ⟨g1, g2, g3, g4⟩ := plc_facts hN (c := c) (s := psk S c m k) (p := k) h1
    rw [psk_succ]
    refine ⟨g1, fun q => Int.le_trans (h2 q) (g2 q), Int.le_trans h3 g4, fun h => ?_⟩
    obtain ⟨a, b, d⟩ := g3 h
    obtain ⟨e, f⟩ := h4 a
    refine ⟨b.trans e, fun p hp h0 => ?_⟩
    by_cases hpk : p = k
    · subst hpk
      rw [e] at d
      exact d h0
    · obtain ⟨i, j⟩ := f p (by omega) h0
      exact ⟨i, Int.le_trans j g4⟩
/-- a still pass has a potential -/
theorem psk_stable {m : List Int} (hl : m.length = N + 1) (h : (psk S c m N).2.1 = true) : Stable S c (gt m) := fun p h0 y hy => by
  obtain ⟨_, _, _, h4⟩ := psk_facts hN (c := c) hl N
  exact ((h4 h).2 p (hN p y hy).1 h0).1 y hy
/-- nothing moves any more -/
theorem psk_still {m : List Int} (hl : m.length = N + 1) (hst : Stable S c (gt m)) : ∀ k, (psk S c m k).1 = m ∧ (psk S c m k).2.1 = true
  | 0 => ⟨rfl, rfl⟩
  | k + 1 => by
    obtain ⟨h1, h2⟩ := psk_still hl hst k
    rw [psk_succ]
    unfold plc
    rw [h1, h2]
    by_cases h0 : 0 ≤ gt m k
    · rw [if_pos h0]
      obtain ⟨_, _, _, h4⟩ := rlx_all (here := gt m k + c k) (S k) m true fun y hy => by have := (hN k y hy).2; omega
      dsimp only
      rw [h4 (hst k h0)]
      exact ⟨rfl, rfl⟩
    · rw [if_neg h0]
      exact ⟨h1, h2⟩
def Rch (S : Nat → List Nat) (c : Nat → Nat) (v : Nat) (m : List Int) : Prop := ∀ p, 0 ≤ gt m p → p < m.length → Wy S 0 p ∧ ∀ u, Lw S c p u → gt m p + u ≤ v
theorem plc_sound {v : Nat} (hv : Lw S c 0 v) {s : Ps} {p : Nat} (hl : s.1.length = N + 1) (hp : p ≤ N) (hr : Rch S c v s.1) (hh : s.2.2 ≤ v) : Rch S c v (plc S c s p).1 ∧ (plc S c s p).2.2 ≤ v := by
  unfold plc
  by_cases h0 : 0 ≤ gt s.1 p
  · rw [if_pos h0]
    obtain ⟨h1, h2, h3, h4⟩ := rlx_all (here := gt s.1 p + c p) (S p) s.1 s.2.1 fun y hy => by have := (hN p y hy).2; omega
    obtain ⟨w, hw⟩ := hr p h0 (by omega)
    obtain ⟨u, hu⟩ := hv.along w
    have hu1 := hw u hu
    have hcu : c p ≤ u := by
      cases hu with
      | mk _ f _ => omega
    refine ⟨fun q hq hql => ?_, by dsimp only; omega⟩
    have e := h2 q
    dsimp only at hq hql ⊢
    rw [e] at hq ⊢
    rw [h1] at hql
    by_cases hm : q ∈ S p
    · rw [if_pos hm] at hq ⊢
      refine ⟨.step w hm, fun u' hu' => ?_⟩
      obtain ⟨v', hv', hle⟩ := hu.down hm
      have : v' = u' := hv'.uniq hu'
      subst this
      by_cases hc : 0 ≤ gt s.1 q
      · have := (hr q hc hql).2 v' hv'
        omega
      · omega
    · rw [if_neg hm] at hq ⊢
      exact hr q hq hql
  · rw [if_neg h0]
    exact ⟨hr, hh⟩
theorem psk_sound {v : Nat} (hv : Lw S c 0 v) {m : List Int} (hl : m.length = N + 1) (hr : Rch S c v m) : ∀ k, k ≤ N → Rch S c v (psk S c m k).1 ∧ (psk S c m k).2.2 ≤ v
  | 0, _ => ⟨hr, Int.natCast_nonneg v⟩
  | k + 1, hk => by
    obtain ⟨h1, h2⟩ := psk_sound hv hl hr k (by omega)
    rw [psk_succ]
    exact plc_sound hN hv (psk_facts hN (c := c) hl k).1 (by omega) h1 h2
/-- the number that a still pass tells -/
theorem psk_high {v : Nat} (hv : Lw S c 0 v) (hcN : c N = 0) {m : List Int} (hl : m.length = N + 1) (hr : Rch S c v m) (h0 : 0 ≤ gt m 0) (h : (psk S c m N).2.1 = true) : (psk S c m N).2.2 = v := by
  have hle := (psk_sound hN hv hl hr N (Nat.le_refl N)).2
  obtain ⟨_, _, hhi, h4⟩ := psk_facts hN (c := c) hl N
  obtain ⟨_, hst⟩ := h4 h
  have key : ∀ p u, Lw S c p u → p < N → 0 ≤ gt m p → gt m p + u ≤ (psk S c m N).2.2 := by
    intro p u hu
    induction hu with
    | mk p f hf ih =>
      intro hp hp0
      obtain ⟨hy, hhere⟩ := hst p hp hp0
      by_cases hz : maxl ((S p).map f) = 0
      · rw [hz]; omega
      · obtain ⟨y, hys, hye⟩ := List.mem_map.mp (maxl_mem hz)
        have h5 := hy y hys
        by_cases hyN : y < N
        · have := ih y hys hyN (by omega)
          omega
        · have hyN : y = N := by have := (hN p y hys).2; omega
          have hfy := hf y hys
          have : f y = 0 := by
            have e : Lw S c N (c N + maxl ((S N).map fun _ => 0)) := Lw.mk N (fun _ => 0) fun z hz => by have := (hN N z hz).1; omega
            have hSN : S N = [] := by
              cases hS : S N with
              | nil => rfl
              | cons z _ => have := (hN N z (by rw [hS]; exact List.mem_cons_self)).1; omega
            rw [hSN, hcN] at e
            rw [hyN] at hfy ⊢
            exact hfy.uniq e
          omega
  by_cases hN0 : N = 0
  · subst hN0
    have hS0 : S 0 = [] := by
      cases hS : S 0 with
      | nil => rfl
      | cons z _ => have := (hN 0 z (by rw [hS]; exact List.mem_cons_self)).1; omega
    cases hv with
    | mk _ f _ =>
      rw [hS0, hcN] at hle ⊢
      have : maxl (([] : List Nat).map f) = 0 := rfl
      rw [this] at hle ⊢
      omega
  · have := key 0 v hv (by omega) h0
    omega
/-- behind one pass over forward ways nothing moves any more -/
theorem psk_settles {v : Nat} (hv : Lw S c 0 v) (hf : ∀ p y, Wy S 0 p → y ∈ S p → p < y) {m : List Int} (hl : m.length = N + 1) (hr : Rch S c v m) : ∀ k, k ≤ N → ∀ p, p < k → 0 ≤ gt (psk S c m k).1 p → ∀ y ∈ S p, gt (psk S c m k).1 p + c p ≤ gt (psk S c m k).1 y
  | 0, _, p, hp, _, _, _ => absurd hp (Nat.not_lt_zero p)
  | k + 1, hk, p, hp, h0, y, hy => by
    have ih := psk_settles hv hf hl hr k (by omega)
    obtain ⟨f1, f2, f3, f4⟩ := psk_facts hN (c := c) hl k
    obtain ⟨r1, r2⟩ := psk_sound hN hv hl hr k (by omega)
    rw [psk_succ] at h0 ⊢
    generalize psk S c m k = s at ih f1 f2 f3 f4 r1 r2 h0 ⊢
    unfold plc at h0 ⊢
    by_cases hk0 : 0 ≤ gt s.1 k
    · rw [if_pos hk0] at h0 ⊢
      obtain ⟨h1, h2, h3, h4⟩ := rlx_all (here := gt s.1 k + c k) (S k) s.1 s.2.1 fun y hy => by have := (hN k y hy).2; omega
      have w := (r1 k hk0 (by omega)).1
      have hpk : p ∉ S k := fun h => by have := hf k p w h; omega
      have e1 := h2 p
      have e2 := h2 y
      dsimp only at h0 ⊢
      rw [e1, if_neg hpk] at h0 ⊢
      rw [e2]
      by_cases hpe : p = k
      · subst hpe
        rw [if_pos hy]
        omega
      · have := ih p (by omega) h0 y hy
        split <;> omega
    · rw [if_neg hk0] at h0 ⊢
      by_cases hpe : p = k
      · subst hpe
        exact absurd h0 hk0
      · exact ih p (by omega) h0 y hy
/-- what the law tells -/
def told (S : Nat → List Nat) (c : Nat → Nat) (N : Nat) : Nat → List Int → Int
  | 0, _ => -1
  | k + 1, m => if (psk S c m N).2.1 = true then (psk S c m N).2.2 else told S c N k (psk S c m N).1
theorem told_none (h2 : ∀ x y, y ∈ S x → y ≤ x → c y = 1 ∨ S y = []) (hc : ∀ p, c p ≤ 1) (hno : ¬ ∃ v, Lw S c 0 v) : ∀ (k : Nat) (m : List Int), m.length = N + 1 → 0 ≤ gt m 0 → told S c N k m = -1
  | 0, _, _, _ => rfl
  | k + 1, m, hl, h0 => by
    unfold told
    by_cases h : (psk S c m N).2.1 = true
    · refine absurd ?_ hno
      have hst := psk_stable hN hl h
      obtain ⟨M, hM⟩ : ∃ M : Int, ∀ p, gt m p ≤ M := by
        have : ∀ l : List Int, ∃ M : Int, 0 ≤ M ∧ ∀ x ∈ l, x ≤ M := fun l => by
          induction l with
          | nil => exact ⟨0, by omega, fun x hx => by cases hx⟩
          | cons x l ih =>
            obtain ⟨M, h0, h⟩ := ih
            refine ⟨max x M, by omega, fun z hz => ?_⟩
            rcases List.mem_cons.mp hz with rfl | hz
            · omega
            · have := h z hz
              omega
        obtain ⟨M, h0, hM⟩ := this m
        refine ⟨M, fun p => ?_⟩
        unfold gt
        rw [List.getD_eq_getElem?_getD]
        by_cases hp : p < m.length
        · rw [List.getElem?_eq_getElem hp]
          exact hM _ (List.getElem_mem hp)
        · rw [List.getElem?_eq_none (by omega)]
          exact h0
      exact lw_of_stable (M := M + 1) hN h2 hst (fun p => by have := hM p; have := hc p; omega) _ N 0 (Nat.zero_le _) h0 (Nat.le_refl _) (by omega)
    · rw [if_neg h]
      obtain ⟨a, b, _⟩ := psk_facts hN (c := c) hl N
      exact told_none h2 hc hno k _ a (by have := b 0; omega)
theorem told_some {v : Nat} (hv : Lw S c 0 v) (hcN : c N = 0) (h3 : ∀ u v, v ∈ S u → v ≤ u → ∀ x y, y ∈ S x → v < y → y ≤ u → v ≤ x ∧ x ≤ u) {m : List Int} (hl : m.length = N + 1) (h0 : gt m 0 = 0) (hr : ∀ p, 0 < p → p < m.length → gt m p = -1) (k : Nat) : told S c N (k + 2) m = v := by
  have hf : ∀ p y, Wy S 0 p → y ∈ S p → p < y := fun p y hp hy => forward hv h3 hp hy
  have hr0 : Rch S c v m := fun p hp hpl => by
    by_cases e : p = 0
    · subst e
      refine ⟨.refl, fun u hu => ?_⟩
      have := hu.uniq hv
      omega
    · have := hr p (by omega) hpl
      omega
  unfold told
  by_cases h : (psk S c m N).2.1 = true
  · rw [if_pos h]
    exact psk_high hN hv hcN hl hr0 (by omega) h
  · rw [if_neg h]
    obtain ⟨a, b, _⟩ := psk_facts hN (c := c) hl N
    have r1 := (psk_sound hN hv hl hr0 N (Nat.le_refl N)).1
    have hst : Stable S c (gt (psk S c m N).1) := fun p h0 y hy => psk_settles hN hv hf hl hr0 N (Nat.le_refl N) p (hN p y hy).1 h0 y hy
    have h5 := (psk_still hN a hst N).2
    unfold told
    rw [if_pos h5]
    exact psk_high hN hv hcN a r1 (by have := b 0; omega) h5
end
end H82
set_option Elab.async false
set_option linter.all false
set_option maxRecDepth 100000
set_option maxHeartbeats 4000000
set_option autoImplicit false
namespace H82
open PySem PySem.Spec PyProof.Rows L2 Mn
local macro_rules
  | `(tactic| simp? only [$ls,*]) => `(tactic| simp only [$ls,*, ↓br_t, ↓br_f, ↓KS_nx, ↓KS_ret, ↓KS_brk, ↓KS_cnt, ↓LQ_nx, ↓LQ_cnt, ↓LQ_brk, ↓LQ_ret, ↓EX_nx, ↓EX_ret, ↓SETE_0, ↓SETE_s, ↓BL_b, ↓INT_i, ↓KEY_s, ↓NL_0, ↓NL_s, ↓W_lstAt0, ↓W_lstAts, ↓W_at0, ↓W_ats, ↓PAR2_c, ↓PAR3_c, ↓RNG_i, ↓SEQ_l, ↓SEQ_f, ↓SEQ_t, ↓SEQ_r, ↓W_some, ↓W_atI0, ↓W_atI1, ↓W_atI2, ↓W_atI3, ↓W_atI4, ↓W_atI5, ↓W_atI6, ↓W_atI7, ↓W_atI8, ↓W_atI9, ↓W_atI10, ↓W_atI11, ↓W_atI12, ↓W_seqS, ↓W_asgS, ↓W_exprS, ↓W_retS, ↓W_retN, ↓W_brkS, ↓W_cntS, ↓W_nextS, ↓W_ifS, ↓W_forS, ↓W_par2, ↓W_par3, ↓W_nameG, ↓W_tupG, ↓W_consG, ↓W_nilG, ↓W_subG, ↓W_setO0, ↓W_setOs, ↓SETL_0, ↓SETL_s, ↓IXN_0, ↓IXN_1, ↓IXN_2, ↓IXN_3, ↓IXN_nat, ↓W_var0, ↓W_vars, ↓W_cM, ↓W_binM, ↓W_unM, ↓W_negM, ↓W_nilA, ↓W_consA, ↓W_callM, ↓W_tupM, ↓W_lstM, ↓W_lstMt, ↓W_slcM, ↓W_part0, ↓W_parts, ↓W_slOt, ↓W_slOl, ↓W_slOr, ↓W_ifM, ↓W_truM, ↓W_bolM, ↓W_andT, ↓W_orT, ↓W_notT, ↓W_andE, ↓W_orE, ↓W_notE, ↓W_mthL, ↓W_lstFr, ↓W_dctM, ↓W_dctMt, ↓W_nilK, ↓W_consK, ↓W_kwM, ↓W_maxdM, ↓W_sort2M, ↓W_listRgM, ↓W_listRgMt, ↓W_lcM, ↓W_rng1I, ↓W_seqI, ↓W_addI, ↓W_addT, ↓W_addL, ↓W_addLt, ↓W_subI, ↓W_mulI, ↓W_mulL, ↓W_fdiv, ↓W_mod, ↓W_pow, ↓W_cmp, ↓W_is, ↓W_isNot, ↓W_eqi, ↓W_eqis, ↓W_eqb, ↓W_nei, ↓W_neis, ↓W_neb, ↓W_itT, ↓W_itL, ↓W_itF, ↓W_itD, ↓W_one, ↓W_lenL, ↓W_lenT, ↓W_lenF, ↓W_intI, ↓W_intB, ↓W_absI, ↓W_max2, ↓W_min2, ↓W_tupCl, ↓W_tupCr, ↓W_tupCt, ↓W_lstCf, ↓W_lstCl, ↓W_truL, ↓W_truT, ↓W_truB, ↓W_yesT, ↓W_itR0, ↓W_itRs, ↓H82.W_defC, ↓W_dget_hit, ↓W_dget_miss, ↓W_eqs_t, ↓W_eqs_f, ↓W_nes_t, ↓W_nes_f, ↓W_isiST, ↓W_isiIT, ↓W_isiTT, ↓W_isiIS, ↓W_isiIB, ↓W_isiII, ↓W_memT', ↓W_listRg2M, ↓W_rng2I, ↓RNG2_i, ↓W_lstAt_end, ↓W_apps, ↓W_app_end, ↓W_memLd, ↓W_notMemLd, ↓MEMD_nil, ↓MEMD_hit, ↓MEMD_miss, List.length_cons, List.length_nil, List.length_map, Nat.reduceAdd, Nat.reduceLT, Nat.reduceLeDiff, Nat.zero_add, List.append_nil, List.nil_append, List.cons_append, Nat.reduceBEq, Int.reduceBEq, Nat.reduceEqDiff, beq_self_eq_true, true_and, and_true, Bool.not_true, Bool.not_false, Bool.or_true, Bool.true_or, H82.sm1, H82.sm2, H82.sm3, H82.p18, ne_eq, not_false_eq_true, Int.reduceEq, reduceCtorEq, List.isEmpty_nil, List.isEmpty_cons, List.all_cons, List.all_nil, isSym_s, List.any_cons, List.any_nil, eqv_sym, Bool.or_false, Bool.false_or, Bool.and_self, Int.reduceLT, Int.reduceAdd, Int.reduceSub, decide_true, decide_false])
local macro_rules
  | `(tactic| simp? [$ls,*]) => `(tactic| simp only [$ls,*, ↓br_t, ↓br_f, ↓KS_nx, ↓KS_ret, ↓KS_brk, ↓KS_cnt, ↓LQ_nx, ↓LQ_cnt, ↓LQ_brk, ↓LQ_ret, ↓EX_nx, ↓EX_ret, ↓SETE_0, ↓SETE_s, ↓BL_b, ↓INT_i, ↓KEY_s, ↓NL_0, ↓NL_s, ↓W_lstAt0, ↓W_lstAts, ↓W_at0, ↓W_ats, ↓PAR2_c, ↓PAR3_c, ↓RNG_i, ↓SEQ_l, ↓SEQ_f, ↓SEQ_t, ↓SEQ_r, ↓W_some, ↓W_atI0, ↓W_atI1, ↓W_atI2, ↓W_atI3, ↓W_atI4, ↓W_atI5, ↓W_atI6, ↓W_atI7, ↓W_atI8, ↓W_atI9, ↓W_atI10, ↓W_atI11, ↓W_atI12, ↓W_seqS, ↓W_asgS, ↓W_exprS, ↓W_retS, ↓W_retN, ↓W_brkS, ↓W_cntS, ↓W_nextS, ↓W_ifS, ↓W_forS, ↓W_par2, ↓W_par3, ↓W_nameG, ↓W_tupG, ↓W_consG, ↓W_nilG, ↓W_subG, ↓W_setO0, ↓W_setOs, ↓SETL_0, ↓SETL_s, ↓IXN_0, ↓IXN_1, ↓IXN_2, ↓IXN_3, ↓IXN_nat, ↓W_var0, ↓W_vars, ↓W_cM, ↓W_binM, ↓W_unM, ↓W_negM, ↓W_nilA, ↓W_consA, ↓W_callM, ↓W_tupM, ↓W_lstM, ↓W_lstMt, ↓W_slcM, ↓W_part0, ↓W_parts, ↓W_slOt, ↓W_slOl, ↓W_slOr, ↓W_ifM, ↓W_truM, ↓W_bolM, ↓W_andT, ↓W_orT, ↓W_notT, ↓W_andE, ↓W_orE, ↓W_notE, ↓W_mthL, ↓W_lstFr, ↓W_dctM, ↓W_dctMt, ↓W_nilK, ↓W_consK, ↓W_kwM, ↓W_maxdM, ↓W_sort2M, ↓W_listRgM, ↓W_listRgMt, ↓W_lcM, ↓W_rng1I, ↓W_seqI, ↓W_addI, ↓W_addT, ↓W_addL, ↓W_addLt, ↓W_subI, ↓W_mulI, ↓W_mulL, ↓W_fdiv, ↓W_mod, ↓W_pow, ↓W_cmp, ↓W_is, ↓W_isNot, ↓W_eqi, ↓W_eqis, ↓W_eqb, ↓W_nei, ↓W_neis, ↓W_neb, ↓W_itT, ↓W_itL, ↓W_itF, ↓W_itD, ↓W_one, ↓W_lenL, ↓W_lenT, ↓W_lenF, ↓W_intI, ↓W_intB, ↓W_absI, ↓W_max2, ↓W_min2, ↓W_tupCl, ↓W_tupCr, ↓W_tupCt, ↓W_lstCf, ↓W_lstCl, ↓W_truL, ↓W_truT, ↓W_truB, ↓W_yesT, ↓W_itR0, ↓W_itRs, ↓H82.W_defC, ↓W_dget_hit, ↓W_dget_miss, ↓W_eqs_t, ↓W_eqs_f, ↓W_nes_t, ↓W_nes_f, ↓W_isiST, ↓W_isiIT, ↓W_isiTT, ↓W_isiIS, ↓W_isiIB, ↓W_isiII, ↓W_memT', ↓W_listRg2M, ↓W_rng2I, ↓RNG2_i, ↓W_lstAt_end, ↓W_apps, ↓W_app_end, ↓W_memLd, ↓W_notMemLd, ↓MEMD_nil, ↓MEMD_hit, ↓MEMD_miss, List.length_cons, List.length_nil, List.length_map, Nat.reduceAdd, Nat.reduceLT, Nat.reduceLeDiff, Nat.zero_add, List.append_nil, List.nil_append, List.cons_append, Nat.reduceBEq, Int.reduceBEq, Nat.reduceEqDiff, beq_self_eq_true, true_and, and_true, Bool.not_true, Bool.not_false, Bool.or_true, Bool.true_or, H82.sm1, H82.sm2, H82.sm3, H82.p18, ne_eq, not_false_eq_true, Int.reduceEq, reduceCtorEq, List.isEmpty_nil, List.isEmpty_cons, List.all_cons, List.all_nil, isSym_s, List.any_cons, List.any_nil, eqv_sym, Bool.or_false, Bool.false_or, Bool.and_self, Int.reduceLT, Int.reduceAdd, Int.reduceSub, decide_true, decide_false, ↓sc_names, ↓sc_shared, ↓sc_privates, ↓sc_fields, ↓sc_slots, ↓sc_program, ↓sc_calls, sNm_e, sSh_e, sNm_l, sSh_l, bigN])
/-! the ways of a code that is laid out -/
def outs : Ins → Nat → List Nat
  | .jmp n, _ => [n]
  | .unl _ n, p => [p + 1, n]
  | .row d, p => if headW d == 23 then [] else [p + 1]
theorem waysE_outs {cs : List Ins} {p : Nat} : waysE cs p = match cs[p]? with
    | none => []
    | some i => outs i p := by
  unfold waysE
  cases cs[p]? with
  | none => rfl
  | some i => cases i <;> rfl
def Ed (l : List Ins) (a x y : Nat) : Prop := ∃ i, a ≤ x ∧ l[x - a]? = some i ∧ y ∈ outs i x
theorem Ed_ways {cs : List Ins} {x y : Nat} : y ∈ waysE cs x ↔ Ed cs 0 x y := by
  rw [waysE_outs]
  unfold Ed
  rw [Nat.sub_zero]
  cases cs[x]? with
  | none => simp
  | some i => simp
def StAt (l : List Ins) (a y : Nat) : Prop := a ≤ y ∧ ∃ d, l[y - a]? = some (.row d) ∧ isStep d
theorem Ed.lt {l : List Ins} {a x y : Nat} (h : Ed l a x y) : a ≤ x ∧ x < a + l.length := by
  obtain ⟨i, h1, h2, _⟩ := h
  obtain ⟨h3, _⟩ := List.getElem?_eq_some_iff.mp h2
  omega
theorem StAt.lt {l : List Ins} {a x : Nat} (h : StAt l a x) : a ≤ x ∧ x < a + l.length := by
  obtain ⟨h1, d, h2, _⟩ := h
  obtain ⟨h3, _⟩ := List.getElem?_eq_some_iff.mp h2
  omega
theorem Ed_app {l m : List Ins} {a x y : Nat} : Ed (l ++ m) a x y ↔ Ed l a x y ∨ Ed m (a + l.length) x y := by
  constructor
  · rintro ⟨i, h1, h2, h3⟩
    by_cases h : x - a < l.length
    · exact .inl ⟨i, h1, by rw [← h2, List.getElem?_append_left h], h3⟩
    · exact .inr ⟨i, by omega, by rw [← h2, List.getElem?_append_right (by omega)]; congr 1; omega, h3⟩
  · rintro (h | h)
    · have := h.lt
      obtain ⟨i, h1, h2, h3⟩ := h
      exact ⟨i, h1, by rw [List.getElem?_append_left (by omega)]; exact h2, h3⟩
    · have := h.lt
      obtain ⟨i, h1, h2, h3⟩ := h
      exact ⟨i, by omega, by rw [List.getElem?_append_right (by omega), ← h2]; congr 1; omega, h3⟩
theorem StAt_left {l m : List Ins} {a y : Nat} (h : StAt l a y) : StAt (l ++ m) a y := by
  have := h.lt
  obtain ⟨h1, d, h2, h3⟩ := h
  exact ⟨h1, d, by rw [List.getElem?_append_left (by omega)]; exact h2, h3⟩
theorem StAt_right {l m : List Ins} {a y : Nat} (h : StAt m (a + l.length) y) : StAt (l ++ m) a y := by
  obtain ⟨h1, d, h2, h3⟩ := h
  exact ⟨by omega, d, by rw [List.getElem?_append_right (by omega), ← h2]; congr 1; omega, h3⟩
structure Gd (X : Nat → Prop) (a : Nat) (l : List Ins) : Prop where
  g1 : ∀ x y, Ed l a x y → (a ≤ y ∧ y ≤ a + l.length) ∨ X y
  g2 : ∀ x y, Ed l a x y → y ≤ x → StAt l a y
  g3 : ∀ u v, Ed l a u v → v ≤ u → ∀ x y, Ed l a x y → v < y → y ≤ u → v ≤ x ∧ x ≤ u
/-- no jump back goes around t -/
def Bd (a : Nat) (l : List Ins) (t : Nat) : Prop := ∀ u v, Ed l a u v → v ≤ u → ¬ (v < t ∧ t ≤ u)
theorem Gd_app {X X1 X2 : Nat → Prop} {a : Nat} {l m : List Ins} (G1 : Gd X1 a l) (G2 : Gd X2 (a + l.length) m)
    (h1 : ∀ y, X1 y → a + l.length ≤ y ∧ ((y ≤ a + l.length + m.length ∧ Bd (a + l.length) m y) ∨ X y)) (h2 : ∀ y, X2 y → X y) (h3 : ∀ y, X y → a + l.length + m.length ≤ y) : Gd X a (l ++ m) := by
  refine ⟨fun x y h => ?_, fun x y h hy => ?_, fun u v huv hle x y hxy hvy hyu => ?_⟩
  · rw [List.length_append]
    rcases Ed_app.mp h with h | h
    · rcases G1.g1 x y h with h | h
      · exact .inl (by omega)
      · obtain ⟨h4, h5 | h5⟩ := h1 y h
        · exact .inl (by omega)
        · exact .inr h5
    · rcases G2.g1 x y h with h | h
      · exact .inl (by omega)
      · exact .inr (h2 y h)
  · rcases Ed_app.mp h with h | h
    · exact StAt_left (G1.g2 x y h hy)
    · exact StAt_right (G2.g2 x y h hy)
  · rcases Ed_app.mp huv with huv | huv <;> rcases Ed_app.mp hxy with hxy | hxy
    · exact G1.g3 u v huv hle x y hxy hvy hyu
    · have e1 := huv.lt
      exfalso
      rcases G2.g1 x y hxy with h | h
      · omega
      · have := h3 y (h2 y h)
        omega
    · have e1 := huv.lt
      have e2 := (G2.g2 u v huv hle).lt
      exfalso
      rcases G1.g1 x y hxy with h | h
      · omega
      · obtain ⟨h4, ⟨_, h5⟩ | h5⟩ := h1 y h
        · exact h5 u v huv hle ⟨hvy, hyu⟩
        · have := h3 y h5
          omega
    · exact G2.g3 u v huv hle x y hxy hvy hyu
theorem Ed_one {i : Ins} {a x y : Nat} : Ed [i] a x y ↔ x = a ∧ y ∈ outs i a := by
  constructor
  · intro h
    have := h.lt
    obtain ⟨j, h1, h2, h3⟩ := h
    have e : x = a := by rw [List.length_singleton] at this; omega
    subst e
    rw [Nat.sub_self] at h2
    cases h2
    exact ⟨rfl, h3⟩
  · rintro ⟨rfl, h⟩
    exact ⟨i, Nat.le_refl _, by rw [Nat.sub_self]; rfl, h⟩
/-- one row whose ways go on -/
theorem Gd_one {X : Nat → Prop} {a : Nat} {i : Ins} (h : ∀ y ∈ outs i a, a < y ∧ (y = a + 1 ∨ X y)) : Gd X a [i] := by
  refine ⟨fun x y hxy => ?_, fun x y hxy hle => ?_, fun u v huv hle => ?_⟩
  · obtain ⟨rfl, hy⟩ := Ed_one.mp hxy
    rcases (h y hy).2 with e | e
    · exact .inl (by rw [List.length_singleton]; omega)
    · exact .inr e
  · obtain ⟨rfl, hy⟩ := Ed_one.mp hxy
    have := (h y hy).1
    omega
  · obtain ⟨rfl, hy⟩ := Ed_one.mp huv
    have := (h v hy).1
    omega
theorem Gd_nil {X : Nat → Prop} {a : Nat} : Gd X a [] := by
  have no : ∀ x y, ¬ Ed [] a x y := fun x y h => by
    have := h.lt
    rw [List.length_nil] at this
    omega
  exact ⟨fun x y h => absurd h (no x y), fun x y h => absurd h (no x y), fun x y h => absurd h (no x y)⟩
theorem Gd_loop {a : Nat} {l : List Ins} {X : Nat → Prop} (G : Gd (fun y => y = a + l.length + 1) a l) (h0 : StAt l a a) : Gd X a (l ++ [.jmp a]) := by
  have e : ∀ x y, Ed (l ++ [.jmp a]) a x y ↔ Ed l a x y ∨ (x = a + l.length ∧ y = a) := fun x y => by
    rw [Ed_app, Ed_one]
    simp [outs]
  refine ⟨fun x y h => ?_, fun x y h hy => ?_, fun u v huv hle x y hxy hvy hyu => ?_⟩
  · rw [List.length_append, List.length_singleton]
    rcases (e x y).mp h with h | ⟨rfl, rfl⟩
    · rcases G.g1 x y h with h | h <;> exact .inl (by omega)
    · exact .inl (by omega)
  · rcases (e x y).mp h with h | ⟨rfl, rfl⟩
    · exact StAt_left (G.g2 x y h hy)
    · exact StAt_left h0
  · rcases (e u v).mp huv with huv | ⟨rfl, rfl⟩ <;> rcases (e x y).mp hxy with hxy | ⟨rfl, rfl⟩
    · exact G.g3 u v huv hle x y hxy hvy hyu
    · have := (G.g2 u v huv hle).lt
      omega
    · have := hxy.lt
      omega
    · omega
def Xo (lp : Bool) (o : Nat) : Nat → Prop := fun y => lp = true ∧ y = o
theorem row_out {X : Nat → Prop} {d : D} {a y : Nat} (h : y ∈ outs (.row d) a) : a < y ∧ (y = a + 1 ∨ X y) := by
  have e : outs (.row d) a = if headW d == 23 then [] else [a + 1] := rfl
  rw [e] at h
  by_cases c : (headW d == 23) = true
  · rw [if_pos c] at h; cases h
  · rw [if_neg c] at h
    rw [List.mem_singleton.mp h]
    exact ⟨by omega, .inl rfl⟩
mutual
theorem gd_of {lp : Bool} : ∀ (n : Nat) (s : Stm) (_ : WF lp n s) (a o : Nat) (_ : lp = true → a + longOf s ≤ o), Gd (Xo lp o) a (codeOf s a o)
  | 0, .cond _ _ _, h, _, _, _ => h.elim
  | 0, .loop _, h, _, _, _ => h.elim
  | n + 1, .cond t y [], h, a, o, ho => by
    obtain ⟨h1, h2, h3⟩ := h
    have hlo : longOf (.cond t y []) = 1 + longs y := by simp [longOf, longs]
    have Gy := gds_of n y h2 (a + 1) o fun h => by have := ho h; omega
    have e : codeOf (.cond t y []) a o = [.unl t (a + 1 + longs y)] ++ codes y (a + 1) o := by
      simp [codeOf, dl]
    rw [e]
    refine Gd_app (X1 := fun z => z = a + 1 + longs y) (X2 := Xo lp o) (Gd_one fun z hz => ?_) Gy (fun z hz => ?_) (fun z hz => hz) (fun z hz => ?_)
    · simp only [outs, List.mem_cons, List.not_mem_nil, or_false] at hz
      omega
    · subst hz
      rw [List.length_singleton, codes_len]
      refine ⟨by omega, .inl ⟨Nat.le_refl _, fun u v huv hle => ?_⟩⟩
      have := huv.lt
      rw [codes_len] at this
      omega
    · have := ho hz.1
      rw [List.length_singleton, codes_len, hz.2]
      omega
  | n + 1, .cond t y (z0 :: no), h, a, o, ho => by
    obtain ⟨h1, h2, h3⟩ := h
    have hlo : longOf (.cond t y (z0 :: no)) = 1 + longs y + longs (z0 :: no) + 1 := by
      unfold longOf
      rw [if_pos (show (z0 :: no).length > 0 from Nat.zero_lt_succ _)]
    have hdl : dl (z0 :: no) = 1 := if_pos (Nat.zero_lt_succ _)
    generalize hz : z0 :: no = nn at h3 hlo hdl
    have Gy := gds_of n y h2 (a + 1) o fun h => by have := ho h; rw [hz] at this; omega
    have Gn := gds_of n nn h3 (a + 1 + longs y + 1) o fun h => by have := ho h; rw [hz] at this; omega
    have e : codeOf (.cond t y nn) a o = [.unl t (a + 1 + longs y + 1)] ++ (codes y (a + 1) o ++ ([.jmp (a + 1 + longs y + 1 + longs nn)] ++ codes nn (a + 1 + longs y + 1) o)) := by
      subst hz
      unfold codeOf
      rw [hdl]
      rfl
    rw [e]
    have G3 : Gd (Xo lp o) (a + 1 + longs y) ([.jmp (a + 1 + longs y + 1 + longs nn)] ++ codes nn (a + 1 + longs y + 1) o) := by
      refine Gd_app (X1 := fun w => w = a + 1 + longs y + 1 + longs nn) (X2 := Xo lp o) (Gd_one fun w hw => ?_) Gn (fun w hw => ?_) (fun w hw => hw) (fun w hw => ?_)
      · simp only [outs, List.mem_cons, List.not_mem_nil, or_false] at hw
        omega
      · subst hw
        rw [List.length_singleton, codes_len]
        refine ⟨by omega, .inl ⟨Nat.le_refl _, fun u v huv hle => ?_⟩⟩
        have := huv.lt
        rw [codes_len] at this
        omega
      · have := ho hw.1
        rw [List.length_singleton, codes_len, hw.2]
        rw [hz] at this
        omega
    have G2 : Gd (Xo lp o) (a + 1) (codes y (a + 1) o ++ ([.jmp (a + 1 + longs y + 1 + longs nn)] ++ codes nn (a + 1 + longs y + 1) o)) := by
      have ex : ∀ w, Xo lp o w → a + 1 + (codes y (a + 1) o).length + ([Ins.jmp (a + 1 + longs y + 1 + longs nn)] ++ codes nn (a + 1 + longs y + 1) o).length ≤ w := fun w hw => by
        have := ho hw.1
        rw [List.length_append, List.length_singleton, codes_len, codes_len, hw.2]
        rw [hz] at this
        omega
      refine Gd_app (X1 := Xo lp o) (X2 := Xo lp o) Gy (by rw [codes_len]; exact G3) (fun w hw => ⟨by have := ex w hw; omega, .inr hw⟩) (fun w hw => hw) ex
    refine Gd_app (X1 := fun w => w = a + 1 + longs y + 1) (X2 := Xo lp o) (Gd_one fun w hw => ?_) G2 (fun w hw => ?_) (fun w hw => hw) (fun w hw => ?_)
    · simp only [outs, List.mem_cons, List.not_mem_nil, or_false] at hw
      omega
    · subst hw
      rw [List.length_singleton]
      refine ⟨by omega, .inl ⟨by rw [List.length_append, List.length_append, List.length_singleton, codes_len, codes_len]; omega, fun u v huv hle => ?_⟩⟩
      rcases Ed_app.mp huv with h | h
      · have := h.lt
        rw [codes_len] at this
        omega
      rw [codes_len] at h
      rcases Ed_app.mp h with h | h
      · obtain ⟨rfl, hv⟩ := Ed_one.mp h
        omega
      · have := (Gn.g2 u v h hle).lt
        omega
    · have := ho hw.1
      rw [List.length_singleton, List.length_append, List.length_append, List.length_singleton, codes_len, codes_len, hw.2]
      rw [hz] at this
      omega
  | n + 1, .loop b, h, a, o, ho => by
    obtain ⟨⟨d, r, e, hd⟩, h2⟩ := h
    have G := gds_of n b h2 a (a + longs b + 1) fun _ => by omega
    have e0 : codeOf (.loop b) a o = codes b a (a + longs b + 1) ++ [.jmp a] := by simp only [codeOf]
    rw [e0]
    refine Gd_loop ?_ ⟨Nat.le_refl a, d, ?_, hd⟩
    · rw [codes_len]
      exact ⟨fun x y h => (G.g1 x y h).imp id fun h => h.2, G.g2, G.g3⟩
    · rw [Nat.sub_self, e, codes_cons]
      simp [codeOf]
  | 0, .brk, h, a, o, ho => by
    have ho := ho h
    simp only [longOf] at ho
    simp only [codeOf]
    exact Gd_one fun y hy => by
      simp only [outs, List.mem_cons, List.not_mem_nil, or_false] at hy
      exact ⟨by omega, .inr ⟨h, hy⟩⟩
  | n + 1, .brk, h, a, o, ho => by
    have ho := ho h
    simp only [longOf] at ho
    simp only [codeOf]
    exact Gd_one fun y hy => by
      simp only [outs, List.mem_cons, List.not_mem_nil, or_false] at hy
      exact ⟨by omega, .inr ⟨h, hy⟩⟩
  | 0, .row d, h, a, o, ho => by
    simp only [codeOf]
    exact Gd_one fun y hy => by
      exact row_out hy
  | n + 1, .row d, h, a, o, ho => by
    simp only [codeOf]
    exact Gd_one fun y hy => by
      exact row_out hy
theorem gds_of {lp : Bool} : ∀ (n : Nat) (ss : List Stm) (_ : WFs lp n ss) (a o : Nat) (_ : lp = true → a + longs ss ≤ o), Gd (Xo lp o) a (codes ss a o)
  | _, [], _, a, o, _ => by
    have e : codes [] a o = [] := by simp only [codes]
    rw [e]
    exact Gd_nil
  | n, s :: ss, h, a, o, ho => by
    rw [codes_cons]
    rw [longs_cons] at ho
    have ex : ∀ w, Xo lp o w → a + (codeOf s a o).length + (codes ss (a + longOf s) o).length ≤ w := fun w hw => by
      have := ho hw.1
      rw [codeOf_len, codes_len, hw.2]
      omega
    exact Gd_app (X1 := Xo lp o) (X2 := Xo lp o) (gd_of n s h.1 a o fun h => by have := ho h; omega) (by rw [codeOf_len]; exact gds_of n ss h.2 (a + longOf s) o fun h => by have := ho h; omega) (fun w hw => ⟨by have := ex w hw; omega, .inr hw⟩) (fun w hw => hw) ex
end
def costA (cs : List Ins) (p : Nat) : Nat := match cs[p]? with
  | some i => cost i
  | none => 0
theorem step_costs {d : D} (h : isStep d) : cost (.row d) = 1 ∨ (headW d == 23) = true := by
  obtain ⟨w, hw, r, rfl, _⟩ := h
  have all : ∀ w ∈ stepWords, (if w == 4 || w == 5 || w == 23 then 0 else 1) = 1 ∨ (w == 23) = true := by decide
  exact all w hw
theorem cost_le (i : Ins) : cost i ≤ 1 := by
  cases i with
  | jmp _ => exact Nat.zero_le _
  | unl _ _ => exact Nat.zero_le _
  | row d =>
    show (if headW d == 4 || headW d == 5 || headW d == 23 then 0 else 1) ≤ 1
    by_cases h : (headW d == 4 || headW d == 5 || headW d == 23) = true
    · rw [if_pos h]; exact Nat.zero_le _
    · rw [if_neg h]; exact Nat.le_refl _
theorem costA_le (cs : List Ins) (p : Nat) : costA cs p ≤ 1 := by
  unfold costA
  split
  · exact cost_le _
  · omega
theorem costA_end (cs : List Ins) : costA cs cs.length = 0 := by
  unfold costA
  rw [List.getElem?_eq_none (Nat.le_refl _)]
section
variable {n : Nat} {ss : List Stm} (hw : WFs false n ss)
include hw
theorem ways_in : ∀ x y, y ∈ waysE (codes ss 0 0) x → x < (codes ss 0 0).length ∧ y ≤ (codes ss 0 0).length := fun x y h => by
  have h := Ed_ways.mp h
  have h1 := h.lt
  rcases (gds_of n ss hw 0 0 (fun h => nomatch h)).g1 x y h with h2 | ⟨h2, _⟩
  · omega
  · cases h2
theorem ways_back : ∀ x y, y ∈ waysE (codes ss 0 0) x → y ≤ x → costA (codes ss 0 0) y = 1 ∨ waysE (codes ss 0 0) y = [] := fun x y h hle => by
  obtain ⟨_, d, h1, h2⟩ := (gds_of n ss hw 0 0 (fun h => nomatch h)).g2 x y (Ed_ways.mp h) hle
  rw [Nat.sub_zero] at h1
  unfold costA waysE
  rw [h1]
  rcases step_costs h2 with e | e
  · exact .inl e
  · exact .inr (if_pos e)
theorem ways_loop : ∀ u v, v ∈ waysE (codes ss 0 0) u → v ≤ u → ∀ x y, y ∈ waysE (codes ss 0 0) x → v < y → y ≤ u → v ≤ x ∧ x ≤ u := fun u v h hle x y h2 =>
  (gds_of n ss hw 0 0 (fun h => nomatch h)).g3 u v (Ed_ways.mp h) hle x y (Ed_ways.mp h2)
end
mutual
theorem ins_of {lp : Bool} : ∀ (n : Nat) (s : Stm) (_ : WF lp n s) (a o M : Nat) (_ : a + longOf s ≤ M) (_ : o ≤ M), ∀ i ∈ codeOf s a o, InsOk M i
  | 0, .cond _ _ _, h, _, _, _, _, _ => h.elim
  | 0, .loop _, h, _, _, _, _, _ => h.elim
  | n + 1, .cond t y no, h, a, o, M, ha, ho => by
    obtain ⟨h1, h2, h3⟩ := h
    have hlo : longOf (.cond t y no) = 1 + longs y + longs no + dl no := by unfold longOf dl; rfl
    intro i hi
    unfold codeOf at hi
    rcases List.mem_cons.mp hi with rfl | hi
    · exact ⟨h1, by omega⟩
    rcases List.mem_append.mp hi with hi | hi
    · exact inss_of n y h2 (a + 1) o M (by omega) ho i hi
    cases no with
    | nil => cases hi
    | cons z no =>
      rcases List.mem_cons.mp hi with rfl | hi
      · show _ ≤ M
        omega
      · exact inss_of n (z :: no) h3 _ o M (by omega) ho i hi
  | n + 1, .loop b, h, a, o, M, ha, ho => by
    have hlo : longOf (.loop b) = 1 + longs b := by unfold longOf; rfl
    intro i hi
    unfold codeOf at hi
    rcases List.mem_append.mp hi with hi | hi
    · exact inss_of n b h.2 a (a + longs b + 1) M (by omega) (by omega) i hi
    · rw [List.mem_singleton.mp hi]
      show a ≤ M
      omega
  | 0, .brk, h, a, o, M, ha, ho => by
    intro i hi
    unfold codeOf at hi
    rw [List.mem_singleton.mp hi]
    exact ho
  | n + 1, .brk, h, a, o, M, ha, ho => by
    intro i hi
    unfold codeOf at hi
    rw [List.mem_singleton.mp hi]
    exact ho
  | 0, .row d, h, a, o, M, ha, ho => by
    intro i hi
    unfold codeOf at hi
    rw [List.mem_singleton.mp hi]
    exact h
  | n + 1, .row d, h, a, o, M, ha, ho => by
    intro i hi
    unfold codeOf at hi
    rw [List.mem_singleton.mp hi]
    exact h
theorem inss_of {lp : Bool} : ∀ (n : Nat) (ss : List Stm) (_ : WFs lp n ss) (a o M : Nat) (_ : a + longs ss ≤ M) (_ : o ≤ M), ∀ i ∈ codes ss a o, InsOk M i
  | _, [], _, a, o, M, _, _ => by
    intro i hi
    unfold codes at hi
    cases hi
  | n, s :: ss, h, a, o, M, ha, ho => by
    have hlo : longs (s :: ss) = longOf s + longs ss := by simp only [longs]
    intro i hi
    unfold codes at hi
    rcases List.mem_append.mp hi with hi | hi
    · exact ins_of n s h.1 a o M (by omega) ho i hi
    · exact inss_of n ss h.2 _ o M (by omega) ho i hi
end
theorem ins_ok {n : Nat} {ss : List Stm} (hw : WFs false n ss) : ∀ i ∈ codes ss 0 0, InsOk (codes ss 0 0).length i :=
  inss_of n ss hw 0 0 _ (by rw [codes_len]; omega) (Nat.zero_le _)
end H82
set_option Elab.async false
set_option linter.all false
set_option maxRecDepth 100000
set_option maxHeartbeats 4000000
set_option autoImplicit false
namespace H82
open PySem PySem.Spec PyProof.Rows L2 Mn
local macro_rules
  | `(tactic| simp? only [$ls,*]) => `(tactic| simp only [$ls,*, ↓br_t, ↓br_f, ↓KS_nx, ↓KS_ret, ↓KS_brk, ↓KS_cnt, ↓LQ_nx, ↓LQ_cnt, ↓LQ_brk, ↓LQ_ret, ↓EX_nx, ↓EX_ret, ↓SETE_0, ↓SETE_s, ↓BL_b, ↓INT_i, ↓KEY_s, ↓NL_0, ↓NL_s, ↓W_lstAt0, ↓W_lstAts, ↓W_at0, ↓W_ats, ↓PAR2_c, ↓PAR3_c, ↓RNG_i, ↓SEQ_l, ↓SEQ_f, ↓SEQ_t, ↓SEQ_r, ↓W_some, ↓W_atI0, ↓W_atI1, ↓W_atI2, ↓W_atI3, ↓W_atI4, ↓W_atI5, ↓W_atI6, ↓W_atI7, ↓W_atI8, ↓W_atI9, ↓W_atI10, ↓W_atI11, ↓W_atI12, ↓W_seqS, ↓W_asgS, ↓W_exprS, ↓W_retS, ↓W_retN, ↓W_brkS, ↓W_cntS, ↓W_nextS, ↓W_ifS, ↓W_forS, ↓W_par2, ↓W_par3, ↓W_nameG, ↓W_tupG, ↓W_consG, ↓W_nilG, ↓W_subG, ↓W_setO0, ↓W_setOs, ↓SETL_0, ↓SETL_s, ↓IXN_0, ↓IXN_1, ↓IXN_2, ↓IXN_3, ↓IXN_nat, ↓W_var0, ↓W_vars, ↓W_cM, ↓W_binM, ↓W_unM, ↓W_negM, ↓W_nilA, ↓W_consA, ↓W_callM, ↓W_tupM, ↓W_lstM, ↓W_lstMt, ↓W_slcM, ↓W_part0, ↓W_parts, ↓W_slOt, ↓W_slOl, ↓W_slOr, ↓W_ifM, ↓W_truM, ↓W_bolM, ↓W_andT, ↓W_orT, ↓W_notT, ↓W_andE, ↓W_orE, ↓W_notE, ↓W_mthL, ↓W_lstFr, ↓W_dctM, ↓W_dctMt, ↓W_nilK, ↓W_consK, ↓W_kwM, ↓W_maxdM, ↓W_sort2M, ↓W_listRgM, ↓W_listRgMt, ↓W_lcM, ↓W_rng1I, ↓W_seqI, ↓W_addI, ↓W_addT, ↓W_addL, ↓W_addLt, ↓W_subI, ↓W_mulI, ↓W_mulL, ↓W_fdiv, ↓W_mod, ↓W_pow, ↓W_cmp, ↓W_is, ↓W_isNot, ↓W_eqi, ↓W_eqis, ↓W_eqb, ↓W_nei, ↓W_neis, ↓W_neb, ↓W_itT, ↓W_itL, ↓W_itF, ↓W_itD, ↓W_one, ↓W_lenL, ↓W_lenT, ↓W_lenF, ↓W_intI, ↓W_intB, ↓W_absI, ↓W_max2, ↓W_min2, ↓W_tupCl, ↓W_tupCr, ↓W_tupCt, ↓W_lstCf, ↓W_lstCl, ↓W_truL, ↓W_truT, ↓W_truB, ↓W_yesT, ↓W_itR0, ↓W_itRs, ↓H82.W_defC, ↓W_dget_hit, ↓W_dget_miss, ↓W_eqs_t, ↓W_eqs_f, ↓W_nes_t, ↓W_nes_f, ↓W_isiST, ↓W_isiIT, ↓W_isiTT, ↓W_isiIS, ↓W_isiIB, ↓W_isiII, ↓W_memT', ↓W_listRg2M, ↓W_rng2I, ↓RNG2_i, ↓W_lstAt_end, ↓W_apps, ↓W_app_end, ↓W_memLd, ↓W_notMemLd, ↓MEMD_nil, ↓MEMD_hit, ↓MEMD_miss, List.length_cons, List.length_nil, List.length_map, Nat.reduceAdd, Nat.reduceLT, Nat.reduceLeDiff, Nat.zero_add, List.append_nil, List.nil_append, List.cons_append, Nat.reduceBEq, Int.reduceBEq, Nat.reduceEqDiff, beq_self_eq_true, true_and, and_true, Bool.not_true, Bool.not_false, Bool.or_true, Bool.true_or, H82.sm1, H82.sm2, H82.sm3, H82.p18, ne_eq, not_false_eq_true, Int.reduceEq, reduceCtorEq, List.isEmpty_nil, List.isEmpty_cons, List.all_cons, List.all_nil, isSym_s, List.any_cons, List.any_nil, eqv_sym, Bool.or_false, Bool.false_or, Bool.and_self, Int.reduceLT, Int.reduceAdd, Int.reduceSub, decide_true, decide_false])
local macro_rules
  | `(tactic| simp? [$ls,*]) => `(tactic| simp only [$ls,*, ↓br_t, ↓br_f, ↓KS_nx, ↓KS_ret, ↓KS_brk, ↓KS_cnt, ↓LQ_nx, ↓LQ_cnt, ↓LQ_brk, ↓LQ_ret, ↓EX_nx, ↓EX_ret, ↓SETE_0, ↓SETE_s, ↓BL_b, ↓INT_i, ↓KEY_s, ↓NL_0, ↓NL_s, ↓W_lstAt0, ↓W_lstAts, ↓W_at0, ↓W_ats, ↓PAR2_c, ↓PAR3_c, ↓RNG_i, ↓SEQ_l, ↓SEQ_f, ↓SEQ_t, ↓SEQ_r, ↓W_some, ↓W_atI0, ↓W_atI1, ↓W_atI2, ↓W_atI3, ↓W_atI4, ↓W_atI5, ↓W_atI6, ↓W_atI7, ↓W_atI8, ↓W_atI9, ↓W_atI10, ↓W_atI11, ↓W_atI12, ↓W_seqS, ↓W_asgS, ↓W_exprS, ↓W_retS, ↓W_retN, ↓W_brkS, ↓W_cntS, ↓W_nextS, ↓W_ifS, ↓W_forS, ↓W_par2, ↓W_par3, ↓W_nameG, ↓W_tupG, ↓W_consG, ↓W_nilG, ↓W_subG, ↓W_setO0, ↓W_setOs, ↓SETL_0, ↓SETL_s, ↓IXN_0, ↓IXN_1, ↓IXN_2, ↓IXN_3, ↓IXN_nat, ↓W_var0, ↓W_vars, ↓W_cM, ↓W_binM, ↓W_unM, ↓W_negM, ↓W_nilA, ↓W_consA, ↓W_callM, ↓W_tupM, ↓W_lstM, ↓W_lstMt, ↓W_slcM, ↓W_part0, ↓W_parts, ↓W_slOt, ↓W_slOl, ↓W_slOr, ↓W_ifM, ↓W_truM, ↓W_bolM, ↓W_andT, ↓W_orT, ↓W_notT, ↓W_andE, ↓W_orE, ↓W_notE, ↓W_mthL, ↓W_lstFr, ↓W_dctM, ↓W_dctMt, ↓W_nilK, ↓W_consK, ↓W_kwM, ↓W_maxdM, ↓W_sort2M, ↓W_listRgM, ↓W_listRgMt, ↓W_lcM, ↓W_rng1I, ↓W_seqI, ↓W_addI, ↓W_addT, ↓W_addL, ↓W_addLt, ↓W_subI, ↓W_mulI, ↓W_mulL, ↓W_fdiv, ↓W_mod, ↓W_pow, ↓W_cmp, ↓W_is, ↓W_isNot, ↓W_eqi, ↓W_eqis, ↓W_eqb, ↓W_nei, ↓W_neis, ↓W_neb, ↓W_itT, ↓W_itL, ↓W_itF, ↓W_itD, ↓W_one, ↓W_lenL, ↓W_lenT, ↓W_lenF, ↓W_intI, ↓W_intB, ↓W_absI, ↓W_max2, ↓W_min2, ↓W_tupCl, ↓W_tupCr, ↓W_tupCt, ↓W_lstCf, ↓W_lstCl, ↓W_truL, ↓W_truT, ↓W_truB, ↓W_yesT, ↓W_itR0, ↓W_itRs, ↓H82.W_defC, ↓W_dget_hit, ↓W_dget_miss, ↓W_eqs_t, ↓W_eqs_f, ↓W_nes_t, ↓W_nes_f, ↓W_isiST, ↓W_isiIT, ↓W_isiTT, ↓W_isiIS, ↓W_isiIB, ↓W_isiII, ↓W_memT', ↓W_listRg2M, ↓W_rng2I, ↓RNG2_i, ↓W_lstAt_end, ↓W_apps, ↓W_app_end, ↓W_memLd, ↓W_notMemLd, ↓MEMD_nil, ↓MEMD_hit, ↓MEMD_miss, List.length_cons, List.length_nil, List.length_map, Nat.reduceAdd, Nat.reduceLT, Nat.reduceLeDiff, Nat.zero_add, List.append_nil, List.nil_append, List.cons_append, Nat.reduceBEq, Int.reduceBEq, Nat.reduceEqDiff, beq_self_eq_true, true_and, and_true, Bool.not_true, Bool.not_false, Bool.or_true, Bool.true_or, H82.sm1, H82.sm2, H82.sm3, H82.p18, ne_eq, not_false_eq_true, Int.reduceEq, reduceCtorEq, List.isEmpty_nil, List.isEmpty_cons, List.all_cons, List.all_nil, isSym_s, List.any_cons, List.any_nil, eqv_sym, Bool.or_false, Bool.false_or, Bool.and_self, Int.reduceLT, Int.reduceAdd, Int.reduceSub, decide_true, decide_false, ↓sc_names, ↓sc_shared, ↓sc_privates, ↓sc_fields, ↓sc_slots, ↓sc_program, ↓sc_calls, sNm_e, sSh_e, sNm_l, sSh_l, bigN])
/-- items of a comprehension, one by one -/
theorem lcL_det {tg : GM} {t : TM} {e : EM} {wenv : Mn.Env} {st : Store} (φ : D → Option D) : ∀ (items : List D), (∀ d ∈ items, W (tg d wenv st) fun p => W (t p.1 p.2) fun q => br q.1 (W (e p.1 q.2) fun x => φ d = some x.1 ∧ x.2 = st) (φ d = none ∧ q.2 = st)) → W (lcL (fun _ => true) tg t e wenv items st) fun q => q = (items.filterMap φ, st)
  | [], _ => by
    unfold lcL
    rw [if_pos rfl]
    exact ⟨_, rfl, rfl⟩
  | d :: items, h => by
    obtain ⟨⟨e1, s1⟩, h2, ⟨b, s2⟩, h3, h4⟩ := h d List.mem_cons_self
    have ih := lcL_det φ items fun x hx => h x (List.mem_cons_of_mem _ hx)
    unfold lcL
    rw [if_pos rfl, h2, Option.bind_some, h3, Option.bind_some]
    cases b with
    | false =>
      obtain ⟨h5, h6⟩ := h4
      dsimp only at h6
      subst h6
      refine ih.mono fun q hq => ?_
      rw [hq, List.filterMap_cons, h5]
    | true =>
      obtain ⟨⟨x, s3⟩, h5, h6, h7⟩ := h4
      dsimp only at h6 h7
      subst h7
      dsimp only
      rw [if_pos rfl, h5, Option.bind_some, W_map]
      refine ih.mono fun q hq => ?_
      subst hq
      rw [List.filterMap_cons, h6]
theorem W_revI {a : EM} {env : Mn.Env} {st : Store} {Q : (List D × (Store → Bool)) × Store → Prop} : W (revRgI a env st) Q ↔ W (a env st) fun p => INT p.1 fun j => okR j = true ∧ Q ((rngRev j, fun _ => true), p.2) := by
  unfold revRgI
  rw [W_bind]
  constructor
  · exact fun h => h.mono fun ⟨d, s⟩ q => by cases d <;> first | (obtain ⟨a', e', q⟩ := q; exact W_no e') | (obtain ⟨q1, q⟩ := W_when.mp q; refine ⟨q1, ?_⟩; obtain ⟨a', e', q⟩ := q; have e' := Option.some.inj e'; subst e'; exact q)
  · exact fun h => h.mono fun ⟨d, s⟩ q => by cases d <;> first | exact False.elim q | exact W_when.mpr ⟨q.1, _, rfl, q.2⟩
/-! a table of numbers at the end of the store -/
def EL (st : Store) (m : List Int) : Store := st ++ [.lst (m.map D.int)]
section
variable {st : Store} {m : List Int} {B : Tb}
theorem EL_at : (EL st m)[st.length]? = some (.lst (m.map D.int)) := by simp [EL]
theorem atI_gt {p : Nat} (h : p < m.length) : L2.atI (m.map D.int) (p : Int) = some (.int (gt m p)) := by
  rw [atI_of, List.getElem?_map, List.getElem?_eq_getElem h]
  unfold gt
  rw [List.getD_eq_getElem?_getD, List.getElem?_eq_getElem h]
  rfl
theorem EL_it {p : Nat} (h : p < m.length) {Q : D × Store → Prop} : W (itemO B (.ref st.length) (.int (p : Int)) (EL st m)) Q ↔ Q (.int (gt m p), EL st m) := by
  rw [item_at EL_at, atI_gt h, W_some]
theorem EL_it0 (h : 0 < m.length) {Q : D × Store → Prop} : W (itemO B (.ref st.length) (.int 0) (EL st m)) Q ↔ Q (.int (gt m 0), EL st m) := EL_it (p := 0) h
theorem EL_set {p : Nat} {v : Int} (h : p < m.length) {Q : Store → Prop} : W (setO (.ref st.length) (.int (p : Int)) (.int v) (EL st m)) Q ↔ Q (EL st (m.set p v)) := by
  rw [setO_at EL_at, IXN_nat]
  rw [List.length_map]
  have e : (EL st m).set st.length (.lst ((m.map D.int).set p (.int v))) = EL st (m.set p v) := by
    unfold EL
    rw [set_end, List.map_set]
  rw [e]
  exact ⟨fun h => h.2, fun q => ⟨h, q⟩⟩
theorem EL_CL (h : CL st) : CL (EL st m) := CL_app.mpr ⟨h, CL_cons.mpr ⟨clos_iff.mpr fun d hd => by
  obtain ⟨i, _, rfl⟩ := List.mem_map.mp hd
  rfl, CL_nil⟩⟩
end
theorem intD_plain (d : D) (h : isIntD d = true) : plain d = true ∧ depthD d = 0 := by cases d <;> first | exact ⟨rfl, rfl⟩ | cases h
theorem notMemI {B : Tb} {a : Int} {xs : List Int} {st : Store} {Q : D × Store → Prop} : W (notMemO B (.int a) (.lst (xs.map D.int)) st) Q ↔ Q (.bl (!xs.any fun z => z == a), st) := by
  have h : (xs.map D.int).all isIntD = true := List.all_eq_true.mpr fun d hd => by
    obtain ⟨i, _, rfl⟩ := List.mem_map.mp hd
    rfl
  obtain ⟨p1, p2⟩ := plains_all intD_plain h
  have e : notMemO B (.int a) (.lst (xs.map D.int)) st = some (.bl (!xs.any fun z => z == a), st) := by
    unfold notMemO memB inB
    simp only [dctOf, dkOf, seqOf, lstOf]
    rw [if_pos (by rw [p1]; rfl), List.any_map]
    rfl
  rw [e]
  exact W_some
theorem waysP_len (cs : List Ins) (p : Nat) : (waysP cs p).length ≤ 2 := by
  unfold waysP
  split
  · exact Nat.zero_le _
  · exact Nat.le_succ _
  · split
    · exact Nat.le_succ _
    · split <;> exact Nat.le_refl _
  · split <;> simp
theorem waysP_mem {cs : List Ins} {p y : Nat} : y ∈ waysP cs p ↔ y ∈ waysE cs p := by
  unfold waysP waysE
  split
  · exact Iff.rfl
  · exact Iff.rfl
  · rename_i n h
    by_cases h1 : p + 1 = n
    · rw [if_pos h1]; subst h1; simp
    · rw [if_neg h1]
      by_cases h2 : p + 1 < n
      · rw [if_pos h2]
      · rw [if_neg h2]; simp [or_comm]
  · exact Iff.rfl
theorem maxl_eq {l m : List Nat} (h : ∀ x, x ∈ l ↔ x ∈ m) : maxl l = maxl m := by
  have le : ∀ {l m : List Nat} (_ : ∀ x, x ∈ l → x ∈ m), maxl l ≤ maxl m := fun {l m} h => by
    by_cases e : maxl l = 0
    · omega
    · exact maxl_le (h _ (maxl_mem e))
  exact Nat.le_antisymm (le fun x => (h x).mp) (le fun x => (h x).mpr)
theorem fold_maxl : ∀ (ns : List Nat) (n : Nat), (ns.map fun (k : Nat) => (k : Int)).foldl max (n : Int) = ((max n (maxl ns) : Nat) : Int)
  | [], n => by simp [maxl]
  | k :: ns, n => by
    rw [List.map_cons, List.foldl_cons]
    have e : max (n : Int) (k : Int) = ((max n k : Nat) : Int) := by omega
    rw [e, fold_maxl ns (max n k)]
    show ((max (max n k) (maxl ns) : Nat) : Int) = ((max n (max k (maxl ns)) : Nat) : Int)
    omega
def cnt (m : List Int) : Nat := (m.filter fun x => x == -1).length
theorem cnt_le (m : List Int) : cnt m ≤ m.length := List.length_filter_le _ _
theorem cnt_set : ∀ {m : List Int} {p : Nat} {v : Int} (_ : p < m.length) (_ : gt m p = -1) (_ : v ≠ -1), cnt (m.set p v) + 1 = cnt m
  | [], p, v, h, _, _ => absurd h (Nat.not_lt_zero p)
  | x :: m, 0, v, h, h1, h2 => by
    have e : x = -1 := h1
    subst e
    have h2' : (v == -1) = false := by simpa using h2
    simp [cnt, List.set_cons_zero, List.filter_cons, h2']
  | x :: m, p + 1, v, h, h1, h2 => by
    have ih := cnt_set (m := m) (p := p) (v := v) (by simpa using h) h1 h2
    unfold cnt at ih ⊢
    rw [List.set_cons_succ, List.filter_cons, List.filter_cons]
    split
    · rw [List.length_cons, List.length_cons]; omega
    · exact ih
theorem nats_fm {m : List Int} {ws : List Nat} : (nats ws).filterMap (fun d => match d with
    | .int i => some (.int (gt m i.toNat))
    | _ => none) = (ws.map (gt m)).map D.int := by
  unfold nats
  induction ws with
  | nil => rfl
  | cons w ws ih =>
    rw [List.map_cons, List.filterMap_cons]
    simp only [Int.toNat_natCast]
    rw [ih]
    rfl
theorem ints_of (l : List Int) : intsOf (l.map D.int) = some l := by
  induction l with
  | nil => rfl
  | cons n l ih =>
    show (intsOf (l.map D.int)).map (n :: ·) = some (n :: l)
    rw [ih]; rfl
section
variable {cs : List Ins}
/-- what the program's table holds -/
def Tbl (cs : List Ins) (m : List Int) : Prop := m.length = cs.length + 1 ∧ gt m cs.length = 0 ∧ ∀ p, p ≤ cs.length → gt m p = -1 ∨ ∃ v : Nat, gt m p = v ∧ Lw (waysE cs) (costA cs) p v
theorem rev_items : ∀ n : Nat, rngRev (n : Int) = (List.range n).reverse.map fun (i : Nat) => D.int (i : Int) := fun n => by
  unfold rngRev
  rw [Int.toNat_natCast]
  apply List.ext_getElem
  · simp
  · intro i h1 h2
    simp only [List.length_map, List.length_range] at h1
    simp only [List.getElem_map, List.getElem_range, List.getElem_reverse, List.length_range]
    congr 1
    omega
theorem longest_way_ok (C : List V) {k : Nat} (hk : 3 ≤ k) (hc : ∀ i ∈ cs, InsOk cs.length i) (hN : ∀ x y, y ∈ waysE cs x → x < cs.length ∧ y ≤ cs.length) (hl : cs.length ≤ 10000) {st : Store} (hs : CL st) :
    W (runP (pg C) k j_longest_way [.tup (encIs cs)] st) fun q => q.2 = st ∧ ((∃ v : Nat, Lw (waysE cs) (costA cs) 0 v ∧ q.1 = .int v) ∨ ((¬ ∃ v, Lw (waysE cs) (costA cs) 0 v) ∧ q.1 = .int (-1))) := by
  obtain ⟨k, rfl⟩ := Nat.exists_eq_add_of_le' (show 1 ≤ k by omega)
  refine r_longest_way ?_
  unfold m_longest_way
  have f0 : W (lcL (fun _ => true) (nameG 5) yesT (cM gc_NO_BOUND) (wipeE [some (D.tup (encIs cs)), none, none, none, none, none, none] [5]) (encIs cs) st) fun q => q = ((List.replicate cs.length (-1 : Int)).map D.int, st) := by
    refine (lcL_det (fun _ => some (.int (-1))) (encIs cs) fun d hd => ?_).mono fun q hq => ?_
    · simp? only [wipeE, List.set_cons_succ, List.set_cons_zero]
    · rw [hq]
      congr 1
      have : ∀ l : List D, l.filterMap (fun _ => some (D.int (-1))) = (List.replicate l.length (-1 : Int)).map D.int := fun l => by
        induction l with
        | nil => rfl
        | cons x l ih => rw [List.filterMap_cons, ih]; rfl
      rw [this, encIs_len]
  simp? only [true_and]
  refine f0.mono ?_
  rintro q rfl
  simp? only [List.length_replicate]
  refine ⟨by simp only [bigN]; omega, by simp only [bigN]; omega, by simp only [bigN]; omega, ?_⟩
  have e0 : st ++ [MObj.lst ((List.replicate cs.length (-1 : Int)).map D.int ++ [D.int 0])] = EL st (List.replicate cs.length (-1) ++ [0]) := by
    unfold EL
    rw [List.map_append]
    rfl
  rw [e0]
  have gt0 : ∀ p, p ≤ cs.length → gt (List.replicate cs.length (-1 : Int) ++ [0]) p = if p = cs.length then 0 else -1 := fun p hp => by
    unfold gt
    rw [List.getD_eq_getElem?_getD]
    by_cases h : p = cs.length
    · subst h
      rw [if_pos rfl, List.getElem?_append_right (by simp)]
      simp
    · rw [if_neg h, List.getElem?_append_left (by rw [List.length_replicate]; omega), List.getElem?_replicate, if_pos (by omega)]
      rfl
  have lwN : Lw (waysE cs) (costA cs) cs.length 0 := by
    have hS : waysE cs cs.length = [] := by
      cases h : waysE cs cs.length with
      | nil => rfl
      | cons z _ => have := (hN cs.length z (by rw [h]; exact List.mem_cons_self)).1; omega
    have := Lw.mk (S := waysE cs) (c := costA cs) cs.length (fun _ => 0) (by rw [hS]; intro y hy; cases hy)
    rw [hS, costA_end] at this
    exact this
  obtain ⟨J, hJ⟩ : ∃ J : Nat → Mn.Env → Store → Prop, J = fun j env s => ∃ (m : List Int) (ch : Bool) (x3 x4 x5 x6 : Option D), env = [some (.tup (encIs cs)), some (.ref st.length), some (.bl ch), x3, x4, x5, x6] ∧ s = EL st m ∧ Tbl cs m ∧ cnt m + (if ch then 1 else 0) ≤ j ∧ (ch = false → ∀ p, p < cs.length → gt m p = -1 → ∃ w ∈ waysE cs p, gt m w = -1) := ⟨_, rfl⟩
  refine whileS_W J ?_ 100000 (cs.length + 2) _ _ (by omega) ?_
  · intro j env s h
    rw [hJ] at h
    obtain ⟨m, ch, x3, x4, x5, x6, rfl, rfl, hT, hcnt, hst⟩ := h
    simp? only [true_and]
    cases ch with
    | false =>
      simp? only [true_and]
      rw [EL_it0 (by rw [hT.1]; omega)]
      refine exitC rfl hs rfl ⟨rfl, ?_⟩
      rcases hT.2.2 0 (Nat.zero_le _) with h | ⟨v, h1, h2⟩
      · refine .inr ⟨?_, by rw [h]⟩
        exact none_of (N := cs.length) (m := gt m) (fun x y h => (hN x y h).2) (by rw [hT.2.1]; decide) (hst rfl) h
      · exact .inl ⟨v, h2, by rw [h1]⟩
    | true =>
      simp? only [encIs_len, ↓W_revI]
      refine ⟨okR_small (by omega), ?_⟩
      rw [rev_items]
      simp only [if_pos] at hcnt
      obtain ⟨J2, hJ2⟩ : ∃ J2 : List D → Mn.Env → Store → Prop, J2 = fun r env s => ∃ (i : Nat) (m' : List Int) (ch : Bool) (x3 x4 x5 x6 : Option D), i ≤ cs.length ∧ r = (List.range i).reverse.map (fun (i : Nat) => D.int (i : Int)) ∧ env = [some (.tup (encIs cs)), some (.ref st.length), some (.bl ch), x3, x4, x5, x6] ∧ s = EL st m' ∧ Tbl cs m' ∧ cnt m' + (if ch then 1 else 0) ≤ cnt m ∧ (ch = false → m' = m ∧ ∀ p, p < cs.length → i ≤ p → gt m p = -1 → ∃ w ∈ waysE cs p, gt m w = -1) := ⟨_, rfl⟩
      refine forL_W J2 ?_ ?_ _ _ _ (by rw [hJ2]; exact ⟨cs.length, m, false, x3, x4, x5, x6, Nat.le_refl _, rfl, rfl, rfl, hT, by simp, fun _ => ⟨rfl, fun p h1 h2 => by omega⟩⟩)
      · intro e r env s h
        rw [hJ2] at h
        obtain ⟨i, m', ch, x3, x4, x5, x6, hi, hr, rfl, rfl, hT', hc', hst'⟩ := h
        cases i with
        | zero => cases hr
        | succ i =>
          rw [List.range_succ, List.reverse_append, List.reverse_singleton, List.singleton_append, List.map_cons] at hr
          obtain ⟨rfl, rfl⟩ := List.cons.inj hr
          refine ⟨rfl, ?_⟩
          simp? only [true_and]
          refine (ways_ok C (by omega) hc (by omega) (EL_CL hs)).mono ?_
          rintro q rfl
          simp? only [true_and]
          refine (lcL_det (fun d => match d with
            | .int i => some (.int (gt m' i.toNat))
            | _ => none) (nats (waysP cs i)) fun d hd => ?_).mono ?_
          · obtain ⟨w, hw, rfl⟩ := List.mem_map.mp hd
            have := (hN i w (waysP_mem.mp hw)).2
            simp? only [wipeE, List.set_cons_succ, List.set_cons_zero]
            rw [EL_it (by rw [hT'.1]; omega)]
            simp only [Int.toNat_natCast, and_self]
          rintro q rfl
          rw [nats_fm]
          simp? only [true_and]
          refine ⟨by have := waysP_len cs i; simp only [bigN]; omega, ?_⟩
          rw [EL_it (by rw [hT'.1]; omega)]
          simp? only [↓notMemI]
          have skip : (¬ (gt m' i = -1 ∧ ∀ w ∈ waysE cs i, gt m' w ≠ -1)) → J2 ((List.range i).reverse.map fun (i : Nat) => D.int (i : Int)) [some (.tup (encIs cs)), some (.ref st.length), some (.bl ch), some (.int i), some (.lst ((waysP cs i).map (gt m') |>.map D.int)), x5, x6] (EL st m') := fun hno => by
            rw [hJ2]
            refine ⟨i, m', ch, _, _, _, _, by omega, rfl, rfl, rfl, hT', hc', fun hch => ?_⟩
            obtain ⟨h1, h2⟩ := hst' hch
            subst h1
            refine ⟨rfl, fun p hp hip hp1 => ?_⟩
            by_cases hpi : p = i
            · subst hpi
              refine Classical.byContradiction fun hn => hno ⟨hp1, fun w hw hw1 => hn ⟨w, hw, hw1⟩⟩
            · exact h2 p hp (by omega) hp1
          refine br_e (fun h1 => ?_) fun h1 => skip fun h => h1 h.1
          refine br_n (br_i (fun h2 => ?_) fun h2 => ?_)
          · refine skip fun h => ?_
            obtain ⟨z, hz, hz1⟩ := List.any_eq_true.mp h2
            obtain ⟨w, hw, rfl⟩ := List.mem_map.mp hz
            exact h.2 w (waysP_mem.mp hw) (eq_of_beq hz1)
          · have hall : ∀ w ∈ waysE cs i, gt m' w ≠ -1 := fun w hw hw1 => by
              have := List.any_eq_false.mp h2 (gt m' w) (List.mem_map_of_mem (waysP_mem.mpr hw))
              exact this (by rw [hw1]; rfl)
            have hlt : i < cs.length := by omega
            have ha : cs[i]? = some cs[i] := List.getElem?_eq_getElem hlt
            have hf : ∀ w ∈ waysE cs i, ∃ v : Nat, gt m' w = v ∧ Lw (waysE cs) (costA cs) w v := fun w hw => by
              rcases hT'.2.2 w (hN i w hw).2 with h | h
              · exact absurd h (hall w hw)
              · exact h
            have lw : Lw (waysE cs) (costA cs) i (costA cs i + maxl ((waysE cs i).map fun w => (gt m' w).toNat)) := Lw.mk i _ fun w hw => by
              obtain ⟨v, h3, h4⟩ := hf w hw
              rw [h3, Int.toNat_natCast]
              exact h4
            have emap : (waysP cs i).map (gt m') = ((waysP cs i).map fun w => (gt m' w).toNat).map fun (k : Nat) => (k : Int) := by
              rw [List.map_map]
              refine List.map_congr_left fun w hw => ?_
              obtain ⟨v, h3, _⟩ := hf w (waysP_mem.mp hw)
              show gt m' w = ((gt m' w).toNat : Int)
              rw [h3, Int.toNat_natCast]
            have emx : maxl ((waysP cs i).map fun w => (gt m' w).toNat) = maxl ((waysE cs i).map fun w => (gt m' w).toNat) := maxl_eq fun x => by
              simp only [List.mem_map, waysP_mem]
            simp? only [↓code_at ha]
            refine (step_count_ok C (by omega) (hc _ (List.getElem_mem hlt)) (EL_CL hs)).mono ?_
            rintro q rfl
            simp? only [lstOf, ints_of]
            have eco : cost cs[i] = costA cs i := by unfold costA; rw [ha]
            rw [eco]
            have fin : ∀ x : D, x = .int ((maxl ((waysE cs i).map fun w => (gt m' w).toNat) : Nat) : Int) → W (addO false (.int (costA cs i : Int)) x (EL st m')) fun p => W (setO (.ref st.length) (.int (i : Int)) p.1 p.2) fun s =>
                J2 ((List.range i).reverse.map fun (i : Nat) => D.int (i : Int)) [some (.tup (encIs cs)), some (.ref st.length), some (.bl true), some (.int i), some (.lst ((waysP cs i).map (gt m') |>.map D.int)), x5, x6] s := fun x hx => by
              subst hx
              simp? only [true_and]
              rw [EL_set (by rw [hT'.1]; omega), hJ2]
              have hv : (costA cs i : Int) + ((maxl ((waysE cs i).map fun w => (gt m' w).toNat) : Nat) : Int) = ((costA cs i + maxl ((waysE cs i).map fun w => (gt m' w).toNat) : Nat) : Int) := by omega
              refine ⟨i, _, true, _, _, _, _, by omega, rfl, rfl, rfl, ⟨by rw [List.length_set, hT'.1], by rw [gt_set (by rw [hT'.1]; omega), if_neg (by omega)]; exact hT'.2.1, fun p hp => ?_⟩, ?_, fun h => nomatch h⟩
              · rw [gt_set (by rw [hT'.1]; omega)]
                by_cases hpi : p = i
                · rw [if_pos hpi, hpi]
                  exact .inr ⟨_, hv, lw⟩
                · rw [if_neg hpi]
                  exact hT'.2.2 p hp
              · have := cnt_set (m := m') (p := i) (v := (costA cs i : Int) + ((maxl ((waysE cs i).map fun w => (gt m' w).toNat) : Nat) : Int)) (by rw [hT'.1]; omega) h1 (by omega)
                simp only [if_pos]
                omega
            refine fin _ ?_
            rw [emap]
            cases hw : (waysP cs i).map fun w => (gt m' w).toNat with
            | nil =>
              rw [hw] at emx
              rw [← emx]
              rfl
            | cons n ns =>
              rw [hw] at emx
              rw [← emx, List.map_cons]
              show D.int ((ns.map fun (k : Nat) => (k : Int)).foldl max (n : Int)) = _
              rw [fold_maxl]
              rfl
      · intro env s h
        rw [hJ2] at h
        obtain ⟨i, m', ch, x3, x4, x5, x6, hi, hr, rfl, rfl, hT', hc', hst'⟩ := h
        cases i with
        | succ i =>
          rw [List.range_succ, List.reverse_append, List.reverse_singleton, List.singleton_append, List.map_cons] at hr
          cases hr
        | zero =>
          refine ⟨rfl, ?_⟩
          simp? only [true_and]
          refine ⟨cnt m' + (if ch then 1 else 0), by omega, ?_⟩
          rw [hJ]
          refine ⟨m', ch, _, _, _, _, rfl, rfl, hT', Nat.le_refl _, fun h => ?_⟩
          obtain ⟨h1, h2⟩ := hst' h
          subst h1
          exact fun p hp => h2 p hp (Nat.zero_le _)
  · rw [hJ]
    refine ⟨_, true, none, none, none, none, rfl, rfl, ⟨by simp, by rw [gt0 _ (Nat.le_refl _), if_pos rfl], fun p hp => ?_⟩, ?_, fun h => nomatch h⟩
    · rw [gt0 p hp]
      by_cases h : p = cs.length
      · rw [if_pos h, h]
        exact .inr ⟨0, rfl, lwN⟩
      · rw [if_neg h]
        exact .inl rfl
    · have := cnt_le (List.replicate cs.length (-1 : Int) ++ [0])
      simp only [if_pos]
      have e : (List.replicate cs.length (-1 : Int) ++ [0]).length = cs.length + 1 := by simp
      omega
end
end H82
set_option Elab.async false
set_option linter.all false
set_option maxRecDepth 100000
set_option maxHeartbeats 4000000
set_option autoImplicit false
namespace H82
open PySem PySem.Spec PyProof.Rows L2 Mn
local macro_rules
  | `(tactic| simp? only [$ls,*]) => `(tactic| simp only [$ls,*, ↓br_t, ↓br_f, ↓KS_nx, ↓KS_ret, ↓KS_brk, ↓KS_cnt, ↓LQ_nx, ↓LQ_cnt, ↓LQ_brk, ↓LQ_ret, ↓EX_nx, ↓EX_ret, ↓SETE_0, ↓SETE_s, ↓BL_b, ↓INT_i, ↓KEY_s, ↓NL_0, ↓NL_s, ↓W_lstAt0, ↓W_lstAts, ↓W_at0, ↓W_ats, ↓PAR2_c, ↓PAR3_c, ↓RNG_i, ↓SEQ_l, ↓SEQ_f, ↓SEQ_t, ↓SEQ_r, ↓W_some, ↓W_atI0, ↓W_atI1, ↓W_atI2, ↓W_atI3, ↓W_atI4, ↓W_atI5, ↓W_atI6, ↓W_atI7, ↓W_atI8, ↓W_atI9, ↓W_atI10, ↓W_atI11, ↓W_atI12, ↓W_seqS, ↓W_asgS, ↓W_exprS, ↓W_retS, ↓W_retN, ↓W_brkS, ↓W_cntS, ↓W_nextS, ↓W_ifS, ↓W_forS, ↓W_par2, ↓W_par3, ↓W_nameG, ↓W_tupG, ↓W_consG, ↓W_nilG, ↓W_subG, ↓W_setO0, ↓W_setOs, ↓SETL_0, ↓SETL_s, ↓IXN_0, ↓IXN_1, ↓IXN_2, ↓IXN_3, ↓IXN_nat, ↓W_var0, ↓W_vars, ↓W_cM, ↓W_binM, ↓W_unM, ↓W_negM, ↓W_nilA, ↓W_consA, ↓W_callM, ↓W_tupM, ↓W_lstM, ↓W_lstMt, ↓W_slcM, ↓W_part0, ↓W_parts, ↓W_slOt, ↓W_slOl, ↓W_slOr, ↓W_ifM, ↓W_truM, ↓W_bolM, ↓W_andT, ↓W_orT, ↓W_notT, ↓W_andE, ↓W_orE, ↓W_notE, ↓W_mthL, ↓W_lstFr, ↓W_dctM, ↓W_dctMt, ↓W_nilK, ↓W_consK, ↓W_kwM, ↓W_maxdM, ↓W_sort2M, ↓W_listRgM, ↓W_listRgMt, ↓W_lcM, ↓W_rng1I, ↓W_seqI, ↓W_addI, ↓W_addT, ↓W_addL, ↓W_addLt, ↓W_subI, ↓W_mulI, ↓W_mulL, ↓W_fdiv, ↓W_mod, ↓W_pow, ↓W_cmp, ↓W_is, ↓W_isNot, ↓W_eqi, ↓W_eqis, ↓W_eqb, ↓W_nei, ↓W_neis, ↓W_neb, ↓W_itT, ↓W_itL, ↓W_itF, ↓W_itD, ↓W_one, ↓W_lenL, ↓W_lenT, ↓W_lenF, ↓W_intI, ↓W_intB, ↓W_absI, ↓W_max2, ↓W_min2, ↓W_tupCl, ↓W_tupCr, ↓W_tupCt, ↓W_lstCf, ↓W_lstCl, ↓W_truL, ↓W_truT, ↓W_truB, ↓W_yesT, ↓W_itR0, ↓W_itRs, ↓H82.W_defC, ↓W_dget_hit, ↓W_dget_miss, ↓W_eqs_t, ↓W_eqs_f, ↓W_nes_t, ↓W_nes_f, ↓W_isiST, ↓W_isiIT, ↓W_isiTT, ↓W_isiIS, ↓W_isiIB, ↓W_isiII, ↓W_memT', ↓W_listRg2M, ↓W_rng2I, ↓RNG2_i, ↓W_lstAt_end, ↓W_apps, ↓W_app_end, ↓W_memLd, ↓W_notMemLd, ↓MEMD_nil, ↓MEMD_hit, ↓MEMD_miss, List.length_cons, List.length_nil, List.length_map, Nat.reduceAdd, Nat.reduceLT, Nat.reduceLeDiff, Nat.zero_add, List.append_nil, List.nil_append, List.cons_append, Nat.reduceBEq, Int.reduceBEq, Nat.reduceEqDiff, beq_self_eq_true, true_and, and_true, Bool.not_true, Bool.not_false, Bool.or_true, Bool.true_or, H82.sm1, H82.sm2, H82.sm3, H82.p18, ne_eq, not_false_eq_true, Int.reduceEq, reduceCtorEq, List.isEmpty_nil, List.isEmpty_cons, List.all_cons, List.all_nil, isSym_s, List.any_cons, List.any_nil, eqv_sym, Bool.or_false, Bool.false_or, Bool.and_self, Int.reduceLT, Int.reduceAdd, Int.reduceSub, decide_true, decide_false])
local macro_rules
  | `(tactic| simp? [$ls,*]) => `(tactic| simp only [$ls,*, ↓br_t, ↓br_f, ↓KS_nx, ↓KS_ret, ↓KS_brk, ↓KS_cnt, ↓LQ_nx, ↓LQ_cnt, ↓LQ_brk, ↓LQ_ret, ↓EX_nx, ↓EX_ret, ↓SETE_0, ↓SETE_s, ↓BL_b, ↓INT_i, ↓KEY_s, ↓NL_0, ↓NL_s, ↓W_lstAt0, ↓W_lstAts, ↓W_at0, ↓W_ats, ↓PAR2_c, ↓PAR3_c, ↓RNG_i, ↓SEQ_l, ↓SEQ_f, ↓SEQ_t, ↓SEQ_r, ↓W_some, ↓W_atI0, ↓W_atI1, ↓W_atI2, ↓W_atI3, ↓W_atI4, ↓W_atI5, ↓W_atI6, ↓W_atI7, ↓W_atI8, ↓W_atI9, ↓W_atI10, ↓W_atI11, ↓W_atI12, ↓W_seqS, ↓W_asgS, ↓W_exprS, ↓W_retS, ↓W_retN, ↓W_brkS, ↓W_cntS, ↓W_nextS, ↓W_ifS, ↓W_forS, ↓W_par2, ↓W_par3, ↓W_nameG, ↓W_tupG, ↓W_consG, ↓W_nilG, ↓W_subG, ↓W_setO0, ↓W_setOs, ↓SETL_0, ↓SETL_s, ↓IXN_0, ↓IXN_1, ↓IXN_2, ↓IXN_3, ↓IXN_nat, ↓W_var0, ↓W_vars, ↓W_cM, ↓W_binM, ↓W_unM, ↓W_negM, ↓W_nilA, ↓W_consA, ↓W_callM, ↓W_tupM, ↓W_lstM, ↓W_lstMt, ↓W_slcM, ↓W_part0, ↓W_parts, ↓W_slOt, ↓W_slOl, ↓W_slOr, ↓W_ifM, ↓W_truM, ↓W_bolM, ↓W_andT, ↓W_orT, ↓W_notT, ↓W_andE, ↓W_orE, ↓W_notE, ↓W_mthL, ↓W_lstFr, ↓W_dctM, ↓W_dctMt, ↓W_nilK, ↓W_consK, ↓W_kwM, ↓W_maxdM, ↓W_sort2M, ↓W_listRgM, ↓W_listRgMt, ↓W_lcM, ↓W_rng1I, ↓W_seqI, ↓W_addI, ↓W_addT, ↓W_addL, ↓W_addLt, ↓W_subI, ↓W_mulI, ↓W_mulL, ↓W_fdiv, ↓W_mod, ↓W_pow, ↓W_cmp, ↓W_is, ↓W_isNot, ↓W_eqi, ↓W_eqis, ↓W_eqb, ↓W_nei, ↓W_neis, ↓W_neb, ↓W_itT, ↓W_itL, ↓W_itF, ↓W_itD, ↓W_one, ↓W_lenL, ↓W_lenT, ↓W_lenF, ↓W_intI, ↓W_intB, ↓W_absI, ↓W_max2, ↓W_min2, ↓W_tupCl, ↓W_tupCr, ↓W_tupCt, ↓W_lstCf, ↓W_lstCl, ↓W_truL, ↓W_truT, ↓W_truB, ↓W_yesT, ↓W_itR0, ↓W_itRs, ↓H82.W_defC, ↓W_dget_hit, ↓W_dget_miss, ↓W_eqs_t, ↓W_eqs_f, ↓W_nes_t, ↓W_nes_f, ↓W_isiST, ↓W_isiIT, ↓W_isiTT, ↓W_isiIS, ↓W_isiIB, ↓W_isiII, ↓W_memT', ↓W_listRg2M, ↓W_rng2I, ↓RNG2_i, ↓W_lstAt_end, ↓W_apps, ↓W_app_end, ↓W_memLd, ↓W_notMemLd, ↓MEMD_nil, ↓MEMD_hit, ↓MEMD_miss, List.length_cons, List.length_nil, List.length_map, Nat.reduceAdd, Nat.reduceLT, Nat.reduceLeDiff, Nat.zero_add, List.append_nil, List.nil_append, List.cons_append, Nat.reduceBEq, Int.reduceBEq, Nat.reduceEqDiff, beq_self_eq_true, true_and, and_true, Bool.not_true, Bool.not_false, Bool.or_true, Bool.true_or, H82.sm1, H82.sm2, H82.sm3, H82.p18, ne_eq, not_false_eq_true, Int.reduceEq, reduceCtorEq, List.isEmpty_nil, List.isEmpty_cons, List.all_cons, List.all_nil, isSym_s, List.any_cons, List.any_nil, eqv_sym, Bool.or_false, Bool.false_or, Bool.and_self, Int.reduceLT, Int.reduceAdd, Int.reduceSub, decide_true, decide_false, ↓sc_names, ↓sc_shared, ↓sc_privates, ↓sc_fields, ↓sc_slots, ↓sc_program, ↓sc_calls, sNm_e, sSh_e, sNm_l, sSh_l, bigN])
theorem step_word {N : Nat} {i : Ins} (hi : InsOk N i) : ∃ (w : Nat) (r : List D), encI i = .tup (.sym w :: r) ∧ ([D.sym 4, .sym 5, .sym 10, .sym 9, .sym 23].any fun z => eqv z (.sym w)) = (cost i == 0) := by
  cases i with
  | jmp n => exact ⟨_, _, rfl, rfl⟩
  | unl t n => exact ⟨_, _, rfl, rfl⟩
  | row d =>
    obtain ⟨w, hw, r, rfl, _⟩ := hi
    refine ⟨w, r, rfl, ?_⟩
    have all : ∀ w ∈ rowWords, ([D.sym 4, .sym 5, .sym 10, .sym 9, .sym 23].any fun z => eqv z (.sym w)) = ((if w == 4 || w == 5 || w == 23 then 0 else 1) == 0) := by decide
    exact all w hw
theorem rng_nats (n : Nat) : rngL 0 (n : Int) = nats (List.range n) := by
  unfold rngL nats
  rw [show ((n : Int) - 0).toNat = n by omega]
  refine List.map_congr_left fun k _ => ?_
  rw [Int.zero_add]
theorem range_from (k : Nat) : ∀ n, k + n = n + k := fun n => Nat.add_comm k n
/-- the rest of a count -/
def rest (k N : Nat) : List Nat := (List.range N).drop k
theorem rest_cons {k N : Nat} (h : k < N) : rest k N = k :: rest (k + 1) N := by
  unfold rest
  rw [List.drop_eq_getElem_cons (by rw [List.length_range]; exact h), List.getElem_range]
theorem rest_nil {k N : Nat} (h : N ≤ k) : rest k N = [] := by
  unfold rest
  exact List.drop_eq_nil_of_le (by rw [List.length_range]; exact h)
section
variable {cs : List Ins}
theorem waysE_len (cs : List Ins) (p : Nat) : (waysE cs p).length ≤ 2 := by
  unfold waysE
  split <;> first | exact Nat.zero_le _ | exact Nat.le_succ _ | exact Nat.le_refl _ | (split <;> simp)
theorem e_code_steps_ok (C : List V) {k : Nat} (hk : 3 ≤ k) (hc : ∀ i ∈ cs, InsOk cs.length i) (hN : ∀ x y, y ∈ waysE cs x → x < cs.length ∧ y ≤ cs.length) (hl : cs.length ≤ 10000) {st : Store} (hs : CL st) :
    W (runP (pg C) k j__law_e_code_steps [.tup (encIs cs)] st) fun q => q = (.int (told (waysE cs) (costA cs) cs.length 3 (0 :: List.replicate cs.length (-1))), st) := by
  obtain ⟨k, rfl⟩ := Nat.exists_eq_add_of_le' (show 1 ≤ k by omega)
  refine r__law_e_code_steps ?_
  unfold m__law_e_code_steps
  simp? only [encIs_len]
  have e1 : (List.replicate ((cs.length : Int)).toNat [D.int (-1)]).flatten = (List.replicate cs.length (-1 : Int)).map D.int := by
    rw [Int.toNat_natCast]
    generalize cs.length = n
    induction n with
    | zero => rfl
    | succ n ih => rw [List.replicate_succ, List.replicate_succ, List.flatten_cons, ih]; rfl
  rw [e1]
  rw [List.length_map, List.length_replicate]
  refine ⟨by decide, by decide, ⟨by omega, by omega, by simp only [bigN]; omega⟩, by simp only [bigN]; omega, by decide, ?_⟩
  have e0 : st ++ [MObj.lst (D.int 0 :: (List.replicate cs.length (-1 : Int)).map D.int)] = EL st (0 :: List.replicate cs.length (-1)) := rfl
  rw [e0]
  generalize hF : told (waysE cs) (costA cs) cs.length 3 (0 :: List.replicate cs.length (-1)) = F
  obtain ⟨J, hJ⟩ : ∃ J : List D → Mn.Env → Store → Prop, J = fun r env s => ∃ (m : List Int) (x2 x3 x4 x5 x6 x7 : Option D), env = [some (.tup (encIs cs)), some (.ref st.length), x2, x3, x4, x5, x6, x7] ∧ s = EL st m ∧ m.length = cs.length + 1 ∧ told (waysE cs) (costA cs) cs.length r.length m = F := ⟨_, rfl⟩
  refine forL_W J ?_ ?_ _ _ _ (by rw [hJ]; exact ⟨_, none, none, none, none, none, none, rfl, rfl, by simp, hF⟩)
  · intro e r env s h
    rw [hJ] at h
    obtain ⟨m, x2, x3, x4, x5, x6, x7, rfl, rfl, hm, hF⟩ := h
    refine ⟨rfl, ?_⟩
    simp? only [encIs_len]
    refine ⟨by decide, okR_small (by omega), ?_⟩
    rw [rng_nats]
    have hfin := psk_facts hN (c := costA cs) hm
    obtain ⟨J2, hJ2⟩ : ∃ J2 : List D → Mn.Env → Store → Prop, J2 = fun r env s => ∃ (i : Nat) (y3 y6 y7 : Option D), i ≤ cs.length ∧ r = nats (rest i cs.length) ∧ env = [some (.tup (encIs cs)), some (.ref st.length), some e, y3, some (.bl (psk (waysE cs) (costA cs) m i).2.1), some (.int (psk (waysE cs) (costA cs) m i).2.2), y6, y7] ∧ s = EL st (psk (waysE cs) (costA cs) m i).1 := ⟨_, rfl⟩
    refine forL_W J2 ?_ ?_ _ _ _ (by rw [hJ2]; exact ⟨0, x3, x6, x7, Nat.zero_le _, rfl, rfl, rfl⟩)
    · intro d r2 env s h
      rw [hJ2] at h
      obtain ⟨i, y3, y6, y7, hi, hr, rfl, rfl⟩ := h
      by_cases hin : cs.length ≤ i
      · rw [rest_nil hin] at hr
        cases hr
      have hlt : i < cs.length := by omega
      rw [rest_cons hlt] at hr
      obtain ⟨rfl, rfl⟩ := List.cons.inj (show d :: r2 = D.int (i : Int) :: nats (rest (i + 1) cs.length) from hr)
      refine ⟨rfl, ?_⟩
      have hlen := (hfin i).1
      have ha : cs[i]? = some cs[i] := List.getElem?_eq_getElem hlt
      have hic := hc _ (List.getElem_mem hlt)
      obtain ⟨w, rw_, e2, e3⟩ := step_word hic
      have fin : ∀ (y6 y7 : Option D) (b : Bool) (h : Int) (m' : List Int), (m', b, h) = plc (waysE cs) (costA cs) (psk (waysE cs) (costA cs) m i) i → J2 (nats (rest (i + 1) cs.length)) [some (.tup (encIs cs)), some (.ref st.length), some e, some (.int (i : Int)), some (.bl b), some (.int h), y6, y7] (EL st m') := fun y6 y7 b h m' he => by
        rw [hJ2]
        rw [← psk_succ] at he
        refine ⟨i + 1, some (.int (i : Int)), y6, y7, by omega, rfl, ?_, ?_⟩
        · rw [← he]
        · rw [← he]
      generalize hP : psk (waysE cs) (costA cs) m i = P at hlen fin ⊢
      obtain ⟨pm, pb, ph⟩ := P
      dsimp only at hlen fin ⊢
      simp? only [true_and]
      rw [EL_it (by rw [hlen]; omega)]
      simp? only [true_and]
      refine br_d (fun h0 => ?_) fun h0 => fin _ _ _ _ _ (by unfold plc; rw [if_neg (show ¬ 0 ≤ gt pm i from h0)])
      have h0 : 0 ≤ gt pm i := h0
      simp? only [↓code_at ha, e2]
      rw [EL_it (by rw [hlen]; omega)]
      simp? only [true_and]
      refine ⟨by decide, ?_⟩
      unfold MEMD
      rw [e3]
      have eco : (if (!(cost cs[i] == 0)) = true then (1 : Int) else 0) = (costA cs i : Int) := by
        have e4 : costA cs i = cost cs[i] := by unfold costA; rw [ha]
        have := cost_le cs[i]
        rw [e4]
        by_cases h : cost cs[i] = 0
        · rw [h]; rfl
        · have h1 : cost cs[i] = 1 := by omega
          rw [h1]; rfl
      dsimp only
      rw [eco]
      refine (e_ways_ok C (by omega) hc hlt (EL_CL hs)).mono ?_
      rintro q rfl
      simp? only [true_and]
      generalize hhere : gt pm i + (costA cs i : Int) = here
      rw [mx]
      have hpl : plc (waysE cs) (costA cs) (pm, pb, ph) i = (((waysE cs i).foldl (rlx here) (pm, pb)).1, ((waysE cs i).foldl (rlx here) (pm, pb)).2, max ph here) := by
        unfold plc
        rw [if_pos (show 0 ≤ gt pm i from h0)]
        dsimp only
        rw [hhere]
      obtain ⟨J3, hJ3⟩ : ∃ J3 : List D → Mn.Env → Store → Prop, J3 = fun r env s => ∃ (ys : List Nat) (m' : List Int) (b : Bool) (y7 : Option D), r = nats ys ∧ env = [some (.tup (encIs cs)), some (.ref st.length), some e, some (.int (i : Int)), some (.bl b), some (.int (max ph here)), some (.int here), y7] ∧ s = EL st m' ∧ m'.length = cs.length + 1 ∧ (∀ y ∈ ys, y ≤ cs.length) ∧ ys.foldl (rlx here) (m', b) = (waysE cs i).foldl (rlx here) (pm, pb) := ⟨_, rfl⟩
      refine forL_W J3 ?_ ?_ _ _ _ (by rw [hJ3]; exact ⟨waysE cs i, pm, pb, y7, rfl, rfl, rfl, hlen, fun y hy => (hN i y hy).2, rfl⟩)
      · intro d r3 env s h
        rw [hJ3] at h
        obtain ⟨ys, m', b, y7, hr, rfl, rfl, hm', hys, hf⟩ := h
        cases ys with
        | nil => cases hr
        | cons y ys =>
          obtain ⟨rfl, rfl⟩ := List.cons.inj (show d :: r3 = D.int (y : Int) :: nats ys from hr)
          refine ⟨rfl, ?_⟩
          have hy := hys y List.mem_cons_self
          rw [List.foldl_cons] at hf
          unfold rlx at hf
          simp? only [true_and]
          rw [EL_it (by rw [hm']; omega)]
          simp? only [true_and]
          refine br_d (fun hlt => ?_) fun hge => ?_
          · rw [EL_set (by rw [hm']; omega), hJ3]
            dsimp only at hf
            rw [if_pos hlt] at hf
            exact ⟨ys, m'.set y here, false, _, rfl, rfl, rfl, by rw [List.length_set, hm'], fun z hz => hys z (List.mem_cons_of_mem _ hz), hf⟩
          · rw [hJ3]
            dsimp only at hf
            rw [if_neg hge] at hf
            exact ⟨ys, m', b, _, rfl, rfl, rfl, hm', fun z hz => hys z (List.mem_cons_of_mem _ hz), hf⟩
      · intro env s h
        rw [hJ3] at h
        obtain ⟨ys, m', b, y7, hr, rfl, rfl, hm', hys, hf⟩ := h
        cases ys with
        | cons y ys => cases hr
        | nil =>
          refine ⟨rfl, ?_⟩
          simp? only [true_and]
          refine fin _ _ _ _ _ ?_
          rw [hpl, ← hf]
          rfl
    · intro env s h
      rw [hJ2] at h
      obtain ⟨i, y3, y6, y7, hi, hr, rfl, rfl⟩ := h
      by_cases hin : cs.length ≤ i
      · have : i = cs.length := by omega
        subst this
        refine ⟨rfl, ?_⟩
        simp? only [true_and]
        rw [List.length_cons] at hF
        unfold told at hF
        refine br_i (fun hb => ?_) fun hb => ?_
        · rw [if_pos hb] at hF
          rw [hF]
          exact exitC rfl hs rfl rfl
        · rw [if_neg (by rw [hb]; decide)] at hF
          rw [hJ]
          exact ⟨_, _, _, _, _, _, _, rfl, rfl, (hfin cs.length).1, hF⟩
      · rw [rest_cons (by omega)] at hr
        cases hr
  · intro env s h
    rw [hJ] at h
    obtain ⟨m, x2, x3, x4, x5, x6, x7, rfl, rfl, hm, hF⟩ := h
    refine ⟨rfl, ?_⟩
    simp? only [true_and]
    rw [← hF]
    exact exitC rfl hs rfl rfl
end
end H82
set_option Elab.async false
set_option linter.all false
set_option maxRecDepth 100000
set_option maxHeartbeats 4000000
set_option autoImplicit false
namespace H82
open PySem PySem.Spec PyProof.Rows L2 Mn
local macro_rules
  | `(tactic| simp? only [$ls,*]) => `(tactic| simp only [$ls,*, ↓br_t, ↓br_f, ↓KS_nx, ↓KS_ret, ↓KS_brk, ↓KS_cnt, ↓LQ_nx, ↓LQ_cnt, ↓LQ_brk, ↓LQ_ret, ↓EX_nx, ↓EX_ret, ↓SETE_0, ↓SETE_s, ↓BL_b, ↓INT_i, ↓KEY_s, ↓NL_0, ↓NL_s, ↓W_lstAt0, ↓W_lstAts, ↓W_at0, ↓W_ats, ↓PAR2_c, ↓PAR3_c, ↓RNG_i, ↓SEQ_l, ↓SEQ_f, ↓SEQ_t, ↓SEQ_r, ↓W_some, ↓W_atI0, ↓W_atI1, ↓W_atI2, ↓W_atI3, ↓W_atI4, ↓W_atI5, ↓W_atI6, ↓W_atI7, ↓W_atI8, ↓W_atI9, ↓W_atI10, ↓W_atI11, ↓W_atI12, ↓W_seqS, ↓W_asgS, ↓W_exprS, ↓W_retS, ↓W_retN, ↓W_brkS, ↓W_cntS, ↓W_nextS, ↓W_ifS, ↓W_forS, ↓W_par2, ↓W_par3, ↓W_nameG, ↓W_tupG, ↓W_consG, ↓W_nilG, ↓W_subG, ↓W_setO0, ↓W_setOs, ↓SETL_0, ↓SETL_s, ↓IXN_0, ↓IXN_1, ↓IXN_2, ↓IXN_3, ↓IXN_nat, ↓W_var0, ↓W_vars, ↓W_cM, ↓W_binM, ↓W_unM, ↓W_negM, ↓W_nilA, ↓W_consA, ↓W_callM, ↓W_tupM, ↓W_lstM, ↓W_lstMt, ↓W_slcM, ↓W_part0, ↓W_parts, ↓W_slOt, ↓W_slOl, ↓W_slOr, ↓W_ifM, ↓W_truM, ↓W_bolM, ↓W_andT, ↓W_orT, ↓W_notT, ↓W_andE, ↓W_orE, ↓W_notE, ↓W_mthL, ↓W_lstFr, ↓W_dctM, ↓W_dctMt, ↓W_nilK, ↓W_consK, ↓W_kwM, ↓W_maxdM, ↓W_sort2M, ↓W_listRgM, ↓W_listRgMt, ↓W_lcM, ↓W_rng1I, ↓W_seqI, ↓W_addI, ↓W_addT, ↓W_addL, ↓W_addLt, ↓W_subI, ↓W_mulI, ↓W_mulL, ↓W_fdiv, ↓W_mod, ↓W_pow, ↓W_cmp, ↓W_is, ↓W_isNot, ↓W_eqi, ↓W_eqis, ↓W_eqb, ↓W_nei, ↓W_neis, ↓W_neb, ↓W_itT, ↓W_itL, ↓W_itF, ↓W_itD, ↓W_one, ↓W_lenL, ↓W_lenT, ↓W_lenF, ↓W_intI, ↓W_intB, ↓W_absI, ↓W_max2, ↓W_min2, ↓W_tupCl, ↓W_tupCr, ↓W_tupCt, ↓W_lstCf, ↓W_lstCl, ↓W_truL, ↓W_truT, ↓W_truB, ↓W_yesT, ↓W_itR0, ↓W_itRs, ↓H82.W_defC, ↓W_dget_hit, ↓W_dget_miss, ↓W_eqs_t, ↓W_eqs_f, ↓W_nes_t, ↓W_nes_f, ↓W_isiST, ↓W_isiIT, ↓W_isiTT, ↓W_isiIS, ↓W_isiIB, ↓W_isiII, ↓W_memT', ↓W_listRg2M, ↓W_rng2I, ↓RNG2_i, ↓W_lstAt_end, ↓W_apps, ↓W_app_end, ↓W_memLd, ↓W_notMemLd, ↓MEMD_nil, ↓MEMD_hit, ↓MEMD_miss, List.length_cons, List.length_nil, List.length_map, Nat.reduceAdd, Nat.reduceLT, Nat.reduceLeDiff, Nat.zero_add, List.append_nil, List.nil_append, List.cons_append, Nat.reduceBEq, Int.reduceBEq, Nat.reduceEqDiff, beq_self_eq_true, true_and, and_true, Bool.not_true, Bool.not_false, Bool.or_true, Bool.true_or, H82.sm1, H82.sm2, H82.sm3, H82.p18, ne_eq, not_false_eq_true, Int.reduceEq, reduceCtorEq, List.isEmpty_nil, List.isEmpty_cons, List.all_cons, List.all_nil, isSym_s, List.any_cons, List.any_nil, eqv_sym, Bool.or_false, Bool.false_or, Bool.and_self, Int.reduceLT, Int.reduceAdd, Int.reduceSub, decide_true, decide_false])
local macro_rules
  | `(tactic| simp? [$ls,*]) => `(tactic| simp only [$ls,*, ↓br_t, ↓br_f, ↓KS_nx, ↓KS_ret, ↓KS_brk, ↓KS_cnt, ↓LQ_nx, ↓LQ_cnt, ↓LQ_brk, ↓LQ_ret, ↓EX_nx, ↓EX_ret, ↓SETE_0, ↓SETE_s, ↓BL_b, ↓INT_i, ↓KEY_s, ↓NL_0, ↓NL_s, ↓W_lstAt0, ↓W_lstAts, ↓W_at0, ↓W_ats, ↓PAR2_c, ↓PAR3_c, ↓RNG_i, ↓SEQ_l, ↓SEQ_f, ↓SEQ_t, ↓SEQ_r, ↓W_some, ↓W_atI0, ↓W_atI1, ↓W_atI2, ↓W_atI3, ↓W_atI4, ↓W_atI5, ↓W_atI6, ↓W_atI7, ↓W_atI8, ↓W_atI9, ↓W_atI10, ↓W_atI11, ↓W_atI12, ↓W_seqS, ↓W_asgS, ↓W_exprS, ↓W_retS, ↓W_retN, ↓W_brkS, ↓W_cntS, ↓W_nextS, ↓W_ifS, ↓W_forS, ↓W_par2, ↓W_par3, ↓W_nameG, ↓W_tupG, ↓W_consG, ↓W_nilG, ↓W_subG, ↓W_setO0, ↓W_setOs, ↓SETL_0, ↓SETL_s, ↓IXN_0, ↓IXN_1, ↓IXN_2, ↓IXN_3, ↓IXN_nat, ↓W_var0, ↓W_vars, ↓W_cM, ↓W_binM, ↓W_unM, ↓W_negM, ↓W_nilA, ↓W_consA, ↓W_callM, ↓W_tupM, ↓W_lstM, ↓W_lstMt, ↓W_slcM, ↓W_part0, ↓W_parts, ↓W_slOt, ↓W_slOl, ↓W_slOr, ↓W_ifM, ↓W_truM, ↓W_bolM, ↓W_andT, ↓W_orT, ↓W_notT, ↓W_andE, ↓W_orE, ↓W_notE, ↓W_mthL, ↓W_lstFr, ↓W_dctM, ↓W_dctMt, ↓W_nilK, ↓W_consK, ↓W_kwM, ↓W_maxdM, ↓W_sort2M, ↓W_listRgM, ↓W_listRgMt, ↓W_lcM, ↓W_rng1I, ↓W_seqI, ↓W_addI, ↓W_addT, ↓W_addL, ↓W_addLt, ↓W_subI, ↓W_mulI, ↓W_mulL, ↓W_fdiv, ↓W_mod, ↓W_pow, ↓W_cmp, ↓W_is, ↓W_isNot, ↓W_eqi, ↓W_eqis, ↓W_eqb, ↓W_nei, ↓W_neis, ↓W_neb, ↓W_itT, ↓W_itL, ↓W_itF, ↓W_itD, ↓W_one, ↓W_lenL, ↓W_lenT, ↓W_lenF, ↓W_intI, ↓W_intB, ↓W_absI, ↓W_max2, ↓W_min2, ↓W_tupCl, ↓W_tupCr, ↓W_tupCt, ↓W_lstCf, ↓W_lstCl, ↓W_truL, ↓W_truT, ↓W_truB, ↓W_yesT, ↓W_itR0, ↓W_itRs, ↓H82.W_defC, ↓W_dget_hit, ↓W_dget_miss, ↓W_eqs_t, ↓W_eqs_f, ↓W_nes_t, ↓W_nes_f, ↓W_isiST, ↓W_isiIT, ↓W_isiTT, ↓W_isiIS, ↓W_isiIB, ↓W_isiII, ↓W_memT', ↓W_listRg2M, ↓W_rng2I, ↓RNG2_i, ↓W_lstAt_end, ↓W_apps, ↓W_app_end, ↓W_memLd, ↓W_notMemLd, ↓MEMD_nil, ↓MEMD_hit, ↓MEMD_miss, List.length_cons, List.length_nil, List.length_map, Nat.reduceAdd, Nat.reduceLT, Nat.reduceLeDiff, Nat.zero_add, List.append_nil, List.nil_append, List.cons_append, Nat.reduceBEq, Int.reduceBEq, Nat.reduceEqDiff, beq_self_eq_true, true_and, and_true, Bool.not_true, Bool.not_false, Bool.or_true, Bool.true_or, H82.sm1, H82.sm2, H82.sm3, H82.p18, ne_eq, not_false_eq_true, Int.reduceEq, reduceCtorEq, List.isEmpty_nil, List.isEmpty_cons, List.all_cons, List.all_nil, isSym_s, List.any_cons, List.any_nil, eqv_sym, Bool.or_false, Bool.false_or, Bool.and_self, Int.reduceLT, Int.reduceAdd, Int.reduceSub, decide_true, decide_false, ↓sc_names, ↓sc_shared, ↓sc_privates, ↓sc_fields, ↓sc_slots, ↓sc_program, ↓sc_calls, sNm_e, sSh_e, sNm_l, sSh_l, bigN])
/-! two lists at the end of the store, behind the tape -/
def B2 (rest : Store) (u v : List D) : Store := rest ++ [.lst u, .lst v]
section
variable {o : MObj} {rest : Store} {u v u' v' : List D}
theorem B2_u : (o :: B2 rest u v)[rest.length + 1]? = some (.lst u) := by simp [B2]
theorem B2_v : (o :: B2 rest u v)[rest.length + 2]? = some (.lst v) := by simp [B2]
theorem B2_u0 : (B2 rest u v)[rest.length]? = some (.lst u) := by simp [B2]
theorem B2_v0 : (B2 rest u v)[rest.length + 1]? = some (.lst v) := by simp [B2]
theorem B2_setu : (o :: B2 rest u v).set (rest.length + 1) (.lst u') = o :: B2 rest u' v := by simp [B2]
theorem B2_setv : (o :: B2 rest u v).set (rest.length + 2) (.lst v') = o :: B2 rest u v' := by
  unfold B2
  rw [List.set_cons_succ, List.set_append_right _ _ (by omega)]
  simp
theorem B2_setu0 : (B2 rest u v).set rest.length (.lst u') = B2 rest u' v := by simp [B2]
theorem B2_setv0 : (B2 rest u v).set (rest.length + 1) (.lst v') = B2 rest u v' := by
  unfold B2
  rw [List.set_append_right _ _ (by omega)]
  simp
theorem B2_CL (hr : CL rest) (hu : clos 0 u = true) (hv : clos 0 v = true) : CL (B2 rest u v) := CL_app.mpr ⟨hr, CL_cons.mpr ⟨hu, CL_cons.mpr ⟨hv, CL_nil⟩⟩⟩
theorem B2_len : (B2 rest u v).length = rest.length + 2 := by simp [B2]
end
theorem pop_at {n : Nat} {xs : List D} {st : Store} {r : Int} {x : D} {Q : D × Store → Prop} (h : st[n]? = some (.lst xs)) (h0 : 0 ≤ r) (h1 : r < xs.length) (hl : xs.length < 1000000) (hx : xs[r.toNat]? = some x) : W (popO (.ref n) [.int r] st) Q ↔ Q (x, st.set n (.lst (xs.eraseIdx r.toNat))) := by
  have hb : (decide (-(2 ^ 63) ≤ r) && decide (r < 2 ^ 63)) = true := by
    rw [Bool.and_eq_true, decide_eq_true_eq, decide_eq_true_eq]
    omega
  have hi : (if (decide (-(2 ^ 63) ≤ r) && decide (r < 2 ^ 63)) = true then seqIndex? r xs.length else none) = some r.toNat := by
    rw [if_pos hb]
    exact seqIndex_of h0 h1
  have e : popO (.ref n) [.int r] st = some (x, st.set n (.lst (xs.eraseIdx r.toNat))) := by
    unfold popO
    simp only [h]
    rw [hi]
    simp only [hx]
  rw [e]
  exact W_some
theorem app_at {n : Nat} {d : D} {xs : List D} {st : Store} {Q : D × Store → Prop} (h : st[n]? = some (.lst xs)) : W (appendO (.ref n) [d] st) Q ↔ xs.length < bigN ∧ Q (.non, st.set n (.lst (xs ++ [d]))) := append_at h
theorem cutL_sub {xs : List D} {lo hi : Option Int} {d : D} (h : d ∈ cutL xs lo hi) : d ∈ xs := List.mem_of_mem_drop (List.mem_of_mem_take h)
theorem shuf_loop (C : List V) {k : Nat} (hk : 1 ≤ k) {rest : Store} (hr : CL rest) (a1 : D) (menu : List D) (hm : clos 0 menu = true) (hl : menu.length < 100000) {Q : Fl × Mn.Env × Store → Prop} {o : MObj} (ho : Tape o)
    (q : ∀ (x4 : Option D) (turned : List D) (o' : MObj), Tape o' → turned.length = menu.length → (∀ d ∈ turned, d ∈ menu) → Q (.nx, [some (.ref 0), some a1, some (.ref (rest.length + 1)), some (.ref (rest.length + 2)), x4], o' :: B2 rest [] turned)) :
    W (forL (fun _ => true) (nameG 4) (seqS (exprS (mthL appendO (varM 3) (consA (mthL popO (varM 2) (consA (callM (defC (runP (pg C) k) j__law_draw 2 []) (consA (varM 0) (consA (callM (one lenF) (consA (varM 2) nilA)) nilA))) nilA)) nilA))) nextS)
      (rngL 0 menu.length) [some (.ref 0), some a1, some (.ref (rest.length + 1)), some (.ref (rest.length + 2)), none] (o :: B2 rest menu [])) Q := by
  obtain ⟨J, hJ⟩ : ∃ J : List D → Mn.Env → Store → Prop, J = fun r env s => ∃ (held turned : List D) (x4 : Option D) (o' : MObj), env = [some (.ref 0), some a1, some (.ref (rest.length + 1)), some (.ref (rest.length + 2)), x4] ∧ s = o' :: B2 rest held turned ∧ Tape o' ∧ held.length = r.length ∧ turned.length + held.length = menu.length ∧ (∀ d ∈ held, d ∈ menu) ∧ ∀ d ∈ turned, d ∈ menu := ⟨_, rfl⟩
  refine forL_W J ?_ ?_ _ _ _ (by rw [hJ]; exact ⟨menu, [], none, o, rfl, rfl, ho, by rw [rngL_len]; omega, by simp, fun d hd => hd, fun d hd => by cases hd⟩)
  · intro e r env s h
    rw [hJ] at h
    obtain ⟨held, turned, x4, o1, rfl, rfl, ho1, h1, h2, h3, h4⟩ := h
    refine ⟨rfl, ?_⟩
    rw [List.length_cons] at h1
    have ch : ∀ {l : List D}, (∀ d ∈ l, d ∈ menu) → clos 0 l = true := fun {l} h => clos_iff.mpr fun d hd => clos_iff.mp hm d (h d hd)
    simp? only [true_and]
    rw [lstAt_at B2_v0, lstAt_at B2_u0, len_at B2_u]
    refine (draw_ok' C hk held.length (B2_CL hr (ch h3) (ch h4)) (by omega)).W ho1 ?_
    rintro d o2 ⟨i, rfl, i0, i1⟩ ho2
    simp? only [true_and]
    have hi : i.toNat < held.length := by omega
    have hx : held[i.toNat]? = some held[i.toNat] := List.getElem?_eq_getElem hi
    rw [pop_at B2_u i0 (by omega) (by omega) hx, B2_setu]
    dsimp only
    rw [app_at B2_v, B2_setv]
    refine ⟨by simp only [bigN]; omega, ?_⟩
    rw [hJ]
    refine ⟨held.eraseIdx i.toNat, turned ++ [held[i.toNat]], some e, o2, rfl, rfl, ho2, ?_, ?_, fun d hd => h3 d (List.mem_of_mem_eraseIdx hd), fun d hd => ?_⟩
    · rw [List.length_eraseIdx, if_pos hi]; omega
    · rw [List.length_eraseIdx, if_pos hi, List.length_append, List.length_singleton]; omega
    · rcases List.mem_append.mp hd with hd | hd
      · exact h4 d hd
      · rw [List.mem_singleton.mp hd]
        exact h3 _ (List.getElem_mem hi)
  · intro env s h
    rw [hJ] at h
    obtain ⟨held, turned, x4, o1, rfl, rfl, ho1, h1, h2, h3, h4⟩ := h
    have e : held = [] := List.eq_nil_of_length_eq_zero h1
    subst e
    exact ⟨rfl, q x4 turned o1 ho1 (by simpa using h2) h4⟩
theorem shuffled_ok (C : List V) {k : Nat} (hk : 2 ≤ k) {menu : List D} {rest : Store} (hr : CL rest) (hm : clos 0 menu = true) (hl : menu.length < 100000) : Dr C k j__law_shuffled [.ref 0, .lst menu] rest fun d => ∃ xs, d = .lst xs ∧ xs.length = menu.length ∧ ∀ x ∈ xs, x ∈ menu := by
  obtain ⟨k, rfl⟩ := Nat.exists_eq_add_of_le' (show 1 ≤ k by omega)
  intro o ho
  refine r__law_shuffled ?_
  unfold m__law_shuffled
  simp? only [true_and]
  refine ⟨by decide, okR_small (by omega), ?_⟩
  have e : o :: (rest ++ [MObj.lst menu] ++ [MObj.lst []]) = o :: B2 rest menu [] := by simp [B2]
  have e1 : (o :: (rest ++ [MObj.lst menu])).length = rest.length + 2 := by simp
  have e2 : (rest ++ [MObj.lst menu]).length + 1 = rest.length + 2 := by simp
  rw [e, e2]
  refine shuf_loop C (by omega) hr _ menu hm hl ho fun x4 turned o' ho' h1 h2 => ?_
  simp? only [true_and]
  have ct : clos 0 turned = true := clos_iff.mpr fun d hd => clos_iff.mp hm d (h2 d hd)
  exact exit_lst (st := o' :: rest) (ex := [MObj.lst [], MObj.lst turned]) rfl (CL_cons.mpr ⟨ho'.cl, hr⟩) (by omega) (by simp) ct ⟨⟨turned, rfl, h1, h2⟩, o', ho', rfl⟩
theorem turns_ok (C : List V) {k : Nat} (hk : 2 ≤ k) {rest : Store} (hr : CL rest) : Dr C k j__law_turns [.ref 0, .int 2] rest fun d => ∃ xs, d = .lst xs ∧ ∀ x ∈ xs, ∃ i : Int, x = .int i := by
  obtain ⟨k, rfl⟩ := Nat.exists_eq_add_of_le' (show 1 ≤ k by omega)
  intro o ho
  refine r__law_turns ?_
  unfold m__law_turns
  simp? only [↓W_listRgMt]
  refine ⟨by decide, by decide, by decide, ?_⟩
  have e : o :: (rest ++ [MObj.lst (rngL 0 2)] ++ [MObj.lst []]) = o :: B2 rest (rngL 0 2) [] := by simp [B2]
  have e2 : (rest ++ [MObj.lst (rngL 0 2)]).length + 1 = rest.length + 2 := by simp
  rw [e, e2]
  refine shuf_loop C (by omega) hr (.int 2) (rngL 0 2) rfl (by decide) ho fun x4 turned o' ho' h1 h2 => ?_
  have hints : ∀ d ∈ turned, ∃ i : Int, d = .int i := fun d hd => by
    obtain ⟨i, rfl, _⟩ := rngL_mem (h2 d hd)
    exact ⟨i, rfl⟩
  have ct : clos 0 turned = true := clos_iff.mpr fun d hd => by
    obtain ⟨i, rfl⟩ := hints d hd
    rfl
  simp? only [true_and]
  refine ⟨by decide, ?_⟩
  refine (draw_ok' C (by omega) 3 (B2_CL hr rfl ct) (by decide)).W ho' ?_
  rintro d o2 ⟨r, rfl, r0, r1⟩ ho2
  simp? only [true_and]
  obtain ⟨d, hd, e⟩ := atI_mem (xs := [D.int 2, .int 2, .int 1]) (r := r) r0 (by show r < 3; omega)
  rw [e]
  have : ∃ c : Int, d = .int c := by
    simp only [List.mem_cons, List.not_mem_nil, or_false] at hd
    rcases hd with rfl | rfl | rfl <;> exact ⟨_, rfl⟩
  obtain ⟨c, rfl⟩ := this
  simp? only [true_and]
  rw [lstAt_at B2_v0]
  have hin : ∀ d ∈ cutL turned none (some c), d ∈ turned := fun d hd => cutL_sub hd
  have cc : clos 0 (cutL turned none (some c)) = true := clos_iff.mpr fun d hd => by
    obtain ⟨i, rfl⟩ := hints d (hin d hd)
    rfl
  exact exitC (st := o2 :: rest) (ex := [MObj.lst [], MObj.lst turned]) (d := .lst _) rfl (CL_cons.mpr ⟨ho2.cl, hr⟩) cc ⟨⟨_, rfl, fun d hd => hints d (hin d hd)⟩, o2, ho2, rfl⟩
theorem tape_ok (C : List V) {k : Nat} (hk : 1 ≤ k) (ns : List Int) : W (runP (pg C) k j__law_tape [.fro (ns.map D.int)] []) fun q => q.1 = .ref 0 ∧ ∃ o, Tape o ∧ q.2 = [o] := by
  obtain ⟨k, rfl⟩ := Nat.exists_eq_add_of_le' (show 1 ≤ k by omega)
  refine r__law_tape ?_
  unfold m__law_tape
  simp? only [true_and]
  obtain ⟨J, hJ⟩ : ∃ J : List D → Mn.Env → Store → Prop, J = fun r env s => ∃ (m : Int) (x2 : Option D), env = [some (.fro (ns.map D.int)), some (.int m), x2] ∧ s = [] ∧ ∀ d ∈ r, ∃ i : Int, d = .int i := ⟨_, rfl⟩
  refine forL_W J ?_ ?_ _ _ _ (by rw [hJ]; exact ⟨7, none, rfl, rfl, fun d hd => by obtain ⟨i, _, rfl⟩ := List.mem_map.mp hd; exact ⟨i, rfl⟩⟩)
  · intro e r env s h
    rw [hJ] at h
    obtain ⟨m, x2, rfl, rfl, hr⟩ := h
    obtain ⟨i, rfl⟩ := hr e List.mem_cons_self
    refine ⟨rfl, ?_⟩
    simp? only [true_and]
    rw [hJ]
    exact ⟨_, _, rfl, rfl, fun d hd => hr d (List.mem_cons_of_mem _ hd)⟩
  · intro env s h
    rw [hJ] at h
    obtain ⟨m, x2, rfl, rfl, hr⟩ := h
    refine ⟨rfl, ?_⟩
    simp? only [true_and]
    refine ⟨by decide, ?_⟩
    exact ⟨_, rfl, rfl, _, ⟨ns, 0, 0, m, rfl⟩, rfl⟩
end H82
set_option Elab.async false
set_option linter.all false
set_option maxRecDepth 100000
set_option maxHeartbeats 4000000
set_option autoImplicit false
namespace H82
open PySem PySem.Spec PyProof.Rows L2 Mn
local macro_rules
  | `(tactic| simp? only [$ls,*]) => `(tactic| simp only [$ls,*, ↓br_t, ↓br_f, ↓KS_nx, ↓KS_ret, ↓KS_brk, ↓KS_cnt, ↓LQ_nx, ↓LQ_cnt, ↓LQ_brk, ↓LQ_ret, ↓EX_nx, ↓EX_ret, ↓SETE_0, ↓SETE_s, ↓BL_b, ↓INT_i, ↓KEY_s, ↓NL_0, ↓NL_s, ↓W_lstAt0, ↓W_lstAts, ↓W_at0, ↓W_ats, ↓PAR2_c, ↓PAR3_c, ↓RNG_i, ↓SEQ_l, ↓SEQ_f, ↓SEQ_t, ↓SEQ_r, ↓W_some, ↓W_atI0, ↓W_atI1, ↓W_atI2, ↓W_atI3, ↓W_atI4, ↓W_atI5, ↓W_atI6, ↓W_atI7, ↓W_atI8, ↓W_atI9, ↓W_atI10, ↓W_atI11, ↓W_atI12, ↓W_seqS, ↓W_asgS, ↓W_exprS, ↓W_retS, ↓W_retN, ↓W_brkS, ↓W_cntS, ↓W_nextS, ↓W_ifS, ↓W_forS, ↓W_par2, ↓W_par3, ↓W_nameG, ↓W_tupG, ↓W_consG, ↓W_nilG, ↓W_subG, ↓W_setO0, ↓W_setOs, ↓SETL_0, ↓SETL_s, ↓IXN_0, ↓IXN_1, ↓IXN_2, ↓IXN_3, ↓IXN_nat, ↓W_var0, ↓W_vars, ↓W_cM, ↓W_binM, ↓W_unM, ↓W_negM, ↓W_nilA, ↓W_consA, ↓W_callM, ↓W_tupM, ↓W_lstM, ↓W_lstMt, ↓W_slcM, ↓W_part0, ↓W_parts, ↓W_slOt, ↓W_slOl, ↓W_slOr, ↓W_ifM, ↓W_truM, ↓W_bolM, ↓W_andT, ↓W_orT, ↓W_notT, ↓W_andE, ↓W_orE, ↓W_notE, ↓W_mthL, ↓W_lstFr, ↓W_dctM, ↓W_dctMt, ↓W_nilK, ↓W_consK, ↓W_kwM, ↓W_maxdM, ↓W_sort2M, ↓W_listRgM, ↓W_listRgMt, ↓W_lcM, ↓W_rng1I, ↓W_seqI, ↓W_addI, ↓W_addT, ↓W_addL, ↓W_addLt, ↓W_subI, ↓W_mulI, ↓W_mulL, ↓W_fdiv, ↓W_mod, ↓W_pow, ↓W_cmp, ↓W_is, ↓W_isNot, ↓W_eqi, ↓W_eqis, ↓W_eqb, ↓W_nei, ↓W_neis, ↓W_neb, ↓W_itT, ↓W_itL, ↓W_itF, ↓W_itD, ↓W_one, ↓W_lenL, ↓W_lenT, ↓W_lenF, ↓W_intI, ↓W_intB, ↓W_absI, ↓W_max2, ↓W_min2, ↓W_tupCl, ↓W_tupCr, ↓W_tupCt, ↓W_lstCf, ↓W_lstCl, ↓W_truL, ↓W_truT, ↓W_truB, ↓W_yesT, ↓W_itR0, ↓W_itRs, ↓H82.W_defC, ↓W_dget_hit, ↓W_dget_miss, ↓W_eqs_t, ↓W_eqs_f, ↓W_nes_t, ↓W_nes_f, ↓W_isiST, ↓W_isiIT, ↓W_isiTT, ↓W_isiIS, ↓W_isiIB, ↓W_isiII, ↓W_memT', ↓W_listRg2M, ↓W_rng2I, ↓RNG2_i, ↓W_lstAt_end, ↓W_apps, ↓W_app_end, ↓W_memLd, ↓W_notMemLd, ↓MEMD_nil, ↓MEMD_hit, ↓MEMD_miss, List.length_cons, List.length_nil, List.length_map, Nat.reduceAdd, Nat.reduceLT, Nat.reduceLeDiff, Nat.zero_add, List.append_nil, List.nil_append, List.cons_append, Nat.reduceBEq, Int.reduceBEq, Nat.reduceEqDiff, beq_self_eq_true, true_and, and_true, Bool.not_true, Bool.not_false, Bool.or_true, Bool.true_or, H82.sm1, H82.sm2, H82.sm3, H82.p18, ne_eq, not_false_eq_true, Int.reduceEq, reduceCtorEq, List.isEmpty_nil, List.isEmpty_cons, List.all_cons, List.all_nil, isSym_s, List.any_cons, List.any_nil, eqv_sym, Bool.or_false, Bool.false_or, Bool.and_self, Int.reduceLT, Int.reduceAdd, Int.reduceSub, decide_true, decide_false])
local macro_rules
  | `(tactic| simp? [$ls,*]) => `(tactic| simp only [$ls,*, ↓br_t, ↓br_f, ↓KS_nx, ↓KS_ret, ↓KS_brk, ↓KS_cnt, ↓LQ_nx, ↓LQ_cnt, ↓LQ_brk, ↓LQ_ret, ↓EX_nx, ↓EX_ret, ↓SETE_0, ↓SETE_s, ↓BL_b, ↓INT_i, ↓KEY_s, ↓NL_0, ↓NL_s, ↓W_lstAt0, ↓W_lstAts, ↓W_at0, ↓W_ats, ↓PAR2_c, ↓PAR3_c, ↓RNG_i, ↓SEQ_l, ↓SEQ_f, ↓SEQ_t, ↓SEQ_r, ↓W_some, ↓W_atI0, ↓W_atI1, ↓W_atI2, ↓W_atI3, ↓W_atI4, ↓W_atI5, ↓W_atI6, ↓W_atI7, ↓W_atI8, ↓W_atI9, ↓W_atI10, ↓W_atI11, ↓W_atI12, ↓W_seqS, ↓W_asgS, ↓W_exprS, ↓W_retS, ↓W_retN, ↓W_brkS, ↓W_cntS, ↓W_nextS, ↓W_ifS, ↓W_forS, ↓W_par2, ↓W_par3, ↓W_nameG, ↓W_tupG, ↓W_consG, ↓W_nilG, ↓W_subG, ↓W_setO0, ↓W_setOs, ↓SETL_0, ↓SETL_s, ↓IXN_0, ↓IXN_1, ↓IXN_2, ↓IXN_3, ↓IXN_nat, ↓W_var0, ↓W_vars, ↓W_cM, ↓W_binM, ↓W_unM, ↓W_negM, ↓W_nilA, ↓W_consA, ↓W_callM, ↓W_tupM, ↓W_lstM, ↓W_lstMt, ↓W_slcM, ↓W_part0, ↓W_parts, ↓W_slOt, ↓W_slOl, ↓W_slOr, ↓W_ifM, ↓W_truM, ↓W_bolM, ↓W_andT, ↓W_orT, ↓W_notT, ↓W_andE, ↓W_orE, ↓W_notE, ↓W_mthL, ↓W_lstFr, ↓W_dctM, ↓W_dctMt, ↓W_nilK, ↓W_consK, ↓W_kwM, ↓W_maxdM, ↓W_sort2M, ↓W_listRgM, ↓W_listRgMt, ↓W_lcM, ↓W_rng1I, ↓W_seqI, ↓W_addI, ↓W_addT, ↓W_addL, ↓W_addLt, ↓W_subI, ↓W_mulI, ↓W_mulL, ↓W_fdiv, ↓W_mod, ↓W_pow, ↓W_cmp, ↓W_is, ↓W_isNot, ↓W_eqi, ↓W_eqis, ↓W_eqb, ↓W_nei, ↓W_neis, ↓W_neb, ↓W_itT, ↓W_itL, ↓W_itF, ↓W_itD, ↓W_one, ↓W_lenL, ↓W_lenT, ↓W_lenF, ↓W_intI, ↓W_intB, ↓W_absI, ↓W_max2, ↓W_min2, ↓W_tupCl, ↓W_tupCr, ↓W_tupCt, ↓W_lstCf, ↓W_lstCl, ↓W_truL, ↓W_truT, ↓W_truB, ↓W_yesT, ↓W_itR0, ↓W_itRs, ↓H82.W_defC, ↓W_dget_hit, ↓W_dget_miss, ↓W_eqs_t, ↓W_eqs_f, ↓W_nes_t, ↓W_nes_f, ↓W_isiST, ↓W_isiIT, ↓W_isiTT, ↓W_isiIS, ↓W_isiIB, ↓W_isiII, ↓W_memT', ↓W_listRg2M, ↓W_rng2I, ↓RNG2_i, ↓W_lstAt_end, ↓W_apps, ↓W_app_end, ↓W_memLd, ↓W_notMemLd, ↓MEMD_nil, ↓MEMD_hit, ↓MEMD_miss, List.length_cons, List.length_nil, List.length_map, Nat.reduceAdd, Nat.reduceLT, Nat.reduceLeDiff, Nat.zero_add, List.append_nil, List.nil_append, List.cons_append, Nat.reduceBEq, Int.reduceBEq, Nat.reduceEqDiff, beq_self_eq_true, true_and, and_true, Bool.not_true, Bool.not_false, Bool.or_true, Bool.true_or, H82.sm1, H82.sm2, H82.sm3, H82.p18, ne_eq, not_false_eq_true, Int.reduceEq, reduceCtorEq, List.isEmpty_nil, List.isEmpty_cons, List.all_cons, List.all_nil, isSym_s, List.any_cons, List.any_nil, eqv_sym, Bool.or_false, Bool.false_or, Bool.and_self, Int.reduceLT, Int.reduceAdd, Int.reduceSub, decide_true, decide_false, ↓sc_names, ↓sc_shared, ↓sc_privates, ↓sc_fields, ↓sc_slots, ↓sc_program, ↓sc_calls, sNm_e, sSh_e, sNm_l, sSh_l, bigN])
/-! kinds -/
def Verb (d : D) : Prop := ∃ (w : Nat) (n : Int), d = .tup [.sym w, .int n]
def kindNames : List Nat := [37, 38, 21, 39, 40, 41, 42, 43, 4, 44]
def TRow (d : D) : Prop := ∃ (i : Int) (w : Nat) (ps : List D) (r : List D), d = .tup (.int i :: .sym w :: .tup ps :: r) ∧ clos 0 ps = true ∧ clos 0 r = true ∧ ps.length < 100
def Kind (d : D) : Prop := (∃ (w : Nat) (r : List D), w ∈ kindNames ∧ d = .tup (.sym w :: r) ∧ clos 0 r = true) ∨ ∃ (i : Int) (rows : List D), d = .tup [.sym 36, .int i, .tup rows] ∧ 0 < rows.length ∧ rows.length < 100 ∧ ∀ r ∈ rows, TRow r
theorem TRow.clo {d : D} (h : TRow d) : clo 0 d = true := by
  obtain ⟨i, w, ps, r, rfl, h1, h2, _⟩ := h
  show (true && (true && (clos 0 ps && clos 0 r))) = true
  rw [h1, h2]; rfl
theorem Kind.clo {d : D} (h : Kind d) : clo 0 d = true := by
  rcases h with ⟨w, r, _, rfl, h⟩ | ⟨i, rows, rfl, _, _, h⟩
  · show (true && clos 0 r) = true
    rw [h]; rfl
  · show (true && (true && (clos 0 rows && true))) = true
    rw [clos_iff.mpr fun d hd => (h d hd).clo]; rfl
theorem verb_plain {d : D} (h : Verb d) : plain d = true ∧ depthD d ≤ 1 := by
  obtain ⟨w, n, rfl⟩ := h
  exact ⟨rfl, Nat.le_refl 1⟩
theorem plains_of {xs : List D} (h : ∀ d ∈ xs, plain d = true) : plains xs = true := by
  induction xs with
  | nil => rfl
  | cons x xs ih =>
    show (plain x && plains xs) = true
    rw [h x List.mem_cons_self, ih fun d hd => h d (List.mem_cons_of_mem _ hd)]; rfl
theorem notMemR {B : Tb} {n : Nat} {xs : List D} {x : D} {st : Store} {Q : D × Store → Prop} (h : st[n]? = some (.lst xs)) (hx : plain x = true) (hxs : ∀ d ∈ xs, plain d = true) (hd : depthD x ≤ 64) : W (notMemO B x (.ref n) st) Q ↔ Q (.bl (!xs.any fun z => eqv z x), st) := by
  have e : notMemO B x (.ref n) st = some (.bl (!xs.any fun z => eqv z x), st) := by
    unfold notMemO memB inB
    simp only [dctOf, seqOf, lstOf, h]
    rw [if_pos (by rw [hx, plains_of hxs]; simp [hd])]
    rfl
  rw [e]
  exact W_some
theorem k_operations_ok (C : List V) {k : Nat} (hk : 1 ≤ k) {d : D} (hd : Kind d) {st : Store} (hs : CL st) : W (runP (pg C) k j__law_k_operations [d] st) fun q => q.2 = st ∧ ∃ ops, q.1 = .tup ops ∧ 0 < ops.length ∧ ops.length < 1000 ∧ ∀ d ∈ ops, Verb d := by
  obtain ⟨k, rfl⟩ := Nat.exists_eq_add_of_le' hk
  refine r__law_k_operations ?_
  unfold m__law_k_operations
  rcases hd with ⟨w, r, hw, rfl, _⟩ | ⟨i, rows, rfl, h0, h1, hrows⟩
  · simp only [kindNames, List.mem_cons, List.not_mem_nil, or_false] at hw
    rcases hw with rfl | rfl | rfl | rfl | rfl | rfl | rfl | rfl | rfl | rfl
    all_goals
      simp? [dputs, dput, DK.s.injEq, List.mem_cons, List.mem_singleton, List.not_mem_nil, or_false, false_or, or_self, reduceIte, if_false, Nat.reduceEqDiff, ↓W_setD_end, ↓W_memD_end, ↓W_itD_end, ↓DGI_hit, ↓DGI_miss, ↓DGI_nil]
      refine exitC rfl hs rfl ⟨rfl, _, rfl, by decide, by decide, fun d hd => ?_⟩
      simp only [List.mem_cons, List.not_mem_nil, or_false] at hd
      repeat' (first | (rcases hd with rfl | hd; exact ⟨_, _, rfl⟩) | (subst hd; exact ⟨_, _, rfl⟩))
  · simp? [true_and]
    have cv : ∀ {l : List D}, (∀ d ∈ l, Verb d) → clos 0 l = true := fun {l} h => clos_iff.mpr fun d hd => by
      obtain ⟨w, n, rfl⟩ := h d hd
      rfl
    obtain ⟨J, hJ⟩ : ∃ J : List D → Mn.Env → Store → Prop, J = fun r env s => ∃ (told : List D) (x3 : Option D), env = [some (D.tup [D.sym 36, D.int i, D.tup rows]), none, some (D.ref (List.length st)), x3] ∧ s = st ++ [.lst told] ∧ (∀ d ∈ told, Verb d) ∧ told.length + r.length ≤ rows.length ∧ (told = [] → r ≠ []) ∧ ∀ d ∈ r, TRow d := ⟨_, rfl⟩
    refine forL_W J ?_ ?_ _ _ _ (by rw [hJ]; exact ⟨[], none, rfl, rfl, fun d hd => (nomatch hd), by simp, fun _ h => by subst h; exact absurd h0 (by decide), hrows⟩)
    · intro e r env s h
      rw [hJ] at h
      obtain ⟨told, x3, rfl, rfl, h3, h4, h5, h6⟩ := h
      obtain ⟨j, w, ps, r2, rfl, _, _, hps⟩ := h6 e List.mem_cons_self
      refine ⟨rfl, ?_⟩
      rw [List.length_cons] at h4
      have h7 : ∀ d ∈ r, TRow d := fun d hd => h6 d (List.mem_cons_of_mem _ hd)
      have nm : ∀ {Q : D × Store → Prop}, W (notMemO (TB C) (.tup [.sym w, .int ps.length]) (.ref st.length) (st ++ [.lst told])) Q ↔ Q (.bl (!told.any fun z => eqv z (.tup [.sym w, .int ps.length])), st ++ [.lst told]) := notMemR (by simp) rfl (fun d hd => (verb_plain (h3 d hd)).1) (by show 1 ≤ 64; decide)
      simp? [↓nm]
      refine br_n (br_i (fun hb => ?_) fun hb => ?_)
      · rw [hJ]
        refine ⟨told, _, rfl, rfl, h3, by omega, fun h => ?_, h7⟩
        subst h
        cases hb
      · refine ⟨by omega, ?_⟩
        rw [hJ]
        refine ⟨told ++ [_], _, rfl, rfl, fun d hd => ?_, by rw [List.length_append, List.length_singleton]; omega, fun h => by simp at h, h7⟩
        rcases List.mem_append.mp hd with hd | hd
        · exact h3 d hd
        · exact ⟨_, _, List.mem_singleton.mp hd⟩
    · intro env s h
      rw [hJ] at h
      obtain ⟨told, x3, rfl, rfl, h3, h4, h5, h6⟩ := h
      refine ⟨rfl, ?_⟩
      simp? [true_and]
      refine exitC rfl hs (cv h3) ⟨rfl, told, rfl, ?_, by simp at h4; omega, h3⟩
      cases told with
      | nil => exact absurd rfl (h5 rfl)
      | cons _ _ => exact Nat.zero_lt_succ _
theorem fin' {o : MObj} {rest ex : Store} {d : D} {R : D → Prop} (ho : Tape o) (hr : CL rest) (hd : clo 0 d = true) (h : R d) : Mn.W (exitR false (List.length rest + 1) d (o :: (rest ++ ex))) (PQ R rest) :=
  exitC (st := o :: rest) (ex := ex) rfl (CL_cons.mpr ⟨ho.cl, hr⟩) hd ⟨h, o, ho, rfl⟩
theorem pickI (C : List V) {k : Nat} (hk : 2 ≤ k) (l : List Int) {lo hi : Int} {rest : Store} (hr : CL rest) (h0 : 0 < l.length) (hl : l.length < 1000) (h : ∀ i ∈ l, lo ≤ i ∧ i < hi) : Dr C k j__law_pick [.ref 0, .lst (l.map D.int)] rest (Rg lo hi) := by
  refine (pick_ok C hk hr (by rw [List.length_map]; exact h0) (fun d hd => ?_) (by rw [List.length_map]; omega)).imp fun d hd => ?_
  · obtain ⟨i, _, rfl⟩ := List.mem_map.mp hd
    rfl
  · obtain ⟨i, hi, rfl⟩ := List.mem_map.mp hd
    exact ⟨i, rfl, h i hi⟩
/-- items made one by one, none left out -/
theorem lcL_each {tg : GM} {e : EM} {wenv : Mn.Env} {T : Store → Prop} {R : D → Prop} (items : List D) (step : ∀ d ∈ items, ∀ st, T st → W (tg d wenv st) fun p => W (e p.1 p.2) fun x => R x.1 ∧ T x.2) :
    ∀ (st : Store), T st → W (lcL (fun _ => true) tg yesT e wenv items st) fun q => q.1.length = items.length ∧ (∀ d ∈ q.1, R d) ∧ T q.2 := by
  induction items with
  | nil =>
    intro st h
    unfold lcL
    rw [if_pos rfl]
    exact ⟨_, rfl, rfl, fun d hd => absurd hd (by simp), h⟩
  | cons d r ih =>
    intro st h
    obtain ⟨⟨e1, s1⟩, h2, ⟨x, s3⟩, h5, h6, h7⟩ := step d List.mem_cons_self st h
    have ih := ih (fun d hd => step d (List.mem_cons_of_mem _ hd))
    unfold lcL
    rw [if_pos rfl, h2, Option.bind_some]
    show W ((some (true, s1)).bind _) _
    dsimp only at h5
    rw [Option.bind_some]
    dsimp only
    rw [if_pos rfl, h5, Option.bind_some, W_map]
    refine (ih s3 h7).mono fun q ⟨q1, q2, q3⟩ => ⟨congrArg (· + 1) q1, fun y hy => ?_, q3⟩
    rcases List.mem_cons.mp hy with rfl | hy
    · exact h6
    · exact q2 y hy
theorem cutL_take {xs : List D} {n : Nat} : cutL xs none (some (n : Int)) = xs.take n := by
  unfold cutL
  rw [HT.sIx_none, HT.sIx_nat, List.drop_zero, Nat.sub_zero]
  by_cases h : n ≤ xs.length
  · rw [Nat.min_eq_left h]
  · rw [Nat.min_eq_right (by omega), List.take_of_length_le (Nat.le_refl _), List.take_of_length_le (by omega)]
theorem cutL_drop {xs : List D} {n : Nat} : cutL xs (some (n : Int)) none = xs.drop n := by
  unfold cutL
  rw [HT.sIx_none, HT.sIx_nat]
  by_cases h : n ≤ xs.length
  · rw [Nat.min_eq_left h, List.take_of_length_le (by rw [List.length_drop]; omega)]
  · rw [Nat.min_eq_right (by omega), List.drop_of_length_le (Nat.le_refl _), List.drop_of_length_le (by omega)]
    simp
theorem ints_list {lo hi : Int} : ∀ {xs : List D}, (∀ d ∈ xs, Rg lo hi d) → ∃ l : List Int, xs = l.map D.int
  | [], _ => ⟨[], rfl⟩
  | x :: xs, h => by
    obtain ⟨i, rfl, _⟩ := h x List.mem_cons_self
    obtain ⟨l, rfl⟩ := ints_list fun d hd => h d (List.mem_cons_of_mem _ hd)
    exact ⟨i :: l, rfl⟩
def Head (d : D) : Prop := ∃ (i : Int) (w : Nat) (ps : List Int), d = .tup [.int i, .sym w, .tup (ps.map D.int)] ∧ ps.length < 10
theorem ints_clos (ps : List Int) : clos 0 (ps.map D.int) = true := clos_iff.mpr fun d hd => by
  obtain ⟨i, _, rfl⟩ := List.mem_map.mp hd
  rfl
theorem ints_plain (ps : List Int) : plains (ps.map D.int) = true ∧ depthDs (ps.map D.int) = 0 := plains_all intD_plain (List.all_eq_true.mpr fun d hd => by
  obtain ⟨i, _, rfl⟩ := List.mem_map.mp hd
  rfl)
theorem Head.clo {d : D} (h : Head d) : clo 0 d = true := by
  obtain ⟨i, w, ps, rfl, _⟩ := h
  show (true && (true && (clos 0 (ps.map D.int) && true))) = true
  rw [ints_clos]; rfl
theorem Head.plain {d : D} (h : Head d) : Mn.plain d = true ∧ depthD d ≤ 64 := by
  obtain ⟨i, w, ps, rfl, _⟩ := h
  obtain ⟨h1, h2⟩ := ints_plain ps
  refine ⟨?_, ?_⟩
  · show (true && (true && (plains (ps.map D.int) && true))) = true
    rw [h1]; rfl
  · show max 0 (max 0 (max (depthDs (ps.map D.int) + 1) 0)) + 1 ≤ 64
    rw [h2]; decide
theorem some_table_ok (C : List V) {k : Nat} (hk : 4 ≤ k) {rest : Store} (hr : CL rest) : Dr C k j__law_k_some_table [.ref 0] rest Kind := by
  obtain ⟨k, rfl⟩ := Nat.exists_eq_add_of_le' (show 1 ≤ k by omega)
  intro o ho
  refine r__law_k_some_table ?_
  unfold m__law_k_some_table
  (refine W_seqS.mpr ?_; generalize hK : KS _ _ = K; simp? [true_and])
  refine (shuffled_ok C (by omega) hr (by decide) (by decide)).W ho ?_
  rintro d o2 ⟨ws, rfl, hw1, hw2⟩ ho2
  refine (draw_ok' C (by omega) 3 hr (by decide)).W ho2 ?_
  rintro d o3 ⟨r, rfl, r0, r1⟩ ho3
  (simp? [true_and]; subst hK; refine KS_nx.mpr ?_)
  obtain ⟨n, rfl⟩ := Int.eq_ofNat_of_zero_le r0
  have ecut : cutL ws none (some (1 + (n : Int))) = ws.take (1 + n) := by
    rw [show (1 : Int) + (n : Int) = ((1 + n : Nat) : Int) by omega]
    exact cutL_take
  have hwl : ws.length = 7 := hw1
  rw [ecut]
  have hsym : ∀ d ∈ ws.take (1 + n), ∃ w, d = .sym w := fun d hd => by
    have := hw2 d (List.mem_of_mem_take hd)
    simp only [List.mem_cons, List.not_mem_nil, or_false] at this
    rcases this with rfl | rfl | rfl | rfl | rfl | rfl | rfl <;> exact ⟨_, rfl⟩
  have hlen : (ws.take (1 + n)).length = 1 + n := by rw [List.length_take]; omega
  generalize ws.take (1 + n) = words at hsym hlen ⊢
  (refine W_seqS.mpr ?_; generalize hK : KS _ _ = K; simp? [true_and])
  refine (lcL_each (T := fun s => ∃ o', Tape o' ∧ s = o' :: rest) (R := Rg 0 4) words (fun d hd s hT => ?_) _ ⟨o3, ho3, rfl⟩).mono ?_
  · obtain ⟨o', ho', rfl⟩ := hT
    simp? [wipeE, List.set_cons_succ, List.set_cons_zero]
    exact (pickI C (by omega) [0, 0, 1, 1, 2, 3] hr (by decide) (by decide) (by decide)).W ho' fun d o2 hd ho2 => ⟨hd, o2, ho2, rfl⟩
  rintro ⟨cs, s⟩ ⟨hc1, hc2, o4, ho4, rfl⟩
  dsimp only at hc1 hc2
  refine ⟨by dsimp only; omega, ?_⟩
  (simp? [true_and]; subst hK; refine KS_nx.mpr ?_)
  (refine W_seqS.mpr ?_; generalize hK : KS _ _ = K; simp? [true_and])
  refine (pickI C (by omega) (lo := 0) (hi := 11) [2, 2, 3, 10] hr (by decide) (by decide) (by decide)).W ho4 ?_
  rintro d o5 ⟨cnt, rfl, hn0, hn1⟩ ho5
  (simp? [true_and]; subst hK; refine KS_nx.mpr ?_)
  (refine W_seqS.mpr ?_; generalize hK : KS _ _ = K; simp? [true_and]; subst hK; refine KS_nx.mpr ?_)
  (refine W_seqS.mpr ?_; generalize hK : KS _ _ = K; simp? [true_and]; subst hK; refine KS_nx.mpr ?_)
  (refine W_seqS.mpr ?_; generalize hK : KS _ _ = K; simp? [true_and])
  have eB : o5 :: (rest ++ [MObj.lst []] ++ [MObj.lst []]) = o5 :: B2 rest [] [] := by simp [B2]
  have eL : (rest ++ [MObj.lst []]).length + 1 = rest.length + 2 := by simp
  rw [eB]
  refine (pickI C (by omega) (lo := 1) (hi := 25) [1, 3, 4, 6, 8, 24] (B2_CL hr rfl rfl) (by decide) (by decide) (by decide)).W ho5 ?_
  rintro d o6 ⟨m, rfl, m0, m1⟩ ho6
  simp? [true_and]
  refine ⟨okR_small (by omega), ?_⟩
  rw [eL]
  subst hK
  have hcl : ∀ {heads rows : List D}, (∀ d ∈ heads, Head d) → (∀ d ∈ rows, TRow d) → CL (B2 rest heads rows) := fun h1 h2 => B2_CL hr (clos_iff.mpr fun d hd => (h1 d hd).clo) (clos_iff.mpr fun d hd => (h2 d hd).clo)
  obtain ⟨J, hJ⟩ : ∃ J : List D → Mn.Env → Store → Prop, J = fun r env s => ∃ (heads rows : List D) (x6 x7 x8 x9 x10 x11 x12 : Option D) (o' : MObj), env = [some (.ref 0), some (.lst words), some (.lst cs), some (.int cnt), some (.ref (rest.length + 1)), some (.ref (rest.length + 2)), x6, x7, x8, x9, x10, x11, x12] ∧ s = o' :: B2 rest heads rows ∧ Tape o' ∧ (∀ d ∈ heads, Head d) ∧ (∀ d ∈ rows, TRow d) ∧ rows.length = heads.length ∧ heads.length + r.length ≤ 24 ∧ (heads = [] → r ≠ []) := ⟨_, rfl⟩
  refine forL_W J ?_ ?_ _ _ _ (by rw [hJ]; exact ⟨[], [], none, none, none, none, none, none, none, o6, rfl, rfl, ho6, fun d hd => (nomatch hd), fun d hd => (nomatch hd), rfl, by rw [rngL_len]; simp; omega, fun _ h => by have := congrArg List.length h; rw [rngL_len] at this; simp at this; omega⟩)
  · intro e r env s h
    rw [hJ] at h
    obtain ⟨heads, rows, x6, x7, x8, x9, x10, x11, x12, o7, rfl, rfl, ho7, h1, h2, h3, h4, h5⟩ := h
    refine ⟨rfl, ?_⟩
    rw [List.length_cons] at h4
    simp? [true_and]
    have hB := hcl h1 h2
    refine (draw_ok' C (by omega) words.length hB (by omega)).W ho7 ?_
    rintro d o8 ⟨w, rfl, w0, w1⟩ ho8
    simp? [true_and]
    obtain ⟨cw, hcw, ecw⟩ := atI_mem (xs := cs) (r := w) w0 (by omega)
    obtain ⟨c, rfl, c0, c1⟩ := hc2 cw hcw
    rw [ecw]
    simp? [true_and]
    refine ⟨okR_small (by omega), ?_⟩
    refine (lcL_each (T := fun s => ∃ o', Tape o' ∧ s = o' :: B2 rest heads rows) (R := Rg 0 1000) (rngL 0 c) (fun d hd s hT => ?_) _ ⟨o8, ho8, rfl⟩).mono ?_
    · obtain ⟨o', ho', rfl⟩ := hT
      simp? [wipeE, List.set_cons_succ, List.set_cons_zero]
      refine (value_ok C (by omega) hB).W ho' ?_
      rintro d o9 ⟨v, rfl, v0, v1⟩ ho9
      refine (pickI C (by omega) (lo := 0) (hi := 1000) [1, 2, 1, 99, v] hB (by show 0 < 5; decide) (by show 5 < 1000; decide) (fun i hi => ?_)).W ho9 fun d o2 hd ho2 => ⟨hd, o2, ho2, rfl⟩
      simp only [List.mem_cons, List.not_mem_nil, or_false] at hi
      omega
    rintro ⟨ps, s⟩ ⟨hp1, hp2, o9, ho9, rfl⟩
    dsimp only at hp1 hp2 ⊢
    rw [rngL_len] at hp1
    refine ⟨by omega, ?_⟩
    obtain ⟨pl, rfl⟩ := ints_list hp2
    rw [List.length_map] at hp1
    refine (draw_ok' C (by omega) cnt hB (by omega)).W ho9 ?_
    rintro d o10 ⟨t, rfl, t0, t1⟩ ho10
    simp? [true_and]
    obtain ⟨wd, hwd, ewd⟩ := atI_mem (xs := words) (r := w) w0 (by omega)
    obtain ⟨w, rfl⟩ := hsym wd hwd
    rw [ewd]
    simp? [true_and]
    have hh : Head (.tup [.int t, .sym w, .tup (pl.map D.int)]) := ⟨t, w, pl, rfl, by omega⟩
    rw [notMemR B2_u hh.plain.1 (fun d hd => (h1 d hd).plain.1) hh.plain.2]
    simp? [true_and]
    refine br_n (br_i (fun hb => ?_) fun hb => ?_)
    · rw [hJ]
      refine ⟨heads, rows, _, _, _, _, _, _, _, o10, rfl, rfl, ho10, h1, h2, h3, by omega, fun h => ?_⟩
      subst h
      cases hb
    · rw [lstAt_at B2_u0, app_at B2_u0, B2_setu0]
      refine ⟨by simp only [bigN]; omega, ?_⟩
      have h1' : ∀ d ∈ heads ++ [D.tup [.int t, .sym w, .tup (pl.map D.int)]], Head d := fun d hd => by
        rcases List.mem_append.mp hd with hd | hd
        · exact h1 d hd
        · rw [List.mem_singleton.mp hd]; exact hh
      have hB' := hcl h1' h2
      refine (pickI C (by omega) (lo := 0) (hi := 4) [1, 1, 0, 2, 3] hB' (by decide) (by decide) (by decide)).W ho10 ?_
      rintro d o11 ⟨j, rfl, j0, j1⟩ ho11
      simp? [true_and]
      refine ⟨okR_small (by omega), ?_⟩
      refine (lcL_each (T := fun s => ∃ o', Tape o' ∧ s = o' :: B2 rest (heads ++ [D.tup [.int t, .sym w, .tup (pl.map D.int)]]) rows) (R := Rg 0 1000) (rngL 0 j) (fun d hd s hT => ?_) _ ⟨o11, ho11, rfl⟩).mono ?_
      · obtain ⟨o', ho', rfl⟩ := hT
        simp? [wipeE, List.set_cons_succ, List.set_cons_zero]
        refine (word_ok C (by omega) hB').W ho' ?_
        rintro d o9 ⟨v, rfl, v0, v1⟩ ho9
        refine (pickI C (by omega) (lo := 0) (hi := 1000) [0, 1, 2, v] hB' (by show 0 < 4; decide) (by show 4 < 1000; decide) (fun i hi => ?_)).W ho9 fun d o2 hd ho2 => ⟨hd, o2, ho2, rfl⟩
        simp only [List.mem_cons, List.not_mem_nil, or_false] at hi
        omega
      rintro ⟨rs, s⟩ ⟨hq1, hq2, o12, ho12, rfl⟩
      dsimp only at hq1 hq2 ⊢
      rw [rngL_len] at hq1
      refine ⟨by omega, ?_⟩
      obtain ⟨rl, rfl⟩ := ints_list hq2
      rw [lstAt_at B2_v]
      refine (draw_ok' C (by omega) cnt hB' (by omega)).W ho12 ?_
      rintro d o13 ⟨t2, rfl, t3, t4⟩ ho13
      simp? [true_and]
      rw [app_at B2_v0, B2_setv0]
      refine ⟨by simp only [bigN]; omega, ?_⟩
      rw [hJ]
      refine ⟨_, _, _, _, _, _, _, _, _, o13, rfl, rfl, ho13, h1', fun d hd => ?_, by rw [List.length_append, List.length_append, h3]; rfl, by rw [List.length_append, List.length_singleton]; omega, fun h => by simp at h⟩
      rcases List.mem_append.mp hd with hd | hd
      · exact h2 d hd
      · rw [List.mem_singleton.mp hd]
        refine ⟨t, w, pl.map D.int, [.int t2, .tup (rl.map D.int)], rfl, ints_clos pl, ?_, by rw [List.length_map]; omega⟩
        show (true && (clos 0 (rl.map D.int) && true)) = true
        rw [ints_clos]; rfl
  · intro env s h
    rw [hJ] at h
    obtain ⟨heads, rows, x6, x7, x8, x9, x10, x11, x12, o7, rfl, rfl, ho7, h1, h2, h3, h4, h5⟩ := h
    refine ⟨rfl, ?_⟩
    simp? [true_and]
    refine (draw_ok' C (by omega) cnt (hcl h1 h2) (by omega)).W ho7 ?_
    rintro d o8 ⟨t, rfl, t0, t1⟩ ho8
    simp? [true_and]
    rw [lstAt_at B2_v0]
    have hk : Kind (.tup [.sym 36, .int t, .tup rows]) := by
      refine .inr ⟨t, rows, rfl, ?_, by simp at h4; omega, h2⟩
      cases heads with
      | nil => exact absurd rfl (h5 rfl)
      | cons _ _ => rw [h3, List.length_cons]; omega
    exact fin' ho8 hr hk.clo hk
end H82
set_option Elab.async false
set_option linter.all false
set_option maxRecDepth 100000
set_option maxHeartbeats 4000000
set_option autoImplicit false
namespace H82
open PySem PySem.Spec PyProof.Rows L2 Mn
local macro_rules
  | `(tactic| simp? only [$ls,*]) => `(tactic| simp only [$ls,*, ↓br_t, ↓br_f, ↓KS_nx, ↓KS_ret, ↓KS_brk, ↓KS_cnt, ↓LQ_nx, ↓LQ_cnt, ↓LQ_brk, ↓LQ_ret, ↓EX_nx, ↓EX_ret, ↓SETE_0, ↓SETE_s, ↓BL_b, ↓INT_i, ↓KEY_s, ↓NL_0, ↓NL_s, ↓W_lstAt0, ↓W_lstAts, ↓W_at0, ↓W_ats, ↓PAR2_c, ↓PAR3_c, ↓RNG_i, ↓SEQ_l, ↓SEQ_f, ↓SEQ_t, ↓SEQ_r, ↓W_some, ↓W_atI0, ↓W_atI1, ↓W_atI2, ↓W_atI3, ↓W_atI4, ↓W_atI5, ↓W_atI6, ↓W_atI7, ↓W_atI8, ↓W_atI9, ↓W_atI10, ↓W_atI11, ↓W_atI12, ↓W_seqS, ↓W_asgS, ↓W_exprS, ↓W_retS, ↓W_retN, ↓W_brkS, ↓W_cntS, ↓W_nextS, ↓W_ifS, ↓W_forS, ↓W_par2, ↓W_par3, ↓W_nameG, ↓W_tupG, ↓W_consG, ↓W_nilG, ↓W_subG, ↓W_setO0, ↓W_setOs, ↓SETL_0, ↓SETL_s, ↓IXN_0, ↓IXN_1, ↓IXN_2, ↓IXN_3, ↓IXN_nat, ↓W_var0, ↓W_vars, ↓W_cM, ↓W_binM, ↓W_unM, ↓W_negM, ↓W_nilA, ↓W_consA, ↓W_callM, ↓W_tupM, ↓W_lstM, ↓W_lstMt, ↓W_slcM, ↓W_part0, ↓W_parts, ↓W_slOt, ↓W_slOl, ↓W_slOr, ↓W_ifM, ↓W_truM, ↓W_bolM, ↓W_andT, ↓W_orT, ↓W_notT, ↓W_andE, ↓W_orE, ↓W_notE, ↓W_mthL, ↓W_lstFr, ↓W_dctM, ↓W_dctMt, ↓W_nilK, ↓W_consK, ↓W_kwM, ↓W_maxdM, ↓W_sort2M, ↓W_listRgM, ↓W_listRgMt, ↓W_lcM, ↓W_rng1I, ↓W_seqI, ↓W_addI, ↓W_addT, ↓W_addL, ↓W_addLt, ↓W_subI, ↓W_mulI, ↓W_mulL, ↓W_fdiv, ↓W_mod, ↓W_pow, ↓W_cmp, ↓W_is, ↓W_isNot, ↓W_eqi, ↓W_eqis, ↓W_eqb, ↓W_nei, ↓W_neis, ↓W_neb, ↓W_itT, ↓W_itL, ↓W_itF, ↓W_itD, ↓W_one, ↓W_lenL, ↓W_lenT, ↓W_lenF, ↓W_intI, ↓W_intB, ↓W_absI, ↓W_max2, ↓W_min2, ↓W_tupCl, ↓W_tupCr, ↓W_tupCt, ↓W_lstCf, ↓W_lstCl, ↓W_truL, ↓W_truT, ↓W_truB, ↓W_yesT, ↓W_itR0, ↓W_itRs, ↓H82.W_defC, ↓W_dget_hit, ↓W_dget_miss, ↓W_eqs_t, ↓W_eqs_f, ↓W_nes_t, ↓W_nes_f, ↓W_isiST, ↓W_isiIT, ↓W_isiTT, ↓W_isiIS, ↓W_isiIB, ↓W_isiII, ↓W_memT', ↓W_listRg2M, ↓W_rng2I, ↓RNG2_i, ↓W_lstAt_end, ↓W_apps, ↓W_app_end, ↓W_memLd, ↓W_notMemLd, ↓MEMD_nil, ↓MEMD_hit, ↓MEMD_miss, List.length_cons, List.length_nil, List.length_map, Nat.reduceAdd, Nat.reduceLT, Nat.reduceLeDiff, Nat.zero_add, List.append_nil, List.nil_append, List.cons_append, Nat.reduceBEq, Int.reduceBEq, Nat.reduceEqDiff, beq_self_eq_true, true_and, and_true, Bool.not_true, Bool.not_false, Bool.or_true, Bool.true_or, H82.sm1, H82.sm2, H82.sm3, H82.p18, ne_eq, not_false_eq_true, Int.reduceEq, reduceCtorEq, List.isEmpty_nil, List.isEmpty_cons, List.all_cons, List.all_nil, isSym_s, List.any_cons, List.any_nil, eqv_sym, Bool.or_false, Bool.false_or, Bool.and_self, Int.reduceLT, Int.reduceAdd, Int.reduceSub, decide_true, decide_false])
local macro_rules
  | `(tactic| simp? [$ls,*]) => `(tactic| simp only [$ls,*, ↓br_t, ↓br_f, ↓KS_nx, ↓KS_ret, ↓KS_brk, ↓KS_cnt, ↓LQ_nx, ↓LQ_cnt, ↓LQ_brk, ↓LQ_ret, ↓EX_nx, ↓EX_ret, ↓SETE_0, ↓SETE_s, ↓BL_b, ↓INT_i, ↓KEY_s, ↓NL_0, ↓NL_s, ↓W_lstAt0, ↓W_lstAts, ↓W_at0, ↓W_ats, ↓PAR2_c, ↓PAR3_c, ↓RNG_i, ↓SEQ_l, ↓SEQ_f, ↓SEQ_t, ↓SEQ_r, ↓W_some, ↓W_atI0, ↓W_atI1, ↓W_atI2, ↓W_atI3, ↓W_atI4, ↓W_atI5, ↓W_atI6, ↓W_atI7, ↓W_atI8, ↓W_atI9, ↓W_atI10, ↓W_atI11, ↓W_atI12, ↓W_seqS, ↓W_asgS, ↓W_exprS, ↓W_retS, ↓W_retN, ↓W_brkS, ↓W_cntS, ↓W_nextS, ↓W_ifS, ↓W_forS, ↓W_par2, ↓W_par3, ↓W_nameG, ↓W_tupG, ↓W_consG, ↓W_nilG, ↓W_subG, ↓W_setO0, ↓W_setOs, ↓SETL_0, ↓SETL_s, ↓IXN_0, ↓IXN_1, ↓IXN_2, ↓IXN_3, ↓IXN_nat, ↓W_var0, ↓W_vars, ↓W_cM, ↓W_binM, ↓W_unM, ↓W_negM, ↓W_nilA, ↓W_consA, ↓W_callM, ↓W_tupM, ↓W_lstM, ↓W_lstMt, ↓W_slcM, ↓W_part0, ↓W_parts, ↓W_slOt, ↓W_slOl, ↓W_slOr, ↓W_ifM, ↓W_truM, ↓W_bolM, ↓W_andT, ↓W_orT, ↓W_notT, ↓W_andE, ↓W_orE, ↓W_notE, ↓W_mthL, ↓W_lstFr, ↓W_dctM, ↓W_dctMt, ↓W_nilK, ↓W_consK, ↓W_kwM, ↓W_maxdM, ↓W_sort2M, ↓W_listRgM, ↓W_listRgMt, ↓W_lcM, ↓W_rng1I, ↓W_seqI, ↓W_addI, ↓W_addT, ↓W_addL, ↓W_addLt, ↓W_subI, ↓W_mulI, ↓W_mulL, ↓W_fdiv, ↓W_mod, ↓W_pow, ↓W_cmp, ↓W_is, ↓W_isNot, ↓W_eqi, ↓W_eqis, ↓W_eqb, ↓W_nei, ↓W_neis, ↓W_neb, ↓W_itT, ↓W_itL, ↓W_itF, ↓W_itD, ↓W_one, ↓W_lenL, ↓W_lenT, ↓W_lenF, ↓W_intI, ↓W_intB, ↓W_absI, ↓W_max2, ↓W_min2, ↓W_tupCl, ↓W_tupCr, ↓W_tupCt, ↓W_lstCf, ↓W_lstCl, ↓W_truL, ↓W_truT, ↓W_truB, ↓W_yesT, ↓W_itR0, ↓W_itRs, ↓H82.W_defC, ↓W_dget_hit, ↓W_dget_miss, ↓W_eqs_t, ↓W_eqs_f, ↓W_nes_t, ↓W_nes_f, ↓W_isiST, ↓W_isiIT, ↓W_isiTT, ↓W_isiIS, ↓W_isiIB, ↓W_isiII, ↓W_memT', ↓W_listRg2M, ↓W_rng2I, ↓RNG2_i, ↓W_lstAt_end, ↓W_apps, ↓W_app_end, ↓W_memLd, ↓W_notMemLd, ↓MEMD_nil, ↓MEMD_hit, ↓MEMD_miss, List.length_cons, List.length_nil, List.length_map, Nat.reduceAdd, Nat.reduceLT, Nat.reduceLeDiff, Nat.zero_add, List.append_nil, List.nil_append, List.cons_append, Nat.reduceBEq, Int.reduceBEq, Nat.reduceEqDiff, beq_self_eq_true, true_and, and_true, Bool.not_true, Bool.not_false, Bool.or_true, Bool.true_or, H82.sm1, H82.sm2, H82.sm3, H82.p18, ne_eq, not_false_eq_true, Int.reduceEq, reduceCtorEq, List.isEmpty_nil, List.isEmpty_cons, List.all_cons, List.all_nil, isSym_s, List.any_cons, List.any_nil, eqv_sym, Bool.or_false, Bool.false_or, Bool.and_self, Int.reduceLT, Int.reduceAdd, Int.reduceSub, decide_true, decide_false, ↓sc_names, ↓sc_shared, ↓sc_privates, ↓sc_fields, ↓sc_slots, ↓sc_program, ↓sc_calls, sNm_e, sSh_e, sNm_l, sSh_l, bigN])
theorem kind_of {w : Nat} {r : List D} (hw : w ∈ kindNames) (h : ∀ d ∈ r, Cl d) : Kind (.tup (.sym w :: r)) := .inl ⟨w, r, hw, rfl, clos_iff.mpr h⟩
theorem some_kind_ok (C : List V) {k : Nat} (hk : 5 ≤ k) {rest : Store} (hr : CL rest) : Dr C k j__law_k_some_kind [.ref 0] rest Kind := by
  obtain ⟨k, rfl⟩ := Nat.exists_eq_add_of_le' (show 1 ≤ k by omega)
  intro o ho
  refine r__law_k_some_kind ?_
  unfold m__law_k_some_kind
  have ex : ∀ {o : MObj} (_ : Tape o) (w : Nat) (_ : w ∈ kindNames) (r : List D) (_ : ∀ d ∈ r, Cl d), W (exitR false (List.length rest + 1) (.tup (.sym w :: r)) (o :: rest)) (PQ Kind rest) := fun {o} ho w hw r h => fin ho hr (kind_of hw h).clo (kind_of hw h)
  (refine W_seqS.mpr ?_; generalize hK : KS _ _ = K; simp? [true_and])
  refine (pick_ok C (by omega) hr (by show 0 < 14; decide) (fun d hd => ?_) (by show 14 < 1073741824; decide)).W ho fun d o2 hd ho2 => ?_
  · simp only [List.mem_cons, List.not_mem_nil, or_false] at hd
    rcases hd with rfl | rfl | rfl | rfl | rfl | rfl | rfl | rfl | rfl | rfl | rfl | rfl | rfl | rfl <;> rfl
  (simp? [true_and]; subst hK; refine KS_nx.mpr ?_)
  simp only [List.mem_cons, List.not_mem_nil, or_false] at hd
  have pk : ∀ (l : List Int) (w : Nat) (_ : w ∈ kindNames) (_ : 0 < l.length) (_ : l.length < 1000) {o : MObj} (_ : Tape o), W (runP (pg C) k j__law_pick [.ref 0, .lst (l.map D.int)] (o :: rest)) fun p => W (exitR false (List.length rest + 1) (.tup [.sym w, p.1]) p.2) (PQ Kind rest) := fun l w hw h0 hl {o} ho => by
    refine (pick_ok C (by omega) hr (by rw [List.length_map]; exact h0) (fun d hd => ?_) (by rw [List.length_map]; omega)).W ho fun d o2 hd ho2 => ex ho2 w hw [d] (cl1 ?_)
    all_goals
      obtain ⟨i, _, rfl⟩ := List.mem_map.mp hd
      rfl
  have ctr : ∀ (w : Nat) (_ : w ∈ kindNames), W (runP (pg C) k j__law_draw [.ref 0, .int 31] (o2 :: rest)) fun q => W (addO false (.int 2) q.1 q.2) fun q => W (runP (pg C) k j__law_pick [.ref 0, .lst [.int 2, .int 3, .int 4, .int 32, q.1]] q.2) fun p => W (exitR false (List.length rest + 1) (.tup [.sym w, p.1]) p.2) (PQ Kind rest) := fun w hw => by
    refine (draw_ok' C (by omega) 31 hr (by decide)).W ho2 ?_
    rintro d o3 ⟨r, rfl, r0, r1⟩ ho3
    simp? [true_and]
    exact pk [2, 3, 4, 32, 2 + r] w hw (by show 0 < 5; decide) (by show 5 < 1000; decide) ho3
  have que : ∀ (w : Nat) (_ : w ∈ kindNames), W (runP (pg C) k j__law_draw [.ref 0, .int 8] (o2 :: rest)) fun q => W (addO false (.int 1) q.1 q.2) fun q => W (runP (pg C) k j__law_pick [.ref 0, .lst [.int 1, .int 2, .int 2, .int 3, .int 8, q.1]] q.2) fun p => W (exitR false (List.length rest + 1) (.tup [.sym w, p.1]) p.2) (PQ Kind rest) := fun w hw => by
    refine (draw_ok' C (by omega) 8 hr (by decide)).W ho2 ?_
    rintro d o3 ⟨r, rfl, r0, r1⟩ ho3
    simp? [true_and]
    exact pk [1, 2, 2, 3, 8, 1 + r] w hw (by show 0 < 6; decide) (by show 6 < 1000; decide) ho3
  have cel : W (runP (pg C) k j__law_word [.ref 0] (o2 :: rest)) fun q => W (runP (pg C) k j__law_pick [.ref 0, .lst [.int 0, .int 1, .int 99, q.1]] q.2) fun p => W (exitR false (List.length rest + 1) (.tup [.sym 21, p.1]) p.2) (PQ Kind rest) := by
    refine (word_ok C (by omega) hr).W ho2 ?_
    rintro d o3 ⟨r, rfl, r0, r1⟩ ho3
    exact pk [0, 1, 99, r] 21 (by decide) (by show 0 < 4; decide) (by show 4 < 1000; decide) ho3
  have tab : W (runP (pg C) k j__law_k_some_table [.ref 0] (o2 :: rest)) fun p => W (exitR false (List.length rest + 1) p.1 p.2) (PQ Kind rest) := (some_table_ok C (by omega) hr).W ho2 fun d o3 hd ho3 => fin ho3 hr hd.clo hd
  rcases hd with rfl | rfl | rfl | rfl | rfl | rfl | rfl | rfl | rfl | rfl | rfl | rfl | rfl | rfl <;> simp? [true_and]
  · exact ctr _ (by decide)
  · exact ctr _ (by decide)
  · exact cel
  · exact ex ho2 _ (by decide) [] (by simp)
  · exact ex ho2 _ (by decide) [] (by simp)
  · exact que _ (by decide)
  · exact que _ (by decide)
  · exact que _ (by decide)
  · exact ex ho2 _ (by decide) [] (by simp)
  · refine (draw_ok' C (by omega) 3 hr (by decide)).W ho2 ?_
    rintro d o3 ⟨r, rfl, r0, r1⟩ ho3
    simp? [true_and]
    exact ex ho3 _ (by decide) [_] (cl1 rfl)
  · exact tab
  · exact que _ (by decide)
  · exact cel
  · exact tab
/-! objects -/
def OpRow (d : D) : Prop := ∃ (w : Nat) (c : Int) (nm : D) (n : Nat) (ss : List Stm), d = .tup [.sym w, .int c, nm, .tup (encs ss)] ∧ Cl nm ∧ n ≤ 10 ∧ WFs false n ss ∧ manys ss ≤ 1000
theorem OpRow.clo {d : D} (h : OpRow d) : Mn.clo 0 d = true := by
  obtain ⟨w, c, nm, n, ss, rfl, h1, _, h2, _⟩ := h
  show (true && (true && (Mn.clo 0 nm && (clos 0 (encs ss) && true)))) = true
  rw [show Mn.clo 0 nm = true from h1, WFs.clos n ss h2]; rfl
def Obj (d : D) : Prop := ∃ (a2 a3 a4 a5 a6 a7 : D) (rows : List D), d = .tup [.sym 11, .non, a2, a3, a4, a5, a6, a7, .tup rows] ∧ clos 0 [a2, a3, a4, a5, a6, a7] = true ∧ 0 < rows.length ∧ rows.length < 10 ∧ ∀ r ∈ rows, OpRow r
theorem Obj.clo {d : D} (h : Obj d) : Mn.clo 0 d = true := by
  obtain ⟨a2, a3, a4, a5, a6, a7, rows, rfl, h1, _, _, h2⟩ := h
  have h1 : (Mn.clo 0 a2 && (Mn.clo 0 a3 && (Mn.clo 0 a4 && (Mn.clo 0 a5 && (Mn.clo 0 a6 && (Mn.clo 0 a7 && true)))))) = true := h1
  show (true && (true && (Mn.clo 0 a2 && (Mn.clo 0 a3 && (Mn.clo 0 a4 && (Mn.clo 0 a5 && (Mn.clo 0 a6 && (Mn.clo 0 a7 && (clos 0 rows && true))))))))) = true
  rw [clos_iff.mpr fun d hd => (h2 d hd).clo]
  simpa using h1
theorem e_object_ok (C : List V) {k : Nat} (hk : 30 ≤ k) (count : Int) (hc0 : 0 ≤ count) (hc1 : count ≤ 1000) {rest : Store} (hr : CL rest) : Dr C k j__law_e_object [.ref 0, .int count] rest Obj := by
  obtain ⟨k, rfl⟩ := Nat.exists_eq_add_of_le' (show 1 ≤ k by omega)
  intro o ho
  refine r__law_e_object ?_
  unfold m__law_e_object
  (refine W_seqS.mpr ?_; generalize hK : KS _ _ = K; simp? [true_and])
  refine (pick_ok C (by omega) hr (by show 0 < 4; decide) (fun d hd => ?_) (by show 4 < 1073741824; decide)).W ho fun d o2 hd ho2 => ?_
  · simp only [List.mem_cons, List.not_mem_nil, or_false] at hd
    rcases hd with rfl | rfl | rfl | rfl <;> rfl
  obtain ⟨parts, rfl, hps, hpl⟩ : ∃ parts : List D, d = .lst parts ∧ (∀ d ∈ parts, ∃ k, d = D.sym k) ∧ parts.length < 10 := by
    simp only [List.mem_cons, List.not_mem_nil, or_false] at hd
    rcases hd with rfl | rfl | rfl | rfl
    · exact ⟨_, rfl, by simp, by decide⟩
    · exact ⟨_, rfl, by simp, by decide⟩
    · exact ⟨_, rfl, by simp, by decide⟩
    · exact ⟨_, rfl, by simp, by decide⟩
  clear hd
  (simp? [true_and]; subst hK; refine KS_nx.mpr ?_)
  (refine W_seqS.mpr ?_; generalize hK : KS _ _ = K; simp? [true_and])
  suffices main2 : ∀ {o3 : MObj} (_ : Tape o3) (each : Int), 0 ≤ each → each < 10 → K (Fl.nx, [some (D.ref 0), some (D.int count), some (D.lst parts), some (.int each), none, none, none, none, none, none], o3 :: rest) by
    refine br_i (fun _ => ?_) fun _ => main2 ho2 0 (by decide) (by decide)
    refine (draw_ok' C (by omega) 3 hr (by decide)).W ho2 ?_
    rintro d o3 ⟨r, rfl, r0, r1⟩ ho3
    exact main2 ho3 r r0 (by omega)
  intro o3 ho3 each each0 each1
  subst hK
  refine KS_nx.mpr ?_
  refine W_seqS.mpr ?_
  generalize hK : KS _ _ = K
  simp? [true_and]
  refine (pick_ok C (by omega) hr (by show 0 < 2; decide) (fun d hd => ?_) (by show 2 < 1073741824; decide)).W ho3 fun d o4 hd ho4 => ?_
  · simp only [List.mem_cons, List.not_mem_nil, or_false] at hd
    rcases hd with rfl | rfl <;> rfl
  obtain ⟨pr, rfl, hpr, hprl⟩ : ∃ pr : List D, d = .lst pr ∧ (∀ d ∈ pr, ∃ k, d = D.sym k) ∧ pr.length < 10 := by
    simp only [List.mem_cons, List.not_mem_nil, or_false] at hd
    rcases hd with rfl | rfl
    · exact ⟨_, rfl, by simp, by decide⟩
    · exact ⟨_, rfl, by simp, by decide⟩
  clear hd
  have S : ScOk pr parts each := ⟨hpr, hprl, hps, hpl, each0, each1⟩
  generalize hsc : D.dct _ _ = sc
  have hsc : sc = Sc pr parts each := by rw [← hsc]; rfl
  subst hsc
  subst hK
  refine KS_nx.mpr ?_
  (refine W_seqS.mpr ?_; generalize hK : KS _ _ = K; simp? [true_and]; subst hK; refine KS_nx.mpr ?_)
  (refine W_seqS.mpr ?_; generalize hK : KS _ _ = K; simp? [true_and])
  refine (shuffled_ok C (by omega) hr (by decide) (by show 4 < 100000; decide)).W ho4 ?_
  rintro d o5 ⟨ws, rfl, hw1, hw2⟩ ho5
  refine (draw_ok' C (by omega) 3 hr (by decide)).W ho5 ?_
  rintro d o6 ⟨r, rfl, r0, r1⟩ ho6
  simp? [true_and]
  obtain ⟨n, rfl⟩ := Int.eq_ofNat_of_zero_le r0
  have ecut : cutL ws none (some (1 + (n : Int))) = ws.take (1 + n) := by
    rw [show (1 : Int) + (n : Int) = ((1 + n : Nat) : Int) by omega]
    exact cutL_take
  have hwl : ws.length = 4 := hw1
  rw [ecut]
  have hsym : ∀ d ∈ ws.take (1 + n), ∃ w, d = .sym w := fun d hd => by
    have := hw2 d (List.mem_of_mem_take hd)
    simp only [List.mem_cons, List.not_mem_nil, or_false] at this
    rcases this with rfl | rfl | rfl | rfl <;> exact ⟨_, rfl⟩
  have hlen : (ws.take (1 + n)).length = 1 + n := by rw [List.length_take]; omega
  generalize ws.take (1 + n) = words at hsym hlen ⊢
  obtain ⟨J, hJ⟩ : ∃ J : List D → Mn.Env → Store → Prop, J = fun r env s => ∃ (rows : List D) (x6 : Option D) (o' : MObj), env = [some (.ref 0), some (.int count), some (.lst parts), some (.int each), some (Sc pr parts each), some (.tup rows), x6, none, none, none] ∧ s = o' :: rest ∧ Tape o' ∧ (∀ d ∈ rows, OpRow d) ∧ rows.length + r.length ≤ 4 ∧ (rows = [] → r ≠ []) ∧ ∀ d ∈ r, ∃ w, d = D.sym w := ⟨_, rfl⟩
  refine forL_W J ?_ ?_ _ _ _ (by rw [hJ]; exact ⟨[], none, o6, rfl, rfl, ho6, fun d hd => (nomatch hd), by simp; omega, fun _ h => by rw [h] at hlen; simp at hlen; omega, hsym⟩)
  · intro e r env s h
    rw [hJ] at h
    obtain ⟨rows, x6, o7, rfl, rfl, ho7, h1, h2, h3, h4⟩ := h
    obtain ⟨w, rfl⟩ := h4 e List.mem_cons_self
    rw [List.length_cons] at h2
    refine ⟨rfl, ?_⟩
    simp? [true_and]
    refine (draw_ok' C (by omega) 3 hr (by decide)).W ho7 ?_
    rintro d o8 ⟨c, rfl, c0, c1⟩ ho8
    simp? [true_and]
    refine (pickI C (by omega) (lo := 1) (hi := 7) [1, 2, 3, 3, 6] hr (by decide) (by decide) (by decide)).W ho8 ?_
    rintro d o9 ⟨m, rfl, m0, m1⟩ ho9
    obtain ⟨n, rfl⟩ : ∃ n : Nat, m = (n : Int) + 1 := ⟨(m - 1).toNat, by omega⟩
    refine (body_ok C S n (by omega) false count (by omega) (by omega) hr).W ho9 ?_
    rintro d o10 ⟨ss, rfl, hw, hm⟩ ho10
    simp? [true_and]
    refine ⟨by omega, ?_⟩
    rw [hJ]
    refine ⟨_, _, o10, rfl, rfl, ho10, fun d hd => ?_, by rw [List.length_append, List.length_singleton]; omega, fun h => by simp at h, fun d hd => h4 d (List.mem_cons_of_mem _ hd)⟩
    rcases List.mem_append.mp hd with hd | hd
    · exact h1 d hd
    · rw [List.mem_singleton.mp hd]
      exact ⟨w, c, _, n, ss, rfl, rfl, by omega, hw, by omega⟩
  · intro env s h
    rw [hJ] at h
    obtain ⟨rows, x6, o7, rfl, rfl, ho7, h1, h2, h3, h4⟩ := h
    refine ⟨rfl, ?_⟩
    subst hK
    refine KS_nx.mpr ?_
    (refine W_seqS.mpr ?_; generalize hK : KS _ _ = K; simp? [true_and])
    refine (lcL_each (T := fun s => s = o7 :: rest) (R := Cl) pr (fun d hd s hT => ?_) _ rfl).mono ?_
    · subst hT
      obtain ⟨w, rfl⟩ := hpr d hd
      simp? [wipeE, List.set_cons_succ, List.set_cons_zero]
      exact rfl
    rintro ⟨own, s⟩ ⟨hq1, hq2, rfl⟩
    dsimp only at hq1 hq2 ⊢
    refine ⟨by omega, ?_⟩
    subst hK
    refine KS_nx.mpr ?_
    (refine W_seqS.mpr ?_; generalize hK : KS _ _ = K; simp? [true_and])
    suffices main3 : ∀ {o8 : MObj} (_ : Tape o8) (size : Int), K (Fl.nx, [some (.ref 0), some (.int count), some (.lst parts), some (.int each), some (Sc pr parts each), some (.tup rows), x6, some (.tup own), some (.int size), none], o8 :: rest) by
      refine br_i (fun _ => ?_) fun _ => main3 ho7 0
      refine (draw_ok' C (by omega) 8 hr (by decide)).W ho7 ?_
      rintro d o8 ⟨r, rfl, r0, r1⟩ ho8
      simp? [true_and]
      exact main3 ho8 _
    intro o8 ho8 size
    subst hK
    refine KS_nx.mpr ?_
    simp? [true_and]
    have h : Obj (.tup [.sym 11, .non, .tup parts, .int size, .tup [], .int each, .tup [.tup [.sym 84, .tup [.int 0, .int 99]], .tup [.sym 85, .tup [.int 1]]], .tup own, .tup rows]) := by
      refine ⟨_, _, _, _, _, _, rows, rfl, ?_, ?_, by simp at h2; omega, h1⟩
      · show (clos 0 parts && (true && (true && (true && (true && (clos 0 own && true)))))) = true
        rw [clos_iff.mpr (syms_clo hps), clos_iff.mpr hq2]; rfl
      · cases rows with
        | nil => exact absurd rfl (h3 rfl)
        | cons _ _ => exact Nat.zero_lt_succ _
    exact fin ho8 hr h.clo h
end H82
set_option Elab.async false
set_option linter.all false
set_option maxRecDepth 100000
set_option maxHeartbeats 4000000
set_option autoImplicit false
namespace H82
open PySem PySem.Spec PyProof.Rows L2 Mn
local macro_rules
  | `(tactic| simp? only [$ls,*]) => `(tactic| simp only [$ls,*, ↓br_t, ↓br_f, ↓KS_nx, ↓KS_ret, ↓KS_brk, ↓KS_cnt, ↓LQ_nx, ↓LQ_cnt, ↓LQ_brk, ↓LQ_ret, ↓EX_nx, ↓EX_ret, ↓SETE_0, ↓SETE_s, ↓BL_b, ↓INT_i, ↓KEY_s, ↓NL_0, ↓NL_s, ↓W_lstAt0, ↓W_lstAts, ↓W_at0, ↓W_ats, ↓PAR2_c, ↓PAR3_c, ↓RNG_i, ↓SEQ_l, ↓SEQ_f, ↓SEQ_t, ↓SEQ_r, ↓W_some, ↓W_atI0, ↓W_atI1, ↓W_atI2, ↓W_atI3, ↓W_atI4, ↓W_atI5, ↓W_atI6, ↓W_atI7, ↓W_atI8, ↓W_atI9, ↓W_atI10, ↓W_atI11, ↓W_atI12, ↓W_seqS, ↓W_asgS, ↓W_exprS, ↓W_retS, ↓W_retN, ↓W_brkS, ↓W_cntS, ↓W_nextS, ↓W_ifS, ↓W_forS, ↓W_par2, ↓W_par3, ↓W_nameG, ↓W_tupG, ↓W_consG, ↓W_nilG, ↓W_subG, ↓W_setO0, ↓W_setOs, ↓SETL_0, ↓SETL_s, ↓IXN_0, ↓IXN_1, ↓IXN_2, ↓IXN_3, ↓IXN_nat, ↓W_var0, ↓W_vars, ↓W_cM, ↓W_binM, ↓W_unM, ↓W_negM, ↓W_nilA, ↓W_consA, ↓W_callM, ↓W_tupM, ↓W_lstM, ↓W_lstMt, ↓W_slcM, ↓W_part0, ↓W_parts, ↓W_slOt, ↓W_slOl, ↓W_slOr, ↓W_ifM, ↓W_truM, ↓W_bolM, ↓W_andT, ↓W_orT, ↓W_notT, ↓W_andE, ↓W_orE, ↓W_notE, ↓W_mthL, ↓W_lstFr, ↓W_dctM, ↓W_dctMt, ↓W_nilK, ↓W_consK, ↓W_kwM, ↓W_maxdM, ↓W_sort2M, ↓W_listRgM, ↓W_listRgMt, ↓W_lcM, ↓W_rng1I, ↓W_seqI, ↓W_addI, ↓W_addT, ↓W_addL, ↓W_addLt, ↓W_subI, ↓W_mulI, ↓W_mulL, ↓W_fdiv, ↓W_mod, ↓W_pow, ↓W_cmp, ↓W_is, ↓W_isNot, ↓W_eqi, ↓W_eqis, ↓W_eqb, ↓W_nei, ↓W_neis, ↓W_neb, ↓W_itT, ↓W_itL, ↓W_itF, ↓W_itD, ↓W_one, ↓W_lenL, ↓W_lenT, ↓W_lenF, ↓W_intI, ↓W_intB, ↓W_absI, ↓W_max2, ↓W_min2, ↓W_tupCl, ↓W_tupCr, ↓W_tupCt, ↓W_lstCf, ↓W_lstCl, ↓W_truL, ↓W_truT, ↓W_truB, ↓W_yesT, ↓W_itR0, ↓W_itRs, ↓H82.W_defC, ↓W_dget_hit, ↓W_dget_miss, ↓W_eqs_t, ↓W_eqs_f, ↓W_nes_t, ↓W_nes_f, ↓W_isiST, ↓W_isiIT, ↓W_isiTT, ↓W_isiIS, ↓W_isiIB, ↓W_isiII, ↓W_memT', ↓W_listRg2M, ↓W_rng2I, ↓RNG2_i, ↓W_lstAt_end, ↓W_apps, ↓W_app_end, ↓W_memLd, ↓W_notMemLd, ↓MEMD_nil, ↓MEMD_hit, ↓MEMD_miss, List.length_cons, List.length_nil, List.length_map, Nat.reduceAdd, Nat.reduceLT, Nat.reduceLeDiff, Nat.zero_add, List.append_nil, List.nil_append, List.cons_append, Nat.reduceBEq, Int.reduceBEq, Nat.reduceEqDiff, beq_self_eq_true, true_and, and_true, Bool.not_true, Bool.not_false, Bool.or_true, Bool.true_or, H82.sm1, H82.sm2, H82.sm3, H82.p18, ne_eq, not_false_eq_true, Int.reduceEq, reduceCtorEq, List.isEmpty_nil, List.isEmpty_cons, List.all_cons, List.all_nil, isSym_s, List.any_cons, List.any_nil, eqv_sym, Bool.or_false, Bool.false_or, Bool.and_self, Int.reduceLT, Int.reduceAdd, Int.reduceSub, decide_true, decide_false])
local macro_rules
  | `(tactic| simp? [$ls,*]) => `(tactic| simp only [$ls,*, ↓br_t, ↓br_f, ↓KS_nx, ↓KS_ret, ↓KS_brk, ↓KS_cnt, ↓LQ_nx, ↓LQ_cnt, ↓LQ_brk, ↓LQ_ret, ↓EX_nx, ↓EX_ret, ↓SETE_0, ↓SETE_s, ↓BL_b, ↓INT_i, ↓KEY_s, ↓NL_0, ↓NL_s, ↓W_lstAt0, ↓W_lstAts, ↓W_at0, ↓W_ats, ↓PAR2_c, ↓PAR3_c, ↓RNG_i, ↓SEQ_l, ↓SEQ_f, ↓SEQ_t, ↓SEQ_r, ↓W_some, ↓W_atI0, ↓W_atI1, ↓W_atI2, ↓W_atI3, ↓W_atI4, ↓W_atI5, ↓W_atI6, ↓W_atI7, ↓W_atI8, ↓W_atI9, ↓W_atI10, ↓W_atI11, ↓W_atI12, ↓W_seqS, ↓W_asgS, ↓W_exprS, ↓W_retS, ↓W_retN, ↓W_brkS, ↓W_cntS, ↓W_nextS, ↓W_ifS, ↓W_forS, ↓W_par2, ↓W_par3, ↓W_nameG, ↓W_tupG, ↓W_consG, ↓W_nilG, ↓W_subG, ↓W_setO0, ↓W_setOs, ↓SETL_0, ↓SETL_s, ↓IXN_0, ↓IXN_1, ↓IXN_2, ↓IXN_3, ↓IXN_nat, ↓W_var0, ↓W_vars, ↓W_cM, ↓W_binM, ↓W_unM, ↓W_negM, ↓W_nilA, ↓W_consA, ↓W_callM, ↓W_tupM, ↓W_lstM, ↓W_lstMt, ↓W_slcM, ↓W_part0, ↓W_parts, ↓W_slOt, ↓W_slOl, ↓W_slOr, ↓W_ifM, ↓W_truM, ↓W_bolM, ↓W_andT, ↓W_orT, ↓W_notT, ↓W_andE, ↓W_orE, ↓W_notE, ↓W_mthL, ↓W_lstFr, ↓W_dctM, ↓W_dctMt, ↓W_nilK, ↓W_consK, ↓W_kwM, ↓W_maxdM, ↓W_sort2M, ↓W_listRgM, ↓W_listRgMt, ↓W_lcM, ↓W_rng1I, ↓W_seqI, ↓W_addI, ↓W_addT, ↓W_addL, ↓W_addLt, ↓W_subI, ↓W_mulI, ↓W_mulL, ↓W_fdiv, ↓W_mod, ↓W_pow, ↓W_cmp, ↓W_is, ↓W_isNot, ↓W_eqi, ↓W_eqis, ↓W_eqb, ↓W_nei, ↓W_neis, ↓W_neb, ↓W_itT, ↓W_itL, ↓W_itF, ↓W_itD, ↓W_one, ↓W_lenL, ↓W_lenT, ↓W_lenF, ↓W_intI, ↓W_intB, ↓W_absI, ↓W_max2, ↓W_min2, ↓W_tupCl, ↓W_tupCr, ↓W_tupCt, ↓W_lstCf, ↓W_lstCl, ↓W_truL, ↓W_truT, ↓W_truB, ↓W_yesT, ↓W_itR0, ↓W_itRs, ↓H82.W_defC, ↓W_dget_hit, ↓W_dget_miss, ↓W_eqs_t, ↓W_eqs_f, ↓W_nes_t, ↓W_nes_f, ↓W_isiST, ↓W_isiIT, ↓W_isiTT, ↓W_isiIS, ↓W_isiIB, ↓W_isiII, ↓W_memT', ↓W_listRg2M, ↓W_rng2I, ↓RNG2_i, ↓W_lstAt_end, ↓W_apps, ↓W_app_end, ↓W_memLd, ↓W_notMemLd, ↓MEMD_nil, ↓MEMD_hit, ↓MEMD_miss, List.length_cons, List.length_nil, List.length_map, Nat.reduceAdd, Nat.reduceLT, Nat.reduceLeDiff, Nat.zero_add, List.append_nil, List.nil_append, List.cons_append, Nat.reduceBEq, Int.reduceBEq, Nat.reduceEqDiff, beq_self_eq_true, true_and, and_true, Bool.not_true, Bool.not_false, Bool.or_true, Bool.true_or, H82.sm1, H82.sm2, H82.sm3, H82.p18, ne_eq, not_false_eq_true, Int.reduceEq, reduceCtorEq, List.isEmpty_nil, List.isEmpty_cons, List.all_cons, List.all_nil, isSym_s, List.any_cons, List.any_nil, eqv_sym, Bool.or_false, Bool.false_or, Bool.and_self, Int.reduceLT, Int.reduceAdd, Int.reduceSub, decide_true, decide_false, ↓sc_names, ↓sc_shared, ↓sc_privates, ↓sc_fields, ↓sc_slots, ↓sc_program, ↓sc_calls, sNm_e, sSh_e, sNm_l, sSh_l, bigN])
/-- an asking: an object or a kind, and a word -/
def headOf : D → Option Nat
  | .tup (.sym w :: _) => some w
  | _ => none
def AskS (d : D) : Prop := ∃ (how : D) (w : Nat), d = .tup [how, .sym w] ∧ ((∃ (a2 a3 a4 a5 a6 a7 : D) (rows : List D), how = .tup [.sym 11, .non, a2, a3, a4, a5, a6, a7, .tup rows] ∧ clos 0 [a2, a3, a4, a5, a6, a7] = true ∧ rows.length < 10 ∧ (∀ r ∈ rows, OpRow r) ∧ ∃ r ∈ rows, headOf r = some w) ∨ Kind how)
def pickB (w : Nat) : D → Option D
  | .tup [.sym v, _, _, b] => if v = w then some b else none
  | _ => none
def pickR (w : Nat) : D → Option D
  | .tup [.sym v, a, c, b] => if v = w then some (.tup [.sym v, a, c, b]) else none
  | _ => none
theorem first_row {w : Nat} : ∀ {rows : List D}, (∀ r ∈ rows, OpRow r) → (∃ r ∈ rows, headOf r = some w) → ∃ (c : Int) (nm : D) (n : Nat) (ss : List Stm) (t1 t2 : List D), n ≤ 10 ∧ WFs false n ss ∧ manys ss ≤ 1000 ∧ rows.filterMap (pickB w) = .tup (encs ss) :: t1 ∧ rows.filterMap (pickR w) = .tup [.sym w, .int c, nm, .tup (encs ss)] :: t2
  | [], _, ⟨r, hr, _⟩ => absurd hr (by simp)
  | x :: rows, h, ⟨r, hr, hw⟩ => by
    obtain ⟨v, c, nm, n, ss, rfl, h1, h2, h3, h4⟩ := h x List.mem_cons_self
    by_cases e : v = w
    · subst e
      exact ⟨c, nm, n, ss, _, _, h2, h3, h4, by rw [List.filterMap_cons]; simp only [pickB, if_true]; rfl, by rw [List.filterMap_cons]; simp only [pickR, if_true]; rfl⟩
    · have hr' : r ∈ rows := by
        rcases List.mem_cons.mp hr with rfl | hr
        · exact absurd (Option.some.inj hw) e
        · exact hr
      obtain ⟨c, nm, n, ss, t1, t2, a1, a2, a3, a4, a5⟩ := first_row (fun r hr => h r (List.mem_cons_of_mem _ hr)) ⟨r, hr', hw⟩
      exact ⟨c, nm, n, ss, t1, t2, a1, a2, a3, by rw [List.filterMap_cons]; simp only [pickB, if_neg e]; exact a4, by rw [List.filterMap_cons]; simp only [pickR, if_neg e]; exact a5⟩
def stepsOf (ss : List Stm) : Int := told (waysE (codes ss 0 0)) (costA (codes ss 0 0)) (codes ss 0 0).length 3 (0 :: List.replicate (codes ss 0 0).length (-1))
theorem steps_told {n : Nat} {ss : List Stm} (hw : WFs false n ss) : (∃ v : Nat, Lw (waysE (codes ss 0 0)) (costA (codes ss 0 0)) 0 v ∧ stepsOf ss = v) ∨ ((¬ ∃ v, Lw (waysE (codes ss 0 0)) (costA (codes ss 0 0)) 0 v) ∧ stepsOf ss = -1) := by
  have g0 : gt ((0 : Int) :: List.replicate (codes ss 0 0).length (-1)) 0 = 0 := rfl
  by_cases h : ∃ v, Lw (waysE (codes ss 0 0)) (costA (codes ss 0 0)) 0 v
  · obtain ⟨v, hv⟩ := h
    refine .inl ⟨v, hv, ?_⟩
    refine told_some (ways_in hw) hv (costA_end _) (ways_loop hw) (by simp) g0 (fun p hp hpl => ?_) 1
    obtain ⟨p, rfl⟩ := Nat.exists_eq_add_of_le' (show 1 ≤ p from hp)
    have hp' : p < (List.replicate (codes ss 0 0).length (-1 : Int)).length := by simpa using hpl
    show ((0 : Int) :: List.replicate (codes ss 0 0).length (-1)).getD (p + 1) 0 = -1
    rw [List.getD_cons_succ, List.getD_eq_getElem?_getD, List.getElem?_eq_getElem hp', List.getElem_replicate]
    rfl
  · exact .inr ⟨h, told_none (ways_in hw) (ways_back hw) (costA_le _) h 3 _ (by simp) (by rw [g0]; decide)⟩
theorem is_structure_ok (C : List V) {k : Nat} (hk : 1 ≤ k) {w : Nat} {r : List D} {st : Store} (hs : CL st) : W (runP (pg C) k j_is_structure [.tup (.sym w :: r)] st) fun q => q = (.bl (w == 11), st) := by
  obtain ⟨k, rfl⟩ := Nat.exists_eq_add_of_le' hk
  refine r_is_structure ?_
  unfold m_is_structure
  simp? only [↓W_eqs]
  exact exitC0 rfl hs rfl rfl
theorem codes_short {ss : List Stm} (hm : manys ss ≤ 1000) : (codes ss 0 0).length ≤ 10000 := by
  have := longs_le ss
  rw [codes_len]
  omega
theorem code_steps_ok (C : List V) {k : Nat} (hk : 40 ≤ k) {a2 a3 a4 a5 a6 a7 : D} {rows : List D} {w : Nat} (hl : rows.length < 10) (h : ∀ r ∈ rows, OpRow r) (hw : ∃ r ∈ rows, headOf r = some w) : ∃ i : Int, ∀ st, CL st →
    (W (runP (pg C) k j_code_steps [.tup [.sym 11, .non, a2, a3, a4, a5, a6, a7, .tup rows], .sym w] st) fun q => q = (.int i, st)) ∧ W (runP (pg C) k j__law_k82_due [.tup [.sym 11, .non, a2, a3, a4, a5, a6, a7, .tup rows], .sym w] st) fun q => q = (.int i, st) := by
  obtain ⟨k, rfl⟩ := Nat.exists_eq_add_of_le' (show 1 ≤ k by omega)
  obtain ⟨c, nm, n, ss, t1, t2, hn, hwf, hm, e1, e2⟩ := first_row h hw
  refine ⟨stepsOf ss, fun st hs => ⟨?_, ?_⟩⟩
  · refine r_code_steps ?_
    unfold m_code_steps
    simp? only [true_and]
    refine (is_structure_ok C (by omega) hs).mono ?_
    rintro q rfl
    simp? only [true_and]
    refine (lcL_det (pickB w) rows fun d hd => ?_).mono ?_
    · obtain ⟨v, c, nm, n, ss, rfl, _⟩ := h d hd
      simp? only [wipeE, List.set_cons_succ, List.set_cons_zero, ↓W_eqs]
      refine br_en (fun e => ?_) fun e => ?_
      · subst e
        exact if_pos rfl
      · exact if_neg e
    rintro q rfl
    have hlen : (rows.filterMap (pickB w)).length ≤ rows.length := List.length_filterMap_le _ _
    rw [e1] at hlen ⊢
    refine ⟨by simp only [bigN]; omega, ?_⟩
    simp? only [true_and]
    refine (translated_ok C (by omega) hwf hm hs).mono ?_
    rintro q rfl
    refine (longest_way_ok C (by omega) (ins_ok hwf) (ways_in hwf) (codes_short hm) hs).mono ?_
    rintro ⟨d, s⟩ ⟨rfl, hd⟩
    have hd : d = .int (stepsOf ss) := by
      rcases hd with ⟨v, h1, h2⟩ | ⟨h1, h2⟩ <;> rcases steps_told hwf with ⟨u, g1, g2⟩ | ⟨g1, g2⟩
      · rw [g2, ← h1.uniq g1]; exact h2
      · exact absurd ⟨v, h1⟩ g1
      · exact absurd ⟨u, g1⟩ h1
      · rw [g2]; exact h2
    dsimp only at hd ⊢
    subst hd
    exact exitC0 rfl hs rfl rfl
  · refine r__law_k82_due ?_
    unfold m__law_k82_due
    simp? only [true_and]
    refine (lcL_det (pickR w) rows fun d hd => ?_).mono ?_
    · obtain ⟨v, c, nm, n, ss, rfl, _⟩ := h d hd
      simp? only [wipeE, List.set_cons_succ, List.set_cons_zero, ↓W_eqs]
      refine br_en (fun e => ?_) fun e => ?_
      · subst e
        exact if_pos rfl
      · exact if_neg e
    rintro q rfl
    have hlen : (rows.filterMap (pickR w)).length ≤ rows.length := List.length_filterMap_le _ _
    rw [e2] at hlen ⊢
    refine ⟨by simp only [bigN]; omega, ?_⟩
    simp? only [true_and]
    refine (m_code_ok C n (by omega) ss hwf hm 0 0 st hs).mono ?_
    rintro q rfl
    refine (e_code_steps_ok C (by omega) (ins_ok hwf) (ways_in hwf) (codes_short hm) hs).mono ?_
    rintro q rfl
    exact exitC0 rfl hs rfl rfl
theorem kind_steps_ok (C : List V) {k : Nat} (hk : 2 ≤ k) {how : D} (h : Kind how) {w : Nat} {st : Store} (hs : CL st) :
    (W (runP (pg C) k j_code_steps [how, .sym w] st) fun q => q = (.int 1, st)) ∧ W (runP (pg C) k j__law_k82_due [how, .sym w] st) fun q => q = (.int 1, st) := by
  obtain ⟨k, rfl⟩ := Nat.exists_eq_add_of_le' (show 1 ≤ k by omega)
  obtain ⟨v, r, rfl, hv⟩ : ∃ v r, how = .tup (.sym v :: r) ∧ v ≠ 11 := by
    rcases h with ⟨v, r, hv, rfl, _⟩ | ⟨i, rows, rfl, _⟩
    · have all : ∀ v ∈ kindNames, v ≠ 11 := by decide
      exact ⟨v, r, rfl, all v hv⟩
    · exact ⟨_, _, rfl, by decide⟩
  constructor
  · refine r_code_steps ?_
    unfold m_code_steps
    simp? only [true_and]
    refine (is_structure_ok C (by omega) hs).mono ?_
    rintro q rfl
    have hb : (v == 11) = false := by simpa using hv
    rw [hb]
    simp? only [true_and]
    exact exitC0 rfl hs rfl rfl
  · refine r__law_k82_due ?_
    unfold m__law_k82_due
    simp? only [hv]
    exact exitC0 rfl hs rfl rfl
end H82
set_option Elab.async false
set_option linter.all false
set_option maxRecDepth 100000
set_option maxHeartbeats 4000000
set_option autoImplicit false
namespace H82
open PySem PySem.Spec PyProof.Rows L2 Mn
local macro_rules
  | `(tactic| simp? only [$ls,*]) => `(tactic| simp only [$ls,*, ↓br_t, ↓br_f, ↓KS_nx, ↓KS_ret, ↓KS_brk, ↓KS_cnt, ↓LQ_nx, ↓LQ_cnt, ↓LQ_brk, ↓LQ_ret, ↓EX_nx, ↓EX_ret, ↓SETE_0, ↓SETE_s, ↓BL_b, ↓INT_i, ↓KEY_s, ↓NL_0, ↓NL_s, ↓W_lstAt0, ↓W_lstAts, ↓W_at0, ↓W_ats, ↓PAR2_c, ↓PAR3_c, ↓RNG_i, ↓SEQ_l, ↓SEQ_f, ↓SEQ_t, ↓SEQ_r, ↓W_some, ↓W_atI0, ↓W_atI1, ↓W_atI2, ↓W_atI3, ↓W_atI4, ↓W_atI5, ↓W_atI6, ↓W_atI7, ↓W_atI8, ↓W_atI9, ↓W_atI10, ↓W_atI11, ↓W_atI12, ↓W_seqS, ↓W_asgS, ↓W_exprS, ↓W_retS, ↓W_retN, ↓W_brkS, ↓W_cntS, ↓W_nextS, ↓W_ifS, ↓W_forS, ↓W_par2, ↓W_par3, ↓W_nameG, ↓W_tupG, ↓W_consG, ↓W_nilG, ↓W_subG, ↓W_setO0, ↓W_setOs, ↓SETL_0, ↓SETL_s, ↓IXN_0, ↓IXN_1, ↓IXN_2, ↓IXN_3, ↓IXN_nat, ↓W_var0, ↓W_vars, ↓W_cM, ↓W_binM, ↓W_unM, ↓W_negM, ↓W_nilA, ↓W_consA, ↓W_callM, ↓W_tupM, ↓W_lstM, ↓W_lstMt, ↓W_slcM, ↓W_part0, ↓W_parts, ↓W_slOt, ↓W_slOl, ↓W_slOr, ↓W_ifM, ↓W_truM, ↓W_bolM, ↓W_andT, ↓W_orT, ↓W_notT, ↓W_andE, ↓W_orE, ↓W_notE, ↓W_mthL, ↓W_lstFr, ↓W_dctM, ↓W_dctMt, ↓W_nilK, ↓W_consK, ↓W_kwM, ↓W_maxdM, ↓W_sort2M, ↓W_listRgM, ↓W_listRgMt, ↓W_lcM, ↓W_rng1I, ↓W_seqI, ↓W_addI, ↓W_addT, ↓W_addL, ↓W_addLt, ↓W_subI, ↓W_mulI, ↓W_mulL, ↓W_fdiv, ↓W_mod, ↓W_pow, ↓W_cmp, ↓W_is, ↓W_isNot, ↓W_eqi, ↓W_eqis, ↓W_eqb, ↓W_nei, ↓W_neis, ↓W_neb, ↓W_itT, ↓W_itL, ↓W_itF, ↓W_itD, ↓W_one, ↓W_lenL, ↓W_lenT, ↓W_lenF, ↓W_intI, ↓W_intB, ↓W_absI, ↓W_max2, ↓W_min2, ↓W_tupCl, ↓W_tupCr, ↓W_tupCt, ↓W_lstCf, ↓W_lstCl, ↓W_truL, ↓W_truT, ↓W_truB, ↓W_yesT, ↓W_itR0, ↓W_itRs, ↓H82.W_defC, ↓W_dget_hit, ↓W_dget_miss, ↓W_eqs_t, ↓W_eqs_f, ↓W_nes_t, ↓W_nes_f, ↓W_isiST, ↓W_isiIT, ↓W_isiTT, ↓W_isiIS, ↓W_isiIB, ↓W_isiII, ↓W_memT', ↓W_listRg2M, ↓W_rng2I, ↓RNG2_i, ↓W_lstAt_end, ↓W_apps, ↓W_app_end, ↓W_memLd, ↓W_notMemLd, ↓MEMD_nil, ↓MEMD_hit, ↓MEMD_miss, List.length_cons, List.length_nil, List.length_map, Nat.reduceAdd, Nat.reduceLT, Nat.reduceLeDiff, Nat.zero_add, List.append_nil, List.nil_append, List.cons_append, Nat.reduceBEq, Int.reduceBEq, Nat.reduceEqDiff, beq_self_eq_true, true_and, and_true, Bool.not_true, Bool.not_false, Bool.or_true, Bool.true_or, H82.sm1, H82.sm2, H82.sm3, H82.p18, ne_eq, not_false_eq_true, Int.reduceEq, reduceCtorEq, List.isEmpty_nil, List.isEmpty_cons, List.all_cons, List.all_nil, isSym_s, List.any_cons, List.any_nil, eqv_sym, Bool.or_false, Bool.false_or, Bool.and_self, Int.reduceLT, Int.reduceAdd, Int.reduceSub, decide_true, decide_false])
local macro_rules
  | `(tactic| simp? [$ls,*]) => `(tactic| simp only [$ls,*, ↓br_t, ↓br_f, ↓KS_nx, ↓KS_ret, ↓KS_brk, ↓KS_cnt, ↓LQ_nx, ↓LQ_cnt, ↓LQ_brk, ↓LQ_ret, ↓EX_nx, ↓EX_ret, ↓SETE_0, ↓SETE_s, ↓BL_b, ↓INT_i, ↓KEY_s, ↓NL_0, ↓NL_s, ↓W_lstAt0, ↓W_lstAts, ↓W_at0, ↓W_ats, ↓PAR2_c, ↓PAR3_c, ↓RNG_i, ↓SEQ_l, ↓SEQ_f, ↓SEQ_t, ↓SEQ_r, ↓W_some, ↓W_atI0, ↓W_atI1, ↓W_atI2, ↓W_atI3, ↓W_atI4, ↓W_atI5, ↓W_atI6, ↓W_atI7, ↓W_atI8, ↓W_atI9, ↓W_atI10, ↓W_atI11, ↓W_atI12, ↓W_seqS, ↓W_asgS, ↓W_exprS, ↓W_retS, ↓W_retN, ↓W_brkS, ↓W_cntS, ↓W_nextS, ↓W_ifS, ↓W_forS, ↓W_par2, ↓W_par3, ↓W_nameG, ↓W_tupG, ↓W_consG, ↓W_nilG, ↓W_subG, ↓W_setO0, ↓W_setOs, ↓SETL_0, ↓SETL_s, ↓IXN_0, ↓IXN_1, ↓IXN_2, ↓IXN_3, ↓IXN_nat, ↓W_var0, ↓W_vars, ↓W_cM, ↓W_binM, ↓W_unM, ↓W_negM, ↓W_nilA, ↓W_consA, ↓W_callM, ↓W_tupM, ↓W_lstM, ↓W_lstMt, ↓W_slcM, ↓W_part0, ↓W_parts, ↓W_slOt, ↓W_slOl, ↓W_slOr, ↓W_ifM, ↓W_truM, ↓W_bolM, ↓W_andT, ↓W_orT, ↓W_notT, ↓W_andE, ↓W_orE, ↓W_notE, ↓W_mthL, ↓W_lstFr, ↓W_dctM, ↓W_dctMt, ↓W_nilK, ↓W_consK, ↓W_kwM, ↓W_maxdM, ↓W_sort2M, ↓W_listRgM, ↓W_listRgMt, ↓W_lcM, ↓W_rng1I, ↓W_seqI, ↓W_addI, ↓W_addT, ↓W_addL, ↓W_addLt, ↓W_subI, ↓W_mulI, ↓W_mulL, ↓W_fdiv, ↓W_mod, ↓W_pow, ↓W_cmp, ↓W_is, ↓W_isNot, ↓W_eqi, ↓W_eqis, ↓W_eqb, ↓W_nei, ↓W_neis, ↓W_neb, ↓W_itT, ↓W_itL, ↓W_itF, ↓W_itD, ↓W_one, ↓W_lenL, ↓W_lenT, ↓W_lenF, ↓W_intI, ↓W_intB, ↓W_absI, ↓W_max2, ↓W_min2, ↓W_tupCl, ↓W_tupCr, ↓W_tupCt, ↓W_lstCf, ↓W_lstCl, ↓W_truL, ↓W_truT, ↓W_truB, ↓W_yesT, ↓W_itR0, ↓W_itRs, ↓H82.W_defC, ↓W_dget_hit, ↓W_dget_miss, ↓W_eqs_t, ↓W_eqs_f, ↓W_nes_t, ↓W_nes_f, ↓W_isiST, ↓W_isiIT, ↓W_isiTT, ↓W_isiIS, ↓W_isiIB, ↓W_isiII, ↓W_memT', ↓W_listRg2M, ↓W_rng2I, ↓RNG2_i, ↓W_lstAt_end, ↓W_apps, ↓W_app_end, ↓W_memLd, ↓W_notMemLd, ↓MEMD_nil, ↓MEMD_hit, ↓MEMD_miss, List.length_cons, List.length_nil, List.length_map, Nat.reduceAdd, Nat.reduceLT, Nat.reduceLeDiff, Nat.zero_add, List.append_nil, List.nil_append, List.cons_append, Nat.reduceBEq, Int.reduceBEq, Nat.reduceEqDiff, beq_self_eq_true, true_and, and_true, Bool.not_true, Bool.not_false, Bool.or_true, Bool.true_or, H82.sm1, H82.sm2, H82.sm3, H82.p18, ne_eq, not_false_eq_true, Int.reduceEq, reduceCtorEq, List.isEmpty_nil, List.isEmpty_cons, List.all_cons, List.all_nil, isSym_s, List.any_cons, List.any_nil, eqv_sym, Bool.or_false, Bool.false_or, Bool.and_self, Int.reduceLT, Int.reduceAdd, Int.reduceSub, decide_true, decide_false, ↓sc_names, ↓sc_shared, ↓sc_privates, ↓sc_fields, ↓sc_slots, ↓sc_program, ↓sc_calls, sNm_e, sSh_e, sNm_l, sSh_l, bigN])
theorem cut8 {a b c d e f g h i : D} : cutL [a, b, c, d, e, f, g, h, i] none (some 8) = [a, b, c, d, e, f, g, h] := rfl
theorem encs_drop : ∀ ss : List Stm, (encs ss).drop 1 = encs (ss.drop 1)
  | [] => rfl
  | _ :: _ => rfl
theorem WFs_drop {lp : Bool} {n : Nat} : ∀ {ss : List Stm}, WFs lp n ss → WFs lp n (ss.drop 1)
  | [], h => h
  | _ :: _, h => h.2
theorem manys_drop : ∀ ss : List Stm, manys (ss.drop 1) ≤ manys ss
  | [] => Nat.le_refl _
  | s :: ss => by
    show manys ss ≤ many s + manys ss
    omega
theorem AskS.clo {d : D} (h : AskS d) : Mn.clo 0 d = true := by
  obtain ⟨how, w, rfl, h⟩ := h
  have hc : Mn.clo 0 how = true := by
    rcases h with ⟨a2, a3, a4, a5, a6, a7, rows, rfl, h1, _, h2, _⟩ | h
    · have h1 : (Mn.clo 0 a2 && (Mn.clo 0 a3 && (Mn.clo 0 a4 && (Mn.clo 0 a5 && (Mn.clo 0 a6 && (Mn.clo 0 a7 && true)))))) = true := h1
      show (true && (true && (Mn.clo 0 a2 && (Mn.clo 0 a3 && (Mn.clo 0 a4 && (Mn.clo 0 a5 && (Mn.clo 0 a6 && (Mn.clo 0 a7 && (clos 0 rows && true))))))))) = true
      rw [clos_iff.mpr fun d hd => (h2 d hd).clo]
      simpa using h1
    · exact h.clo
  show (Mn.clo 0 how && (true && true)) = true
  rw [hc]; rfl
theorem asks_ok (C : List V) {k : Nat} (hk : 40 ≤ k) {how : D} {w : Nat} (h : AskS (.tup [how, .sym w])) {st : Store} (hs : CL st) : ∃ i : Int, (W (runP (pg C) k j_code_steps [how, .sym w] st) fun q => q = (.int i, st)) ∧ W (runP (pg C) k j__law_k82_due [how, .sym w] st) fun q => q = (.int i, st) := by
  obtain ⟨how', w', e, h⟩ := h
  cases e
  rcases h with ⟨a2, a3, a4, a5, a6, a7, rows, rfl, h1, h2, h3, h4⟩ | h
  · obtain ⟨i, hi⟩ := code_steps_ok C hk h2 h3 h4 (a2 := a2) (a3 := a3) (a4 := a4) (a5 := a5) (a6 := a6) (a7 := a7)
    exact ⟨i, hi st hs⟩
  · exact ⟨1, kind_steps_ok C (by omega) h hs⟩
theorem pick_tup (C : List V) {k : Nat} (hk : 2 ≤ k) {xs : List D} {rest : Store} (hr : CL rest) (h0 : 0 < xs.length) (hx : ∀ d ∈ xs, clo 0 d = true) (hl : xs.length < 1073741824) : Dr C k j__law_pick [.ref 0, .tup xs] rest fun d => d ∈ xs := by
  obtain ⟨k, rfl⟩ := Nat.exists_eq_add_of_le' hk
  intro o ho
  refine r__law_pick ?_
  unfold m__law_pick
  simp? only [true_and]
  refine (draw_ok C k xs.length rest hr (by omega)).W ho ?_
  rintro d o' ⟨r, rfl, h1, h2⟩ ho'
  simp? only [true_and]
  obtain ⟨d, hd, e⟩ := atI_mem (xs := xs) h1 (by omega)
  rw [e]
  simp? only [true_and]
  exact fin ho' hr (hx d hd) hd
theorem same_int (C : List V) {k : Nat} (hk : 1 ≤ k) {i : Int} {st : Store} (hs : CL st) : W (runP (pg C) k j__law_same [.int i, .int i] st) fun q => q = (.bl true, st) := by
  obtain ⟨k, rfl⟩ := Nat.exists_eq_add_of_le' hk
  refine r__law_same ?_
  unfold m__law_same
  simp? [noCon, isNone]
  exact exitC0 rfl hs rfl rfl
theorem k82_steps_ok (C : List V) {k : Nat} (hk : 50 ≤ k) {rest : Store} (hr : CL rest) : Dr C k j__law_k82_steps [.ref 0] rest fun d => d = .bl true := by
  obtain ⟨k, rfl⟩ := Nat.exists_eq_add_of_le' (show 1 ≤ k by omega)
  intro o ho
  refine r__law_k82_steps ?_
  unfold m__law_k82_steps
  (refine W_seqS.mpr ?_; generalize hK : KS _ _ = K; simp? [true_and])
  refine (pickI C (by omega) (lo := 0) (hi := 41) [2, 4, 6, 8, 10, 12, 6, 40] hr (by decide) (by decide) (by decide)).W ho ?_
  rintro d o2 ⟨cnt, rfl, c0, c1⟩ ho2
  refine (e_object_ok C (by omega) cnt c0 (by omega) hr).W ho2 ?_
  rintro d o3 ⟨a2, a3, a4, a5, a6, a7, rows, rfl, hc, hl0, hl1, hrows⟩ ho3
  subst hK
  refine KS_nx.mpr ?_
  (refine W_seqS.mpr ?_; generalize hK : KS _ _ = K; simp? [true_and])
  refine (draw_ok' C (by omega) rows.length hr (by omega)).W ho3 ?_
  rintro d o4 ⟨at_, rfl, t0, t1⟩ ho4
  obtain ⟨n, rfl⟩ := Int.eq_ofNat_of_zero_le t0
  have hn : n < rows.length := by omega
  subst hK
  refine KS_nx.mpr ?_
  (refine W_seqS.mpr ?_; generalize hK : KS _ _ = K; simp? [true_and])
  rw [atI_of, List.getElem?_eq_getElem hn]
  obtain ⟨w, c, nm, n2, ss, e, hnm, hn2, hwf, hm⟩ := hrows _ (List.getElem_mem hn)
  rw [e]
  simp? [true_and]
  subst hK
  refine KS_nx.mpr ?_
  (refine W_seqS.mpr ?_; generalize hK : KS _ _ = K; simp? [true_and])
  have e1 : cutL (encs ss) (some 1) none = encs (ss.drop 1) := by rw [← encs_drop]; exact cutL_drop (n := 1)
  have e2 : cutL rows none (some (n : Int)) = rows.take n := cutL_take
  have e3 : cutL rows (some ((n : Int) + 1)) none = rows.drop (n + 1) := by rw [show (n : Int) + 1 = ((n + 1 : Nat) : Int) by omega]; exact cutL_drop
  rw [e1, e2, e3, cut8]
  have l1 : (rows.take n).length ≤ 10 := by rw [List.length_take]; omega
  have l2 : (rows.drop (n + 1)).length ≤ 10 := by rw [List.length_drop]; omega
  refine ⟨by omega, by rw [List.length_append, List.length_singleton]; omega, by show 8 ≤ 16777215; decide, ?_⟩
  have hrow : OpRow (.tup [.sym w, .int c, nm, .tup (encs (ss.drop 1))]) := ⟨w, c, nm, n2, ss.drop 1, rfl, hnm, hn2, WFs_drop hwf, Nat.le_trans (manys_drop ss) hm⟩
  obtain ⟨rows2, hr2⟩ : ∃ rows2, rows2 = rows.take n ++ [D.tup [.sym w, .int c, nm, .tup (encs (ss.drop 1))]] ++ rows.drop (n + 1) := ⟨_, rfl⟩
  have hrows2 : ∀ r ∈ rows2, OpRow r := fun r hr => by
    rw [hr2] at hr
    rcases List.mem_append.mp hr with hr | hr
    · rcases List.mem_append.mp hr with hr | hr
      · exact hrows r (List.mem_of_mem_take hr)
      · rw [List.mem_singleton.mp hr]; exact hrow
    · exact hrows r (List.mem_of_mem_drop hr)
  have hl2 : rows2.length < 10 := by
    rw [hr2, List.length_append, List.length_append, List.length_singleton, List.length_take, List.length_drop]
    omega
  have hin2 : ∃ r ∈ rows2, headOf r = some w := ⟨_, by rw [hr2]; exact List.mem_append_left _ (List.mem_append_right _ (List.mem_singleton.mpr rfl)), rfl⟩
  rw [← hr2]
  simp only [List.cons_append, List.nil_append]
  subst hK
  refine KS_nx.mpr ?_
  (refine W_seqS.mpr ?_; generalize hK : KS _ _ = K; simp? [true_and])
  refine (some_kind_ok C (by omega) hr).W ho4 ?_
  intro kd o5 hkd ho5
  subst hK
  refine KS_nx.mpr ?_
  (refine W_seqS.mpr ?_; generalize hK : KS _ _ = K; simp? [true_and])
  have aof : ∀ r ∈ rows, ∃ v, headOf r = some v ∧ AskS (.tup [.tup [.sym 11, .non, a2, a3, a4, a5, a6, a7, .tup rows], .sym v]) := fun r hr => by
    have ho := hrows r hr
    obtain ⟨v, c, nm, n2, ss, rfl, _⟩ := ho
    exact ⟨v, rfl, _, v, rfl, .inl ⟨a2, a3, a4, a5, a6, a7, rows, rfl, hc, hl1, hrows, _, hr, rfl⟩⟩
  refine (lcL_each (T := fun s => s = o5 :: rest) (R := AskS) rows (fun d hd s hT => ?_) _ rfl).mono ?_
  · subst hT
    obtain ⟨v, hv, ha⟩ := aof d hd
    obtain ⟨v', c, nm, n2, ss, rfl, _⟩ := hrows d hd
    cases hv
    simp? [wipeE, List.set_cons_succ, List.set_cons_zero]
    exact ha
  rintro ⟨as1, s⟩ ⟨hq1, hq2, rfl⟩
  dsimp only at hq1 hq2 ⊢
  refine ⟨by omega, ?_⟩
  refine (k_operations_ok C (by omega) hkd (CL_cons.mpr ⟨ho5.cl, hr⟩)).mono ?_
  rintro ⟨d, s⟩ ⟨rfl, ops, rfl, h0, h1, hv⟩
  dsimp only
  refine (pick_tup C (by omega) hr h0 (fun d hd => by obtain ⟨w, n, rfl⟩ := hv d hd; rfl) (by omega)).W ho5 fun d o6 hd ho6 => ?_
  obtain ⟨v, m, rfl⟩ := hv d hd
  simp? [true_and]
  refine ⟨by omega, ?_⟩
  have hall : ∀ d ∈ as1 ++ [D.tup [D.tup [D.sym 11, D.non, a2, a3, a4, a5, a6, a7, D.tup rows2], D.sym w], D.tup [kd, .sym v]], AskS d := fun d hd => by
    rcases List.mem_append.mp hd with hd | hd
    · exact hq2 d hd
    · rcases List.mem_cons.mp hd with rfl | hd
      · exact ⟨_, w, rfl, .inl ⟨a2, a3, a4, a5, a6, a7, rows2, rfl, hc, hl2, hrows2, hin2⟩⟩
      · rw [List.mem_singleton.mp hd]
        exact ⟨_, v, rfl, .inr hkd⟩
  have hal : (as1 ++ [D.tup [D.tup [D.sym 11, D.non, a2, a3, a4, a5, a6, a7, D.tup rows2], D.sym w], D.tup [kd, .sym v]]).length ≤ 20 := by
    rw [List.length_append]
    show as1.length + 2 ≤ 20
    omega
  generalize as1 ++ [D.tup [D.tup [D.sym 11, D.non, a2, a3, a4, a5, a6, a7, D.tup rows2], D.sym w], D.tup [kd, .sym v]] = asks at hall hal ⊢
  subst hK
  refine KS_nx.mpr ?_
  (refine W_seqS.mpr ?_; generalize hK : KS _ _ = K; simp? [true_and])
  refine (shuffled_ok C (by omega) hr (clos_iff.mpr fun d hd => (hall d hd).clo) (by omega)).W ho6 ?_
  rintro d o7 ⟨turned, rfl, hu1, hu2⟩ ho7
  subst hK
  refine KS_nx.mpr ?_
  (refine W_seqS.mpr ?_; generalize hK : KS _ _ = K; simp? [true_and])
  have hl5 : (cutL turned none (some 2)).length ≤ turned.length := by
    rw [show (2 : Int) = ((2 : Nat) : Int) from rfl, cutL_take, List.length_take]
    omega
  refine ⟨by omega, ?_⟩
  obtain ⟨J, hJ⟩ : ∃ J : List D → Mn.Env → Store → Prop, J = fun r env s => ∃ (x1 x2 x3 x4 x5 x6 x7 x8 x9 x10 : Option D), env = [some (.ref 0), x1, x2, x3, x4, x5, x6, x7, x8, x9, x10] ∧ s = o7 :: rest ∧ ∀ d ∈ r, AskS d := ⟨_, rfl⟩
  refine forL_W J ?_ ?_ _ _ _ (by
    rw [hJ]
    refine ⟨_, _, _, _, _, _, _, _, _, _, rfl, rfl, fun d hd => ?_⟩
    rcases List.mem_append.mp hd with hd | hd
    · exact hall d (hu2 d hd)
    · exact hall d (hu2 d (cutL_sub hd)))
  · intro e r env s h
    rw [hJ] at h
    obtain ⟨x1, x2, x3, x4, x5, x6, x7, x8, x9, x10, rfl, rfl, hall⟩ := h
    refine ⟨rfl, ?_⟩
    have ha := hall e List.mem_cons_self
    obtain ⟨how, w, rfl, _⟩ := id ha
    obtain ⟨i, h1, h2⟩ := asks_ok C (k := k) (by omega) ha (CL_cons.mpr ⟨ho7.cl, hr⟩)
    simp? only [true_and]
    refine h1.mono ?_
    rintro q rfl
    refine h2.mono ?_
    rintro q rfl
    refine (same_int C (by omega) (CL_cons.mpr ⟨ho7.cl, hr⟩)).mono ?_
    rintro q rfl
    simp? only [true_and]
    rw [hJ]
    exact ⟨_, _, _, _, _, _, _, _, _, _, rfl, rfl, fun d hd => hall d (List.mem_cons_of_mem _ hd)⟩
  · intro env s h
    rw [hJ] at h
    obtain ⟨x1, x2, x3, x4, x5, x6, x7, x8, x9, x10, rfl, rfl, hall⟩ := h
    refine ⟨rfl, ?_⟩
    subst hK
    refine KS_nx.mpr ?_
    simp? [true_and]
    exact fin ho7 hr rfl rfl
end H82
set_option Elab.async false
set_option linter.all false
set_option maxRecDepth 100000
set_option maxHeartbeats 4000000
set_option autoImplicit false
namespace H82
open PySem PySem.Spec PyProof.Rows L2 Mn
local macro_rules
  | `(tactic| simp? only [$ls,*]) => `(tactic| simp only [$ls,*, ↓br_t, ↓br_f, ↓KS_nx, ↓KS_ret, ↓KS_brk, ↓KS_cnt, ↓LQ_nx, ↓LQ_cnt, ↓LQ_brk, ↓LQ_ret, ↓EX_nx, ↓EX_ret, ↓SETE_0, ↓SETE_s, ↓BL_b, ↓INT_i, ↓KEY_s, ↓NL_0, ↓NL_s, ↓W_lstAt0, ↓W_lstAts, ↓W_at0, ↓W_ats, ↓PAR2_c, ↓PAR3_c, ↓RNG_i, ↓SEQ_l, ↓SEQ_f, ↓SEQ_t, ↓SEQ_r, ↓W_some, ↓W_atI0, ↓W_atI1, ↓W_atI2, ↓W_atI3, ↓W_atI4, ↓W_atI5, ↓W_atI6, ↓W_atI7, ↓W_atI8, ↓W_atI9, ↓W_atI10, ↓W_atI11, ↓W_atI12, ↓W_seqS, ↓W_asgS, ↓W_exprS, ↓W_retS, ↓W_retN, ↓W_brkS, ↓W_cntS, ↓W_nextS, ↓W_ifS, ↓W_forS, ↓W_par2, ↓W_par3, ↓W_nameG, ↓W_tupG, ↓W_consG, ↓W_nilG, ↓W_subG, ↓W_setO0, ↓W_setOs, ↓SETL_0, ↓SETL_s, ↓IXN_0, ↓IXN_1, ↓IXN_2, ↓IXN_3, ↓IXN_nat, ↓W_var0, ↓W_vars, ↓W_cM, ↓W_binM, ↓W_unM, ↓W_negM, ↓W_nilA, ↓W_consA, ↓W_callM, ↓W_tupM, ↓W_lstM, ↓W_lstMt, ↓W_slcM, ↓W_part0, ↓W_parts, ↓W_slOt, ↓W_slOl, ↓W_slOr, ↓W_ifM, ↓W_truM, ↓W_bolM, ↓W_andT, ↓W_orT, ↓W_notT, ↓W_andE, ↓W_orE, ↓W_notE, ↓W_mthL, ↓W_lstFr, ↓W_dctM, ↓W_dctMt, ↓W_nilK, ↓W_consK, ↓W_kwM, ↓W_maxdM, ↓W_sort2M, ↓W_listRgM, ↓W_listRgMt, ↓W_lcM, ↓W_rng1I, ↓W_seqI, ↓W_addI, ↓W_addT, ↓W_addL, ↓W_addLt, ↓W_subI, ↓W_mulI, ↓W_mulL, ↓W_fdiv, ↓W_mod, ↓W_pow, ↓W_cmp, ↓W_is, ↓W_isNot, ↓W_eqi, ↓W_eqis, ↓W_eqb, ↓W_nei, ↓W_neis, ↓W_neb, ↓W_itT, ↓W_itL, ↓W_itF, ↓W_itD, ↓W_one, ↓W_lenL, ↓W_lenT, ↓W_lenF, ↓W_intI, ↓W_intB, ↓W_absI, ↓W_max2, ↓W_min2, ↓W_tupCl, ↓W_tupCr, ↓W_tupCt, ↓W_lstCf, ↓W_lstCl, ↓W_truL, ↓W_truT, ↓W_truB, ↓W_yesT, ↓W_itR0, ↓W_itRs, ↓H82.W_defC, ↓W_dget_hit, ↓W_dget_miss, ↓W_eqs_t, ↓W_eqs_f, ↓W_nes_t, ↓W_nes_f, ↓W_isiST, ↓W_isiIT, ↓W_isiTT, ↓W_isiIS, ↓W_isiIB, ↓W_isiII, ↓W_memT', ↓W_listRg2M, ↓W_rng2I, ↓RNG2_i, ↓W_lstAt_end, ↓W_apps, ↓W_app_end, ↓W_memLd, ↓W_notMemLd, ↓MEMD_nil, ↓MEMD_hit, ↓MEMD_miss, List.length_cons, List.length_nil, List.length_map, Nat.reduceAdd, Nat.reduceLT, Nat.reduceLeDiff, Nat.zero_add, List.append_nil, List.nil_append, List.cons_append, Nat.reduceBEq, Int.reduceBEq, Nat.reduceEqDiff, beq_self_eq_true, true_and, and_true, Bool.not_true, Bool.not_false, Bool.or_true, Bool.true_or, H82.sm1, H82.sm2, H82.sm3, H82.p18, ne_eq, not_false_eq_true, Int.reduceEq, reduceCtorEq, List.isEmpty_nil, List.isEmpty_cons, List.all_cons, List.all_nil, isSym_s, List.any_cons, List.any_nil, eqv_sym, Bool.or_false, Bool.false_or, Bool.and_self, Int.reduceLT, Int.reduceAdd, Int.reduceSub, decide_true, decide_false])
local macro_rules
  | `(tactic| simp? [$ls,*]) => `(tactic| simp only [$ls,*, ↓br_t, ↓br_f, ↓KS_nx, ↓KS_ret, ↓KS_brk, ↓KS_cnt, ↓LQ_nx, ↓LQ_cnt, ↓LQ_brk, ↓LQ_ret, ↓EX_nx, ↓EX_ret, ↓SETE_0, ↓SETE_s, ↓BL_b, ↓INT_i, ↓KEY_s, ↓NL_0, ↓NL_s, ↓W_lstAt0, ↓W_lstAts, ↓W_at0, ↓W_ats, ↓PAR2_c, ↓PAR3_c, ↓RNG_i, ↓SEQ_l, ↓SEQ_f, ↓SEQ_t, ↓SEQ_r, ↓W_some, ↓W_atI0, ↓W_atI1, ↓W_atI2, ↓W_atI3, ↓W_atI4, ↓W_atI5, ↓W_atI6, ↓W_atI7, ↓W_atI8, ↓W_atI9, ↓W_atI10, ↓W_atI11, ↓W_atI12, ↓W_seqS, ↓W_asgS, ↓W_exprS, ↓W_retS, ↓W_retN, ↓W_brkS, ↓W_cntS, ↓W_nextS, ↓W_ifS, ↓W_forS, ↓W_par2, ↓W_par3, ↓W_nameG, ↓W_tupG, ↓W_consG, ↓W_nilG, ↓W_subG, ↓W_setO0, ↓W_setOs, ↓SETL_0, ↓SETL_s, ↓IXN_0, ↓IXN_1, ↓IXN_2, ↓IXN_3, ↓IXN_nat, ↓W_var0, ↓W_vars, ↓W_cM, ↓W_binM, ↓W_unM, ↓W_negM, ↓W_nilA, ↓W_consA, ↓W_callM, ↓W_tupM, ↓W_lstM, ↓W_lstMt, ↓W_slcM, ↓W_part0, ↓W_parts, ↓W_slOt, ↓W_slOl, ↓W_slOr, ↓W_ifM, ↓W_truM, ↓W_bolM, ↓W_andT, ↓W_orT, ↓W_notT, ↓W_andE, ↓W_orE, ↓W_notE, ↓W_mthL, ↓W_lstFr, ↓W_dctM, ↓W_dctMt, ↓W_nilK, ↓W_consK, ↓W_kwM, ↓W_maxdM, ↓W_sort2M, ↓W_listRgM, ↓W_listRgMt, ↓W_lcM, ↓W_rng1I, ↓W_seqI, ↓W_addI, ↓W_addT, ↓W_addL, ↓W_addLt, ↓W_subI, ↓W_mulI, ↓W_mulL, ↓W_fdiv, ↓W_mod, ↓W_pow, ↓W_cmp, ↓W_is, ↓W_isNot, ↓W_eqi, ↓W_eqis, ↓W_eqb, ↓W_nei, ↓W_neis, ↓W_neb, ↓W_itT, ↓W_itL, ↓W_itF, ↓W_itD, ↓W_one, ↓W_lenL, ↓W_lenT, ↓W_lenF, ↓W_intI, ↓W_intB, ↓W_absI, ↓W_max2, ↓W_min2, ↓W_tupCl, ↓W_tupCr, ↓W_tupCt, ↓W_lstCf, ↓W_lstCl, ↓W_truL, ↓W_truT, ↓W_truB, ↓W_yesT, ↓W_itR0, ↓W_itRs, ↓H82.W_defC, ↓W_dget_hit, ↓W_dget_miss, ↓W_eqs_t, ↓W_eqs_f, ↓W_nes_t, ↓W_nes_f, ↓W_isiST, ↓W_isiIT, ↓W_isiTT, ↓W_isiIS, ↓W_isiIB, ↓W_isiII, ↓W_memT', ↓W_listRg2M, ↓W_rng2I, ↓RNG2_i, ↓W_lstAt_end, ↓W_apps, ↓W_app_end, ↓W_memLd, ↓W_notMemLd, ↓MEMD_nil, ↓MEMD_hit, ↓MEMD_miss, List.length_cons, List.length_nil, List.length_map, Nat.reduceAdd, Nat.reduceLT, Nat.reduceLeDiff, Nat.zero_add, List.append_nil, List.nil_append, List.cons_append, Nat.reduceBEq, Int.reduceBEq, Nat.reduceEqDiff, beq_self_eq_true, true_and, and_true, Bool.not_true, Bool.not_false, Bool.or_true, Bool.true_or, H82.sm1, H82.sm2, H82.sm3, H82.p18, ne_eq, not_false_eq_true, Int.reduceEq, reduceCtorEq, List.isEmpty_nil, List.isEmpty_cons, List.all_cons, List.all_nil, isSym_s, List.any_cons, List.any_nil, eqv_sym, Bool.or_false, Bool.false_or, Bool.and_self, Int.reduceLT, Int.reduceAdd, Int.reduceSub, decide_true, decide_false, ↓sc_names, ↓sc_shared, ↓sc_privates, ↓sc_fields, ↓sc_slots, ↓sc_program, ↓sc_calls, sNm_e, sSh_e, sNm_l, sSh_l, bigN])
theorem plain_bound_ok (C : List V) {k : Nat} (hk : 1 ≤ k) {name : Nat} (hname : name ∈ plainNames ++ noneNames) (number n : Int) (tool : D) {st : Store} (hs : CL st) (hn : n.natAbs < 100000) : W (runP (pg C) k j_plain_bound [.sym name, .int number, .int n] st) fun q => q = (.int (bndE name number n tool), st) := by
  obtain ⟨k, rfl⟩ := Nat.exists_eq_add_of_le' hk
  have s1 : smallI (n + 1) = true := small_of (by omega)
  refine r_plain_bound ?_
  unfold m_plain_bound
  simp only [plainNames, noneNames, List.cons_append, List.nil_append, List.mem_cons, List.not_mem_nil, or_false] at hname
  rcases hname with rfl | rfl | rfl | rfl | rfl | rfl | rfl | rfl | rfl | rfl | rfl | rfl <;> simp? [sk1, sk2, sk3, sk4, sk5, s1, mx] <;> exact exitC0 rfl hs rfl rfl
def costsD (tool : D) (n each number : Int) : D := match costsE tool n each number with
  | some (e, h, l, r) => .tup [.int e, .int h, .int l, .int r]
  | none => .non
theorem costs_of_ok (C : List V) {k : Nat} (hk : 1 ≤ k) {tool : D} (ht : Tool tool) (n each number : Int) {st : Store} (hs : CL st) (hn : n.natAbs < 100000) : W (runP (pg C) k j_costs_of [tool, .int n, .int each, .int number] st) fun q => q = (costsD tool n each number, st) := by
  obtain ⟨k, rfl⟩ := Nat.exists_eq_add_of_le' hk
  have s3 : smallI (2 * n) = true := small_of (by omega)
  refine r_costs_of ?_
  unfold m_costs_of
  cases ht with
  | non =>
    simp? [noCon, isNone]
    exact exitC0 rfl hs rfl rfl
  | one w hw =>
    simp only [List.mem_cons, List.not_mem_nil, or_false] at hw
    rcases hw with rfl | rfl | rfl | rfl <;> simp? [noCon, isNone, sk1, sk2, sk3, sk4, sk5, s3] <;> exact exitC0 rfl hs rfl rfl
  | haz m =>
    simp? [noCon, isNone, sk1, sk2, sk3, sk4, sk5, s3]
    exact exitC0 rfl hs rfl rfl
theorem notMem_con {B : Tb} {a k : Nat} {b : Bool} {st : Store} {Q : D × Store → Prop} (h : memB B st (.sym a) (.con k) = some b) : W (notMemO B (.sym a) (.con k) st) Q ↔ Q (.bl (!b), st) := by
  unfold notMemO
  rw [h]
  exact W_some
theorem item_con {B : Tb} {a k : Nat} {st : Store} {d : D} {Q : D × Store → Prop} (h : itemO B (.con k) (.sym a) st = some (d, st)) : W (itemO B (.con k) (.sym a) st) Q ↔ Q (d, st) := by
  rw [h]
  exact W_some
theorem quiet_bound_ok (C : List V) {k : Nat} (hk : 2 ≤ k) {name : Nat} (hname : name ∈ plainNames ++ noneNames ++ slotNames) (number n : Int) {tool : D} (ht : Tool tool) {st : Store} (hs : CL st) (hn : n.natAbs < 100000) : W (runP (pg C) k j_quiet_bound [.sym name, .int number, .int n, tool] st) fun q => q = (.int (bndE name number n tool), st) := by
  obtain ⟨k, rfl⟩ := Nat.exists_eq_add_of_le' (show 1 ≤ k by omega)
  have s1 : smallI (n + 1) = true := small_of (by omega)
  have s2 : smallI (2 * n + 1) = true := small_of (by omega)
  refine r_quiet_bound ?_
  unfold m_quiet_bound
  rcases List.mem_append.mp hname with h1 | h1
  · have pb := plain_bound_ok C (k := k) (by omega) h1 number n tool hs hn
    have hb : memB (TB C) st (.sym name) (.con 0) = some false := by
      simp only [plainNames, noneNames, List.cons_append, List.nil_append, List.mem_cons, List.not_mem_nil, or_false] at h1
      rcases h1 with rfl | rfl | rfl | rfl | rfl | rfl | rfl | rfl | rfl | rfl | rfl | rfl <;> rfl
    simp? [↓notMem_con hb]
    refine pb.mono ?_
    rintro q rfl
    exact exitC0 rfl hs rfl rfl
  · simp only [slotNames, List.mem_cons, List.not_mem_nil, or_false] at h1
    rcases h1 with rfl | rfl | rfl
    · simp? [↓notMem_con (show memB (TB C) st (.sym 6) (.con 0) = some true from rfl), ↓item_con (show itemO (TB C) (.con 0) (.sym 6) st = some (.int 1, st) from rfl)]
      refine (costs_of_ok C (by omega) ht n 1 number hs hn).mono ?_
      rintro q rfl
      cases hc : costsE tool n 1 number with
      | none =>
        rw [show costsD tool n 1 number = .non by unfold costsD; rw [hc]]
        simp? [noCon, isNone]
        refine exitC0 rfl hs rfl (congrArg (fun i : Int => (D.int i, st)) ?_)
        simp [bndE, hc]
      | some c =>
        obtain ⟨e, h, l, r⟩ := c
        rw [show costsD tool n 1 number = .tup [.int e, .int h, .int l, .int r] by unfold costsD; rw [hc]]
        simp? [noCon, isNone, sk1, sk2, sk3, sk4, sk5, s1, s2, mx]
        refine exitC0 rfl hs rfl (congrArg (fun i : Int => (D.int i, st)) ?_)
        simp [bndE, hc]
    · simp? [↓notMem_con (show memB (TB C) st (.sym 7) (.con 0) = some true from rfl), ↓item_con (show itemO (TB C) (.con 0) (.sym 7) st = some (.int 1, st) from rfl)]
      refine (costs_of_ok C (by omega) ht n 1 number hs hn).mono ?_
      rintro q rfl
      cases hc : costsE tool n 1 number with
      | none =>
        rw [show costsD tool n 1 number = .non by unfold costsD; rw [hc]]
        simp? [noCon, isNone]
        refine exitC0 rfl hs rfl (congrArg (fun i : Int => (D.int i, st)) ?_)
        simp [bndE, hc]
      | some c =>
        obtain ⟨e, h, l, r⟩ := c
        rw [show costsD tool n 1 number = .tup [.int e, .int h, .int l, .int r] by unfold costsD; rw [hc]]
        simp? [noCon, isNone, sk1, sk2, sk3, sk4, sk5, s1, s2, mx]
        refine exitC0 rfl hs rfl (congrArg (fun i : Int => (D.int i, st)) ?_)
        simp [bndE, hc]
    · simp? [↓notMem_con (show memB (TB C) st (.sym 8) (.con 0) = some true from rfl), ↓item_con (show itemO (TB C) (.con 0) (.sym 8) st = some (.int 2, st) from rfl)]
      refine (costs_of_ok C (by omega) ht n 2 number hs hn).mono ?_
      rintro q rfl
      cases hc : costsE tool n 2 number with
      | none =>
        rw [show costsD tool n 2 number = .non by unfold costsD; rw [hc]]
        simp? [noCon, isNone]
        refine exitC0 rfl hs rfl (congrArg (fun i : Int => (D.int i, st)) ?_)
        simp [bndE, hc]
      | some c =>
        obtain ⟨e, h, l, r⟩ := c
        rw [show costsD tool n 2 number = .tup [.int e, .int h, .int l, .int r] by unfold costsD; rw [hc]]
        simp? [noCon, isNone, sk1, sk2, sk3, sk4, sk5, s1, s2, mx]
        refine exitC0 rfl hs rfl (congrArg (fun i : Int => (D.int i, st)) ?_)
        simp [bndE, hc]
theorem W_defC1 {call : Nat → CM} {j np : Nat} {x : D} {ds : List D} {st : Store} {Q : D × Store → Prop} : W (defC call j np [x] ds st) Q ↔ (ds ++ [x]).length = np ∧ W (call j (ds ++ [x]) st) Q := by
  unfold defC
  exact W_when
theorem asked_ok (C : List V) {k : Nat} (hk : 3 ≤ k) {name : Nat} (hname : name ∈ plainNames ++ noneNames ++ slotNames) (number n : Int) {tool : D} (ht : Tool tool) {st : Store} (hs : CL st) (hn : n.natAbs < 100000) : W (runP (pg C) k j__law_k82_asked [.sym name, .int number, .int n, tool] st) fun q => q = (.bl true, st) := by
  obtain ⟨k, rfl⟩ := Nat.exists_eq_add_of_le' (show 1 ≤ k by omega)
  refine r__law_k82_asked ?_
  unfold m__law_k82_asked
  simp? [true_and]
  refine (e_quiet_ok C (by omega) hname number n ht hs hn).mono ?_
  rintro q rfl
  have hnc : noCon tool = true := by cases ht <;> rfl
  have qb := quiet_bound_ok C (k := k) (by omega) hname number n ht hs hn
  have last : W (runP (pg C) k j_quiet_bound ([.sym name, .int number, .int n] ++ [tool]) st) fun p => W (runP (pg C) k j__law_same [p.1, .int (bndE name number n tool)] p.2) fun p => W (exitR false st.length p.1 p.2) fun q => q = (.bl true, st) := by
    refine qb.mono ?_
    rintro q rfl
    refine (same_int C (by omega) hs).mono ?_
    rintro q rfl
    exact exitC0 rfl hs rfl rfl
  simp? [↓W_defC1, hnc]
  cases ht with
  | non =>
    simp? [isNone]
    refine qb.mono ?_
    rintro q rfl
    refine (same_int C (by omega) hs).mono ?_
    rintro q rfl
    simp? [true_and]
    exact last
  | one w hw =>
    simp? [isNone]
    exact last
  | haz m =>
    simp? [isNone]
    exact last
/-! drawn askings -/
/-- an asking that is drawn -/
def Ask (d : D) : Prop := ∃ name number n tool, d = .tup [.sym name, .int number, .int n, tool] ∧ name ∈ plainNames ++ noneNames ++ slotNames ∧ n.natAbs < 1000 ∧ number.natAbs < 10000 ∧ Tool tool
theorem tool_clo {t : D} (h : Tool t) : clo 0 t = true := by cases h <;> rfl
theorem ask_clo {d : D} (h : Ask d) : clo 0 d = true := by
  obtain ⟨name, number, n, tool, rfl, _, _, _, ht⟩ := h
  show (true && (true && (true && (clo 0 tool && true)))) = true
  rw [tool_clo ht]; rfl
theorem e_named_ok (C : List V) {k : Nat} (hk : 4 ≤ k) {rest : Store} (hr : CL rest) : Dr C k j__law_e_named [.ref 0] rest Ask := by
  obtain ⟨k, rfl⟩ := Nat.exists_eq_add_of_le' (show 1 ≤ k by omega)
  intro o ho
  refine r__law_e_named ?_
  unfold m__law_e_named
  refine W_seqS.mpr ?_
  generalize hK : KS _ _ = K
  simp? [true_and]
  subst hK
  refine KS_nx.mpr (W_seqS.mpr ?_)
  generalize hK : KS _ _ = K
  simp? [true_and]
  subst hK
  refine KS_nx.mpr (W_seqS.mpr ?_)
  generalize hK : KS _ _ = K
  simp? [true_and]
  refine (pick_ok C (by omega) hr (by show 0 < 19; decide) (fun d hd => ?_) (by show 19 < 1073741824; decide)).W ho fun d o2 hd ho2 => ?_
  · simp only [List.mem_cons, List.not_mem_nil, or_false] at hd
    rcases hd with rfl | rfl | rfl | rfl | rfl | rfl | rfl | rfl | rfl | rfl | rfl | rfl | rfl | rfl | rfl | rfl | rfl | rfl | rfl <;> rfl
  refine (draw_ok' C (by omega) 4 hr (by decide)).W ho2 ?_
  rintro d2 o3 ⟨r1, rfl, h1, h2⟩ ho3
  simp? [true_and]
  subst hK
  refine KS_nx.mpr (W_seqS.mpr ?_)
  generalize hK : KS _ _ = K
  simp? [true_and]
  refine (draw_ok' C (by omega) 7 hr (by decide)).W ho3 ?_
  rintro d3 o4 ⟨r2, rfl, h3, h4⟩ ho4
  simp? [true_and]
  subst hK
  refine KS_nx.mpr ?_
  simp only [List.mem_cons, List.not_mem_nil, or_false] at hd
  have endA : ∀ {o : MObj} (_ : Tape o) (name : Nat) (_ : name ∈ plainNames ++ noneNames ++ slotNames) (number n : Int) (_ : n.natAbs < 1000) (_ : number.natAbs < 10000) (tool : D) (_ : Tool tool), W (exitR false (List.length rest + 1) (.tup [.sym name, .int number, .int n, tool]) (o :: rest)) (PQ Ask rest) := fun {o} ho name hname number n hn hnum tool ht =>
    have h : Ask (.tup [.sym name, .int number, .int n, tool]) := ⟨name, number, n, tool, rfl, hname, hn, hnum, ht⟩
    fin ho hr (ask_clo h) h
  have tl : ∀ {o : MObj} (_ : Tape o) (mu : Int) (_ : mu = 1 ∨ mu = 2) (x0 x1 x2 x3 x4 x5 x6 : Option D) (P : D × Store → Prop) (R0 : D × Store → Prop) (_ : ∀ t o', Tool t → Tape o' → P (t, o' :: rest)) (_ : ∀ b o', Tape o' → R0 (.bl b, o' :: rest)),
      W (runP (pg C) k j__law_draw [D.ref 0, D.int 4] (o :: rest)) fun p => W (cmpO (fun i j => decide (j < i)) p.fst (D.int 0) p.snd) fun p => BL p.fst fun b =>
        br b ((smallI (1 + r1) || smallI mu) = true ∧ (okR 1 && okR (if 9 - (1 + r1) * mu < 4 then 9 - (1 + r1) * mu else 4)) = true ∧
          W (lcL (fun x => true) (nameG 7) yesT (tupM (consA (cM (D.sym 12)) (consA (varM 7) nilA))) (wipeE [x0, x1, x2, x3, x4, x5, x6, none] [7]) (rngL 1 (if 9 - (1 + r1) * mu < 4 then 9 - (1 + r1) * mu else 4)) p.snd) fun q =>
            q.fst.length ≤ 16777216 ∧ 5 + q.fst.length ≤ 16777216 ∧
              W (runP (pg C) k j__law_pick [D.ref 0, D.lst (D.tup [D.sym 49] :: D.tup [D.sym 103] :: D.tup [D.sym 104] :: D.tup [D.sym 13] :: D.tup [D.sym 13] :: q.fst)] q.snd) P) (R0 p) := fun {o} ho mu hmu x0 x1 x2 x3 x4 x5 x6 P R0 hP hR => by
    refine (draw_ok' C (by omega) 4 hr (by decide)).W ho ?_
    rintro d o5 ⟨r5, rfl, h5, h6⟩ ho5
    simp? [true_and]
    refine br_i (fun _ => ?_) fun _ => hR _ _ ho5
    refine ⟨by rcases hmu with rfl | rfl <;> simp [sk1, sk2], ?_, ?_⟩
    · rw [okR_small (by decide), okR_small (by rcases hmu with rfl | rfl <;> split <;> omega)]; rfl
    · refine (lcL_each (T := fun s => s = o5 :: rest) (R := Tool) _ (fun d hd s hT => ?_) _ rfl).mono ?_
      · subst hT
        obtain ⟨i, rfl, _⟩ := rngL_mem hd
        simp? [wipeE, List.set_cons_succ, List.set_cons_zero]
        exact .haz i
      rintro ⟨ts, s⟩ ⟨hq1, hq2, rfl⟩
      dsimp only at hq1 hq2 ⊢
      rw [rngL_len] at hq1
      have hl : ts.length ≤ 10 := by
        rw [hq1]
        rcases hmu with rfl | rfl <;> split <;> omega
      have hall : ∀ d ∈ D.tup [D.sym 49] :: D.tup [D.sym 103] :: D.tup [D.sym 104] :: D.tup [D.sym 13] :: D.tup [D.sym 13] :: ts, Tool d := fun d hd => by
        simp only [List.mem_cons] at hd
        rcases hd with rfl | rfl | rfl | rfl | rfl | hd
        · exact .one _ (by decide)
        · exact .one _ (by decide)
        · exact .one _ (by decide)
        · exact .one _ (by decide)
        · exact .one _ (by decide)
        · exact hq2 d hd
      refine ⟨by omega, by omega, ?_⟩
      refine (pick_ok C (by omega) hr (by simp only [List.length_cons]; omega) (fun d hd => tool_clo (hall d hd)) (by simp only [List.length_cons]; omega)).W ho5 fun d o6 hd ho6 => hP d o6 (hall d hd) ho6
  rcases hd with rfl | rfl | rfl | rfl | rfl | rfl | rfl | rfl | rfl | rfl | rfl | rfl | rfl | rfl | rfl | rfl | rfl | rfl | rfl
  · (refine W_seqS.mpr ?_; generalize hK : KS _ _ = K; simp? [true_and])
    refine (draw_ok' C (by omega) 31 hr (by decide)).W ho4 ?_
    rintro d5 o5 ⟨r5, rfl, h5, h6⟩ ho5
    simp? [true_and]
    refine (pick_ok C (by omega) hr (by show 0 < 4; decide) (fun d hd => ?_) (by show 4 < 1073741824; decide)).W ho5 fun d6 o6 hd6 ho6 => ?_
    · simp only [List.mem_cons, List.not_mem_nil, or_false] at hd
      rcases hd with rfl | rfl | rfl | rfl <;> rfl
    obtain ⟨v, rfl, hv⟩ : ∃ v : Int, d6 = .int v ∧ v.natAbs < 10000 := by
      simp only [List.mem_cons, List.not_mem_nil, or_false] at hd6
      rcases hd6 with rfl | rfl | rfl | rfl <;> exact ⟨_, rfl, by omega⟩
    (simp? [true_and]; subst hK; refine KS_nx.mpr ?_)
    (refine W_seqS.mpr ?_; generalize hK : KS _ _ = K; simp? [true_and]; subst hK; refine KS_nx.mpr ?_)
    (refine W_seqS.mpr ?_; generalize hK : KS _ _ = K; simp? [true_and]; subst hK; refine KS_nx.mpr ?_)
    (refine W_seqS.mpr ?_; generalize hK : KS _ _ = K; simp? [true_and]; subst hK; refine KS_nx.mpr ?_)
    (refine W_seqS.mpr ?_; generalize hK : KS _ _ = K; simp? [true_and]; subst hK; refine KS_nx.mpr ?_)
    (refine W_seqS.mpr ?_; generalize hK : KS _ _ = K; simp? [true_and]; subst hK; refine KS_nx.mpr ?_)
    (refine W_seqS.mpr ?_; generalize hK : KS _ _ = K; simp? [true_and]; subst hK; refine KS_nx.mpr ?_)
    simp? [true_and]
    exact endA (by assumption) _ (by decide) _ _ (by omega) (by omega) _ .non
  · (refine W_seqS.mpr ?_; generalize hK : KS _ _ = K; simp? [true_and])
    refine (draw_ok' C (by omega) 31 hr (by decide)).W ho4 ?_
    rintro d5 o5 ⟨r5, rfl, h5, h6⟩ ho5
    simp? [true_and]
    refine (pick_ok C (by omega) hr (by show 0 < 4; decide) (fun d hd => ?_) (by show 4 < 1073741824; decide)).W ho5 fun d6 o6 hd6 ho6 => ?_
    · simp only [List.mem_cons, List.not_mem_nil, or_false] at hd
      rcases hd with rfl | rfl | rfl | rfl <;> rfl
    obtain ⟨v, rfl, hv⟩ : ∃ v : Int, d6 = .int v ∧ v.natAbs < 10000 := by
      simp only [List.mem_cons, List.not_mem_nil, or_false] at hd6
      rcases hd6 with rfl | rfl | rfl | rfl <;> exact ⟨_, rfl, by omega⟩
    (simp? [true_and]; subst hK; refine KS_nx.mpr ?_)
    (refine W_seqS.mpr ?_; generalize hK : KS _ _ = K; simp? [true_and]; subst hK; refine KS_nx.mpr ?_)
    (refine W_seqS.mpr ?_; generalize hK : KS _ _ = K; simp? [true_and]; subst hK; refine KS_nx.mpr ?_)
    (refine W_seqS.mpr ?_; generalize hK : KS _ _ = K; simp? [true_and]; subst hK; refine KS_nx.mpr ?_)
    (refine W_seqS.mpr ?_; generalize hK : KS _ _ = K; simp? [true_and]; subst hK; refine KS_nx.mpr ?_)
    (refine W_seqS.mpr ?_; generalize hK : KS _ _ = K; simp? [true_and]; subst hK; refine KS_nx.mpr ?_)
    (refine W_seqS.mpr ?_; generalize hK : KS _ _ = K; simp? [true_and]; subst hK; refine KS_nx.mpr ?_)
    simp? [true_and]
    exact endA (by assumption) _ (by decide) _ _ (by omega) (by omega) _ .non
  · (refine W_seqS.mpr ?_; generalize hK : KS _ _ = K; simp? [true_and]; subst hK; refine KS_nx.mpr ?_)
    (refine W_seqS.mpr ?_; generalize hK : KS _ _ = K; simp? [true_and])
    refine (draw_ok' C (by omega) 4 hr (by decide)).W ho4 ?_
    rintro d5 o5 ⟨r5, rfl, h5, h6⟩ ho5
    (simp? [true_and]; subst hK; refine KS_nx.mpr ?_)
    (refine W_seqS.mpr ?_; generalize hK : KS _ _ = K; simp? [true_and]; subst hK; refine KS_nx.mpr ?_)
    (refine W_seqS.mpr ?_; generalize hK : KS _ _ = K; simp? [true_and]; subst hK; refine KS_nx.mpr ?_)
    (refine W_seqS.mpr ?_; generalize hK : KS _ _ = K; simp? [true_and]; subst hK; refine KS_nx.mpr ?_)
    (refine W_seqS.mpr ?_; generalize hK : KS _ _ = K; simp? [true_and]; subst hK; refine KS_nx.mpr ?_)
    (refine W_seqS.mpr ?_; generalize hK : KS _ _ = K; simp? [true_and]; subst hK; refine KS_nx.mpr ?_)
    simp? [true_and]
    exact endA (by assumption) _ (by decide) _ _ (by omega) (by omega) _ .non
  · (refine W_seqS.mpr ?_; generalize hK : KS _ _ = K; simp? [true_and]; subst hK; refine KS_nx.mpr ?_)
    (refine W_seqS.mpr ?_; generalize hK : KS _ _ = K; simp? [true_and]; subst hK; refine KS_nx.mpr ?_)
    (refine W_seqS.mpr ?_; generalize hK : KS _ _ = K; simp? [true_and]; subst hK; refine KS_nx.mpr ?_)
    (refine W_seqS.mpr ?_; generalize hK : KS _ _ = K; simp? [true_and])
    refine (value_ok C (by omega) hr).W ho4 ?_
    rintro d5 o5 ⟨r5, rfl, h5, h6⟩ ho5
    (simp? [true_and]; subst hK; refine KS_nx.mpr ?_)
    (refine W_seqS.mpr ?_; generalize hK : KS _ _ = K; simp? [true_and]; subst hK; refine KS_nx.mpr ?_)
    (refine W_seqS.mpr ?_; generalize hK : KS _ _ = K; simp? [true_and]; subst hK; refine KS_nx.mpr ?_)
    (refine W_seqS.mpr ?_; generalize hK : KS _ _ = K; simp? [true_and]; subst hK; refine KS_nx.mpr ?_)
    simp? [true_and]
    exact endA (by assumption) _ (by decide) _ _ (by omega) (by omega) _ .non
  · (refine W_seqS.mpr ?_; generalize hK : KS _ _ = K; simp? [true_and]; subst hK; refine KS_nx.mpr ?_)
    (refine W_seqS.mpr ?_; generalize hK : KS _ _ = K; simp? [true_and])
    refine (draw_ok' C (by omega) 3 hr (by decide)).W ho4 ?_
    rintro d5 o5 ⟨r5, rfl, h5, h6⟩ ho5
    (simp? [true_and]; subst hK; refine KS_nx.mpr ?_)
    (refine W_seqS.mpr ?_; generalize hK : KS _ _ = K; simp? [true_and]; subst hK; refine KS_nx.mpr ?_)
    (refine W_seqS.mpr ?_; generalize hK : KS _ _ = K; simp? [true_and]; subst hK; refine KS_nx.mpr ?_)
    (refine W_seqS.mpr ?_; generalize hK : KS _ _ = K; simp? [true_and]; subst hK; refine KS_nx.mpr ?_)
    (refine W_seqS.mpr ?_; generalize hK : KS _ _ = K; simp? [true_and]; subst hK; refine KS_nx.mpr ?_)
    (refine W_seqS.mpr ?_; generalize hK : KS _ _ = K; simp? [true_and]; subst hK; refine KS_nx.mpr ?_)
    simp? [true_and]
    exact endA (by assumption) _ (by decide) _ _ (by omega) (by omega) _ .non
  · (refine W_seqS.mpr ?_; generalize hK : KS _ _ = K; simp? [true_and]; subst hK; refine KS_nx.mpr ?_)
    (refine W_seqS.mpr ?_; generalize hK : KS _ _ = K; simp? [true_and]; subst hK; refine KS_nx.mpr ?_)
    (refine W_seqS.mpr ?_; generalize hK : KS _ _ = K; simp? [true_and]; subst hK; refine KS_nx.mpr ?_)
    (refine W_seqS.mpr ?_; generalize hK : KS _ _ = K; simp? [true_and]; subst hK; refine KS_nx.mpr ?_)
    (refine W_seqS.mpr ?_; generalize hK : KS _ _ = K; simp? [true_and]; subst hK; refine KS_nx.mpr ?_)
    (refine W_seqS.mpr ?_; generalize hK : KS _ _ = K; simp? [true_and]; subst hK; refine KS_nx.mpr ?_)
    (refine W_seqS.mpr ?_; generalize hK : KS _ _ = K; simp? [true_and]; subst hK; refine KS_nx.mpr ?_)
    simp? [true_and]
    exact endA (by assumption) _ (by decide) _ _ (by omega) (by omega) _ .non
  · (refine W_seqS.mpr ?_; generalize hK : KS _ _ = K; simp? [true_and]; subst hK; refine KS_nx.mpr ?_)
    (refine W_seqS.mpr ?_; generalize hK : KS _ _ = K; simp? [true_and]; subst hK; refine KS_nx.mpr ?_)
    (refine W_seqS.mpr ?_; generalize hK : KS _ _ = K; simp? [true_and]; subst hK; refine KS_nx.mpr ?_)
    (refine W_seqS.mpr ?_; generalize hK : KS _ _ = K; simp? [true_and]; subst hK; refine KS_nx.mpr ?_)
    (refine W_seqS.mpr ?_; generalize hK : KS _ _ = K; simp? [true_and]; subst hK; refine KS_nx.mpr ?_)
    (refine W_seqS.mpr ?_; generalize hK : KS _ _ = K; simp? [true_and]; subst hK; refine KS_nx.mpr ?_)
    (refine W_seqS.mpr ?_; generalize hK : KS _ _ = K; simp? [true_and]; subst hK; refine KS_nx.mpr ?_)
    simp? [true_and]
    exact endA (by assumption) _ (by decide) _ _ (by omega) (by omega) _ .non
  · (refine W_seqS.mpr ?_; generalize hK : KS _ _ = K; simp? [true_and]; subst hK; refine KS_nx.mpr ?_)
    (refine W_seqS.mpr ?_; generalize hK : KS _ _ = K; simp? [true_and]; subst hK; refine KS_nx.mpr ?_)
    (refine W_seqS.mpr ?_; generalize hK : KS _ _ = K; simp? [true_and]; subst hK; refine KS_nx.mpr ?_)
    (refine W_seqS.mpr ?_; generalize hK : KS _ _ = K; simp? [true_and]; subst hK; refine KS_nx.mpr ?_)
    (refine W_seqS.mpr ?_; generalize hK : KS _ _ = K; simp? [true_and]; subst hK; refine KS_nx.mpr ?_)
    (refine W_seqS.mpr ?_; generalize hK : KS _ _ = K; simp? [true_and]; subst hK; refine KS_nx.mpr ?_)
    (refine W_seqS.mpr ?_; generalize hK : KS _ _ = K; simp? [true_and]; subst hK; refine KS_nx.mpr ?_)
    simp? [true_and]
    exact endA (by assumption) _ (by decide) _ _ (by omega) (by omega) _ .non
  · (refine W_seqS.mpr ?_; generalize hK : KS _ _ = K; simp? [true_and]; subst hK; refine KS_nx.mpr ?_)
    (refine W_seqS.mpr ?_; generalize hK : KS _ _ = K; simp? [true_and]; subst hK; refine KS_nx.mpr ?_)
    (refine W_seqS.mpr ?_; generalize hK : KS _ _ = K; simp? [true_and])
    refine (pick_ok C (by omega) hr (by show 0 < 4; decide) (fun d hd => ?_) (by show 4 < 1073741824; decide)).W ho4 fun d6 o6 hd6 ho6 => ?_
    · simp only [List.mem_cons, List.not_mem_nil, or_false] at hd
      rcases hd with rfl | rfl | rfl | rfl <;> rfl
    obtain ⟨v, rfl, hv⟩ : ∃ v : Int, d6 = .int v ∧ v.natAbs < 10000 := by
      simp only [List.mem_cons, List.not_mem_nil, or_false] at hd6
      rcases hd6 with rfl | rfl | rfl | rfl <;> exact ⟨_, rfl, by omega⟩
    (simp? [true_and]; subst hK; refine KS_nx.mpr ?_)
    (refine W_seqS.mpr ?_; generalize hK : KS _ _ = K; simp? [true_and]; subst hK; refine KS_nx.mpr ?_)
    (refine W_seqS.mpr ?_; generalize hK : KS _ _ = K; simp? [true_and]; subst hK; refine KS_nx.mpr ?_)
    (refine W_seqS.mpr ?_; generalize hK : KS _ _ = K; simp? [true_and]; subst hK; refine KS_nx.mpr ?_)
    (refine W_seqS.mpr ?_; generalize hK : KS _ _ = K; simp? [true_and]; subst hK; refine KS_nx.mpr ?_)
    simp? [true_and]
    exact endA (by assumption) _ (by decide) _ _ (by omega) (by omega) _ .non
  · (refine W_seqS.mpr ?_; generalize hK : KS _ _ = K; simp? [true_and]; subst hK; refine KS_nx.mpr ?_)
    (refine W_seqS.mpr ?_; generalize hK : KS _ _ = K; simp? [true_and]; subst hK; refine KS_nx.mpr ?_)
    (refine W_seqS.mpr ?_; generalize hK : KS _ _ = K; simp? [true_and])
    refine (pick_ok C (by omega) hr (by show 0 < 4; decide) (fun d hd => ?_) (by show 4 < 1073741824; decide)).W ho4 fun d6 o6 hd6 ho6 => ?_
    · simp only [List.mem_cons, List.not_mem_nil, or_false] at hd
      rcases hd with rfl | rfl | rfl | rfl <;> rfl
    obtain ⟨v, rfl, hv⟩ : ∃ v : Int, d6 = .int v ∧ v.natAbs < 10000 := by
      simp only [List.mem_cons, List.not_mem_nil, or_false] at hd6
      rcases hd6 with rfl | rfl | rfl | rfl <;> exact ⟨_, rfl, by omega⟩
    (simp? [true_and]; subst hK; refine KS_nx.mpr ?_)
    (refine W_seqS.mpr ?_; generalize hK : KS _ _ = K; simp? [true_and]; subst hK; refine KS_nx.mpr ?_)
    (refine W_seqS.mpr ?_; generalize hK : KS _ _ = K; simp? [true_and]; subst hK; refine KS_nx.mpr ?_)
    (refine W_seqS.mpr ?_; generalize hK : KS _ _ = K; simp? [true_and]; subst hK; refine KS_nx.mpr ?_)
    (refine W_seqS.mpr ?_; generalize hK : KS _ _ = K; simp? [true_and]; subst hK; refine KS_nx.mpr ?_)
    simp? [true_and]
    exact endA (by assumption) _ (by decide) _ _ (by omega) (by omega) _ .non
  · (refine W_seqS.mpr ?_; generalize hK : KS _ _ = K; simp? [true_and]; subst hK; refine KS_nx.mpr ?_)
    (refine W_seqS.mpr ?_; generalize hK : KS _ _ = K; simp? [true_and]; subst hK; refine KS_nx.mpr ?_)
    (refine W_seqS.mpr ?_; generalize hK : KS _ _ = K; simp? [true_and]; subst hK; refine KS_nx.mpr ?_)
    (refine W_seqS.mpr ?_; generalize hK : KS _ _ = K; simp? [true_and]; subst hK; refine KS_nx.mpr ?_)
    (refine W_seqS.mpr ?_; generalize hK : KS _ _ = K; simp? [true_and]; subst hK; refine KS_nx.mpr ?_)
    (refine W_seqS.mpr ?_; generalize hK : KS _ _ = K; simp? [true_and]; subst hK; refine KS_nx.mpr ?_)
    (refine W_seqS.mpr ?_; generalize hK : KS _ _ = K; simp? [true_and]; subst hK; refine KS_nx.mpr ?_)
    simp? [true_and]
    exact endA (by assumption) _ (by decide) _ _ (by omega) (by omega) _ .non
  · (refine W_seqS.mpr ?_; generalize hK : KS _ _ = K; simp? [true_and]; subst hK; refine KS_nx.mpr ?_)
    (refine W_seqS.mpr ?_; generalize hK : KS _ _ = K; simp? [true_and]; subst hK; refine KS_nx.mpr ?_)
    (refine W_seqS.mpr ?_; generalize hK : KS _ _ = K; simp? [true_and]; subst hK; refine KS_nx.mpr ?_)
    (refine W_seqS.mpr ?_; generalize hK : KS _ _ = K; simp? [true_and]; subst hK; refine KS_nx.mpr ?_)
    (refine W_seqS.mpr ?_; generalize hK : KS _ _ = K; simp? [true_and]; subst hK; refine KS_nx.mpr ?_)
    (refine W_seqS.mpr ?_; generalize hK : KS _ _ = K; simp? [true_and]; subst hK; refine KS_nx.mpr ?_)
    (refine W_seqS.mpr ?_; generalize hK : KS _ _ = K; simp? [true_and])
    refine tl (by assumption) 2 (by decide) _ _ _ _ _ _ _ _ _ (fun t o' ht ho' => ?_) fun b o' ho' => ?_
    · subst hK
      refine KS_nx.mpr ?_
      simp? [true_and]
      exact endA ho' _ (by decide) _ _ (by omega) (by omega) _ ht
    · subst hK
      refine KS_nx.mpr ?_
      simp? [true_and]
      exact endA ho' _ (by decide) _ _ (by omega) (by omega) _ .non
  · (refine W_seqS.mpr ?_; generalize hK : KS _ _ = K; simp? [true_and]; subst hK; refine KS_nx.mpr ?_)
    (refine W_seqS.mpr ?_; generalize hK : KS _ _ = K; simp? [true_and]; subst hK; refine KS_nx.mpr ?_)
    (refine W_seqS.mpr ?_; generalize hK : KS _ _ = K; simp? [true_and]; subst hK; refine KS_nx.mpr ?_)
    (refine W_seqS.mpr ?_; generalize hK : KS _ _ = K; simp? [true_and]; subst hK; refine KS_nx.mpr ?_)
    (refine W_seqS.mpr ?_; generalize hK : KS _ _ = K; simp? [true_and]; subst hK; refine KS_nx.mpr ?_)
    (refine W_seqS.mpr ?_; generalize hK : KS _ _ = K; simp? [true_and]; subst hK; refine KS_nx.mpr ?_)
    (refine W_seqS.mpr ?_; generalize hK : KS _ _ = K; simp? [true_and])
    refine tl (by assumption) 1 (by decide) _ _ _ _ _ _ _ _ _ (fun t o' ht ho' => ?_) fun b o' ho' => ?_
    · subst hK
      refine KS_nx.mpr ?_
      simp? [true_and]
      exact endA ho' _ (by decide) _ _ (by omega) (by omega) _ ht
    · subst hK
      refine KS_nx.mpr ?_
      simp? [true_and]
      exact endA ho' _ (by decide) _ _ (by omega) (by omega) _ .non
  · (refine W_seqS.mpr ?_; generalize hK : KS _ _ = K; simp? [true_and]; subst hK; refine KS_nx.mpr ?_)
    (refine W_seqS.mpr ?_; generalize hK : KS _ _ = K; simp? [true_and]; subst hK; refine KS_nx.mpr ?_)
    (refine W_seqS.mpr ?_; generalize hK : KS _ _ = K; simp? [true_and]; subst hK; refine KS_nx.mpr ?_)
    (refine W_seqS.mpr ?_; generalize hK : KS _ _ = K; simp? [true_and]; subst hK; refine KS_nx.mpr ?_)
    (refine W_seqS.mpr ?_; generalize hK : KS _ _ = K; simp? [true_and]; subst hK; refine KS_nx.mpr ?_)
    (refine W_seqS.mpr ?_; generalize hK : KS _ _ = K; simp? [true_and])
    refine (draw_ok' C (by omega) 8 hr (by decide)).W ho4 ?_
    rintro d5 o5 ⟨r5, rfl, h5, h6⟩ ho5
    (simp? [true_and]; subst hK; refine KS_nx.mpr ?_)
    (refine W_seqS.mpr ?_; generalize hK : KS _ _ = K; simp? [true_and])
    refine tl (by assumption) 1 (by decide) _ _ _ _ _ _ _ _ _ (fun t o' ht ho' => ?_) fun b o' ho' => ?_
    · subst hK
      refine KS_nx.mpr ?_
      simp? [true_and]
      exact endA ho' _ (by decide) _ _ (by omega) (by omega) _ ht
    · subst hK
      refine KS_nx.mpr ?_
      simp? [true_and]
      exact endA ho' _ (by decide) _ _ (by omega) (by omega) _ .non
  · (refine W_seqS.mpr ?_; generalize hK : KS _ _ = K; simp? [true_and]; subst hK; refine KS_nx.mpr ?_)
    (refine W_seqS.mpr ?_; generalize hK : KS _ _ = K; simp? [true_and]; subst hK; refine KS_nx.mpr ?_)
    (refine W_seqS.mpr ?_; generalize hK : KS _ _ = K; simp? [true_and]; subst hK; refine KS_nx.mpr ?_)
    (refine W_seqS.mpr ?_; generalize hK : KS _ _ = K; simp? [true_and]; subst hK; refine KS_nx.mpr ?_)
    (refine W_seqS.mpr ?_; generalize hK : KS _ _ = K; simp? [true_and]; subst hK; refine KS_nx.mpr ?_)
    (refine W_seqS.mpr ?_; generalize hK : KS _ _ = K; simp? [true_and]; subst hK; refine KS_nx.mpr ?_)
    (refine W_seqS.mpr ?_; generalize hK : KS _ _ = K; simp? [true_and])
    refine tl (by assumption) 2 (by decide) _ _ _ _ _ _ _ _ _ (fun t o' ht ho' => ?_) fun b o' ho' => ?_
    · subst hK
      refine KS_nx.mpr ?_
      simp? [true_and]
      exact endA ho' _ (by decide) _ _ (by omega) (by omega) _ ht
    · subst hK
      refine KS_nx.mpr ?_
      simp? [true_and]
      exact endA ho' _ (by decide) _ _ (by omega) (by omega) _ .non
  · (refine W_seqS.mpr ?_; generalize hK : KS _ _ = K; simp? [true_and]; subst hK; refine KS_nx.mpr ?_)
    (refine W_seqS.mpr ?_; generalize hK : KS _ _ = K; simp? [true_and]; subst hK; refine KS_nx.mpr ?_)
    (refine W_seqS.mpr ?_; generalize hK : KS _ _ = K; simp? [true_and]; subst hK; refine KS_nx.mpr ?_)
    (refine W_seqS.mpr ?_; generalize hK : KS _ _ = K; simp? [true_and]; subst hK; refine KS_nx.mpr ?_)
    (refine W_seqS.mpr ?_; generalize hK : KS _ _ = K; simp? [true_and]; subst hK; refine KS_nx.mpr ?_)
    (refine W_seqS.mpr ?_; generalize hK : KS _ _ = K; simp? [true_and]; subst hK; refine KS_nx.mpr ?_)
    (refine W_seqS.mpr ?_; generalize hK : KS _ _ = K; simp? [true_and])
    refine tl (by assumption) 1 (by decide) _ _ _ _ _ _ _ _ _ (fun t o' ht ho' => ?_) fun b o' ho' => ?_
    · subst hK
      refine KS_nx.mpr ?_
      simp? [true_and]
      exact endA ho' _ (by decide) _ _ (by omega) (by omega) _ ht
    · subst hK
      refine KS_nx.mpr ?_
      simp? [true_and]
      exact endA ho' _ (by decide) _ _ (by omega) (by omega) _ .non
  · (refine W_seqS.mpr ?_; generalize hK : KS _ _ = K; simp? [true_and]; subst hK; refine KS_nx.mpr ?_)
    (refine W_seqS.mpr ?_; generalize hK : KS _ _ = K; simp? [true_and]; subst hK; refine KS_nx.mpr ?_)
    (refine W_seqS.mpr ?_; generalize hK : KS _ _ = K; simp? [true_and]; subst hK; refine KS_nx.mpr ?_)
    (refine W_seqS.mpr ?_; generalize hK : KS _ _ = K; simp? [true_and]; subst hK; refine KS_nx.mpr ?_)
    (refine W_seqS.mpr ?_; generalize hK : KS _ _ = K; simp? [true_and]; subst hK; refine KS_nx.mpr ?_)
    (refine W_seqS.mpr ?_; generalize hK : KS _ _ = K; simp? [true_and])
    refine (draw_ok' C (by omega) 8 hr (by decide)).W ho4 ?_
    rintro d5 o5 ⟨r5, rfl, h5, h6⟩ ho5
    (simp? [true_and]; subst hK; refine KS_nx.mpr ?_)
    (refine W_seqS.mpr ?_; generalize hK : KS _ _ = K; simp? [true_and])
    refine tl (by assumption) 1 (by decide) _ _ _ _ _ _ _ _ _ (fun t o' ht ho' => ?_) fun b o' ho' => ?_
    · subst hK
      refine KS_nx.mpr ?_
      simp? [true_and]
      exact endA ho' _ (by decide) _ _ (by omega) (by omega) _ ht
    · subst hK
      refine KS_nx.mpr ?_
      simp? [true_and]
      exact endA ho' _ (by decide) _ _ (by omega) (by omega) _ .non
  · (refine W_seqS.mpr ?_; generalize hK : KS _ _ = K; simp? [true_and]; subst hK; refine KS_nx.mpr ?_)
    (refine W_seqS.mpr ?_; generalize hK : KS _ _ = K; simp? [true_and]; subst hK; refine KS_nx.mpr ?_)
    (refine W_seqS.mpr ?_; generalize hK : KS _ _ = K; simp? [true_and]; subst hK; refine KS_nx.mpr ?_)
    (refine W_seqS.mpr ?_; generalize hK : KS _ _ = K; simp? [true_and]; subst hK; refine KS_nx.mpr ?_)
    (refine W_seqS.mpr ?_; generalize hK : KS _ _ = K; simp? [true_and]; subst hK; refine KS_nx.mpr ?_)
    (refine W_seqS.mpr ?_; generalize hK : KS _ _ = K; simp? [true_and]; subst hK; refine KS_nx.mpr ?_)
    (refine W_seqS.mpr ?_; generalize hK : KS _ _ = K; simp? [true_and])
    refine tl (by assumption) 2 (by decide) _ _ _ _ _ _ _ _ _ (fun t o' ht ho' => ?_) fun b o' ho' => ?_
    · subst hK
      refine KS_nx.mpr ?_
      simp? [true_and]
      exact endA ho' _ (by decide) _ _ (by omega) (by omega) _ ht
    · subst hK
      refine KS_nx.mpr ?_
      simp? [true_and]
      exact endA ho' _ (by decide) _ _ (by omega) (by omega) _ .non
  · (refine W_seqS.mpr ?_; generalize hK : KS _ _ = K; simp? [true_and]; subst hK; refine KS_nx.mpr ?_)
    (refine W_seqS.mpr ?_; generalize hK : KS _ _ = K; simp? [true_and]; subst hK; refine KS_nx.mpr ?_)
    (refine W_seqS.mpr ?_; generalize hK : KS _ _ = K; simp? [true_and]; subst hK; refine KS_nx.mpr ?_)
    (refine W_seqS.mpr ?_; generalize hK : KS _ _ = K; simp? [true_and]; subst hK; refine KS_nx.mpr ?_)
    (refine W_seqS.mpr ?_; generalize hK : KS _ _ = K; simp? [true_and]; subst hK; refine KS_nx.mpr ?_)
    (refine W_seqS.mpr ?_; generalize hK : KS _ _ = K; simp? [true_and]; subst hK; refine KS_nx.mpr ?_)
    (refine W_seqS.mpr ?_; generalize hK : KS _ _ = K; simp? [true_and])
    refine tl (by assumption) 2 (by decide) _ _ _ _ _ _ _ _ _ (fun t o' ht ho' => ?_) fun b o' ho' => ?_
    · subst hK
      refine KS_nx.mpr ?_
      simp? [true_and]
      exact endA ho' _ (by decide) _ _ (by omega) (by omega) _ ht
    · subst hK
      refine KS_nx.mpr ?_
      simp? [true_and]
      exact endA ho' _ (by decide) _ _ (by omega) (by omega) _ .non
end H82
set_option Elab.async false
set_option linter.all false
set_option maxRecDepth 100000
set_option maxHeartbeats 4000000
set_option autoImplicit false
namespace H82
open PySem PySem.Spec PyProof.Rows L2 Mn
local macro_rules
  | `(tactic| simp? only [$ls,*]) => `(tactic| simp only [$ls,*, ↓br_t, ↓br_f, ↓KS_nx, ↓KS_ret, ↓KS_brk, ↓KS_cnt, ↓LQ_nx, ↓LQ_cnt, ↓LQ_brk, ↓LQ_ret, ↓EX_nx, ↓EX_ret, ↓SETE_0, ↓SETE_s, ↓BL_b, ↓INT_i, ↓KEY_s, ↓NL_0, ↓NL_s, ↓W_lstAt0, ↓W_lstAts, ↓W_at0, ↓W_ats, ↓PAR2_c, ↓PAR3_c, ↓RNG_i, ↓SEQ_l, ↓SEQ_f, ↓SEQ_t, ↓SEQ_r, ↓W_some, ↓W_atI0, ↓W_atI1, ↓W_atI2, ↓W_atI3, ↓W_atI4, ↓W_atI5, ↓W_atI6, ↓W_atI7, ↓W_atI8, ↓W_atI9, ↓W_atI10, ↓W_atI11, ↓W_atI12, ↓W_seqS, ↓W_asgS, ↓W_exprS, ↓W_retS, ↓W_retN, ↓W_brkS, ↓W_cntS, ↓W_nextS, ↓W_ifS, ↓W_forS, ↓W_par2, ↓W_par3, ↓W_nameG, ↓W_tupG, ↓W_consG, ↓W_nilG, ↓W_subG, ↓W_setO0, ↓W_setOs, ↓SETL_0, ↓SETL_s, ↓IXN_0, ↓IXN_1, ↓IXN_2, ↓IXN_3, ↓IXN_nat, ↓W_var0, ↓W_vars, ↓W_cM, ↓W_binM, ↓W_unM, ↓W_negM, ↓W_nilA, ↓W_consA, ↓W_callM, ↓W_tupM, ↓W_lstM, ↓W_lstMt, ↓W_slcM, ↓W_part0, ↓W_parts, ↓W_slOt, ↓W_slOl, ↓W_slOr, ↓W_ifM, ↓W_truM, ↓W_bolM, ↓W_andT, ↓W_orT, ↓W_notT, ↓W_andE, ↓W_orE, ↓W_notE, ↓W_mthL, ↓W_lstFr, ↓W_dctM, ↓W_dctMt, ↓W_nilK, ↓W_consK, ↓W_kwM, ↓W_maxdM, ↓W_sort2M, ↓W_listRgM, ↓W_listRgMt, ↓W_lcM, ↓W_rng1I, ↓W_seqI, ↓W_addI, ↓W_addT, ↓W_addL, ↓W_addLt, ↓W_subI, ↓W_mulI, ↓W_mulL, ↓W_fdiv, ↓W_mod, ↓W_pow, ↓W_cmp, ↓W_is, ↓W_isNot, ↓W_eqi, ↓W_eqis, ↓W_eqb, ↓W_nei, ↓W_neis, ↓W_neb, ↓W_itT, ↓W_itL, ↓W_itF, ↓W_itD, ↓W_one, ↓W_lenL, ↓W_lenT, ↓W_lenF, ↓W_intI, ↓W_intB, ↓W_absI, ↓W_max2, ↓W_min2, ↓W_tupCl, ↓W_tupCr, ↓W_tupCt, ↓W_lstCf, ↓W_lstCl, ↓W_truL, ↓W_truT, ↓W_truB, ↓W_yesT, ↓W_itR0, ↓W_itRs, ↓H82.W_defC, ↓W_dget_hit, ↓W_dget_miss, ↓W_eqs_t, ↓W_eqs_f, ↓W_nes_t, ↓W_nes_f, ↓W_isiST, ↓W_isiIT, ↓W_isiTT, ↓W_isiIS, ↓W_isiIB, ↓W_isiII, ↓W_memT', ↓W_listRg2M, ↓W_rng2I, ↓RNG2_i, ↓W_lstAt_end, ↓W_apps, ↓W_app_end, ↓W_memLd, ↓W_notMemLd, ↓MEMD_nil, ↓MEMD_hit, ↓MEMD_miss, List.length_cons, List.length_nil, List.length_map, Nat.reduceAdd, Nat.reduceLT, Nat.reduceLeDiff, Nat.zero_add, List.append_nil, List.nil_append, List.cons_append, Nat.reduceBEq, Int.reduceBEq, Nat.reduceEqDiff, beq_self_eq_true, true_and, and_true, Bool.not_true, Bool.not_false, Bool.or_true, Bool.true_or, H82.sm1, H82.sm2, H82.sm3, H82.p18, ne_eq, not_false_eq_true, Int.reduceEq, reduceCtorEq, List.isEmpty_nil, List.isEmpty_cons, List.all_cons, List.all_nil, isSym_s, List.any_cons, List.any_nil, eqv_sym, Bool.or_false, Bool.false_or, Bool.and_self, Int.reduceLT, Int.reduceAdd, Int.reduceSub, decide_true, decide_false])
local macro_rules
  | `(tactic| simp? [$ls,*]) => `(tactic| simp only [$ls,*, ↓br_t, ↓br_f, ↓KS_nx, ↓KS_ret, ↓KS_brk, ↓KS_cnt, ↓LQ_nx, ↓LQ_cnt, ↓LQ_brk, ↓LQ_ret, ↓EX_nx, ↓EX_ret, ↓SETE_0, ↓SETE_s, ↓BL_b, ↓INT_i, ↓KEY_s, ↓NL_0, ↓NL_s, ↓W_lstAt0, ↓W_lstAts, ↓W_at0, ↓W_ats, ↓PAR2_c, ↓PAR3_c, ↓RNG_i, ↓SEQ_l, ↓SEQ_f, ↓SEQ_t, ↓SEQ_r, ↓W_some, ↓W_atI0, ↓W_atI1, ↓W_atI2, ↓W_atI3, ↓W_atI4, ↓W_atI5, ↓W_atI6, ↓W_atI7, ↓W_atI8, ↓W_atI9, ↓W_atI10, ↓W_atI11, ↓W_atI12, ↓W_seqS, ↓W_asgS, ↓W_exprS, ↓W_retS, ↓W_retN, ↓W_brkS, ↓W_cntS, ↓W_nextS, ↓W_ifS, ↓W_forS, ↓W_par2, ↓W_par3, ↓W_nameG, ↓W_tupG, ↓W_consG, ↓W_nilG, ↓W_subG, ↓W_setO0, ↓W_setOs, ↓SETL_0, ↓SETL_s, ↓IXN_0, ↓IXN_1, ↓IXN_2, ↓IXN_3, ↓IXN_nat, ↓W_var0, ↓W_vars, ↓W_cM, ↓W_binM, ↓W_unM, ↓W_negM, ↓W_nilA, ↓W_consA, ↓W_callM, ↓W_tupM, ↓W_lstM, ↓W_lstMt, ↓W_slcM, ↓W_part0, ↓W_parts, ↓W_slOt, ↓W_slOl, ↓W_slOr, ↓W_ifM, ↓W_truM, ↓W_bolM, ↓W_andT, ↓W_orT, ↓W_notT, ↓W_andE, ↓W_orE, ↓W_notE, ↓W_mthL, ↓W_lstFr, ↓W_dctM, ↓W_dctMt, ↓W_nilK, ↓W_consK, ↓W_kwM, ↓W_maxdM, ↓W_sort2M, ↓W_listRgM, ↓W_listRgMt, ↓W_lcM, ↓W_rng1I, ↓W_seqI, ↓W_addI, ↓W_addT, ↓W_addL, ↓W_addLt, ↓W_subI, ↓W_mulI, ↓W_mulL, ↓W_fdiv, ↓W_mod, ↓W_pow, ↓W_cmp, ↓W_is, ↓W_isNot, ↓W_eqi, ↓W_eqis, ↓W_eqb, ↓W_nei, ↓W_neis, ↓W_neb, ↓W_itT, ↓W_itL, ↓W_itF, ↓W_itD, ↓W_one, ↓W_lenL, ↓W_lenT, ↓W_lenF, ↓W_intI, ↓W_intB, ↓W_absI, ↓W_max2, ↓W_min2, ↓W_tupCl, ↓W_tupCr, ↓W_tupCt, ↓W_lstCf, ↓W_lstCl, ↓W_truL, ↓W_truT, ↓W_truB, ↓W_yesT, ↓W_itR0, ↓W_itRs, ↓H82.W_defC, ↓W_dget_hit, ↓W_dget_miss, ↓W_eqs_t, ↓W_eqs_f, ↓W_nes_t, ↓W_nes_f, ↓W_isiST, ↓W_isiIT, ↓W_isiTT, ↓W_isiIS, ↓W_isiIB, ↓W_isiII, ↓W_memT', ↓W_listRg2M, ↓W_rng2I, ↓RNG2_i, ↓W_lstAt_end, ↓W_apps, ↓W_app_end, ↓W_memLd, ↓W_notMemLd, ↓MEMD_nil, ↓MEMD_hit, ↓MEMD_miss, List.length_cons, List.length_nil, List.length_map, Nat.reduceAdd, Nat.reduceLT, Nat.reduceLeDiff, Nat.zero_add, List.append_nil, List.nil_append, List.cons_append, Nat.reduceBEq, Int.reduceBEq, Nat.reduceEqDiff, beq_self_eq_true, true_and, and_true, Bool.not_true, Bool.not_false, Bool.or_true, Bool.true_or, H82.sm1, H82.sm2, H82.sm3, H82.p18, ne_eq, not_false_eq_true, Int.reduceEq, reduceCtorEq, List.isEmpty_nil, List.isEmpty_cons, List.all_cons, List.all_nil, isSym_s, List.any_cons, List.any_nil, eqv_sym, Bool.or_false, Bool.false_or, Bool.and_self, Int.reduceLT, Int.reduceAdd, Int.reduceSub, decide_true, decide_false, ↓sc_names, ↓sc_shared, ↓sc_privates, ↓sc_fields, ↓sc_slots, ↓sc_program, ↓sc_calls, sNm_e, sSh_e, sNm_l, sSh_l, bigN])
theorem tool_noCon {t : D} (h : Tool t) : noCon t = true := by cases h <;> rfl
theorem k82_bounds_ok (C : List V) {k : Nat} (hk : 10 ≤ k) {rest : Store} (hr : CL rest) : Dr C k j__law_k82_bounds [.ref 0] rest fun d => d = .bl true := by
  obtain ⟨k, rfl⟩ := Nat.exists_eq_add_of_le' (show 1 ≤ k by omega)
  intro o ho
  refine r__law_k82_bounds ?_
  unfold m__law_k82_bounds
  (refine W_seqS.mpr ?_; generalize hK : KS _ _ = K; simp? [true_and])
  refine (e_named_ok C (by omega) hr).W ho ?_
  rintro d1 o1 ha1 ho1
  refine (e_named_ok C (by omega) hr).W ho1 ?_
  rintro d2 o2 ha2 ho2
  simp? [true_and]
  have ha1' := ha1
  obtain ⟨name, number, n, tool, rfl, g1, g2, g3, g4⟩ := ha1
  subst hK
  refine KS_nx.mpr ?_
  (refine W_seqS.mpr ?_; generalize hK : KS _ _ = K; simp? [true_and]; subst hK; refine KS_nx.mpr ?_)
  (refine W_seqS.mpr ?_; generalize hK : KS _ _ = K; simp? [true_and])
  subst hK
  refine KS_nx.mpr ?_
  have hfm := fm (a := n) (b := 4) (by decide)
  have near0 : Ask (.tup [.sym name, .int number, .int (1 + n.fmod 4), .non]) := ⟨name, number, _, _, rfl, g1, by omega, g3, .non⟩
  have last : ∀ {o3 : MObj} (_ : Tape o3) (near : D) (_ : Ask near) (x4 x5 x6 x7 : Option D), W (seqS (forS (seqI (lstM false (consA (varM 2) (consA (varM 1) (consA (varM 3) (consA (varM 2) nilA)))))) (tupG 4 (consG (nameG 4) (consG (nameG 5) (consG (nameG 6) (consG (nameG 7) nilG)))))
    (seqS (ifS (notT (truM (callM (defC (runP (pg C) k) j__law_k82_asked 4 []) (consA (varM 4) (consA (varM 5) (consA (varM 6) (consA (varM 7) nilA)))))))
      (seqS (retS (cM (.bl false)))
        nextS)
      nextS)
      nextS))
    (seqS (retS (cM (.bl true)))
    nextS) [some (.ref 0), some near, some (.tup [.sym name, .int number, .int n, tool]), some d2, x4, x5, x6, x7] (o3 :: rest)) (EX false (o :: rest).length (PQ (fun d => d = .bl true) rest)) := fun {o3} ho3 near hnear x4 x5 x6 x7 => by
    (refine W_seqS.mpr ?_; generalize hK : KS _ _ = K; simp? [true_and])
    obtain ⟨J, hJ⟩ : ∃ J : List D → Mn.Env → Store → Prop, J = fun r env s => ∃ (x1 x2 x3 x4 x5 x6 x7 : Option D), env = [some (.ref 0), x1, x2, x3, x4, x5, x6, x7] ∧ s = o3 :: rest ∧ ∀ d ∈ r, Ask d := ⟨_, rfl⟩
    refine forL_W J ?_ ?_ _ _ _ (by
      rw [hJ]
      refine ⟨_, _, _, _, _, _, _, rfl, rfl, fun d hd => ?_⟩
      simp only [List.mem_cons, List.not_mem_nil, or_false] at hd
      rcases hd with rfl | rfl | rfl | rfl
      · exact ha1'
      · exact hnear
      · exact ha2
      · exact ha1')
    · intro e r env s h
      rw [hJ] at h
      obtain ⟨x1, x2, x3, x4, x5, x6, x7, rfl, rfl, hall⟩ := h
      refine ⟨rfl, ?_⟩
      obtain ⟨name, number, n, tool, rfl, g1, g2, g3, g4⟩ := hall e List.mem_cons_self
      simp? only [true_and]
      refine (asked_ok C (by omega) g1 number n g4 (CL_cons.mpr ⟨ho3.cl, hr⟩) (by omega)).mono ?_
      rintro q rfl
      simp? only [true_and]
      rw [hJ]
      exact ⟨_, _, _, _, _, _, _, rfl, rfl, fun d hd => hall d (List.mem_cons_of_mem _ hd)⟩
    · intro env s h
      rw [hJ] at h
      obtain ⟨x1, x2, x3, x4, x5, x6, x7, rfl, rfl, hall⟩ := h
      refine ⟨rfl, ?_⟩
      subst hK
      refine KS_nx.mpr ?_
      simp? [true_and]
      exact fin ho3 hr rfl rfl
  (refine W_seqS.mpr ?_; generalize hK : KS _ _ = K; simp? [true_and])
  refine ⟨tool_noCon g4, ?_⟩
  have fin2 : K (.nx, [some (.ref 0), some (.tup [.sym name, .int number, .int (1 + n.fmod 4), .non]), some (.tup [.sym name, .int number, .int n, tool]), some d2, some (.sym name), some (.int number), some (.int n), some tool], o2 :: rest) := by
    subst hK
    refine KS_nx.mpr ?_
    exact last ho2 _ near0 _ _ _ _
  have fin3 : ∀ {o3 : MObj} (_ : Tape o3), K (.nx, [some (.ref 0), some (.tup [.sym name, .int number, .int (1 + n.fmod 4), .non]), some (.tup [.sym name, .int number, .int n, tool]), some d2, some (.sym name), some (.int number), some (.int n), some tool], o3 :: rest) := fun {o3} ho3 => by
    subst hK
    refine KS_nx.mpr ?_
    exact last ho3 _ near0 _ _ _ _
  refine br_n (br_i (fun _ => fin2) fun _ => ?_)
  refine (draw_ok' C (by omega) 2 hr (by decide)).W ho2 ?_
  rintro d o3 ⟨r, rfl, r0, r1⟩ ho3
  simp? [true_and]
  refine br_e (fun _ => ?_) fun _ => fin3 ho3
  refine (pick_ok C (by omega) hr (by show 0 < 3; decide) (fun d hd => ?_) (by show 3 < 1073741824; decide)).W ho3 fun d o4 hd ho4 => ?_
  · simp only [List.mem_cons, List.not_mem_nil, or_false] at hd
    rcases hd with rfl | rfl | rfl <;> rfl
  have ht : Tool d := by
    simp only [List.mem_cons, List.not_mem_nil, or_false] at hd
    rcases hd with rfl | rfl | rfl <;> exact .one _ (by decide)
  simp? [true_and]
  subst hK
  refine KS_nx.mpr ?_
  exact last ho4 _ ⟨name, number, n, d, rfl, g1, g2, g3, ht⟩ _ _ _ _
theorem law_ok (C : List V) (ns : List Int) : W (runP (pg C) 100 j_law [.fro (ns.map D.int)] []) fun q => q.1 = .bl true := by
  refine r_law (k := 99) ?_
  unfold m_law
  simp? only [true_and]
  refine (tape_ok C (by omega) ns).mono ?_
  rintro ⟨d, s⟩ ⟨rfl, o, ho, rfl⟩
  dsimp only
  refine (turns_ok C (by omega) CL_nil).W ho ?_
  rintro d o1 ⟨xs, rfl, hx⟩ ho1
  simp? only [true_and]
  obtain ⟨J, hJ⟩ : ∃ J : List D → Mn.Env → Store → Prop, J = fun r env s => ∃ (x0 x2 : Option D) (o' : MObj), env = [x0, some (.ref 0), x2] ∧ s = [o'] ∧ Tape o' ∧ ∀ d ∈ r, ∃ i : Int, d = .int i := ⟨_, rfl⟩
  refine forL_W J ?_ ?_ _ _ _ (by rw [hJ]; exact ⟨_, _, o1, rfl, rfl, ho1, hx⟩)
  · intro e r env s h
    rw [hJ] at h
    obtain ⟨x0, x2, o2, rfl, rfl, ho2, hx⟩ := h
    obtain ⟨i, rfl⟩ := hx e List.mem_cons_self
    refine ⟨rfl, ?_⟩
    have hx' : ∀ d ∈ r, ∃ i : Int, d = .int i := fun d hd => hx d (List.mem_cons_of_mem _ hd)
    have two : ∀ {o' : MObj} (_ : Tape o'), br (i == 1) (W (runP (pg C) 99 j__law_k82_bounds [.ref 0] [o']) fun p => W (truO p.2 p.1) fun b => br b (W (runP (pg C) 99 j__law_k82_bounds [.ref 0] p.2) fun p => W (truO p.2 p.1) fun b => br (!b) (W (exitR false 0 (.bl false) p.2) fun q => q.1 = .bl true) (J r [x0, some (.ref 0), some (.int i)] p.2)) (W (exitR false 0 (.bl false) p.2) fun q => q.1 = .bl true))
        (J r [x0, some (.ref 0), some (.int i)] [o']) := fun {o'} ho' => by
      refine br_e (fun _ => ?_) fun _ => by rw [hJ]; exact ⟨_, _, o', rfl, rfl, ho', hx'⟩
      refine (k82_bounds_ok C (by omega) CL_nil).W ho' ?_
      rintro d o3 rfl ho3
      simp? only [true_and]
      refine (k82_bounds_ok C (by omega) CL_nil).W ho3 ?_
      rintro d o4 rfl ho4
      simp? only [true_and]
      rw [hJ]
      exact ⟨_, _, o4, rfl, rfl, ho4, hx'⟩
    simp? only [true_and]
    refine br_e (fun _ => ?_) fun _ => two ho2
    refine (k82_steps_ok C (by omega) CL_nil).W ho2 ?_
    rintro d o3 rfl ho3
    simp? only [true_and]
    exact two ho3
  · intro env s h
    rw [hJ] at h
    obtain ⟨x0, x2, o2, rfl, rfl, ho2, hx⟩ := h
    refine ⟨rfl, ?_⟩
    simp? only [true_and]
    exact ⟨_, rfl, rfl⟩
end H82
set_option Elab.async false
set_option linter.all false
set_option maxRecDepth 100000
set_option maxHeartbeats 0
set_option autoImplicit false
namespace H82
open PySem PySem.Spec PyProof.Rows L2 Mn He
theorem run (w : World) : HandSHeadRun.RunEq R (PySem.W.view R.prog [lawIx]) hk ob 4000 loose w := by
  refine PySem.W.byRow2 "special-get-raises" (P := fun w => HandSHeadRun.RunEq R (PySem.W.view R.prog [lawIx]) hk ob 4000 loose w) (fun w os => ?_) (fun w os => ?_) w
  · kernel_rfl
  · kernel_rfl
theorem facts {P : Program} {w : World} {K : PySem.W.Frag} {h : Heap} {mg : Str → Option Value} {f : Addr} (X : K.In h) (G : h.Ns mainGlobals mg) (hfa : mg (Str.ofString "law") = some (.ref f)) (c : SaysM fa fn ts ck w K) (k : Nat) :
    ∃ fd : FuncData, (∀ (s : Shared) (v : Value), BindsTo s fd ⟨[v], []⟩ [(Str.ofString "script", v)]) ∧ ∀ base : Heap, K.In base → base.Ns mainGlobals mg → FnOk P w K mg base CX0 k f fd [Str.ofString "script"] (SpOf K (pg (Cs K)).B 1 (runP (pg (Cs K)) k j_law)) := by
  obtain ⟨fd, F⟩ := c.t.d.def_ 45 (d := d_law) rfl
  have e := hfa.symm.trans (He.glo_ok X G (c.t.d.fact 45 (f := .glo (Str.ofString "law")) rfl))
  cases e
  have b := FunD.bindsA (ps := [Str.ofString "script"]) F fun _ _ _ _ _ _ us hl => match us, hl with | [_], _ => rfl
  have G' := glOk c X G
  refine ⟨fd, fun s v => b s [v] rfl, fun base _ _ => run_ok G' k 45 1 _ fd _ ⟨rfl, t_law, rfl, fnScope_ok (by decide +kernel), ?_⟩⟩
  obtain ⟨oc, od, dV, kV, doc, pm, an, cdv, ct, osl, e, lk, hcd, _, _⟩ := F.ex
  exact ⟨_, _, _, oc, od, dV, kV, doc, pm, an, cdv, ct, osl, e, lk, hcd⟩
theorem sp_of {K : PySem.W.Frag} {P : Pg} {k : Nat} (hp : ∀ ns : List Int, ns.length ≤ 63 → ∃ st', runP P k j_law [.fro (ns.map D.int)] [] = some (.bl true, st')) (H : Hp) (a : Addr) (ns : List Int) (hl : ns.length ≤ 63) (hO : Only H) (hS : SqL K H a (ns.map V.int)) : SpOf K P.B 1 (runP P k j_law) [.ref a] H (fun v _ => v = .bl true) (fun _ _ _ => False) := by
  obtain ⟨st', e⟩ := hp ns hl
  have hF : SqF K H a (ns.map V.int) := by
    rcases hS with (h | h) | h
    · rcases hO a with q | ⟨o, xs, q⟩
      · rw [h] at q; cases q
      · rw [h] at q; cases q
    · exact .inl h
    · exact .inr h
  refine ⟨rfl, ⟨[], []⟩, [], [.fro (ns.map D.int)], .bl true, st', ⟨rfl, List.nodup_nil, fun n o h => by simp at h, fun z hz => by cases hz⟩, ⟨.ref a, [], rfl, ⟨a, ns.map V.int, rfl, hF, rvs_ints ns⟩, rfl⟩, e, fun ρ' H' v _ _ hv => hv⟩
theorem hp_of (C : List L2.V) (ns : List Int) (_ : ns.length ≤ 63) : ∃ st', Mn.runP (H82.pg C) 100 H82.j_law [.fro (ns.map Mn.D.int)] [] = some (.bl true, st') := by
  obtain ⟨⟨d, s⟩, e, h⟩ := law_ok C ns
  exact ⟨s, by rw [e]; cases h; rfl⟩
end H82
open PySem PySem.W PySem.Calls PyProof.Rows
set_option maxRecDepth 100000 in
set_option maxHeartbeats 0 in
theorem PySem.Challenge.cw_lockfree_k82_code_steps_quiet_bounds_holds : PySem.Challenge.rw_lockfree_k82_code_steps_quiet_bounds.Holds := by
  have hp : ∀ (C : List L2.V) (ns : List Int), ns.length ≤ 63 → ∃ st', Mn.runP (H82.pg C) 100 H82.j_law [.fro (ns.map Mn.D.int)] [] = some (.bl true, st') := H82.hp_of
  w_on; o_law
  refine HandSHeadRun.head_any (r := OpenLaw.row PySem.Challenge.rw_lockfree_k82_code_steps_quiet_bounds) (q := view (OpenLaw.row PySem.Challenge.rw_lockfree_k82_code_steps_quiet_bounds).prog [H82.lawIx]) (H := H82.hk) (ob := H82.ob) (M := 4000) (loose := H82.loose) (d := HandSHeadRun.topDef (OpenLaw.row PySem.Challenge.rw_lockfree_k82_code_steps_quiet_bounds).prog H82.lawIx) (kwd := []) H82.ob_eq
    (by kernel_rfl) (fun s => by kernel_rfl) H82.run (by kernel_rfl) (by kernel_rfl) (by kernel_rfl) (by rfl) (by first | assumption | decide +kernel) (by decide +kernel) ⟨rfl, rfl, rfl, rfl, rfl, by decide +kernel⟩ ?hw ?hc
  case hw => w_witness2
  case hc =>
    refine L2.walk_ofE (l := PySem.Challenge.rw_lockfree_k82_code_steps_quiet_bounds) (n := 63) (k := 100) (x := PySem.Str.ofString "script") (CX := L2.CX0) rfl (by decide) (by kernel_rfl) ⟨rfl, by decide, by decide⟩ ?F (fun _ _ _ _ z => z)
    intro w mg fa h Y G hmg0
    obtain ⟨K, KX, c⟩ := Y
    have hmg : mg (PySem.Str.ofString "law") = some (.ref fa) := by
      have e : (HandSHeadRun.topDef (OpenLaw.row PySem.Challenge.rw_lockfree_k82_code_steps_quiet_bounds).prog H82.lawIx).name = PySem.Str.ofString "law" := by kernel_rfl
      rw [← e]
      exact hmg0
    obtain ⟨fd, hb, hF⟩ := H82.facts (P := (PySem.Challenge.rw_lockfree_k82_code_steps_quiet_bounds).prog) (w := w) KX G hmg c 100
    exact ⟨K, fd, _, KX, hb, fun H a ns hl hO hS => H82.sp_of (hp _) H a ns hl hO hS, hF⟩
