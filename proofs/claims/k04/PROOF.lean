import PyProof.Rows.All
import Wide.All
import OpenK.AllK
import Wide.FinOn
import HandS.ForMost
import HandS.Defaults
import HandS.Deep
import HandS.IsInst
import HandS.TupAny
import HandS.TupLe
import HandS.Style
import HandS.Flow
import HandS.Wide
import HandS.Zip
import HandS.Conv
import HandS.RaiseMore
import HandS.TupMul
import HandS.HeadHook2
import HandS.Head2
import HandS.HeadEnd
import PySem.Challenge.RW_microwright_k04_what_are_scenes
set_option Elab.async false
set_option linter.all false
set_option maxRecDepth 100000
set_option autoImplicit false
set_option maxHeartbeats 0
set_option exponentiation.threshold 3000
namespace MW
open PySem PySem.Spec PyProof.Rows L2

/-! ### data in the abstract heap -/
abbrev D := PyData
/-- what may be stored into -/
def mutO : HO → Bool
  | .tup _ => false
  | .frz _ _ => false
  | .rng _ _ => false
  | _ => true
/-- a list of the written part -/
def KL (K : PySem.W.Frag) (a : Addr) (xs : List V) : Prop :=
  ∃ (o : Obj) (its : Array Value) (n : Nat), K.lookup a = some o ∧ o.cls = .type "list" ∧ o.dict = none ∧ o.data = .seq its n ∧ its.size ≤ sizeLine ∧ Vals xs its.toList
/-- a list that is read alone (the script), as data -/
def frzD (ns : List Int) : D := .dict [(.dict [], .list (ns.map .int))]
def LsOk (K : PySem.W.Frag) (A : Addr → Prop) (H : Hp) (a : Addr) (xs : List V) : Prop := (¬ A a ∧ Rd H a (.lst xs)) ∨ KL K a xs
mutual
/-- v is the data d in H; the lists within stand at no address of A -/
inductive Rp (K : PySem.W.Frag) (A : Addr → Prop) (H : Hp) : V → D → Prop
  | non : Rp K A H .non .none
  | bl (b : Bool) : Rp K A H (.bl b) (.bool b)
  | int (i : Int) : Rp K A H (.int i) (.int i)
  | str (x : Str) (ok : PyData.strOk x = true) : Rp K A H (.str x) (.str x)
  | lst {a : Addr} {xs : List V} {ds : List D} : ¬ A a → H a = some (.lst xs) → RpAll K A H xs ds → Rp K A H (.ref a) (.list ds)
  | frz {a : Addr} {ns : List Int} : LsOk K A H a (ns.map V.int) → Rp K A H (.ref a) (frzD ns)
  | tup {a : Addr} {xs : List V} {ds : List D} : SqT K H a xs → RpAll K A H xs ds → Rp K A H (.ref a) (.tuple ds)
inductive RpAll (K : PySem.W.Frag) (A : Addr → Prop) (H : Hp) : List V → List D → Prop
  | nil : RpAll K A H [] []
  | cons {v : V} {vs : List V} {d : D} {ds : List D} : Rp K A H v d → RpAll K A H vs ds → RpAll K A H (v :: vs) (d :: ds)
end
/-- all cells stand but those of W that may be stored into -/
def Kp (W : Addr → Prop) (H H' : Hp) : Prop := ∀ b o, H b = some o → (W b → mutO o = false) → H' b = some o
section
variable {K : PySem.W.Frag} {A A' W W' : Addr → Prop} {H H' H'' : Hp}
theorem Kp.refl : Kp W H H := fun _ _ e _ => e
theorem Kp.trans (a : Kp W H H') (b : Kp W H' H'') : Kp W H H'' := fun c o e h => b c o (a c o e h) h
theorem Kp.mono (a : Kp W H H') (s : ∀ b, W b → W' b) : Kp W' H H' := fun c o e h => a c o e fun w => h (s c w)
theorem Kp.ofSame (s : Same H H') : Kp W H H' := fun b o e _ => s b o e
theorem Kp.tup (k : Kp A H H') {a : Addr} {xs : List V} (h : SqT K H a xs) : SqT K H' a xs := by
  rcases h with (h | ⟨o, h⟩) | h
  · exact .inl (.inl (k _ _ h fun _ => rfl))
  · exact .inl (.inr ⟨o, k _ _ h fun _ => rfl⟩)
  · exact .inr h
theorem rd_some {H : Hp} {a : Addr} {u : HO} (h : Rd H a u) (n : H a = none) : False := by
  rcases h with h | ⟨o, h⟩
  · rw [n] at h
    cases h
  · rw [n] at h
    cases h
theorem LsOk.step {a : Addr} {xs : List V} (h : LsOk K A H a xs) (s : ∀ b, A' b → A b ∨ H b = none) (k : Kp A H H') : LsOk K A' H' a xs := by
  rcases h with ⟨n, h⟩ | h
  · refine .inl ⟨fun z => (s _ z).elim n (rd_some h), ?_⟩
    rcases h with h | ⟨o, h⟩
    · exact .inl (k _ _ h fun z => absurd z n)
    · exact .inr ⟨o, k _ _ h fun z => absurd z n⟩
  · exact .inr h
theorem LsOk.sq {a : Addr} {xs : List V} (h : LsOk K A H a xs) : SqL K H a xs := h.elim (fun h => .inl h.2) fun h => .inr h
mutual
theorem Rp.step (s : ∀ b, A' b → A b ∨ H b = none) (k : Kp A H H') : ∀ (d : D) (v : V), Rp K A H v d → Rp K A' H' v d
  | .none, _, .non => .non
  | .bool _, _, .bl b => .bl b
  | .int _, _, .int i => .int i
  | .str _, _, .str x ok => .str x ok
  | .list ds, _, .lst n h r => .lst (fun z => (s _ z).elim n fun z => by rw [z] at h; cases h) (k _ _ h fun z => absurd z n) (RpAll.step s k ds _ r)
  | .tuple ds, _, .tup h r => .tup (k.tup h) (RpAll.step s k ds _ r)
  | .dict _, _, .frz h => .frz (h.step s k)
theorem RpAll.step (s : ∀ b, A' b → A b ∨ H b = none) (k : Kp A H H') : ∀ (ds : List D) (vs : List V), RpAll K A H vs ds → RpAll K A' H' vs ds
  | [], _, .nil => .nil
  | d :: ds, _, .cons h r => .cons (Rp.step s k d _ h) (RpAll.step s k ds _ r)
end
theorem Rp.mono (s : ∀ b, A' b → A b) (k : Kp A H H') (d : D) (v : V) (h : Rp K A H v d) : Rp K A' H' v d := Rp.step (fun b z => .inl (s b z)) k d v h
theorem RpAll.mono (s : ∀ b, A' b → A b) (k : Kp A H H') (ds : List D) (vs : List V) (h : RpAll K A H vs ds) : RpAll K A' H' vs ds := RpAll.step (fun b z => .inl (s b z)) k ds vs h
mutual
/-- data without lists -/
def noMut : D → Bool
  | .list _ => false
  | .dict _ => false
  | .tuple ds => noMuts ds
  | _ => true
def noMuts : List D → Bool
  | [] => true
  | d :: ds => noMut d && noMuts ds
end
mutual
theorem Rp.free : ∀ (d : D) (v : V), noMut d = true → Rp K A H v d → Rp K A' H v d
  | .none, _, _, .non => .non
  | .bool _, _, _, .bl b => .bl b
  | .int _, _, _, .int i => .int i
  | .str _, _, _, .str x ok => .str x ok
  | .list ds, _, n, _ => by simp [noMut] at n
  | .tuple ds, _, n, .tup h r => .tup h (RpAll.free ds _ (by simpa [noMut] using n) r)
  | .dict _, _, n, _ => by simp [noMut] at n
theorem RpAll.free : ∀ (ds : List D) (vs : List V), noMuts ds = true → RpAll K A H vs ds → RpAll K A' H vs ds
  | [], _, _, .nil => .nil
  | d :: ds, _, n, .cons h r => by
    have n' : noMut d = true ∧ noMuts ds = true := by simpa [noMuts] using n
    exact .cons (Rp.free d _ n'.1 h) (RpAll.free ds _ n'.2 r)
end
mutual
/-- data without dicts -/
def noDic : D → Bool
  | .list ds => noDics ds
  | .tuple ds => noDics ds
  | .dict _ => false
  | _ => true
def noDics : List D → Bool
  | [] => true
  | d :: ds => noDic d && noDics ds
end
mutual
theorem Rp.dp : ∀ (d : D) (v : V), noDic d = true → Rp K A H v d → Dp K H v d
  | .none, _, _, .non => .non
  | .bool _, _, _, .bl b => .bl b
  | .int _, _, _, .int i => .int i
  | .str _, _, _, .str x _ => .str x
  | .list ds, _, n, .lst _ h r => .lst (.of h) (RpAll.dp ds _ (by simpa [noDic] using n) r)
  | .tuple ds, _, n, .tup h r => .tup h (RpAll.dp ds _ (by simpa [noDic] using n) r)
  | .dict _, _, n, _ => by simp [noDic] at n
theorem RpAll.dp : ∀ (ds : List D) (vs : List V), noDics ds = true → RpAll K A H vs ds → DpAll K H vs ds
  | [], _, _, .nil => .nil
  | d :: ds, _, n, .cons h r => by
    have n' : noDic d = true ∧ noDics ds = true := by simpa [noDics] using n
    exact .cons (Rp.dp d _ n'.1 h) (RpAll.dp ds _ n'.2 r)
end
mutual
theorem Rp.lay : ∀ (d : D) (v : V), noDic d = true → Rp K A H v d → d.canLay0 = true
  | .none, _, _, .non => rfl
  | .bool _, _, _, .bl b => rfl
  | .int _, _, _, .int i => rfl
  | .str _, _, _, .str x ok => by simpa [PyData.canLay0] using ok
  | .list ds, _, n, .lst _ _ r => by simpa [PyData.canLay0] using RpAll.lay ds _ (by simpa [noDic] using n) r
  | .tuple ds, _, n, .tup _ r => by simpa [PyData.canLay0] using RpAll.lay ds _ (by simpa [noDic] using n) r
  | .dict _, _, n, _ => by simp [noDic] at n
theorem RpAll.lay : ∀ (ds : List D) (vs : List V), noDics ds = true → RpAll K A H vs ds → PyData.canLayAll0 ds = true
  | [], _, _, .nil => rfl
  | d :: ds, _, n, .cons h r => by
    have n' : noDic d = true ∧ noDics ds = true := by simpa [noDics] using n
    simp [PyData.canLayAll0, Rp.lay d _ n'.1 h, RpAll.lay ds _ n'.2 r]
end
theorem RpAll.length : ∀ {ds : List D} {vs : List V}, RpAll K A H vs ds → vs.length = ds.length
  | [], _, .nil => rfl
  | _ :: _, _, .cons _ r => by simp [RpAll.length r]
theorem RpAll.append : ∀ {ds es : List D} {vs us : List V}, RpAll K A H vs ds → RpAll K A H us es → RpAll K A H (vs ++ us) (ds ++ es)
  | [], _, _, _, .nil, r => r
  | _ :: _, _, _, _, .cons h t, r => .cons h (RpAll.append t r)
theorem RpAll.get : ∀ {ds : List D} {vs : List V} {i : Nat} {d : D}, RpAll K A H vs ds → ds[i]? = some d → ∃ v, vs[i]? = some v ∧ Rp K A H v d
  | [], _, i, d, .nil, e => by simp at e
  | _ :: _, _, 0, d, .cons h _, e => by simp at e; subst e; exact ⟨_, rfl, h⟩
  | _ :: _, _, i + 1, d, .cons _ t, e => by
    obtain ⟨v, h1, h2⟩ := RpAll.get (i := i) (d := d) t (by simpa using e)
    exact ⟨v, by simpa using h1, h2⟩
theorem RpAll.get' : ∀ {ds : List D} {vs : List V} {i : Nat} {v : V}, RpAll K A H vs ds → vs[i]? = some v → ∃ d, ds[i]? = some d ∧ Rp K A H v d
  | [], _, i, d, .nil, e => by simp at e
  | _ :: _, _, 0, d, .cons h _, e => by simp at e; subst e; exact ⟨_, rfl, h⟩
  | _ :: _, _, i + 1, d, .cons _ t, e => by
    obtain ⟨v, h1, h2⟩ := RpAll.get' (i := i) (v := d) t (by simpa using e)
    exact ⟨v, by simpa using h1, h2⟩
theorem RpAll.take : ∀ {ds : List D} {vs : List V} (n : Nat), RpAll K A H vs ds → RpAll K A H (vs.take n) (ds.take n)
  | _, _, 0, _ => .nil
  | [], _, _ + 1, .nil => .nil
  | _ :: _, _, n + 1, .cons h t => .cons h (RpAll.take n t)
theorem RpAll.drop : ∀ {ds : List D} {vs : List V} (n : Nat), RpAll K A H vs ds → RpAll K A H (vs.drop n) (ds.drop n)
  | _, _, 0, r => r
  | [], _, _ + 1, .nil => .nil
  | _ :: _, _, n + 1, .cons _ t => RpAll.drop n t
theorem RpAll.reverse : ∀ {ds : List D} {vs : List V}, RpAll K A H vs ds → RpAll K A H vs.reverse ds.reverse
  | [], _, .nil => .nil
  | _ :: _, _, .cons h t => by
    rw [List.reverse_cons, List.reverse_cons]
    exact (RpAll.reverse t).append (.cons h .nil)
theorem RpAll.set : ∀ {ds : List D} {vs : List V} {v : V} {d : D} (i : Nat), Rp K A H v d → RpAll K A H vs ds → RpAll K A H (vs.set i v) (ds.set i d)
  | [], _, _, _, _, _, .nil => .nil
  | _ :: _, _, _, _, 0, h, .cons _ t => .cons h t
  | _ :: _, _, _, _, i + 1, h, .cons g t => .cons g (RpAll.set i h t)
end
/-- a cell that may be stored into -/
inductive Cell (K : PySem.W.Frag) (A : Addr → Prop) (H : Hp) : Addr → D → Prop
  | lst {a : Addr} {xs : List V} {ds : List D} : H a = some (.lst xs) → RpAll K A H xs ds → Cell K A H a (.list ds)
section
variable {K : PySem.W.Frag} {A A' W W' : Addr → Prop} {H H' H'' : Hp}
theorem Cell.tracked {a : Addr} {d : D} : Cell K A H a d → ∃ o, H a = some o
  | .lst h _ => ⟨_, h⟩
theorem Cell.step {a : Addr} {d : D} (h : Cell K A H a d) (s : ∀ b, A' b → A b ∨ H b = none) (k : Kp A H H') (kc : ∀ o, H a = some o → H' a = some o) : Cell K A' H' a d := by
  cases h with
  | lst h r => exact .lst (kc _ h) (RpAll.step s k _ _ r)
theorem Cell.mono {a : Addr} {d : D} (h : Cell K A H a d) (s : ∀ b, A' b → A b) (k : Kp A H H') (kc : ∀ o, H a = some o → H' a = some o) : Cell K A' H' a d := by
  cases h with
  | lst h r => exact .lst (kc _ h) (RpAll.mono s k _ _ r)
end

/-! ### slots -/
inductive Kd where
  | val | own | lent | io | lio
  deriving DecidableEq
abbrev SV := Option (Kd × D)
abbrev Rho := List SV
def M (ρ : Rho) (σ : L2.St) (b : Addr) : Prop := ∃ (i : Nat) (k : Kd) (d : D), ρ[i]? = some (some (k, d)) ∧ k ≠ Kd.val ∧ σ[i]? = some (some (V.ref b))
def Wr (ρ : Rho) (σ : L2.St) (b : Addr) : Prop := ∃ (i : Nat) (k : Kd) (d : D), ρ[i]? = some (some (k, d)) ∧ (k = Kd.own ∨ k = Kd.io) ∧ σ[i]? = some (some (V.ref b))
def Oc (ρ : Rho) (σ : L2.St) (b : Addr) : Prop := ∃ (i : Nat) (k : Kd) (d : D), ρ[i]? = some (some (k, d)) ∧ (k = Kd.own ∨ k = Kd.lent) ∧ σ[i]? = some (some (V.ref b))
def Kd.isIo (k : Kd) : Prop := k = Kd.io ∨ k = Kd.lio
def Av (F : Addr → Prop) (ρ : Rho) (σ : L2.St) (b : Addr) : Prop := F b ∨ M ρ σ b
structure Rel (K : PySem.W.Frag) (F : Addr → Prop) (ρ : Rho) (σ : L2.St) (H : Hp) : Prop where
  len : ρ.length = σ.length
  val : ∀ (i : Nat) (d : D), ρ[i]? = some (some (Kd.val, d)) → ∃ v, σ[i]? = some (some v) ∧ Rp K (Av F ρ σ) H v d
  mu : ∀ (i : Nat) (k : Kd) (d : D), ρ[i]? = some (some (k, d)) → k ≠ Kd.val → ∃ a, σ[i]? = some (some (V.ref a)) ∧ ¬ F a ∧ Cell K (Av F ρ σ) H a d
  inj : ∀ (i j : Nat) (k k' : Kd) (d d' : D) (a : Addr), ρ[i]? = some (some (k, d)) → k ≠ Kd.val → ρ[j]? = some (some (k', d')) → k' ≠ Kd.val → σ[i]? = some (some (V.ref a)) → σ[j]? = some (some (V.ref a)) → i = j
/-- what is forbidden stands -/
def Fk (F : Addr → Prop) (H : Hp) : Prop := ∀ b, F b → ∃ o, H b = some o
/-- from one moment of a def's run to a later one -/
structure Post (K : PySem.W.Frag) (F : Addr → Prop) (ρ0 : Rho) (σ0 : L2.St) (H0 : Hp) (ρ1 : Rho) (σ1 : L2.St) (H1 : Hp) : Prop where
  rel : Rel K F ρ1 σ1 H1
  kp : Kp (Wr ρ0 σ0) H0 H1
  tr : ∀ b o, H0 b = some o → ∃ o', H1 b = some o'
  sub : ∀ b, M ρ1 σ1 b → M ρ0 σ0 b ∨ H0 b = none
  wsub : ∀ b, Wr ρ1 σ1 b → Wr ρ0 σ0 b ∨ H0 b = none
  osub : ∀ b, Oc ρ1 σ1 b → Oc ρ0 σ0 b ∨ H0 b = none
  io : ∀ (i : Nat) (k : Kd) (d : D), ρ0[i]? = some (some (k, d)) → k.isIo → σ1[i]? = σ0[i]? ∧ ∃ k' d', ρ1[i]? = some (some (k', d')) ∧ k'.isIo
/-- F and one more -/
def Fa (F : Addr → Prop) (a : Addr) (b : Addr) : Prop := F b ∨ b = a
def Res (K : PySem.W.Frag) (F : Addr → Prop) (ρ1 : Rho) (σ : L2.St) (H0 H1 : Hp) (v : V) (r : D × Bool) : Prop :=
  if r.2 = true then ∃ a, v = V.ref a ∧ H0 a = none ∧ Cell K (Av (Fa F a) ρ1 σ) H1 a r.1 ∧ Rel K (Fa F a) ρ1 σ H1 else Rp K (Av F ρ1 σ) H1 v r.1
section
variable {K : PySem.W.Frag} {F F' : Addr → Prop} {ρ ρ0 ρ1 ρ2 : Rho} {σ σ0 σ1 σ2 : L2.St} {H H0 H1 H2 : Hp}
theorem Wr.m {b : Addr} (h : Wr ρ σ b) : M ρ σ b := by
  obtain ⟨i, k, d, h1, h2, h3⟩ := h
  exact ⟨i, k, d, h1, by rcases h2 with rfl | rfl <;> decide, h3⟩
theorem Wr.av {b : Addr} (h : Wr ρ σ b) : Av F ρ σ b := .inr h.m
theorem Rel.tracked (R : Rel K F ρ σ H) {b : Addr} (h : M ρ σ b) : ∃ o, H b = some o := by
  obtain ⟨i, k, d, h1, h2, h3⟩ := h
  obtain ⟨a, e, _, c⟩ := R.mu i k d h1 h2
  rw [h3] at e
  cases e
  exact c.tracked
theorem Rel.avTracked (R : Rel K F ρ σ H) (f : Fk F H) {b : Addr} (h : Av F ρ σ b) : ∃ o, H b = some o := h.elim (f b) R.tracked
theorem Rel.nf (R : Rel K F ρ σ H) {b : Addr} (h : M ρ σ b) : ¬ F b := by
  obtain ⟨i, k, d, h1, h2, h3⟩ := h
  obtain ⟨a, e, n, _⟩ := R.mu i k d h1 h2
  rw [h3] at e
  cases e
  exact n
theorem Post.refl (R : Rel K F ρ σ H) : Post K F ρ σ H ρ σ H := ⟨R, .refl, fun _ o e => ⟨o, e⟩, fun _ h => .inl h, fun _ h => .inl h, fun _ h => .inl h, fun _ k d h z => ⟨rfl, k, d, h, z⟩⟩
theorem none_of_tr {H0 H1 : Hp} (tr : ∀ b o, H0 b = some o → ∃ o', H1 b = some o') {b : Addr} (h : H1 b = none) : H0 b = none := by
  cases e : H0 b with
  | none => rfl
  | some o =>
    obtain ⟨o', e'⟩ := tr b o e
    rw [h] at e'
    cases e'
theorem Post.none (a : Post K F ρ0 σ0 H0 ρ1 σ1 H1) {b : Addr} (h : H1 b = none) : H0 b = none := none_of_tr a.tr h
theorem Post.trans (a : Post K F' ρ0 σ0 H0 ρ1 σ1 H1) (b : Post K F ρ1 σ1 H1 ρ2 σ2 H2) : Post K F ρ0 σ0 H0 ρ2 σ2 H2 where
  rel := b.rel
  kp := fun c o e h => b.kp c o (a.kp c o e h) fun w => (a.wsub c w).elim h fun z => by
    rw [z] at e
    cases e
  tr := fun c o e => let ⟨o', e'⟩ := a.tr c o e; b.tr c o' e'
  sub := fun c h => (b.sub c h).elim (a.sub c) fun z => .inr (none_of_tr a.tr z)
  wsub := fun c h => (b.wsub c h).elim (a.wsub c) fun z => .inr (none_of_tr a.tr z)
  osub := fun c h => (b.osub c h).elim (a.osub c) fun z => .inr (none_of_tr a.tr z)
  io := fun i k d h z => by
    obtain ⟨e1, k1, d1, h1, z1⟩ := a.io i k d h z
    obtain ⟨e2, k2, d2, h2, z2⟩ := b.io i k1 d1 h1 z1
    exact ⟨e2.trans e1, k2, d2, h2, z2⟩
theorem Post.avsub (a : Post K F ρ0 σ0 H0 ρ1 σ1 H1) {b : Addr} (h : Av F ρ1 σ1 b) : Av F ρ0 σ0 b ∨ H0 b = Option.none := h.elim (fun z => .inl (.inl z)) fun z => (a.sub b z).imp .inr id
theorem Post.fk (a : Post K F ρ0 σ0 H0 ρ1 σ1 H1) (f : Fk F' H0) : Fk F' H1 := fun b h => let ⟨o, e⟩ := f b h; a.tr b o e
theorem Post.kpA (a : Post K F ρ0 σ0 H0 ρ1 σ1 H1) : Kp (Av F ρ0 σ0) H0 H1 := a.kp.mono fun _ => Wr.av
/-- data of before, behind -/
theorem Post.rp (a : Post K F ρ0 σ0 H0 ρ1 σ1 H1) {v : V} {d : D} (h : Rp K (Av F ρ0 σ0) H0 v d) : Rp K (Av F ρ1 σ1) H1 v d := Rp.step (fun _ => a.avsub) a.kpA _ _ h
theorem Post.rpAll (a : Post K F ρ0 σ0 H0 ρ1 σ1 H1) {v : List V} {d : List D} (h : RpAll K (Av F ρ0 σ0) H0 v d) : RpAll K (Av F ρ1 σ1) H1 v d := RpAll.step (fun _ => a.avsub) a.kpA _ _ h
theorem Fk.same (f : Fk F H) (s : Same H H1) : Fk F H1 := fun b h => let ⟨o, e⟩ := f b h; ⟨o, s b o e⟩
/-- a heap that keeps all -/
theorem Rel.same (R : Rel K F ρ σ H) (s : Same H H1) : Rel K F ρ σ H1 where
  len := R.len
  val := fun i d h => let ⟨v, e, r⟩ := R.val i d h; ⟨v, e, Rp.mono (fun _ z => z) (.ofSame s) _ _ r⟩
  mu := fun i k d h n => let ⟨a, e, f, c⟩ := R.mu i k d h n; ⟨a, e, f, c.mono (fun _ z => z) (.ofSame s) fun o => s a o⟩
  inj := R.inj
theorem Post.same (R : Rel K F ρ σ H) (s : Same H H1) : Post K F ρ σ H ρ σ H1 := ⟨R.same s, .ofSame s, fun b o e => ⟨o, s b o e⟩, fun _ h => .inl h, fun _ h => .inl h, fun _ h => .inl h, fun _ k d h z => ⟨rfl, k, d, h, z⟩⟩
theorem Rp.untr {A : Addr → Prop} {a : Addr} (n : H a = Option.none) (d : D) (v : V) (h : Rp K A H v d) : Rp K (fun b => A b ∨ b = a) H v d := Rp.step (fun b (z : A b ∨ b = a) => z.imp id fun z => by rw [z]; exact n) .refl d v h
theorem RpAll.untr {A : Addr → Prop} {a : Addr} (n : H a = Option.none) (d : List D) (v : List V) (h : RpAll K A H v d) : RpAll K (fun b => A b ∨ b = a) H v d := RpAll.step (fun b (z : A b ∨ b = a) => z.imp id fun z => by rw [z]; exact n) .refl d v h
theorem Cell.untr {A : Addr → Prop} {a c : Addr} {d : D} (n : H a = none) (h : Cell K A H c d) : Cell K (fun b => A b ∨ b = a) H c d := by
  cases h with
  | lst h r => exact .lst h (RpAll.untr n _ _ r)
theorem av_fa {a b : Addr} (h : Av (Fa F a) ρ σ b) : Av F ρ σ b ∨ b = a := by
  rcases h with (h | h) | h
  · exact .inl (.inl h)
  · exact .inr h
  · exact .inl (.inr h)
theorem fa_av {a b : Addr} (h : Av F ρ σ b ∨ b = a) : Av (Fa F a) ρ σ b := by
  rcases h with (h | h) | h
  · exact .inl (.inl h)
  · exact .inr h
  · exact .inl (.inr h)
/-- one more address is forbidden: a new one -/
theorem Rel.protect (R : Rel K F ρ σ H) {a : Addr} (n : H a = none) : Rel K (Fa F a) ρ σ H where
  len := R.len
  val := fun i d h => let ⟨v, e, r⟩ := R.val i d h; ⟨v, e, Rp.mono (fun _ => av_fa) .refl _ _ (Rp.untr n _ _ r)⟩
  mu := fun i k d h m => by
    obtain ⟨c, e, f, z⟩ := R.mu i k d h m
    refine ⟨c, e, fun q => q.elim f fun q => ?_, (z.untr n).mono (fun _ => av_fa) .refl fun _ e => e⟩
    obtain ⟨o, ho⟩ := z.tracked
    rw [q, n] at ho
    cases ho
  inj := R.inj
/-- fewer are forbidden -/
theorem Rel.fewer (R : Rel K F ρ σ H) (s : ∀ b, F' b → F b) : Rel K F' ρ σ H where
  len := R.len
  val := fun i d h => let ⟨v, e, r⟩ := R.val i d h; ⟨v, e, Rp.mono (fun _ z => z.imp (s _) id) .refl _ _ r⟩
  mu := fun i k d h m => let ⟨c, e, f, z⟩ := R.mu i k d h m; ⟨c, e, fun q => f (s _ q), z.mono (fun _ z => z.imp (s _) id) .refl fun _ e => e⟩
  inj := R.inj
theorem Fk.add (f : Fk F H) {a : Addr} (h : ∃ o, H a = some o) : Fk (Fa F a) H := fun b z => z.elim (f b) fun z => z ▸ h
end
end MW

namespace MW
open PySem PySem.Spec PyProof.Rows L2

/-! ### the small language -/
inductive Bop where
  | add | sub | mul | fdiv | mod | pow | band | bor | bxor
  deriving DecidableEq
inductive Cop where
  | eq | ne | lt | le | gt | ge | isin | nin | is | nis
  deriving DecidableEq
inductive Ty where
  | int | bool | str | tuple | list
  deriving DecidableEq
inductive Bi where
  | len | abs | int | str | list | tuple | sum | max | min | all | any | sorted | isi (t : Ty) | max2 | min2
  deriving DecidableEq
inductive Mt where
  | join (z : Str)
  deriving DecidableEq
inductive Op where
  | bin (b : Bop) | cmp (c : Cop) | bi (f : Bi) | ix | sl (lo hi : Bool) | rev | neg | meth (m : Mt)
  deriving DecidableEq
inductive Tg where
  | n (i : Nat) | t (ts : List Tg)
inductive Sk where
  | any | rng1 | rng2 | zip | enum
  deriving DecidableEq
inductive E where
  | c (d : D)
  | v (i : Nat)
  | g (k : Nat)
  | tup (es : List E)
  | lst (es : List E)
  | op (o : Op) (es : List E)
  | and (a b : E)
  | or (a b : E)
  | not (a : E)
  | ite (c a b : E)
  | chain (o p : Cop) (a b c : E)
  | call (f : Nat) (es : List E)
  | comp (elt : E) (tg : Tg) (sk : Sk) (ses : List E) (cond : List E) (own : List Nat)
  | pop (i : Nat)
inductive S where
  | asg (tg : Tg) (e : E)
  | par (is : List Nat) (es : List E)
  | aug (i : Nat) (b : Bop) (e : E)
  | setix (i : Nat) (ix e : E)
  | append (i : Nat) (e : E)
  | ex (e : E)
  | ret (e : E)
  | retN
  | ife (c : E) (a b : List S)
  | forS (tg : Tg) (sk : Sk) (ses : List E) (body : List S)
  | whl (c : E) (body : List S)
  | brk
  | cont
  | pass
  | never

/-! ### what the operators give: data, and whether it is a new list -/
abbrev lim : Nat := 16777216
def some1 (d : D) : Option (D × Bool) := some (d, false)
def cutD {α : Type} (xs : List α) (lo hi : Option Int) : List α := (xs.drop (HT.sIx xs.length 0 lo)).take (HT.sIx xs.length xs.length hi - HT.sIx xs.length 0 lo)
def binF : Bop → D → D → Option (D × Bool)
  | .add, .int i, .int j => some1 (.int (i + j))
  | .add, .str x, .str y => if x.length + y.length ≤ lim then some1 (.str (x ++ y)) else none
  | .add, .list xs, .list ys => if xs.length + ys.length ≤ lim then some (.list (xs ++ ys), true) else none
  | .add, .tuple xs, .tuple ys => if xs.length + ys.length ≤ lim then some1 (.tuple (xs ++ ys)) else none
  | .sub, .int i, .int j => some1 (.int (i - j))
  | .mul, .int i, .int j => if (decide (i.natAbs < 2 ^ 64) || decide (j.natAbs < 2 ^ 64)) = true then some1 (.int (i * j)) else none
  | .mul, .tuple xs, .int k => if (decide (0 < xs.length) && decide (xs.length ≤ 1000) && decide (2 ≤ k) && decide (k ≤ 1000)) = true then some1 (.tuple (List.replicate k.toNat xs).flatten) else none
  | .fdiv, .int i, .int j => if (decide (0 < j) && decide (j < 1073741824)) = true then some1 (.int (i / j)) else none
  | .mod, .int i, .int j => if 0 < j then some1 (.int (i % j)) else none
  | .pow, .int i, .int j => if (decide (0 ≤ j) && decide (j ≤ 1000) && decide (i.natAbs < 2 ^ 64)) = true then some1 (.int (i ^ j.toNat)) else none
  | .band, .int i, .int j => some1 (.int (Builtin.bitAnd i j))
  | .bor, .int i, .int j => some1 (.int (Builtin.bitOr i j))
  | .bxor, .int i, .int j => some1 (.int (Builtin.bitXor i j))
  | _, _, _ => none
def bl1 (b : Bool) : Option (D × Bool) := some (.bool b, false)
/-- how deep a comparison goes is bounded -/
def eqOk (a b : D) : Bool := noDic a && noDic b && decide (min a.depth b.depth ≤ 64)
def inF (x : D) : D → Option Bool
  | .list ds => if (noDics ds && noDic x && decide (min (PyData.depthAll ds) x.depth ≤ 64)) = true then some (ds.any fun z => PyData.eqv z x) else none
  | .tuple ds => if (noDics ds && noDic x && decide (min (PyData.depthAll ds) x.depth ≤ 64)) = true then some (ds.any fun z => PyData.eqv z x) else none
  | .str z => match x with
    | .str y => if y.length = 1 then some (decide (y.cps.getD 0 0 ∈ z.cps.toList)) else none
    | _ => none
  | _ => none
def isNonD : D → Bool
  | .none => true
  | _ => false
def cmpF : Cop → D → D → Option Bool
  | .eq, a, b => if eqOk a b = true then some (PyData.eqv a b) else none
  | .ne, a, b => if eqOk a b = true then some (!PyData.eqv a b) else none
  | .lt, .int i, .int j => some (decide (i < j))
  | .le, .int i, .int j => some (decide (i ≤ j))
  | .gt, .int i, .int j => some (decide (j < i))
  | .ge, .int i, .int j => some (decide (j ≤ i))
  | .lt, .str x, .str y => some (decide (x.cps.toList < y.cps.toList))
  | .le, .str x, .str y => some (!decide (y.cps.toList < x.cps.toList))
  | .gt, .str x, .str y => some (decide (y.cps.toList < x.cps.toList))
  | .ge, .str x, .str y => some (!decide (x.cps.toList < y.cps.toList))
  | .isin, x, y => inF x y
  | .nin, x, y => (inF x y).map (!·)
  | .is, x, .none => some (isNonD x)
  | .nis, x, .none => some (!isNonD x)
  | .is, .bool a, .bool b => some (decide (a = b))
  | .nis, .bool a, .bool b => some (!decide (a = b))
  | _, _, _ => none
def intsOf : List D → Option (List Int)
  | [] => some []
  | .int i :: r => (intsOf r).map (i :: ·)
  | _ :: _ => none
def blsOf : List D → Option (List Bool)
  | [] => some []
  | .bool b :: r => (blsOf r).map (b :: ·)
  | _ :: _ => none
def strsOf : List D → Option (List Str)
  | [] => some []
  | .str b :: r => (strsOf r).map (b :: ·)
  | _ :: _ => none
def isTy : Ty → D → Bool
  | .int, .int _ => true
  | .int, .bool _ => true
  | .bool, .bool _ => true
  | .str, .str _ => true
  | .tuple, .tuple _ => true
  | .list, .list _ => true
  | _, _ => false
/-- isinstance(x, T) -/
def isiF (t : Ty) : D → Option (D × Bool)
  | .dict _ => none
  | d => bl1 (isTy t d)
def insI (i : Int) : List Int → List Int
  | [] => [i]
  | j :: r => if i ≤ j then i :: j :: r else j :: insI i r
def srtI : List Int → List Int
  | [] => []
  | i :: r => insI i (srtI r)
def maxI : Int → List Int → Int
  | m, [] => m
  | m, i :: r => maxI (if m < i then i else m) r
def minI : Int → List Int → Int
  | m, [] => m
  | m, i :: r => minI (if i < m then i else m) r
def signs (z : Str) : List D := z.cps.toList.map fun c => PyData.str ⟨#[c]⟩
def biF : Bi → List D → Option (D × Bool)
  | .len, [.list ds] => some1 (.int ds.length)
  | .len, [.tuple ds] => some1 (.int ds.length)
  | .len, [.str x] => if x.length ≤ lim then some1 (.int x.length) else none
  | .abs, [.int i] => some1 (.int (if i < 0 then -i else i))
  | .int, [.int i] => some1 (.int i)
  | .int, [.bool b] => some1 (.int (if b then 1 else 0))
  | .str, [.str x] => some1 (.str x)
  | .str, [.int i] => if i.natAbs < 2 ^ 1900 then some1 (.str (toString i)) else none
  | .list, [.list ds] => some (.list ds, true)
  | .list, [.tuple ds] => some (.list ds, true)
  | .list, [.dict [(.dict [], .list ds)]] => some (.list ds, true)
  | .tuple, [.list ds] => some1 (.tuple ds)
  | .tuple, [.tuple ds] => some1 (.tuple ds)
  | .sum, [.list ds] => (intsOf ds).bind fun ns => some1 (.int ns.sum)
  | .max, [.list ds] => (intsOf ds).bind fun ns => match ns with | [] => none | i :: r => some1 (.int (maxI i r))
  | .min, [.list ds] => (intsOf ds).bind fun ns => match ns with | [] => none | i :: r => some1 (.int (minI i r))
  | .all, [.list ds] => (blsOf ds).bind fun bs => bl1 (bs.all id)
  | .any, [.list ds] => (blsOf ds).bind fun bs => bl1 (bs.any id)
  | .isi t, [d] => isiF t d
  | .max2, [.int i, .int j] => some1 (.int (if j > i then j else i))
  | .min2, [.int i, .int j] => some1 (.int (if j < i then j else i))
  | _, _ => none
def ixF : D → D → Option (D × Bool)
  | .list ds, .int i => (atI ds i).bind some1
  | .tuple ds, .int i => (atI ds i).bind some1
  | .str z, .int i => if z.length ≤ lim then (atI z.cps.toList i).bind fun c => some1 (.str ⟨#[c]⟩) else none
  | _, _ => none
def slF : D → Option Int → Option Int → Option (D × Bool)
  | .list ds, lo, hi => some (.list (cutD ds lo hi), true)
  | .tuple ds, lo, hi => some1 (.tuple (cutD ds lo hi))
  | .str z, lo, hi => if z.length ≤ lim then some1 (.str ⟨(cutD z.cps.toList lo hi).toArray⟩) else none
  | _, _, _ => none
def mtF : Mt → List D → Option (D × Bool)
  | .join z, [.list ds] => (strsOf ds).bind fun ys => if (PyData.strOk z && decide ((ys.map (·.length)).sum + ys.length * z.length ≤ lim)) = true then some1 (.str (Txt.join z ys)) else none
  | .join z, [.tuple ds] => (strsOf ds).bind fun ys => if (PyData.strOk z && decide ((ys.map (·.length)).sum + ys.length * z.length ≤ lim)) = true then some1 (.str (Txt.join z ys)) else none
  | _, _ => none
def opF : Op → List D → Option (D × Bool)
  | .bin b, [x, y] => binF b x y
  | .cmp c, [x, y] => (cmpF c x y).bind bl1
  | .bi f, ds => biF f ds
  | .ix, [x, y] => ixF x y
  | .sl false false, [x] => slF x none none
  | .sl true false, [x, .int i] => slF x (some i) none
  | .sl false true, [x, .int j] => slF x none (some j)
  | .sl true true, [x, .int i, .int j] => slF x (some i) (some j)
  | .rev, [.list ds] => some (.list ds.reverse, true)
  | .rev, [.tuple ds] => some1 (.tuple ds.reverse)
  | .neg, [.int i] => some1 (.int (-i))
  | .meth m, ds => mtF m ds
  | _, _ => none
def rngF (lo : Int) : Nat → List D
  | 0 => []
  | n + 1 => .int lo :: rngF (lo + 1) n
def zipF : List D → List D → List D
  | x :: xs, y :: ys => .tuple [x, y] :: zipF xs ys
  | _, _ => []
def enumF (i : Nat) : List D → List D
  | [] => []
  | x :: xs => .tuple [.int i, x] :: enumF (i + 1) xs
/-- the items that a source gives -/
def srcF : Sk → List D → Option (List D)
  | .any, [.list ds] => some ds
  | .any, [.tuple ds] => some ds
  | .any, [.str z] => some (signs z)
  | .rng1, [.int j] => if (decide (j < 2 ^ 62) && decide (-(2 ^ 62) ≤ j)) = true then some (rngF 0 j.toNat) else none
  | .rng2, [.int i, .int j] => if (decide (j < 2 ^ 62) && decide (-(2 ^ 62) ≤ j) && decide (i < 2 ^ 62) && decide (-(2 ^ 62) ≤ i)) = true then some (rngF i (j - i).toNat) else none
  | .zip, [.list xs, .list ys] => some (zipF xs ys)
  | .zip, [.tuple xs, .tuple ys] => some (zipF xs ys)
  | .enum, [.list xs] => some (enumF 0 xs)
  | _, _ => none

/-! ### the evaluator -/
structure Calls where
  call : Nat → List D → Option ((D × Bool) × List D)
  modes : Nat → List Bool
  glob : Nat → D
  wfuel : Nat
/-- a name read as a value -/
def rdv (ρ : Rho) (i : Nat) : Option ((D × Bool) × Rho) := match ρ[i]? with
  | some (some (.val, d)) => some ((d, false), ρ)
  | some (some (.own, d)) => some ((d, false), ρ.set i (some (.val, d)))
  | some (some (.lent, d)) => some ((d, false), ρ.set i (some (.val, d)))
  | _ => none
/-- a name read by an operator: lent as long as the operator works -/
def lendv (ρ : Rho) (i : Nat) : Option (D × Rho × List Nat) := match ρ[i]? with
  | some (some (.val, d)) => some (d, ρ, [])
  | some (some (.own, d)) => some (d, ρ.set i (some (.lent, d)), [i])
  | some (some (.io, d)) => some (d, ρ.set i (some (.lio, d)), [i])
  | some (some (.lent, d)) => some (d, ρ, [])
  | some (some (.lio, d)) => some (d, ρ, [])
  | _ => none
def unlend1 (ρ : Rho) (i : Nat) : Rho := match ρ[i]? with
  | some (some (.lent, d)) => ρ.set i (some (.own, d))
  | some (some (.lio, d)) => ρ.set i (some (.io, d))
  | _ => ρ
def unlend : List Nat → Rho → Rho
  | [], ρ => ρ
  | i :: r, ρ => unlend r (unlend1 ρ i)
/-- what was lent to a call and may be kept by it: no longer our own -/
def drop1 (ρ : Rho) (i : Nat) : Option Rho := match ρ[i]? with
  | some (some (.lent, d)) => some (ρ.set i (some (.val, d)))
  | some (some (.lio, _)) => none
  | _ => some ρ
def dropL : List Nat → Rho → Option Rho
  | [], ρ => some ρ
  | i :: r, ρ => (drop1 ρ i).bind (dropL r)
def noElems : D → Bool
  | .list ds => noMuts ds
  | _ => false
/-- what a call has made of the lists that it stores into -/
def putOuts : List Nat → List D → Rho → Option Rho
  | [], [], ρ => some ρ
  | i :: is, d :: ds, ρ => match ρ[i]? with
    | some (some (.lent, _)) => putOuts is ds (ρ.set i (some (.lent, d)))
    | some (some (.lio, _)) => putOuts is ds (ρ.set i (some (.lio, d)))
    | _ => none
  | _, _, _ => none
def lentAt (ρ : Rho) (i : Nat) : Bool := match ρ[i]? with
  | some (some (.lent, _)) => true
  | some (some (.lio, _)) => true
  | _ => false
def nodupN : List Nat → Bool
  | [] => true
  | a :: l => !l.contains a && nodupN l
def okLent (l : List Nat) (ρ : Rho) : Bool := nodupN l && l.all (lentAt ρ)
mutual
/-- a target bound to data -/
def bindTg : Tg → D → Rho → Option Rho
  | .n i, d, ρ => match ρ[i]? with
    | some (some (.io, _)) => none
    | some (some (.lio, _)) => none
    | some _ => some (ρ.set i (some (.val, d)))
    | none => none
  | .t ts, .tuple ds, ρ => bindTgs ts ds ρ
  | .t _, _, _ => none
def bindTgs : List Tg → List D → Rho → Option Rho
  | [], [], ρ => some ρ
  | t :: ts, d :: ds, ρ => (bindTg t d ρ).bind (bindTgs ts ds)
  | _, _, _ => none
end
def wipeR : List Nat → Rho → Rho
  | [], ρ => ρ
  | v :: vs, ρ => (wipeR vs ρ).set v none
/-- the slots of vs as in ρ0 -/
def backR : List Nat → Rho → Rho → Rho
  | [], _, ρ => ρ
  | v :: vs, ρ0, ρ => (backR vs ρ0 ρ).set v (ρ0.getD v none)
def plainAt (ρ : Rho) (i : Nat) : Bool := match ρ[i]? with
  | some none => true
  | some (some (.val, _)) => true
  | _ => false
/-- the turns of a comprehension -/
def compL (f : Rho → D → Option (List D × Rho)) : List D → Rho → Option (List D × Rho)
  | [], ρ => some ([], ρ)
  | x :: xs, ρ => (f ρ x).bind fun (ys, ρ1) => (compL f xs ρ1).bind fun (zs, ρ2) => some (ys ++ zs, ρ2)
def asBool (r : (D × Bool) × Rho) : Option (Bool × Rho) := match r.1.1 with
  | .bool b => some (b, r.2)
  | _ => none
mutual
def ev (C : Calls) : E → Rho → Option ((D × Bool) × Rho)
  | .c d, ρ => some ((d, false), ρ)
  | .v i, ρ => rdv ρ i
  | .g k, ρ => some ((C.glob k, false), ρ)
  | .tup es, ρ => (evs C es ρ).bind fun (ds, ρ1) => some ((.tuple ds, false), ρ1)
  | .lst es, ρ => (evs C es ρ).bind fun (ds, ρ1) => some ((.list ds, true), ρ1)
  | .op o es, ρ => (evbs C es ρ).bind fun (ds, ρ1, B) => (opF o ds).bind fun r => some (r, unlend B ρ1)
  | .and a b, ρ => (ev C a ρ).bind fun r => (asBool r).bind fun (x, ρ1) => if x = true then ev C b ρ1 else some ((.bool false, false), ρ1)
  | .or a b, ρ => (ev C a ρ).bind fun r => (asBool r).bind fun (x, ρ1) => if x = true then some ((.bool true, false), ρ1) else ev C b ρ1
  | .not a, ρ => (ev C a ρ).bind fun r => (asBool r).bind fun (x, ρ1) => some ((.bool !x, false), ρ1)
  | .ite c a b, ρ => (ev C c ρ).bind fun r => (asBool r).bind fun (x, ρ1) => if x = true then ev C a ρ1 else ev C b ρ1
  | .chain o p a b c, ρ => (ev C a ρ).bind fun (x, ρ1) => (ev C b ρ1).bind fun (y, ρ2) => (cmpF o x.1 y.1).bind fun k =>
      if k = true then (ev C c ρ2).bind fun (z, ρ3) => (cmpF p y.1 z.1).bind fun l => some ((.bool l, false), ρ3) else some ((.bool false, false), ρ2)
  | .call f es, ρ => (evas C (C.modes f) es ρ).bind fun (ds, ρ1, B, ios) => if okLent (ios ++ B) ρ1 = true then (C.call f ds).bind fun (r, outs) =>
      if outs.all noElems = true then (putOuts ios outs ρ1).bind fun ρ2 =>
        if noMut r.1 = true then some (r, unlend (ios ++ B) ρ2) else (dropL B (unlend ios ρ2)).bind fun ρ3 => some (r, ρ3)
      else none else none
  | .comp elt tg sk ses cond own, ρ => (evbs C ses ρ).bind fun (ds, ρ1, B) => (srcF sk ds).bind fun xs =>
      if own.all (plainAt ρ1) = true then
        (compL (fun ρa x => (bindTg tg x ρa).bind fun ρb => (evcs C cond ρb).bind fun (k, ρc) =>
          if k = true then (ev C elt ρc).bind fun (r, ρd) => some ([r.1], wipeR own ρd) else some ([], wipeR own ρc)) xs (wipeR own ρ1)).bind fun (ys, ρ2) =>
        if ys.length ≤ lim then some ((.list ys, true), unlend B (backR own ρ1 ρ2)) else none
      else none
  | .pop i, ρ => match ρ[i]? with
    | some (some (.own, .list ds)) => ds.getLast?.bind fun d => some ((d, false), ρ.set i (some (.own, .list ds.dropLast)))
    | some (some (.io, .list ds)) => ds.getLast?.bind fun d => some ((d, false), ρ.set i (some (.io, .list ds.dropLast)))
    | _ => none
/-- items of a display -/
def evs (C : Calls) : List E → Rho → Option (List D × Rho)
  | [], ρ => some ([], ρ)
  | e :: es, ρ => (ev C e ρ).bind fun (r, ρ1) => (evs C es ρ1).bind fun (ds, ρ2) => some (r.1 :: ds, ρ2)
/-- operands -/
def evbs (C : Calls) : List E → Rho → Option (List D × Rho × List Nat)
  | [], ρ => some ([], ρ, [])
  | .v i :: es, ρ => (lendv ρ i).bind fun (d, ρ1, B) => (evbs C es ρ1).bind fun (ds, ρ2, B2) => some (d :: ds, ρ2, B ++ B2)
  | e :: es, ρ => (ev C e ρ).bind fun (r, ρ1) => (evbs C es ρ1).bind fun (ds, ρ2, B2) => some (r.1 :: ds, ρ2, B2)
/-- arguments: B what is lent to be read, ios what is lent to be stored into -/
def evas (C : Calls) : List Bool → List E → Rho → Option (List D × Rho × List Nat × List Nat)
  | [], [], ρ => some ([], ρ, [], [])
  | true :: ms, .v i :: es, ρ => match ρ[i]? with
    | some (some (.own, d)) => (evas C ms es (ρ.set i (some (.lent, d)))).bind fun (ds, ρ2, B, ios) => some (d :: ds, ρ2, B, i :: ios)
    | some (some (.io, d)) => (evas C ms es (ρ.set i (some (.lio, d)))).bind fun (ds, ρ2, B, ios) => some (d :: ds, ρ2, B, i :: ios)
    | _ => none
  | false :: ms, .v i :: es, ρ => match ρ[i]? with
    | some (some (.val, d)) => (evas C ms es ρ).bind fun (ds, ρ2, B, ios) => some (d :: ds, ρ2, B, ios)
    | some (some (.own, d)) => (evas C ms es (ρ.set i (some (.lent, d)))).bind fun (ds, ρ2, B, ios) => some (d :: ds, ρ2, i :: B, ios)
    | some (some (.io, d)) => (evas C ms es (ρ.set i (some (.lio, d)))).bind fun (ds, ρ2, B, ios) => some (d :: ds, ρ2, i :: B, ios)
    | _ => none
  | false :: ms, e :: es, ρ => (ev C e ρ).bind fun (r, ρ1) => (evas C ms es ρ1).bind fun (ds, ρ2, B, ios) => some (r.1 :: ds, ρ2, B, ios)
  | _, _, _ => none
/-- tests of a comprehension -/
def evcs (C : Calls) : List E → Rho → Option (Bool × Rho)
  | [], ρ => some (true, ρ)
  | [e], ρ => (ev C e ρ).bind asBool
  | _ :: _ :: _, _ => none
end
inductive Fl where
  | nx | bk | ct | rt (r : D × Bool)
/-- a block's items, new lists kept apart -/
def evfs (C : Calls) : List E → Rho → Option (List (D × Bool) × Rho)
  | [], ρ => some ([], ρ)
  | e :: es, ρ => (ev C e ρ).bind fun (r, ρ1) => (evfs C es ρ1).bind fun (ds, ρ2) => some (r :: ds, ρ2)
/-- a name bound -/
def setv (i : Nat) (r : D × Bool) (ρ : Rho) : Option Rho := match ρ[i]? with
  | some (some (.io, _)) => none
  | some (some (.lio, _)) => none
  | some _ => some (ρ.set i (some (if r.2 = true then Kd.own else Kd.val, r.1)))
  | none => none
def setvs : List Nat → List (D × Bool) → Rho → Option Rho
  | [], [], ρ => some ρ
  | i :: is, r :: rs, ρ => (setvs is rs ρ).bind (setv i r)
  | _, _, _ => none
def asgF : Tg → D × Bool → Rho → Option Rho
  | .n i, r, ρ => setv i r ρ
  | .t ts, r, ρ => bindTg (.t ts) r.1 ρ
/-- the turns of a for -/
def forL (f : Rho → D → Option (Fl × Rho)) : List D → Rho → Option (Fl × Rho)
  | [], ρ => some (.nx, ρ)
  | x :: xs, ρ => (f ρ x).bind fun (fl, ρ1) => match fl with
    | .nx => forL f xs ρ1
    | .ct => forL f xs ρ1
    | .bk => some (.nx, ρ1)
    | .rt r => some (.rt r, ρ1)
/-- the turns of a while -/
def whlL (c : Rho → Option (Bool × Rho)) (f : Rho → Option (Fl × Rho)) : Nat → Rho → Option (Fl × Rho)
  | 0, _ => none
  | n + 1, ρ => (c ρ).bind fun (k, ρ1) => if k = true then (f ρ1).bind fun (fl, ρ2) => match fl with
    | .nx => whlL c f n ρ2
    | .ct => whlL c f n ρ2
    | .bk => some (.nx, ρ2)
    | .rt r => some (.rt r, ρ2)
    else some (.nx, ρ1)
def stored (d : D) (i : Int) (x : D) : Option D := match d with
  | .list ds => (ixN ds.length i).bind fun j => some (.list (ds.set j x))
  | _ => none
def mutAt (ρ : Rho) (i : Nat) : Bool := match ρ[i]? with
  | some (some (.own, .list _)) => true
  | some (some (.io, .list _)) => true
  | _ => false
def augL (b : Bop) (ds : List D) (d : D) : Option D := match b, d with
  | .add, .list es => if ds.length + es.length ≤ lim then some (.list (ds ++ es)) else none
  | _, _ => none
def augAt (ρ : Rho) (i : Nat) : Bool := match ρ[i]? with
  | some (some (.own, .list _)) => true
  | some (some (.io, .list _)) => true
  | some (some (.val, .int _)) => true
  | some (some (.val, .str _)) => true
  | _ => false
def retv (ρ : Rho) (i : Nat) : Option ((D × Bool) × Rho) := match ρ[i]? with
  | some (some (.val, d)) => some ((d, false), ρ)
  | some (some (.own, d)) => some ((d, true), ρ)
  | _ => none
mutual
def exec (C : Calls) : S → Rho → Option (Fl × Rho)
  | .asg tg e, ρ => (ev C e ρ).bind fun (r, ρ1) => (asgF tg r ρ1).bind fun ρ2 => some (.nx, ρ2)
  | .par is es, ρ => (evfs C es ρ).bind fun (rs, ρ1) => (setvs is rs ρ1).bind fun ρ2 => some (.nx, ρ2)
  | .aug i b e, ρ => if augAt ρ i = true then (ev C e ρ).bind fun (r, ρ1) => match ρ1[i]? with
    | some (some (.own, .list ds)) => (augL b ds r.1).bind fun d => some (.nx, ρ1.set i (some (.own, d)))
    | some (some (.io, .list ds)) => (augL b ds r.1).bind fun d => some (.nx, ρ1.set i (some (.io, d)))
    | some (some (.val, .int x)) => (binF b (.int x) r.1).bind fun z => some (.nx, ρ1.set i (some (.val, z.1)))
    | some (some (.val, .str x)) => (binF b (.str x) r.1).bind fun z => some (.nx, ρ1.set i (some (.val, z.1)))
    | _ => none
    else none
  | .setix i ix e, ρ => if mutAt ρ i = true then (ev C e ρ).bind fun (r, ρ1) => (ev C ix ρ1).bind fun (j, ρ2) => match j.1, ρ2[i]? with
    | .int k, some (some (.own, d)) => (stored d k r.1).bind fun d' => some (.nx, ρ2.set i (some (.own, d')))
    | .int k, some (some (.io, d)) => (stored d k r.1).bind fun d' => some (.nx, ρ2.set i (some (.io, d')))
    | _, _ => none
    else none
  | .append i e, ρ => if mutAt ρ i = true then (ev C e ρ).bind fun (r, ρ1) => match ρ1[i]? with
    | some (some (.own, .list ds)) => if ds.length < lim then some (.nx, ρ1.set i (some (.own, .list (ds ++ [r.1])))) else none
    | some (some (.io, .list ds)) => if ds.length < lim then some (.nx, ρ1.set i (some (.io, .list (ds ++ [r.1])))) else none
    | _ => none
    else none
  | .ex e, ρ => (ev C e ρ).bind fun (_, ρ1) => some (.nx, ρ1)
  | .ret (.v i), ρ => (retv ρ i).bind fun (r, ρ1) => some (.rt r, ρ1)
  | .ret e, ρ => (ev C e ρ).bind fun (r, ρ1) => some (.rt r, ρ1)
  | .retN, ρ => some (.rt (.none, false), ρ)
  | .ife c a b, ρ => (ev C c ρ).bind fun r => (asBool r).bind fun (k, ρ1) => if k = true then execs C a ρ1 else execs C b ρ1
  | .forS tg sk ses body, ρ => (evs C ses ρ).bind fun (ds, ρ1) => (srcF sk ds).bind fun xs => forL (fun ρa x => (bindTg tg x ρa).bind fun ρb => execs C body ρb) xs ρ1
  | .whl c body, ρ => whlL (fun ρa => (ev C c ρa).bind asBool) (fun ρa => execs C body ρa) C.wfuel ρ
  | .brk, ρ => some (.bk, ρ)
  | .cont, ρ => some (.ct, ρ)
  | .pass, ρ => some (.nx, ρ)
  | .never, _ => none
def execs (C : Calls) : List S → Rho → Option (Fl × Rho)
  | [], ρ => some (.nx, ρ)
  | s :: r, ρ => (exec C s ρ).bind fun (fl, ρ1) => match fl with
    | .nx => execs C r ρ1
    | .bk => some (.bk, ρ1)
    | .ct => some (.ct, ρ1)
    | .rt r => some (.rt r, ρ1)
end
/-! ### a program: its defs one below the other -/
structure Fn where
  name : Str
  ps : List Str
  N : List Str
  modes : List Bool
  body : List S
def args0 : List Bool → List D → Option Rho
  | [], [] => some []
  | m :: ms, d :: ds => (args0 ms ds).bind fun ρ => some (some (if m = true then Kd.io else Kd.val, d) :: ρ)
  | _, _ => none
def outsOf : List Bool → Rho → Option (List D)
  | [], _ => some []
  | true :: ms, some (.io, d) :: ρ => (outsOf ms ρ).map (d :: ·)
  | true :: _, _ => none
  | false :: ms, _ :: ρ => outsOf ms ρ
  | false :: _, [] => none
structure Prg where
  fns : List Fn
  globs : List (Str × D)
  wfuel : Nat
def Prg.modes (P : Prg) (f : Nat) : List Bool := match P.fns[f]? with
  | some fn => fn.modes
  | none => []
def Prg.glob (P : Prg) (k : Nat) : D := match P.globs[k]? with
  | some g => g.2
  | none => .none
def Prg.run (P : Prg) : Nat → Nat → List D → Option ((D × Bool) × List D)
  | 0, _, _ => none
  | n + 1, f, ds => match P.fns[f]? with
    | none => none
    | some fn => (args0 fn.modes ds).bind fun ρ => (execs ⟨P.run n, P.modes, P.glob, P.wfuel⟩ fn.body (ρ ++ List.replicate (fn.N.length - ds.length) none)).bind fun (fl, ρ1) => match fl with
      | .rt r => (outsOf fn.modes ρ1).bind fun outs => some (r, outs)
      | .nx => (outsOf fn.modes ρ1).bind fun outs => some ((.none, false), outs)
      | _ => none
end MW

namespace MW
open PySem PySem.Spec PyProof.Rows L2

/-! ### operands -/
/-- an operand: data, or a list lent to the operator (W: what may be stored into) -/
def Ro (K : PySem.W.Frag) (A W : Addr → Prop) (H : Hp) (v : V) (d : D) : Prop :=
  Rp K A H v d ∨ ∃ (a : Addr) (xs : List V) (ds : List D), v = V.ref a ∧ d = .list ds ∧ H a = some (.lst xs) ∧ ¬ W a ∧ RpAll K A H xs ds
def RoAll (K : PySem.W.Frag) (A W : Addr → Prop) (H : Hp) : List V → List D → Prop
  | [], [] => True
  | v :: vs, d :: ds => Ro K A W H v d ∧ RoAll K A W H vs ds
  | _, _ => False
/-- what an operator gives -/
def ResO (K : PySem.W.Frag) (A : Addr → Prop) (H H1 : Hp) (v : V) (r : D × Bool) : Prop :=
  if r.2 = true then ∃ a xs ds, v = V.ref a ∧ H a = none ∧ H1 a = some (.lst xs) ∧ r.1 = .list ds ∧ RpAll K (fun b => A b ∨ b = a) H1 xs ds else Rp K A H1 v r.1
section
variable {K : PySem.W.Frag} {A W A' W' : Addr → Prop} {H H1 : Hp}
theorem same_upd {p : Addr} {o : HO} (h : H p = none) : Same H (upd H p o) := fun b x e => by
  rw [upd_ne (ne_of_none e h)]
  exact e
theorem resO_new {a : Addr} {xs : List V} {ds : List D} (n : H a = none) (r : RpAll K A H xs ds) : ResO K A H (upd H a (.lst xs)) (.ref a) (.list ds, true) :=
  (if_pos rfl).mpr ⟨a, xs, ds, rfl, n, upd_same, rfl, RpAll.mono (fun _ z => z) (.ofSame (same_upd n)) _ _ (RpAll.untr n _ _ r)⟩
theorem resO_tup {a : Addr} {xs : List V} {ds : List D} (n : H a = none) (r : RpAll K A H xs ds) : ResO K A H (upd H a (.tup xs)) (.ref a) (.tuple ds, false) :=
  (if_neg Bool.false_ne_true).mpr (.tup (.of upd_same) (RpAll.mono (fun _ z => z) (.ofSame (same_upd n)) _ _ r))
theorem resO_rp {v : V} {d : D} (r : Rp K A H v d) : ResO K A H H v (d, false) := (if_neg Bool.false_ne_true).mpr r
theorem Ro.of {v : V} {d : D} (h : Rp K A H v d) : Ro K A W H v d := .inl h
theorem Ro.step {v : V} {d : D} (h : Ro K A W H v d) (s : ∀ b, A' b → A b ∨ H b = none) (w : ∀ b, W' b → W b ∨ H b = none) (wa : ∀ b, W b → A b) (k : Kp W H H1) : Ro K A' W' H1 v d := by
  rcases h with h | ⟨a, xs, ds, e1, e2, e3, n, r⟩
  · exact .inl (Rp.step s (k.mono wa) _ _ h)
  · refine .inr ⟨a, xs, ds, e1, e2, k _ _ e3 fun z => absurd z n, fun z => (w _ z).elim n fun z => ?_, RpAll.step s (k.mono wa) _ _ r⟩
    rw [e3] at z
    cases z
theorem RoAll.step (s : ∀ b, A' b → A b ∨ H b = none) (w : ∀ b, W' b → W b ∨ H b = none) (wa : ∀ b, W b → A b) (k : Kp W H H1) : ∀ {vs : List V} {ds : List D}, RoAll K A W H vs ds → RoAll K A' W' H1 vs ds
  | [], [], _ => True.intro
  | _ :: _, _ :: _, ⟨h, r⟩ => ⟨h.step s w wa k, RoAll.step s w wa k r⟩
  | [], _ :: _, h => h.elim
  | _ :: _, [], h => h.elim
theorem Ro.int {v : V} {i : Int} (h : Ro K A W H v (.int i)) : v = .int i := by
  rcases h with h | ⟨_, _, _, _, e, _⟩
  · cases h; rfl
  · cases e
theorem Ro.bl {v : V} {i : Bool} (h : Ro K A W H v (.bool i)) : v = .bl i := by
  rcases h with h | ⟨_, _, _, _, e, _⟩
  · cases h; rfl
  · cases e
theorem Ro.non {v : V} (h : Ro K A W H v .none) : v = .non := by
  rcases h with h | ⟨_, _, _, _, e, _⟩
  · cases h; rfl
  · cases e
theorem Ro.str {v : V} {x : Str} (h : Ro K A W H v (.str x)) : v = .str x ∧ PyData.strOk x = true := by
  rcases h with h | ⟨_, _, _, _, e, _⟩
  · cases h with | str _ ok => exact ⟨rfl, ok⟩
  · cases e
theorem Ro.lst {v : V} {ds : List D} (h : Ro K A W H v (.list ds)) : ∃ a xs, v = .ref a ∧ H a = some (.lst xs) ∧ RpAll K A H xs ds := by
  rcases h with h | ⟨a, xs, _, e0, e, h1, _, h2⟩
  · cases h with | lst n h r => exact ⟨_, _, rfl, h, r⟩
  · cases e; exact ⟨a, xs, e0, h1, h2⟩
theorem Ro.tup {v : V} {ds : List D} (h : Ro K A W H v (.tuple ds)) : ∃ a xs, v = .ref a ∧ SqT K H a xs ∧ RpAll K A H xs ds := by
  rcases h with h | ⟨_, _, _, _, e, _⟩
  · cases h with | tup h r => exact ⟨_, _, rfl, h, r⟩
  · cases e
theorem Ro.dp {v : V} {d : D} (n : noDic d = true) (h : Ro K A W H v d) : Dp K H v d := by
  rcases h with h | ⟨a, xs, ds, rfl, rfl, h1, _, h2⟩
  · exact h.dp _ _ n
  · exact .lst (.of h1) (RpAll.dp _ _ (by simpa [noDic] using n) h2)
theorem Ro.lay {v : V} {d : D} (n : noDic d = true) (h : Ro K A W H v d) : d.canLay0 = true := by
  rcases h with h | ⟨a, xs, ds, rfl, rfl, h1, _, h2⟩
  · exact h.lay _ _ n
  · simpa [PyData.canLay0] using RpAll.lay _ _ (by simpa [noDic] using n) h2
end
theorem strOk_append {x y : Str} (hx : PyData.strOk x = true) (hy : PyData.strOk y = true) : PyData.strOk (x ++ y) = true := by
  have hx' : (x.cps.all fun c => decide (c < 0x110000)) = true := hx
  have hy' : (y.cps.all fun c => decide (c < 0x110000)) = true := hy
  show ((x.cps ++ y.cps).all fun c => decide (c < 0x110000)) = true
  rw [Array.all_append, hx', hy']
  rfl

/-! ### binary operators by values -/
def BinOk (X : Cx) (f : Value → Value → Sem Value) (F : D → D → Option (D × Bool)) : Prop := ∃ r : R2, OpR X f r ∧
  ∀ (A W : Addr → Prop) (H : Hp) (x y : V) (d e : D) (z : D × Bool) (Q : VK), Ro X.K A W H x d → Ro X.K A W H y e → F d e = some z → (∀ v H1, Same H H1 → ResO X.K A H H1 v z → Q v H1) → r x y H Q
theorem small_mul {i : Int} (h : i.natAbs < 2 ^ 64) : -(2 ^ 64) < i ∧ i < 2 ^ 64 := by omega
section
variable {X : Cx}
theorem bin_add : BinOk X (binaryOp .Add) (binF .add) := by
  refine ⟨_, OpR.or op_add (OpR.or op_add_str (OpR.or op_cat op_catA)), fun A W H x y d e z Q hx hy hF q => ?_⟩
  unfold binF at hF
  split at hF
  all_goals first | (simp at *; done) | skip
  · cases hx.int; cases hy.int; cases hF
    exact .inl ⟨_, _, rfl, rfl, q _ _ (Same.refl _) (resO_rp (.int _))⟩
  · obtain ⟨rfl, o1⟩ := hx.str
    obtain ⟨rfl, o2⟩ := hy.str
    split at hF
    · cases hF
      exact .inr (.inl ⟨_, _, rfl, rfl, by assumption, q _ _ (Same.refl _) (resO_rp (.str _ (strOk_append o1 o2)))⟩)
    · cases hF
  · obtain ⟨a, xs, rfl, h1, r1⟩ := hx.lst
    obtain ⟨b, ys, rfl, h2, r2⟩ := hy.lst
    split at hF
    · cases hF
      rename_i hl
      exact .inr (.inr (.inl ⟨a, b, xs, ys, rfl, rfl, h1, h2, by rw [r1.length, r2.length]; exact hl, fun p np => q _ _ (same_upd np) (resO_new np (r1.append r2))⟩))
    · cases hF
  · obtain ⟨a, xs, rfl, h1, r1⟩ := hx.tup
    obtain ⟨b, ys, rfl, h2, r2⟩ := hy.tup
    split at hF
    · cases hF
      rename_i hl
      refine .inr (.inr (.inr ⟨a, b, xs, ys, rfl, rfl, h1, h2, by rw [r1.length, r2.length]; exact hl, fun e => ?_, fun _ e => ?_, fun _ _ p np => q _ _ (same_upd np) (resO_tup np (r1.append r2))⟩))
      · subst e
        cases r1
        exact q _ _ (Same.refl _) (resO_rp (.tup h2 r2))
      · subst e
        cases r2
        rw [List.append_nil] at q
        exact q _ _ (Same.refl _) (resO_rp (.tup h1 r1))
    · cases hF
theorem bin_sub : BinOk X (binaryOp .Sub) (binF .sub) := by
  refine ⟨_, op_sub, fun A W H x y d e z Q hx hy hF q => ?_⟩
  unfold binF at hF
  split at hF
  all_goals first | (simp at *; done) | skip
  · cases hx.int; cases hy.int; cases hF
    exact ⟨_, _, rfl, rfl, q _ _ (Same.refl _) (resO_rp (.int _))⟩
theorem bin_mul : BinOk X (binaryOp .Mult) (binF .mul) := by
  refine ⟨_, OpR.or op_mul op_repT, fun A W H x y d e z Q hx hy hF q => ?_⟩
  unfold binF at hF
  split at hF
  all_goals first | (simp at *; done) | skip
  · cases hx.int; cases hy.int
    split at hF
    · cases hF
      rename_i hc
      simp only [Bool.or_eq_true, decide_eq_true_eq] at hc
      exact .inl ⟨_, _, rfl, rfl, hc.imp small_mul small_mul, q _ _ (Same.refl _) (resO_rp (.int _))⟩
    · cases hF
  · obtain ⟨a, xs, rfl, h1, r1⟩ := hx.tup
    cases hy.int
    split at hF
    · cases hF
      rename_i hc
      simp only [Bool.and_eq_true, decide_eq_true_eq] at hc
      obtain ⟨⟨⟨c1, c2⟩, c3⟩, c4⟩ := hc
      have hl := r1.length
      refine .inr ⟨a, _, xs, rfl, rfl, h1, fun e => by rw [e] at hl; simp at hl; omega, c3, c4, by omega, fun p np => q _ _ (same_upd np) (resO_tup np ?_)⟩
      generalize (Int.toNat _) = m
      induction m with
      | zero => exact .nil
      | succ m ih =>
        rw [List.replicate_succ, List.replicate_succ, List.flatten_cons, List.flatten_cons]
        exact r1.append ih
    · cases hF
theorem bin_fdiv : BinOk X (binaryOp .FloorDiv) (binF .fdiv) := by
  refine ⟨_, op_fdiv, fun A W H x y d e z Q hx hy hF q => ?_⟩
  unfold binF at hF
  split at hF
  all_goals first | (simp at *; done) | skip
  · cases hx.int; cases hy.int
    split at hF
    · cases hF
      rename_i hc
      simp only [Bool.and_eq_true, decide_eq_true_eq] at hc
      exact ⟨_, _, rfl, rfl, hc, q _ _ (Same.refl _) (resO_rp (.int _))⟩
    · cases hF
theorem bin_mod : BinOk X (binaryOp .Mod) (binF .mod) := by
  refine ⟨_, op_mod, fun A W H x y d e z Q hx hy hF q => ?_⟩
  unfold binF at hF
  split at hF
  all_goals first | (simp at *; done) | skip
  · cases hx.int; cases hy.int
    split at hF
    · cases hF
      exact ⟨_, _, rfl, rfl, by assumption, q _ _ (Same.refl _) (resO_rp (.int _))⟩
    · cases hF
theorem bin_pow : BinOk X (binaryOp .Pow) (binF .pow) := by
  refine ⟨_, op_pow, fun A W H x y d e z Q hx hy hF q => ?_⟩
  unfold binF at hF
  split at hF
  all_goals first | (simp at *; done) | skip
  · cases hx.int; cases hy.int
    split at hF
    · cases hF
      rename_i hc
      simp only [Bool.and_eq_true, decide_eq_true_eq] at hc
      exact ⟨_, _, rfl, rfl, ⟨hc.1.1, by omega, hc.2⟩, q _ _ (Same.refl _) (resO_rp (.int _))⟩
    · cases hF
theorem bin_band : BinOk X (binaryOp .BitAnd) (binF .band) := by
  refine ⟨_, op_and, fun A W H x y d e z Q hx hy hF q => ?_⟩
  unfold binF at hF
  split at hF
  all_goals first | (simp at *; done) | skip
  · cases hx.int; cases hy.int; cases hF
    exact ⟨_, _, rfl, rfl, q _ _ (Same.refl _) (resO_rp (.int _))⟩
theorem bin_bor : BinOk X (binaryOp .BitOr) (binF .bor) := by
  refine ⟨_, op_or, fun A W H x y d e z Q hx hy hF q => ?_⟩
  unfold binF at hF
  split at hF
  all_goals first | (simp at *; done) | skip
  · cases hx.int; cases hy.int; cases hF
    exact ⟨_, _, rfl, rfl, q _ _ (Same.refl _) (resO_rp (.int _))⟩
theorem bin_bxor : BinOk X (binaryOp .BitXor) (binF .bxor) := by
  refine ⟨_, op_xor, fun A W H x y d e z Q hx hy hF q => ?_⟩
  unfold binF at hF
  split at hF
  all_goals first | (simp at *; done) | skip
  · cases hx.int; cases hy.int; cases hF
    exact ⟨_, _, rfl, rfl, q _ _ (Same.refl _) (resO_rp (.int _))⟩
def Bop.op : Bop → Operator
  | .add => .Add | .sub => .Sub | .mul => .Mult | .fdiv => .FloorDiv | .mod => .Mod | .pow => .Pow | .band => .BitAnd | .bor => .BitOr | .bxor => .BitXor
theorem bin_ok : ∀ b : Bop, BinOk X (binaryOp b.op) (binF b)
  | .add => bin_add | .sub => bin_sub | .mul => bin_mul | .fdiv => bin_fdiv | .mod => bin_mod | .pow => bin_pow | .band => bin_band | .bor => bin_bor | .bxor => bin_bxor
end
end MW

namespace HT
open PySem PySem.Spec PyProof.Rows L2
section
variable {prog : Program} {w : World} {A : Around} {E : Value → Shared → Prop} {s : Shared}
theorem fm_congr {α β : Type} {f g : α → Option β} : ∀ {l : List α}, (∀ m, m ∈ l → f m = g m) → l.filterMap f = l.filterMap g
  | [], _ => rfl
  | a :: l, h => by
    rw [List.filterMap_cons, List.filterMap_cons, h a List.mem_cons_self, fm_congr fun m hm => h m (List.mem_cons_of_mem _ hm)]
/-- the row turned round -/
theorem pick_rev (xs : Array Value) : ((List.range xs.size).filterMap fun (m : Nat) => xs[(((xs.size : Int) - 1) + (m : Int) * (-1)).toNat]?).toArray = xs.toList.reverse.toArray := by
  congr 1
  have h : ∀ m, m ∈ List.range xs.size → (xs[(((xs.size : Int) - 1) + (m : Int) * (-1)).toNat]? : Option Value) = xs.toList.reverse[m]? := by
    intro m hm
    have hm' : m < xs.size := List.mem_range.mp hm
    have e : (((xs.size : Int) - 1) + (m : Int) * (-1)).toNat = xs.size - 1 - m := by omega
    rw [e, List.getElem?_reverse (by simpa using hm')]
    simp
  rw [show (List.range xs.size).filterMap (fun (m : Nat) => xs[(((xs.size : Int) - 1) + (m : Int) * (-1)).toNat]?) = (List.range xs.size).filterMap (fun m => xs.toList.reverse[m]?) from fm_congr h]
  have hz : xs.size = xs.toList.reverse.length := by simp
  rw [hz]
  generalize xs.toList.reverse = l
  induction l with
  | nil => rfl
  | cons a l ih =>
    rw [List.length_cons, List.range_succ_eq_map, List.filterMap_cons, List.filterMap_map]
    show a :: _ = a :: l
    congr 1
theorem sliceApplied_rev {sl : Addr} {vl vu vs : Value} {n : Nat} {Q : Int × Int × Nat → Shared → Prop} (hs : s.heap.IsSliceOf sl vl vu vs) (pl : IsPart vl none) (pu : IsPart vu none) (ps : IsPart vs (some (-1)))
    (h : Q ((n : Int) - 1, -1, n) s) : wpAny (model prog w) A (Builtin.Slice.sliceApplied (.ref sl) (pure (n : Int))) Q E s := by
  obtain ⟨os, hos, hcs, hds⟩ := id hs
  unfold Builtin.Slice.sliceApplied Builtin.Slice.sliceFields
  refine wpAny_bind (wpAny_bind (wpAny_field hos hds (x := vl) rfl (wpAny_bind (wpAny_field hos hds (x := vu) rfl (wpAny_bind (wpAny_field hos hds (x := vs) rfl (wpAny_pure ?_)))))))
  refine wpAny_bind (slicePart_ ps ?_)
  show wpAny _ _ (if ((-1 : Int) == 0) = true then _ else _) _ _ s
  rw [if_neg (by decide)]
  refine wpAny_bind (slicePart_ pl (wpAny_bind (slicePart_ pu (wpAny_bind (wpAny_pure ?_)))))
  show wpAny _ _ (match Builtin.Slice.sliceAdjust none none (-1) (n : Int) with | (lo, hi) => pure (lo, (-1 : Int), Builtin.Slice.slicePlaces lo hi (-1))) _ _ s
  have e : Builtin.Slice.sliceAdjust none none (-1) (n : Int) = ((n : Int) - 1, -1) := rfl
  rw [e]
  show wpAny _ _ (pure ((n : Int) - 1, (-1 : Int), Builtin.Slice.slicePlaces ((n : Int) - 1) (-1) (-1))) _ _ s
  have e2 : Builtin.Slice.slicePlaces ((n : Int) - 1) (-1) (-1) = n := by
    unfold Builtin.Slice.slicePlaces
    rw [if_neg (by decide)]
    rw [show -(-1 : Int) = 1 from rfl, Int.ediv_one]
    split <;> omega
  rw [e2]
  exact wpAny_pure h
theorem getItem_tuple_rev {t sl : Addr} {items : Array Value} {vl vu vs : Value} {Q : Value → Shared → Prop} (ht : IsTup s.heap t items) (hs : s.heap.IsSliceOf sl vl vu vs) (pl : IsPart vl none) (pu : IsPart vu none) (ps : IsPart vs (some (-1)))
    (h : Q (.ref s.heap.objs.size) { s with heap := s.heap.push { cls := .type "tuple", data := .seq items.toList.reverse.toArray } })
    (hsz : items.size ≤ sizeLine) : wpAny (model prog w) A (getItem (.ref t) (.ref sl)) Q E s := by
  have htake : sizeOk (.seq items.toList.reverse.toArray) := by
    show items.toList.reverse.toArray.size ≤ sizeLine
    simpa using hsz
  obtain ⟨os, hos, hcs, hds⟩ := id hs
  have hTs : s.TypeIs (.ref sl) "slice" := ⟨os, hos, hcs⟩
  unfold getItem
  try with_reducible refine wpAny_holding ?_
  first | refine wpAny_bind (wpAny_pure ?_) | skip
  refine wpAny_bind (wpAny_sequenceKey ht.typeIs (by decide) ?_)
  refine wpAny_bind (wpAny_callSpecial?_slot (name := Str.ofString "__getitem__") ht.typeIs PyProof.Rows.slot_tuple_getitem
    (wpAny_call_entry PyProof.Rows.slot_tuple_getitem ht.typeIs entry_tuple_getitem ?_ (args_tuple_getitem _ _)))
  show wpAny _ _ (Builtin.Tuple.tupleItemsOf (.ref t) >>= _) _ _ s
  refine wpAny_bind (tupleItemsOf_ ht ?_)
  refine wpAny_bind (wpAny_typeOf hTs ?_)
  rw [if_pos (by decide)]
  refine wpAny_bind (sliceApplied_rev hs pl pu ps ?_)
  show wpAny _ _ (if (((items.size : Int) - 1) == 0 && (-1 : Int) == 1 && items.size == items.size) = true then _ else _) _ _ s
  rw [if_neg (by simp), pick_rev]
  first
    | exact wpAny_bind (m := Builtin.Tuple.tupleExact _) (wpAny_newObj_type (wpAny_pure ⟨_, rfl, wpAny_pure h⟩) htake)
    | exact wpAny_bind (m := Builtin.Tuple.tupleExact _) (wpAny_newObj_type (wpAny_bind (wpAny_pure (wpAny_pure ⟨_, rfl, wpAny_pure h⟩))) htake)
    | exact wpAny_bind (wpAny_bind (m := Builtin.Tuple.tupleExact _) (wpAny_newObj_type (wpAny_pure (wpAny_pure ⟨_, rfl, wpAny_pure h⟩)) htake))
    | exact wpAny_bind (wpAny_bind (m := Builtin.Tuple.tupleExact _) (wpAny_newObj_type (wpAny_pure ⟨_, rfl, wpAny_pure h⟩) htake))
end
end HT
namespace MW
open PySem PySem.Spec PyProof.Rows L2

/-! ### comparisons by values -/
def CmpOk (X : Cx) (op : CmpOp) (F : D → D → Option Bool) : Prop := ∃ r : R2, OpR X (compareOp op) r ∧
  ∀ (A W : Addr → Prop) (H : Hp) (x y : V) (d e : D) (k : Bool) (Q : VK), Ro X.K A W H x d → Ro X.K A W H y e → F d e = some k → Q (.bl k) H → r x y H Q
section
variable {X : Cx}
def rEqM (K : PySem.W.Frag) : R2 := fun x y H Q => ∃ d e, Dp K H x d ∧ Dp K H y e ∧ d.canLay0 = true ∧ e.canLay0 = true ∧ min d.depth e.depth ≤ 64 ∧ Q (.bl (PyData.eqv d e)) H
def rNeM (K : PySem.W.Frag) : R2 := fun x y H Q => ∃ d e, Dp K H x d ∧ Dp K H y e ∧ d.canLay0 = true ∧ e.canLay0 = true ∧ min d.depth e.depth ≤ 64 ∧ Q (.bl (!PyData.eqv d e)) H
theorem op_eqM (hu : X.A.units + 65 < cLine) : OpR X (compareOp .Eq) (rEqM X.K) := by
  intro pins s σ H x y v u Q I rx ry h
  obtain ⟨d, e, hd, he, ld, le, hm, q⟩ := h
  obtain ⟨as, r1⟩ := Dp.reads I d x v hd rx
  obtain ⟨bs, r2⟩ := Dp.reads I e y u he ry
  exact SeqAt.compareEq_reads r1 r2 ld le (by omega) ⟨.bl _, H, I, rfl, q⟩
theorem op_neM (hu : X.A.units + 65 < cLine) : OpR X (compareOp .NotEq) (rNeM X.K) := by
  intro pins s σ H x y v u Q I rx ry h
  obtain ⟨d, e, hd, he, ld, le, hm, q⟩ := h
  obtain ⟨as, r1⟩ := Dp.reads I d x v hd rx
  obtain ⟨bs, r2⟩ := Dp.reads I e y u he ry
  exact SeqAt.compareNe_reads r1 r2 ld le (by omega) ⟨.bl _, H, I, rfl, q⟩
def rInM (K : PySem.W.Frag) (neg : Bool) : R2 := fun x y H Q => ∃ d ds, Dp K H x d ∧ (Dp K H y (.list ds) ∨ Dp K H y (.tuple ds)) ∧ d.canLay0 = true ∧ PyData.canLayAll0 ds = true ∧ min (PyData.depthAll ds) d.depth ≤ 64 ∧
  Q (.bl (if neg = true then !ds.any fun z => PyData.eqv z d else ds.any fun z => PyData.eqv z d)) H
theorem op_inM (hu : X.A.units + 65 < cLine) : OpR X (compareOp .In) (rInM X.K false) := by
  intro pins s σ H x y v u Q I rx ry h
  obtain ⟨d, ds, hd, he, ld, le, hm, q⟩ := h
  obtain ⟨as, r1⟩ := Dp.reads I d x v hd rx
  rcases he with he | he
  · obtain ⟨bs, r2⟩ := Dp.reads I _ y u he ry
    exact SeqAt.in_list_reads r2 r1 le ld (by omega) ⟨.bl _, H, I, rfl, q⟩
  · obtain ⟨bs, r2⟩ := Dp.reads I _ y u he ry
    exact SeqAt.in_tuple_reads r2 r1 le ld (by omega) ⟨.bl _, H, I, rfl, q⟩
theorem op_ninM (hu : X.A.units + 65 < cLine) : OpR X (compareOp .NotIn) (rInM X.K true) := by
  intro pins s σ H x y v u Q I rx ry h
  obtain ⟨d, ds, hd, he, ld, le, hm, q⟩ := h
  obtain ⟨as, r1⟩ := Dp.reads I d x v hd rx
  rcases he with he | he
  · obtain ⟨bs, r2⟩ := Dp.reads I _ y u he ry
    exact SeqAt.notIn_list_reads r2 r1 le ld (by omega) ⟨.bl _, H, I, rfl, q⟩
  · obtain ⟨bs, r2⟩ := Dp.reads I _ y u he ry
    exact SeqAt.notIn_tuple_reads r2 r1 le ld (by omega) ⟨.bl _, H, I, rfl, q⟩
theorem cmp_eq (hu : X.A.units + 65 < cLine) : CmpOk X .Eq (cmpF .eq) := by
  refine ⟨_, op_eqM hu, fun A W H x y d e k Q hx hy hF q => ?_⟩
  have hF' : (if eqOk d e = true then some (PyData.eqv d e) else none) = some k := by
    cases d <;> exact hF
  split at hF'
  · rename_i hk
    simp only [eqOk, Bool.and_eq_true, decide_eq_true_eq] at hk
    obtain ⟨⟨n1, n2⟩, hm⟩ := hk
    cases hF'
    exact ⟨d, e, hx.dp n1, hy.dp n2, hx.lay n1, hy.lay n2, hm, q⟩
  · cases hF'
theorem cmp_ne (hu : X.A.units + 65 < cLine) : CmpOk X .NotEq (cmpF .ne) := by
  refine ⟨_, op_neM hu, fun A W H x y d e k Q hx hy hF q => ?_⟩
  have hF' : (if eqOk d e = true then some (!PyData.eqv d e) else none) = some k := by
    cases d <;> exact hF
  split at hF'
  · rename_i hk
    simp only [eqOk, Bool.and_eq_true, decide_eq_true_eq] at hk
    obtain ⟨⟨n1, n2⟩, hm⟩ := hk
    cases hF'
    exact ⟨d, e, hx.dp n1, hy.dp n2, hx.lay n1, hy.lay n2, hm, q⟩
  · cases hF'
theorem cmp_lt : CmpOk X .Lt (cmpF .lt) := by
  refine ⟨_, OpR.or op_lt op_lt_str, fun A W H x y d e k Q hx hy hF q => ?_⟩
  unfold cmpF at hF
  split at hF
  all_goals first | (simp at *; done) | skip
  · cases hx.int; cases hy.int; cases hF
    exact .inl ⟨_, _, rfl, rfl, q⟩
  · obtain ⟨rfl, _⟩ := hx.str; obtain ⟨rfl, _⟩ := hy.str; cases hF
    exact .inr ⟨_, _, rfl, rfl, q⟩
theorem cmp_le : CmpOk X .LtE (cmpF .le) := by
  refine ⟨_, OpR.or op_le op_le_str, fun A W H x y d e k Q hx hy hF q => ?_⟩
  unfold cmpF at hF
  split at hF
  all_goals first | (simp at *; done) | skip
  · cases hx.int; cases hy.int; cases hF
    exact .inl ⟨_, _, rfl, rfl, q⟩
  · obtain ⟨rfl, _⟩ := hx.str; obtain ⟨rfl, _⟩ := hy.str; cases hF
    exact .inr ⟨_, _, rfl, rfl, q⟩
theorem cmp_gt : CmpOk X .Gt (cmpF .gt) := by
  refine ⟨_, OpR.or op_gt op_gt_str, fun A W H x y d e k Q hx hy hF q => ?_⟩
  unfold cmpF at hF
  split at hF
  all_goals first | (simp at *; done) | skip
  · cases hx.int; cases hy.int; cases hF
    exact .inl ⟨_, _, rfl, rfl, q⟩
  · obtain ⟨rfl, _⟩ := hx.str; obtain ⟨rfl, _⟩ := hy.str; cases hF
    exact .inr ⟨_, _, rfl, rfl, q⟩
theorem cmp_ge : CmpOk X .GtE (cmpF .ge) := by
  refine ⟨_, OpR.or op_ge op_ge_str, fun A W H x y d e k Q hx hy hF q => ?_⟩
  unfold cmpF at hF
  split at hF
  all_goals first | (simp at *; done) | skip
  · cases hx.int; cases hy.int; cases hF
    exact .inl ⟨_, _, rfl, rfl, q⟩
  · obtain ⟨rfl, _⟩ := hx.str; obtain ⟨rfl, _⟩ := hy.str; cases hF
    exact .inr ⟨_, _, rfl, rfl, q⟩
theorem str_one {y : Str} (h : y.length = 1) : y = ⟨#[y.cps.getD 0 0]⟩ := by
  obtain ⟨a⟩ := y
  obtain ⟨l⟩ := a
  match l, h with
  | [c], _ => rfl
/-- what inF tells -/
theorem inF_cases {x y : D} {k : Bool} (h : inF x y = some k) :
    (∃ ds, (y = .list ds ∨ y = .tuple ds) ∧ noDics ds = true ∧ noDic x = true ∧ min (PyData.depthAll ds) x.depth ≤ 64 ∧ k = ds.any fun z => PyData.eqv z x) ∨
    ∃ (c : Nat) (z : Str), x = .str ⟨#[c]⟩ ∧ y = .str z ∧ k = decide (c ∈ z.cps.toList) := by
  unfold inF at h
  split at h
  · split at h
    · rename_i ds hk
      simp only [Bool.and_eq_true, decide_eq_true_eq] at hk
      cases h
      exact .inl ⟨ds, .inl rfl, hk.1.1, hk.1.2, hk.2, rfl⟩
    · cases h
  · split at h
    · rename_i ds hk
      simp only [Bool.and_eq_true, decide_eq_true_eq] at hk
      cases h
      exact .inl ⟨ds, .inr rfl, hk.1.1, hk.1.2, hk.2, rfl⟩
    · cases h
  · split at h
    · split at h
      · rename_i hl
        cases h
        exact .inr ⟨_, _, by rw [← str_one hl], rfl, rfl⟩
      · cases h
    · cases h
  · cases h
theorem cmp_in (hu : X.A.units + 65 < cLine) : CmpOk X .In (cmpF .isin) := by
  refine ⟨_, OpR.or (op_inM hu) op_in_sign, fun A W H x y d e k Q hx hy hF q => ?_⟩
  have hF' : inF d e = some k := by
    cases d <;> exact hF
  rcases inF_cases hF' with ⟨ds, he, n1, n2, hm, rfl⟩ | ⟨c, z, rfl, rfl, rfl⟩
  · refine .inl ⟨d, ds, hx.dp n2, ?_, hx.lay n2, ?_, hm, q⟩
    · rcases he with rfl | rfl
      · exact .inl (hy.dp (by simpa [noDic] using n1))
      · exact .inr (hy.dp (by simpa [noDic] using n1))
    · rcases he with rfl | rfl
      · simpa [PyData.canLay0] using hy.lay (by simpa [noDic] using n1)
      · simpa [PyData.canLay0] using hy.lay (by simpa [noDic] using n1)
  · obtain ⟨rfl, _⟩ := hx.str; obtain ⟨rfl, _⟩ := hy.str
    exact .inr ⟨c, z, rfl, rfl, q⟩
theorem cmp_nin (hu : X.A.units + 65 < cLine) : CmpOk X .NotIn (cmpF .nin) := by
  refine ⟨_, OpR.or (op_ninM hu) op_notIn_sign, fun A W H x y d e k Q hx hy hF q => ?_⟩
  have hF' : (inF d e).map (!·) = some k := by
    cases d <;> exact hF
  obtain ⟨k', hk', rfl⟩ := Option.map_eq_some_iff.mp hF'
  rcases inF_cases hk' with ⟨ds, he, n1, n2, hm, rfl⟩ | ⟨c, z, rfl, rfl, rfl⟩
  · refine .inl ⟨d, ds, hx.dp n2, ?_, hx.lay n2, ?_, hm, q⟩
    · rcases he with rfl | rfl
      · exact .inl (hy.dp (by simpa [noDic] using n1))
      · exact .inr (hy.dp (by simpa [noDic] using n1))
    · rcases he with rfl | rfl
      · simpa [PyData.canLay0] using hy.lay (by simpa [noDic] using n1)
      · simpa [PyData.canLay0] using hy.lay (by simpa [noDic] using n1)
  · obtain ⟨rfl, _⟩ := hx.str; obtain ⟨rfl, _⟩ := hy.str
    exact .inr ⟨c, z, rfl, rfl, q⟩
theorem Ro.isNon {K : PySem.W.Frag} {A W : Addr → Prop} {H : Hp} {v : V} {d : D} (h : Ro K A W H v d) : decide (v = V.non) = isNonD d := by
  rcases h with h | ⟨_, _, _, rfl, rfl, _⟩
  · cases h <;> simp [isNonD, frzD]
  · simp [isNonD]
theorem cmp_is : CmpOk X .Is (cmpF .is) := by
  refine ⟨_, OpR.or op_isN op_isBl, fun A W H x y d e k Q hx hy hF q => ?_⟩
  unfold cmpF at hF
  split at hF
  all_goals first | (simp at *; done) | skip
  · cases hy.non; cases hF
    exact .inl ⟨rfl, by rw [hx.isNon]; exact q⟩
  · cases hx.bl; cases hy.bl; cases hF
    exact .inr ⟨_, _, rfl, rfl, q⟩
theorem cmp_nis : CmpOk X .IsNot (cmpF .nis) := by
  refine ⟨_, OpR.or op_notN op_notBl, fun A W H x y d e k Q hx hy hF q => ?_⟩
  unfold cmpF at hF
  split at hF
  all_goals first | (simp at *; done) | skip
  · cases hy.non
    cases hF
    exact .inl ⟨rfl, by rw [hx.isNon]; exact q⟩
  · cases hx.bl; cases hy.bl; cases hF
    exact .inr ⟨_, _, rfl, rfl, q⟩
def Cop.op : Cop → CmpOp
  | .eq => .Eq | .ne => .NotEq | .lt => .Lt | .le => .LtE | .gt => .Gt | .ge => .GtE | .isin => .In | .nin => .NotIn | .is => .Is | .nis => .IsNot
theorem cmp_ok (hu : X.A.units + 65 < cLine) : ∀ c : Cop, CmpOk X c.op (cmpF c)
  | .eq => cmp_eq hu | .ne => cmp_ne hu | .lt => cmp_lt | .le => cmp_le | .gt => cmp_gt | .ge => cmp_ge | .isin => cmp_in hu | .nin => cmp_nin hu | .is => cmp_is | .nis => cmp_nis
end
end MW

namespace MW
open PySem PySem.Spec PyProof.Rows L2

theorem strOk_iff {z : Str} : PyData.strOk z = true ↔ ∀ c ∈ z.cps.toList, c < 0x110000 := by
  unfold PyData.strOk
  rw [← Array.all_toList, List.all_eq_true]
  simp
theorem strOk_ofString (s : String) : PyData.strOk (Str.ofString s) = true := by
  rw [strOk_iff, Str.ofString_eq_toList]
  intro c hc
  simp only [List.mem_map] at hc
  obtain ⟨ch, _, rfl⟩ := hc
  have h := ch.valid
  have e : ch.toNat = ch.val.toNat := rfl
  simp only [UInt32.isValidChar, Nat.isValidChar] at h
  omega
section
variable {K : PySem.W.Frag} {A : Addr → Prop} {H : Hp}
theorem ints_of : ∀ {ds : List D} {xs : List V} {ns : List Int}, RpAll K A H xs ds → intsOf ds = some ns → xs = ns.map V.int
  | [], _, ns, .nil, e => by cases e; rfl
  | d :: ds, _, ns, .cons h t, e => by
    cases d <;> try (cases e)
    obtain ⟨ms, hm, rfl⟩ := Option.map_eq_some_iff.mp e
    cases h
    rw [ints_of t hm] <;> rfl
theorem bls_of : ∀ {ds : List D} {xs : List V} {ns : List Bool}, RpAll K A H xs ds → blsOf ds = some ns → xs = ns.map V.bl
  | [], _, ns, .nil, e => by cases e; rfl
  | d :: ds, _, ns, .cons h t, e => by
    cases d <;> try (cases e)
    obtain ⟨ms, hm, rfl⟩ := Option.map_eq_some_iff.mp e
    cases h
    rw [bls_of t hm] <;> rfl
theorem strs_of : ∀ {ds : List D} {xs : List V} {ns : List Str}, RpAll K A H xs ds → strsOf ds = some ns → xs = ns.map V.str ∧ ∀ z ∈ ns, PyData.strOk z = true
  | [], _, ns, .nil, e => by cases e; exact ⟨rfl, fun _ h => nomatch h⟩
  | d :: ds, _, ns, .cons h t, e => by
    cases d <;> try (cases e)
    obtain ⟨ms, hm, rfl⟩ := Option.map_eq_some_iff.mp e
    obtain ⟨h1, h2⟩ := strs_of t hm
    cases h with
    | str _ ok =>
      refine ⟨by rw [h1] <;> rfl, fun z hz => ?_⟩
      rcases List.mem_cons.mp hz with rfl | hz
      · exact ok
      · exact h2 z hz
end
theorem maxI_mem : ∀ (r : List Int) (m : Int), maxI m r ∈ m :: r
  | [], m => List.mem_cons_self
  | i :: r, m => by
    have h := maxI_mem r (if m < i then i else m)
    show maxI (if m < i then i else m) r ∈ m :: i :: r
    rcases List.mem_cons.mp h with h | h
    · rw [h]
      split
      · exact List.mem_cons_of_mem _ List.mem_cons_self
      · exact List.mem_cons_self
    · exact List.mem_cons_of_mem _ (List.mem_cons_of_mem _ h)
theorem maxI_ge : ∀ (r : List Int) (m : Int) (y : Int), y ∈ m :: r → y ≤ maxI m r
  | [], m, y, h => by
    have e : y = m := by simpa using h
    exact Int.le_of_eq e
  | i :: r, m, y, h => by
    show y ≤ maxI (if m < i then i else m) r
    have g := maxI_ge r (if m < i then i else m)
    rcases List.mem_cons.mp h with rfl | h
    · refine Int.le_trans ?_ (g _ List.mem_cons_self)
      split <;> omega
    · rcases List.mem_cons.mp h with rfl | h
      · refine Int.le_trans ?_ (g _ List.mem_cons_self)
        split <;> omega
      · exact g y (List.mem_cons_of_mem _ h)
theorem minI_mem : ∀ (r : List Int) (m : Int), minI m r ∈ m :: r
  | [], m => List.mem_cons_self
  | i :: r, m => by
    have h := minI_mem r (if i < m then i else m)
    show minI (if i < m then i else m) r ∈ m :: i :: r
    rcases List.mem_cons.mp h with h | h
    · rw [h]
      split
      · exact List.mem_cons_of_mem _ List.mem_cons_self
      · exact List.mem_cons_self
    · exact List.mem_cons_of_mem _ (List.mem_cons_of_mem _ h)
theorem minI_le : ∀ (r : List Int) (m : Int) (y : Int), y ∈ m :: r → minI m r ≤ y
  | [], m, y, h => by
    have e : y = m := by simpa using h
    exact Int.le_of_eq e.symm
  | i :: r, m, y, h => by
    show minI (if i < m then i else m) r ≤ y
    have g := minI_le r (if i < m then i else m)
    rcases List.mem_cons.mp h with rfl | h
    · refine Int.le_trans (g _ List.mem_cons_self) ?_
      split <;> omega
    · rcases List.mem_cons.mp h with rfl | h
      · refine Int.le_trans (g _ List.mem_cons_self) ?_
        split <;> omega
      · exact g y (List.mem_cons_of_mem _ h)

/-! ### calls by values -/
def CallOk (X : Cx) (f : Value) (F : List D → Option (D × Bool)) : Prop := ∃ r : List V → Hp → VK → Prop, CallR X f r ∧
  ∀ (A W : Addr → Prop) (H : Hp) (vs : List V) (ds : List D) (z : D × Bool) (Q : VK), RoAll X.K A W H vs ds → F ds = some z → (∀ v H1, Same H H1 → ResO X.K A H H1 v z → Q v H1) → r vs H Q
section
variable {K : PySem.W.Frag} {A W : Addr → Prop} {H : Hp}
theorem RoAll.one {vs : List V} {d : D} (h : RoAll K A W H vs [d]) : ∃ v, vs = [v] ∧ Ro K A W H v d := by
  match vs, h with
  | [v], ⟨h, _⟩ => exact ⟨v, rfl, h⟩
theorem RoAll.two {vs : List V} {d e : D} (h : RoAll K A W H vs [d, e]) : ∃ v u, vs = [v, u] ∧ Ro K A W H v d ∧ Ro K A W H u e := by
  match vs, h with
  | [v, u], ⟨h, g, _⟩ => exact ⟨v, u, rfl, h, g⟩
theorem RoAll.three {vs : List V} {d e f : D} (h : RoAll K A W H vs [d, e, f]) : ∃ v u w, vs = [v, u, w] ∧ Ro K A W H v d ∧ Ro K A W H u e ∧ Ro K A W H w f := by
  match vs, h with
  | [v, u, w], ⟨h, g, k, _⟩ => exact ⟨v, u, w, rfl, h, g, k⟩
theorem RoAll.len : ∀ {vs : List V} {ds : List D}, RoAll K A W H vs ds → vs.length = ds.length
  | [], [], _ => rfl
  | _ :: _, _ :: _, ⟨_, r⟩ => by simp [RoAll.len r]
  | [], _ :: _, h => h.elim
  | _ :: _, [], h => h.elim
end
section
variable {X : Cx}
theorem ca_len : CallOk X (.builtin "len") (biF .len) := by
  refine ⟨_, call_len, fun A W H vs ds z Q hv hF q => ?_⟩
  unfold biF at hF
  split at hF
  all_goals first | (simp at *; done) | skip
  · obtain ⟨v, rfl, h⟩ := hv.one
    obtain ⟨a, xs, rfl, h1, r⟩ := h.lst
    cases hF
    exact ⟨_, _, rfl, .inl ⟨xs, .of h1, rfl⟩, by rw [r.length]; exact q _ _ (Same.refl _) (resO_rp (.int _))⟩
  · obtain ⟨v, rfl, h⟩ := hv.one
    obtain ⟨a, xs, rfl, h1, r⟩ := h.tup
    cases hF
    exact ⟨_, _, rfl, .inr ⟨xs, h1, rfl⟩, by rw [r.length]; exact q _ _ (Same.refl _) (resO_rp (.int _))⟩
  · obtain ⟨v, rfl, h⟩ := hv.one
    obtain ⟨rfl, o⟩ := h.str
    split at hF
    · cases hF
      exact ⟨_, _, rfl, ⟨by assumption, rfl⟩, q _ _ (Same.refl _) (resO_rp (.int _))⟩
    · cases hF
theorem ca_abs : CallOk X (.builtin "abs") (biF .abs) := by
  refine ⟨_, call_abs, fun A W H vs ds z Q hv hF q => ?_⟩
  unfold biF at hF
  split at hF
  all_goals first | (simp at *; done) | skip
  · obtain ⟨v, rfl, h⟩ := hv.one
    cases h.int; cases hF
    exact ⟨_, rfl, q _ _ (Same.refl _) (resO_rp (.int _))⟩
theorem ca_int : CallOk X (.type "int") (biF .int) := by
  refine ⟨_, call_int1, fun A W H vs ds z Q hv hF q => ?_⟩
  unfold biF at hF
  split at hF
  all_goals first | (simp at *; done) | skip
  · obtain ⟨v, rfl, h⟩ := hv.one
    cases h.int; cases hF
    exact .inl ⟨_, rfl, q _ _ (Same.refl _) (resO_rp (.int _))⟩
  · obtain ⟨v, rfl, h⟩ := hv.one
    cases h.bl; cases hF
    exact .inr ⟨_, rfl, q _ _ (Same.refl _) (resO_rp (.int _))⟩
theorem log2_small {n : Nat} (h : n < 2 ^ 1900) : n.log2 < 1920 := by
  by_cases e : n = 0
  · subst e
    decide
  · have := (Nat.log2_lt e).mpr h
    omega
theorem ca_str : CallOk X (.type "str") (biF .str) := by
  refine ⟨_, CallR.or SkE.call_str_str call_str_int, fun A W H vs ds z Q hv hF q => ?_⟩
  unfold biF at hF
  split at hF
  all_goals first | (simp at *; done) | skip
  · obtain ⟨v, rfl, h⟩ := hv.one
    obtain ⟨rfl, o⟩ := h.str
    cases hF
    exact .inl ⟨_, rfl, q _ _ (Same.refl _) (resO_rp (.str _ o))⟩
  · obtain ⟨v, rfl, h⟩ := hv.one
    cases h.int
    split at hF
    · cases hF
      exact .inr ⟨_, rfl, log2_small (by assumption), q _ _ (Same.refl _) (resO_rp (.str _ (strOk_ofString _)))⟩
    · cases hF
theorem rpAll_ints {K : PySem.W.Frag} {A : Addr → Prop} {H : Hp} : ∀ ns : List Int, RpAll K A H (ns.map V.int) (ns.map PyData.int)
  | [] => .nil
  | n :: ns => .cons (.int n) (rpAll_ints ns)
theorem ca_list : CallOk X (.type "list") (biF .list) := by
  refine ⟨_, call_list_of, fun A W H vs ds z Q hv hF q => ?_⟩
  unfold biF at hF
  split at hF
  all_goals first | (simp at *; done) | skip
  · obtain ⟨v, rfl, h⟩ := hv.one
    obtain ⟨a, xs, rfl, h1, r⟩ := h.lst
    cases hF
    exact ⟨a, xs, rfl, .inl (.of h1), fun p np => q _ _ (same_upd np) (resO_new np r)⟩
  · obtain ⟨v, rfl, h⟩ := hv.one
    obtain ⟨a, xs, rfl, h1, r⟩ := h.tup
    cases hF
    exact ⟨a, xs, rfl, .inr h1, fun p np => q _ _ (same_upd np) (resO_new np r)⟩
  · obtain ⟨v, rfl, h⟩ := hv.one
    rcases h with h | ⟨_, _, _, _, e, _⟩
    · generalize e : (PyData.dict _ : D) = d at h
      cases h <;> try (cases e)
      rename_i h
      exact ⟨_, _, rfl, .inl h.sq, fun p np => by cases hF; exact q _ _ (same_upd np) (resO_new np (rpAll_ints _))⟩
    · cases e
theorem ca_tuple : CallOk X (.type "tuple") (biF .tuple) := by
  refine ⟨_, call_tuple_of, fun A W H vs ds z Q hv hF q => ?_⟩
  unfold biF at hF
  split at hF
  all_goals first | (simp at *; done) | skip
  · obtain ⟨v, rfl, h⟩ := hv.one
    obtain ⟨a, xs, rfl, h1, r⟩ := h.lst
    cases hF
    exact ⟨a, xs, rfl, .inl ⟨.of h1, fun p np => q _ _ (same_upd np) (resO_tup np r)⟩⟩
  · obtain ⟨v, rfl, h⟩ := hv.one
    obtain ⟨a, xs, rfl, h1, r⟩ := h.tup
    cases hF
    exact ⟨a, xs, rfl, .inr ⟨h1, q _ _ (Same.refl _) (resO_rp (.tup h1 r))⟩⟩
theorem ca_sum (hc : X.calm = true) : CallOk X (.builtin "sum") (biF .sum) := by
  refine ⟨_, cr_sum hc, fun A W H vs ds z Q hv hF q => ?_⟩
  unfold biF at hF
  split at hF
  all_goals first | (simp at *; done) | skip
  · obtain ⟨v, rfl, h⟩ := hv.one
    obtain ⟨a, xs, rfl, h1, r⟩ := h.lst
    obtain ⟨ns, hn, e⟩ := Option.bind_eq_some_iff.mp hF
    cases e
    exact ⟨a, ns, rfl, .of (by rw [h1, ints_of r hn]), q _ _ (Same.refl _) (resO_rp (.int _))⟩
theorem ca_max (hc : X.calm = true) : CallOk X (.builtin "max") (biF .max) := by
  refine ⟨_, cr_max hc, fun A W H vs ds z Q hv hF q => ?_⟩
  unfold biF at hF
  split at hF
  all_goals first | (simp at *; done) | skip
  · obtain ⟨v, rfl, h⟩ := hv.one
    obtain ⟨a, xs, rfl, h1, r⟩ := h.lst
    obtain ⟨ns, hn, e⟩ := Option.bind_eq_some_iff.mp hF
    match ns, hn, e with
    | i :: ms, hn, e =>
      cases e
      refine ⟨a, i :: ms, rfl, .of (by rw [h1, ints_of r hn]), by simp, fun m h1 h2 => ?_⟩
      have e : m = maxI i ms := Int.le_antisymm (maxI_ge _ _ _ h1) (h2 _ (maxI_mem _ _))
      subst e
      exact q _ _ (Same.refl _) (resO_rp (.int _))
theorem ca_min (hc : X.calm = true) : CallOk X (.builtin "min") (biF .min) := by
  refine ⟨_, cr_min hc, fun A W H vs ds z Q hv hF q => ?_⟩
  unfold biF at hF
  split at hF
  all_goals first | (simp at *; done) | skip
  · obtain ⟨v, rfl, h⟩ := hv.one
    obtain ⟨a, xs, rfl, h1, r⟩ := h.lst
    obtain ⟨ns, hn, e⟩ := Option.bind_eq_some_iff.mp hF
    match ns, hn, e with
    | i :: ms, hn, e =>
      cases e
      refine ⟨a, i :: ms, rfl, .of (by rw [h1, ints_of r hn]), by simp, fun m h1 h2 => ?_⟩
      have e : m = minI i ms := Int.le_antisymm (h2 _ (minI_mem _ _)) (minI_le _ _ _ h1)
      subst e
      exact q _ _ (Same.refl _) (resO_rp (.int _))
theorem ca_all (hc : X.calm = true) : CallOk X (.builtin "all") (biF .all) := by
  refine ⟨_, cr_all hc, fun A W H vs ds z Q hv hF q => ?_⟩
  unfold biF at hF
  split at hF
  all_goals first | (simp at *; done) | skip
  · obtain ⟨v, rfl, h⟩ := hv.one
    obtain ⟨a, xs, rfl, h1, r⟩ := h.lst
    obtain ⟨ns, hn, e⟩ := Option.bind_eq_some_iff.mp hF
    cases e
    exact ⟨a, ns, rfl, .of (by rw [h1, bls_of r hn]), q _ _ (Same.refl _) (resO_rp (.bl _))⟩
theorem ca_any (hc : X.calm = true) : CallOk X (.builtin "any") (biF .any) := by
  refine ⟨_, cr_any hc, fun A W H vs ds z Q hv hF q => ?_⟩
  unfold biF at hF
  split at hF
  all_goals first | (simp at *; done) | skip
  · obtain ⟨v, rfl, h⟩ := hv.one
    obtain ⟨a, xs, rfl, h1, r⟩ := h.lst
    obtain ⟨ns, hn, e⟩ := Option.bind_eq_some_iff.mp hF
    cases e
    exact ⟨a, ns, rfl, .of (by rw [h1, bls_of r hn]), q _ _ (Same.refl _) (resO_rp (.bl _))⟩
theorem ca_max2 (hc : X.calm = true) : CallOk X (.builtin "max") (biF .max2) := by
  refine ⟨_, call_max2 hc, fun A W H vs ds z Q hv hF q => ?_⟩
  unfold biF at hF
  split at hF
  all_goals first | (simp at *; done) | skip
  · obtain ⟨v, u, rfl, h, g⟩ := hv.two
    cases h.int; cases g.int; cases hF
    exact ⟨_, _, rfl, q _ _ (Same.refl _) (resO_rp (.int _))⟩
theorem ca_min2 (hc : X.calm = true) : CallOk X (.builtin "min") (biF .min2) := by
  refine ⟨_, call_min2 hc, fun A W H vs ds z Q hv hF q => ?_⟩
  unfold biF at hF
  split at hF
  all_goals first | (simp at *; done) | skip
  · obtain ⟨v, u, rfl, h, g⟩ := hv.two
    cases h.int; cases g.int; cases hF
    exact ⟨_, _, rfl, q _ _ (Same.refl _) (resO_rp (.int _))⟩
def Ty.nm : Ty → String
  | .int => "int" | .bool => "bool" | .str => "str" | .tuple => "tuple" | .list => "list"
def tyD : D → String
  | .none => "NoneType" | .bool _ => "bool" | .int _ => "int" | .str _ => "str" | .list _ => "list" | .tuple _ => "tuple" | .dict _ => "list"
theorem kit_tys (t : Ty) (d : D) (n : ∀ k, d ≠ .dict k) : kitB (tyD d) t.nm = some (isTy t d) := by
  cases t <;> cases d <;> first | exact absurd rfl (n _) | (show kitB _ _ = some _; simp only [tyD, Ty.nm, isTy]; decide +kernel)
theorem Ro.ty {K : PySem.W.Frag} {A W : Addr → Prop} {H : Hp} {v : V} {d : D} (h : Ro K A W H v d) (n : ∀ k, d ≠ .dict k) : TyX K H v (.type (tyD d)) := by
  rcases h with h | ⟨a, xs, ds, rfl, rfl, h1, _⟩
  · cases h with
    | non => exact .base .non
    | bl b => exact .base (.bl b)
    | int i => exact .base (.int i)
    | str x _ => exact .base (.str x)
    | lst _ h _ => exact .base (.lst h)
    | frz _ => exact absurd rfl (n _)
    | tup h _ =>
      rcases h with (h | ⟨o, h⟩) | ⟨o, its, k, h, c, _⟩
      · exact .base (.tup h)
      · exact .fTuple h
      · exact .kTuple h c
  · exact .base (.lst h1)
theorem isi_read {K : PySem.W.Frag} {A W : Addr → Prop} {H : Hp} {v : V} {t : Ty} {d : D} {z : D × Bool} {Q : VK} (h : Ro K A W H v d) (hF : isiF t d = some z) (q : ∀ v H1, Same H H1 → ResO K A H H1 v z → Q v H1) : rIsi K [v, .ty t.nm] H Q := by
  have n : ∀ k, d ≠ .dict k := fun k e => by
    subst e
    cases hF
  have e : bl1 (isTy t d) = some z := by
    cases d <;> first | exact absurd rfl (n _) | exact hF
  cases e
  exact ⟨v, _, _, _, _, rfl, .ty _, h.ty n, kit_ty (kit_tys t d n), q _ _ (Same.refl _) (resO_rp (.bl _))⟩
/-! ### items, slices -/
theorem ix_read {K : PySem.W.Frag} {A W : Addr → Prop} {H : Hp} {x y : V} {d e : D} {z : D × Bool} {Q : VK} (hx : Ro K A W H x d) (hy : Ro K A W H y e) (hF : ixF d e = some z) (q : ∀ v H1, Same H H1 → ResO K A H H1 v z → Q v H1) : rIx K x y H Q := by
  have put : ∀ {α β : Type} {F : α → β → Prop} {xs : List α} {ys : List β} {i : Int} {b : β}, xs.length = ys.length → (∀ (j : Nat) (b : β), ys[j]? = some b → ∃ a, xs[j]? = some a ∧ F a b) → atI ys i = some b → ∃ a, atI xs i = some a ∧ F a b := by
    intro α β F xs ys i b hl hg ha
    unfold atI at ha ⊢
    rw [hl]
    cases e : ixN ys.length i with
    | none => rw [e] at ha; cases ha
    | some j =>
      rw [e] at ha
      exact hg j b ha
  unfold ixF at hF
  split at hF
  · obtain ⟨a, xs, rfl, h1, r⟩ := hx.lst
    cases hy.int
    obtain ⟨w, hw, e⟩ := Option.bind_eq_some_iff.mp hF
    cases e
    obtain ⟨v, hv, rv⟩ := put (F := Rp K A H) r.length (fun j b => r.get) hw
    exact .inl ⟨a, xs, _, v, rfl, rfl, .of h1, hv, q _ _ (Same.refl _) (resO_rp rv)⟩
  · obtain ⟨a, xs, rfl, h1, r⟩ := hx.tup
    cases hy.int
    obtain ⟨w, hw, e⟩ := Option.bind_eq_some_iff.mp hF
    cases e
    obtain ⟨v, hv, rv⟩ := put (F := Rp K A H) r.length (fun j b => r.get) hw
    exact .inr (.inl ⟨a, xs, _, v, rfl, rfl, h1, hv, q _ _ (Same.refl _) (resO_rp rv)⟩)
  · obtain ⟨rfl, o⟩ := hx.str
    cases hy.int
    split at hF
    · obtain ⟨w, hw, e⟩ := Option.bind_eq_some_iff.mp hF
      cases e
      refine .inr (.inr ⟨_, _, w, rfl, rfl, by assumption, hw, q _ _ (Same.refl _) (resO_rp (.str _ ?_))⟩)
      rw [strOk_iff]
      intro c hc
      have e : c = w := by simpa using hc
      subst e
      obtain ⟨j, _, hj, _⟩ := atI_get hw
      exact strOk_iff.mp o c (List.mem_of_getElem? hj)
    · cases hF
  · cases hF
def rSl (K : PySem.W.Frag) : V → Option Int → Option Int → Hp → VK → Prop := fun x lo hi H Q => rSlL K x lo hi H Q ∨ rSlA K x lo hi H Q ∨ rSlS x lo hi H Q
theorem sl_all {X : Cx} : SlR X (rSl X.K) := sl_list.or (sl_tupA.or sl_str)
theorem rpAll_cut {K : PySem.W.Frag} {A : Addr → Prop} {H : Hp} {xs : List V} {ds : List D} (r : RpAll K A H xs ds) (lo hi : Option Int) : RpAll K A H (cutV xs lo hi) (cutD ds lo hi) := by
  unfold cutV cutD
  rw [r.length]
  exact (r.drop _).take _
theorem sl_read {K : PySem.W.Frag} {A W : Addr → Prop} {H : Hp} {x : V} {lo hi : Option Int} {d : D} {z : D × Bool} {Q : VK} (hx : Ro K A W H x d) (hF : slF d lo hi = some z) (q : ∀ v H1, Same H H1 → ResO K A H H1 v z → Q v H1) : rSl K x lo hi H Q := by
  unfold slF at hF
  split at hF
  · obtain ⟨a, xs, rfl, h1, r⟩ := hx.lst
    cases hF
    exact .inl ⟨a, xs, rfl, .of h1, fun p np => q _ _ (same_upd np) (resO_new np (rpAll_cut r _ _))⟩
  · obtain ⟨a, xs, rfl, h1, r⟩ := hx.tup
    cases hF
    have rc := rpAll_cut r lo hi
    refine .inr (.inl ⟨a, xs, rfl, h1, fun hw => ?_, fun hw p np => q _ _ (same_upd np) (resO_tup np rc)⟩)
    rename_i ds
    have e : cutD ds lo hi = ds := by
      unfold cutD
      rw [← r.length, hw.1, hw.2, List.drop_zero, Nat.sub_zero, r.length, List.take_length]
    rw [e] at q
    exact q _ _ (Same.refl _) (resO_rp (.tup h1 r))
  · obtain ⟨rfl, o⟩ := hx.str
    split at hF
    · cases hF
      refine .inr (.inr ⟨_, rfl, by assumption, q _ _ (Same.refl _) (resO_rp ?_)⟩)
      have e : ∀ z : Str, cutS z lo hi = ⟨(cutD z.cps.toList lo hi).toArray⟩ := fun z => by
        unfold cutS cutD
        simp [Str.length]
      rw [← e]
      refine .str _ (strOk_iff.mpr fun c hc => strOk_iff.mp o c ?_)
      unfold cutS at hc
      simp only [List.toList_toArray] at hc
      exact List.mem_of_mem_drop (List.mem_of_mem_take hc)
    · cases hF
  · cases hF
/-- e[::-1] of a list, of a tuple -/
def tRevM (K : PySem.W.Frag) (te : TE) : TE := fun σ H Q => te σ H fun x H1 => (∃ a xs, x = .ref a ∧ SqL K H1 a xs ∧ ∀ p, H1 p = none → Q (.ref p) (upd H1 p (.lst xs.reverse))) ∨
  ∃ a xs, x = .ref a ∧ SqT K H1 a xs ∧ ∀ p, H1 p = none → Q (.ref p) (upd H1 p (.tup xs.reverse))
theorem pe_revM {X : Cx} {e : Expr} {te : TE} {k : Nat} {p1 p2 p3 pos : Pos} (he : PE X e te) : PE X (.Subscript e (.Slice none none (some (.UnaryOp .USub (.Constant (.int 1) k p1) p2)) p3) pos) (tRevM X.K te) := by
  refine ⟨fun pins s σ H Q I h => ?_⟩
  refine Subscript_ (thn (he.run pins s σ H _ I h) fun v s1 ⟨x, H1, I1, r1, q1⟩ => ?_)
  have hst : PO X (some (.UnaryOp .USub (.Constant (.int 1) k p1) p2)) (tPart (tUn (rU fun i => .int (-i)) (tC (.int 1)))) := po_some (pe_un un_neg pe_int)
  refine wpAny_Slice (thn (po_none.run pins s1 σ H1 (fun o H2 => o = none ∧ H2 = H1) I1 ⟨rfl, rfl⟩) fun vl s2 ⟨l, H2, I2, pl, el, e2⟩ => ?_)
  subst el e2
  refine thn (po_none.run pins s2 σ H2 (fun o H3 => o = none ∧ H3 = H2) I2 ⟨rfl, rfl⟩) fun vu s3 ⟨u, H3, I3, pu, eu, e3⟩ => ?_
  subst eu e3
  refine thn (hst.run pins s3 σ H3 (fun o H4 => o = some (-1) ∧ H4 = H3) I3 ⟨1, rfl, -1, rfl, rfl, rfl⟩) fun vs s4 ⟨o, H4, I4, ps, eo, e4⟩ => ?_
  subst eo e4
  have I5 : Inv X pins σ H4 { s4 with heap := s4.heap.push { cls := .type "slice", data := .fields #[vl, vu, vs] } } := I4.kept (t' := s4.toks) fun b ob q => Heap.get?_push_of_some _ q
  rcases q1 with ⟨a, xs, ex, hx, q⟩ | ⟨a, xs, ex, hx, q⟩
  · subst ex
    cases r1
    obtain ⟨its, r, ht, hz⟩ := I5.list hx
    have hlen := r.length
    show wpAny (model X.prog X.w) X.A (subscriptTail e (.Slice none none (some (.UnaryOp .USub (.Constant (.int 1) k p1) p2)) p3) (.ref a) (.ref s4.heap.objs.size)) (EP X pins σ Q) X.xe { s4 with heap := s4.heap.push { cls := .type "slice", data := .fields #[vl, vu, vs] } }
    refine tail_any (ops := [.ref a, .ref s4.heap.objs.size]) ht.isList.typeIs (PySem.slot_list_getitem.lookup) ?_ (by with_unfolding_all rfl)
    refine wpAny_getItem_list_slice ht.isList (Heap.IsSliceOf.new _ vl vu vs) pl pu ps (by decide) ?_ (by rw [List.size_toArray]; omega)
    rw [PySem.W.krv_pick]
    refine ⟨.ref _, _, I5.laid (t' := s4.toks) (o := .lst xs.reverse) (fun b ob q => Heap.get?_push_of_some _ q) (Nat.le_refl _) ?_, rfl, q _ (I5.hok.fresh (Nat.le_refl _))⟩
    exact ⟨by rw [List.length_reverse]; exact hz, _, 0, r.reverse, Heap.get?_push_size _ rfl⟩
  · subst ex
    cases r1
    obtain ⟨its, r, ht, hz⟩ := I5.tuple hx
    have hlen := r.length
    show wpAny (model X.prog X.w) X.A (subscriptTail e (.Slice none none (some (.UnaryOp .USub (.Constant (.int 1) k p1) p2)) p3) (.ref a) (.ref s4.heap.objs.size)) (EP X pins σ Q) X.xe { s4 with heap := s4.heap.push { cls := .type "slice", data := .fields #[vl, vu, vs] } }
    refine tail_any (ops := [.ref a, .ref s4.heap.objs.size]) ht.typeIs (PyProof.Rows.slot_tuple_getitem.lookup) ?_ (by with_unfolding_all rfl)
    refine HT.getItem_tuple_rev ht (Heap.IsSliceOf.new _ vl vu vs) pl pu ps ?_ (by rw [List.size_toArray]; omega)
    refine ⟨.ref _, _, I5.laid (t' := s4.toks) (o := .tup xs.reverse) (fun b ob q => Heap.get?_push_of_some _ q) (Nat.le_refl _) ?_, rfl, q _ (I5.hok.fresh (Nat.le_refl _))⟩
    exact ⟨by rw [List.length_reverse]; exact hz, _, r.reverse, IsTup.new _ _⟩
/-! ### sep.join(l) -/
theorem strOk_join {z : Str} {ys : List Str} (hz : PyData.strOk z = true) (h : ∀ y ∈ ys, PyData.strOk y = true) : PyData.strOk (Txt.join z ys) = true := by
  rw [strOk_iff]
  have key : ∀ (l : List Str) (acc : Array Nat), (∀ y ∈ l, PyData.strOk y = true) → (∀ c ∈ acc.toList, c < 0x110000) → ∀ c ∈ (l.foldl (fun acc p => acc ++ z.cps ++ p.cps) acc).toList, c < 0x110000 := by
    intro l
    induction l with
    | nil => exact fun acc _ h => h
    | cons y l ih =>
      intro acc hl ha
      refine ih _ (fun w hw => hl w (List.mem_cons_of_mem _ hw)) fun c hc => ?_
      simp only [Array.toList_append, List.mem_append] at hc
      rcases hc with (hc | hc) | hc
      · exact ha c hc
      · exact strOk_iff.mp hz c hc
      · exact strOk_iff.mp (hl y List.mem_cons_self) c hc
  refine key (ys.drop 1) _ (fun y hy => h y (List.mem_of_mem_drop hy)) ?_
  cases ys with
  | nil => intro c hc; simp [Str.empty] at hc
  | cons y l => exact strOk_iff.mp (h y List.mem_cons_self)
end
end MW

namespace MW
open PySem PySem.Spec PyProof.Rows L2

/-! ### readings beside the evaluator -/
def seqT : List TE → TA
  | [] => tNil
  | t :: ts => tCons t (seqT ts)
def SndE (K : PySem.W.Frag) (C : Calls) (t : TE) (e : E) : Prop := ∀ (F : Addr → Prop) (ρ : Rho) (σ : L2.St) (H : Hp) (r : D × Bool) (ρ1 : Rho), ev C e ρ = some (r, ρ1) → Rel K F ρ σ H → Fk F H →
  ∀ Q : VK, (∀ v H1, Post K F ρ σ H ρ1 σ H1 → Res K F ρ1 σ H H1 v r → Q v H1) → t σ H Q
def SndT (K : PySem.W.Frag) (C : Calls) (t : TT) (e : E) : Prop := ∀ (F : Addr → Prop) (ρ : Rho) (σ : L2.St) (H : Hp) (k : Bool) (ρ1 : Rho), (ev C e ρ).bind asBool = some (k, ρ1) → Rel K F ρ σ H → Fk F H →
  ∀ Q : Bool → Hp → Prop, (∀ H1, Post K F ρ σ H ρ1 σ H1 → Q k H1) → t σ H Q
/-- a name stands for itself -/
def Nm (t : TE) (e : E) : Prop := ∀ i, e = .v i → t = tVar i
def SndS (K : PySem.W.Frag) (C : Calls) (ts : List TE) (es : List E) : Prop := ∀ (F : Addr → Prop) (ρ : Rho) (σ : L2.St) (H : Hp) (ds : List D) (ρ1 : Rho), evs C es ρ = some (ds, ρ1) → Rel K F ρ σ H → Fk F H →
  ∀ Q : List V → Hp → Prop, (∀ vs H1, Post K F ρ σ H ρ1 σ H1 → RpAll K (Av F ρ1 σ) H1 vs ds → Q vs H1) → seqT ts σ H Q
/-- lent ones were our own -/
def LentOk (ρ : Rho) (σ : L2.St) (H : Hp) (B : List Nat) : Prop := ∀ i ∈ B, ∀ b, σ[i]? = some (some (V.ref b)) → Wr ρ σ b ∨ H b = none
def SndB (K : PySem.W.Frag) (C : Calls) (ts : List TE) (es : List E) : Prop := ∀ (F : Addr → Prop) (ρ : Rho) (σ : L2.St) (H : Hp) (ds : List D) (ρ1 : Rho) (B : List Nat), evbs C es ρ = some (ds, ρ1, B) → Rel K F ρ σ H → Fk F H →
  ∀ Q : List V → Hp → Prop, (∀ vs H1, Post K F ρ σ H ρ1 σ H1 → RoAll K (Av F ρ1 σ) (Wr ρ1 σ) H1 vs ds → LentOk ρ σ H B → Q vs H1) → seqT ts σ H Q
section
variable {K : PySem.W.Frag} {C : Calls} {F F' : Addr → Prop} {ρ ρ0 ρ1 ρ2 : Rho} {σ σ0 σ1 σ2 : L2.St} {H H0 H1 H2 : Hp}

/-! ### slots relabelled -/
theorem get_set {i j : Nat} {x y : SV} (h : (ρ.set i x)[j]? = some y) (hi : i < ρ.length) : (j = i ∧ y = x) ∨ (j ≠ i ∧ ρ[j]? = some y) := by
  by_cases e : j = i
  · subst e
    rw [List.getElem?_set_self hi] at h
    exact .inl ⟨rfl, (Option.some.inj h).symm⟩
  · rw [List.getElem?_set_ne (Ne.symm e)] at h
    exact .inr ⟨e, h⟩
theorem lt_of_get {i : Nat} {x : SV} (h : ρ[i]? = some x) : i < ρ.length := (List.getElem?_eq_some_iff.mp h).1
/-- one slot's kind turned, both kinds not plain -/
theorem m_relabel {i : Nat} {k k' : Kd} {d d' : D} (h : ρ[i]? = some (some (k, d))) (hk : k ≠ .val) (hk' : k' ≠ .val) (b : Addr) : M (ρ.set i (some (k', d'))) σ b ↔ M ρ σ b := by
  have hi := lt_of_get h
  constructor
  · rintro ⟨j, l, e, h1, h2, h3⟩
    rcases get_set h1 hi with ⟨rfl, h4⟩ | ⟨_, h4⟩
    · exact ⟨j, k, d, h, hk, h3⟩
    · exact ⟨j, l, e, h4, h2, h3⟩
  · rintro ⟨j, l, e, h1, h2, h3⟩
    by_cases q : j = i
    · subst q
      exact ⟨j, k', d', List.getElem?_set_self hi, hk', h3⟩
    · exact ⟨j, l, e, by rw [List.getElem?_set_ne (Ne.symm q)]; exact h1, h2, h3⟩
/-- a slot that is not plain gets another kind and content -/
theorem Rel.relabel {i : Nat} {k k' : Kd} {d d' : D} {a : Addr} (R : Rel K F ρ σ H) (h : ρ[i]? = some (some (k, d))) (hk : k ≠ .val) (hk' : k' ≠ .val) (ha : σ[i]? = some (some (V.ref a))) (c : Cell K (Av F ρ σ) H a d') : Rel K F (ρ.set i (some (k', d'))) σ H := by
  have hi := lt_of_get h
  have mm := m_relabel (σ := σ) (d' := d') h hk hk'
  have av : ∀ b, Av F (ρ.set i (some (k', d'))) σ b → Av F ρ σ b := fun b z => z.imp id (mm b).mp
  refine ⟨by rw [List.length_set]; exact R.len, fun j e h1 => ?_, fun j l e h1 h2 => ?_, fun j j' l l' e e' b h1 h2 h3 h4 h5 h6 => ?_⟩
  · rcases get_set h1 hi with ⟨rfl, h4⟩ | ⟨_, h4⟩
    · cases h4
      exact absurd rfl hk'
    · obtain ⟨v, e1, r⟩ := R.val j e h4
      exact ⟨v, e1, Rp.mono av .refl _ _ r⟩
  · rcases get_set h1 hi with ⟨rfl, h4⟩ | ⟨_, h4⟩
    · cases h4
      obtain ⟨a', e1, f, _⟩ := R.mu j k d h hk
      rw [ha] at e1
      cases e1
      exact ⟨a, ha, f, c.mono av .refl fun _ z => z⟩
    · obtain ⟨a', e1, f, c'⟩ := R.mu j l e h4 h2
      exact ⟨a', e1, f, c'.mono av .refl fun _ z => z⟩
  · have g : ∀ {j : Nat} {l : Kd} {e : D}, (ρ.set i (some (k', d')))[j]? = some (some (l, e)) → l ≠ .val → ∃ l' e', ρ[j]? = some (some (l', e')) ∧ l' ≠ .val := by
      intro j l e h1 h2
      rcases get_set h1 hi with ⟨rfl, h4⟩ | ⟨_, h4⟩
      · exact ⟨k, d, h, hk⟩
      · exact ⟨l, e, h4, h2⟩
    obtain ⟨l1, e1, g1, g2⟩ := g h1 h2
    obtain ⟨l2, e2, g3, g4⟩ := g h3 h4
    exact R.inj j j' l1 l2 e1 e2 b g1 g2 g3 g4 h5 h6
/-- a slot that is not plain becomes plain -/
theorem m_demote {i : Nat} {k : Kd} {d d' : D} (h : ρ[i]? = some (some (k, d))) (b : Addr) (z : M (ρ.set i (some (Kd.val, d'))) σ b) : M ρ σ b ∧ ∀ (a : Addr) (R : Rel K F ρ σ H), k ≠ .val → σ[i]? = some (some (V.ref a)) → b ≠ a := by
  have hi := lt_of_get h
  obtain ⟨j, l, e, h1, h2, h3⟩ := z
  rcases get_set h1 hi with ⟨rfl, h4⟩ | ⟨ne, h4⟩
  · cases h4
    exact absurd rfl h2
  · refine ⟨⟨j, l, e, h4, h2, h3⟩, fun a R hk ha q => ne ?_⟩
    subst q
    exact R.inj j i l k e d b h4 h2 h hk h3 ha
theorem Cell.rp {A : Addr → Prop} {a : Addr} {d : D} (n : ¬ A a) (c : Cell K A H a d) : Rp K A H (.ref a) d := by
  cases c with
  | lst h r => exact .lst n h r
theorem Rel.demote {i : Nat} {k : Kd} {d : D} {a : Addr} (R : Rel K F ρ σ H) (h : ρ[i]? = some (some (k, d))) (hk : k ≠ .val) (ha : σ[i]? = some (some (V.ref a))) :
    Rel K F (ρ.set i (some (Kd.val, d))) σ H ∧ Rp K (Av F (ρ.set i (some (Kd.val, d))) σ) H (.ref a) d := by
  have hi := lt_of_get h
  have dm := fun b z => m_demote (K := K) (F := F) (σ := σ) (H := H) (d' := d) h b z
  have av : ∀ b, Av F (ρ.set i (some (Kd.val, d))) σ b → Av F ρ σ b := fun b z => z.imp id fun z => (dm b z).1
  obtain ⟨a', e1, f, c⟩ := R.mu i k d h hk
  rw [ha] at e1
  cases e1
  have na : ¬ Av F (ρ.set i (some (Kd.val, d))) σ a := fun z => z.elim f fun z => (dm a z).2 a R hk ha rfl
  have rp : Rp K (Av F (ρ.set i (some (Kd.val, d))) σ) H (.ref a) d := (c.mono av .refl fun _ z => z).rp na
  refine ⟨⟨by rw [List.length_set]; exact R.len, fun j e h1 => ?_, fun j l e h1 h2 => ?_, fun j j' l l' e e' b h1 h2 h3 h4 h5 h6 => ?_⟩, rp⟩
  · rcases get_set h1 hi with ⟨rfl, h4⟩ | ⟨_, h4⟩
    · cases h4
      exact ⟨_, ha, rp⟩
    · obtain ⟨v, e1, r⟩ := R.val j e h4
      exact ⟨v, e1, Rp.mono av .refl _ _ r⟩
  · rcases get_set h1 hi with ⟨rfl, h4⟩ | ⟨_, h4⟩
    · cases h4
      exact absurd rfl h2
    · obtain ⟨a', e1, f, c'⟩ := R.mu j l e h4 h2
      exact ⟨a', e1, f, c'.mono av .refl fun _ z => z⟩
  · rcases get_set h1 hi with ⟨rfl, g1⟩ | ⟨_, g1⟩
    · cases g1
      exact absurd rfl h2
    · rcases get_set h3 hi with ⟨rfl, g2⟩ | ⟨_, g2⟩
      · cases g2
        exact absurd rfl h4
      · exact R.inj j j' l l' e e' b g1 h2 g2 h4 h5 h6
theorem io_set {i : Nat} {k k' : Kd} {d d' : D} (h : ρ[i]? = some (some (k, d))) (hio : k.isIo → k'.isIo) (j : Nat) (l : Kd) (e : D) (h1 : ρ[j]? = some (some (l, e))) (z : l.isIo) : σ[j]? = σ[j]? ∧ ∃ l' e', (ρ.set i (some (k', d')))[j]? = some (some (l', e')) ∧ l'.isIo := by
  refine ⟨rfl, ?_⟩
  by_cases q : j = i
  · subst q
    rw [h] at h1
    cases h1
    exact ⟨k', d', List.getElem?_set_self (lt_of_get h), hio z⟩
  · exact ⟨l, e, by rw [List.getElem?_set_ne (Ne.symm q)]; exact h1, z⟩
/-- own becomes plain -/
theorem Post.demote {i : Nat} {k : Kd} {d : D} {a : Addr} (R : Rel K F ρ σ H) (h : ρ[i]? = some (some (k, d))) (hk : k = .own ∨ k = .lent) (ha : σ[i]? = some (some (V.ref a))) : Post K F ρ σ H (ρ.set i (some (Kd.val, d))) σ H := by
  have hi := lt_of_get h
  have kv : k ≠ .val := by rcases hk with rfl | rfl <;> decide
  have g : ∀ {j : Nat} {l : Kd} {e : D}, (ρ.set i (some (Kd.val, d)))[j]? = some (some (l, e)) → l ≠ .val → ρ[j]? = some (some (l, e)) := by
    intro j l e h1 h2
    rcases get_set h1 hi with ⟨rfl, h4⟩ | ⟨_, h4⟩
    · cases h4
      exact absurd rfl h2
    · exact h4
  refine ⟨(R.demote h kv ha).1, .refl, fun _ o e => ⟨o, e⟩, fun b ⟨j, l, e, h1, h2, h3⟩ => .inl ⟨j, l, e, g h1 h2, h2, h3⟩, fun b ⟨j, l, e, h1, h2, h3⟩ => .inl ⟨j, l, e, g h1 (by rcases h2 with rfl | rfl <;> decide), h2, h3⟩,
    fun b ⟨j, l, e, h1, h2, h3⟩ => .inl ⟨j, l, e, g h1 (by rcases h2 with rfl | rfl <;> decide), h2, h3⟩, io_set h fun z => ?_⟩
  rcases hk with rfl | rfl <;> rcases z with z | z <;> cases z
/-- own is lent, io is lent -/
theorem Post.lend {i : Nat} {k k' : Kd} {d : D} {a : Addr} (R : Rel K F ρ σ H) (h : ρ[i]? = some (some (k, d))) (hk : (k = .own ∧ k' = .lent) ∨ (k = .io ∧ k' = .lio)) (ha : σ[i]? = some (some (V.ref a))) : Post K F ρ σ H (ρ.set i (some (k', d))) σ H := by
  have hi := lt_of_get h
  have kv : k ≠ .val := by rcases hk with ⟨rfl, _⟩ | ⟨rfl, _⟩ <;> decide
  have kv' : k' ≠ .val := by rcases hk with ⟨_, rfl⟩ | ⟨_, rfl⟩ <;> decide
  obtain ⟨a', e1, f, c⟩ := R.mu i k d h kv
  rw [ha] at e1
  cases e1
  refine ⟨R.relabel h kv kv' ha c, .refl, fun _ o e => ⟨o, e⟩, fun b z => .inl ((m_relabel h kv kv' b).mp z), fun b ⟨j, l, e, h1, h2, h3⟩ => ?_, fun b ⟨j, l, e, h1, h2, h3⟩ => ?_, io_set h fun z => ?_⟩
  · rcases get_set h1 hi with ⟨rfl, h4⟩ | ⟨_, h4⟩
    · cases h4
      rcases hk with ⟨_, rfl⟩ | ⟨_, rfl⟩ <;> rcases h2 with h2 | h2 <;> cases h2
    · exact .inl ⟨j, l, e, h4, h2, h3⟩
  · rcases get_set h1 hi with ⟨rfl, h4⟩ | ⟨_, h4⟩
    · cases h4
      rcases hk with ⟨rfl, rfl⟩ | ⟨rfl, rfl⟩
      · exact .inl ⟨j, _, _, h, .inl rfl, h3⟩
      · rcases h2 with h2 | h2 <;> cases h2
    · exact .inl ⟨j, l, e, h4, h2, h3⟩
  · rcases hk with ⟨rfl, rfl⟩ | ⟨rfl, rfl⟩
    · rcases z with z | z <;> cases z
    · exact .inr rfl

/-! ### unlend -/
theorem unlend1_eq (ρ : Rho) (i : Nat) : (∃ d, ρ[i]? = some (some (Kd.lent, d)) ∧ unlend1 ρ i = ρ.set i (some (Kd.own, d))) ∨ (∃ d, ρ[i]? = some (some (Kd.lio, d)) ∧ unlend1 ρ i = ρ.set i (some (Kd.io, d))) ∨ unlend1 ρ i = ρ := by
  unfold unlend1
  split
  · exact .inl ⟨_, by assumption, rfl⟩
  · exact .inr (.inl ⟨_, by assumption, rfl⟩)
  · exact .inr (.inr rfl)
theorem Post.unlend1 {i : Nat} (P : Post K F ρ0 σ H0 ρ1 σ H1) (h0 : ∀ b, σ[i]? = some (some (V.ref b)) → Wr ρ0 σ b ∨ H0 b = Option.none) : Post K F ρ0 σ H0 (unlend1 ρ1 i) σ H1 ∧ ∀ b, M (MW.unlend1 ρ1 i) σ b ↔ M ρ1 σ b := by
  have key : ∀ {k k' : Kd} {d : D}, ρ1[i]? = some (some (k, d)) → ((k = .lent ∧ k' = .own) ∨ (k = .lio ∧ k' = .io)) → Post K F ρ0 σ H0 (ρ1.set i (some (k', d))) σ H1 ∧ ∀ b, M (ρ1.set i (some (k', d))) σ b ↔ M ρ1 σ b := by
    intro k k' d h hk
    have hi := lt_of_get h
    have kv : k ≠ .val := by rcases hk with ⟨rfl, _⟩ | ⟨rfl, _⟩ <;> decide
    have kv' : k' ≠ .val := by rcases hk with ⟨_, rfl⟩ | ⟨_, rfl⟩ <;> decide
    obtain ⟨a, ha, f, c⟩ := P.rel.mu i k d h kv
    refine ⟨⟨P.rel.relabel h kv kv' ha c, P.kp, P.tr, fun b z => P.sub b ((m_relabel h kv kv' b).mp z), fun b ⟨j, l, e, h1, h2, h3⟩ => ?_, fun b ⟨j, l, e, h1, h2, h3⟩ => ?_, fun j l e h1 z => ?_⟩, m_relabel h kv kv'⟩
    · rcases get_set h1 hi with ⟨rfl, h4⟩ | ⟨_, h4⟩
      · cases h4
        exact h0 b h3
      · exact P.wsub b ⟨j, l, e, h4, h2, h3⟩
    · rcases get_set h1 hi with ⟨rfl, h4⟩ | ⟨_, h4⟩
      · cases h4
        rcases hk with ⟨rfl, rfl⟩ | ⟨rfl, rfl⟩
        · exact P.osub b ⟨j, _, _, h, .inr rfl, h3⟩
        · rcases h2 with h2 | h2 <;> cases h2
      · exact P.osub b ⟨j, l, e, h4, h2, h3⟩
    · obtain ⟨g1, k2, d2, g2, z2⟩ := P.io j l e h1 z
      refine ⟨g1, ?_⟩
      by_cases q : j = i
      · subst q
        rw [h] at g2
        cases g2
        refine ⟨k', _, List.getElem?_set_self hi, ?_⟩
        rcases hk with ⟨rfl, rfl⟩ | ⟨rfl, rfl⟩
        · rcases z2 with z2 | z2 <;> cases z2
        · exact .inl rfl
      · exact ⟨k2, d2, by rw [List.getElem?_set_ne (Ne.symm q)]; exact g2, z2⟩
  rcases unlend1_eq ρ1 i with ⟨d, h, e⟩ | ⟨d, h, e⟩ | e
  · rw [e]
    exact key h (.inl ⟨rfl, rfl⟩)
  · rw [e]
    exact key h (.inr ⟨rfl, rfl⟩)
  · rw [e]
    exact ⟨P, fun _ => Iff.rfl⟩
theorem Post.unlend : ∀ {B : List Nat} {ρ1 : Rho}, Post K F ρ0 σ H0 ρ1 σ H1 → LentOk ρ0 σ H0 B → Post K F ρ0 σ H0 (unlend B ρ1) σ H1 ∧ ∀ b, M (MW.unlend B ρ1) σ b ↔ M ρ1 σ b
  | [], _, P, _ => ⟨P, fun _ => Iff.rfl⟩
  | i :: r, ρ1, P, h => by
    obtain ⟨P1, e1⟩ := P.unlend1 (h i List.mem_cons_self)
    obtain ⟨P2, e2⟩ := Post.unlend P1 fun j hj => h j (List.mem_cons_of_mem _ hj)
    exact ⟨P2, fun b => (e2 b).trans (e1 b)⟩
theorem LentOk.append {A B : List Nat} (a : LentOk ρ σ H A) (b : LentOk ρ σ H B) : LentOk ρ σ H (A ++ B) := fun i hi => (List.mem_append.mp hi).elim (a i) (b i)
theorem av_of {F : Addr → Prop} (e : ∀ b, M ρ2 σ b ↔ M ρ1 σ b) (b : Addr) : Av F ρ2 σ b → Av F ρ1 σ b := fun z => z.imp id (e b).mp

/-! ### results -/
/-- an operator's result, behind a run -/
theorem Res.ofO {v : V} {z : D × Bool} (P : Post K F ρ0 σ H0 ρ2 σ H1) (e : ∀ b, M ρ2 σ b → M ρ1 σ b) (s : Same H1 H2) (r : ResO K (Av F ρ1 σ) H1 H2 v z) : Res K F ρ2 σ H0 H2 v z := by
  unfold ResO at r
  unfold Res
  by_cases hz : z.2 = true
  · rw [if_pos hz] at r ⊢
    obtain ⟨a, xs, ds, rfl, n, h, e1, ra⟩ := r
    rw [e1]
    refine ⟨a, rfl, P.none n, .lst h (RpAll.mono (fun b q => ?_) .refl _ _ ra), (P.rel.protect n).same s⟩
    exact (av_fa q).imp (fun q => q.imp id (e b)) id
  · rw [if_neg hz] at r ⊢
    exact Rp.mono (fun b q => q.imp id (e b)) .refl _ _ r
/-- a result as data -/
theorem Res.rp {v : V} {r : D × Bool} (h : Res K F ρ1 σ H0 H1 v r) (f : Fk F H0) : Rp K (Av F ρ1 σ) H1 v r.1 := by
  unfold Res at h
  split at h
  · obtain ⟨a, rfl, n, c, R⟩ := h
    refine (c.mono (fun b z => fa_av (.inl z)) .refl fun _ z => z).rp fun z => ?_
    rcases z with z | z
    · obtain ⟨o, e⟩ := f a z
      rw [n] at e
      cases e
    · exact R.nf z (.inr rfl)
  · exact h
/-- a result as an operand -/
theorem Res.ro {v : V} {r : D × Bool} (h : Res K F ρ1 σ H0 H1 v r) (f : Fk F H0) : Ro K (Av F ρ1 σ) (Wr ρ1 σ) H1 v r.1 := .inl (h.rp f)
theorem Res.plain {v : V} {d : D} (h : Rp K (Av F ρ1 σ) H1 v d) : Res K F ρ1 σ H0 H1 v (d, false) := (if_neg Bool.false_ne_true).mpr h
theorem RoAll.post {vs : List V} {ds : List D} (P : Post K F ρ0 σ H0 ρ1 σ H1) (h : RoAll K (Av F ρ0 σ) (Wr ρ0 σ) H0 vs ds) : RoAll K (Av F ρ1 σ) (Wr ρ1 σ) H1 vs ds :=
  h.step (fun _ => P.avsub) P.wsub (fun _ => Wr.av) P.kp
theorem Ro.post {v : V} {d : D} (P : Post K F ρ0 σ H0 ρ1 σ H1) (h : Ro K (Av F ρ0 σ) (Wr ρ0 σ) H0 v d) : Ro K (Av F ρ1 σ) (Wr ρ1 σ) H1 v d :=
  h.step (fun _ => P.avsub) P.wsub (fun _ => Wr.av) P.kp
theorem LentOk.back {B : List Nat} (P : Post K F ρ0 σ H0 ρ1 σ H1) (h : LentOk ρ1 σ H1 B) : LentOk ρ0 σ H0 B :=
  fun i hi b e => (h i hi b e).elim (P.wsub b) fun z => .inr (P.none z)
end
end MW

namespace MW
open PySem PySem.Spec PyProof.Rows L2
section
variable {K : PySem.W.Frag} {C : Calls} {F F' : Addr → Prop} {ρ ρ0 ρ1 ρ2 : Rho} {σ σ0 σ1 σ2 : L2.St} {H H0 H1 H2 : Hp}

theorem snd_c {v : V} {d : D} (h : ∀ A H, Rp K A H v d) : SndE K C (tC v) (.c d) := by
  intro F ρ σ H r ρ1 e R f Q q
  simp only [ev, Option.some.injEq, Prod.mk.injEq] at e
  obtain ⟨rfl, rfl⟩ := e
  exact q v H (.refl R) (.plain (h _ _))
theorem snd_g {v : V} {k : Nat} (h : ∀ A H, Rp K A H v (C.glob k)) : SndE K C (tC v) (.g k) := by
  intro F ρ σ H r ρ1 e R f Q q
  simp only [ev, Option.some.injEq, Prod.mk.injEq] at e
  obtain ⟨rfl, rfl⟩ := e
  exact q v H (.refl R) (.plain (h _ _))
theorem snd_v {i : Nat} : SndE K C (tVar i) (.v i) := by
  intro F ρ σ H r ρ1 e R f Q q
  simp only [ev] at e
  unfold rdv at e
  split at e
  · rename_i d h
    cases e
    obtain ⟨v, hv, rp⟩ := R.val i d h
    exact ⟨v, hv, q v H (.refl R) (.plain rp)⟩
  · rename_i d h
    cases e
    obtain ⟨a, ha, _⟩ := R.mu i _ d h (by decide)
    exact ⟨_, ha, q _ H (.demote R h (.inl rfl) ha) (.plain (R.demote h (by decide) ha).2)⟩
  · rename_i d h
    cases e
    obtain ⟨a, ha, _⟩ := R.mu i _ d h (by decide)
    exact ⟨_, ha, q _ H (.demote R h (.inr rfl) ha) (.plain (R.demote h (by decide) ha).2)⟩
  · cases e
/-- a name read by an operator -/
theorem snd_lend {i : Nat} {d : D} {B : List Nat} (e : lendv ρ i = some (d, ρ1, B)) (R : Rel K F ρ σ H) :
    ∃ v, σ[i]? = some (some v) ∧ Post K F ρ σ H ρ1 σ H ∧ Ro K (Av F ρ1 σ) (Wr ρ1 σ) H v d ∧ LentOk ρ σ H B := by
  have nl : LentOk ρ σ H [] := fun _ h => nomatch h
  have cell : ∀ {a : Addr} {d : D} {ρ : Rho}, σ[i]? = some (some (V.ref a)) → Cell K (Av F ρ σ) H a d → ¬ Wr ρ σ a → Ro K (Av F ρ σ) (Wr ρ σ) H (.ref a) d := by
    intro a d ρ ha c n
    cases c with
    | lst h r => exact .inr ⟨a, _, _, rfl, rfl, h, n, r⟩
  have nw : ∀ {k : Kd} {d : D} {ρ : Rho} {a : Addr}, Rel K F ρ σ H → ρ[i]? = some (some (k, d)) → (k = .lent ∨ k = .lio) → σ[i]? = some (some (V.ref a)) → ¬ Wr ρ σ a := by
    rintro k d ρ a R h hk ha ⟨j, l, e, h1, h2, h3⟩
    have q := R.inj i j k l d e a h (by rcases hk with rfl | rfl <;> decide) h1 (by rcases h2 with rfl | rfl <;> decide) ha h3
    subst q
    rw [h] at h1
    cases h1
    rcases hk with rfl | rfl <;> rcases h2 with h2 | h2 <;> cases h2
  unfold lendv at e
  split at e
  · rename_i d h
    cases e
    obtain ⟨v, hv, rp⟩ := R.val i d h
    exact ⟨v, hv, .refl R, .inl rp, nl⟩
  · rename_i d h
    cases e
    obtain ⟨a, ha, _, c⟩ := R.mu i _ d h (by decide)
    have P : Post K F ρ σ H (ρ.set i (some (Kd.lent, d))) σ H := .lend R h (.inl ⟨rfl, rfl⟩) ha
    have g : (ρ.set i (some (Kd.lent, d)))[i]? = some (some (Kd.lent, d)) := List.getElem?_set_self (lt_of_get h)
    obtain ⟨a', ha', _, c'⟩ := P.rel.mu i _ d g (by decide)
    rw [ha] at ha'
    cases ha'
    refine ⟨_, ha, P, cell ha c' (nw P.rel g (.inl rfl) ha), fun j hj b hb => ?_⟩
    have ej : j = i := by simpa using hj
    subst ej
    exact .inl ⟨j, _, _, h, .inl rfl, hb⟩
  · rename_i d h
    cases e
    obtain ⟨a, ha, _, c⟩ := R.mu i _ d h (by decide)
    have P : Post K F ρ σ H (ρ.set i (some (Kd.lio, d))) σ H := .lend R h (.inr ⟨rfl, rfl⟩) ha
    have g : (ρ.set i (some (Kd.lio, d)))[i]? = some (some (Kd.lio, d)) := List.getElem?_set_self (lt_of_get h)
    obtain ⟨a', ha', _, c'⟩ := P.rel.mu i _ d g (by decide)
    rw [ha] at ha'
    cases ha'
    refine ⟨_, ha, P, cell ha c' (nw P.rel g (.inr rfl) ha), fun j hj b hb => ?_⟩
    have ej : j = i := by simpa using hj
    subst ej
    exact .inl ⟨j, _, _, h, .inr rfl, hb⟩
  · rename_i d h
    cases e
    obtain ⟨a, ha, _, c⟩ := R.mu i _ d h (by decide)
    exact ⟨_, ha, .refl R, cell ha c (nw R h (.inl rfl) ha), nl⟩
  · rename_i d h
    cases e
    obtain ⟨a, ha, _, c⟩ := R.mu i _ d h (by decide)
    exact ⟨_, ha, .refl R, cell ha c (nw R h (.inr rfl) ha), nl⟩
  · cases e

/-! ### rows of expressions -/
theorem snds_nil : SndS K C [] [] := by
  intro F ρ σ H ds ρ1 e R f Q q
  simp only [evs, Option.some.injEq, Prod.mk.injEq] at e
  obtain ⟨rfl, rfl⟩ := e
  exact q [] H (.refl R) .nil
theorem snds_cons {t : TE} {e : E} {ts : List TE} {es : List E} (h : SndE K C t e) (hs : SndS K C ts es) : SndS K C (t :: ts) (e :: es) := by
  intro F ρ σ H ds ρ2 e R f Q q
  simp only [evs] at e
  obtain ⟨⟨r, ρ1⟩, e1, e⟩ := Option.bind_eq_some_iff.mp e
  obtain ⟨⟨ds', ρ2'⟩, e2, e⟩ := Option.bind_eq_some_iff.mp e
  simp only [Option.some.injEq, Prod.mk.injEq] at e
  obtain ⟨rfl, rfl⟩ := e
  refine h F ρ σ H r ρ1 e1 R f _ fun v H1 P1 r1 => ?_
  refine hs F ρ1 σ H1 ds' ρ2' e2 P1.rel (P1.fk f) _ fun vs H2 P2 r2 => ?_
  exact q (v :: vs) H2 (P1.trans P2) (.cons (P2.rp (r1.rp f)) r2)
/-- one operand -/
def evb (C : Calls) (e : E) (ρ : Rho) : Option (D × Rho × List Nat) := match e with
  | .v i => lendv ρ i
  | e => (ev C e ρ).bind fun (r, ρ1) => some (r.1, ρ1, [])
theorem evbs_cons (e : E) (es : List E) (ρ : Rho) : evbs C (e :: es) ρ = (evb C e ρ).bind fun (d, ρ1, B) => (evbs C es ρ1).bind fun (ds, ρ2, B2) => some (d :: ds, ρ2, B ++ B2) := by
  cases e <;> simp only [evbs, evb, Option.bind_assoc, Option.bind_some, List.nil_append]
theorem evb_cases {e : E} {ρ : Rho} {d : D} {ρ1 : Rho} {B : List Nat} (h : evb C e ρ = some (d, ρ1, B)) : (∃ i, e = .v i ∧ lendv ρ i = some (d, ρ1, B)) ∨ (∃ r, ev C e ρ = some (r, ρ1) ∧ d = r.1 ∧ B = []) := by
  unfold evb at h
  split at h
  · exact .inl ⟨_, rfl, h⟩
  · obtain ⟨⟨r, ρ'⟩, h1, h2⟩ := Option.bind_eq_some_iff.mp h
    simp only [Option.some.injEq, Prod.mk.injEq] at h2
    obtain ⟨rfl, rfl, rfl⟩ := h2
    exact .inr ⟨r, h1, rfl, rfl⟩
theorem snd_b {t : TE} {e : E} (h : SndE K C t e) (nm : Nm t e) {d : D} {B : List Nat} (he : evb C e ρ = some (d, ρ1, B)) (R : Rel K F ρ σ H) (f : Fk F H) (Q : VK)
    (q : ∀ v H1, Post K F ρ σ H ρ1 σ H1 → Ro K (Av F ρ1 σ) (Wr ρ1 σ) H1 v d → LentOk ρ σ H B → Q v H1) : t σ H Q := by
  rcases evb_cases he with ⟨i, e1, e2⟩ | ⟨r, e1, rfl, rfl⟩
  · obtain ⟨v, hv, P, ro, l⟩ := snd_lend e2 R
    rw [nm i e1]
    exact ⟨v, hv, q v H P ro l⟩
  · exact h F ρ σ H r ρ1 e1 R f Q fun v H1 P rr => q v H1 P (rr.ro f) fun _ h => nomatch h
theorem sndb_nil : SndB K C [] [] := by
  intro F ρ σ H ds ρ1 B e R f Q q
  simp only [evbs, Option.some.injEq, Prod.mk.injEq] at e
  obtain ⟨rfl, rfl, rfl⟩ := e
  exact q [] H (.refl R) True.intro fun _ h => nomatch h
theorem sndb_cons {t : TE} {e : E} {ts : List TE} {es : List E} (h : SndE K C t e) (nm : Nm t e) (hs : SndB K C ts es) : SndB K C (t :: ts) (e :: es) := by
  intro F ρ σ H ds ρ2 B e R f Q q
  rw [evbs_cons] at e
  obtain ⟨⟨d, ρ1, B1⟩, e1, e⟩ := Option.bind_eq_some_iff.mp e
  obtain ⟨⟨ds', ρ2', B2⟩, e2, e⟩ := Option.bind_eq_some_iff.mp e
  simp only [Option.some.injEq, Prod.mk.injEq] at e
  obtain ⟨rfl, rfl, rfl⟩ := e
  refine snd_b h nm e1 R f _ fun v H1 P1 r1 l1 => ?_
  refine hs F ρ1 σ H1 ds' ρ2' B2 e2 P1.rel (P1.fk f) _ fun vs H2 P2 r2 l2 => ?_
  exact q (v :: vs) H2 (P1.trans P2) ⟨r1.post P2, r2⟩ (l1.append (l2.back P1))

/-! ### displays, operators -/
theorem evs_len : ∀ {es : List E} {ρ : Rho} {ds : List D} {ρ2 : Rho}, evs C es ρ = some (ds, ρ2) → ds.length = es.length := by
  intro es
  induction es with
  | nil => intro ρ ds ρ2 e; simp only [evs, Option.some.injEq, Prod.mk.injEq] at e; rw [← e.1]; rfl
  | cons e es ih =>
    intro ρ ds ρ2 h
    simp only [evs] at h
    obtain ⟨⟨r, ρ1⟩, _, h⟩ := Option.bind_eq_some_iff.mp h
    obtain ⟨⟨ds', ρ2'⟩, e2, h⟩ := Option.bind_eq_some_iff.mp h
    simp only [Option.some.injEq, Prod.mk.injEq] at h
    rw [← h.1, List.length_cons, List.length_cons, ih e2]
theorem snd_tup {ts : List TE} {es : List E} (hs : SndS K C ts es) (hl : es.length ≤ lim) (hlen : ts.length = es.length) : SndE K C (tTup (seqT ts)) (.tup es) := by
  intro F ρ σ H r ρ1 e R f Q q
  simp only [ev] at e
  obtain ⟨⟨ds, ρ2⟩, e1, e⟩ := Option.bind_eq_some_iff.mp e
  simp only [Option.some.injEq, Prod.mk.injEq] at e
  obtain ⟨rfl, rfl⟩ := e
  refine hs F ρ σ H ds ρ2 e1 R f _ fun vs H1 P r => ⟨?_, fun p np => ?_⟩
  · rw [r.length, evs_len e1]
    exact hl
  · have s : Same H1 (upd H1 p (.tup vs)) := same_upd np
    exact q _ _ (P.trans (.same P.rel s)) (.plain (.tup (.of upd_same) (RpAll.mono (fun _ z => z) (.ofSame s) _ _ r)))
theorem snd_lst {ts : List TE} {es : List E} (hs : SndS K C ts es) (hl : es.length ≤ lim) : SndE K C (tLst (seqT ts)) (.lst es) := by
  intro F ρ σ H r ρ1 e R f Q q
  simp only [ev] at e
  obtain ⟨⟨ds, ρ2⟩, e1, e⟩ := Option.bind_eq_some_iff.mp e
  simp only [Option.some.injEq, Prod.mk.injEq] at e
  obtain ⟨rfl, rfl⟩ := e
  refine hs F ρ σ H ds ρ2 e1 R f _ fun vs H1 P r => ⟨?_, fun p np => ?_⟩
  · rw [r.length, evs_len e1]
    exact hl
  · have s : Same H1 (upd H1 p (.lst vs)) := same_upd np
    exact q _ _ (P.trans (.same P.rel s)) (Res.ofO P (fun _ z => z) s (resO_new np r))
/-- what a reading by values gives for an operator -/
def OpSound (K : PySem.W.Frag) (o : Op) (n : Nat) (rr : List V → Hp → VK → Prop) : Prop := ∀ (A W : Addr → Prop) (H : Hp) (vs : List V) (ds : List D) (z : D × Bool) (Q : VK), ds.length = n → RoAll K A W H vs ds → opF o ds = some z →
  (∀ v H1, Same H H1 → ResO K A H H1 v z → Q v H1) → rr vs H Q
theorem evbs_len : ∀ {es : List E} {ρ : Rho} {ds : List D} {ρ2 : Rho} {B : List Nat}, evbs C es ρ = some (ds, ρ2, B) → ds.length = es.length := by
  intro es
  induction es with
  | nil => intro ρ ds ρ2 B e; simp only [evbs, Option.some.injEq, Prod.mk.injEq] at e; rw [← e.1]; rfl
  | cons e es ih =>
    intro ρ ds ρ2 B h
    rw [evbs_cons] at h
    obtain ⟨⟨r, ρ1, B1⟩, _, h⟩ := Option.bind_eq_some_iff.mp h
    obtain ⟨⟨ds', ρ2', B2⟩, e2, h⟩ := Option.bind_eq_some_iff.mp h
    simp only [Option.some.injEq, Prod.mk.injEq] at h
    rw [← h.1, List.length_cons, List.length_cons, ih e2]
theorem snd_op {o : Op} {t : TE} {ts : List TE} {es : List E} {rr : List V → Hp → VK → Prop} (hs : SndB K C ts es) (hr : OpSound K o es.length rr) (ht : ∀ σ H Q, seqT ts σ H (fun vs H1 => rr vs H1 Q) → t σ H Q) : SndE K C t (.op o es) := by
  intro F ρ σ H r ρ1 e R f Q q
  simp only [ev] at e
  obtain ⟨⟨ds, ρ2, B⟩, e1, e⟩ := Option.bind_eq_some_iff.mp e
  obtain ⟨z, e2, e⟩ := Option.bind_eq_some_iff.mp e
  simp only [Option.some.injEq, Prod.mk.injEq] at e
  obtain ⟨rfl, rfl⟩ := e
  refine ht σ H Q (hs F ρ σ H ds ρ2 B e1 R f _ fun vs H1 P ro l => ?_)
  refine hr _ _ H1 vs ds z Q (evbs_len e1) ro e2 fun v H2 s ro2 => ?_
  obtain ⟨P2, em⟩ := P.unlend l
  exact q v H2 (P2.trans (.same P2.rel s)) (Res.ofO P2 (fun b => (em b).mp) s ro2)

/-! ### tests, and or not, a if c else b -/
theorem asBool_some {r : (D × Bool) × Rho} {k : Bool} {ρ' : Rho} (h : asBool r = some (k, ρ')) : r.1.1 = .bool k ∧ r.2 = ρ' := by
  unfold asBool at h
  split at h
  · rename_i b hb
    simp only [Option.some.injEq, Prod.mk.injEq] at h
    exact ⟨by rw [hb, h.1], h.2⟩
  · cases h
theorem Res.bl {v : V} {r : D × Bool} {k : Bool} (h : Res K F ρ1 σ H0 H1 v r) (f : Fk F H0) (e : r.1 = .bool k) : v = .bl k := by
  have h1 := h.rp f
  rw [e] at h1
  cases h1
  rfl
/-- a value that is a bool, as a test -/
theorem sndt_val {t : TE} {e : E} (h : SndE K C t e) : SndT K C (tB t) e := by
  intro F ρ σ H k ρ1 he R f Q q
  obtain ⟨⟨r, ρ2⟩, e1, e2⟩ := Option.bind_eq_some_iff.mp he
  obtain ⟨e3, rfl⟩ := asBool_some e2
  exact h F ρ σ H r _ e1 R f _ fun v H1 P rr => ⟨k, rr.bl f e3, q H1 P⟩
theorem sndt_test {t : TE} {e : E} (h : SndE K C t e) : SndT K C (tTest t) e := sndt_val h
theorem snd_and {ta tb : TE} {a b : E} (ha : SndE K C ta a) (hb : SndE K C tb b) : SndE K C (tAndV ta tb) (.and a b) := by
  intro F ρ σ H r ρ1 e R f Q q
  simp only [ev] at e
  obtain ⟨⟨x, ρ2⟩, e1, e⟩ := Option.bind_eq_some_iff.mp e
  obtain ⟨⟨k, ρ3⟩, e2, e⟩ := Option.bind_eq_some_iff.mp e
  obtain ⟨e3, rfl⟩ := asBool_some e2
  refine ha F ρ σ H x ρ2 e1 R f _ fun v H1 P rr => ⟨k, rr.bl f e3, ?_⟩
  cases k with
  | true =>
    rw [if_pos rfl] at e ⊢
    exact hb F ρ2 σ H1 r ρ1 e P.rel (P.fk f) Q fun v H2 P2 r2 => q v H2 (P.trans P2) (by
      unfold Res at r2 ⊢
      split
      · rename_i hz
        rw [if_pos hz] at r2
        obtain ⟨a, e1, n, c⟩ := r2
        exact ⟨a, e1, P.none n, c⟩
      · rename_i hz
        rw [if_neg hz] at r2
        exact r2)
  | false =>
    rw [if_neg Bool.false_ne_true] at e ⊢
    cases e
    exact q _ H1 P (.plain (.bl _))
theorem Res.later {v : V} {r : D × Bool} (P : Post K F ρ0 σ H0 ρ1 σ H1) (r2 : Res K F ρ2 σ H1 H2 v r) : Res K F ρ2 σ H0 H2 v r := by
  unfold Res at r2 ⊢
  split
  · rename_i hz
    rw [if_pos hz] at r2
    obtain ⟨a, e1, n, c⟩ := r2
    exact ⟨a, e1, P.none n, c⟩
  · rename_i hz
    rw [if_neg hz] at r2
    exact r2
theorem snd_or {ta tb : TE} {a b : E} (ha : SndE K C ta a) (hb : SndE K C tb b) : SndE K C (tOrV ta tb) (.or a b) := by
  intro F ρ σ H r ρ1 e R f Q q
  simp only [ev] at e
  obtain ⟨⟨x, ρ2⟩, e1, e⟩ := Option.bind_eq_some_iff.mp e
  obtain ⟨⟨k, ρ3⟩, e2, e⟩ := Option.bind_eq_some_iff.mp e
  obtain ⟨e3, rfl⟩ := asBool_some e2
  refine ha F ρ σ H x ρ2 e1 R f _ fun v H1 P rr => ⟨k, rr.bl f e3, ?_⟩
  cases k with
  | true =>
    rw [if_pos rfl] at e ⊢
    cases e
    exact q _ H1 P (.plain (.bl _))
  | false =>
    rw [if_neg Bool.false_ne_true] at e ⊢
    exact hb F ρ2 σ H1 r ρ1 e P.rel (P.fk f) Q fun v H2 P2 r2 => q v H2 (P.trans P2) (r2.later P)
theorem snd_not {ta : TE} {a : E} (ha : SndE K C ta a) : SndE K C (tNotV ta) (.not a) := by
  intro F ρ σ H r ρ1 e R f Q q
  simp only [ev] at e
  obtain ⟨⟨x, ρ2⟩, e1, e⟩ := Option.bind_eq_some_iff.mp e
  obtain ⟨⟨k, ρ3⟩, e2, e⟩ := Option.bind_eq_some_iff.mp e
  obtain ⟨e3, rfl⟩ := asBool_some e2
  cases e
  exact ha F ρ σ H x _ e1 R f _ fun v H1 P rr => ⟨k, rr.bl f e3, q _ H1 P (.plain (.bl _))⟩
theorem snd_ite {tc : TT} {ta tb : TE} {c a b : E} (hc : SndT K C tc c) (ha : SndE K C ta a) (hb : SndE K C tb b) : SndE K C (tIf tc ta tb) (.ite c a b) := by
  intro F ρ σ H r ρ1 e R f Q q
  simp only [ev] at e
  rw [← Option.bind_assoc] at e
  obtain ⟨⟨k, ρ2⟩, e1, e⟩ := Option.bind_eq_some_iff.mp e
  refine hc F ρ σ H k ρ2 e1 R f _ fun H1 P => ?_
  cases k with
  | true =>
    rw [if_pos rfl] at e ⊢
    exact ha F ρ2 σ H1 r ρ1 e P.rel (P.fk f) Q fun v H2 P2 r2 => q v H2 (P.trans P2) (r2.later P)
  | false =>
    rw [if_neg Bool.false_ne_true] at e ⊢
    exact hb F ρ2 σ H1 r ρ1 e P.rel (P.fk f) Q fun v H2 P2 r2 => q v H2 (P.trans P2) (r2.later P)
theorem sndt_and {ta tb : TT} {a b : E} (ha : SndT K C ta a) (hb : SndT K C tb b) : SndT K C (tAnd ta tb) (.and a b) := by
  intro F ρ σ H k ρ1 e R f Q q
  simp only [ev] at e
  rw [← Option.bind_assoc, Option.bind_assoc] at e
  obtain ⟨⟨x, ρ2⟩, e1, e⟩ := Option.bind_eq_some_iff.mp e
  refine ha F ρ σ H x ρ2 e1 R f _ fun H1 P => ?_
  cases x with
  | true =>
    rw [if_pos rfl] at e ⊢
    exact hb F ρ2 σ H1 k ρ1 e P.rel (P.fk f) Q fun H2 P2 => q H2 (P.trans P2)
  | false =>
    rw [if_neg Bool.false_ne_true] at e ⊢
    cases e
    exact q H1 P
theorem sndt_or {ta tb : TT} {a b : E} (ha : SndT K C ta a) (hb : SndT K C tb b) : SndT K C (tOr ta tb) (.or a b) := by
  intro F ρ σ H k ρ1 e R f Q q
  simp only [ev] at e
  rw [← Option.bind_assoc, Option.bind_assoc] at e
  obtain ⟨⟨x, ρ2⟩, e1, e⟩ := Option.bind_eq_some_iff.mp e
  refine ha F ρ σ H x ρ2 e1 R f _ fun H1 P => ?_
  cases x with
  | true =>
    rw [if_pos rfl] at e ⊢
    cases e
    exact q H1 P
  | false =>
    rw [if_neg Bool.false_ne_true] at e ⊢
    exact hb F ρ2 σ H1 k ρ1 e P.rel (P.fk f) Q fun H2 P2 => q H2 (P.trans P2)
theorem sndt_not {ta : TT} {a : E} (ha : SndT K C ta a) : SndT K C (tNot ta) (.not a) := by
  intro F ρ σ H k ρ1 e R f Q q
  simp only [ev] at e
  rw [← Option.bind_assoc, Option.bind_assoc] at e
  obtain ⟨⟨x, ρ2⟩, e1, e⟩ := Option.bind_eq_some_iff.mp e
  cases e
  exact ha F ρ σ H x _ e1 R f _ fun H1 P => q H1 P
theorem sndt_ite {tc ta tb : TT} {c a b : E} (hc : SndT K C tc c) (ha : SndT K C ta a) (hb : SndT K C tb b) : SndT K C (fun σ H Q => tc σ H fun k H1 => if k = true then ta σ H1 Q else tb σ H1 Q) (.ite c a b) := by
  intro F ρ σ H k ρ1 e R f Q q
  simp only [ev] at e
  rw [← Option.bind_assoc, Option.bind_assoc] at e
  obtain ⟨⟨x, ρ2⟩, e1, e⟩ := Option.bind_eq_some_iff.mp e
  refine hc F ρ σ H x ρ2 e1 R f _ fun H1 P => ?_
  cases x with
  | true =>
    rw [if_pos rfl] at e ⊢
    exact ha F ρ2 σ H1 k ρ1 e P.rel (P.fk f) Q fun H2 P2 => q H2 (P.trans P2)
  | false =>
    rw [if_neg Bool.false_ne_true] at e ⊢
    exact hb F ρ2 σ H1 k ρ1 e P.rel (P.fk f) Q fun H2 P2 => q H2 (P.trans P2)
/-- a < b < c -/
def CmpSound (K : PySem.W.Frag) (c : Cop) (r : R2) : Prop := ∀ (A W : Addr → Prop) (H : Hp) (x y : V) (d e : D) (k : Bool) (Q : VK), Ro K A W H x d → Ro K A W H y e → cmpF c d e = some k → Q (.bl k) H → r x y H Q
theorem snd_chain {o p : Cop} {r r' : R2} {ta tb tc : TE} {a b c : E} (hr : CmpSound K o r) (hr' : CmpSound K p r') (ha : SndE K C ta a) (hb : SndE K C tb b) (hc : SndE K C tc c) : SndE K C (tChain r r' ta tb tc) (.chain o p a b c) := by
  intro F ρ σ H z ρ1 e R f Q q
  simp only [ev] at e
  obtain ⟨⟨x, ρ2⟩, e1, e⟩ := Option.bind_eq_some_iff.mp e
  obtain ⟨⟨y, ρ3⟩, e2, e⟩ := Option.bind_eq_some_iff.mp e
  obtain ⟨k, e3, e⟩ := Option.bind_eq_some_iff.mp e
  refine ha F ρ σ H x ρ2 e1 R f _ fun v H1 P1 r1 => ?_
  refine hb F ρ2 σ H1 y ρ3 e2 P1.rel (P1.fk f) _ fun u H2 P2 r2 => ?_
  have ro2 := r2.ro (P1.fk f)
  refine hr _ _ H2 v u x.1 y.1 k _ (Ro.post P2 (r1.ro f)) ro2 e3 ⟨k, rfl, ?_⟩
  cases k with
  | true =>
    rw [if_pos rfl] at e ⊢
    obtain ⟨⟨w, ρ4⟩, e4, e⟩ := Option.bind_eq_some_iff.mp e
    obtain ⟨l, e5, e⟩ := Option.bind_eq_some_iff.mp e
    cases e
    have P12 := P1.trans P2
    refine hc F ρ3 σ H2 w _ e4 P12.rel (P12.fk f) _ fun w' H3 P3 r3 => ?_
    refine hr' _ _ H3 u w' y.1 w.1 l Q (Ro.post P3 ro2) (r3.ro (P12.fk f)) e5 (q _ H3 (P12.trans P3) (.plain (.bl _)))
  | false =>
    rw [if_neg Bool.false_ne_true] at e ⊢
    cases e
    exact q _ H2 (P1.trans P2) (.plain (.bl _))
/-- a store into a list of our own -/
theorem Post.store {i : Nat} {k : Kd} {d0 : D} {a : Addr} {xs xs' : List V} {ds' : List D} (R : Rel K F ρ σ H) (h : ρ[i]? = some (some (k, d0))) (hk : k = .own ∨ k = .io) (ha : σ[i]? = some (some (V.ref a))) (hx : H a = some (.lst xs))
    (rd : RpAll K (Av F ρ σ) H xs' ds') : Post K F ρ σ H (ρ.set i (some (k, .list ds'))) σ (upd H a (.lst xs')) := by
  have kv : k ≠ .val := by rcases hk with rfl | rfl <;> decide
  have hi := lt_of_get h
  obtain ⟨a', ha', nf, _⟩ := R.mu i k _ h kv
  rw [ha] at ha'
  cases ha'
  have kp : Kp (Wr ρ σ) H (upd H a (.lst xs')) := fun b o e w => by
    by_cases q : b = a
    · subst q
      have hw : mutO o = false := w ⟨i, k, _, h, hk, ha⟩
      rw [hx] at e
      cases e
      cases hw
    · rw [upd_ne q]
      exact e
  have kpA : Kp (Av F ρ σ) H (upd H a (.lst xs')) := kp.mono fun _ => Wr.av
  have mm := m_relabel (σ := σ) (d' := PyData.list ds') h kv kv
  have av : ∀ b, Av F (ρ.set i (some (k, .list ds'))) σ b → Av F ρ σ b := fun b z => z.imp id (mm b).mp
  refine ⟨⟨by rw [List.length_set]; exact R.len, fun j e h1 => ?_, fun j l e h1 h2 => ?_, fun j j' l l' e e' b h1 h2 h3 h4 h5 h6 => ?_⟩, kp, fun b o e => ?_, fun b z => .inl ((mm b).mp z), fun b ⟨j, l, e, h1, h2, h3⟩ => ?_, fun b ⟨j, l, e, h1, h2, h3⟩ => ?_, io_set h fun z => z⟩
  · rcases get_set h1 hi with ⟨rfl, h4⟩ | ⟨_, h4⟩
    · cases h4
      exact absurd rfl kv
    · obtain ⟨v, e1, r⟩ := R.val j e h4
      exact ⟨v, e1, Rp.mono av kpA _ _ r⟩
  · rcases get_set h1 hi with ⟨rfl, h4⟩ | ⟨ne, h4⟩
    · cases h4
      exact ⟨a, ha, nf, .lst upd_same (RpAll.mono av kpA _ _ rd)⟩
    · obtain ⟨a', e1, f', c'⟩ := R.mu j l e h4 h2
      have na : a' ≠ a := fun q => by
        subst q
        exact ne (R.inj j i l k e _ a' h4 h2 h kv e1 ha)
      exact ⟨a', e1, f', c'.mono av kpA fun o z => by rw [upd_ne na]; exact z⟩
  · have g : ∀ {j : Nat} {l : Kd} {e : D}, (ρ.set i (some (k, PyData.list ds')))[j]? = some (some (l, e)) → l ≠ .val → ∃ l' e', ρ[j]? = some (some (l', e')) ∧ l' ≠ .val := by
      intro j l e h1 h2
      rcases get_set h1 hi with ⟨rfl, h4⟩ | ⟨_, h4⟩
      · exact ⟨k, _, h, kv⟩
      · exact ⟨l, e, h4, h2⟩
    obtain ⟨l1, e1, g1, g2⟩ := g h1 h2
    obtain ⟨l2, e2, g3, g4⟩ := g h3 h4
    exact R.inj j j' l1 l2 e1 e2 b g1 g2 g3 g4 h5 h6
  · by_cases q : b = a
    · exact ⟨_, by rw [q]; exact upd_same⟩
    · exact ⟨o, by rw [upd_ne q]; exact e⟩
  · rcases get_set h1 hi with ⟨rfl, h4⟩ | ⟨_, h4⟩
    · cases h4
      exact .inl ⟨j, k, _, h, hk, h3⟩
    · exact .inl ⟨j, l, e, h4, h2, h3⟩
  · rcases get_set h1 hi with ⟨rfl, h4⟩ | ⟨_, h4⟩
    · cases h4
      exact .inl ⟨j, k, _, h, h2, h3⟩
    · exact .inl ⟨j, l, e, h4, h2, h3⟩
/-- l.pop() -/
theorem snd_pop {i : Nat} : SndE K C (tBM0 K "list" rPop (tVar i)) (.pop i) := by
  intro F ρ σ H z ρ1 e R f Q q
  have go : ∀ {k : Kd} {ds : List D} {d : D}, (k = .own ∨ k = .io) → ρ[i]? = some (some (k, .list ds)) → ds.getLast? = some d → (∀ v H1, Post K F ρ σ H (ρ.set i (some (k, .list ds.dropLast))) σ H1 → Rp K (Av F (ρ.set i (some (k, .list ds.dropLast))) σ) H1 v d → Q v H1) → tBM0 K "list" rPop (tVar i) σ H Q := by
    intro k ds d hk h hl q
    have kv : k ≠ .val := by rcases hk with rfl | rfl <;> decide
    obtain ⟨a, ha, nf, c⟩ := R.mu i k _ h kv
    cases c with
    | @lst xs _ hx r =>
      have hlast : ds[ds.length - 1]? = some d := by rw [← List.getLast?_eq_getElem?]; exact hl
      obtain ⟨v, hv, rv⟩ := r.get hlast
      have rd : RpAll K (Av F ρ σ) H xs.dropLast ds.dropLast := by
        rw [List.dropLast_eq_take, List.dropLast_eq_take, r.length]
        exact r.take _
      have P : Post K F ρ σ H (ρ.set i (some (k, .list ds.dropLast))) σ (upd H a (.lst xs.dropLast)) := .store R h hk ha hx rd
      exact ⟨_, ha, .inl ⟨rfl, _, .of hx⟩, a, xs, v, rfl, rfl, hx, by rw [r.length]; exact hv, q v _ P (P.rp rv)⟩
  simp only [ev] at e
  split at e
  · rename_i ds h
    obtain ⟨d, e1, e⟩ := Option.bind_eq_some_iff.mp e
    cases e
    exact go (.inl rfl) h e1 fun v H1 P r => q v H1 P (.plain r)
  · rename_i ds h
    obtain ⟨d, e1, e⟩ := Option.bind_eq_some_iff.mp e
    cases e
    exact go (.inr rfl) h e1 fun v H1 P r => q v H1 P (.plain r)
  · cases e
end
end MW

namespace MW
open PySem PySem.Spec PyProof.Rows L2

/-! ### what is walked -/
inductive Src (K : PySem.W.Frag) (A W : Addr → Prop) (H : Hp) : It → List D → Prop
  | lst {a : Addr} {xs : List V} {ds : List D} : H a = some (.lst xs) → ¬ W a → RpAll K A H xs ds → Src K A W H (Itl K a) ds
  | tup {a : Addr} {xs : List V} {ds : List D} : SqT K H a xs → RpAll K A H xs ds → Src K A W H (Itt K a) ds
  | str {z : Str} : PyData.strOk z = true → Src K A W H (Its z) (signs z)
  | rng {lo : Int} {n : Nat} : Src K A W H (Itr lo n) (rngF lo n)
  | zipL {a b : Addr} {xs ys : List V} {ds es : List D} : H a = some (.lst xs) → ¬ W a → RpAll K A H xs ds → H b = some (.lst ys) → ¬ W b → RpAll K A H ys es → Src K A W H (Itz K a b) (zipF ds es)
  | zipT {a b : Addr} {xs ys : List V} {ds es : List D} : SqT K H a xs → RpAll K A H xs ds → SqT K H b ys → RpAll K A H ys es → Src K A W H (RZ.ItzT K a b) (zipF ds es)
  | enum {a : Addr} {xs : List V} {ds : List D} : H a = some (.lst xs) → ¬ W a → RpAll K A H xs ds → Src K A W H (Ite K a) (enumF 0 ds)
/-- what stays true of lists and tuples that stand -/
structure Std (K : PySem.W.Frag) (H : Hp) : Prop where
  l : ∀ a xs ys, H a = some (.lst xs) → SqL K H a ys → ys = xs
  t : ∀ a xs ys, SqT K H a xs → SqT K H a ys → ys = xs
section
variable {K : PySem.W.Frag} {A W A' W' : Addr → Prop} {H H1 : Hp} {J : It} {ds : List D}
theorem Src.step (h : Src K A W H J ds) (s : ∀ b, A' b → A b ∨ H b = none) (w : ∀ b, W' b → W b ∨ H b = none) (wa : ∀ b, W b → A b) (k : Kp W H H1) : Src K A' W' H1 J ds := by
  have lk : ∀ {a : Addr} {xs : List V}, H a = some (.lst xs) → ¬ W a → H1 a = some (.lst xs) ∧ ¬ W' a := fun {a xs} e n => ⟨k _ _ e fun z => absurd z n, fun z => (w _ z).elim n fun z => by
    rw [e] at z
    cases z⟩
  have kA : Kp A H H1 := k.mono wa
  cases h with
  | lst e n r => exact .lst (lk e n).1 (lk e n).2 (RpAll.step s kA _ _ r)
  | tup e r => exact .tup (kA.tup e) (RpAll.step s kA _ _ r)
  | str o => exact .str o
  | rng => exact .rng
  | zipL e n r e2 n2 r2 => exact .zipL (lk e n).1 (lk e n).2 (RpAll.step s kA _ _ r) (lk e2 n2).1 (lk e2 n2).2 (RpAll.step s kA _ _ r2)
  | zipT e r e2 r2 => exact .zipT (kA.tup e) (RpAll.step s kA _ _ r) (kA.tup e2) (RpAll.step s kA _ _ r2)
  | enum e n r => exact .enum (lk e n).1 (lk e n).2 (RpAll.step s kA _ _ r)
theorem rngF_len : ∀ (n : Nat) (lo : Int), (rngF lo n).length = n
  | 0, _ => rfl
  | n + 1, lo => by simp [rngF, rngF_len n]
theorem rngF_get : ∀ (n : Nat) (lo : Int) (i : Nat), i < n → (rngF lo n)[i]? = some (.int (lo + i))
  | n + 1, lo, 0, _ => by
    show some (PyData.int lo) = some (.int (lo + ((0 : Nat) : Int)))
    rw [show lo + ((0 : Nat) : Int) = lo from Int.add_zero lo]
  | n + 1, lo, i + 1, h => by
    show (rngF (lo + 1) n)[i]? = _
    rw [rngF_get n (lo + 1) i (by omega), show lo + 1 + (i : Int) = lo + ((i + 1 : Nat) : Int) by omega]
theorem zipF_len : ∀ (xs ys : List D), (zipF xs ys).length = min xs.length ys.length
  | [], _ => by simp [zipF]
  | _ :: _, [] => by simp [zipF]
  | x :: xs, y :: ys => by
    show (zipF xs ys).length + 1 = min (xs.length + 1) (ys.length + 1)
    rw [zipF_len xs ys]
    omega
theorem zipF_get : ∀ (xs ys : List D) (i : Nat) (x y : D), xs[i]? = some x → ys[i]? = some y → (zipF xs ys)[i]? = some (.tuple [x, y])
  | [], _, _, _, _, h, _ => by simp at h
  | _ :: _, [], _, _, _, _, h => by simp at h
  | x :: xs, y :: ys, 0, _, _, h, g => by
    simp at h g
    subst h g
    rfl
  | x :: xs, y :: ys, i + 1, a, b, h, g => zipF_get xs ys i a b (by simpa using h) (by simpa using g)
theorem enumF_len : ∀ (xs : List D) (i : Nat), (enumF i xs).length = xs.length
  | [], _ => rfl
  | x :: xs, i => by simp [enumF, enumF_len xs]
theorem enumF_get : ∀ (xs : List D) (j i : Nat) (x : D), xs[i]? = some x → (enumF j xs)[i]? = some (.tuple [.int ((j + i : Nat) : Int), x])
  | [], _, _, _, h => by simp at h
  | x :: xs, j, 0, a, h => by
    simp at h
    subst h
    rfl
  | x :: xs, j, i + 1, a, h => by
    show (enumF (j + 1) xs)[i]? = _
    rw [enumF_get xs (j + 1) i a (by simpa using h), show j + 1 + i = j + (i + 1) by omega]
theorem Src.go (h : Src K A W H J ds) {i : Nat} (hi : i < ds.length) : J.go i H := by
  have get : ∀ {xs : List V} {es : List D} {i : Nat}, RpAll K A H xs es → i < es.length → ∃ x, xs[i]? = some x := fun {xs es i} r hi => by
    have hl := r.length
    exact ⟨xs[i]'(by omega), List.getElem?_eq_getElem (by omega)⟩
  cases h with
  | lst e n r => obtain ⟨x, hx⟩ := get r hi; exact ⟨_, x, .of e, hx⟩
  | tup e r => obtain ⟨x, hx⟩ := get r hi; exact ⟨_, x, e, hx⟩
  | str o =>
    show i < _
    unfold signs at hi
    simpa using hi
  | rng => rw [rngF_len] at hi; exact hi
  | zipL e n r e2 n2 r2 =>
    rw [zipF_len] at hi
    obtain ⟨x, hx⟩ := get r (i := i) (by omega)
    obtain ⟨y, hy⟩ := get r2 (i := i) (by omega)
    exact ⟨_, _, x, y, .of e, .of e2, hx, hy⟩
  | zipT e r e2 r2 =>
    rw [zipF_len] at hi
    obtain ⟨x, hx⟩ := get r (i := i) (by omega)
    obtain ⟨y, hy⟩ := get r2 (i := i) (by omega)
    exact ⟨_, _, x, y, e, e2, hx, hy⟩
  | enum e n r =>
    rw [enumF_len] at hi
    obtain ⟨x, hx⟩ := get r hi; exact ⟨_, x, .of e, hx⟩
theorem Src.stop (h : Src K A W H J ds) : J.stop ds.length H := by
  cases h with
  | lst e n r => exact ⟨_, .of e, Nat.le_of_eq r.length⟩
  | tup e r => exact ⟨_, e, Nat.le_of_eq r.length⟩
  | str o =>
    show _ ≤ _
    unfold signs
    simp
  | rng => rw [rngF_len]; exact Nat.le_refl _
  | zipL e n r e2 n2 r2 =>
    have h1 := r.length
    have h2 := r2.length
    rw [zipF_len]
    exact ⟨_, _, .of e, .of e2, by omega⟩
  | zipT e r e2 r2 =>
    have h1 := r.length
    have h2 := r2.length
    rw [zipF_len]
    exact ⟨_, _, e, e2, by omega⟩
  | enum e n r => rw [enumF_len]; exact ⟨_, .of e, Nat.le_of_eq r.length⟩
theorem Src.yld (h : Src K A W H J ds) {i : Nat} (hi : i < ds.length) {x : V} {H' : Hp} (y : J.yld i H x H') : ∃ d, ds[i]? = some d ∧ Same H H' ∧ Rp K A H' x d := by
  have get : ∀ {xs : List V} {es : List D} {i : Nat} {v : V}, RpAll K A H xs es → xs[i]? = some v → ∃ d, es[i]? = some d ∧ Rp K A H v d := fun {xs es i v} r h => r.get' h
  cases h with
  | lst e n r =>
    obtain ⟨rfl, y⟩ := y
    obtain ⟨d, h1, h2⟩ := get r (y _ (.of e))
    exact ⟨d, h1, Same.refl _, h2⟩
  | tup e r =>
    obtain ⟨rfl, y⟩ := y
    obtain ⟨d, h1, h2⟩ := get r (y _ e)
    exact ⟨d, h1, Same.refl _, h2⟩
  | @str z o =>
    obtain ⟨rfl, c, hc, rfl⟩ := y
    refine ⟨.str ⟨#[c]⟩, ?_, Same.refl _, .str _ ?_⟩
    · unfold signs
      rw [List.getElem?_map]
      have h2 : z.cps.toList[i]? = some c := by simpa using hc
      rw [h2]
      rfl
    · rw [strOk_iff]
      intro c' hc'
      have e : c' = c := by simpa using hc'
      subst e
      refine strOk_iff.mp o c' ?_
      have h2 : z.cps.toList[i]? = some c' := by simpa using hc
      exact List.mem_of_getElem? h2
  | rng =>
    obtain ⟨rfl, rfl⟩ := y
    rw [rngF_len] at hi
    exact ⟨_, rngF_get _ _ _ hi, Same.refl _, .int _⟩
  | zipL e n r e2 n2 r2 =>
    obtain ⟨T, x1, x2, rfl, nT, rfl, h1, h2⟩ := y
    obtain ⟨d, g1, q1⟩ := get r (h1 _ (.of e))
    obtain ⟨d', g2, q2⟩ := get r2 (h2 _ (.of e2))
    have s : Same H (upd H T (.tup [x1, x2])) := same_upd nT
    exact ⟨_, zipF_get _ _ _ _ _ g1 g2, s, .tup (.of upd_same) (RpAll.mono (fun _ z => z) (.ofSame s) _ _ (.cons q1 (.cons q2 .nil)))⟩
  | zipT e r e2 r2 =>
    obtain ⟨T, x1, x2, rfl, nT, rfl, h1, h2⟩ := y
    obtain ⟨d, g1, q1⟩ := get r (h1 _ e)
    obtain ⟨d', g2, q2⟩ := get r2 (h2 _ e2)
    have s : Same H (upd H T (.tup [x1, x2])) := same_upd nT
    exact ⟨_, zipF_get _ _ _ _ _ g1 g2, s, .tup (.of upd_same) (RpAll.mono (fun _ z => z) (.ofSame s) _ _ (.cons q1 (.cons q2 .nil)))⟩
  | enum e n r =>
    obtain ⟨T, x1, rfl, nT, rfl, h1⟩ := y
    obtain ⟨d, g1, q1⟩ := get r (h1 _ (.of e))
    have s : Same H (upd H T (.tup [.int (i : Nat), x1])) := same_upd nT
    refine ⟨_, enumF_get _ 0 _ _ g1, s, .tup (.of upd_same) (RpAll.mono (fun _ z => z) (.ofSame s) _ _ (.cons ?_ (.cons q1 .nil)))⟩
    rw [Nat.zero_add]
    exact .int _
end
/-! ### the walks by values -/
def SrcV (K : PySem.W.Frag) : Sk → List V → Hp → (It → Hp → Prop) → Prop
  | .any, vs, H, R => ∃ x, vs = [x] ∧ ((∃ a xs, x = .ref a ∧ SqL K H a xs ∧ R (Itl K a) H) ∨ (∃ a xs, x = .ref a ∧ SqT K H a xs ∧ R (Itt K a) H) ∨ ∃ z, x = .str z ∧ R (Its z) H)
  | .rng1, vs, H, R => ∃ j : Int, vs = [.int j] ∧ -(2 ^ 62) ≤ j ∧ j < 2 ^ 62 ∧ R (Itr 0 j.toNat) H
  | .rng2, vs, H, R => ∃ i j : Int, vs = [.int i, .int j] ∧ (-(2 ^ 62) ≤ i ∧ i < 2 ^ 62 ∧ -(2 ^ 62) ≤ j ∧ j < 2 ^ 62) ∧ R (Itr i (j - i).toNat) H
  | .zip, vs, H, R => ∃ a b xs ys, vs = [.ref a, .ref b] ∧ ((SqL K H a xs ∧ SqL K H b ys ∧ R (Itz K a b) H) ∨ (SqT K H a xs ∧ SqT K H b ys ∧ R (RZ.ItzT K a b) H))
  | .enum, vs, H, R => ∃ a xs, vs = [.ref a] ∧ SqL K H a xs ∧ R (Ite K a) H
theorem Ro.lstW {K : PySem.W.Frag} {A W : Addr → Prop} {H : Hp} {v : V} {ds : List D} (wa : ∀ b, W b → A b) (h : Ro K A W H v (.list ds)) : ∃ a xs, v = .ref a ∧ H a = some (.lst xs) ∧ ¬ W a ∧ RpAll K A H xs ds := by
  rcases h with h | ⟨a, xs, _, e0, e, h1, n, h2⟩
  · cases h with | lst n h r => exact ⟨_, _, rfl, h, fun z => n (wa _ z), r⟩
  · cases e; exact ⟨a, xs, e0, h1, n, h2⟩
theorem srcV_ok {K : PySem.W.Frag} {A W : Addr → Prop} {H : Hp} {sk : Sk} {vs : List V} {ds xs : List D} {R : It → Hp → Prop} (wa : ∀ b, W b → A b) (hv : RoAll K A W H vs ds) (hs : srcF sk ds = some xs) (q : ∀ J, Src K A W H J xs → R J H) : SrcV K sk vs H R := by
  unfold srcF at hs
  split at hs
  · obtain ⟨v, rfl, h⟩ := hv.one
    obtain ⟨a, ys, rfl, h1, n, r⟩ := h.lstW wa
    cases hs
    exact ⟨_, rfl, .inl ⟨a, ys, rfl, .of h1, q _ (.lst h1 n r)⟩⟩
  · obtain ⟨v, rfl, h⟩ := hv.one
    obtain ⟨a, ys, rfl, h1, r⟩ := h.tup
    cases hs
    exact ⟨_, rfl, .inr (.inl ⟨a, ys, rfl, h1, q _ (.tup h1 r)⟩)⟩
  · obtain ⟨v, rfl, h⟩ := hv.one
    obtain ⟨rfl, o⟩ := h.str
    cases hs
    exact ⟨_, rfl, .inr (.inr ⟨_, rfl, q _ (.str o)⟩)⟩
  · obtain ⟨v, rfl, h⟩ := hv.one
    cases h.int
    split at hs
    · rename_i hc
      simp only [Bool.and_eq_true, decide_eq_true_eq] at hc
      cases hs
      exact ⟨_, rfl, hc.2, hc.1, q _ .rng⟩
    · cases hs
  · obtain ⟨v, u, rfl, h, g⟩ := hv.two
    cases h.int; cases g.int
    split at hs
    · rename_i hc
      simp only [Bool.and_eq_true, decide_eq_true_eq] at hc
      obtain ⟨⟨⟨c1, c2⟩, c3⟩, c4⟩ := hc
      cases hs
      exact ⟨_, _, rfl, ⟨c4, c3, c2, c1⟩, q _ .rng⟩
    · cases hs
  · obtain ⟨v, u, rfl, h, g⟩ := hv.two
    obtain ⟨a, xs, rfl, h1, n1, r1⟩ := h.lstW wa
    obtain ⟨b, ys, rfl, h2, n2, r2⟩ := g.lstW wa
    cases hs
    exact ⟨a, b, xs, ys, rfl, .inl ⟨.of h1, .of h2, q _ (.zipL h1 n1 r1 h2 n2 r2)⟩⟩
  · obtain ⟨v, u, rfl, h, g⟩ := hv.two
    obtain ⟨a, xs, rfl, h1, r1⟩ := h.tup
    obtain ⟨b, ys, rfl, h2, r2⟩ := g.tup
    cases hs
    exact ⟨a, b, xs, ys, rfl, .inr ⟨h1, h2, q _ (.zipT h1 r1 h2 r2)⟩⟩
  · obtain ⟨v, rfl, h⟩ := hv.one
    obtain ⟨a, ys, rfl, h1, n, r⟩ := h.lstW wa
    cases hs
    exact ⟨a, ys, rfl, .of h1, q _ (.enum h1 n r)⟩
  · cases hs
/-- for x in e, whatever e is -/
def iAny (K : PySem.W.Frag) (te : TE) : TI := fun σ H R => te σ H fun x H1 => SrcV K .any [x] H1 R
theorem pi_any {X : Cx} {tg e : Expr} {te : TE} (he : PE X e te) : PI X tg e (iAny X.K te) := by
  refine ⟨fun pins s σ H R I h => ?_⟩
  refine thn (he.run pins s σ H _ I h) fun v s1 ⟨x, H1, I1, r1, q1⟩ => ?_
  obtain ⟨y, ey, q1⟩ := q1
  cases ey
  rcases q1 with ⟨a, xs, e, hq, q⟩ | ⟨a, xs, e, hq, q⟩ | ⟨z, e, q⟩
  · subst e
    cases r1
    obtain ⟨its, rv, p, hz⟩ := I1.list hq
    refine wpAny_pyIter_list p.isList ?_
    refine ⟨s1.heap.objs.size, [s1.heap.objs.size], _, _, H1, rfl, I1.kept (t' := s1.toks) fun b o e => Heap.get?_push_of_some _ e, turn_list a _, ⟨_, Heap.get?_push_size _ rfl, rfl, rfl⟩, fun b hb => ?_, q⟩
    have e : b = s1.heap.objs.size := by simpa using hb
    subst e
    exact I1.fpOk (Nat.le_refl _) (I1.hok.fresh (Nat.le_refl _))
  · subst e
    cases r1
    obtain ⟨its, rv, p, hz⟩ := I1.tuple hq
    refine wpAny_pyIter_tuple (show s1.heap.IsTuple a its.toArray from p) ?_
    refine ⟨s1.heap.objs.size, [s1.heap.objs.size], _, _, H1, rfl, I1.kept (t' := s1.toks) fun b o e => Heap.get?_push_of_some _ e, turn_tuple a _, ⟨_, Heap.get?_push_size _ rfl, rfl, rfl⟩, fun b hb => ?_, q⟩
    have e : b = s1.heap.objs.size := by simpa using hb
    subst e
    exact I1.fpOk (Nat.le_refl _) (I1.hok.fresh (Nat.le_refl _))
  · subst e
    obtain ⟨t, rfl⟩ := r1
    cases ha : z.cps.all (· < 128)
    · exact wpAny_pyIter_wide ha (pi_one (tk := s1.toks) I1 _ (turn_str _ z t "str_iterator" (.inr rfl)) ⟨_, Heap.get?_push_size _ rfl, rfl, rfl⟩ q)
    · exact wpAny_pyIter_ascii ha (pi_one (tk := s1.toks) I1 _ (turn_str _ z t "str_ascii_iterator" (.inl rfl)) ⟨_, Heap.get?_push_size _ rfl, rfl, rfl⟩ q)
section
variable {K : PySem.W.Frag} {C : Calls} {F F' : Addr → Prop} {ρ ρ0 ρ1 ρ2 : Rho} {σ σ0 σ1 σ2 : L2.St} {H H0 H1 H2 : Hp}
def SndSrc (K : PySem.W.Frag) (C : Calls) (wi : TI) (sk : Sk) (ses : List E) : Prop := ∀ (F : Addr → Prop) (ρ : Rho) (σ : L2.St) (H : Hp) (ds : List D) (ρ1 : Rho) (B : List Nat) (xs : List D), evbs C ses ρ = some (ds, ρ1, B) → srcF sk ds = some xs → Rel K F ρ σ H → Fk F H →
  ∀ R : It → Hp → Prop, (∀ J H1, Post K F ρ σ H ρ1 σ H1 → LentOk ρ σ H B → Src K (Av F ρ1 σ) (Wr ρ1 σ) H1 J xs → R J H1) → wi σ H R
def SndSrcV (K : PySem.W.Frag) (C : Calls) (wi : TI) (sk : Sk) (ses : List E) : Prop := ∀ (F : Addr → Prop) (ρ : Rho) (σ : L2.St) (H : Hp) (ds : List D) (ρ1 : Rho) (xs : List D), evs C ses ρ = some (ds, ρ1) → srcF sk ds = some xs → Rel K F ρ σ H → Fk F H →
  ∀ R : It → Hp → Prop, (∀ J H1, Post K F ρ σ H ρ1 σ H1 → Src K (Av F ρ1 σ) (Wr ρ1 σ) H1 J xs → R J H1) → wi σ H R
theorem roAll_of : ∀ {A W : Addr → Prop} {vs : List V} {ds : List D}, RpAll K A H vs ds → RoAll K A W H vs ds
  | _, _, _, [], .nil => True.intro
  | _, _, _, _ :: _, .cons h r => ⟨.inl h, roAll_of r⟩
theorem snd_src {wi : TI} {sk : Sk} {ts : List TE} {ses : List E} (hs : SndB K C ts ses) (ht : ∀ σ H R, seqT ts σ H (fun vs H1 => SrcV K sk vs H1 R) → wi σ H R) : SndSrc K C wi sk ses := by
  intro F ρ σ H ds ρ1 B xs e1 e2 R f Q q
  exact ht σ H Q (hs F ρ σ H ds ρ1 B e1 R f _ fun vs H1 P ro l => srcV_ok (fun _ => Wr.av) ro e2 fun J s => q J H1 P l s)
theorem snd_srcV {wi : TI} {sk : Sk} {ts : List TE} {ses : List E} (hs : SndS K C ts ses) (ht : ∀ σ H R, seqT ts σ H (fun vs H1 => SrcV K sk vs H1 R) → wi σ H R) : SndSrcV K C wi sk ses := by
  intro F ρ σ H ds ρ1 xs e1 e2 R f Q q
  exact ht σ H Q (hs F ρ σ H ds ρ1 e1 R f _ fun vs H1 P ro => srcV_ok (fun _ => Wr.av) (roAll_of ro) e2 fun J s => q J H1 P s)

/-! ### targets -/
mutual
def tgT (K : PySem.W.Frag) : Tg → TG
  | .n i => gName i
  | .t ts => gTup K ts.length (tgTs K ts)
def tgTs (K : PySem.W.Frag) : List Tg → TGs
  | [] => gNil
  | t :: ts => gCons (tgT K t) (tgTs K ts)
end
mutual
/-- the slots of a target -/
def slotsT : Tg → List Nat
  | .n i => [i]
  | .t ts => slotsTs ts
def slotsTs : List Tg → List Nat
  | [] => []
  | t :: ts => slotsT t ++ slotsTs ts
end
/-- another plain value in a slot -/
theorem Post.setv {i : Nat} {x : SV} {v : V} {d : D} (R : Rel K F ρ σ H) (h : ρ[i]? = some x) (hio : ∀ k e, x = some (k, e) → ¬ k.isIo) (r : Rp K (Av F ρ σ) H v d) : Post K F ρ σ H (ρ.set i (some (Kd.val, d))) (σ.set i (some v)) H := by
  have hi := lt_of_get h
  have hi' : i < σ.length := R.len ▸ hi
  have g : ∀ {j : Nat} {l : Kd} {e : D} {u : V}, (ρ.set i (some (Kd.val, d)))[j]? = some (some (l, e)) → l ≠ .val → (σ.set i (some v))[j]? = some (some u) → ρ[j]? = some (some (l, e)) ∧ σ[j]? = some (some u) := by
    intro j l e u h1 h2 h3
    rcases get_set h1 hi with ⟨rfl, h4⟩ | ⟨ne, h4⟩
    · cases h4
      exact absurd rfl h2
    · rw [List.getElem?_set_ne (Ne.symm ne)] at h3
      exact ⟨h4, h3⟩
  have ms : ∀ b, M (ρ.set i (some (Kd.val, d))) (σ.set i (some v)) b → M ρ σ b := fun b ⟨j, l, e, h1, h2, h3⟩ => let ⟨g1, g2⟩ := g h1 h2 h3; ⟨j, l, e, g1, h2, g2⟩
  have av : ∀ b, Av F (ρ.set i (some (Kd.val, d))) (σ.set i (some v)) b → Av F ρ σ b := fun b z => z.imp id (ms b)
  refine ⟨⟨by rw [List.length_set, List.length_set]; exact R.len, fun j e h1 => ?_, fun j l e h1 h2 => ?_, fun j j' l l' e e' b h1 h2 h3 h4 h5 h6 => ?_⟩, .refl, fun _ o e => ⟨o, e⟩, fun b z => .inl (ms b z), fun b ⟨j, l, e, h1, h2, h3⟩ => ?_, fun b ⟨j, l, e, h1, h2, h3⟩ => ?_, fun j l e h1 z => ?_⟩
  · rcases get_set h1 hi with ⟨rfl, h4⟩ | ⟨ne, h4⟩
    · cases h4
      exact ⟨v, List.getElem?_set_self hi', Rp.mono av .refl _ _ r⟩
    · obtain ⟨u, e1, r⟩ := R.val j e h4
      exact ⟨u, by rw [List.getElem?_set_ne (Ne.symm ne)]; exact e1, Rp.mono av .refl _ _ r⟩
  · rcases get_set h1 hi with ⟨rfl, h4⟩ | ⟨ne, h4⟩
    · cases h4
      exact absurd rfl h2
    · obtain ⟨a, e1, f, c⟩ := R.mu j l e h4 h2
      exact ⟨a, by rw [List.getElem?_set_ne (Ne.symm ne)]; exact e1, f, c.mono av .refl fun _ z => z⟩
  · obtain ⟨g1, g2⟩ := g h1 h2 h5
    obtain ⟨g3, g4⟩ := g h3 h4 h6
    exact R.inj j j' l l' e e' b g1 h2 g3 h4 g2 g4
  · obtain ⟨g1, g2⟩ := g h1 (by rcases h2 with rfl | rfl <;> decide) h3
    exact .inl ⟨j, l, e, g1, h2, g2⟩
  · obtain ⟨g1, g2⟩ := g h1 (by rcases h2 with rfl | rfl <;> decide) h3
    exact .inl ⟨j, l, e, g1, h2, g2⟩
  · by_cases q : j = i
    · subst q
      rw [h] at h1
      cases h1
      exact absurd z (hio _ _ rfl)
    · exact ⟨List.getElem?_set_ne (Ne.symm q), l, e, by rw [List.getElem?_set_ne (Ne.symm q)]; exact h1, z⟩
/-- outside of the slots of vs nothing is changed -/
def Off (vs : List Nat) (σ σ' : L2.St) : Prop := σ'.length = σ.length ∧ ∀ i, i ∉ vs → σ'[i]? = σ[i]?
theorem Off.trans {vs us : List Nat} (a : Off vs σ σ1) (b : Off us σ1 σ2) : Off (vs ++ us) σ σ2 := ⟨b.1.trans a.1, fun i h => by
  rw [List.mem_append, not_or] at h
  rw [b.2 i h.2, a.2 i h.1]⟩
mutual
theorem snd_tg : ∀ (tg : Tg) (F : Addr → Prop) (ρ : Rho) (σ : L2.St) (H : Hp) (v : V) (d : D) (ρ1 : Rho), bindTg tg d ρ = some ρ1 → Rel K F ρ σ H → Rp K (Av F ρ σ) H v d →
    ∀ Q : L2.St → Hp → Prop, (∀ σ1, Post K F ρ σ H ρ1 σ1 H → Off (slotsT tg) σ σ1 → Q σ1 H) → tgT K tg v σ H Q
  | .n i, F, ρ, σ, H, v, d, ρ1, e, R, r, Q, q => by
    have fin : ∀ {x : SV}, ρ[i]? = some x → (∀ k e, x = some (k, e) → ¬ k.isIo) → ρ.set i (some (Kd.val, d)) = ρ1 → tgT K (.n i) v σ H Q := by
      intro x h hio e
      subst e
      refine q _ (.setv R h hio r) ⟨by rw [List.length_set], fun j hj => ?_⟩
      have : j ≠ i := by simpa [slotsT] using hj
      exact List.getElem?_set_ne (Ne.symm this)
    simp only [bindTg] at e
    split at e
    · cases e
    · cases e
    · rename_i x h1 h2 h
      refine fin h (fun k e' hx z => ?_) (Option.some.inj e)
      subst hx
      rcases z with rfl | rfl
      · exact h1 _ rfl
      · exact h2 _ rfl
    · cases e
  | .t ts, F, ρ, σ, H, v, d, ρ1, e, R, r, Q, q => by
    cases d with
    | tuple ds =>
      simp only [bindTg] at e
      cases r with
      | @tup a xs _ h ra =>
        refine ⟨a, xs, rfl, h, ?_, ?_⟩
        · rw [ra.length]
          exact bindTgs_len _ _ _ _ e
        · exact snd_tgs ts F ρ σ H xs ds ρ1 e R ra Q q
    | _ => simp [bindTg] at e
theorem snd_tgs : ∀ (ts : List Tg) (F : Addr → Prop) (ρ : Rho) (σ : L2.St) (H : Hp) (vs : List V) (ds : List D) (ρ1 : Rho), bindTgs ts ds ρ = some ρ1 → Rel K F ρ σ H → RpAll K (Av F ρ σ) H vs ds →
    ∀ Q : L2.St → Hp → Prop, (∀ σ1, Post K F ρ σ H ρ1 σ1 H → Off (slotsTs ts) σ σ1 → Q σ1 H) → tgTs K ts vs σ H Q
  | [], F, ρ, σ, H, vs, ds, ρ1, e, R, r, Q, q => by
    cases ds with
    | nil =>
      simp only [bindTgs, Option.some.injEq] at e
      subst e
      cases r
      exact ⟨rfl, q σ (.refl R) ⟨rfl, fun _ _ => rfl⟩⟩
    | cons _ _ => simp [bindTgs] at e
  | t :: ts, F, ρ, σ, H, vs, ds, ρ1, e, R, r, Q, q => by
    cases ds with
    | nil => simp [bindTgs] at e
    | cons d ds =>
      simp only [bindTgs] at e
      obtain ⟨ρ', e1, e2⟩ := Option.bind_eq_some_iff.mp e
      cases r with
      | @cons v vs _ _ h ra =>
        refine ⟨v, vs, rfl, ?_⟩
        refine snd_tg t F ρ σ H v d ρ' e1 R h _ fun σ1 P1 o1 => ?_
        exact snd_tgs ts F ρ' σ1 H vs ds ρ1 e2 P1.rel (P1.rpAll ra) Q fun σ2 P2 o2 => q σ2 (P1.trans P2) (o1.trans o2)
theorem bindTgs_len : ∀ (ts : List Tg) (ds : List D) (ρ ρ1 : Rho), bindTgs ts ds ρ = some ρ1 → ds.length = ts.length
  | [], [], _, _, _ => rfl
  | [], _ :: _, _, _, e => by simp [bindTgs] at e
  | _ :: _, [], _, _, e => by simp [bindTgs] at e
  | t :: ts, d :: ds, ρ, ρ1, e => by
    simp only [bindTgs] at e
    obtain ⟨ρ', e1, e2⟩ := Option.bind_eq_some_iff.mp e
    rw [List.length_cons, List.length_cons, bindTgs_len ts ds ρ' ρ1 e2]
end
end
end MW

namespace MW
open PySem PySem.Spec PyProof.Rows L2
section
variable {K : PySem.W.Frag} {C : Calls} {F F' : Addr → Prop} {ρ ρ0 ρ1 ρ2 : Rho} {σ σ0 σ1 σ2 : L2.St} {H H0 H1 H2 : Hp} {vs : List Nat}

/-! ### slots wiped and put back -/
theorem wipe_in {i : Nat} : ∀ {vs : List Nat}, i ∈ vs → i < σ.length → (wipe σ vs)[i]? = some none
  | v :: vs, h, hl => by
    show ((wipe σ vs).set v none)[i]? = some none
    by_cases e : v = i
    · subst e
      exact List.getElem?_set_self (by rw [wipe_length]; exact hl)
    · rw [List.getElem?_set_ne e]
      exact wipe_in ((List.mem_cons.mp h).resolve_left fun q => e q.symm) hl
theorem wipe_off {i : Nat} : ∀ {vs : List Nat}, i ∉ vs → (wipe σ vs)[i]? = σ[i]?
  | [], _ => rfl
  | v :: vs, h => by
    rw [List.mem_cons, not_or] at h
    show ((wipe σ vs).set v none)[i]? = _
    rw [List.getElem?_set_ne fun e => h.1 e.symm]
    exact wipe_off h.2
theorem wipe_eq (o : Off vs σ σ1) : wipe σ1 vs = wipe σ vs := by
  refine List.ext_getElem? fun i => ?_
  by_cases h : i ∈ vs
  · by_cases hl : i < σ.length
    · rw [wipe_in h hl, wipe_in h (by rw [o.1]; exact hl)]
    · rw [List.getElem?_eq_none (by rw [wipe_length, o.1]; omega), List.getElem?_eq_none (by rw [wipe_length]; omega)]
  · rw [wipe_off h, wipe_off h, o.2 i h]
theorem off_wipe : Off vs σ (wipe σ vs) := ⟨wipe_length _ _, fun _ h => wipe_off h⟩
theorem Off.mono {us : List Nat} (o : Off us σ σ1) (h : ∀ i ∈ us, i ∈ vs) : Off vs σ σ1 := ⟨o.1, fun i hi => o.2 i fun z => hi (h i z)⟩
theorem wipeR_len : ∀ (vs : List Nat) (ρ : Rho), (wipeR vs ρ).length = ρ.length
  | [], _ => rfl
  | v :: vs, ρ => by
    show ((wipeR vs ρ).set v none).length = _
    rw [List.length_set, wipeR_len vs ρ]
theorem wipeR_some {i : Nat} {x : Kd × D} : ∀ {vs : List Nat}, (wipeR vs ρ)[i]? = some (some x) → i ∉ vs ∧ ρ[i]? = some (some x)
  | [], h => ⟨by simp, h⟩
  | v :: vs, h => by
    have h : ((wipeR vs ρ).set v none)[i]? = some (some x) := h
    by_cases e : v = i
    · subst e
      by_cases hl : v < (wipeR vs ρ).length
      · rw [List.getElem?_set_self hl] at h
        cases h
      · rw [List.getElem?_eq_none (by rw [List.length_set]; omega)] at h
        cases h
    · rw [List.getElem?_set_ne e] at h
      obtain ⟨h1, h2⟩ := wipeR_some h
      exact ⟨by rw [List.mem_cons, not_or]; exact ⟨fun q => e q.symm, h1⟩, h2⟩
theorem wipeR_off {i : Nat} : ∀ {vs : List Nat}, i ∉ vs → (wipeR vs ρ)[i]? = ρ[i]?
  | [], _ => rfl
  | v :: vs, h => by
    rw [List.mem_cons, not_or] at h
    show ((wipeR vs ρ).set v none)[i]? = _
    rw [List.getElem?_set_ne fun e => h.1 e.symm]
    exact wipeR_off h.2
theorem backR_len : ∀ (vs : List Nat) (ρ0 ρ : Rho), (backR vs ρ0 ρ).length = ρ.length
  | [], _, _ => rfl
  | v :: vs, ρ0, ρ => by
    show ((backR vs ρ0 ρ).set v _).length = _
    rw [List.length_set, backR_len vs ρ0 ρ]
theorem backR_off {i : Nat} : ∀ {vs : List Nat}, i ∉ vs → (backR vs ρ0 ρ)[i]? = ρ[i]?
  | [], _ => rfl
  | v :: vs, h => by
    rw [List.mem_cons, not_or] at h
    show ((backR vs ρ0 ρ).set v _)[i]? = _
    rw [List.getElem?_set_ne fun e => h.1 e.symm]
    exact backR_off h.2
theorem backR_in {i : Nat} : ∀ {vs : List Nat}, i ∈ vs → i < ρ.length → (backR vs ρ0 ρ)[i]? = some (ρ0.getD i none)
  | v :: vs, h, hl => by
    show ((backR vs ρ0 ρ).set v _)[i]? = _
    by_cases e : v = i
    · subst e
      exact List.getElem?_set_self (by rw [backR_len]; exact hl)
    · rw [List.getElem?_set_ne e]
      exact backR_in ((List.mem_cons.mp h).resolve_left fun q => e q.symm) hl
theorem wipe_m (b : Addr) (h : M (wipeR vs ρ) (wipe σ vs) b) : M ρ σ b := by
  obtain ⟨j, k, d, h1, h2, h3⟩ := h
  obtain ⟨n, h1⟩ := wipeR_some h1
  rw [wipe_off n] at h3
  exact ⟨j, k, d, h1, h2, h3⟩
theorem Rel.wipe (R : Rel K F ρ σ H) : Rel K F (wipeR vs ρ) (L2.wipe σ vs) H := by
  have av : ∀ b, Av F (wipeR vs ρ) (L2.wipe σ vs) b → Av F ρ σ b := fun b z => z.imp id (wipe_m b)
  refine ⟨by rw [wipeR_len, wipe_length]; exact R.len, fun j e h1 => ?_, fun j l e h1 h2 => ?_, fun j j' l l' e e' b h1 h2 h3 h4 h5 h6 => ?_⟩
  · obtain ⟨n, h1⟩ := wipeR_some h1
    obtain ⟨v, e1, r⟩ := R.val j e h1
    exact ⟨v, by rw [wipe_off n]; exact e1, Rp.mono av .refl _ _ r⟩
  · obtain ⟨n, h1⟩ := wipeR_some h1
    obtain ⟨a, e1, f, c⟩ := R.mu j l e h1 h2
    exact ⟨a, by rw [wipe_off n]; exact e1, f, c.mono av .refl fun _ z => z⟩
  · obtain ⟨n, h1⟩ := wipeR_some h1
    obtain ⟨n', h3⟩ := wipeR_some h3
    rw [wipe_off n] at h5
    rw [wipe_off n'] at h6
    exact R.inj j j' l l' e e' b h1 h2 h3 h4 h5 h6
/-- no slot of vs is one that the caller gave to be stored into -/
def NoIo (vs : List Nat) (ρ : Rho) : Prop := ∀ j ∈ vs, ∀ (k : Kd) (d : D), ρ[j]? = some (some (k, d)) → ¬ k.isIo
theorem Post.wipe (P : Post K F ρ0 σ0 H0 ρ σ H) (n : NoIo vs ρ0) : Post K F ρ0 σ0 H0 (wipeR vs ρ) (L2.wipe σ vs) H where
  rel := P.rel.wipe
  kp := P.kp
  tr := P.tr
  sub := fun b z => P.sub b (wipe_m b z)
  wsub := fun b ⟨j, k, d, h1, h2, h3⟩ => by
    obtain ⟨n, h1⟩ := wipeR_some h1
    rw [wipe_off n] at h3
    exact P.wsub b ⟨j, k, d, h1, h2, h3⟩
  osub := fun b ⟨j, k, d, h1, h2, h3⟩ => by
    obtain ⟨n, h1⟩ := wipeR_some h1
    rw [wipe_off n] at h3
    exact P.osub b ⟨j, k, d, h1, h2, h3⟩
  io := fun j k d h z => by
    have nj : j ∉ vs := fun q => n j q k d h z
    obtain ⟨e, k', d', h', z'⟩ := P.io j k d h z
    exact ⟨by rw [wipe_off nj]; exact e, k', d', by rw [wipeR_off nj]; exact h', z'⟩
/-- plain slots -/
def Plain (vs : List Nat) (ρ : Rho) : Prop := ∀ j ∈ vs, ∃ x, ρ[j]? = some x ∧ ∀ k d, x = some (k, d) → k = Kd.val
theorem plain_of (h : vs.all (plainAt ρ) = true) : Plain vs ρ := fun j hj => by
  have h1 := List.all_eq_true.mp h j hj
  unfold plainAt at h1
  split at h1
  · rename_i e
    exact ⟨_, e, fun _ _ q => nomatch q⟩
  · rename_i e
    refine ⟨_, e, fun k d q => ?_⟩
    cases q
    rfl
  · cases h1
theorem Plain.noIo (h : Plain vs ρ) : NoIo vs ρ := fun j hj k d e z => by
  obtain ⟨x, hx, hk⟩ := h j hj
  rw [hx] at e
  cases e
  rw [hk k d rfl] at z
  rcases z with z | z <;> cases z
theorem Post.to (P : Post K F ρ0 σ0 H0 ρ1 σ1 H1) (R : Rel K F' ρ1 σ1 H1) : Post K F' ρ0 σ0 H0 ρ1 σ1 H1 := ⟨R, P.kp, P.tr, P.sub, P.wsub, P.osub, P.io⟩
/-- behind the block the slots are as before -/
theorem Post.back (R : Rel K F ρ1 σ H1) (P : Post K F ρ1 σ H1 ρ2 (L2.wipe σ vs) H2) (p : Plain vs ρ1) : Post K F ρ1 σ H1 (backR vs ρ1 ρ2) σ H2 ∧ ∀ b, M (backR vs ρ1 ρ2) σ b ↔ M ρ2 (L2.wipe σ vs) b := by
  have len : ρ2.length = σ.length := by rw [P.rel.len, wipe_length]
  have g : ∀ {j : Nat} {k : Kd} {d : D}, (backR vs ρ1 ρ2)[j]? = some (some (k, d)) → (j ∉ vs ∧ ρ2[j]? = some (some (k, d))) ∨ (j ∈ vs ∧ k = .val ∧ ρ1[j]? = some (some (k, d))) := by
    intro j k d h
    by_cases hj : j ∈ vs
    · obtain ⟨x, hx, hk⟩ := p j hj
      have hl : j < ρ2.length := by
        rw [len, ← R.len]
        exact lt_of_get hx
      rw [backR_in hj hl, List.getD_eq_getElem?_getD, hx] at h
      have e : x = some (k, d) := Option.some.inj h
      exact .inr ⟨hj, hk k d e, by rw [hx, e]⟩
    · rw [backR_off hj] at h
      exact .inl ⟨hj, h⟩
  have gm : ∀ {j : Nat} {k : Kd} {d : D}, (backR vs ρ1 ρ2)[j]? = some (some (k, d)) → k ≠ .val → j ∉ vs ∧ ρ2[j]? = some (some (k, d)) := fun h n => (g h).elim id fun z => absurd z.2.1 n
  have mm : ∀ b, M (backR vs ρ1 ρ2) σ b ↔ M ρ2 (L2.wipe σ vs) b := fun b => by
    constructor
    · rintro ⟨j, k, d, h1, h2, h3⟩
      obtain ⟨n, h1⟩ := gm h1 h2
      exact ⟨j, k, d, h1, h2, by rw [wipe_off n]; exact h3⟩
    · rintro ⟨j, k, d, h1, h2, h3⟩
      have n : j ∉ vs := fun q => by
        have hl : j < σ.length := by
          rw [← len]
          exact lt_of_get h1
        rw [wipe_in q hl] at h3
        cases h3
      rw [wipe_off n] at h3
      exact ⟨j, k, d, by rw [backR_off n]; exact h1, h2, h3⟩
  have av : ∀ b, Av F (backR vs ρ1 ρ2) σ b → Av F ρ2 (L2.wipe σ vs) b := fun b z => z.imp id (mm b).mp
  refine ⟨⟨⟨by rw [backR_len]; exact len, fun j e h1 => ?_, fun j l e h1 h2 => ?_, fun j j' l l' e e' b h1 h2 h3 h4 h5 h6 => ?_⟩, P.kp, P.tr, fun b z => P.sub b ((mm b).mp z), fun b ⟨j, k, d, h1, h2, h3⟩ => ?_, fun b ⟨j, k, d, h1, h2, h3⟩ => ?_, fun j k d h z => ?_⟩, mm⟩
  · rcases g h1 with ⟨n, h1⟩ | ⟨_, _, h1⟩
    · obtain ⟨v, e1, r⟩ := P.rel.val j e h1
      rw [wipe_off n] at e1
      exact ⟨v, e1, Rp.mono av .refl _ _ r⟩
    · obtain ⟨v, e1, r⟩ := R.val j e h1
      exact ⟨v, e1, Rp.mono av .refl _ _ (P.rp r)⟩
  · obtain ⟨n, h1⟩ := gm h1 h2
    obtain ⟨a, e1, f, c⟩ := P.rel.mu j l e h1 h2
    rw [wipe_off n] at e1
    exact ⟨a, e1, f, c.mono av .refl fun _ z => z⟩
  · obtain ⟨n, h1⟩ := gm h1 h2
    obtain ⟨n', h3⟩ := gm h3 h4
    exact P.rel.inj j j' l l' e e' b h1 h2 h3 h4 (by rw [wipe_off n]; exact h5) (by rw [wipe_off n']; exact h6)
  · obtain ⟨n, h1⟩ := gm h1 (by rcases h2 with rfl | rfl <;> decide)
    exact P.wsub b ⟨j, k, d, h1, h2, by rw [wipe_off n]; exact h3⟩
  · obtain ⟨n, h1⟩ := gm h1 (by rcases h2 with rfl | rfl <;> decide)
    exact P.osub b ⟨j, k, d, h1, h2, by rw [wipe_off n]; exact h3⟩
  · have n : j ∉ vs := fun q => p.noIo j q k d h z
    obtain ⟨e, k', d', h', z'⟩ := P.io j k d h z
    exact ⟨rfl, k', d', by rw [backR_off n]; exact h', z'⟩
/-- a forbidden cell is stored into -/
theorem Rel.updF {D : Addr} {o : HO} (R : Rel K F ρ σ H) (hD : F D) : Rel K F ρ σ (upd H D o) ∧ Kp (Av F ρ σ) H (upd H D o) ∨ (∃ u, H D = some u ∧ mutO u = false) := by
  by_cases q : ∃ u, H D = some u ∧ mutO u = false
  · exact .inr q
  · refine .inl ?_
    have kp : Kp (Av F ρ σ) H (upd H D o) := fun b u e w => by
      by_cases z : b = D
      · subst z
        exact absurd ⟨u, e, w (.inl hD)⟩ q
      · rw [upd_ne z]
        exact e
    refine ⟨⟨R.len, fun j e h1 => ?_, fun j l e h1 h2 => ?_, R.inj⟩, kp⟩
    · obtain ⟨v, e1, r⟩ := R.val j e h1
      exact ⟨v, e1, Rp.mono (fun _ z => z) kp _ _ r⟩
    · obtain ⟨a, e1, f, c⟩ := R.mu j l e h1 h2
      exact ⟨a, e1, f, c.mono (fun _ z => z) kp fun u z => by rw [upd_ne fun q => f (by rw [q]; exact hD)]; exact z⟩

/-! ### list comprehensions -/
/-- between two turns: D the new list -/
structure CI (K : PySem.W.Frag) (F : Addr → Prop) (ρ1 : Rho) (σ : L2.St) (H1 : Hp) (J : It) (xs : List D) (vs : List Nat) (D : Addr) (ρ : Rho) (H : Hp) (acc : List V) (ys : List PyData) : Prop where
  P : Post K F ρ1 σ H1 ρ (wipe σ vs) H
  R : Rel K (Fa F D) ρ (wipe σ vs) H
  hD : H D = some (.lst acc)
  ra : RpAll K (Av (Fa F D) ρ (wipe σ vs)) H acc ys
  src : Src K (Av (Fa F D) ρ (wipe σ vs)) (Wr ρ (wipe σ vs)) H J xs
def SndC (K : PySem.W.Frag) (C : Calls) (tt : TT) (cond : List E) : Prop := (cond = [] ∧ tt = tYes) ∨ ∃ c, cond = [c] ∧ SndT K C tt c
theorem compL_len {f : Rho → D → Option (List D × Rho)} (hf : ∀ ρ x ys ρ', f ρ x = some (ys, ρ') → ys.length ≤ 1) : ∀ {xs : List D} {ρ : Rho} {ys : List D} {ρ' : Rho}, compL f xs ρ = some (ys, ρ') → ys.length ≤ xs.length
  | [], ρ, ys, ρ', h => by
    simp only [compL, Option.some.injEq, Prod.mk.injEq] at h
    rw [← h.1]
    exact Nat.le_refl _
  | x :: xs, ρ, ys, ρ', h => by
    simp only [compL] at h
    obtain ⟨⟨y1, ρ1⟩, h1, h⟩ := Option.bind_eq_some_iff.mp h
    obtain ⟨⟨y2, ρ2⟩, h2, h⟩ := Option.bind_eq_some_iff.mp h
    simp only [Option.some.injEq, Prod.mk.injEq] at h
    have l1 := hf _ _ _ _ h1
    have l2 := compL_len hf h2
    rw [← h.1, List.length_append, List.length_cons]
    omega
theorem snd_comp {wi : TI} {tt : TT} {te : TE} {elt : E} {tg : Tg} {sk : Sk} {ses cond : List E} {own : List Nat} (hsrc : SndSrc K C wi sk ses) (hc : SndC K C tt cond) (he : SndE K C te elt) (hs : ∀ i ∈ slotsT tg, i ∈ own) :
    SndE K C (tLc wi (tgT K tg) tt te own) (.comp elt tg sk ses cond own) := by
  intro F ρ σ H r ρ9 e R f Q q
  simp only [ev] at e
  obtain ⟨⟨ds, ρ1, B⟩, e1, e⟩ := Option.bind_eq_some_iff.mp e
  obtain ⟨xs, e2, e⟩ := Option.bind_eq_some_iff.mp e
  split at e
  rotate_left
  · cases e
  rename_i hpl
  obtain ⟨⟨outs, ρ2⟩, e3, e⟩ := Option.bind_eq_some_iff.mp e
  split at e
  rotate_left
  · cases e
  rename_i hlim
  simp only [Option.some.injEq, Prod.mk.injEq] at e
  obtain ⟨rfl, rfl⟩ := e
  have pl := plain_of hpl
  generalize hf : (fun (ρa : Rho) (x : PyData) => (bindTg tg x ρa).bind fun ρb => (evcs C cond ρb).bind fun x => if x.1 = true then (ev C elt x.2).bind fun x => some ([x.1.1], wipeR own x.2) else some ([], wipeR own x.2)) = fn at e3
  have fe : ∀ ρa x, fn ρa x = (bindTg tg x ρa).bind fun ρb => (evcs C cond ρb).bind fun x => if x.1 = true then (ev C elt x.2).bind fun x => some ([x.1.1], wipeR own x.2) else some ([], wipeR own x.2) := fun ρa x => by rw [← hf]
  refine hsrc F ρ σ H ds ρ1 B xs e1 e2 R f _ fun J H1 P1 l1 src1 => ?_
  intro D nD
  have f1 := P1.fk f
  have R1 := P1.rel
  -- the start
  have s0 : Same H1 (upd H1 D (.lst [])) := same_upd nD
  have Rp1 : Rel K (Fa F D) ρ1 σ H1 := R1.protect nD
  have ci0 : CI K F ρ1 σ H1 J xs own D (wipeR own ρ1) (upd H1 D (.lst [])) [] [] := by
    have P0 : Post K F ρ1 σ H1 (wipeR own ρ1) (wipe σ own) H1 := (Post.refl R1).wipe pl.noIo
    have Pa : Post K F ρ1 σ H1 (wipeR own ρ1) (wipe σ own) (upd H1 D (.lst [])) := P0.trans (.same P0.rel s0)
    have Ra : Rel K (Fa F D) (wipeR own ρ1) (wipe σ own) (upd H1 D (.lst [])) := Rp1.wipe.same s0
    have avs : ∀ b, Av (Fa F D) (wipeR own ρ1) (wipe σ own) b → Av F ρ1 σ b ∨ H1 b = none := fun b z => by
      rcases av_fa z with z | z
      · exact .inl (z.imp id (wipe_m b))
      · rw [z]
        exact .inr nD
    exact ⟨Pa, Ra, upd_same, .nil, src1.step avs Pa.wsub (fun _ => Wr.av) (.ofSame s0)⟩
  refine ⟨fun i m H' => m = xs.length - i ∧ i ≤ xs.length ∧ ∃ ρi acc ys zs, CI K F ρ1 σ H1 J xs own D ρi H' acc ys ∧ compL fn (xs.drop i) ρi = some (zs, ρ2) ∧ ys ++ zs = outs, ⟨_, rfl, Nat.zero_le _, _, [], [], outs, ci0, by rw [List.drop_zero]; exact e3, rfl⟩, ?_⟩
  rintro i m H' ⟨rfl, hi, ρi, acc, ys, zs, ci, ec, eo⟩
  by_cases hlt : i < xs.length
  · refine .inr ⟨ci.src.go hlt, fun H9 => ∃ ρi acc ys zs, CI K F ρ1 σ H1 J xs own D ρi H9 acc ys ∧ compL fn (xs.drop (i + 1)) ρi = some (zs, ρ2) ∧ ys ++ zs = outs, fun H9 h9 => ⟨_, by omega, rfl, hlt, h9⟩, fun x H2 hy => ?_⟩
    obtain ⟨d, hd, s2, rx⟩ := ci.src.yld hlt hy
    have ed : xs.drop i = d :: xs.drop (i + 1) := by
      obtain ⟨h1, h2⟩ := List.getElem?_eq_some_iff.mp hd
      rw [← h2]
      exact List.drop_eq_getElem_cons h1
    rw [ed] at ec
    simp only [compL] at ec
    obtain ⟨⟨y1, ρn⟩, t1, ec⟩ := Option.bind_eq_some_iff.mp ec
    obtain ⟨⟨y2, ρ2'⟩, t2, ec⟩ := Option.bind_eq_some_iff.mp ec
    simp only [Option.some.injEq, Prod.mk.injEq] at ec
    obtain ⟨rfl, rfl⟩ := ec
    rw [fe] at t1
    obtain ⟨ρb, b1, t1⟩ := Option.bind_eq_some_iff.mp t1
    obtain ⟨⟨k, ρc⟩, b2, t1⟩ := Option.bind_eq_some_iff.mp t1
    -- ahead of the target
    have fkD : Fk (Fa F D) H' := (ci.P.fk f1).add ⟨_, ci.hD⟩
    have Rs : Rel K (Fa F D) ρi (wipe σ own) H2 := ci.R.same s2
    refine snd_tg tg (Fa F D) ρi (wipe σ own) H2 x d ρb b1 Rs rx _ fun σ2 P2 o2 => ?_
    have ow : wipe σ2 own = wipe σ own := by
      rw [wipe_eq (o2.mono hs)]
      exact wipe_eq off_wipe
    refine ⟨ow, ?_⟩
    have P02 : Post K (Fa F D) ρi (wipe σ own) H' ρb σ2 H2 := (Post.same ci.R s2).trans P2
    -- the tail of a turn
    have tail : ∀ {H3 : Hp} {ρd : Rho} {acc' : List V} {ys' : List PyData}, Post K (Fa F D) ρi (wipe σ own) H' ρd σ2 H3 → (H4 : Hp) → (H4 = H3 ∧ acc' = acc ∧ ys' = ys ∨ ∃ y dy, H4 = upd H3 D (.lst (acc ++ [y])) ∧ Rp K (Av (Fa F D) ρd σ2) H3 y dy ∧ acc' = acc ++ [y] ∧ ys' = ys ++ [dy]) →
        CI K F ρ1 σ H1 J xs own D (wipeR own ρd) H4 acc' ys' := by
      intro H3 ρd acc' ys' P3 H4 h4
      have P13 : Post K F ρ1 σ H1 ρd σ2 H3 := ci.P.trans (P3.to (P3.rel.fewer fun _ => .inl))
      have Pw : Post K F ρ1 σ H1 (wipeR own ρd) (wipe σ own) H3 := by
        rw [← ow]
        exact P13.wipe pl.noIo
      have Rw : Rel K (Fa F D) (wipeR own ρd) (wipe σ own) H3 := by
        rw [← ow]
        exact P3.rel.wipe
      have nDw : ¬ Wr ρi (wipe σ own) D := fun z => ci.R.nf z.m (.inr rfl)
      have hD3 : H3 D = some (.lst acc) := P3.kp D _ ci.hD fun z => absurd z nDw
      have avw : ∀ b, Av (Fa F D) (wipeR own ρd) (wipe σ own) b → Av (Fa F D) ρd σ2 b := fun b z => z.imp id fun z => by
        rw [← ow] at z
        exact wipe_m b z
      have ra3 : RpAll K (Av (Fa F D) (wipeR own ρd) (wipe σ own)) H3 acc ys := RpAll.mono avw .refl _ _ (P3.rpAll ci.ra)
      have src3 : Src K (Av (Fa F D) (wipeR own ρd) (wipe σ own)) (Wr (wipeR own ρd) (wipe σ own)) H3 J xs := by
        refine ci.src.step (fun b z => P3.avsub (avw b z)) (fun b z => P3.wsub b ?_) (fun _ => Wr.av) P3.kp
        obtain ⟨j, k, d, h1, h2, h3⟩ := z
        obtain ⟨n, h1⟩ := wipeR_some h1
        rw [← ow, wipe_off n] at h3
        exact ⟨j, k, d, h1, h2, h3⟩
      rcases h4 with ⟨rfl, rfl, rfl⟩ | ⟨y, dy, rfl, ry, rfl, rfl⟩
      · exact ⟨Pw, Rw, hD3, ra3, src3⟩
      · rcases Rw.updF (o := .lst (acc ++ [y])) (D := D) (.inr rfl) with ⟨R4, k4⟩ | ⟨u, hu, hm⟩
        · have ry' : Rp K (Av (Fa F D) (wipeR own ρd) (wipe σ own)) H3 y dy := Rp.mono avw .refl _ _ ry
          refine ⟨⟨R4.fewer fun _ => .inl, fun b o e w => ?_, fun b o e => ?_, Pw.sub, Pw.wsub, Pw.osub, Pw.io⟩, R4, upd_same, RpAll.mono (fun _ z => z) k4 _ _ (ra3.append (.cons ry' .nil)), ?_⟩
          · have ne : b ≠ D := ne_of_none e nD
            rw [upd_ne ne]
            exact Pw.kp b o e w
          · have ne : b ≠ D := ne_of_none e nD
            rw [upd_ne ne]
            exact Pw.tr b o e
          · -- the source stands: D is none of its cells
            have nw : ¬ Wr (wipeR own ρd) (wipe σ own) D := fun z => Rw.nf z.m (.inr rfl)
            have src5 : Src K (Av (Fa F D) (wipeR own ρd) (wipe σ own)) (fun b => Wr (wipeR own ρd) (wipe σ own) b ∨ b = D) H3 J xs := by
              have base := src1.step (A' := Av (Fa F D) (wipeR own ρd) (wipe σ own)) (W' := fun b => Wr (wipeR own ρd) (wipe σ own) b ∨ b = D) (H1 := H3) (fun b z => ?_) (fun b z => ?_) (fun _ => Wr.av) Pw.kp
              · exact base
              · rcases av_fa z with z | z
                · exact Pw.avsub z
                · rw [z]
                  exact .inr nD
              · rcases z with z | z
                · exact Pw.wsub b z
                · rw [z]
                  exact .inr nD
            refine src5.step (fun b z => .inl z) (fun b z => .inl (.inl z)) (fun b z => z.elim Wr.av fun z => .inl (.inr z)) fun b o e w => ?_
            by_cases ne : b = D
            · subst ne
              have := w (.inr rfl)
              rw [hD3] at e
              cases e
              cases this
            · rw [upd_ne ne]
              exact e
        · rw [hD3] at hu
          cases hu
          cases hm
    -- the test
    have test : ∀ (Q' : Bool → Hp → Prop), (∀ H3, Post K (Fa F D) ρb σ2 H2 ρc σ2 H3 → Q' k H3) → tt σ2 H2 Q' := by
      intro Q' q'
      rcases hc with ⟨rfl, rfl⟩ | ⟨c, rfl, ht⟩
      · simp only [evcs, Option.some.injEq, Prod.mk.injEq] at b2
        obtain ⟨rfl, rfl⟩ := b2
        exact q' H2 (.refl P2.rel)
      · simp only [evcs] at b2
        exact ht (Fa F D) ρb σ2 H2 k ρc b2 P2.rel (P02.fk fkD) Q' q'
    refine test _ fun H3 P3 => ?_
    have P03 := P02.trans P3
    cases k with
    | true =>
      rw [if_pos rfl] at t1 ⊢
      obtain ⟨⟨rr, ρd⟩, b3, t1⟩ := Option.bind_eq_some_iff.mp t1
      simp only [Option.some.injEq, Prod.mk.injEq] at t1
      obtain ⟨rfl, rfl⟩ := t1
      refine he (Fa F D) ρc σ2 H3 rr ρd b3 P03.rel (P03.fk fkD) _ fun y H4 P4 r4 => ?_
      have P04 := P03.trans P4
      have nDw : ¬ Wr ρi (wipe σ own) D := fun z => ci.R.nf z.m (.inr rfl)
      have hD4 : H4 D = some (.lst acc) := P04.kp D _ ci.hD fun z => absurd z nDw
      have hl : acc.length < sizeLine := by
        have e1 := ci.ra.length
        have e2 : ys.length + (([rr.1] : List PyData) ++ y2).length = outs.length := by rw [← eo]; simp only [List.length_append]
        have e3 : outs.length ≤ 16777216 := hlim
        have e4 : (sizeLine : Nat) = 16777216 := sizeLine_eq
        simp only [List.length_append, List.length_cons, List.length_nil] at e2
        omega
      refine ⟨acc, hD4, hl, _, acc ++ [y], ys ++ [rr.1], y2, tail P04 _ (.inr ⟨y, rr.1, rfl, r4.rp (P03.fk fkD), rfl, rfl⟩), t2, ?_⟩
      rw [← eo, List.append_assoc]
    | false =>
      rw [if_neg Bool.false_ne_true] at t1 ⊢
      simp only [Option.some.injEq, Prod.mk.injEq] at t1
      obtain ⟨rfl, rfl⟩ := t1
      exact ⟨_, acc, ys, y2, tail P03 _ (.inl ⟨rfl, rfl, rfl⟩), t2, eo⟩
  · have ei : i = xs.length := by omega
    subst ei
    refine .inl ⟨ci.src.stop, ?_⟩
    rw [List.drop_length] at ec
    simp only [compL, Option.some.injEq, Prod.mk.injEq] at ec
    obtain ⟨rfl, rfl⟩ := ec
    rw [List.append_nil] at eo
    subst eo
    obtain ⟨Pb, mb⟩ := Post.back Rp1 (ci.P.to ci.R) pl
    have P9 : Post K (Fa F D) ρ σ H (backR own ρ1 ρi) σ H' := P1.trans Pb
    obtain ⟨Pu, mu⟩ := P9.unlend l1
    refine q _ H' (Pu.to (Pu.rel.fewer fun _ => .inl)) ?_
    refine (if_pos rfl).mpr ⟨D, rfl, P1.none nD, .lst ci.hD (RpAll.mono (fun b z => z.imp id fun z => (mb b).mp ((mu b).mp z)) .refl _ _ ci.ra), Pu.rel⟩
end
end MW

namespace MW
open PySem PySem.Spec PyProof.Rows L2

/-! ### the promise of a def -/
def OutsOk (K : PySem.W.Frag) (A : Addr → Prop) (H : Hp) : List Bool → List V → List D → Prop
  | [], [], [] => True
  | true :: ms, v :: vs, d :: ds => (∃ a, v = V.ref a ∧ Cell K A H a d) ∧ OutsOk K A H ms vs ds
  | false :: ms, _ :: vs, ds => OutsOk K A H ms vs ds
  | _, _, _ => False
structure CPost (K : PySem.W.Frag) (F : Addr → Prop) (ρ0 : Rho) (σ0 : L2.St) (H H1 : Hp) (ms : List Bool) (vs : List V) (outs : List D) (v : V) (r : D × Bool) : Prop where
  kp : Kp (M ρ0 σ0) H H1
  tr : ∀ b o, H b = some o → ∃ o', H1 b = some o'
  outs : OutsOk K (Av F ρ0 σ0) H1 ms vs outs
  res : if r.2 = true then ∃ a, v = V.ref a ∧ H a = none ∧ Cell K (fun b => Av F ρ0 σ0 b ∨ b = a) H1 a r.1 else Rp K (Av F ρ0 σ0) H1 v r.1
def spR (K : PySem.W.Frag) (modes : List Bool) (run : List D → Option ((D × Bool) × List D)) : Sp := fun vs H Q _ => ∃ (F : Addr → Prop) (ds : List D) (ρ0 : Rho) (r : D × Bool) (outs : List D),
  vs.length = modes.length ∧ run ds = some (r, outs) ∧ args0 modes ds = some ρ0 ∧ Rel K F ρ0 (vs.map some) H ∧ Fk F H ∧ ∀ v H1, CPost K F ρ0 (vs.map some) H H1 modes vs outs v r → Q v H1
/-- a list lent -/
def Lo (K : PySem.W.Frag) (A W : Addr → Prop) (H : Hp) (v : V) (d : D) : Prop := ∃ (a : Addr) (xs : List V) (ds : List D), v = V.ref a ∧ d = .list ds ∧ H a = some (.lst xs) ∧ ¬ W a ∧ RpAll K A H xs ds
inductive ArgsOk (K : PySem.W.Frag) (A W : Addr → Prop) (H : Hp) (σ : L2.St) : List Bool → List V → List D → List Nat → List Nat → Prop
  | nil : ArgsOk K A W H σ [] [] [] [] []
  | val {ms : List Bool} {v : V} {vs : List V} {d : D} {ds : List D} {B ios : List Nat} : Rp K A H v d → ArgsOk K A W H σ ms vs ds B ios → ArgsOk K A W H σ (false :: ms) (v :: vs) (d :: ds) B ios
  | lent {i : Nat} {ms : List Bool} {v : V} {vs : List V} {d : D} {ds : List D} {B ios : List Nat} : σ[i]? = some (some v) → Lo K A W H v d → ArgsOk K A W H σ ms vs ds B ios → ArgsOk K A W H σ (false :: ms) (v :: vs) (d :: ds) (i :: B) ios
  | io {i : Nat} {ms : List Bool} {v : V} {vs : List V} {d : D} {ds : List D} {B ios : List Nat} : σ[i]? = some (some v) → Lo K A W H v d → ArgsOk K A W H σ ms vs ds B ios → ArgsOk K A W H σ (true :: ms) (v :: vs) (d :: ds) B (i :: ios)
def SndA (K : PySem.W.Frag) (C : Calls) (ts : List TE) (es : List E) : Prop := ∀ (ms : List Bool) (F : Addr → Prop) (ρ : Rho) (σ : L2.St) (H : Hp) (ds : List D) (ρ1 : Rho) (B ios : List Nat), evas C ms es ρ = some (ds, ρ1, B, ios) → Rel K F ρ σ H → Fk F H →
  ∀ Q : List V → Hp → Prop, (∀ vs H1, Post K F ρ σ H ρ1 σ H1 → ArgsOk K (Av F ρ1 σ) (Wr ρ1 σ) H1 σ ms vs ds B ios → LentOk ρ σ H (ios ++ B) → Q vs H1) → seqT ts σ H Q
section
variable {K : PySem.W.Frag} {C : Calls} {F F' : Addr → Prop} {ρ ρ0 ρ1 ρ2 : Rho} {σ σ0 σ1 σ2 : L2.St} {H H0 H1 H2 : Hp}
theorem Lo.step {A A' W W' : Addr → Prop} {v : V} {d : D} (h : Lo K A W H v d) (s : ∀ b, A' b → A b ∨ H b = none) (w : ∀ b, W' b → W b ∨ H b = none) (wa : ∀ b, W b → A b) (k : Kp W H H1) : Lo K A' W' H1 v d := by
  obtain ⟨a, xs, ds, e1, e2, e3, n, r⟩ := h
  refine ⟨a, xs, ds, e1, e2, k _ _ e3 fun z => absurd z n, fun z => (w _ z).elim n fun z => ?_, RpAll.step s (k.mono wa) _ _ r⟩
  rw [e3] at z
  cases z
theorem ArgsOk.step {A A' W W' : Addr → Prop} {ms : List Bool} {vs : List V} {ds : List D} {B ios : List Nat} (h : ArgsOk K A W H σ ms vs ds B ios) (s : ∀ b, A' b → A b ∨ H b = none) (w : ∀ b, W' b → W b ∨ H b = none) (wa : ∀ b, W b → A b) (k : Kp W H H1) : ArgsOk K A' W' H1 σ ms vs ds B ios := by
  induction h with
  | nil => exact .nil
  | val r _ ih => exact .val (Rp.step s (k.mono wa) _ _ r) ih
  | lent e l _ ih => exact .lent e (l.step s w wa k) ih
  | io e l _ ih => exact .io e (l.step s w wa k) ih
theorem ArgsOk.len {A W : Addr → Prop} {ms : List Bool} {vs : List V} {ds : List D} {B ios : List Nat} (h : ArgsOk K A W H σ ms vs ds B ios) : vs.length = ms.length := by
  induction h with
  | nil => rfl
  | val _ _ ih => simp [ih]
  | lent _ _ _ ih => simp [ih]
  | io _ _ _ ih => simp [ih]
/-- a slot of our own is lent -/
theorem lend_own {i : Nat} {k k' : Kd} {d : D} (R : Rel K F ρ σ H) (h : ρ[i]? = some (some (k, d))) (hk : (k = .own ∧ k' = .lent) ∨ (k = .io ∧ k' = .lio)) :
    ∃ v, σ[i]? = some (some v) ∧ Post K F ρ σ H (ρ.set i (some (k', d))) σ H ∧ Lo K (Av F (ρ.set i (some (k', d))) σ) (Wr (ρ.set i (some (k', d))) σ) H v d ∧ LentOk ρ σ H [i] := by
  have kv : k ≠ .val := by rcases hk with ⟨rfl, _⟩ | ⟨rfl, _⟩ <;> decide
  have kv' : k' ≠ .val := by rcases hk with ⟨_, rfl⟩ | ⟨_, rfl⟩ <;> decide
  obtain ⟨a, ha, _, c⟩ := R.mu i k d h kv
  have P : Post K F ρ σ H (ρ.set i (some (k', d))) σ H := .lend R h hk ha
  have g : (ρ.set i (some (k', d)))[i]? = some (some (k', d)) := List.getElem?_set_self (lt_of_get h)
  obtain ⟨a', ha', _, c'⟩ := P.rel.mu i _ d g kv'
  rw [ha] at ha'
  cases ha'
  refine ⟨_, ha, P, ?_, fun j hj b hb => ?_⟩
  · cases c' with
    | lst hx r =>
      refine ⟨a, _, _, rfl, rfl, hx, ?_, r⟩
      rintro ⟨j, l, e, h1, h2, h3⟩
      have q := P.rel.inj i j k' l _ e a g kv' h1 (by rcases h2 with rfl | rfl <;> decide) ha h3
      subst q
      rw [g] at h1
      cases h1
      rcases hk with ⟨_, rfl⟩ | ⟨_, rfl⟩ <;> rcases h2 with h2 | h2 <;> cases h2
  · have ej : j = i := by simpa using hj
    subst ej
    exact .inl ⟨j, _, _, h, by rcases hk with ⟨rfl, _⟩ | ⟨rfl, _⟩ <;> simp, hb⟩
theorem snda_nil : SndA K C [] [] := by
  intro ms F ρ σ H ds ρ1 B ios e R f Q q
  cases ms with
  | nil =>
    simp only [evas, Option.some.injEq, Prod.mk.injEq] at e
    obtain ⟨rfl, rfl, rfl, rfl⟩ := e
    exact q [] H (.refl R) .nil fun _ h => nomatch h
  | cons m ms => cases m <;> simp [evas] at e
/-- arguments one by one -/
theorem evas_cases {m : Bool} {ms : List Bool} {e : E} {es : List E} {ds : List D} {B ios : List Nat} (h : evas C (m :: ms) (e :: es) ρ = some (ds, ρ2, B, ios)) :
    (m = true ∧ ∃ i k k' d ds' ios', e = .v i ∧ ρ[i]? = some (some (k, d)) ∧ ((k = .own ∧ k' = .lent) ∨ (k = .io ∧ k' = .lio)) ∧ evas C ms es (ρ.set i (some (k', d))) = some (ds', ρ2, B, ios') ∧ ds = d :: ds' ∧ ios = i :: ios') ∨
    (m = false ∧ ∃ i k k' d ds' B', e = .v i ∧ ρ[i]? = some (some (k, d)) ∧ ((k = .own ∧ k' = .lent) ∨ (k = .io ∧ k' = .lio)) ∧ evas C ms es (ρ.set i (some (k', d))) = some (ds', ρ2, B', ios) ∧ ds = d :: ds' ∧ B = i :: B') ∨
    (m = false ∧ ∃ r ρ1 ds', ev C e ρ = some (r, ρ1) ∧ evas C ms es ρ1 = some (ds', ρ2, B, ios) ∧ ds = r.1 :: ds') := by
  have other : (∀ i, e ≠ .v i) → m = false → (ev C e ρ).bind (fun (r, ρ1) => (evas C ms es ρ1).bind fun (ds, ρ2, B, ios) => some (r.1 :: ds, ρ2, B, ios)) = some (ds, ρ2, B, ios) →
      (m = false ∧ ∃ r ρ1 ds', ev C e ρ = some (r, ρ1) ∧ evas C ms es ρ1 = some (ds', ρ2, B, ios) ∧ ds = r.1 :: ds') := by
    intro _ hm h
    obtain ⟨⟨r, ρ1⟩, h1, h⟩ := Option.bind_eq_some_iff.mp h
    obtain ⟨⟨ds', ρ2', B', ios'⟩, h2, h⟩ := Option.bind_eq_some_iff.mp h
    simp only [Option.some.injEq, Prod.mk.injEq] at h
    obtain ⟨rfl, rfl, rfl, rfl⟩ := h
    exact ⟨hm, r, ρ1, ds', h1, h2, rfl⟩
  by_cases hv : ∃ i, e = .v i
  · obtain ⟨i, rfl⟩ := hv
    cases m with
    | true =>
      left
      simp only [evas] at h
      split at h
      · rename_i d hd
        obtain ⟨⟨ds', ρ2', B', ios'⟩, h2, h⟩ := Option.bind_eq_some_iff.mp h
        simp only [Option.some.injEq, Prod.mk.injEq] at h
        obtain ⟨rfl, rfl, rfl, rfl⟩ := h
        exact ⟨rfl, i, _, _, d, ds', ios', rfl, hd, .inl ⟨rfl, rfl⟩, h2, rfl, rfl⟩
      · rename_i d hd
        obtain ⟨⟨ds', ρ2', B', ios'⟩, h2, h⟩ := Option.bind_eq_some_iff.mp h
        simp only [Option.some.injEq, Prod.mk.injEq] at h
        obtain ⟨rfl, rfl, rfl, rfl⟩ := h
        exact ⟨rfl, i, _, _, d, ds', ios', rfl, hd, .inr ⟨rfl, rfl⟩, h2, rfl, rfl⟩
      · cases h
    | false =>
      right
      simp only [evas] at h
      split at h
      · rename_i d hd
        right
        obtain ⟨⟨ds', ρ2', B', ios'⟩, h2, h⟩ := Option.bind_eq_some_iff.mp h
        simp only [Option.some.injEq, Prod.mk.injEq] at h
        obtain ⟨rfl, rfl, rfl, rfl⟩ := h
        exact ⟨rfl, (d, false), ρ, ds', by simp [ev, rdv, hd], h2, rfl⟩
      · rename_i d hd
        left
        obtain ⟨⟨ds', ρ2', B', ios'⟩, h2, h⟩ := Option.bind_eq_some_iff.mp h
        simp only [Option.some.injEq, Prod.mk.injEq] at h
        obtain ⟨rfl, rfl, rfl, rfl⟩ := h
        exact ⟨rfl, i, _, _, d, ds', B', rfl, hd, .inl ⟨rfl, rfl⟩, h2, rfl, rfl⟩
      · rename_i d hd
        left
        obtain ⟨⟨ds', ρ2', B', ios'⟩, h2, h⟩ := Option.bind_eq_some_iff.mp h
        simp only [Option.some.injEq, Prod.mk.injEq] at h
        obtain ⟨rfl, rfl, rfl, rfl⟩ := h
        exact ⟨rfl, i, _, _, d, ds', B', rfl, hd, .inr ⟨rfl, rfl⟩, h2, rfl, rfl⟩
      · cases h
  · have hv' : ∀ i, e ≠ .v i := fun i q => hv ⟨i, q⟩
    right
    right
    cases m with
    | true => cases e <;> first | exact absurd rfl (hv' _) | (simp [evas] at h)
    | false => exact other hv' rfl (by cases e <;> first | exact absurd rfl (hv' _) | exact h)
theorem LentOk.perm {A B : List Nat} (h : LentOk ρ σ H A) (s : ∀ i ∈ B, i ∈ A) : LentOk ρ σ H B := fun i hi => h i (s i hi)
theorem snda_cons {t : TE} {e : E} {ts : List TE} {es : List E} (h : SndE K C t e) (nm : Nm t e) (hs : SndA K C ts es) : SndA K C (t :: ts) (e :: es) := by
  intro ms F ρ σ H ds ρ2 B ios e1 R f Q q
  cases ms with
  | nil => simp [evas] at e1
  | cons m ms =>
    rcases evas_cases e1 with ⟨rfl, i, k, k', d, ds', ios', rfl, hd, hk, e2, rfl, rfl⟩ | ⟨rfl, i, k, k', d, ds', B', rfl, hd, hk, e2, rfl, rfl⟩ | ⟨rfl, r, ρ1, ds', e2, e3, rfl⟩
    · obtain ⟨v, hv, P1, lo, l⟩ := lend_own R hd hk
      rw [nm i rfl]
      refine ⟨v, hv, hs ms F _ σ H ds' ρ2 B ios' e2 P1.rel f _ fun vs H2 P2 ao l2 => ?_⟩
      refine q (v :: vs) H2 (P1.trans P2) (.io hv (lo.step (fun _ => P2.avsub) P2.wsub (fun _ => Wr.av) P2.kp) ao) ?_
      exact l.append (l2.back P1)
    · obtain ⟨v, hv, P1, lo, l⟩ := lend_own R hd hk
      rw [nm i rfl]
      refine ⟨v, hv, hs ms F _ σ H ds' ρ2 B' ios e2 P1.rel f _ fun vs H2 P2 ao l2 => ?_⟩
      refine q (v :: vs) H2 (P1.trans P2) (.lent hv (lo.step (fun _ => P2.avsub) P2.wsub (fun _ => Wr.av) P2.kp) ao) ?_
      refine (l.append (l2.back P1)).perm fun j hj => ?_
      simp only [List.mem_append, List.mem_cons, List.not_mem_nil, or_false] at hj ⊢
      rcases hj with hj | hj | hj
      · exact .inr (.inl hj)
      · exact .inl hj
      · exact .inr (.inr hj)
    · refine h F ρ σ H r ρ1 e2 R f _ fun v H1 P1 r1 => ?_
      refine hs ms F ρ1 σ H1 ds' ρ2 B ios e3 P1.rel (P1.fk f) _ fun vs H2 P2 ao l2 => ?_
      exact q (v :: vs) H2 (P1.trans P2) (.val (P2.rp (r1.rp f)) ao) (l2.back P1)

/-! ### what a call does -/
/-- the addresses of slots -/
def Ad (σ : L2.St) (l : List Nat) (b : Addr) : Prop := ∃ i ∈ l, σ[i]? = some (some (V.ref b))
theorem okLent_iff {l : List Nat} (h : okLent l ρ = true) : l.Nodup ∧ ∀ i ∈ l, ∃ k d, ρ[i]? = some (some (k, d)) ∧ (k = Kd.lent ∨ k = Kd.lio) := by
  unfold okLent at h
  rw [Bool.and_eq_true] at h
  constructor
  · have nd : ∀ l : List Nat, nodupN l = true → l.Nodup := by
      intro l
      induction l with
      | nil => intro _; exact .nil
      | cons a l ih =>
        intro h
        simp only [nodupN, Bool.and_eq_true, Bool.not_eq_true'] at h
        refine List.nodup_cons.mpr ⟨fun z => ?_, ih h.2⟩
        have := List.contains_iff_mem.mpr z
        rw [h.1] at this
        cases this
    exact nd l h.1
  · intro i hi
    have h2 := List.all_eq_true.mp h.2 i hi
    unfold lentAt at h2
    split at h2
    · exact ⟨_, _, by assumption, .inl rfl⟩
    · exact ⟨_, _, by assumption, .inr rfl⟩
    · cases h2
theorem ad_inj {l : List Nat} (R : Rel K F ρ σ H) (hl : ∀ i ∈ l, ∃ k d, ρ[i]? = some (some (k, d)) ∧ (k = Kd.lent ∨ k = Kd.lio)) {i j : Nat} {b : Addr} (hi : i ∈ l) (hj : j ∈ l) (ei : σ[i]? = some (some (V.ref b))) (ej : σ[j]? = some (some (V.ref b))) : i = j := by
  obtain ⟨k, d, h1, h2⟩ := hl i hi
  obtain ⟨k', d', h3, h4⟩ := hl j hj
  exact R.inj i j k k' d d' b h1 (by rcases h2 with rfl | rfl <;> decide) h3 (by rcases h4 with rfl | rfl <;> decide) ei ej
theorem ad_m {l : List Nat} (hl : ∀ i ∈ l, ∃ k d, ρ[i]? = some (some (k, d)) ∧ (k = Kd.lent ∨ k = Kd.lio)) {b : Addr} (h : Ad σ l b) : M ρ σ b := by
  obtain ⟨i, hi, e⟩ := h
  obtain ⟨k, d, h1, h2⟩ := hl i hi
  exact ⟨i, k, d, h1, by rcases h2 with rfl | rfl <;> decide, e⟩
/-- what the callee must not meet -/
def Fc (F : Addr → Prop) (ρ : Rho) (σ : L2.St) (l : List Nat) (b : Addr) : Prop := Av F ρ σ b ∧ ¬ Ad σ l b
theorem args0_io : ∀ {ms : List Bool} {ds : List D} {ρ0 : Rho}, args0 ms ds = some ρ0 → ∀ (i : Nat) (k : Kd) (d : D), ρ0[i]? = some (some (k, d)) → (k = .val ∨ k = .io)
  | [], [], ρ0, h, i, k, d, e => by
    simp only [args0, Option.some.injEq] at h
    subst h
    simp at e
  | [], _ :: _, _, h, _, _, _, _ => by simp [args0] at h
  | _ :: _, [], _, h, _, _, _, _ => by simp [args0] at h
  | m :: ms, d0 :: ds, ρ0, h, i, k, d, e => by
    simp only [args0] at h
    obtain ⟨ρ', h1, h2⟩ := Option.bind_eq_some_iff.mp h
    have h2 := Option.some.inj h2
    subst h2
    cases i with
    | zero =>
      simp only [List.getElem?_cons_zero, Option.some.injEq, Prod.mk.injEq] at e
      rw [← e.1]
      cases m <;> simp
    | succ i => exact args0_io h1 i k d (by simpa using e)
/-- the callee's slots -/
theorem args_rel {A W : Addr → Prop} {l L : List Nat} {F' : Addr → Prop} (hL : ∀ j ∈ L, j ∈ l) (hA : ∀ b, A b → F' b ∨ Ad σ l b) (hF : ∀ b, F' b → A b ∧ ¬ Ad σ l b) (inj : ∀ i j b, i ∈ l → j ∈ l → σ[i]? = some (some (V.ref b)) → σ[j]? = some (some (V.ref b)) → i = j) (mA : ∀ b, Ad σ l b → A b) :
    ∀ {ms : List Bool} {vs : List V} {ds : List D} {B ios : List Nat} {ρ0 : Rho}, ArgsOk K A W H σ ms vs ds B ios → args0 ms ds = some ρ0 → (∀ i ∈ ios ++ B, i ∈ l) → (∀ i ∈ B, i ∉ L) → (ios ++ B).Nodup →
      ρ0.length = vs.length ∧ (∀ b, M ρ0 (vs.map some) b ↔ Ad σ ios b) ∧
      (∀ (i : Nat) (d : D), ρ0[i]? = some (some (Kd.val, d)) → ∃ v, (vs.map some)[i]? = some (some v) ∧ ∀ A', (∀ b, A' b → F' b ∨ Ad σ L b) → Rp K A' H v d) ∧
      (∀ (i : Nat) (k : Kd) (d : D), ρ0[i]? = some (some (k, d)) → k ≠ .val → ∃ a, (vs.map some)[i]? = some (some (V.ref a)) ∧ ¬ F' a ∧ Ad σ ios a ∧ Cell K A H a d) ∧
      (∀ (i j : Nat) (k k' : Kd) (d d' : D) (a : Addr), ρ0[i]? = some (some (k, d)) → k ≠ .val → ρ0[j]? = some (some (k', d')) → k' ≠ .val → (vs.map some)[i]? = some (some (V.ref a)) → (vs.map some)[j]? = some (some (V.ref a)) → i = j) := by
  intro ms vs ds B ios ρ0 h
  have sub : ∀ (A' : Addr → Prop), (∀ b, A' b → F' b ∨ Ad σ L b) → ∀ b, A' b → A b := fun A' h b z => (h b z).elim (fun z => (hF b z).1) fun ⟨i, hi, e⟩ => mA b ⟨i, hL i hi, e⟩
  induction h generalizing ρ0 with
  | nil =>
    intro h0 _ _ _
    simp only [args0, Option.some.injEq] at h0
    subst h0
    refine ⟨rfl, fun b => ⟨?_, ?_⟩, fun i d e => by simp at e, fun i k d e => by simp at e, fun i j k k' d d' a e => by simp at e⟩
    · rintro ⟨i, k, d, e, _⟩
      simp at e
    · rintro ⟨i, hi, _⟩
      cases hi
  | @val ms v vs d ds B ios r t ih =>
    intro h0 hl hB nd
    simp only [args0] at h0
    obtain ⟨ρ', e0, e⟩ := Option.bind_eq_some_iff.mp h0
    have e := Option.some.inj e
    subst e
    obtain ⟨i1, i2, i3, i4, i5⟩ := ih e0 hl hB nd
    have hio : ∀ i ∈ ios, i ∈ l := fun i hi => hl i (List.mem_append_left _ hi)
    refine ⟨by simp [i1], fun b => ⟨?_, fun z => ?_⟩, fun i e hi => ?_, fun i k e hi hk => ?_, fun i j k k' e e' a h1 h2 h3 h4 h5 h6 => ?_⟩
    · rintro ⟨i, k, e, h1, h2, h3⟩
      cases i with
      | zero =>
        simp at h1
        exact absurd h1.1.symm h2
      | succ i => exact (i2 b).mp ⟨i, k, e, by simpa using h1, h2, by simpa using h3⟩
    · obtain ⟨i, k, e, h1, h2, h3⟩ := (i2 b).mpr z
      exact ⟨i + 1, k, e, by simpa using h1, h2, by simpa using h3⟩
    · cases i with
      | zero =>
        simp at hi
        subst hi
        exact ⟨v, rfl, fun A' hA' => Rp.mono (sub A' hA') .refl _ _ r⟩
      | succ i => simpa using i3 i e (by simpa using hi)
    · cases i with
      | zero =>
        simp at hi
        exact absurd hi.1.symm hk
      | succ i => simpa using i4 i k e (by simpa using hi) hk
    · cases i with
      | zero =>
        simp at h1
        exact absurd h1.1.symm h2
      | succ i =>
        cases j with
        | zero =>
          simp at h3
          exact absurd h3.1.symm h4
        | succ j => rw [i5 i j k k' e e' a (by simpa using h1) h2 (by simpa using h3) h4 (by simpa using h5) (by simpa using h6)]
  | @lent i0 ms v vs d ds B ios ev lo t ih =>
    intro h0 hl hB nd
    simp only [args0] at h0
    obtain ⟨ρ', e0, e⟩ := Option.bind_eq_some_iff.mp h0
    have e := Option.some.inj e
    subst e
    have nd' : (ios ++ B).Nodup := nd.sublist (List.Sublist.append (List.Sublist.refl _) (List.sublist_cons_self _ _))
    obtain ⟨i1, i2, i3, i4, i5⟩ := ih e0 (fun i hi => hl i (by
      rcases List.mem_append.mp hi with h | h
      · exact List.mem_append_left _ h
      · exact List.mem_append_right _ (List.mem_cons_of_mem _ h))) (fun i hi => hB i (List.mem_cons_of_mem _ hi)) nd'
    have hio : ∀ i ∈ ios, i ∈ l := fun i hi => hl i (List.mem_append_left _ hi)
    have h0l : i0 ∈ l := hl i0 (List.mem_append_right _ List.mem_cons_self)
    have n0 : i0 ∉ L := hB i0 List.mem_cons_self
    refine ⟨by simp [i1], fun b => ⟨?_, fun z => ?_⟩, fun i e hi => ?_, fun i k e hi hk => ?_, fun i j k k' e e' a h1 h2 h3 h4 h5 h6 => ?_⟩
    · rintro ⟨i, k, e, h1, h2, h3⟩
      cases i with
      | zero =>
        simp at h1
        exact absurd h1.1.symm h2
      | succ i => exact (i2 b).mp ⟨i, k, e, by simpa using h1, h2, by simpa using h3⟩
    · obtain ⟨i, k, e, h1, h2, h3⟩ := (i2 b).mpr z
      exact ⟨i + 1, k, e, by simpa using h1, h2, by simpa using h3⟩
    · cases i with
      | zero =>
        simp at hi
        subst hi
        refine ⟨v, rfl, fun A' hA' => ?_⟩
        obtain ⟨a, xs, es, rfl, rfl, hx, _, ra⟩ := lo
        refine .lst (fun z => ?_) hx (RpAll.mono (sub A' hA') .refl _ _ ra)
        rcases hA' a z with z | ⟨j, hj, ej⟩
        · exact (hF a z).2 ⟨i0, h0l, ev⟩
        · have q := inj i0 j a h0l (hL j hj) ev ej
          exact n0 (q ▸ hj)
      | succ i => simpa using i3 i e (by simpa using hi)
    · cases i with
      | zero =>
        simp at hi
        exact absurd hi.1.symm hk
      | succ i => simpa using i4 i k e (by simpa using hi) hk
    · cases i with
      | zero =>
        simp at h1
        exact absurd h1.1.symm h2
      | succ i =>
        cases j with
        | zero =>
          simp at h3
          exact absurd h3.1.symm h4
        | succ j => rw [i5 i j k k' e e' a (by simpa using h1) h2 (by simpa using h3) h4 (by simpa using h5) (by simpa using h6)]
  | @io i0 ms v vs d ds B ios ev lo t ih =>
    intro h0 hl hB nd
    simp only [args0] at h0
    obtain ⟨ρ', e0, e⟩ := Option.bind_eq_some_iff.mp h0
    have e := Option.some.inj e
    subst e
    have nd1 : i0 ∉ ios ++ B ∧ (ios ++ B).Nodup := List.nodup_cons.mp nd
    obtain ⟨i1, i2, i3, i4, i5⟩ := ih e0 (fun i hi => hl i (List.mem_cons_of_mem _ hi)) hB nd1.2
    have h0l : i0 ∈ l := hl i0 List.mem_cons_self
    have hio : ∀ i ∈ ios, i ∈ l := fun i hi => hl i (List.mem_cons_of_mem _ (List.mem_append_left _ hi))
    have n0 : i0 ∉ ios := fun z => nd1.1 (List.mem_append_left _ z)
    obtain ⟨a0, xs, es, rfl, rfl, hx, _, ra⟩ := lo
    have up : ∀ b, Ad σ ios b → Ad σ (i0 :: ios) b := fun b ⟨j, hj, ej⟩ => ⟨j, List.mem_cons_of_mem _ hj, ej⟩
    have tailM : ∀ {i : Nat} {k : Kd} {e : D} {b : Addr}, ρ'[i]? = some (some (k, e)) → k ≠ .val → (vs.map some)[i]? = some (some (V.ref b)) → b ≠ a0 := fun {i k e b} h1 h2 h3 q => by
      obtain ⟨j, hj, ej⟩ := (i2 b).mp ⟨i, k, e, h1, h2, h3⟩
      subst q
      have q2 := inj i0 j b h0l (hio j hj) ev ej
      exact n0 (q2 ▸ hj)
    refine ⟨by simp [i1], fun b => ⟨?_, fun z => ?_⟩, fun i e hi => ?_, fun i k e hi hk => ?_, fun i j k k' e e' a h1 h2 h3 h4 h5 h6 => ?_⟩
    · rintro ⟨i, k, e, h1, h2, h3⟩
      cases i with
      | zero =>
        simp at h3
        exact ⟨i0, List.mem_cons_self, by rw [← h3]; exact ev⟩
      | succ i => exact up b ((i2 b).mp ⟨i, k, e, by simpa using h1, h2, by simpa using h3⟩)
    · obtain ⟨j, hj, ej⟩ := z
      rcases List.mem_cons.mp hj with rfl | hj
      · rw [ev] at ej
        cases ej
        exact ⟨0, .io, _, rfl, by decide, rfl⟩
      · obtain ⟨i, k, e, h1, h2, h3⟩ := (i2 b).mpr ⟨j, hj, ej⟩
        exact ⟨i + 1, k, e, by simpa using h1, h2, by simpa using h3⟩
    · cases i with
      | zero => simp at hi
      | succ i =>
        simpa using i3 i e (by simpa using hi)
    · cases i with
      | zero =>
        simp at hi
        obtain ⟨rfl, rfl⟩ := hi
        exact ⟨a0, rfl, fun z => (hF a0 z).2 ⟨i0, h0l, ev⟩, ⟨i0, List.mem_cons_self, ev⟩, .lst hx ra⟩
      | succ i =>
        obtain ⟨a, e1, e2, e3, e4⟩ := i4 i k e (by simpa using hi) hk
        exact ⟨a, by simpa using e1, e2, up a e3, e4⟩
    · cases i with
      | zero =>
        cases j with
        | zero => rfl
        | succ j =>
          simp at h5
          subst h5
          exact absurd rfl (tailM (by simpa using h3) h4 (by simpa using h6))
      | succ i =>
        cases j with
        | zero =>
          simp at h6
          subst h6
          exact absurd rfl (tailM (by simpa using h1) h2 (by simpa using h5))
        | succ j => rw [i5 i j k k' e e' a (by simpa using h1) h2 (by simpa using h3) h4 (by simpa using h5) (by simpa using h6)]
end
end MW

namespace MW
open PySem PySem.Spec PyProof.Rows L2
section
variable {K : PySem.W.Frag} {C : Calls} {F F' : Addr → Prop} {ρ ρ0 ρ1 ρ2 : Rho} {σ σ0 σ1 σ2 : L2.St} {H H0 H1 H2 : Hp}
def OutsAt (K : PySem.W.Frag) (A : Addr → Prop) (H : Hp) (σ : L2.St) : List Nat → List D → Prop
  | [], [] => True
  | i :: is, d :: ds => (∃ a, σ[i]? = some (some (V.ref a)) ∧ Cell K A H a d) ∧ OutsAt K A H σ is ds
  | _, _ => False
theorem outsAt_of {A A' W : Addr → Prop} {ms : List Bool} {vs : List V} {ds : List D} {B ios : List Nat} (h : ArgsOk K A W H σ ms vs ds B ios) : ∀ {outs : List D}, OutsOk K A' H1 ms vs outs → OutsAt K A' H1 σ ios outs := by
  induction h with
  | nil =>
    intro outs o
    cases outs with
    | nil => exact True.intro
    | cons _ _ => exact o.elim
  | val _ _ ih => exact fun o => ih o
  | lent _ _ _ ih => exact fun o => ih o
  | io e l _ ih =>
    intro outs o
    cases outs with
    | nil => exact o.elim
    | cons d outs =>
      obtain ⟨⟨a, rfl, c⟩, o⟩ := o
      exact ⟨⟨a, e, c⟩, ih o⟩
theorem Cell.free {A A' : Addr → Prop} {a : Addr} {d : D} (n : noElems d = true) (c : Cell K A H a d) : Cell K A' H a d := by
  cases c with
  | lst h r => exact .lst h (RpAll.free _ _ n r)
theorem OutsAt.free {A A' : Addr → Prop} : ∀ {ios : List Nat} {outs : List D}, outs.all noElems = true → OutsAt K A H σ ios outs → OutsAt K A' H σ ios outs
  | [], [], _, _ => True.intro
  | [], _ :: _, _, h => h.elim
  | _ :: _, [], _, h => h.elim
  | i :: is, d :: ds, n, ⟨⟨a, e, c⟩, h⟩ => by
    rw [List.all_cons, Bool.and_eq_true] at n
    exact ⟨⟨a, e, c.free n.1⟩, OutsAt.free n.2 h⟩
/-- what putOuts makes -/
theorem putOuts_spec : ∀ {ios : List Nat} {outs : List D} {ρ1 ρ2 : Rho}, putOuts ios outs ρ1 = some ρ2 → ios.Nodup →
    ρ2.length = ρ1.length ∧ (∀ j, j ∉ ios → ρ2[j]? = ρ1[j]?) ∧ ∀ j ∈ ios, ∃ k d d', ρ1[j]? = some (some (k, d)) ∧ (k = Kd.lent ∨ k = Kd.lio) ∧ ρ2[j]? = some (some (k, d')) ∧
      ∀ (A : Addr → Prop), OutsAt K A H σ ios outs → ∃ a, σ[j]? = some (some (V.ref a)) ∧ Cell K A H a d'
  | [], [], ρ1, ρ2, h, _ => by
    simp only [putOuts, Option.some.injEq] at h
    subst h
    exact ⟨rfl, fun _ _ => rfl, fun _ h => nomatch h⟩
  | [], _ :: _, _, _, h, _ => by simp [putOuts] at h
  | _ :: _, [], _, _, h, _ => by simp [putOuts] at h
  | i :: is, d :: ds, ρ1, ρ2, h, nd => by
    have nd' := List.nodup_cons.mp nd
    have go : ∀ {k : Kd} {d0 : D}, ρ1[i]? = some (some (k, d0)) → (k = Kd.lent ∨ k = Kd.lio) → putOuts is ds (ρ1.set i (some (k, d))) = some ρ2 →
        ρ2.length = ρ1.length ∧ (∀ j, j ∉ i :: is → ρ2[j]? = ρ1[j]?) ∧ ∀ j ∈ i :: is, ∃ k d0 d', ρ1[j]? = some (some (k, d0)) ∧ (k = Kd.lent ∨ k = Kd.lio) ∧ ρ2[j]? = some (some (k, d')) ∧
          ∀ (A : Addr → Prop), OutsAt K A H σ (i :: is) (d :: ds) → ∃ a, σ[j]? = some (some (V.ref a)) ∧ Cell K A H a d' := by
      intro k d0 hi hk hp
      obtain ⟨h1, h2, h3⟩ := putOuts_spec hp nd'.2
      refine ⟨by rw [h1, List.length_set], fun j hj => ?_, fun j hj => ?_⟩
      · rw [List.mem_cons, not_or] at hj
        rw [h2 j hj.2, List.getElem?_set_ne (Ne.symm hj.1)]
      · rcases List.mem_cons.mp hj with rfl | hj
        · exact ⟨k, d0, d, hi, hk, by rw [h2 j nd'.1]; exact List.getElem?_set_self (lt_of_get hi), fun A o => o.1⟩
        · obtain ⟨k', d1, d', e1, e2, e3, e4⟩ := h3 j hj
          have ne : j ≠ i := fun q => nd'.1 (q ▸ hj)
          exact ⟨k', d1, d', by rw [List.getElem?_set_ne (Ne.symm ne)] at e1; exact e1, e2, e3, fun A o => e4 A o.2⟩
    simp only [putOuts] at h
    split at h
    · exact go (by assumption) (.inl rfl) h
    · exact go (by assumption) (.inr rfl) h
    · cases h
/-- behind a callee that has stored into ios -/
theorem Post.outs {ios : List Nat} {outs : List D} (P : Post K F ρ σ H ρ1 σ H1) (nd : ios.Nodup) (hp : putOuts ios outs ρ1 = some ρ2) (kp : Kp (Ad σ ios) H1 H2) (tr : ∀ b o, H1 b = some o → ∃ o', H2 b = some o')
    (o : OutsAt K (Av F ρ1 σ) H2 σ ios outs) (l : LentOk ρ σ H ios) : Post K F ρ σ H ρ2 σ H2 ∧ ∀ b, M ρ2 σ b ↔ M ρ1 σ b := by
  obtain ⟨s1, s2, s3⟩ := putOuts_spec (K := K) (H := H2) (σ := σ) hp nd
  have hl : ∀ i ∈ ios, ∃ k d, ρ1[i]? = some (some (k, d)) ∧ (k = Kd.lent ∨ k = Kd.lio) := fun i hi => let ⟨k, d, d', h1, h2, _⟩ := s3 i hi; ⟨k, d, h1, h2⟩
  have R := P.rel
  -- slots of ρ2 are slots of ρ1, of the same kind
  have g : ∀ {j : Nat} {k : Kd} {d : D}, ρ2[j]? = some (some (k, d)) → ∃ d0, ρ1[j]? = some (some (k, d0)) ∧ (j ∉ ios → d0 = d) := fun {j k d} h => by
    by_cases hj : j ∈ ios
    · obtain ⟨k', d0, d', h1, h2, h3, _⟩ := s3 j hj
      rw [h] at h3
      cases h3
      exact ⟨d0, h1, fun q => absurd hj q⟩
    · rw [s2 j hj] at h
      exact ⟨d, h, fun _ => rfl⟩
  have g' : ∀ {j : Nat} {k : Kd} {d : D}, ρ1[j]? = some (some (k, d)) → ∃ d', ρ2[j]? = some (some (k, d')) := fun {j k d} h => by
    by_cases hj : j ∈ ios
    · obtain ⟨k', d0, d', h1, h2, h3, _⟩ := s3 j hj
      rw [h] at h1
      cases h1
      exact ⟨d', h3⟩
    · exact ⟨d, by rw [s2 j hj]; exact h⟩
  have mm : ∀ b, M ρ2 σ b ↔ M ρ1 σ b := fun b => ⟨fun ⟨j, k, d, h1, h2, h3⟩ => let ⟨d0, e, _⟩ := g h1; ⟨j, k, d0, e, h2, h3⟩, fun ⟨j, k, d, h1, h2, h3⟩ => let ⟨d', e⟩ := g' h1; ⟨j, k, d', e, h2, h3⟩⟩
  have av : ∀ b, Av F ρ2 σ b → Av F ρ1 σ b := fun b z => z.imp id (mm b).mp
  have kpA : Kp (Av F ρ1 σ) H1 H2 := kp.mono fun b z => .inr (ad_m hl z)
  refine ⟨⟨⟨by rw [s1]; exact R.len, fun j d h => ?_, fun j k d h hk => ?_, fun i j k k' d d' a h1 h2 h3 h4 h5 h6 => ?_⟩, fun b u e w => ?_, fun b u e => ?_, fun b z => P.sub b ((mm b).mp z), fun b ⟨j, k, d, h1, h2, h3⟩ => ?_, fun b ⟨j, k, d, h1, h2, h3⟩ => ?_, fun j k d h z => ?_⟩, mm⟩
  · obtain ⟨d0, e, ed⟩ := g h
    have nj : j ∉ ios := fun q => by
      obtain ⟨k', d1, h1, h2⟩ := hl j q
      rw [e] at h1
      cases h1
      rcases h2 with h2 | h2 <;> cases h2
    rw [ed nj] at e
    obtain ⟨v, e1, r⟩ := R.val j d e
    exact ⟨v, e1, Rp.mono av kpA _ _ r⟩
  · obtain ⟨d0, e, ed⟩ := g h
    obtain ⟨a, e1, f, c⟩ := R.mu j k d0 e hk
    by_cases hj : j ∈ ios
    · obtain ⟨k', d1, d', h1, h2, h3, h4⟩ := s3 j hj
      rw [h] at h3
      cases h3
      obtain ⟨a', e2, c'⟩ := h4 _ o
      rw [e1] at e2
      cases e2
      exact ⟨a, e1, f, c'.mono av .refl fun _ z => z⟩
    · rw [ed hj] at c
      refine ⟨a, e1, f, c.mono av kpA fun u hu => kp a u hu fun ⟨i, hi, ei⟩ => ?_⟩
      obtain ⟨k', d1, h1, h2⟩ := hl i hi
      have q := R.inj i j k' k d1 d0 a h1 (by rcases h2 with rfl | rfl <;> decide) e hk ei e1
      exact absurd (q ▸ hi) hj
  · obtain ⟨e1, g1, _⟩ := g h1
    obtain ⟨e2, g2, _⟩ := g h3
    exact R.inj i j k k' e1 e2 a g1 h2 g2 h4 h5 h6
  · refine kp b u (P.kp b u e w) fun ⟨i, hi, ei⟩ => ?_
    rcases l i hi b ei with z | z
    · exact w z
    · rw [z] at e
      cases e
  · obtain ⟨u', e'⟩ := P.tr b u e
    exact tr b u' e'
  · obtain ⟨d0, e, _⟩ := g h1
    exact P.wsub b ⟨j, k, d0, e, h2, h3⟩
  · obtain ⟨d0, e, _⟩ := g h1
    exact P.osub b ⟨j, k, d0, e, h2, h3⟩
  · obtain ⟨e1, k', d', h', z'⟩ := P.io j k d h z
    obtain ⟨d'', e2⟩ := g' h'
    exact ⟨e1, k', d'', e2, z'⟩
/-- what was lent and may be kept is plain -/
theorem Post.dropped : ∀ {B : List Nat} {ρ1 ρ2 : Rho}, dropL B ρ1 = some ρ2 → Rel K F ρ1 σ H → Post K F ρ1 σ H ρ2 σ H ∧ (∀ b, M ρ2 σ b → M ρ1 σ b) ∧ ∀ i ∈ B, (∃ d, ρ1[i]? = some (some (Kd.lent, d))) ∨ (∃ d, ρ1[i]? = some (some (Kd.val, d))) → ∃ d, ρ2[i]? = some (some (Kd.val, d))
  | [], ρ1, ρ2, h, R => by
    simp only [dropL, Option.some.injEq] at h
    subst h
    exact ⟨.refl R, fun _ z => z, fun _ h => nomatch h⟩
  | i :: B, ρ1, ρ2, h, R => by
    simp only [dropL] at h
    obtain ⟨ρ', h1, h2⟩ := Option.bind_eq_some_iff.mp h
    have step : Post K F ρ1 σ H ρ' σ H ∧ (∀ b, M ρ' σ b → M ρ1 σ b) ∧ (((∃ d, ρ1[i]? = some (some (Kd.lent, d))) ∨ ∃ d, ρ1[i]? = some (some (Kd.val, d))) → ∃ d, ρ'[i]? = some (some (Kd.val, d))) ∧
        ∀ (j : Nat), (∃ d, ρ1[j]? = some (some (Kd.lent, d))) ∨ (∃ d, ρ1[j]? = some (some (Kd.val, d))) → (∃ d, ρ'[j]? = some (some (Kd.lent, d))) ∨ ∃ d, ρ'[j]? = some (some (Kd.val, d)) := by
      unfold drop1 at h1
      split at h1
      · rename_i d hd
        cases h1
        obtain ⟨a, ha, _⟩ := R.mu i _ d hd (by decide)
        refine ⟨.demote R hd (.inr rfl) ha, fun b z => (m_demote (K := K) (F := F) (H := H) hd b z).1, fun _ => ⟨d, List.getElem?_set_self (lt_of_get hd)⟩, fun j hj => ?_⟩
        by_cases q : j = i
        · subst q
          exact .inr ⟨d, List.getElem?_set_self (lt_of_get hd)⟩
        · rw [List.getElem?_set_ne (Ne.symm q)]
          exact hj
      · cases h1
      · rename_i n1 n2
        cases h1
        refine ⟨.refl R, fun _ z => z, fun hj => hj.elim (fun ⟨d, hd⟩ => absurd hd (n1 d)) id, fun j hj => hj⟩
    obtain ⟨P1, m1, v1, k1⟩ := step
    obtain ⟨P2, m2, v2⟩ := Post.dropped h2 P1.rel
    refine ⟨P1.trans P2, fun b z => m1 b (m2 b z), fun j hj hd => ?_⟩
    rcases List.mem_cons.mp hj with rfl | hj
    · -- i itself: once plain it stays plain
      obtain ⟨d, e⟩ := v1 hd
      have keep : ∀ {B : List Nat} {ρ1 ρ2 : Rho}, dropL B ρ1 = some ρ2 → (∃ d, ρ1[j]? = some (some (Kd.val, d))) → ∃ d, ρ2[j]? = some (some (Kd.val, d)) := by
        intro B
        induction B with
        | nil =>
          intro ρ1 ρ2 h hd
          simp only [dropL, Option.some.injEq] at h
          subst h
          exact hd
        | cons i B ih =>
          intro ρ1 ρ2 h ⟨d, hd⟩
          simp only [dropL] at h
          obtain ⟨ρ', h1, h2⟩ := Option.bind_eq_some_iff.mp h
          refine ih h2 ⟨d, ?_⟩
          unfold drop1 at h1
          split at h1
          · rename_i d' hd'
            cases h1
            have ne : j ≠ i := fun q => by
              subst q
              rw [hd] at hd'
              cases hd'
            rw [List.getElem?_set_ne (Ne.symm ne)]
            exact hd
          · cases h1
          · cases h1
            exact hd
      exact keep h2 ⟨d, e⟩
    · exact v2 j hj (k1 j hd)
theorem args0_some : ∀ {ms : List Bool} {ds : List D}, ds.length = ms.length → ∃ ρ0, args0 ms ds = some ρ0
  | [], [], _ => ⟨[], rfl⟩
  | m :: ms, d :: ds, h => by
    obtain ⟨ρ0, e⟩ := args0_some (ms := ms) (ds := ds) (by simpa using h)
    exact ⟨_, by rw [args0, e]; rfl⟩
theorem ArgsOk.lenD {A W : Addr → Prop} {ms : List Bool} {vs : List V} {ds : List D} {B ios : List Nat} (h : ArgsOk K A W H σ ms vs ds B ios) : ds.length = ms.length := by
  induction h with
  | nil => rfl
  | val _ _ ih => simp [ih]
  | lent _ _ _ ih => simp [ih]
  | io _ _ _ ih => simp [ih]
theorem unlend_off : ∀ {B : List Nat} {ρ : Rho} {j : Nat}, j ∉ B → (unlend B ρ)[j]? = ρ[j]?
  | [], _, _, _ => rfl
  | i :: B, ρ, j, h => by
    rw [List.mem_cons, not_or] at h
    show (unlend B (unlend1 ρ i))[j]? = _
    rw [unlend_off h.2]
    rcases unlend1_eq ρ i with ⟨d, _, e⟩ | ⟨d, _, e⟩ | e
    · rw [e, List.getElem?_set_ne (Ne.symm h.1)]
    · rw [e, List.getElem?_set_ne (Ne.symm h.1)]
    · rw [e]
theorem snd_call {f : Nat} {ts : List TE} {es : List E} (hs : SndA K C ts es) : SndE K C (tCall (spR K (C.modes f) (C.call f)) [] E0 (seqT ts)) (.call f es) := by
  intro F ρ σ H r ρ9 e R fk Q q
  simp only [ev] at e
  obtain ⟨⟨ds, ρ1, B, ios⟩, e1, e⟩ := Option.bind_eq_some_iff.mp e
  split at e
  rotate_left
  · cases e
  rename_i hok
  obtain ⟨⟨z, outs⟩, e2, e⟩ := Option.bind_eq_some_iff.mp e
  split at e
  rotate_left
  · cases e
  rename_i hno
  obtain ⟨ρ2, e3, e⟩ := Option.bind_eq_some_iff.mp e
  obtain ⟨nd, hl⟩ := okLent_iff hok
  have ndi : ios.Nodup := (List.nodup_append.mp nd).1
  refine hs _ F ρ σ H ds ρ1 B ios e1 R fk _ fun vs H1 P1 ao l => ?_
  rw [List.append_nil]
  obtain ⟨ρ0, e0⟩ := args0_some ao.lenD
  have R1 := P1.rel
  have fk1 : Fk F H1 := P1.fk fk
  have hA : ∀ b, Av F ρ1 σ b → Fc F ρ1 σ (ios ++ B) b ∨ Ad σ (ios ++ B) b := fun b z => by
    by_cases q : Ad σ (ios ++ B) b
    · exact .inr q
    · exact .inl ⟨z, q⟩
  have hLl : ∀ j ∈ ios, j ∈ ios ++ B := fun j hj => List.mem_append_left _ hj
  have hBn : ∀ i ∈ B, i ∉ ios := fun i hi hj => (List.nodup_append.mp nd).2.2 i hj i hi rfl
  obtain ⟨a1, a2, a3, a4, a5⟩ := args_rel (K := K) (H := H1) (A := Av F ρ1 σ) (W := Wr ρ1 σ) (l := ios ++ B) (L := ios) (F' := Fc F ρ1 σ (ios ++ B)) hLl hA (fun b z => z) (fun i j b hi hj ei ej => ad_inj R1 hl hi hj ei ej) (fun b z => .inr (ad_m hl z)) ao e0 (fun _ h => h) hBn nd
  have av0 : ∀ b, Av (Fc F ρ1 σ (ios ++ B)) ρ0 (vs.map some) b → Fc F ρ1 σ (ios ++ B) b ∨ Ad σ ios b := fun b z => z.imp id (a2 b).mp
  have adi : ∀ b, Ad σ ios b → Av F ρ1 σ b := fun b ⟨i, hi, ei⟩ => .inr (ad_m hl ⟨i, hLl i hi, ei⟩)
  refine ⟨Fc F ρ1 σ (ios ++ B), ds, ρ0, z, outs, ao.len, e2, e0, ⟨by rw [a1]; simp, fun i d h => ?_, fun i k d h hk => ?_, a5⟩, fun b z => R1.avTracked fk1 z.1, fun v H2 cp => ?_⟩
  · obtain ⟨v, h1, h2⟩ := a3 i d h
    exact ⟨v, h1, h2 _ av0⟩
  · obtain ⟨a, h1, h2, h3, h4⟩ := a4 i k d h hk
    exact ⟨a, h1, h2, h4.mono (fun b z => (av0 b z).elim (fun z => z.1) (adi b)) .refl fun _ z => z⟩
  -- behind the call
  have kpio : Kp (Ad σ ios) H1 H2 := cp.kp.mono fun b z => (a2 b).mp z
  have oat := outsAt_of ao cp.outs
  have li : LentOk ρ σ H ios := l.perm fun i hi => List.mem_append_left _ hi
  have chain : ∀ {F' : Addr → Prop}, Rel K F' ρ1 σ H1 → Post K F' ρ σ H ρ2 σ H2 ∧ ∀ b, M ρ2 σ b ↔ M ρ1 σ b := fun {F'} R' => (P1.to R').outs ndi e3 kpio cp.tr (oat.free hno) li
  obtain ⟨P2, m2⟩ := chain R1
  by_cases hz : noMut z.1 = true
  · rw [if_pos hz] at e
    simp only [Option.some.injEq, Prod.mk.injEq] at e
    obtain ⟨rfl, rfl⟩ := e
    obtain ⟨P3, m3⟩ := P2.unlend l
    refine q v H2 P3 ?_
    have res := cp.res
    unfold Res
    by_cases hr : z.2 = true
    · rw [if_pos hr] at res
      obtain ⟨a, _, _, c⟩ := res
      have bad : ∀ {A : Addr → Prop} {d : D}, noMut d = true → Cell K A H2 a d → False := fun hn c => by
        cases c with
        | lst _ _ => simp [noMut] at hn
      exact (bad hz c).elim
    · rw [if_neg hr] at res ⊢
      exact Rp.free _ _ hz res
  · rw [if_neg hz] at e
    obtain ⟨ρ3, e4, e⟩ := Option.bind_eq_some_iff.mp e
    simp only [Option.some.injEq, Prod.mk.injEq] at e
    obtain ⟨rfl, rfl⟩ := e
    have chain3 : ∀ {F' : Addr → Prop}, Rel K F' ρ1 σ H1 → Post K F' ρ σ H ρ3 σ H2 ∧ (∀ b, M ρ3 σ b → M ρ1 σ b) := fun {F'} R' => by
      obtain ⟨P2, m2⟩ := chain R'
      obtain ⟨P3, m3⟩ := P2.unlend li
      obtain ⟨P4, m4, _⟩ := Post.dropped e4 P3.rel
      exact ⟨P3.trans P4, fun b z => (m2 b).mp ((m3 b).mp (m4 b z))⟩
    obtain ⟨P3, m3⟩ := chain3 R1
    -- what is forbidden now was forbidden to the callee
    have avs : ∀ b, Av F ρ3 σ b → Av (Fc F ρ1 σ (ios ++ B)) ρ0 (vs.map some) b := fun b z => by
      by_cases hi : Ad σ ios b
      · exact .inr ((a2 b).mpr hi)
      refine .inl ⟨z.imp id (m3 b), fun ⟨i, hi2, ei⟩ => ?_⟩
      rcases List.mem_append.mp hi2 with h | h
      · exact hi ⟨i, h, ei⟩
      · rcases z with z | ⟨j, k, d, h1, h2, h3⟩
        · exact R1.nf (ad_m hl ⟨i, hi2, ei⟩) z
        · -- the slot i is plain now
          obtain ⟨P2', m2'⟩ := chain R1
          obtain ⟨P3', m3'⟩ := P2'.unlend li
          obtain ⟨P4, m4, v4⟩ := Post.dropped e4 P3'.rel
          obtain ⟨s1, s2, s3⟩ := putOuts_spec (K := K) (H := H2) (σ := σ) e3 ndi
          have ni : i ∉ ios := hBn i h
          obtain ⟨k0, d0, hk0, hk1⟩ := hl i hi2
          have hu : (unlend ios ρ2)[i]? = some (some (k0, d0)) := by rw [unlend_off ni, s2 i ni]; exact hk0
          have hij : j = i := by
            obtain ⟨j', k', d', g1, g2, g3⟩ := m4 b ⟨j, k, d, h1, h2, h3⟩
            have q1 : j' = i := P3'.rel.inj j' i k' k0 d' d0 b g1 g2 hu (by rcases hk1 with rfl | rfl <;> decide) g3 ei
            -- and j too
            have P4r := P4.rel
            by_cases hj : j = i
            · exact hj
            · exfalso
              -- j is mutable behind, so it was mutable ahead at the same place
              obtain ⟨e', k2, d2, g4⟩ : ∃ (u : Unit) (k2 : Kd) (d2 : D), (unlend ios ρ2)[j]? = some (some (k2, d2)) ∧ k2 ≠ .val := by
                have keep : ∀ {B : List Nat} {ρ1 ρ2 : Rho}, dropL B ρ1 = some ρ2 → ρ2[j]? = some (some (k, d)) → ∃ k2 d2, ρ1[j]? = some (some (k2, d2)) ∧ k2 ≠ Kd.val := by
                  intro B
                  induction B with
                  | nil =>
                    intro ρ1 ρ2 h hd
                    simp only [dropL, Option.some.injEq] at h
                    subst h
                    exact ⟨k, d, hd, h2⟩
                  | cons i B ih =>
                    intro ρ1 ρ2 h hd
                    simp only [dropL] at h
                    obtain ⟨ρ', g1, g2⟩ := Option.bind_eq_some_iff.mp h
                    obtain ⟨k2, d2, g3, g4⟩ := ih g2 hd
                    unfold drop1 at g1
                    split at g1
                    · rename_i d' hd'
                      cases g1
                      by_cases ne : j = i
                      · subst ne
                        rw [List.getElem?_set_self (lt_of_get hd')] at g3
                        cases g3
                        exact absurd rfl g4
                      · rw [List.getElem?_set_ne (Ne.symm ne)] at g3
                        exact ⟨k2, d2, g3, g4⟩
                    · cases g1
                    · cases g1
                      exact ⟨k2, d2, g3, g4⟩
                obtain ⟨k2, d2, g, g'⟩ := keep e4 h1
                exact ⟨(), k2, d2, g, g'⟩
              exact hj (P3'.rel.inj j i k2 k0 d2 d0 b g4.1 g4.2 hu (by rcases hk1 with rfl | rfl <;> decide) h3 ei)
          subst hij
          rcases hk1 with rfl | rfl
          · obtain ⟨d', hv⟩ := v4 j h (.inl ⟨d0, hu⟩)
            rw [h1] at hv
            cases hv
            exact h2 rfl
          · -- a lent io can't be dropped
            have bad : ∀ {B : List Nat} {ρ1 ρ2 : Rho}, dropL B ρ1 = some ρ2 → j ∈ B → (∃ d, ρ1[j]? = some (some (Kd.lio, d))) → False := by
              intro B
              induction B with
              | nil => intro _ _ _ h; cases h
              | cons i B ih =>
                intro ρ1 ρ2 h hj ⟨d, hd⟩
                simp only [dropL] at h
                obtain ⟨ρ', g1, g2⟩ := Option.bind_eq_some_iff.mp h
                unfold drop1 at g1
                split at g1
                · rename_i d' hd'
                  cases g1
                  have ne : j ≠ i := fun q => by
                    subst q
                    rw [hd] at hd'
                    cases hd'
                  refine ih g2 ((List.mem_cons.mp hj).resolve_left ne) ⟨d, ?_⟩
                  rw [List.getElem?_set_ne (Ne.symm ne)]
                  exact hd
                · cases g1
                · rename_i n1 n2
                  cases g1
                  have ne : j ≠ i := fun q => by
                    subst q
                    exact n2 d hd
                  exact ih g2 ((List.mem_cons.mp hj).resolve_left ne) ⟨d, hd⟩
            exact bad e4 h ⟨d0, hu⟩
    refine q v H2 P3 ?_
    have res := cp.res
    unfold Res
    by_cases hr : z.2 = true
    · rw [if_pos hr] at res ⊢
      obtain ⟨a, rfl, n, c⟩ := res
      refine ⟨a, rfl, P1.none n, c.mono (fun b z => (av_fa z).imp (avs b) id) .refl fun _ z => z, ?_⟩
      exact (chain3 (R1.protect n)).1.rel
    · rw [if_neg hr] at res ⊢
      exact Rp.mono avs .refl _ _ res
end
end MW

namespace MW
open PySem PySem.Spec PyProof.Rows L2
/-- addresses that the caller gave to be stored into -/
def Io (ρ : Rho) (σ : L2.St) (b : Addr) : Prop := ∃ (i : Nat) (k : Kd) (d : D), ρ[i]? = some (some (k, d)) ∧ k.isIo ∧ σ[i]? = some (some (V.ref b))
def ResR (K : PySem.W.Frag) (F : Addr → Prop) (ρ : Rho) (σ : L2.St) (H : Hp) (ρ1 : Rho) (σ1 : L2.St) (H1 : Hp) (v : V) (r : D × Bool) : Prop :=
  if r.2 = true then ∃ a, v = V.ref a ∧ (Oc ρ σ a ∨ H a = none) ∧ Cell K (fun b => F b ∨ Io ρ1 σ1 b ∨ b = a) H1 a r.1 else Rp K (fun b => F b ∨ Io ρ1 σ1 b) H1 v r.1
def EndsOk (K : PySem.W.Frag) (F : Addr → Prop) (ρ : Rho) (σ : L2.St) (H : Hp) (fl : Fl) (ρ1 : Rho) (D : Ends) : Prop := match fl with
  | .nx => ∀ σ1 H1, Post K F ρ σ H ρ1 σ1 H1 → D.nx σ1 H1
  | .bk => ∀ σ1 H1, Post K F ρ σ H ρ1 σ1 H1 → D.bk σ1 H1
  | .ct => ∀ σ1 H1, Post K F ρ σ H ρ1 σ1 H1 → D.ct σ1 H1
  | .rt r => ∀ v σ1 H1, Post K F ρ σ H ρ1 σ1 H1 → ResR K F ρ σ H ρ1 σ1 H1 v r → D.rt v H1
def SndSt (K : PySem.W.Frag) (C : Calls) (t : TS) (s : S) : Prop := ∀ (F : Addr → Prop) (ρ : Rho) (σ : L2.St) (H : Hp) (fl : Fl) (ρ1 : Rho), exec C s ρ = some (fl, ρ1) → Rel K F ρ σ H → Fk F H → ∀ D : Ends, EndsOk K F ρ σ H fl ρ1 D → t D σ H
def SndSs (K : PySem.W.Frag) (C : Calls) (t : TS) (ss : List S) : Prop := ∀ (F : Addr → Prop) (ρ : Rho) (σ : L2.St) (H : Hp) (fl : Fl) (ρ1 : Rho), execs C ss ρ = some (fl, ρ1) → Rel K F ρ σ H → Fk F H → ∀ D : Ends, EndsOk K F ρ σ H fl ρ1 D → t D σ H
section
variable {K : PySem.W.Frag} {C : Calls} {F F' : Addr → Prop} {ρ ρ0 ρ1 ρ2 : Rho} {σ σ0 σ1 σ2 : L2.St} {H H0 H1 H2 : Hp}
theorem Io.m {b : Addr} (h : Io ρ σ b) : M ρ σ b := by
  obtain ⟨i, k, d, h1, h2, h3⟩ := h
  exact ⟨i, k, d, h1, by rcases h2 with rfl | rfl <;> decide, h3⟩
theorem ResR.later {v : V} {r : D × Bool} (P : Post K F ρ0 σ0 H0 ρ1 σ1 H1) (h : ResR K F ρ1 σ1 H1 ρ2 σ2 H2 v r) : ResR K F ρ0 σ0 H0 ρ2 σ2 H2 v r := by
  unfold ResR at h ⊢
  by_cases hr : r.2 = true
  · rw [if_pos hr] at h ⊢
    obtain ⟨a, e, o, c⟩ := h
    exact ⟨a, e, o.elim (P.osub a) fun z => .inr (P.none z), c⟩
  · rw [if_neg hr] at h ⊢
    exact h
theorem EndsOk.later {fl : Fl} {D : Ends} (P : Post K F ρ0 σ0 H0 ρ1 σ1 H1) (h : EndsOk K F ρ0 σ0 H0 fl ρ2 D) : EndsOk K F ρ1 σ1 H1 fl ρ2 D := by
  cases fl with
  | nx => exact fun σ2 H2 P2 => h σ2 H2 (P.trans P2)
  | bk => exact fun σ2 H2 P2 => h σ2 H2 (P.trans P2)
  | ct => exact fun σ2 H2 P2 => h σ2 H2 (P.trans P2)
  | rt r => exact fun v σ2 H2 P2 r2 => h v σ2 H2 (P.trans P2) (r2.later P)
theorem sndss_nil : SndSs K C tNext [] := by
  intro F ρ σ H fl ρ1 e R f D q
  simp only [execs, Option.some.injEq, Prod.mk.injEq] at e
  obtain ⟨rfl, rfl⟩ := e
  exact q σ H (.refl R)
theorem sndss_cons {t u : TS} {s : S} {ss : List S} (h : SndSt K C t s) (hs : SndSs K C u ss) : SndSs K C (tSeq t u) (s :: ss) := by
  intro F ρ σ H fl ρ2 e R f D q
  simp only [execs] at e
  obtain ⟨⟨f1, ρ1⟩, e1, e⟩ := Option.bind_eq_some_iff.mp e
  refine h F ρ σ H f1 ρ1 e1 R f _ ?_
  cases f1 with
  | nx => exact fun σ1 H1 P => hs F ρ1 σ1 H1 fl ρ2 e P.rel (P.fk f) D (q.later P)
  | bk =>
    simp only [Option.some.injEq, Prod.mk.injEq] at e
    obtain ⟨rfl, rfl⟩ := e
    exact q
  | ct =>
    simp only [Option.some.injEq, Prod.mk.injEq] at e
    obtain ⟨rfl, rfl⟩ := e
    exact q
  | rt r =>
    simp only [Option.some.injEq, Prod.mk.injEq] at e
    obtain ⟨rfl, rfl⟩ := e
    exact q
/-- a result bound to a name -/
theorem Post.setr {i : Nat} {v : V} {r : D × Bool} {ρ2 : Rho} (P : Post K F ρ0 σ0 H0 ρ σ H) (f : Fk F H0) (h : MW.setv i r ρ = some ρ2) (rr : Res K F ρ σ H0 H v r) : Post K F ρ0 σ0 H0 ρ2 (σ.set i (some v)) H := by
  have R := P.rel
  have go : ∀ {x : SV}, ρ[i]? = some x → (∀ k e, x = some (k, e) → ¬ k.isIo) → ρ.set i (some (if r.2 = true then Kd.own else Kd.val, r.1)) = ρ2 → Post K F ρ0 σ0 H0 ρ2 (σ.set i (some v)) H := by
    intro x hx hio e
    subst e
    by_cases hr : r.2 = true
    · unfold Res at rr
      rw [if_pos hr] at rr ⊢
      obtain ⟨a, rfl, n, c, Ra⟩ := rr
      have hi := lt_of_get hx
      have hi' : i < σ.length := R.len ▸ hi
      have naF : ¬ F a := fun z => by
        obtain ⟨o, e⟩ := f a z
        rw [n] at e
        cases e
      have nam : ∀ {b : Addr}, M ρ σ b → b ≠ a := fun {b} m q => Ra.nf m (.inr q)
      have g : ∀ {j : Nat} {l : Kd} {e : D} {u : V}, (ρ.set i (some (Kd.own, r.1)))[j]? = some (some (l, e)) → (σ.set i (some (V.ref a)))[j]? = some (some u) → (j = i ∧ l = .own ∧ e = r.1 ∧ u = V.ref a) ∨ (j ≠ i ∧ ρ[j]? = some (some (l, e)) ∧ σ[j]? = some (some u)) := by
        intro j l e u h1 h3
        rcases get_set h1 hi with ⟨rfl, h4⟩ | ⟨ne, h4⟩
        · cases h4
          rw [List.getElem?_set_self hi'] at h3
          cases h3
          exact .inl ⟨rfl, rfl, rfl, rfl⟩
        · rw [List.getElem?_set_ne (Ne.symm ne)] at h3
          exact .inr ⟨ne, h4, h3⟩
      have ms : ∀ b, M (ρ.set i (some (Kd.own, r.1))) (σ.set i (some (V.ref a))) b → M ρ σ b ∨ b = a := fun b ⟨j, l, e, h1, h2, h3⟩ => by
        rcases g h1 h3 with ⟨_, _, _, q⟩ | ⟨_, g1, g2⟩
        · cases q
          exact .inr rfl
        · exact .inl ⟨j, l, e, g1, h2, g2⟩
      have av : ∀ b, Av F (ρ.set i (some (Kd.own, r.1))) (σ.set i (some (V.ref a))) b → Av (Fa F a) ρ σ b := fun b z => by
        rcases z with z | z
        · exact .inl (.inl z)
        · rcases ms b z with z | z
          · exact .inr z
          · exact .inl (.inr z)
      refine ⟨⟨by rw [List.length_set, List.length_set]; exact R.len, fun j e h1 => ?_, fun j l e h1 h2 => ?_, fun j j' l l' e e' b h1 h2 h3 h4 h5 h6 => ?_⟩, P.kp, P.tr, fun b z => ?_, fun b ⟨j, l, e, h1, h2, h3⟩ => ?_, fun b ⟨j, l, e, h1, h2, h3⟩ => ?_, fun j l e h1 z => ?_⟩
      · rcases get_set h1 hi with ⟨rfl, h4⟩ | ⟨ne, h4⟩
        · cases h4
        · obtain ⟨u, e1, ru⟩ := Ra.val j e h4
          exact ⟨u, by rw [List.getElem?_set_ne (Ne.symm ne)]; exact e1, Rp.mono av .refl _ _ ru⟩
      · rcases get_set h1 hi with ⟨rfl, h4⟩ | ⟨ne, h4⟩
        · cases h4
          exact ⟨a, List.getElem?_set_self hi', naF, c.mono av .refl fun _ z => z⟩
        · obtain ⟨b, e1, fb, cb⟩ := Ra.mu j l e h4 h2
          exact ⟨b, by rw [List.getElem?_set_ne (Ne.symm ne)]; exact e1, fun z => fb (.inl z), cb.mono av .refl fun _ z => z⟩
      · rcases g h1 h5 with ⟨e1, _, _, q⟩ | ⟨n1, g1, g2⟩
        · rcases g h3 h6 with ⟨e2, _⟩ | ⟨n2, g3, g4⟩
          · rw [e1, e2]
          · cases q
            exact absurd rfl (nam ⟨j', l', e', g3, h4, g4⟩)
        · rcases g h3 h6 with ⟨e2, _, _, q⟩ | ⟨n2, g3, g4⟩
          · cases q
            exact absurd rfl (nam ⟨j, l, e, g1, h2, g2⟩)
          · exact R.inj j j' l l' e e' b g1 h2 g3 h4 g2 g4
      · rcases ms b z with z | z
        · exact P.sub b z
        · rw [z]
          exact .inr n
      · rcases g h1 h3 with ⟨_, _, _, q⟩ | ⟨_, g1, g2⟩
        · cases q
          exact .inr n
        · exact P.wsub b ⟨j, l, e, g1, h2, g2⟩
      · rcases g h1 h3 with ⟨_, _, _, q⟩ | ⟨_, g1, g2⟩
        · cases q
          exact .inr n
        · exact P.osub b ⟨j, l, e, g1, h2, g2⟩
      · obtain ⟨e1, k', d', e2, z'⟩ := P.io j l e h1 z
        have ne : j ≠ i := fun q => by
          subst q
          rw [hx] at e2
          cases e2
          exact hio _ _ rfl z'
        exact ⟨by rw [List.getElem?_set_ne (Ne.symm ne)]; exact e1, k', d', by rw [List.getElem?_set_ne (Ne.symm ne)]; exact e2, z'⟩
    · rw [if_neg hr]
      exact P.trans (.setv R hx hio (rr.rp f))
  unfold MW.setv at h
  split at h
  · cases h
  · cases h
  · rename_i x h1 h2 hx
    refine go hx (fun k e' hk z => ?_) (Option.some.inj h)
    subst hk
    rcases z with rfl | rfl
    · exact h1 _ rfl
    · exact h2 _ rfl
  · cases h
theorem snd_asg {te : TE} {tg : Tg} {e : E} (he : SndE K C te e) : SndSt K C (tAsg te (tgT K tg)) (.asg tg e) := by
  intro F ρ σ H fl ρ2 h R f D q
  simp only [exec] at h
  obtain ⟨⟨r, ρ1⟩, e1, h⟩ := Option.bind_eq_some_iff.mp h
  obtain ⟨ρ2', e2, h⟩ := Option.bind_eq_some_iff.mp h
  simp only [Option.some.injEq, Prod.mk.injEq] at h
  obtain ⟨rfl, rfl⟩ := h
  refine he F ρ σ H r ρ1 e1 R f _ fun v H1 P rr => ?_
  cases tg with
  | n i => exact q _ H1 (P.setr f e2 rr)
  | t ts => exact snd_tg (.t ts) F ρ1 σ H1 v r.1 ρ2' e2 P.rel (rr.rp f) _ fun σ1 P1 _ => q σ1 H1 (P.trans P1)
def setS : List Nat → List V → L2.St → L2.St
  | i :: is, v :: vs, σ => (setS is vs σ).set i (some v)
  | _, _, σ => σ
/-- several expressions and the names that get them -/
def SndFs (K : PySem.W.Frag) (C : Calls) (ts : List TE) (es : List E) (is : List Nat) : Prop := ∀ (F : Addr → Prop) (ρ : Rho) (σ : L2.St) (H : Hp) (rs : List (D × Bool)) (ρ1 ρ2 : Rho), evfs C es ρ = some (rs, ρ1) → setvs is rs ρ1 = some ρ2 → Rel K F ρ σ H → Fk F H →
  ∀ Q : List V → Hp → Prop, (∀ vs H1, vs.length = is.length → Post K F ρ σ H ρ2 (setS is vs σ) H1 → Q vs H1) → seqT ts σ H Q
theorem sndfs_nil : SndFs K C [] [] [] := by
  intro F ρ σ H rs ρ1 ρ2 e1 e2 R f Q q
  simp only [evfs, Option.some.injEq, Prod.mk.injEq] at e1
  obtain ⟨rfl, rfl⟩ := e1
  simp only [setvs, Option.some.injEq] at e2
  subst e2
  exact q [] H rfl (.refl R)
theorem sndfs_cons {t : TE} {e : E} {ts : List TE} {es : List E} {i : Nat} {is : List Nat} (h : SndE K C t e) (hs : SndFs K C ts es is) : SndFs K C (t :: ts) (e :: es) (i :: is) := by
  intro F ρ σ H rs ρ1 ρ2 he e2 R f Q q
  simp only [evfs] at he
  obtain ⟨⟨r, ρa⟩, e1, he⟩ := Option.bind_eq_some_iff.mp he
  obtain ⟨⟨rs', ρb⟩, e3, he⟩ := Option.bind_eq_some_iff.mp he
  simp only [Option.some.injEq, Prod.mk.injEq] at he
  obtain ⟨rfl, rfl⟩ := he
  simp only [setvs] at e2
  obtain ⟨ρc, e4, e5⟩ := Option.bind_eq_some_iff.mp e2
  refine h F ρ σ H r ρa e1 R f _ fun v H1 P rr => ?_
  by_cases hr : r.2 = true
  · unfold Res at rr
    rw [if_pos hr] at rr
    obtain ⟨a, rfl, n, c, Ra⟩ := rr
    refine hs (Fa F a) ρa σ H1 rs' ρb ρc e3 e4 Ra ((P.fk f).add c.tracked) _ fun vs H2 l P2 => ?_
    have nw : ¬ Wr ρa σ a := fun z => Ra.nf z.m (.inr rfl)
    have c2 : Cell K (Av (Fa F a) ρc (setS is vs σ)) H2 a r.1 := c.step (fun _ => P2.avsub) P2.kpA fun o ho => P2.kp a o ho fun z => absurd z nw
    have Pc : Post K F ρ σ H ρc (setS is vs σ) H2 := P.trans (P2.to (P2.rel.fewer fun _ => .inl))
    refine q (V.ref a :: vs) H2 (by simp [l]) (Pc.setr f e5 ?_)
    unfold Res
    rw [if_pos hr]
    exact ⟨a, rfl, n, c2, P2.rel⟩
  · unfold Res at rr
    rw [if_neg hr] at rr
    refine hs F ρa σ H1 rs' ρb ρc e3 e4 P.rel (P.fk f) _ fun vs H2 l P2 => ?_
    have Pc : Post K F ρ σ H ρc (setS is vs σ) H2 := P.trans P2
    refine q (v :: vs) H2 (by simp [l]) (Pc.setr f e5 ?_)
    unfold Res
    rw [if_neg hr]
    exact P2.rp rr
theorem snd_par {t : TS} {ts : List TE} {es : List E} {is : List Nat} (h : SndFs K C ts es is) (ht : ∀ D σ H, seqT ts σ H (fun vs H1 => vs.length = is.length ∧ D.nx (setS is vs σ) H1) → t D σ H) : SndSt K C t (.par is es) := by
  intro F ρ σ H fl ρ2 e R f D q
  simp only [exec] at e
  obtain ⟨⟨rs, ρ1⟩, e1, e⟩ := Option.bind_eq_some_iff.mp e
  obtain ⟨ρ2', e2, e⟩ := Option.bind_eq_some_iff.mp e
  simp only [Option.some.injEq, Prod.mk.injEq] at e
  obtain ⟨rfl, rfl⟩ := e
  exact ht D σ H (h F ρ σ H rs ρ1 ρ2' e1 e2 R f _ fun vs H1 l P => ⟨l, q _ H1 P⟩)
theorem snd_ex {t : TE} {e : E} (h : SndE K C t e) : SndSt K C (tDrop t) (.ex e) := by
  intro F ρ σ H fl ρ2 he R f D q
  simp only [exec] at he
  obtain ⟨⟨r, ρ1⟩, e1, he⟩ := Option.bind_eq_some_iff.mp he
  simp only [Option.some.injEq, Prod.mk.injEq] at he
  obtain ⟨rfl, rfl⟩ := he
  exact h F ρ σ H r ρ1 e1 R f _ fun v H1 P _ => q σ H1 P
/-- a result as what a def hands back -/
theorem Res.ret {v : V} {r : D × Bool} (h : Res K F ρ1 σ H H1 v r) : ResR K F ρ σ H ρ1 σ H1 v r := by
  unfold Res at h
  unfold ResR
  by_cases hr : r.2 = true
  · rw [if_pos hr] at h ⊢
    obtain ⟨a, e, n, c, _⟩ := h
    exact ⟨a, e, .inr n, c.mono (fun b z => z.elim (fun z => .inl (.inl z)) fun z => z.elim (fun z => .inr z.m) fun z => .inl (.inr z)) .refl fun _ z => z⟩
  · rw [if_neg hr] at h ⊢
    exact Rp.mono (fun b z => z.imp id Io.m) .refl _ _ h
theorem snd_ret {t : TE} {e : E} (h : SndE K C t e) (nm : Nm t e) : SndSt K C (tRet t) (.ret e) := by
  intro F ρ σ H fl ρ2 he R f D q
  by_cases hv : ∃ i, e = .v i
  · obtain ⟨i, rfl⟩ := hv
    simp only [exec] at he
    obtain ⟨⟨r, ρ1⟩, e1, he⟩ := Option.bind_eq_some_iff.mp he
    simp only [Option.some.injEq, Prod.mk.injEq] at he
    obtain ⟨rfl, rfl⟩ := he
    rw [nm i rfl]
    unfold retv at e1
    split at e1
    · rename_i d hd
      simp only [Option.some.injEq, Prod.mk.injEq] at e1
      obtain ⟨rfl, rfl⟩ := e1
      obtain ⟨v, hv, rp⟩ := R.val i d hd
      refine ⟨v, hv, q v σ H (.refl R) ?_⟩
      unfold ResR
      rw [if_neg Bool.false_ne_true]
      exact Rp.mono (fun b z => z.imp id Io.m) .refl _ _ rp
    · rename_i d hd
      simp only [Option.some.injEq, Prod.mk.injEq] at e1
      obtain ⟨rfl, rfl⟩ := e1
      obtain ⟨a, ha, nf, c⟩ := R.mu i _ d hd (by decide)
      refine ⟨_, ha, q _ σ H (.refl R) ?_⟩
      unfold ResR
      rw [if_pos rfl]
      refine ⟨a, rfl, .inl ⟨i, _, d, hd, .inl rfl, ha⟩, c.mono (fun b z => ?_) .refl fun _ z => z⟩
      rcases z with z | z | z
      · exact .inl z
      · exact .inr z.m
      · rw [z]
        exact .inr ⟨i, _, d, hd, by decide, ha⟩
    · cases e1
  · have hx : exec C (.ret e) ρ = (ev C e ρ).bind fun (r, ρ1) => some (.rt r, ρ1) := by
      cases e <;> first | exact absurd ⟨_, rfl⟩ hv | (simp only [exec])
    rw [hx] at he
    obtain ⟨⟨r, ρ1⟩, e1, he⟩ := Option.bind_eq_some_iff.mp he
    simp only [Option.some.injEq, Prod.mk.injEq] at he
    obtain ⟨rfl, rfl⟩ := he
    exact h F ρ σ H r ρ1 e1 R f _ fun v H1 P rr => q v σ H1 P rr.ret
theorem snd_retN : SndSt K C tRetN .retN := by
  intro F ρ σ H fl ρ2 he R f D q
  simp only [exec, Option.some.injEq, Prod.mk.injEq] at he
  obtain ⟨rfl, rfl⟩ := he
  refine q .non σ H (.refl R) ?_
  unfold ResR
  rw [if_neg Bool.false_ne_true]
  exact .non
theorem snd_ife {tc : TT} {t u : TS} {c : E} {a b : List S} (hc : SndT K C tc c) (ha : SndSs K C t a) (hb : SndSs K C u b) : SndSt K C (tIfS tc t u) (.ife c a b) := by
  intro F ρ σ H fl ρ2 he R f D q
  simp only [exec] at he
  rw [← Option.bind_assoc] at he
  obtain ⟨⟨k, ρ1⟩, e1, he⟩ := Option.bind_eq_some_iff.mp he
  refine hc F ρ σ H k ρ1 e1 R f _ fun H1 P => ?_
  cases k with
  | true =>
    rw [if_pos rfl] at he ⊢
    exact ha F ρ1 σ H1 fl ρ2 he P.rel (P.fk f) D (q.later P)
  | false =>
    rw [if_neg Bool.false_ne_true] at he ⊢
    exact hb F ρ1 σ H1 fl ρ2 he P.rel (P.fk f) D (q.later P)
theorem snd_brk : SndSt K C tBreak .brk := by
  intro F ρ σ H fl ρ2 he R f D q
  simp only [exec, Option.some.injEq, Prod.mk.injEq] at he
  obtain ⟨rfl, rfl⟩ := he
  exact q σ H (.refl R)
theorem snd_cont : SndSt K C tCont .cont := by
  intro F ρ σ H fl ρ2 he R f D q
  simp only [exec, Option.some.injEq, Prod.mk.injEq] at he
  obtain ⟨rfl, rfl⟩ := he
  exact q σ H (.refl R)
theorem snd_pass : SndSt K C tNext .pass := by
  intro F ρ σ H fl ρ2 he R f D q
  simp only [exec, Option.some.injEq, Prod.mk.injEq] at he
  obtain ⟨rfl, rfl⟩ := he
  exact q σ H (.refl R)
theorem snd_never {t : TS} : SndSt K C t .never := by
  intro F ρ σ H fl ρ2 he
  simp [exec] at he
theorem mutAt_get {i : Nat} (hm : mutAt ρ i = true) : ∃ k ds, ρ[i]? = some (some (k, PyData.list ds)) ∧ k ≠ Kd.val := by
  unfold mutAt at hm
  split at hm
  · exact ⟨_, _, by assumption, by decide⟩
  · exact ⟨_, _, by assumption, by decide⟩
  · cases hm
/-- l.append(e) -/
theorem snd_append {i : Nat} {te : TE} {e : E} (h : SndE K C te e) : SndSt K C (tDrop (tBM K "list" rAppend (tVar i) (tCons te tNil))) (.append i e) := by
  intro F ρ σ H fl ρ2 he R f D q
  simp only [exec] at he
  split at he
  rotate_left
  · cases he
  rename_i hm
  obtain ⟨⟨r, ρ1⟩, e1, he⟩ := Option.bind_eq_some_iff.mp he
  -- the list ahead
  obtain ⟨k, ds0, h0, k0⟩ := mutAt_get hm
  obtain ⟨a, ha, _, c0⟩ := R.mu i k _ h0 k0
  refine ⟨_, ha, ?_, ?_⟩
  · cases c0 with
    | lst hx _ => exact .inl ⟨rfl, _, .of hx⟩
  refine h F ρ σ H r ρ1 e1 R f _ fun v H1 P rr => ?_
  have go : ∀ {k : Kd} {ds : List PyData}, (k = .own ∨ k = .io) → ρ1[i]? = some (some (k, .list ds)) → (if ds.length < lim then some (Fl.nx, ρ1.set i (some (k, PyData.list (ds ++ [r.1])))) else none) = some (fl, ρ2) → ∃ l xs y, V.ref a = V.ref l ∧ [v] = [y] ∧ H1 l = some (.lst xs) ∧ xs.length < sizeLine ∧ D.nx σ (upd H1 l (.lst (xs ++ [y]))) := by
    intro k ds hk h1 hl
    split at hl
    · rename_i hlt
      simp only [Option.some.injEq, Prod.mk.injEq] at hl
      obtain ⟨rfl, rfl⟩ := hl
      have kv : k ≠ .val := by rcases hk with rfl | rfl <;> decide
      obtain ⟨a', ha', _, c⟩ := P.rel.mu i k _ h1 kv
      rw [ha] at ha'
      cases ha'
      cases c with
      | @lst xs _ hx ra =>
        refine ⟨a, xs, v, rfl, rfl, hx, ?_, q σ _ (P.trans (.store P.rel h1 hk ha hx (ra.append (.cons (rr.rp f) .nil))))⟩
        rw [ra.length]
        exact hlt
    · cases hl
  revert he
  dsimp only
  split
  · rename_i hh
    intro he
    exact go (.inl rfl) hh he
  · rename_i hh
    intro he
    exact go (.inr rfl) hh he
  · intro he
    cases he
/-- l[i] = e -/
theorem snd_setix {i : Nat} {te ti : TE} {ix e : E} (h : SndE K C te e) (hi : SndE K C ti ix) : SndSt K C (tAsg te (gSub (tVar i) ti rSetL)) (.setix i ix e) := by
  intro F ρ σ H fl ρ3 he R f D q
  simp only [exec] at he
  split at he
  rotate_left
  · cases he
  rename_i hm
  obtain ⟨⟨r, ρ1⟩, e1, he⟩ := Option.bind_eq_some_iff.mp he
  obtain ⟨⟨j, ρ2⟩, e2, he⟩ := Option.bind_eq_some_iff.mp he
  obtain ⟨a, ha⟩ : ∃ a, σ[i]? = some (some (V.ref a)) := by
    obtain ⟨k, ds, h0, k0⟩ := mutAt_get hm
    obtain ⟨a, ha, _⟩ := R.mu i k _ h0 k0
    exact ⟨a, ha⟩
  refine h F ρ σ H r ρ1 e1 R f _ fun v H1 P1 r1 => ?_
  have go : ∀ {k : Kd} {d : PyData} {n : Int}, (k = .own ∨ k = .io) → j.1 = .int n → ρ2[i]? = some (some (k, d)) → (stored d n r.1).bind (fun d' => some (Fl.nx, ρ2.set i (some (k, d')))) = some (fl, ρ3) → gSub (tVar i) ti rSetL v σ H1 D.nx := by
    intro k d n hk hj h2 hs
    obtain ⟨d', e3, e4⟩ := Option.bind_eq_some_iff.mp hs
    simp only [Option.some.injEq, Prod.mk.injEq] at e4
    obtain ⟨rfl, rfl⟩ := e4
    have kv : k ≠ .val := by rcases hk with rfl | rfl <;> decide
    refine ⟨_, ha, hi F ρ1 σ H1 j ρ2 e2 P1.rel (P1.fk f) _ fun u H2 P2 r2 => ?_⟩
    have hu : u = .int n := by
      have h3 := r2.rp (P1.fk f)
      rw [hj] at h3
      cases h3
      rfl
    subst hu
    obtain ⟨a', ha', _, c⟩ := P2.rel.mu i k _ h2 kv
    rw [ha] at ha'
    cases ha'
    cases c with
    | @lst xs ds hx ra =>
      simp only [stored] at e3
      obtain ⟨m, hm, e3⟩ := Option.bind_eq_some_iff.mp e3
      have e3 := Option.some.inj e3
      subst e3
      have rv := P2.rp (r1.rp f)
      refine ⟨a, xs, n, m, rfl, rfl, hx, by rw [ra.length]; exact hm, q σ _ (P1.trans (P2.trans (.store P2.rel h2 hk ha hx (ra.set m rv))))⟩
  revert he
  dsimp only
  split
  · rename_i hj hh
    intro he
    exact go (.inl rfl) hj hh he
  · rename_i hj hh
    intro he
    exact go (.inr rfl) hj hh he
  · intro he
    cases he
end
end MW

namespace MW
open PySem PySem.Spec PyProof.Rows L2
/-! ### a op= b -/
structure IpOk (K : PySem.W.Frag) (ti : TIp) (b : Bop) : Prop where
  int : ∀ (A : Addr → Prop) (H : Hp) (i : Int) (y : V) (e : D) (z : D × Bool) (Q : VK), Rp K A H y e → binF b (.int i) e = some z → (∀ v, Rp K A H v z.1 → Q v H) → ti (.int i) y H Q
  str : ∀ (A : Addr → Prop) (H : Hp) (x : Str) (y : V) (e : D) (z : D × Bool) (Q : VK), PyData.strOk x = true → Rp K A H y e → binF b (.str x) e = some z → (∀ v, Rp K A H v z.1 → Q v H) → ti (.str x) y H Q
  lst : b = .add → ∀ (H : Hp) (l c : Addr) (xs zs : List V) (Q : VK), H l = some (.lst xs) → H c = some (.lst zs) → xs.length + zs.length ≤ lim → Q (.ref l) (upd H l (.lst (xs ++ zs))) → ti (.ref l) (.ref c) H Q
def IpEx (X : Cx) (b : Bop) : Prop := ∃ ti : TIp, PIp X b.op ti ∧ IpOk X.K ti b
section
variable {X : Cx}
theorem ip_add : IpEx X .add := by
  refine ⟨_, OpR.or iop_add (OpR.or iop_add_str iop_ext), ?_, ?_, ?_⟩
  · intro A H i y e z Q ry hF q
    cases e <;> simp only [binF, reduceCtorEq] at hF
    cases ry
    cases hF
    exact .inl ⟨_, _, rfl, rfl, q _ (.int _)⟩
  · intro A H x y e z Q ok ry hF q
    cases e <;> simp only [binF, reduceCtorEq] at hF
    cases ry with
    | str _ ok2 =>
    split at hF
    · cases hF
      exact .inr (.inl ⟨_, _, rfl, rfl, by assumption, q _ (.str _ (strOk_append ok ok2))⟩)
    · cases hF
  · intro _ H l c xs zs Q h1 h2 h3 q
    exact .inr (.inr ⟨l, c, xs, zs, rfl, rfl, h1, h2, h3, q⟩)
theorem ip_of {b : Bop} {C : Int → Int → Prop} {g : Int → Int → Int} (nb : b ≠ .add) (ho : OpR X (inplaceOp b.op) (rI C fun i j => .int (g i j)))
    (hi : ∀ i e z, binF b (.int i) e = some z → ∃ j, e = .int j ∧ C i j ∧ z = (.int (g i j), false)) (hs : ∀ x e, binF b (.str x) e = none) : IpEx X b := by
  refine ⟨_, ho, ?_, ?_, ?_⟩
  · intro A H i y e z Q ry hF q
    obtain ⟨j, rfl, hc, rfl⟩ := hi i e z hF
    cases ry
    exact ⟨_, _, rfl, rfl, hc, q _ (.int _)⟩
  · intro A H x y e z Q ok ry hF q
    rw [hs] at hF
    cases hF
  · intro e
    exact absurd e nb
theorem ip_sub : IpEx X .sub := by
  refine ⟨_, iop_sub, ?_, ?_, fun e => by cases e⟩
  · intro A H i y e z Q ry hF q
    cases e <;> simp only [binF, reduceCtorEq] at hF
    cases ry
    cases hF
    exact ⟨_, _, rfl, rfl, q _ (.int _)⟩
  · intro A H x y e z Q ok ry hF q
    simp [binF] at hF
theorem ip_mul : IpEx X .mul := by
  refine ip_of (by decide) iop_mul (fun i e z hF => ?_) fun x e => by simp [binF]
  cases e <;> simp only [binF, reduceCtorEq] at hF
  split at hF
  · cases hF
    rename_i hc
    simp only [Bool.or_eq_true, decide_eq_true_eq] at hc
    exact ⟨_, rfl, hc.imp small_mul small_mul, rfl⟩
  · cases hF
theorem ip_fdiv : IpEx X .fdiv := by
  refine ip_of (by decide) iop_fdiv (fun i e z hF => ?_) fun x e => by simp [binF]
  cases e <;> simp only [binF, reduceCtorEq] at hF
  split at hF
  · cases hF
    rename_i hc
    simp only [Bool.and_eq_true, decide_eq_true_eq] at hc
    exact ⟨_, rfl, hc, rfl⟩
  · cases hF
theorem ip_mod : IpEx X .mod := by
  refine ip_of (by decide) iop_mod (fun i e z hF => ?_) fun x e => by simp [binF]
  cases e <;> simp only [binF, reduceCtorEq] at hF
  split at hF
  · cases hF
    exact ⟨_, rfl, by assumption, rfl⟩
  · cases hF
theorem ip_bit {b : Bop} {g : Int → Int → Int} (nb : b ≠ .add) (ho : OpR X (inplaceOp b.op) (rI0 fun i j => .int (g i j)))
    (hi : ∀ i e z, binF b (.int i) e = some z → ∃ j, e = .int j ∧ z = (.int (g i j), false)) (hs : ∀ x e, binF b (.str x) e = none) : IpEx X b := by
  refine ⟨_, ho, ?_, ?_, fun e => absurd e nb⟩
  · intro A H i y e z Q ry hF q
    obtain ⟨j, rfl, rfl⟩ := hi i e z hF
    cases ry
    exact ⟨_, _, rfl, rfl, q _ (.int _)⟩
  · intro A H x y e z Q ok ry hF q
    rw [hs] at hF
    cases hF
theorem ip_band : IpEx X .band := ip_bit (by decide) iop_and (fun i e z hF => by
  cases e <;> simp only [binF, reduceCtorEq] at hF
  cases hF
  exact ⟨_, rfl, rfl⟩) fun x e => by simp [binF]
theorem ip_bor : IpEx X .bor := ip_bit (by decide) iop_or (fun i e z hF => by
  cases e <;> simp only [binF, reduceCtorEq] at hF
  cases hF
  exact ⟨_, rfl, rfl⟩) fun x e => by simp [binF]
theorem ip_bxor : IpEx X .bxor := ip_bit (by decide) iop_xor (fun i e z hF => by
  cases e <;> simp only [binF, reduceCtorEq] at hF
  cases hF
  exact ⟨_, rfl, rfl⟩) fun x e => by simp [binF]
theorem ip_ok : ∀ b : Bop, b ≠ .pow → IpEx X b
  | .add, _ => ip_add | .sub, _ => ip_sub | .mul, _ => ip_mul | .fdiv, _ => ip_fdiv | .mod, _ => ip_mod | .pow, h => absurd rfl h | .band, _ => ip_band | .bor, _ => ip_bor | .bxor, _ => ip_bxor
end
section
variable {K : PySem.W.Frag} {C : Calls} {F F' : Addr → Prop} {ρ ρ0 ρ1 ρ2 : Rho} {σ σ0 σ1 σ2 : L2.St} {H H0 H1 H2 : Hp}
theorem augAt_get (R : Rel K F ρ σ H) {i : Nat} (h : augAt ρ i = true) : ∃ x, σ[i]? = some (some x) := by
  unfold augAt at h
  split at h
  · rename_i e
    obtain ⟨a, ha, _⟩ := R.mu i _ _ e (by decide)
    exact ⟨_, ha⟩
  · rename_i e
    obtain ⟨a, ha, _⟩ := R.mu i _ _ e (by decide)
    exact ⟨_, ha⟩
  · rename_i e
    obtain ⟨a, ha, _⟩ := R.val i _ e
    exact ⟨_, ha⟩
  · rename_i e
    obtain ⟨a, ha, _⟩ := R.val i _ e
    exact ⟨_, ha⟩
  · cases h
theorem augL_some {b : Bop} {ds : List PyData} {d d' : PyData} (h : augL b ds d = some d') : b = .add ∧ ∃ es, d = .list es ∧ ds.length + es.length ≤ lim ∧ d' = .list (ds ++ es) := by
  unfold augL at h
  split at h
  · split at h
    · cases h
      exact ⟨rfl, _, rfl, by assumption, rfl⟩
    · cases h
  · cases h
theorem snd_aug {i : Nat} {te : TE} {ti : TIp} {b : Bop} {e : E} (hi : IpOk K ti b) (h : SndE K C te e) : SndSt K C (tAug i te ti) (.aug i b e) := by
  intro F ρ σ H fl ρ2 he R f D q
  simp only [exec] at he
  split at he
  rotate_left
  · cases he
  rename_i hm
  obtain ⟨⟨r, ρ1⟩, e1, he⟩ := Option.bind_eq_some_iff.mp he
  obtain ⟨x, hx⟩ := augAt_get R hm
  refine ⟨x, hx, h F ρ σ H r ρ1 e1 R f _ fun v H1 P rr => ?_⟩
  have rv := rr.rp f
  have goL : ∀ {k : Kd} {ds : List PyData}, (k = .own ∨ k = .io) → ρ1[i]? = some (some (k, .list ds)) → ((augL b ds r.1).bind fun d => some (Fl.nx, ρ1.set i (some (k, d)))) = some (fl, ρ2) → ti x v H1 fun z H2 => D.nx (σ.set i (some z)) H2 := by
    intro k ds hk h1 hl
    obtain ⟨d, hd, hl⟩ := Option.bind_eq_some_iff.mp hl
    simp only [Option.some.injEq, Prod.mk.injEq] at hl
    obtain ⟨rfl, rfl⟩ := hl
    obtain ⟨hb, es, hr, hlt, ed⟩ := augL_some hd
    subst ed
    have kv : k ≠ .val := by rcases hk with rfl | rfl <;> decide
    obtain ⟨a, ha, _, c⟩ := P.rel.mu i k _ h1 kv
    have hx' := hx
    rw [ha] at hx'
    cases hx'
    rw [hr] at rv
    cases c with
    | @lst xs _ hx1 ra =>
    cases rv with
    | @lst c zs _ nc hz rz =>
      refine hi.lst hb H1 a c xs zs _ hx1 hz (by rw [ra.length, rz.length]; exact hlt) ?_
      have es : σ.set i (some (V.ref a)) = σ := by
        obtain ⟨h2, h3⟩ := List.getElem?_eq_some_iff.mp ha
        conv => lhs; rw [← h3]
        exact List.set_getElem_self h2
      rw [es]
      exact q σ _ (P.trans (.store P.rel h1 hk ha hx1 (ra.append rz)))
  revert he
  dsimp only
  split
  · rename_i hh
    exact goL (.inl rfl) hh
  · rename_i hh
    exact goL (.inr rfl) hh
  · rename_i y hh
    intro he
    obtain ⟨z, e3, e4⟩ := Option.bind_eq_some_iff.mp he
    simp only [Option.some.injEq, Prod.mk.injEq] at e4
    obtain ⟨rfl, rfl⟩ := e4
    obtain ⟨u, hu, ru⟩ := P.rel.val i _ hh
    rw [hx] at hu
    cases hu
    cases ru
    exact hi.int _ H1 y v r.1 z _ rv e3 fun w rw' => q _ H1 (P.trans (.setv P.rel hh (fun k e hk z => by cases hk; rcases z with z | z <;> cases z) rw'))
  · rename_i y hh
    intro he
    obtain ⟨z, e3, e4⟩ := Option.bind_eq_some_iff.mp he
    simp only [Option.some.injEq, Prod.mk.injEq] at e4
    obtain ⟨rfl, rfl⟩ := e4
    obtain ⟨u, hu, ru⟩ := P.rel.val i _ hh
    rw [hx] at hu
    cases hu
    cases ru with
    | str _ ok =>
    exact hi.str _ H1 y v r.1 z _ ok rv e3 fun w rw' => q _ H1 (P.trans (.setv P.rel hh (fun k e hk z => by cases hk; rcases z with z | z <;> cases z) rw'))
  · intro he
    cases he

/-! ### loops -/
theorem snd_forS {wi : TI} {tb : TS} {tg : Tg} {sk : Sk} {ses : List E} {body : List S} (hsrc : SndSrcV K C wi sk ses) (hb : SndSs K C tb body) : SndSt K C (tFor wi (tgT K tg) tb) (.forS tg sk ses body) := by
  intro F ρ σ H fl ρ2 he R f D q
  simp only [exec] at he
  obtain ⟨⟨ds, ρ1⟩, e1, he⟩ := Option.bind_eq_some_iff.mp he
  obtain ⟨xs, e2, e3⟩ := Option.bind_eq_some_iff.mp he
  dsimp only at e3
  generalize hf : (fun (ρa : Rho) (x : PyData) => (bindTg tg x ρa).bind fun ρb => execs C body ρb) = fn at e3
  have fe : ∀ ρa x, fn ρa x = (bindTg tg x ρa).bind fun ρb => execs C body ρb := fun ρa x => by rw [← hf]
  refine hsrc F ρ σ H ds ρ1 xs e1 e2 R f _ fun J H1 P1 src1 => ?_
  have f1 := P1.fk f
  have q1 := q.later P1
  refine ⟨fun i m σ' H' => m = xs.length - i ∧ i ≤ xs.length ∧ ∃ ρi, Post K F ρ1 σ H1 ρi σ' H' ∧ Src K (Av F ρi σ') (Wr ρi σ') H' J xs ∧ forL fn (xs.drop i) ρi = some (fl, ρ2), ⟨_, rfl, Nat.zero_le _, ρ1, .refl P1.rel, src1, by rw [List.drop_zero]; exact e3⟩, ?_⟩
  rintro i m σ' H' ⟨rfl, hi, ρi, Pi, si, ei⟩
  by_cases hlt : i < xs.length
  · refine .inr ⟨si.go hlt, fun σ9 H9 => ∃ ρ9, Post K F ρ1 σ H1 ρ9 σ9 H9 ∧ Src K (Av F ρ9 σ9) (Wr ρ9 σ9) H9 J xs ∧ forL fn (xs.drop (i + 1)) ρ9 = some (fl, ρ2), fun σ9 H9 h9 => ⟨_, by omega, rfl, hlt, h9⟩, fun x H2 hy => ?_⟩
    obtain ⟨d, hd, s2, rx⟩ := si.yld hlt hy
    have ed : xs.drop i = d :: xs.drop (i + 1) := by
      obtain ⟨h1, h2⟩ := List.getElem?_eq_some_iff.mp hd
      rw [← h2]
      exact List.drop_eq_getElem_cons h1
    rw [ed] at ei
    simp only [forL] at ei
    obtain ⟨⟨fl1, ρc⟩, t1, ei⟩ := Option.bind_eq_some_iff.mp ei
    rw [fe] at t1
    obtain ⟨ρb, b1, t1⟩ := Option.bind_eq_some_iff.mp t1
    have P2 : Post K F ρi σ' H' ρi σ' H2 := .same Pi.rel s2
    refine snd_tg tg F ρi σ' H2 x d ρb b1 P2.rel rx _ fun σ2 P3 _ => ?_
    have Pb : Post K F ρi σ' H' ρb σ2 H2 := P2.trans P3
    refine hb F ρb σ2 H2 fl1 ρc t1 Pb.rel (Pb.fk (Pi.fk f1)) _ ?_
    have stp : ∀ {ρ9 σ9 H9}, Post K F ρb σ2 H2 ρ9 σ9 H9 → Post K F ρ1 σ H1 ρ9 σ9 H9 ∧ Src K (Av F ρ9 σ9) (Wr ρ9 σ9) H9 J xs := fun P => by
      have P' := Pb.trans P
      exact ⟨Pi.trans P', si.step (fun _ => P'.avsub) P'.wsub (fun _ => Wr.av) P'.kp⟩
    cases fl1 with
    | nx => exact fun σ9 H9 P => ⟨ρc, (stp P).1, (stp P).2, ei⟩
    | ct => exact fun σ9 H9 P => ⟨ρc, (stp P).1, (stp P).2, ei⟩
    | bk =>
      simp only [Option.some.injEq, Prod.mk.injEq] at ei
      obtain ⟨rfl, rfl⟩ := ei
      exact fun σ9 H9 P => q1 σ9 H9 (stp P).1
    | rt r =>
      simp only [Option.some.injEq, Prod.mk.injEq] at ei
      obtain ⟨rfl, rfl⟩ := ei
      exact fun v σ9 H9 P r9 => q1 v σ9 H9 (stp P).1 ((r9.later Pb).later Pi)
  · have e : i = xs.length := by omega
    subst e
    rw [List.drop_length] at ei
    simp only [forL, Option.some.injEq, Prod.mk.injEq] at ei
    obtain ⟨rfl, rfl⟩ := ei
    exact .inl ⟨si.stop, q1 σ' H' Pi⟩
theorem snd_whl {tc : TT} {tb : TS} {c : E} {body : List S} (hc : SndT K C tc c) (hb : SndSs K C tb body) : SndSt K C (tWhile tc tb) (.whl c body) := by
  intro F ρ σ H fl ρ2 he R f D q
  simp only [exec] at he
  generalize hcf : (fun ρa => (ev C c ρa).bind asBool) = cf at he
  generalize hf : (fun ρa => execs C body ρa) = fn at he
  have ce : ∀ ρa, cf ρa = (ev C c ρa).bind asBool := fun ρa => by rw [← hcf]
  have fe : ∀ ρa, fn ρa = execs C body ρa := fun ρa => by rw [← hf]
  refine ⟨fun m σ' H' => ∃ ρi, Post K F ρ σ H ρi σ' H' ∧ whlL cf fn m ρi = some (fl, ρ2), ⟨_, ρ, .refl R, he⟩, ?_⟩
  rintro m σ' H' ⟨ρi, Pi, ei⟩
  cases m with
  | zero => simp [whlL] at ei
  | succ m =>
    simp only [whlL] at ei
    obtain ⟨⟨k, ρb⟩, t1, ei⟩ := Option.bind_eq_some_iff.mp ei
    rw [ce] at t1
    refine hc F ρi σ' H' k ρb t1 Pi.rel (Pi.fk f) _ fun H2 P2 => ?_
    have Pb := Pi.trans P2
    cases k with
    | false =>
      rw [if_neg Bool.false_ne_true] at ei ⊢
      simp only [Option.some.injEq, Prod.mk.injEq] at ei
      obtain ⟨rfl, rfl⟩ := ei
      exact q σ' H2 Pb
    | true =>
      rw [if_pos rfl] at ei ⊢
      obtain ⟨⟨fl1, ρc⟩, t2, ei⟩ := Option.bind_eq_some_iff.mp ei
      rw [fe] at t2
      refine ⟨fun σ9 H9 => ∃ ρ9, Post K F ρ σ H ρ9 σ9 H9 ∧ whlL cf fn m ρ9 = some (fl, ρ2), fun σ9 H9 h9 => ⟨m, Nat.lt_succ_self m, h9⟩, ?_⟩
      refine hb F ρb σ' H2 fl1 ρc t2 Pb.rel (Pb.fk f) _ ?_
      cases fl1 with
      | nx => exact fun σ9 H9 P => ⟨ρc, Pb.trans P, ei⟩
      | ct => exact fun σ9 H9 P => ⟨ρc, Pb.trans P, ei⟩
      | bk =>
        simp only [Option.some.injEq, Prod.mk.injEq] at ei
        obtain ⟨rfl, rfl⟩ := ei
        exact fun σ9 H9 P => q σ9 H9 (Pb.trans P)
      | rt r =>
        simp only [Option.some.injEq, Prod.mk.injEq] at ei
        obtain ⟨rfl, rfl⟩ := ei
        exact fun v σ9 H9 P r9 => q v σ9 H9 (Pb.trans P) (r9.later Pb)
end
end MW

namespace MW
open PySem PySem.Spec PyProof.Rows L2
/-! ### the widest readings that stand beside the evaluator -/
def tS (K : PySem.W.Frag) (C : Calls) (e : E) : TE := fun σ H Q => ∃ (F : Addr → Prop) (ρ : Rho) (r : D × Bool) (ρ1 : Rho), ev C e ρ = some (r, ρ1) ∧ Rel K F ρ σ H ∧ Fk F H ∧ ∀ v H1, Post K F ρ σ H ρ1 σ H1 → Res K F ρ1 σ H H1 v r → Q v H1
def tE (K : PySem.W.Frag) (C : Calls) : E → TE
  | .v i => tVar i
  | e => tS K C e
def tT (K : PySem.W.Frag) (C : Calls) (e : E) : TT := fun σ H Q => ∃ (F : Addr → Prop) (ρ : Rho) (k : Bool) (ρ1 : Rho), (ev C e ρ).bind asBool = some (k, ρ1) ∧ Rel K F ρ σ H ∧ Fk F H ∧ ∀ H1, Post K F ρ σ H ρ1 σ H1 → Q k H1
def tX (K : PySem.W.Frag) (C : Calls) (s : S) : TS := fun D σ H => ∃ (F : Addr → Prop) (ρ : Rho) (fl : Fl) (ρ1 : Rho), exec C s ρ = some (fl, ρ1) ∧ Rel K F ρ σ H ∧ Fk F H ∧ EndsOk K F ρ σ H fl ρ1 D
def tXs (K : PySem.W.Frag) (C : Calls) (s : List S) : TS := fun D σ H => ∃ (F : Addr → Prop) (ρ : Rho) (fl : Fl) (ρ1 : Rho), execs C s ρ = some (fl, ρ1) ∧ Rel K F ρ σ H ∧ Fk F H ∧ EndsOk K F ρ σ H fl ρ1 D
theorem _root_.L2.PE.imp {X : Cx} {e : Expr} {t u : TE} (h : PE X e t) (i : ∀ σ H Q, u σ H Q → t σ H Q) : PE X e u := ⟨fun pins s σ H Q I q => h.run pins s σ H Q I (i σ H Q q)⟩
theorem _root_.L2.PT.imp {X : Cx} {e : Expr} {t u : TT} (h : PT X e t) (i : ∀ σ H Q, u σ H Q → t σ H Q) : PT X e u := ⟨fun pins s σ H Q I q => h.run pins s σ H Q I (i σ H Q q)⟩
theorem _root_.L2.PW.imp {X : Cx} {e : Expr} {t u : TT} (h : PW X e t) (i : ∀ σ H Q, u σ H Q → t σ H Q) : PW X e u := ⟨fun w pins s σ H Q I q => h.run w pins s σ H Q I (i σ H Q q)⟩
theorem _root_.L2.PA.imp {X : Cx} {e : List Expr} {t u : TA} (h : PA X e t) (i : ∀ σ H Q, u σ H Q → t σ H Q) : PA X e u := ⟨fun p pins s σ H Q I q => h.run p pins s σ H Q I (i σ H Q q)⟩
theorem _root_.L2.PS.imp {X : Cx} {e : Stmt} {t u : TS} (h : PS X e t) (i : ∀ D σ H, u D σ H → t D σ H) : PS X e u := ⟨fun pins s σ H D I q => h.run pins s σ H D I (i D σ H q)⟩
theorem _root_.L2.PSs.imp {X : Cx} {e : List Stmt} {t u : TS} (h : PSs X e t) (i : ∀ D σ H, u D σ H → t D σ H) : PSs X e u := ⟨fun pins s σ H D I q => h.run pins s σ H D I (i D σ H q)⟩
section
variable {K : PySem.W.Frag} {C : Calls}
theorem sndS (e : E) : SndE K C (tS K C e) e := fun F ρ σ H r ρ1 h R f Q q => ⟨F, ρ, r, ρ1, h, R, f, q⟩
theorem snd_tE : ∀ e : E, SndE K C (tE K C e) e
  | .v i => snd_v
  | .c _ | .g _ | .tup _ | .lst _ | .op _ _ | .and _ _ | .or _ _ | .not _ | .ite _ _ _ | .chain _ _ _ _ _ | .call _ _ | .comp _ _ _ _ _ _ | .pop _ => sndS _
theorem nm_tE : ∀ e : E, Nm (tE K C e) e := fun e i h => by
  subst h
  rfl
theorem snd_tT (e : E) : SndT K C (tT K C e) e := fun F ρ σ H k ρ1 h R f Q q => ⟨F, ρ, k, ρ1, h, R, f, q⟩
theorem snd_tX (s : S) : SndSt K C (tX K C s) s := fun F ρ σ H fl ρ1 h R f D q => ⟨F, ρ, fl, ρ1, h, R, f, q⟩
theorem snd_tXs (s : List S) : SndSs K C (tXs K C s) s := fun F ρ σ H fl ρ1 h R f D q => ⟨F, ρ, fl, ρ1, h, R, f, q⟩
def tEs (K : PySem.W.Frag) (C : Calls) : List E → List TE
  | [] => []
  | e :: es => tE K C e :: tEs K C es
theorem sndb_tE : ∀ es : List E, SndB K C (tEs K C es) es
  | [] => sndb_nil
  | e :: es => sndb_cons (snd_tE e) (nm_tE e) (sndb_tE es)
theorem snds_tE : ∀ es : List E, SndS K C (tEs K C es) es
  | [] => snds_nil
  | e :: es => snds_cons (snd_tE e) (snds_tE es)
theorem snda_tE : ∀ es : List E, SndA K C (tEs K C es) es
  | [] => snda_nil
  | e :: es => snda_cons (snd_tE e) (nm_tE e) (snda_tE es)
theorem tEs_len : ∀ es : List E, (tEs K C es).length = es.length
  | [] => rfl
  | _ :: es => congrArg Nat.succ (tEs_len es)
theorem pe_of {X : Cx} {a : Expr} {t : TE} {e : E} (h : PE X a t) (s : SndE K C t e) (n : ∀ i, e ≠ .v i) : PE X a (tE K C e) := by
  have : tE K C e = tS K C e := by
    cases e <;> first | rfl | exact absurd rfl (n _)
  rw [this]
  exact h.imp fun σ H Q ⟨F, ρ, r, ρ1, e, R, f, q⟩ => s F ρ σ H r ρ1 e R f Q q
theorem pt_of {X : Cx} {a : Expr} {t : TT} {e : E} (h : PT X a t) (s : SndT K C t e) : PT X a (tT K C e) := h.imp fun σ H Q ⟨F, ρ, r, ρ1, e, R, f, q⟩ => s F ρ σ H r ρ1 e R f Q q
theorem pw_of {X : Cx} {a : Expr} {t : TT} {e : E} (h : PW X a t) (s : SndT K C t e) : PW X a (tT K C e) := h.imp fun σ H Q ⟨F, ρ, r, ρ1, e, R, f, q⟩ => s F ρ σ H r ρ1 e R f Q q
theorem ps_of {X : Cx} {a : Stmt} {t : TS} {e : S} (h : PS X a t) (s : SndSt K C t e) : PS X a (tX K C e) := h.imp fun D σ H ⟨F, ρ, r, ρ1, e, R, f, q⟩ => s F ρ σ H r ρ1 e R f D q
theorem pss_of {X : Cx} {a : List Stmt} {t : TS} {e : List S} (h : PSs X a t) (s : SndSs K C t e) : PSs X a (tXs K C e) := h.imp fun D σ H ⟨F, ρ, r, ρ1, e, R, f, q⟩ => s F ρ σ H r ρ1 e R f D q
end
/-! ### where a text stands -/
structure Gs where
  N : List Str
  scope : Scope
  st : Str → Bool
def bltns : List Str := ["len", "abs", "int", "str", "list", "tuple", "sum", "max", "min", "all", "any", "isinstance", "bool", "range", "zip", "enumerate"]
structure Good (P : Prg) (n : Nat) (Γ : Gs) (X : Cx) : Prop where
  hN : X.N = Γ.N
  nd : Γ.N.Nodup
  sc : X.env.scope = Γ.scope
  kd : Γ.scope.kind = .function
  fn : ∀ x, Γ.st x = true → X.fn x = true
  calm : X.calm = true
  xe : X.xe = fun _ _ => False
  room : Room n X.A
  fns : ∀ (f : Nat) (g : Fn), P.fns[f]? = some g → ∃ (a : Addr) (fd : FuncData), X.mg g.name = some (.ref a) ∧ PySem.W.keepIn X.K (.ref a) = true ∧ Binds X.K fd g.ps [] ∧ FnOk X.prog X.w X.K X.mg X.base CX0 n a fd g.ps (spR X.K g.modes (P.run n f))
  globs : ∀ (k : Nat) (x : Str) (d : D), P.globs[k]? = some (x, d) → ∃ v u, X.mg x = some u ∧ RelV v u ∧ ∀ A H, Rp X.K A H v d
  free : ∀ x ∈ bltns, X.mg x = none
def Prg.cs (P : Prg) (n : Nat) : Calls := ⟨P.run n, P.modes, P.glob, P.wfuel⟩
def kindIs (sc : Scope) (x : Str) (k : NameKind) : Bool := decide (sc.names.lookup x = some k)
def visB (sc : Scope) (x : Str) : Bool := kindIs sc x .local || (kindIs sc x .cell || kindIs sc x .free)
def plainNm (x : Str) : Bool := !(x == ("__debug__" : Str)) && !(x == ("__classdict__" : Str)) && !(x == ("__name__" : Str))
def noStar : Expr → Bool
  | .Starred _ _ => false
  | _ => true
theorem star_cons {e : Expr} {es : List Expr} {env : Env} (h : noStar e = true) : starEach (e :: es) env = (false, eval e env) :: starEach es env := by
  cases e <;> first | rfl | cases h
theorem star_any {pos : Pos} {env : Env} : ∀ {es : List Expr}, (∀ e ∈ es, noStar e = true) → (backTo pos (starEach es env)).any (·.1) = false
  | [], _ => rfl
  | e :: es, h => by
    rw [star_cons (h e List.mem_cons_self)]
    show (false || (backTo pos (starEach es env)).any (·.1)) = false
    rw [star_any fun a m => h a (List.mem_cons_of_mem _ m)]
    rfl
theorem star_all {pos : Pos} {env : Env} : ∀ {es : List Expr}, (∀ e ∈ es, noStar e = true) → (backTo pos (starEach es env)).all (fun x => !x.1) = true
  | [], _ => rfl
  | e :: es, h => by
    rw [star_cons (h e List.mem_cons_self)]
    show (!false && (backTo pos (starEach es env)).all (fun x => !x.1)) = true
    rw [star_all fun a m => h a (List.mem_cons_of_mem _ m)]
    rfl
/-- texts beside the small language -/
inductive PEs (X : Cx) (C : Calls) : List Expr → List E → Prop
  | nil : PEs X C [] []
  | cons {a : Expr} {as : List Expr} {e : E} {es : List E} : noStar a = true → PE X a (tE X.K C e) → PEs X C as es → PEs X C (a :: as) (e :: es)
section
variable {X : Cx} {C : Calls} {as : List Expr} {es : List E}
theorem PEs.ns (h : PEs X C as es) : ∀ a ∈ as, noStar a = true := by
  induction h with
  | nil => intro a h; cases h
  | cons h1 _ _ ih =>
    intro a m
    rcases List.mem_cons.mp m with rfl | m
    · exact h1
    · exact ih a m
theorem PEs.pa (h : PEs X C as es) : PA X as (seqT (tEs X.K C es)) := by
  induction h with
  | nil => exact pa_nil
  | cons h1 h2 _ ih => exact pa_cons h2 ih (star_cons h1)
theorem PEs.len (h : PEs X C as es) : as.length = es.length := by
  induction h with
  | nil => rfl
  | cons _ _ _ ih => exact congrArg Nat.succ ih
theorem PEs.one {a : Expr} (h : PEs X C [a] es) : ∃ e, es = [e] ∧ noStar a = true ∧ PE X a (tE X.K C e) := by
  cases h with
  | cons h1 h2 h3 => cases h3; exact ⟨_, rfl, h1, h2⟩
theorem PEs.two {a b : Expr} (h : PEs X C [a, b] es) : ∃ e f, es = [e, f] ∧ noStar a = true ∧ PE X a (tE X.K C e) ∧ noStar b = true ∧ PE X b (tE X.K C f) := by
  cases h with
  | cons h1 h2 h3 => obtain ⟨f, rfl, h4, h5⟩ := h3.one; exact ⟨_, f, rfl, h1, h2, h4, h5⟩
theorem PEs.three {a b c : Expr} (h : PEs X C [a, b, c] es) : ∃ e f g, es = [e, f, g] ∧ PE X a (tE X.K C e) ∧ PE X b (tE X.K C f) ∧ PE X c (tE X.K C g) := by
  cases h with
  | cons h1 h2 h3 => obtain ⟨f, g, rfl, _, h4, _, h5⟩ := h3.two; exact ⟨_, f, g, rfl, h2, h4, h5⟩
/-- an operator's value -/
theorem op_of {a : Expr} {t : TE} {o : Op} {rr : List V → Hp → VK → Prop} (h : PE X a t) (ht : ∀ σ H Q, seqT (tEs X.K C es) σ H (fun vs H1 => rr vs H1 Q) → t σ H Q) (hr : OpSound X.K o es.length rr) : PE X a (tE X.K C (.op o es)) :=
  pe_of h (snd_op (sndb_tE es) hr ht) fun i => by simp
end
/-! ### the operators' texts -/
def Bi.nm : Bi → Str
  | .len => "len" | .abs => "abs" | .int => "int" | .str => "str" | .list => "list" | .tuple => "tuple" | .sum => "sum" | .max => "max" | .min => "min" | .all => "all" | .any => "any" | .isi _ => "isinstance" | .max2 => "max" | .min2 => "min" | .sorted => "sorted"
def isGl (Γ : Gs) (x : Str) : Bool := kindIs Γ.scope x .globalImplicit
def notSet : Expr → Bool
  | .Set _ _ _ => false
  | _ => true
def notSlice : Expr → Bool
  | .Slice _ _ _ _ => false
  | _ => true
theorem notSet_marks {e : Expr} (h : notSet e = true) (op : CmpOp) : behindInMarks op e = false := by
  cases e <;> first | rfl | cases h
theorem notSlice_ix {e : Expr} (h : notSlice e = true) : PlainIx e := by
  cases e <;> first | (intro _ _; rfl) | cases h
theorem notSet_folded {e : Expr} (h : notSet e = true) (env : Env) : ∀ x, foldedSetIterable e env x = pure x := by
  cases e <;> first | (intro _; rfl) | cases h
/-- f(..), f no other kind of expression's name -/
def Bi.ar : Bi → Nat → Bool
  | .isi _, _ => false
  | .sorted, _ => false
  | .max2, n => n == 2
  | .min2, n => n == 2
  | _, n => n == 1
def opAst (Γ : Gs) : Op → Expr → Option (List Expr)
  | .bin b, .BinOp l o r _ => if decide (o = b.op) = true then some [l, r] else none
  | .cmp c, .Compare l [o] [r] _ => if (decide (o = c.op) && notSet r) = true then some [l, r] else none
  | .bi (.isi t), .Call (.Name x _) [e, .Name y _] [] _ => if (decide (x = "isinstance") && decide (y = Str.ofString t.nm) && isGl Γ x && isGl Γ y) = true then some [e] else none
  | .bi f, .Call (.Name x _) as [] _ => if (decide (x = f.nm) && isGl Γ x && f.ar as.length) = true then some as else none
  | .ix, .Subscript a b _ => if notSlice b = true then some [a, b] else none
  | .sl false false, .Subscript a (.Slice none none none _) _ => some [a]
  | .sl true false, .Subscript a (.Slice (some l) none none _) _ => some [a, l]
  | .sl false true, .Subscript a (.Slice none (some h) none _) _ => some [a, h]
  | .sl true true, .Subscript a (.Slice (some l) (some h) none _) _ => some [a, l, h]
  | .rev, .Subscript e (.Slice none none (some (.UnaryOp .USub (.Constant (.int 1) _ _) _)) _) _ => some [e]
  | .neg, .UnaryOp .USub e _ => some [e]
  | .meth (.join y), .Call (.Attribute (.Constant (.str z) _ _) x apos) [e] [] cpos => if (decide (x = "join") && decide (y = z) && decide (apos.endLine = cpos.line)) = true then some [e] else none
  | _, _ => none
end MW

namespace MW
open PySem PySem.Spec PyProof.Rows L2
theorem boot_isi : bootBuiltins "isinstance" = some (.builtin "isinstance") := by decide +kernel
theorem boot_abs' : bootBuiltins "abs" = some (.builtin "abs") := by decide +kernel
theorem boot_ty (t : Ty) : bootBuiltins (Str.ofString t.nm) = some (.type t.nm) := by cases t <;> decide +kernel
theorem Good.hu {P : Prg} {n : Nat} {Γ : Gs} {X : Cx} (G : Good P n Γ X) : X.A.units + 65 < cLine := by
  have := G.room.un
  omega
theorem gl_of {P : Prg} {n : Nat} {Γ : Gs} {X : Cx} (G : Good P n Γ X) {x : Str} (h : isGl Γ x = true) : Gl X x := by
  have h1 : Γ.scope.names.lookup x = some .globalImplicit := of_decide_eq_true h
  show X.env.scope.names.lookup x = _
  rw [G.sc]
  exact h1
section
variable {X : Cx} {C : Calls} {K : PySem.W.Frag}
/-- readings by values, one, two, three of them -/
def r1 (r : V → Hp → VK → Prop) : List V → Hp → VK → Prop
  | [x] => r x
  | _ => fun _ _ => False
def r2 (r : R2) : List V → Hp → VK → Prop
  | [x, y] => r x y
  | _ => fun _ _ => False
theorem len1 {α : Type} {l : List α} (h : l.length = 1) : ∃ a, l = [a] := by
  match l, h with
  | [a], _ => exact ⟨a, rfl⟩
theorem len2 {α : Type} {l : List α} (h : l.length = 2) : ∃ a b, l = [a, b] := by
  match l, h with
  | [a, b], _ => exact ⟨a, b, rfl⟩
theorem len3 {α : Type} {l : List α} (h : l.length = 3) : ∃ a b c, l = [a, b, c] := by
  match l, h with
  | [a, b, c], _ => exact ⟨a, b, c, rfl⟩
theorem os_bin {b : Bop} {r : R2} (hr : ∀ (A W : Addr → Prop) (H : Hp) (x y : V) (d e : D) (z : D × Bool) (Q : VK), Ro K A W H x d → Ro K A W H y e → binF b d e = some z → (∀ v H1, Same H H1 → ResO K A H H1 v z → Q v H1) → r x y H Q) : OpSound K (.bin b) 2 (r2 r) := by
  intro A W H vs ds z Q hl hv hF q
  obtain ⟨d, e, rfl⟩ := len2 hl
  obtain ⟨x, y, rfl, h, g⟩ := hv.two
  exact hr A W H x y d e z Q h g hF q
theorem os_cmp {c : Cop} {r : R2} (hr : CmpSound K c r) : OpSound K (.cmp c) 2 (r2 r) := by
  intro A W H vs ds z Q hl hv hF q
  obtain ⟨d, e, rfl⟩ := len2 hl
  obtain ⟨x, y, rfl, h, g⟩ := hv.two
  obtain ⟨k, hk, e1⟩ := Option.bind_eq_some_iff.mp hF
  cases e1
  exact hr A W H x y d e k Q h g hk (q _ _ (Same.refl _) (resO_rp (.bl _)))
theorem os_bi {f : Bi} {n : Nat} {r : List V → Hp → VK → Prop} (hr : ∀ (A W : Addr → Prop) (H : Hp) (vs : List V) (ds : List D) (z : D × Bool) (Q : VK), RoAll K A W H vs ds → biF f ds = some z → (∀ v H1, Same H H1 → ResO K A H H1 v z → Q v H1) → r vs H Q) : OpSound K (.bi f) n r := by
  intro A W H vs ds z Q hl hv hF q
  exact hr A W H vs ds z Q hv hF q
theorem os_isi {t : Ty} : OpSound K (.bi (.isi t)) 1 (r1 fun v H Q => rIsi K [v, .ty t.nm] H Q) := by
  intro A W H vs ds z Q hl hv hF q
  obtain ⟨d, rfl⟩ := len1 hl
  obtain ⟨x, rfl, h⟩ := hv.one
  exact isi_read h hF q
theorem os_ix : OpSound K .ix 2 (r2 (rIx K)) := by
  intro A W H vs ds z Q hl hv hF q
  obtain ⟨d, e, rfl⟩ := len2 hl
  obtain ⟨x, y, rfl, h, g⟩ := hv.two
  exact ix_read h g hF q
def rSlN (K : PySem.W.Frag) : Bool → Bool → List V → Hp → VK → Prop
  | false, false, [x], H, Q => rSl K x none none H Q
  | true, false, [x, y], H, Q => ∃ i, y = .int i ∧ rSl K x (some i) none H Q
  | false, true, [x, y], H, Q => ∃ i, y = .int i ∧ rSl K x none (some i) H Q
  | true, true, [x, y, z], H, Q => ∃ i, y = .int i ∧ ∃ j, z = .int j ∧ rSl K x (some i) (some j) H Q
  | _, _, _, _, _ => False
theorem os_sl (lo hi : Bool) (n : Nat) (hn : n = (if lo = true then 1 else 0) + (if hi = true then 1 else 0) + 1) : OpSound K (.sl lo hi) n (rSlN K lo hi) := by
  subst hn
  intro A W H vs ds z Q hl hv hF q
  cases lo <;> cases hi
  · obtain ⟨d, rfl⟩ := len1 hl
    obtain ⟨x, rfl, h⟩ := hv.one
    exact sl_read h hF q
  · obtain ⟨d, e, rfl⟩ := len2 hl
    obtain ⟨x, y, rfl, h, g⟩ := hv.two
    cases e <;> simp only [opF, reduceCtorEq] at hF
    cases g.int
    exact ⟨_, rfl, sl_read h hF q⟩
  · obtain ⟨d, e, rfl⟩ := len2 hl
    obtain ⟨x, y, rfl, h, g⟩ := hv.two
    cases e <;> simp only [opF, reduceCtorEq] at hF
    cases g.int
    exact ⟨_, rfl, sl_read h hF q⟩
  · obtain ⟨d, e, f, rfl⟩ := len3 hl
    obtain ⟨x, y, w, rfl, h, g, k⟩ := hv.three
    cases e <;> cases f <;> simp only [opF, reduceCtorEq] at hF
    cases g.int
    cases k.int
    exact ⟨_, rfl, _, rfl, sl_read h hF q⟩
def rRevM (K : PySem.W.Frag) : V → Hp → VK → Prop := fun x H Q => (∃ a xs, x = .ref a ∧ SqL K H a xs ∧ ∀ p, H p = none → Q (.ref p) (upd H p (.lst xs.reverse))) ∨
  ∃ a xs, x = .ref a ∧ SqT K H a xs ∧ ∀ p, H p = none → Q (.ref p) (upd H p (.tup xs.reverse))
theorem os_rev : OpSound K .rev 1 (r1 (rRevM K)) := by
  intro A W H vs ds z Q hl hv hF q
  obtain ⟨d, rfl⟩ := len1 hl
  obtain ⟨x, rfl, h⟩ := hv.one
  cases d <;> simp only [opF, reduceCtorEq] at hF
  · cases hF
    obtain ⟨a, xs, rfl, h1, r⟩ := h.lst
    exact .inl ⟨a, xs, rfl, .of h1, fun p np => q _ _ (same_upd np) (resO_new np r.reverse)⟩
  · cases hF
    obtain ⟨a, xs, rfl, h1, r⟩ := h.tup
    exact .inr ⟨a, xs, rfl, h1, fun p np => q _ _ (same_upd np) (resO_tup np r.reverse)⟩
theorem os_neg : OpSound K .neg 1 (r1 (rU fun i => .int (-i))) := by
  intro A W H vs ds z Q hl hv hF q
  obtain ⟨d, rfl⟩ := len1 hl
  obtain ⟨x, rfl, h⟩ := hv.one
  cases d <;> simp only [opF, reduceCtorEq] at hF
  cases hF
  cases h.int
  exact ⟨_, rfl, q _ _ (Same.refl _) (resO_rp (.int _))⟩
def rJoin (K : PySem.W.Frag) : V → List V → Hp → VK → Prop := fun x xs H Q => ∃ a p, ∃ ys : List Str, x = .str a ∧ xs = [.ref p] ∧ (SqL K H p (ys.map V.str) ∨ SqT K H p (ys.map V.str)) ∧ (ys.map (·.length)).sum + ys.length * a.length ≤ sizeLine ∧ Q (.str (Txt.join a ys)) H
theorem os_join {zs : Str} : OpSound K (.meth (.join zs)) 1 (r1 fun y H Q => rJoin K (.str zs) [y] H Q) := by
  intro A W H vs ds z Q hl hv hF q
  obtain ⟨e, rfl⟩ := len1 hl
  obtain ⟨y, rfl, g⟩ := hv.one
  have go : ∀ {es : List PyData} {p : Addr} {xs : List V}, y = .ref p → (SqL K H p xs ∨ SqT K H p xs) → RpAll K A H xs es → ((strsOf es).bind fun ys => if (PyData.strOk zs && decide ((ys.map (·.length)).sum + ys.length * zs.length ≤ lim)) = true then some1 (.str (Txt.join zs ys)) else none) = some z → rJoin K (.str zs) [y] H Q := by
    intro es p xs hy hp ra hF
    subst hy
    obtain ⟨ys, e1, hF⟩ := Option.bind_eq_some_iff.mp hF
    obtain ⟨rfl, oks⟩ := strs_of ra e1
    split at hF
    · rename_i hc
      obtain ⟨ok, hc⟩ := Bool.and_eq_true_iff.mp hc
      cases hF
      exact ⟨zs, p, ys, rfl, rfl, hp, of_decide_eq_true hc, q _ _ (Same.refl _) (resO_rp (.str _ (strOk_join ok oks)))⟩
    · cases hF
  cases e <;> simp only [opF, mtF, reduceCtorEq] at hF
  · obtain ⟨p, xs, rfl, h1, ra⟩ := g.lst
    exact go rfl (.inl (.of h1)) ra hF
  · obtain ⟨p, xs, rfl, h1, ra⟩ := g.tup
    exact go rfl (.inr h1) ra hF
end
end MW

namespace MW
open PySem PySem.Spec PyProof.Rows L2
/-- a text beside an expression: as a value, as a test -/
def Sn (X : Cx) (C : Calls) (a : Expr) (e : E) : Prop := PE X a (tE X.K C e) ∧ PT X a (tT X.K C e)
section
variable {P : Prg} {n : Nat} {Γ : Gs} {X : Cx} {C : Calls} {as : List Expr} {es : List E} {a : Expr}
theorem sn_val {e : E} (h : PE X a (tE X.K C e)) (ht : ∀ whole, isTrue a X.env whole = (do let v ← whole; standAt a.pos; holding [v] (truthy v)) := by intro _; rfl) : Sn X C a e := ⟨h, pt_of (pt_val h ht) (sndt_val (snd_tE e))⟩
theorem callB_of {f : Bi} {id x : Str} {p pos : Pos} {v : Value} (G : Good P n Γ X) (hx : x = f.nm) (hg : isGl Γ x = true) (hl : as.length = 1 ∨ as.length = 2) (h : PEs X C as es) (hv : (∃ i, v = .builtin i ∧ bootBuiltins f.nm = some (.builtin i)) ∨ ∃ i, v = .type i ∧ bootBuiltins f.nm = some (.type i)) (hm : f.nm ∈ bltns) (hn : f.nm ≠ "__name__") (hdb : (f.nm == ("__debug__" : Str)) = false)
    (hc : CallOk X v (biF f)) : Sn X C (.Call (.Name x p) as [] pos) (.op (.bi f) es) := by
  subst hx
  obtain ⟨r, h1, h2⟩ := hc
  have o : OpSound X.K (.bi f) es.length r := os_bi h2
  match as, hl with
  | a :: as, _ =>
    have h3 := h.ns
    have e1 : starEach (a :: as) X.env = (false, eval a X.env) :: starEach as X.env := star_cons (h3 a List.mem_cons_self)
    have e2 : (backTo pos (starEach as X.env)).any (·.1) = false := star_any fun b m => h3 b (List.mem_cons_of_mem _ m)
    refine sn_val ?_
    rcases hv with ⟨i, rfl, hb⟩ | ⟨i, rfl, hb⟩
    · exact op_of (pe_callB h1 (gl_of G hg) (G.free _ hm) hb h.pa hn hdb e1 e2) (fun σ H Q h => h) o
    · exact op_of (pe_callTy h1 (gl_of G hg) (G.free _ hm) hb h.pa hn hdb e1 e2) (fun σ H Q h => h) o
theorem ar_len {f : Bi} {m : Nat} (h : f.ar m = true) : m = 1 ∨ m = 2 := by
  cases f <;> simp [Bi.ar] at h <;> omega
theorem bi_sn {f : Bi} {x : Str} {p pos : Pos} (G : Good P n Γ X) (hx : x = f.nm) (hg : isGl Γ x = true) (hl : f.ar as.length = true) (h : PEs X C as es) : Sn X C (.Call (.Name x p) as [] pos) (.op (.bi f) es) := by
  have l := ar_len hl
  cases f with
  | len => exact callB_of (id := "") G hx hg l h (.inl ⟨_, rfl, boot_len⟩) (by decide) (by decide) (by decide) ca_len
  | abs => exact callB_of (id := "") G hx hg l h (.inl ⟨_, rfl, boot_abs'⟩) (by decide) (by decide) (by decide) ca_abs
  | int => exact callB_of (id := "") G hx hg l h (.inr ⟨_, rfl, boot_ty .int⟩) (by decide) (by decide) (by decide) ca_int
  | str => exact callB_of (id := "") G hx hg l h (.inr ⟨_, rfl, boot_ty .str⟩) (by decide) (by decide) (by decide) ca_str
  | list => exact callB_of (id := "") G hx hg l h (.inr ⟨_, rfl, boot_ty .list⟩) (by decide) (by decide) (by decide) ca_list
  | tuple => exact callB_of (id := "") G hx hg l h (.inr ⟨_, rfl, boot_ty .tuple⟩) (by decide) (by decide) (by decide) ca_tuple
  | sum => exact callB_of (id := "") G hx hg l h (.inl ⟨_, rfl, boot_sum⟩) (by decide) (by decide) (by decide) (ca_sum G.calm)
  | max => exact callB_of (id := "") G hx hg l h (.inl ⟨_, rfl, boot_max⟩) (by decide) (by decide) (by decide) (ca_max G.calm)
  | min => exact callB_of (id := "") G hx hg l h (.inl ⟨_, rfl, boot_min⟩) (by decide) (by decide) (by decide) (ca_min G.calm)
  | all => exact callB_of (id := "") G hx hg l h (.inl ⟨_, rfl, boot_all⟩) (by decide) (by decide) (by decide) (ca_all G.calm)
  | any => exact callB_of (id := "") G hx hg l h (.inl ⟨_, rfl, boot_any⟩) (by decide) (by decide) (by decide) (ca_any G.calm)
  | max2 => exact callB_of (id := "") G hx hg l h (.inl ⟨_, rfl, boot_max⟩) (by decide) (by decide) (by decide) (ca_max2 G.calm)
  | min2 => exact callB_of (id := "") G hx hg l h (.inl ⟨_, rfl, boot_min⟩) (by decide) (by decide) (by decide) (ca_min2 G.calm)
  | isi t => cases hl
  | sorted => cases hl
theorem cmp_sound (G : Good P n Γ X) (c : Cop) : ∃ r : R2, OpR X (compareOp c.op) r ∧ CmpSound X.K c r := cmp_ok G.hu c
theorem sl_int {l h : D} {d : D} {z : D × Bool} (hF : opF (.sl true true) [d, l, h] = some z) : ∃ i j, l = .int i ∧ h = .int j := by
  cases l <;> cases h <;> simp only [opF, reduceCtorEq] at hF
  exact ⟨_, _, rfl, rfl⟩
theorem snd_sl3 {e l h : E} : SndE X.K C (tSl (rSl X.K) (tE X.K C e) (tPart (tE X.K C l)) (tPart (tE X.K C h))) (.op (.sl true true) [e, l, h]) := by
  intro F ρ σ H r ρ1 he R f Q q
  simp only [ev] at he
  obtain ⟨⟨ds, ρ2, B⟩, e1, he⟩ := Option.bind_eq_some_iff.mp he
  obtain ⟨z, e2, he⟩ := Option.bind_eq_some_iff.mp he
  simp only [Option.some.injEq, Prod.mk.injEq] at he
  obtain ⟨rfl, rfl⟩ := he
  rw [evbs_cons] at e1
  obtain ⟨⟨d, ρa, Ba⟩, a1, e1⟩ := Option.bind_eq_some_iff.mp e1
  obtain ⟨⟨ds', ρ2', B'⟩, e3, e1⟩ := Option.bind_eq_some_iff.mp e1
  simp only [Option.some.injEq, Prod.mk.injEq] at e1
  obtain ⟨rfl, rfl, rfl⟩ := e1
  rw [evbs_cons] at e3
  obtain ⟨⟨dl, ρb, Bb⟩, a2, e3⟩ := Option.bind_eq_some_iff.mp e3
  obtain ⟨⟨ds', ρ2', B'⟩, e4, e3⟩ := Option.bind_eq_some_iff.mp e3
  simp only [Option.some.injEq, Prod.mk.injEq] at e3
  obtain ⟨rfl, rfl, rfl⟩ := e3
  rw [evbs_cons] at e4
  obtain ⟨⟨dh, ρc, Bc⟩, a3, e4⟩ := Option.bind_eq_some_iff.mp e4
  obtain ⟨⟨ds', ρ2', B'⟩, e5, e4⟩ := Option.bind_eq_some_iff.mp e4
  simp only [Option.some.injEq, Prod.mk.injEq] at e4
  obtain ⟨rfl, rfl, rfl⟩ := e4
  simp only [evbs, Option.some.injEq, Prod.mk.injEq] at e5
  obtain ⟨rfl, rfl, rfl⟩ := e5
  obtain ⟨i, j, rfl, rfl⟩ := sl_int e2
  refine snd_b (snd_tE e) (nm_tE e) a1 R f _ fun v H1 P1 r1 l1 => ?_
  refine snd_b (snd_tE l) (nm_tE l) a2 P1.rel (P1.fk f) _ fun u H2 P2 r2 l2 => ?_
  refine ⟨i, r2.int, ?_⟩
  refine snd_b (snd_tE h) (nm_tE h) a3 P2.rel ((P1.trans P2).fk f) _ fun w H3 P3 r3 l3 => ?_
  refine ⟨j, r3.int, ?_⟩
  have P := (P1.trans P2).trans P3
  have l0 : LentOk ρb σ H2 [] := fun _ h => nomatch h
  have l4 : LentOk ρb σ H2 (Bc ++ []) := l3.append l0
  have l5 : LentOk ρa σ H1 (Bb ++ (Bc ++ [])) := l2.append (l4.back P2)
  have l : LentOk ρ σ H (Ba ++ (Bb ++ (Bc ++ []))) := l1.append (l5.back P1)
  have r1' := (r1.post P2).post P3
  refine sl_read r1' e2 fun v H4 s ro2 => ?_
  obtain ⟨P2, em⟩ := P.unlend l
  exact q v H4 (P2.trans (.same P2.rel s)) (Res.ofO P2 (fun b => (em b).mp) s ro2)
theorem sn_bin {b : Bop} {l r : Expr} {pos : Pos} (h : PEs X C [l, r] es) : Sn X C (.BinOp l b.op r pos) (.op (.bin b) es) := by
  obtain ⟨e, f, rfl, _, h1, _, h2⟩ := h.two
  obtain ⟨r, h3, h4⟩ := bin_ok (X := X) b
  exact sn_val (op_of (pe_op h3 h1 h2) (rr := r2 r) (fun σ H Q h => h) (os_bin h4))
theorem sn_cmp {c : Cop} {l r : Expr} {pos : Pos} (G : Good P n Γ X) (hs : notSet r = true) (h : PEs X C [l, r] es) : Sn X C (.Compare l [c.op] [r] pos) (.op (.cmp c) es) := by
  obtain ⟨e, f, rfl, _, h1, _, h2⟩ := h.two
  obtain ⟨r, h3, h4⟩ := cmp_sound G c
  exact ⟨op_of (pe_cmpR h3 h1 h2 (notSet_marks hs _)) (rr := r2 r) (fun σ H Q h => h) (os_cmp h4), pt_of (pt_cmpR h3 h1 h2 (notSet_marks hs _)) (sndt_test (snd_op (sndb_tE [e, f]) (os_cmp h4) fun σ H Q h => h))⟩
theorem ty_in (t : Ty) : Str.ofString t.nm ∈ bltns := by cases t <;> decide
theorem sn_isi {t : Ty} {a : Expr} {p1 p2 pos : Pos} (G : Good P n Γ X) (g1 : isGl Γ "isinstance" = true) (g2 : isGl Γ (Str.ofString t.nm) = true) (h : PEs X C [a] es) : Sn X C (.Call (.Name "isinstance" p1) [a, .Name (Str.ofString t.nm) p2] [] pos) (.op (.bi (.isi t)) es) := by
  obtain ⟨e, rfl, n1, h1⟩ := h.one
  have ht : PE X (.Name (Str.ofString t.nm) p2) (tC (.ty t.nm)) := pe_bltn (gl_of G g2) (G.free _ (ty_in t)) (boot_ty t) rfl (by cases t <;> decide) (by cases t <;> decide)
  refine sn_val (op_of (rr := r1 fun v H Q => rIsi X.K [v, .ty t.nm] H Q) (pe_callB (call_isi (X := X)) (gl_of G g1) (G.free _ (by decide)) boot_isi (pa_cons h1 (pa_cons ht pa_nil (star_cons rfl)) (star_cons n1)) (by decide) (by decide) (star_cons n1) rfl) ?_ os_isi)
  exact fun σ H Q h => h
theorem sn_join {z : Str} {k : Nat} {a : Expr} {p apos cpos : Pos} (hl : apos.endLine = cpos.line) (h : PEs X C [a] es) : Sn X C (.Call (.Attribute (.Constant (.str z) k p) "join" apos) [a] [] cpos) (.op (.meth (.join z)) es) := by
  obtain ⟨e, rfl, n2, h2⟩ := h.one
  refine sn_val (op_of (rr := r1 fun y H Q => rJoin X.K (.str z) [y] H Q) (pe_join (pe_str (X := X)) h2 (star_cons n2) rfl (beq_iff_eq.mpr hl)) (fun σ H Q h => ?_) os_join)
  exact ⟨⟨z, rfl⟩, h⟩
theorem op_sn {o : Op} (G : Good P n Γ X) (ha : opAst Γ o a = some as) (h : PEs X C as es) : Sn X C a (.op o es) := by
  unfold opAst at ha
  split at ha
  · split at ha
    · rename_i hb
      cases ha
      cases of_decide_eq_true hb
      exact sn_bin h
    · cases ha
  · split at ha
    · rename_i hb
      cases ha
      obtain ⟨hb, hs⟩ := Bool.and_eq_true_iff.mp hb
      cases of_decide_eq_true hb
      exact sn_cmp G hs h
    · cases ha
  · split at ha
    · rename_i hb
      cases ha
      simp only [Bool.and_eq_true, decide_eq_true_eq] at hb
      obtain ⟨⟨⟨hx, hy⟩, g1⟩, g2⟩ := hb
      subst hx hy
      exact sn_isi G g1 g2 h
    · cases ha
  · split at ha
    · rename_i hb
      cases ha
      simp only [Bool.and_eq_true, decide_eq_true_eq] at hb
      obtain ⟨⟨hx, g1⟩, hl⟩ := hb
      exact bi_sn G hx g1 hl h
    · cases ha
  · split at ha
    · rename_i hb
      cases ha
      obtain ⟨e, f, rfl, _, h1, _, h2⟩ := h.two
      exact sn_val (op_of (rr := r2 (rIx X.K)) (pe_ix ix_seq h1 h2 (notSlice_ix hb)) (fun σ H Q h => h) os_ix)
    · cases ha
  · cases ha
    obtain ⟨e, rfl, _, h1⟩ := h.one
    exact sn_val (op_of (rr := rSlN X.K false false) (pe_slice sl_all h1 po_none po_none) (fun σ H Q h => h) (os_sl _ _ _ rfl))
  · cases ha
    obtain ⟨e, f, rfl, _, h1, _, h2⟩ := h.two
    exact sn_val (op_of (rr := rSlN X.K true false) (pe_slice sl_all h1 (po_some h2) po_none) (fun σ H Q h => h) (os_sl _ _ _ rfl))
  · cases ha
    obtain ⟨e, f, rfl, _, h1, _, h2⟩ := h.two
    exact sn_val (op_of (rr := rSlN X.K false true) (pe_slice sl_all h1 po_none (po_some h2)) (fun σ H Q h => h) (os_sl _ _ _ rfl))
  · cases ha
    obtain ⟨e, f, g, rfl, h1, h2, h3⟩ := h.three
    exact sn_val (pe_of (pe_slice sl_all h1 (po_some h2) (po_some h3)) snd_sl3 fun i => by simp)
  · cases ha
    obtain ⟨e, rfl, _, h1⟩ := h.one
    exact sn_val (op_of (rr := r1 (rRevM X.K)) (pe_revM h1) (fun σ H Q h => h) os_rev)
  · cases ha
    obtain ⟨e, rfl, _, h1⟩ := h.one
    exact sn_val (op_of (rr := r1 (rU fun i => .int (-i))) (pe_un un_neg h1) (fun σ H Q h => h) os_neg)
  · split at ha
    · rename_i hb
      cases ha
      simp only [Bool.and_eq_true, decide_eq_true_eq] at hb
      obtain ⟨⟨hx, hy⟩, hl⟩ := hb
      subst hx hy
      exact sn_join hl h
    · cases ha
  · cases ha
end
end MW

namespace MW
open PySem PySem.Spec PyProof.Rows L2
/-! ### the check: a text is written by an expression -/
def constB : D → Const → Bool
  | .none, .none => true
  | .bool a, .bool b => a == b
  | .int i, .int j => decide (i = j)
  | .str x, .str y => decide (x = y) && PyData.strOk x
  | _, _ => false
def restB (op : BoolOp) (y : Expr) (r : List Expr) (pos : Pos) : Expr := match r with
  | [] => y
  | _ :: _ => .BoolOp op (y :: r) pos
def locB (Γ : Gs) (x : Str) : Bool := kindIs Γ.scope x .local || (kindIs Γ.scope x .cell && Γ.st x)
mutual
def chkTg : Tg → Gs → Expr → Bool
  | .n i, Γ, .Name x _ => decide (Γ.N[i]? = some x) && locB Γ x
  | .t ts, Γ, .Tuple as _ _ => chkTgs ts Γ as
  | _, _, _ => false
def chkTgs : List Tg → Gs → List Expr → Bool
  | [], _, [] => true
  | t :: ts, Γ, a :: as => noStar a && chkTg t Γ a && chkTgs ts Γ as
  | _, _, _ => false
end
def isTup : Expr → Bool
  | .Tuple _ _ _ => true
  | _ => false
def srcAst (Γ : Gs) (tg : Expr) : Sk → Expr → Option (List Expr)
  | .any, e => if notSet e = true then some [e] else none
  | .rng1, .Call (.Name x _) [a] [] _ => if (decide (x = "range") && isGl Γ x) = true then some [a] else none
  | .rng2, .Call (.Name x _) [a, b] [] _ => if (decide (x = "range") && isGl Γ x) = true then some [a, b] else none
  | .zip, .Call (.Name x _) [a, b] [] _ => if (decide (x = "zip") && isGl Γ x && isTup tg) = true then some [a, b] else none
  | .enum, .Call (.Name x _) [a] [] _ => if (decide (x = "enumerate") && isGl Γ x && isTup tg) = true then some [a] else none
  | _, _ => none
def ownN (Γ : Gs) (own : List Nat) : List (Str × Nat) := own.map fun i => (Γ.N.getD i Str.empty, i)
def blkG (Γ : Gs) (scope : Scope) : Gs := ⟨Γ.N, relS scope Γ.scope, fun x => scope.names.lookup x == some .cell⟩
def fnIs (P : Prg) (f : Nat) (x : Str) : Bool := match P.fns[f]? with
  | some g => decide (g.name = x)
  | none => false
def glIs (P : Prg) (k : Nat) (x : Str) : Bool := match P.globs[k]? with
  | some g => decide (g.1 = x)
  | none => false
mutual
def chkE (P : Prg) : E → Gs → Expr → Bool
  | .c d, _, .Constant k _ _ => constB d k
  | .v i, Γ, .Name x _ => decide (Γ.N[i]? = some x) && visB Γ.scope x && plainNm x
  | .g k, Γ, .Name x _ => glIs P k x && isGl Γ x && plainNm x
  | .tup es, Γ, .Tuple as _ _ => decide (es.length ≤ 1000) && chkEs P es Γ as
  | .lst es, Γ, .List as _ => decide (es.length ≤ 1000) && chkEs P es Γ as
  | .op o es, Γ, a => (match opAst Γ o a with
    | some as => chkEs P es Γ as
    | none => false)
  | .and e f, Γ, .BoolOp .And (x :: y :: r) pos => chkE P e Γ x && chkE P f Γ (restB .And y r pos)
  | .or e f, Γ, .BoolOp .Or (x :: y :: r) pos => chkE P e Γ x && chkE P f Γ (restB .Or y r pos)
  | .not e, Γ, .UnaryOp .Not a _ => chkE P e Γ a
  | .ite c e f, Γ, .IfExp t b o _ => chkE P c Γ t && chkE P e Γ b && chkE P f Γ o
  | .chain o p e f g, Γ, .Compare a [o1, o2] [b, c] _ => decide (o1 = o.op) && decide (o2 = p.op) && notSet c && chkE P e Γ a && chkE P f Γ b && chkE P g Γ c
  | .call f es, Γ, .Call (.Name x _) as [] _ => fnIs P f x && isGl Γ x && plainNm x && decide (1 ≤ es.length) && chkEs P es Γ as
  | .comp elt tg sk ses cond own, Γ, .ListComp elt' [⟨tg', iter, ifs, a⟩] scope _ => decide (a = 0) && notSet iter && blkC Γ.N Γ.scope scope (ownN Γ own) && chkTg tg (blkG Γ scope) tg' && (slotsT tg).all (own.contains ·) &&
      chkE P elt (blkG Γ scope) elt' && decide (cond.length ≤ 1) && chkEs P cond (blkG Γ scope) ifs && (match srcAst Γ tg' sk iter with
    | some as => chkEs P ses Γ as
    | none => false)
  | .pop i, Γ, .Call (.Attribute (.Name x _) m apos) [] [] cpos => decide (Γ.N[i]? = some x) && visB Γ.scope x && plainNm x && decide (m = "pop") && decide (apos.endLine = cpos.line)
  | _, _, _ => false
def chkEs (P : Prg) : List E → Gs → List Expr → Bool
  | [], _, [] => true
  | e :: es, Γ, a :: as => noStar a && chkE P e Γ a && chkEs P es Γ as
  | _, _, _ => false
end
inductive Sns (X : Cx) (C : Calls) : List Expr → List E → Prop
  | nil : Sns X C [] []
  | cons {a : Expr} {as : List Expr} {e : E} {es : List E} : noStar a = true → Sn X C a e → Sns X C as es → Sns X C (a :: as) (e :: es)
section
variable {P : Prg} {n : Nat} {Γ : Gs} {X : Cx} {C : Calls} {as : List Expr} {es : List E} {a : Expr}
theorem Sns.pes (h : Sns X C as es) : PEs X C as es := by
  induction h with
  | nil => exact .nil
  | cons h1 h2 _ ih => exact .cons h1 h2.1 ih
theorem kindIs_ok {sc : Scope} {x : Str} {k : NameKind} (h : kindIs sc x k = true) : sc.names.lookup x = some k := of_decide_eq_true h
theorem vis_ok (G : Good P n Γ X) {x : Str} (h : visB Γ.scope x = true) : Vis X.env.scope x := by
  rw [G.sc]
  unfold visB at h
  rcases (Bool.or_eq_true_iff.mp h) with h | h
  · exact .inl (kindIs_ok h)
  · rcases (Bool.or_eq_true_iff.mp h) with h | h
    · exact .inr (.inl (kindIs_ok h))
    · exact .inr (.inr (kindIs_ok h))
theorem plainNm_ok {x : Str} (h : plainNm x = true) : (x == ("__debug__" : Str)) = false ∧ (x == ("__classdict__" : Str)) = false := by
  unfold plainNm at h
  simp only [Bool.and_eq_true, Bool.not_eq_true'] at h
  exact ⟨h.1.1, h.1.2⟩
theorem name_pe (G : Good P n Γ X) {x : Str} {i : Nat} {pos : Pos} (h1 : Γ.N[i]? = some x) (h2 : visB Γ.scope x = true) (h3 : plainNm x = true) : PE X (.Name x pos) (tVar i) :=
  pe_var (by rw [G.hN]; exact h1) (vis_ok G h2) (plainNm_ok h3).1 (plainNm_ok h3).2
theorem loc_ok (G : Good P n Γ X) {x : Str} (h : locB Γ x = true) : Loc X.env.scope x ∧ (X.fn x = true ∨ X.env.scope.names.lookup x = some .local) := by
  rw [G.sc]
  unfold locB at h
  rcases (Bool.or_eq_true_iff.mp h) with h | h
  · exact ⟨.inl (kindIs_ok h), .inr (kindIs_ok h)⟩
  · obtain ⟨h1, h2⟩ := Bool.and_eq_true_iff.mp h
    exact ⟨.inr (kindIs_ok h1), .inl (G.fn x h2)⟩
theorem assign_cons {e : Expr} {es : List Expr} {env : Env} (h : noStar e = true) : (assignEach (e :: es) env) = (false, assign e env) :: assignEach es env := by
  cases e <;> first | rfl | cases h
mutual
theorem tg_ok (G : Good P n Γ X) : ∀ (tg : Tg) (a : Expr), chkTg tg Γ a = true → PG X a (tgT X.K tg)
  | .n i, a, h => by
    cases a <;> simp only [chkTg, Bool.false_eq_true] at h
    obtain ⟨h1, h2⟩ := Bool.and_eq_true_iff.mp h
    obtain ⟨l1, l2⟩ := loc_ok G h2
    exact pg_name (by rw [G.hN]; exact G.nd) (by rw [G.hN]; exact of_decide_eq_true h1) l1 l2
  | .t ts, a, h => by
    cases a <;> simp only [chkTg, Bool.false_eq_true] at h
    obtain ⟨h1, h2, h3⟩ := tgs_ok G ts _ h
    exact pg_tup G.calm h1 h2 h3
theorem tgs_ok (G : Good P n Γ X) : ∀ (ts : List Tg) (as : List Expr), chkTgs ts Γ as = true → PGs X as (tgTs X.K ts) ∧ (assignEach as X.env).length = ts.length ∧ (assignEach as X.env).findIdx? (·.1) = none
  | [], [], _ => ⟨pgs_nil, rfl, rfl⟩
  | [], _ :: _, h => by simp [chkTgs] at h
  | _ :: _, [], h => by simp [chkTgs] at h
  | t :: ts, a :: as, h => by
    simp only [chkTgs, Bool.and_eq_true] at h
    obtain ⟨⟨h1, h2⟩, h3⟩ := h
    obtain ⟨g1, g2, g3⟩ := tgs_ok G ts as h3
    have e := assign_cons (es := as) (env := X.env) h1
    refine ⟨pgs_cons (tg_ok G t a h2) g1 (by rw [e]; rfl), by rw [e, List.length_cons, g2]; rfl, ?_⟩
    rw [e, List.findIdx?_cons]
    simp only [Bool.false_eq_true, if_false, g3]
    rfl
end
theorem src_ok (G : Good P n Γ X) {tg iter : Expr} {sk : Sk} (h : srcAst Γ tg sk iter = some as) (hs : PEs X C as es) : ∃ wi : TI, PI X tg iter wi ∧ ∀ σ H R, seqT (tEs X.K C es) σ H (fun vs H1 => SrcV X.K sk vs H1 R) → wi σ H R := by
  unfold srcAst at h
  split at h
  · split at h
    · cases h
      obtain ⟨e, rfl, _, h1⟩ := hs.one
      exact ⟨_, pi_any h1, fun σ H R h => h⟩
    · cases h
  · split at h
    · rename_i hb
      cases h
      obtain ⟨hx, g1⟩ := Bool.and_eq_true_iff.mp hb
      cases of_decide_eq_true hx
      have p := hs.pa
      obtain ⟨e, rfl, n1, h1⟩ := hs.one
      exact ⟨_, pi_range1 (gl_of G g1) (G.free _ (by decide)) p (star_cons n1), fun σ H R h => h⟩
    · cases h
  · split at h
    · rename_i hb
      cases h
      obtain ⟨hx, g1⟩ := Bool.and_eq_true_iff.mp hb
      cases of_decide_eq_true hx
      have p := hs.pa
      obtain ⟨e, f, rfl, n1, h1, n2, h2⟩ := hs.two
      exact ⟨_, pi_range2 (gl_of G g1) (G.free _ (by decide)) p (by rw [star_cons n1, star_cons n2]; rfl) (star_cons n2), fun σ H R h => h⟩
    · cases h
  · split at h
    · rename_i hb
      cases h
      simp only [Bool.and_eq_true, decide_eq_true_eq] at hb
      obtain ⟨⟨hx, g1⟩, ht⟩ := hb
      subst hx
      have p := hs.pa
      obtain ⟨e, f, rfl, n1, h1, n2, h2⟩ := hs.two
      cases tg <;> simp only [isTup, Bool.false_eq_true] at ht
      exact ⟨_, RZ.pi_zipA (gl_of G g1) (G.free _ (by decide)) p (star_cons n1) (star_any (es := [_]) fun b m => by rw [List.mem_singleton.mp m]; exact n2), fun σ H R h => h⟩
    · cases h
  · split at h
    · rename_i hb
      cases h
      simp only [Bool.and_eq_true, decide_eq_true_eq] at hb
      obtain ⟨⟨hx, g1⟩, ht⟩ := hb
      subst hx
      have p := hs.pa
      obtain ⟨e, rfl, n1, h1⟩ := hs.one
      cases tg <;> simp only [isTup, Bool.false_eq_true] at ht
      exact ⟨_, pi_enum (gl_of G g1) (G.free _ (by decide)) p (star_cons n1), fun σ H R h => h⟩
    · cases h
  · cases h
end
end MW

namespace MW
open PySem PySem.Spec PyProof.Rows L2
section
variable {P : Prg} {n : Nat} {Γ : Gs} {X : Cx} {as : List Expr} {es : List E} {a : Expr}
theorem Good.blk {C' : Addr} {cl : List (Str × Addr)} {s : Shared} {H : Hp} {fp : List Addr} {scope : Scope} (G : Good P n Γ X) (hk : scope.kind = .function) : Good P n (blkG Γ scope) (X.blk s H scope (compEnvC scope cl C' X.env) fp) where
  hN := G.hN
  nd := G.nd
  sc := by
    show relS scope X.env.scope = relS scope Γ.scope
    rw [G.sc]
  kd := hk
  fn := fun x h => h
  calm := G.calm
  xe := rfl
  room := G.room
  fns := G.fns
  globs := G.globs
  free := G.free
theorem ownN_snd {own : List Nat} : (ownN Γ own).map (·.2) = own := by
  unfold ownN
  rw [List.map_map]
  exact List.map_id' own
theorem boolPW {op : BoolOp} {vs : List Expr} {pos : Pos} {t : TT} (h : PT X (.BoolOp op vs pos) t) : PW X (.BoolOp op vs pos) t := ⟨fun wh pins s σ H Q I q => h.run pins s σ H Q I q⟩
theorem rest_ok {C : Calls} {op : BoolOp} {y : Expr} {r : List Expr} {pos : Pos} {e : E} (h : Sn X C (restB op y r pos) e) : PE X (.BoolOp op (y :: r) pos) (tE X.K C e) ∧ PW X (.BoolOp op (y :: r) pos) (tT X.K C e) := by
  cases r with
  | nil =>
    refine ⟨pe_one h.1, ?_⟩
    cases op
    · exact pw_and1 h.2
    · exact pw_or1 h.2
  | cons z r => exact ⟨h.1, boolPW h.2⟩
theorem pt_ifExp {c a b : Expr} {tc ta tb : TT} {pos : Pos} (hc : PT X c tc) (ha : PT X a ta) (hb : PT X b tb) : PT X (.IfExp c a b pos) (fun σ H Q => tc σ H fun k H1 => if k = true then ta σ H1 Q else tb σ H1 Q) := by
  refine ⟨fun pins s σ H Q I h => ?_⟩
  refine isTrue_IfExp (thn (hc.run pins s σ H _ I h) fun k s1 ⟨H1, I1, q1⟩ => ?_)
  cases k with
  | true => exact ha.run pins s1 σ H1 Q I1 q1
  | false => exact hb.run pins s1 σ H1 Q I1 q1
theorem const_ok {C : Calls} {d : D} {k : Const} {j : Nat} {pos : Pos} (h : constB d k = true) : Sn X C (.Constant k j pos) (.c d) := by
  unfold constB at h
  split at h
  · exact sn_val (pe_of pe_non (snd_c fun A H => .non) fun i => by simp)
  · cases eq_of_beq h
    exact sn_val (pe_of pe_bl (snd_c fun A H => .bl _) fun i => by simp)
  · cases of_decide_eq_true h
    exact sn_val (pe_of pe_int (snd_c fun A H => .int _) fun i => by simp)
  · obtain ⟨h1, h2⟩ := Bool.and_eq_true_iff.mp h
    cases of_decide_eq_true h1
    exact sn_val (pe_of pe_str (snd_c fun A H => .str _ h2) fun i => by simp)
  · cases h
theorem spR_len {K : PySem.W.Frag} {modes : List Bool} {run : List D → Option ((D × Bool) × List D)} {vs : List V} {H : Hp} {Q : VK} {E' : XK} (h : spR K modes run vs H Q E') : vs.length = modes.length := by
  obtain ⟨_, _, _, _, _, h, _⟩ := h
  exact h
mutual
theorem chk_ok : ∀ (e : E) (Γ : Gs) (X : Cx) (a : Expr), Good P n Γ X → chkE P e Γ a = true → Sn X (P.cs n) a e
  | .c d, Γ, X, a, G, h => by
    cases a <;> simp only [chkE, Bool.false_eq_true] at h
    exact const_ok h
  | .v i, Γ, X, a, G, h => by
    cases a <;> simp only [chkE, Bool.false_eq_true] at h
    simp only [Bool.and_eq_true, decide_eq_true_eq] at h
    exact sn_val (name_pe G h.1.1 h.1.2 h.2)
  | .g k, Γ, X, a, G, h => by
    cases a <;> simp only [chkE, Bool.false_eq_true] at h
    simp only [Bool.and_eq_true] at h
    obtain ⟨⟨h1, h2⟩, h3⟩ := h
    unfold glIs at h1
    split at h1
    · rename_i g hg
      cases of_decide_eq_true h1
      obtain ⟨v, u, e1, e2, e3⟩ := G.globs k g.1 g.2 hg
      refine sn_val (pe_of (pe_glob (gl_of G h2) e1 e2 (plainNm_ok h3).1) (snd_g fun A H => ?_) fun i => by simp)
      have : (P.cs n).glob k = g.2 := by
        show Prg.glob P k = _
        unfold Prg.glob
        rw [hg]
      rw [this]
      exact e3 A H
    · cases h1
  | .tup es, Γ, X, a, G, h => by
    cases a <;> simp only [chkE, Bool.false_eq_true] at h
    simp only [Bool.and_eq_true, decide_eq_true_eq] at h
    have hs := (chks_ok es Γ X _ G h.2).pes
    exact sn_val (pe_of (pe_tup hs.pa) (snd_tup (snds_tE es) (Nat.le_trans h.1 (by decide)) (tEs_len es)) fun i => by simp)
  | .lst es, Γ, X, a, G, h => by
    cases a <;> simp only [chkE, Bool.false_eq_true] at h
    simp only [Bool.and_eq_true, decide_eq_true_eq] at h
    have hs := (chks_ok es Γ X _ G h.2).pes
    exact sn_val (pe_of (pe_lst hs.pa) (snd_lst (snds_tE es) (Nat.le_trans h.1 (by decide))) fun i => by simp)
  | .op o es, Γ, X, a, G, h => by
    simp only [chkE] at h
    split at h
    · rename_i as ha
      exact op_sn G ha (chks_ok es Γ X as G h).pes
    · cases h
  | .and e f, Γ, X, a, G, h => by
    unfold chkE at h
    split at h
    all_goals first | (simp at *; done) | skip
    rename_i he
    cases he
    obtain ⟨h1, h2⟩ := Bool.and_eq_true_iff.mp h
    have s1 := chk_ok e _ X _ G h1
    obtain ⟨p1, p2⟩ := rest_ok (chk_ok f _ X _ G h2)
    exact ⟨pe_of (pe_and s1.1 p1) (snd_and (snd_tE e) (snd_tE f)) fun i => by simp, pt_of (pw_and s1.2 p2).pt (sndt_and (snd_tT e) (snd_tT f))⟩
  | .or e f, Γ, X, a, G, h => by
    unfold chkE at h
    split at h
    all_goals first | (simp at *; done) | skip
    rename_i he
    cases he
    obtain ⟨h1, h2⟩ := Bool.and_eq_true_iff.mp h
    have s1 := chk_ok e _ X _ G h1
    obtain ⟨p1, p2⟩ := rest_ok (chk_ok f _ X _ G h2)
    exact ⟨pe_of (pe_or s1.1 p1) (snd_or (snd_tE e) (snd_tE f)) fun i => by simp, pt_of (pw_or s1.2 p2).pt (sndt_or (snd_tT e) (snd_tT f))⟩
  | .not e, Γ, X, a, G, h => by
    unfold chkE at h
    split at h
    all_goals first | (simp at *; done) | skip
    rename_i he
    cases he
    have s1 := chk_ok e _ X _ G h
    exact ⟨pe_of (pe_not s1.1) (snd_not (snd_tE e)) fun i => by simp, pt_of (pt_not s1.2) (sndt_not (snd_tT e))⟩
  | .ite c e f, Γ, X, a, G, h => by
    cases a <;> simp only [chkE, Bool.false_eq_true] at h
    simp only [Bool.and_eq_true] at h
    have s1 := chk_ok c _ X _ G h.1.1
    have s2 := chk_ok e _ X _ G h.1.2
    have s3 := chk_ok f _ X _ G h.2
    exact ⟨pe_of (pe_ifExp s1.2 s2.1 s3.1) (snd_ite (snd_tT c) (snd_tE e) (snd_tE f)) fun i => by simp, pt_of (pt_ifExp s1.2 s2.2 s3.2) (sndt_ite (snd_tT c) (snd_tT e) (snd_tT f))⟩
  | .chain o p e f g, Γ, X, a, G, h => by
    unfold chkE at h
    split at h
    all_goals first | (simp at *; done) | skip
    rename_i he
    cases he
    simp only [Bool.and_eq_true, decide_eq_true_eq] at h
    obtain ⟨⟨⟨⟨⟨h1, h2⟩, h3⟩, h4⟩, h5⟩, h6⟩ := h
    subst h1 h2
    have s1 := chk_ok e _ X _ G h4
    have s2 := chk_ok f _ X _ G h5
    have s3 := chk_ok g _ X _ G h6
    obtain ⟨r, o1, c1⟩ := cmp_sound G o
    obtain ⟨r', o2, c2⟩ := cmp_sound G p
    have sn := snd_chain c1 c2 (snd_tE (K := X.K) (C := P.cs n) e) (snd_tE f) (snd_tE g)
    exact ⟨pe_of (pe_chain o1 o2 s1.1 s2.1 s3.1 (notSet_marks h3 _)) sn fun i => by simp, pt_of (pt_chain o1 o2 s1.1 s2.1 s3.1 (notSet_marks h3 _)) (sndt_test sn)⟩
  | .call f es, Γ, X, a, G, h => by
    unfold chkE at h
    split at h
    all_goals first | (simp at *; done) | skip
    rename_i he
    cases he
    simp only [Bool.and_eq_true, decide_eq_true_eq] at h
    obtain ⟨⟨⟨⟨h1, h2⟩, h3⟩, h4⟩, h5⟩ := h
    have ss := (chks_ok es _ X _ G h5).pes
    unfold fnIs at h1
    split at h1
    · rename_i g hg
      cases of_decide_eq_true h1
      obtain ⟨b, fd, e1, e2, e3, F⟩ := G.fns f g hg
      have em : (P.cs n).modes f = g.modes := by
        show Prg.modes P f = _
        unfold Prg.modes
        rw [hg]
      have hp := ss.pa
      cases ss with
      | nil => simp at h4
      | @cons a as e es n1 p1 p2 =>
        have sc := snd_call (K := X.K) (C := P.cs n) (f := f) (snda_tE (e :: es))
        rw [em] at sc
        exact sn_val (pe_of (pe_call F G.room (gl_of G h2) e1 e2 e3 .nil pass0 hp (plainNm_ok h3).1 (star_cons n1) (star_any p2.ns)) sc fun i => by simp)
    · cases h1
  | .comp elt tg sk ses cond own, Γ, X, a, G, h => by
    unfold chkE at h
    split at h
    all_goals first | (simp at *; done) | skip
    rename_i elt' tg' iter ifs ai scope pos he
    cases he
    simp only [Bool.and_eq_true, decide_eq_true_eq] at h
    obtain ⟨⟨⟨⟨⟨⟨⟨⟨h1, h2⟩, h3⟩, h4⟩, h5⟩, h6⟩, h7⟩, h8⟩, h9⟩ := h
    subst h1
    have ok := blkOk_by h3
    have okX : BlkOk X.N X.env.scope _ _ := (by
      rw [G.hN, G.sc]
      exact ok)
    split at h9
    · rename_i as ha
      obtain ⟨wi, pi, hw⟩ := src_ok G ha (chks_ok ses _ X as G h9).pes
      have hsl : ∀ i ∈ slotsT tg, i ∈ own := fun i hi => by
        have := List.all_eq_true.mp h5 i hi
        exact List.contains_iff_mem.mp this
      have fin : ∀ (tt : TT), SndC X.K (P.cs n) tt cond → (∀ (s : Shared) (H : Hp) (C : Addr) (cl : List (Str × Addr)) (fp : List Addr), PTs (X.blk s H scope (compEnvC scope cl C X.env) fp) ifs tt) → Sn X (P.cs n) (.ListComp elt' [⟨tg', iter, ifs, 0⟩] scope pos) (.comp elt tg sk ses cond own) := fun tt hc ht => by
        have p := pe_lc (g := tgT X.K tg) (te := tE X.K (P.cs n) elt) (pos := pos) G.calm (by rw [G.hN]; exact G.nd) pi okX (fun s H C cl fp => tg_ok (G.blk ok.kind) tg _ h4) ht (fun s H C cl fp => (chk_ok elt _ _ _ (G.blk ok.kind) h6).1) (notSet_folded h2 _)
        rw [ownN_snd] at p
        exact sn_val (pe_of p (snd_comp (snd_src (sndb_tE ses) hw) hc (snd_tE elt) hsl) fun i => by simp)
      have hcs : ∀ (s : Shared) (H : Hp) (C : Addr) (cl : List (Str × Addr)) (fp : List Addr), Sns (X.blk s H scope (compEnvC scope cl C X.env) fp) (P.cs n) ifs cond := fun s H C cl fp => chks_ok cond _ _ ifs (G.blk ok.kind) h8
      clear h8
      match cond, ifs, h7, hcs, fin with
      | [], [], _, _, fin => exact fin tYes (.inl ⟨rfl, rfl⟩) fun s H C cl fp => pts_nil
      | [], _ :: _, _, hcs, fin => exact absurd (hcs X.s_0 X.H_0 0 [] []) nofun
      | [c], [], _, hcs, fin => exact absurd (hcs X.s_0 X.H_0 0 [] []) nofun
      | [c], c' :: r, _, hcs, fin =>
        have er : r = [] := by
          have := hcs X.s_0 X.H_0 0 [] []
          cases this with
          | cons _ _ h => cases h; rfl
        subst er
        exact fin (tT X.K (P.cs n) c) (.inr ⟨c, rfl, snd_tT c⟩) fun s H C cl fp => pts_one (by
          have := hcs s H C cl fp
          cases this with
          | cons _ h _ => exact h.2)
    · cases h9
  | .pop i, Γ, X, a, G, h => by
    unfold chkE at h
    split at h
    all_goals first | (simp at *; done) | skip
    rename_i he
    cases he
    simp only [Bool.and_eq_true, decide_eq_true_eq] at h
    obtain ⟨⟨⟨⟨h1, h2⟩, h3⟩, h4⟩, h5⟩ := h
    subst h4
    exact sn_val (pe_of (pe_bm0 PySem.F.plainAttrs_list PySem.F.slot_list_pop PySem.F.type_list_pop mt_pop (name_pe G h1 h2 h3) rfl (beq_iff_eq.mpr h5)) snd_pop fun i => by simp)
theorem chks_ok : ∀ (es : List E) (Γ : Gs) (X : Cx) (as : List Expr), Good P n Γ X → chkEs P es Γ as = true → Sns X (P.cs n) as es
  | [], Γ, X, as, G, h => by
    cases as with
    | nil => exact .nil
    | cons _ _ => simp [chkEs] at h
  | e :: es, Γ, X, as, G, h => by
    cases as with
    | nil => simp [chkEs] at h
    | cons a as =>
      simp only [chkEs, Bool.and_eq_true] at h
      exact .cons h.1.1 (chk_ok e Γ X a G h.1.2) (chks_ok es Γ X as G h.2)
end
end
end MW

namespace MW
open PySem PySem.Spec PyProof.Rows L2
def notComp : Expr → Bool
  | .ListComp .. => false
  | .SetComp .. => false
  | .DictComp .. => false
  | _ => true
theorem notComp_sw {e : Expr} (h : notComp e = true) (t : Option Expr) (l : Nat) (env : Env) : swapsWith e t l env = pure false := by
  cases e <;> first | rfl | cases h
theorem tup_sw (e : Expr) (ts : List Expr) (k : Nat) (p : Pos) (l : Nat) (env : Env) : swapsWithSole [.Tuple ts k p] e l env = pure false := by
  cases e <;> rfl
theorem sub_sw (e a b : Expr) (p : Pos) (l : Nat) (env : Env) : swapsWithSole [.Subscript a b p] e l env = pure false := by
  cases e <;> rfl
/-- the stores of a tuple target keep the written order -/
def orderB (Γ : Gs) (ts : List Expr) (v : Expr) : Bool := match v with
  | .Tuple vs _ _ => !(ts.length == 2 || ts.length == 3) || vs.all (foldedForSure 8) || decide ((ts.filterMap fun
    | .Name id pos => if (Γ.scope.names.lookup id == some .local && pos.line == (ts.head?.map (·.pos.line)).getD 0) = true then some id else none
    | _ => none).length ≠ ts.length)
  | _ => true
theorem order_none {Γ : Gs} {ts : List Expr} {k : Nat} {p : Pos} {v : Expr} {env : Env} (hs : env.scope = Γ.scope) (h : orderB Γ ts v = true) : swappedStores [.Tuple ts k p] v env = pure none := by
  cases v with
  | Tuple vs k2 p2 =>
    unfold orderB at h
    unfold swappedStores
    simp only [pure_bind]
    split
    · rfl
    · rename_i h1
      split
      · rfl
      · split
        · rfl
        · rename_i h3
          rcases Bool.or_eq_true_iff.mp h with h | h
          · rcases Bool.or_eq_true_iff.mp h with h | h
            · rw [h] at h1
              simp at h1
            · rw [if_pos h]
          · exfalso
            have h := of_decide_eq_true h
            rw [← hs] at h
            apply h3
            rw [Bool.or_eq_true]
            refine .inl (bne_iff_ne.mpr fun q => h ?_)
            exact q
  | _ => rfl
theorem sub_none {a b v : Expr} {p : Pos} {env : Env} : swappedStores [.Subscript a b p] v env = pure none := by
  cases v <;> rfl
def parB (vs : List Expr) : Bool := vs.all noStar && !vs.all (foldedForSure 8) && !vs.all (constantsAlone 8)
theorem nostar_any {vs : List Expr} (h : vs.all noStar = true) {x : Expr} (hx : x ∈ vs) : ∀ e p, x ≠ .Starred e p := by
  intro e p q
  subst q
  exact Bool.false_ne_true (List.all_eq_true.mp h _ hx)
theorem par2 {x y : Str} {a b : Expr} {px py k2p p : Pos} {k k2 : Nat} {env : Env} (h : parB [a, b] = true) (hk : env.scope.kind = .function) (hx : env.scope.names.lookup x = some .local) (hy : env.scope.names.lookup y = some .local) (hl : py.line = px.line) (ne : x ≠ y) :
    swappedStores [.Tuple [.Name x px, .Name y py] k p] (.Tuple [a, b] k2 k2p) env = pure (some [x, y]) := by
  unfold parB at h
  simp only [Bool.and_eq_true, Bool.not_eq_true'] at h
  obtain ⟨⟨h1, h2⟩, h3⟩ := h
  have hb : env.blockKind = .function := by unfold Env.blockKind; rw [hk]; rfl
  have kx : env.kindOf x = some .local := hx
  have ky : env.kindOf y = some .local := hy
  unfold swappedStores
  simp only [pure_bind]
  refine (if_neg ?_).trans ((if_neg ?_).trans ?_)
  · rw [hb]
    simp
  · intro hh
    obtain ⟨z, hz, hs⟩ := List.any_eq_true.mp hh
    have := nostar_any h1 hz
    cases z <;> first | exact absurd rfl (this _ _) | exact absurd hs Bool.false_ne_true
  · simp only [List.filterMap_cons, List.filterMap_nil, kx, ky, List.head?_cons, Option.map_some, Option.getD_some, Expr.pos, hl, beq_self_eq_true, Bool.and_self, if_true, if_pos]
    rw [if_neg (by
      have : [x, y].eraseDups = [x, y] := by
        have n2 : ¬ y = x := fun q => ne q.symm
        simp [List.eraseDups_cons, n2]
      rw [this]
      simp), if_neg (by rw [h2]; exact Bool.false_ne_true), if_neg (by rw [h3]; exact Bool.false_ne_true)]
theorem par3 {x y z : Str} {a b c : Expr} {px py pz k2p p : Pos} {k k2 : Nat} {env : Env} (h : parB [a, b, c] = true) (hk : env.scope.kind = .function) (hx : env.scope.names.lookup x = some .local) (hy : env.scope.names.lookup y = some .local) (hz : env.scope.names.lookup z = some .local) (hl : py.line = px.line) (hl2 : pz.line = px.line) (ne : x ≠ y) (ne2 : x ≠ z) (ne3 : y ≠ z) :
    swappedStores [.Tuple [.Name x px, .Name y py, .Name z pz] k p] (.Tuple [a, b, c] k2 k2p) env = pure (some [x, y, z]) := by
  unfold parB at h
  simp only [Bool.and_eq_true, Bool.not_eq_true'] at h
  obtain ⟨⟨h1, h2⟩, h3⟩ := h
  have hb : env.blockKind = .function := by unfold Env.blockKind; rw [hk]; rfl
  have kx : env.kindOf x = some .local := hx
  have ky : env.kindOf y = some .local := hy
  have kz : env.kindOf z = some .local := hz
  unfold swappedStores
  simp only [pure_bind]
  refine (if_neg ?_).trans ((if_neg ?_).trans ?_)
  · rw [hb]
    simp
  · intro hh
    obtain ⟨z, hz, hs⟩ := List.any_eq_true.mp hh
    have := nostar_any h1 hz
    cases z <;> first | exact absurd rfl (this _ _) | exact absurd hs Bool.false_ne_true
  · simp only [List.filterMap_cons, List.filterMap_nil, kx, ky, kz, List.head?_cons, Option.map_some, Option.getD_some, Expr.pos, hl, hl2, beq_self_eq_true, Bool.and_self, if_true, if_pos]
    rw [if_neg (by
      have : [x, y, z].eraseDups = [x, y, z] := by
        have n2 : ¬ y = x := fun q => ne q.symm
        have n3 : ¬ z = x := fun q => ne2 q.symm
        have n4 : ¬ z = y := fun q => ne3 q.symm
        simp [List.eraseDups_cons, n2, n3, n4]
      rw [this]
      simp), if_neg (by rw [h2]; exact Bool.false_ne_true), if_neg (by rw [h3]; exact Bool.false_ne_true)]
end MW

namespace MW
open PySem PySem.Spec PyProof.Rows L2
/-! ### the check of statements -/
def Bop.aug (b : Bop) : Bool := match b with
  | .pow => false
  | _ => true
/-- where name = [..] on one line -/
def setLcB (Γ : Gs) (y : Str) (py pos : Pos) (scope : Scope) : Bool :=
  kindIs Γ.scope y .local && (py.line == pos.line) && !(scope.names.any fun (n, k) => n == y && (k == .local || k == .cell))
mutual
def chkS (P : Prg) : S → Gs → Stmt → Bool
  | .asg (.n i) e, Γ, .Assign [.Name x px] (.ListComp elt gs scope cp) pos => decide (Γ.N[i]? = some x) && (setLcB Γ x px cp scope || locB Γ x) && chkE P e Γ (.ListComp elt gs scope cp)
  | .asg (.n i) e, Γ, .Assign [.Name x _] v _ => decide (Γ.N[i]? = some x) && locB Γ x && notComp v && chkE P e Γ v
  | .asg (.t ts) e, Γ, .Assign [.Tuple as k p] v _ => chkTg (.t ts) Γ (.Tuple as k p) && orderB Γ as v && chkE P e Γ v
  | .par [i, j] es, Γ, .Assign [.Tuple [.Name x px, .Name y py] _ _] (.Tuple [a, b] _ _) _ => decide (Γ.N[i]? = some x) && decide (Γ.N[j]? = some y) && decide (i ≠ j) && kindIs Γ.scope x .local && kindIs Γ.scope y .local && decide (py.line = px.line) && parB [a, b] && chkEs P es Γ [a, b]
  | .par [i, j, l] es, Γ, .Assign [.Tuple [.Name x px, .Name y py, .Name z pz] _ _] (.Tuple [a, b, c] _ _) _ => decide (Γ.N[i]? = some x) && decide (Γ.N[j]? = some y) && decide (Γ.N[l]? = some z) && decide (i ≠ j) && decide (i ≠ l) && decide (j ≠ l) && kindIs Γ.scope x .local && kindIs Γ.scope y .local && kindIs Γ.scope z .local &&
      decide (py.line = px.line) && decide (pz.line = px.line) && parB [a, b, c] && chkEs P es Γ [a, b, c]
  | .aug i b e, Γ, .AugAssign (.Name x _) op v _ => decide (Γ.N[i]? = some x) && locB Γ x && decide (op = b.op) && b.aug && chkE P e Γ v
  | .setix i ix e, Γ, .Assign [.Subscript (.Name x _) ia _] v _ => decide (Γ.N[i]? = some x) && visB Γ.scope x && plainNm x && notSlice ia && chkE P ix Γ ia && chkE P e Γ v
  | .append i e, Γ, .Expr (.Call (.Attribute (.Name x _) m apos) [a] [] cpos) _ => decide (Γ.N[i]? = some x) && visB Γ.scope x && plainNm x && decide (m = "append") && decide (apos.endLine = cpos.line) && noStar a && chkE P e Γ a
  | .ex e, Γ, .Expr a _ => notComp a && chkE P e Γ a
  | .ret e, Γ, .Return (some a) _ => chkE P e Γ a
  | .retN, _, .Return none _ => true
  | .ife c a b, Γ, .If t x y _ => chkE P c Γ t && chkSs P a Γ x && chkSs P b Γ y
  | .forS tg sk ses body, Γ, .For t iter b [] _ => notSet iter && chkTg tg Γ t && chkSs P body Γ b && (match srcAst Γ t sk iter with
    | some as => chkEs P ses Γ as
    | none => false)
  | .whl c body, Γ, .While t b [] _ => chkE P c Γ t && chkSs P body Γ b
  | .brk, _, .Break _ => true
  | .cont, _, .Continue _ => true
  | .pass, _, .Pass _ => true
  | .never, _, _ => true
  | _, _, _ => false
def chkSs (P : Prg) : List S → Gs → List Stmt → Bool
  | [], _, [] => true
  | s :: ss, Γ, a :: as => chkS P s Γ a && chkSs P ss Γ as
  | _, _, _ => false
end
section
variable {P : Prg} {n : Nat} {Γ : Gs} {X : Cx}
theorem comp_parts {elt : E} {tg : Tg} {sk : Sk} {ses cond : List E} {own : List Nat} {elt' tg' iter : Expr} {ifs : List Expr} {ai : Int} {scope : Scope} {pos : Pos} (G : Good P n Γ X) (h : chkE P (.comp elt tg sk ses cond own) Γ (.ListComp elt' [⟨tg', iter, ifs, ai⟩] scope pos) = true) :
    ai = 0 ∧ ∃ (wi : TI) (tt : TT), PI X tg' iter wi ∧ BlkOk X.N X.env.scope scope (ownN Γ own) ∧ (∀ (s : Shared) (H : Hp) (C : Addr) (cl : List (Str × Addr)) (fp : List Addr), PG (X.blk s H scope (compEnvC scope cl C X.env) fp) tg' (tgT X.K tg)) ∧
      (∀ (s : Shared) (H : Hp) (C : Addr) (cl : List (Str × Addr)) (fp : List Addr), PTs (X.blk s H scope (compEnvC scope cl C X.env) fp) ifs tt) ∧ (∀ (s : Shared) (H : Hp) (C : Addr) (cl : List (Str × Addr)) (fp : List Addr), PE (X.blk s H scope (compEnvC scope cl C X.env) fp) elt' (tE X.K (P.cs n) elt)) ∧
      (∀ x, foldedSetIterable iter X.env x = pure x) ∧ SndE X.K (P.cs n) (tLc wi (tgT X.K tg) tt (tE X.K (P.cs n) elt) own) (.comp elt tg sk ses cond own) := by
  simp only [chkE, Bool.and_eq_true, decide_eq_true_eq] at h
  obtain ⟨⟨⟨⟨⟨⟨⟨⟨h1, h2⟩, h3⟩, h4⟩, h5⟩, h6⟩, h7⟩, h8⟩, h9⟩ := h
  have ok := blkOk_by h3
  have okX : BlkOk X.N X.env.scope scope (ownN Γ own) := by
    rw [G.hN, G.sc]
    exact ok
  split at h9
  · rename_i as ha
    obtain ⟨wi, pi, hw⟩ := src_ok G ha (chks_ok ses Γ X as G h9).pes
    have hsl : ∀ i ∈ slotsT tg, i ∈ own := fun i hi => by
      have := List.all_eq_true.mp h5 i hi
      exact List.contains_iff_mem.mp this
    have fin : ∀ (tt : TT), SndC X.K (P.cs n) tt cond → (∀ (s : Shared) (H : Hp) (C : Addr) (cl : List (Str × Addr)) (fp : List Addr), PTs (X.blk s H scope (compEnvC scope cl C X.env) fp) ifs tt) → _ := fun tt hc ht =>
      (⟨h1, wi, tt, pi, okX, fun s H C cl fp => tg_ok (G.blk ok.kind) tg _ h4, ht, fun s H C cl fp => (chk_ok elt _ _ _ (G.blk ok.kind) h6).1, notSet_folded h2 _, snd_comp (snd_src (sndb_tE ses) hw) hc (snd_tE elt) hsl⟩ : _ ∧ ∃ (wi : TI) (tt : TT), PI X tg' iter wi ∧ BlkOk X.N X.env.scope scope (ownN Γ own) ∧ (∀ (s : Shared) (H : Hp) (C : Addr) (cl : List (Str × Addr)) (fp : List Addr), PG (X.blk s H scope (compEnvC scope cl C X.env) fp) tg' (tgT X.K tg)) ∧
      (∀ (s : Shared) (H : Hp) (C : Addr) (cl : List (Str × Addr)) (fp : List Addr), PTs (X.blk s H scope (compEnvC scope cl C X.env) fp) ifs tt) ∧ (∀ (s : Shared) (H : Hp) (C : Addr) (cl : List (Str × Addr)) (fp : List Addr), PE (X.blk s H scope (compEnvC scope cl C X.env) fp) elt' (tE X.K (P.cs n) elt)) ∧
      (∀ x, foldedSetIterable iter X.env x = pure x) ∧ SndE X.K (P.cs n) (tLc wi (tgT X.K tg) tt (tE X.K (P.cs n) elt) own) (.comp elt tg sk ses cond own))
    have hcs : ∀ (s : Shared) (H : Hp) (C : Addr) (cl : List (Str × Addr)) (fp : List Addr), Sns (X.blk s H scope (compEnvC scope cl C X.env) fp) (P.cs n) ifs cond := fun s H C cl fp => chks_ok cond _ _ ifs (G.blk ok.kind) h8
    clear h8
    match cond, ifs, h7, hcs, fin with
    | [], [], _, _, fin => exact fin tYes (.inl ⟨rfl, rfl⟩) fun s H C cl fp => pts_nil
    | [], _ :: _, _, hcs, fin => exact absurd (hcs X.s_0 X.H_0 0 [] []) nofun
    | [c], [], _, hcs, fin => exact absurd (hcs X.s_0 X.H_0 0 [] []) nofun
    | [c], c' :: r, _, hcs, fin =>
      have er : r = [] := by
        have := hcs X.s_0 X.H_0 0 [] []
        cases this with
        | cons _ _ h => cases h; rfl
      subst er
      exact fin (tT X.K (P.cs n) c) (.inr ⟨c, rfl, snd_tT c⟩) fun s H C cl fp => pts_one (by
        have := hcs s H C cl fp
        cases this with
        | cons _ h _ => exact h.2)
  · cases h9
section
variable {K : PySem.W.Frag} {C : Calls}
theorem tE_mono (e : E) {σ : L2.St} {H : Hp} {Q Q' : VK} (h : tE K C e σ H Q) (m : ∀ v H, Q v H → Q' v H) : tE K C e σ H Q' := by
  have go : ∀ e, tS K C e σ H Q → tS K C e σ H Q' := fun e ⟨F, ρ, r, ρ1, e1, R, f, q⟩ => ⟨F, ρ, r, ρ1, e1, R, f, fun v H1 P r => m v H1 (q v H1 P r)⟩
  cases e with
  | v i => obtain ⟨v, hv, q⟩ := h; exact ⟨v, hv, m _ _ q⟩
  | _ => exact go _ h
theorem seq_mono : ∀ (es : List E) {σ : L2.St} {H : Hp} {Q Q' : List V → Hp → Prop}, seqT (tEs K C es) σ H Q → (∀ v H, Q v H → Q' v H) → seqT (tEs K C es) σ H Q'
  | [], _, _, _, _, h, m => m _ _ h
  | e :: es, _, _, _, _, h, m => tE_mono e h fun v H1 q => seq_mono es q fun vs H2 q => m _ _ q
theorem sndfs_tE : ∀ (es : List E) (is : List Nat), es.length = is.length → SndFs K C (tEs K C es) es is
  | [], [], _ => sndfs_nil
  | e :: es, i :: is, h => sndfs_cons (snd_tE e) (sndfs_tE es is (Nat.succ.inj h))
  | [], _ :: _, h => by simp at h
  | _ :: _, [], h => by simp at h
end
theorem passes_never (G : Good P n Γ X) : PassesOwn (model X.prog X.w) X.A X.env X.xe := by
  rw [G.xe]
  exact PySem.PassesOwn.never
theorem par_two {K : PySem.W.Frag} {C : Calls} {i j : Nat} {es : List E} (hij : i ≠ j) : ∀ (D : Ends) (σ : L2.St) (H : Hp), seqT (tEs K C es) σ H (fun vs H1 => vs.length = [i, j].length ∧ D.nx (setS [i, j] vs σ) H1) → tPar i j (seqT (tEs K C es)) D σ H := fun D σ H h => seq_mono es h fun vs H1 ⟨l, q⟩ => by
  obtain ⟨v, w, rfl⟩ := len2 l
  refine ⟨v, w, rfl, ?_⟩
  rw [← List.set_comm _ _ (Ne.symm hij)]
  exact q
theorem par_three {K : PySem.W.Frag} {C : Calls} {i j k : Nat} {es : List E} (hij : i ≠ j) (hik : i ≠ k) (hjk : j ≠ k) : ∀ (D : Ends) (σ : L2.St) (H : Hp), seqT (tEs K C es) σ H (fun vs H1 => vs.length = [i, j, k].length ∧ D.nx (setS [i, j, k] vs σ) H1) → tPar3 i j k (seqT (tEs K C es)) D σ H := fun D σ H h => seq_mono es h fun vs H1 ⟨l, q⟩ => by
  obtain ⟨u, v, w, rfl⟩ := len3 l
  refine ⟨u, v, w, rfl, ?_⟩
  have e : ((σ.set i (some u)).set j (some v)).set k (some w) = ((σ.set k (some w)).set j (some v)).set i (some u) := by
    rw [List.set_comm (some u) (some v) hij, List.set_comm (some u) (some w) hik, List.set_comm (some v) (some w) hjk]
  rw [e]
  exact q
theorem sw_not {x : Str} {px cp : Pos} {elt : Expr} {gs : List Comprehension} {scope : Scope} {l : Nat} (G : Good P n Γ X) (h : setLcB Γ x px cp scope = false) : swapsWith (.ListComp elt gs scope cp) (some (.Name x px)) l X.env = pure false := by
  have hb : X.env.blockKind = .function := by unfold Env.blockKind; rw [G.sc, G.kd]; rfl
  have hk : (X.env.kindOf x == some .local) = kindIs Γ.scope x .local := by
    show (X.env.scope.names.lookup x == some .local) = decide (Γ.scope.names.lookup x = some .local)
    rw [G.sc]
    exact Bool.beq_eq_decide_eq _ _
  unfold swapsWith
  simp only [hb, hk]
  show (pure (((ScopeKind.function == ScopeKind.function) && kindIs Γ.scope x .local && (px.line == cp.line)) && !(scope.names.any fun (n, k) => n == x && (k == .local || k == .cell))) : Sem Bool) = pure false
  have e : ((ScopeKind.function == ScopeKind.function) && kindIs Γ.scope x .local && (px.line == cp.line)) = (kindIs Γ.scope x .local && (px.line == cp.line)) := by
    show (true && kindIs Γ.scope x .local && (px.line == cp.line)) = _
    rw [Bool.true_and]
  rw [e]
  unfold setLcB at h
  rw [h]
theorem setLc_ok {i : Nat} {e : E} {x : Str} {px cp pos : Pos} {elt : Expr} {gs : List Comprehension} {scope : Scope} (G : Good P n Γ X) (h1 : Γ.N[i]? = some x) (h2 : kindIs Γ.scope x .local = true) (h3 : (px.line == cp.line) = true) (h4 : (scope.names.any fun (n, k) => n == x && (k == .local || k == .cell)) = false)
    (h5 : chkE P e Γ (.ListComp elt gs scope cp) = true) : PS X (.Assign [.Name x px] (.ListComp elt gs scope cp) pos) (tX X.K (P.cs n) (.asg (.n i) e)) := by
  have hl : X.env.scope.names.lookup x = some .local := by
    rw [G.sc]
    exact kindIs_ok h2
  cases e with
  | comp elt' tg sk ses cond own =>
    match gs, h5 with
    | [⟨tg', iter, ifs, ai⟩], h5 =>
      obtain ⟨rfl, wi, tt, pi, ok, hg, ht, he, hf, sn⟩ := comp_parts G h5
      have p := ps_setLc (spos := pos) (py := px) G.calm (by rw [G.hN]; exact G.nd) (by rw [G.hN]; exact h1) hl (sw_true (by rw [G.sc]; exact G.kd) hl h3 h4) pi ok hg ht he hf
      rw [ownN_snd] at p
      exact ps_of p (snd_asg (tg := .n i) sn)
    | [], h5 => simp [chkE] at h5
    | _ :: _ :: _, h5 => simp [chkE] at h5
  | op o es =>
    simp only [chkE] at h5
    split at h5
    · rename_i as ha
      unfold opAst at ha
      split at ha <;> first | (rename_i q; cases q; done) | cases ha
    · cases h5
  | _ => simp [chkE] at h5
theorem asgLc_ok {i : Nat} {e : E} {x : Str} {px cp pos : Pos} {elt : Expr} {gs : List Comprehension} {scope : Scope} (G : Good P n Γ X) (h1 : Γ.N[i]? = some x) (h2 : (setLcB Γ x px cp scope || locB Γ x) = true) (h5 : chkE P e Γ (.ListComp elt gs scope cp) = true) : PS X (.Assign [.Name x px] (.ListComp elt gs scope cp) pos) (tX X.K (P.cs n) (.asg (.n i) e)) := by
  by_cases hb : setLcB Γ x px cp scope = true
  · simp only [setLcB, Bool.and_eq_true, Bool.not_eq_true'] at hb
    exact setLc_ok G h1 hb.1.1 hb.1.2 hb.2 h5
  · have hb := eq_false_of_ne_true hb
    rw [hb, Bool.false_or] at h2
    obtain ⟨l1, l2⟩ := loc_ok G h2
    exact ps_of (ps_set (by rw [G.hN]; exact G.nd) (by rw [G.hN]; exact h1) l1 (chk_ok e _ _ _ G h5).1 (sw_not G hb) l2) (snd_asg (tg := .n _) (snd_tE e))
mutual
theorem st_ok : ∀ (s : S) (Γ : Gs) (X : Cx) (a : Stmt), Good P n Γ X → chkS P s Γ a = true → PS X a (tX X.K (P.cs n) s)
  | .asg tg e, Γ, X, a, G, h => by
    unfold chkS at h
    split at h
    all_goals first | (simp at *; done) | skip
    all_goals rename_i he
    · cases he
      simp only [Bool.and_eq_true, decide_eq_true_eq] at h
      obtain ⟨⟨h1, h2⟩, h5⟩ := h
      rename_i x px elt gs scope cp pos
      exact asgLc_ok G h1 h2 h5
    · cases he
      simp only [Bool.and_eq_true, decide_eq_true_eq] at h
      obtain ⟨⟨⟨h1, h2⟩, h3⟩, h4⟩ := h
      obtain ⟨l1, l2⟩ := loc_ok G h2
      exact ps_of (ps_set (by rw [G.hN]; exact G.nd) (by rw [G.hN]; exact h1) l1 (chk_ok e _ _ _ G h4).1 (notComp_sw h3 _ _ _) l2) (snd_asg (tg := .n _) (snd_tE e))
    · cases he
      simp only [Bool.and_eq_true] at h
      obtain ⟨⟨h1, h2⟩, h3⟩ := h
      exact ps_of (ps_asg (chk_ok e _ _ _ G h3).1 (tg_ok G _ _ h1) (tup_sw _ _ _ _ _ _) (order_none G.sc h2)) (snd_asg (snd_tE e))
  | .par is es, Γ, X, a, G, h => by
    unfold chkS at h
    split at h
    all_goals first | (simp at *; done) | skip
    all_goals rename_i he
    · cases he
      simp only [Bool.and_eq_true, decide_eq_true_eq] at h
      obtain ⟨⟨⟨⟨⟨⟨⟨h1, h2⟩, h3⟩, h4⟩, h5⟩, h6⟩, h7⟩, h8⟩ := h
      have hs := (chks_ok es _ _ _ G h8).pes
      have l : es.length = 2 := hs.len.symm
      have k1 := kindIs_ok h4
      have k2 := kindIs_ok h5
      rw [← G.sc] at k1 k2
      exact ps_of (ps_par G.calm (by rw [G.hN]; exact G.nd) (by rw [G.hN]; exact h1) (by rw [G.hN]; exact h2) h3 k1 k2 hs.pa (par2 h7 (by rw [G.sc]; exact G.kd) k1 k2 h6 fun q => h3 (nodup_ix G.nd (q ▸ h1) h2)))
        (snd_par (sndfs_tE es _ l) (par_two h3))
    · cases he
      simp only [Bool.and_eq_true, decide_eq_true_eq] at h
      obtain ⟨⟨⟨⟨⟨⟨⟨⟨⟨⟨⟨⟨h1, h2⟩, h3⟩, h4⟩, h5⟩, h6⟩, h7⟩, h8⟩, h9⟩, h10⟩, h11⟩, h12⟩, h13⟩ := h
      have hs := (chks_ok es _ _ _ G h13).pes
      have l : es.length = 3 := hs.len.symm
      have k1 := kindIs_ok h7
      have k2 := kindIs_ok h8
      have k3 := kindIs_ok h9
      rw [← G.sc] at k1 k2 k3
      exact ps_of (ps_par3 G.calm (by rw [G.hN]; exact G.nd) (by rw [G.hN]; exact h1) (by rw [G.hN]; exact h2) (by rw [G.hN]; exact h3) h4 h5 h6 k1 k2 k3 hs.pa (par3 h12 (by rw [G.sc]; exact G.kd) k1 k2 k3 h10 h11 (fun q => h4 (nodup_ix G.nd (q ▸ h1) h2)) (fun q => h5 (nodup_ix G.nd (q ▸ h1) h3)) fun q => h6 (nodup_ix G.nd (q ▸ h2) h3)))
        (snd_par (sndfs_tE es _ l) (par_three h4 h5 h6))
  | .aug i b e, Γ, X, a, G, h => by
    unfold chkS at h
    split at h
    all_goals first | (simp at *; done) | skip
    rename_i he
    cases he
    simp only [Bool.and_eq_true, decide_eq_true_eq] at h
    obtain ⟨⟨⟨⟨h1, h2⟩, h3⟩, h4⟩, h5⟩ := h
    subst h3
    obtain ⟨l1, l2⟩ := loc_ok G h2
    obtain ⟨ti, t1, t2⟩ := ip_ok (X := X) b (by rintro rfl; cases h4)
    exact ps_of (ps_aug (by rw [G.hN]; exact G.nd) (by rw [G.hN]; exact h1) l1 (chk_ok e _ _ _ G h5).1 t1 l2) (snd_aug t2 (snd_tE e))
  | .setix i ix e, Γ, X, a, G, h => by
    unfold chkS at h
    split at h
    all_goals first | (simp at *; done) | skip
    rename_i he
    cases he
    simp only [Bool.and_eq_true, decide_eq_true_eq] at h
    obtain ⟨⟨⟨⟨⟨h1, h2⟩, h3⟩, h4⟩, h5⟩, h6⟩ := h
    refine ps_of (ps_asg (chk_ok e _ _ _ G h6).1 (pg_sub (name_pe G h1 h2 h3) (chk_ok ix _ _ _ G h5).1 set_list ?_) (sub_sw _ _ _ _ _ _) sub_none) (snd_setix (snd_tE e) (snd_tE ix))
    rename_i ia _ _ _
    intro v
    cases ia <;> first | rfl | cases h4
  | .append i e, Γ, X, a, G, h => by
    unfold chkS at h
    split at h
    all_goals first | (simp at *; done) | skip
    rename_i he
    cases he
    simp only [Bool.and_eq_true, decide_eq_true_eq] at h
    obtain ⟨⟨⟨⟨⟨⟨h1, h2⟩, h3⟩, h4⟩, h5⟩, h6⟩, h7⟩ := h
    subst h4
    have hx := (chk_ok e _ X _ G h7).1
    rename_i ea _ _
    have n1 : ∀ b ∈ [ea], noStar b = true := fun b m => by rw [List.mem_singleton.mp m]; exact h6
    refine ps_of (ps_expr (pe_bm PySem.F.plainAttrs_list PySem.F.slot_list_append PySem.F.type_list_append mt_append (name_pe G h1 h2 h3) (pa_cons hx pa_nil (star_cons h6)) rfl ?_ (beq_iff_eq.mpr h5) (star_cons h6) rfl)) (snd_append (snd_tE e))
    rw [star_all n1]
    rfl
  | .ex e, Γ, X, a, G, h => by
    unfold chkS at h
    split at h
    all_goals first | (simp at *; done) | skip
    rename_i he
    cases he
    obtain ⟨h1, h2⟩ := Bool.and_eq_true_iff.mp h
    exact ps_of (ps_expr (chk_ok e _ _ _ G h2).1 (notComp_sw h1 _ _ _)) (snd_ex (snd_tE e))
  | .ret e, Γ, X, a, G, h => by
    unfold chkS at h
    split at h
    all_goals first | (simp at *; done) | skip
    rename_i he
    cases he
    exact ps_of (ps_ret (chk_ok e _ _ _ G h).1) (snd_ret (snd_tE e) (nm_tE e))
  | .retN, Γ, X, a, G, h => by
    unfold chkS at h
    split at h
    all_goals first | (simp at *; done) | skip
    exact ps_of ps_retN snd_retN
  | .ife c x y, Γ, X, a, G, h => by
    unfold chkS at h
    split at h
    all_goals first | (simp at *; done) | skip
    rename_i he
    cases he
    simp only [Bool.and_eq_true] at h
    obtain ⟨⟨h1, h2⟩, h3⟩ := h
    exact ps_of (ps_if (chk_ok c _ _ _ G h1).2 (sts_ok x _ _ _ G h2) (sts_ok y _ _ _ G h3)) (snd_ife (snd_tT c) (snd_tXs x) (snd_tXs y))
  | .forS tg sk ses body, Γ, X, a, G, h => by
    unfold chkS at h
    split at h
    all_goals first | (simp at *; done) | skip
    rename_i he
    cases he
    simp only [Bool.and_eq_true] at h
    obtain ⟨⟨⟨h1, h2⟩, h3⟩, h4⟩ := h
    split at h4
    · rename_i as ha
      obtain ⟨wi, pi, hw⟩ := src_ok G ha (chks_ok ses _ X as G h4).pes
      exact ps_of (ps_for (passes_never G) G.calm pi (tg_ok G tg _ h2) (sts_ok body _ _ _ G h3) (notSet_folded h1 _)) (snd_forS (snd_srcV (snds_tE ses) hw) (snd_tXs body))
    · cases h4
  | .whl c body, Γ, X, a, G, h => by
    unfold chkS at h
    split at h
    all_goals first | (simp at *; done) | skip
    rename_i he
    cases he
    obtain ⟨h1, h2⟩ := Bool.and_eq_true_iff.mp h
    exact ps_of (ps_while (passes_never G) (chk_ok c _ _ _ G h1).2 (sts_ok body _ _ _ G h2)) (snd_whl (snd_tT c) (snd_tXs body))
  | .brk, Γ, X, a, G, h => by
    unfold chkS at h
    split at h
    all_goals first | (simp at *; done) | skip
    exact ps_of ps_break snd_brk
  | .cont, Γ, X, a, G, h => by
    unfold chkS at h
    split at h
    all_goals first | (simp at *; done) | skip
    exact ps_of ps_continue snd_cont
  | .pass, Γ, X, a, G, h => by
    unfold chkS at h
    split at h
    all_goals first | (simp at *; done) | skip
    exact ps_of ps_pass snd_pass
  | .never, Γ, X, a, G, h => ps_of ps_never snd_never
theorem sts_ok : ∀ (ss : List S) (Γ : Gs) (X : Cx) (as : List Stmt), Good P n Γ X → chkSs P ss Γ as = true → PSs X as (tXs X.K (P.cs n) ss)
  | [], Γ, X, as, G, h => by
    cases as with
    | nil => exact pss_of pss_nil sndss_nil
    | cons _ _ => simp [chkSs] at h
  | s :: ss, Γ, X, as, G, h => by
    cases as with
    | nil => simp [chkSs] at h
    | cons a as =>
      obtain ⟨h1, h2⟩ := Bool.and_eq_true_iff.mp (by simpa only [chkSs] using h)
      exact pss_of (pss_cons (st_ok s _ _ a G h1) (sts_ok ss _ _ as G h2)) (sndss_cons (snd_tX s) (snd_tXs ss))
end
end
end MW

namespace MW
open PySem PySem.Spec PyProof.Rows L2
/-! ### the check of defs -/
def scB (N ps : List Str) (sc : Scope) : Bool :=
  decide (sc.kind = .function) && decide (sc.isCoroutine = false) && decide (sc.isGenerator = false) && decide N.Nodup && decide (N.take ps.length = ps) && (ps.all fun x => kindIs sc x .local || kindIs sc x .cell) && sc.names.all fun y => decide (y.2 ≠ .free)
theorem scB_ok {N ps : List Str} {sc : Scope} (h : scB N ps sc = true) : FnScope N ps sc := by
  unfold scB at h
  simp only [Bool.and_eq_true, decide_eq_true_eq, List.all_eq_true, Bool.or_eq_true] at h
  obtain ⟨⟨⟨⟨⟨⟨h1, h2⟩, h3⟩, h4⟩, h5⟩, h6⟩, h7⟩ := h
  exact ⟨h1, h2, h3, h4, h5, fun x hx => (h6 x hx).imp kindIs_ok kindIs_ok, h7⟩
def chkFn (P : Prg) (st : Stmt) (g : Fn) : Bool := scB g.N g.ps (defScope st) && decide (g.ps.length = g.modes.length) && chkSs P g.body ⟨g.N, defScope st, fun _ => true⟩ (defBody st)
section
variable {K : PySem.W.Frag} {F : Addr → Prop} {ρ ρ0 ρ1 : Rho} {σ σ0 σ1 : L2.St} {H H0 H1 : Hp}
/-! ### slots put behind, empty -/
theorem ext_get {α : Type} {l : List (Option α)} {k i : Nat} {x : α} (h : (l ++ List.replicate k none)[i]? = some (some x)) : l[i]? = some (some x) := by
  by_cases hi : i < l.length
  · rw [List.getElem?_append_left hi] at h
    exact h
  · rw [List.getElem?_append_right (by omega), List.getElem?_replicate] at h
    split at h <;> cases h
theorem ext_put {α : Type} {l : List (Option α)} {k i : Nat} {x : α} (h : l[i]? = some (some x)) : (l ++ List.replicate k none)[i]? = some (some x) := by
  rw [List.getElem?_append_left (List.getElem?_eq_some_iff.mp h).1]
  exact h
theorem ext_m {k : Nat} (b : Addr) : M (ρ ++ List.replicate k none) (σ ++ List.replicate k none) b ↔ M ρ σ b :=
  ⟨fun ⟨i, kd, d, h1, h2, h3⟩ => ⟨i, kd, d, ext_get h1, h2, ext_get h3⟩, fun ⟨i, kd, d, h1, h2, h3⟩ => ⟨i, kd, d, ext_put h1, h2, ext_put h3⟩⟩
theorem ext_av {k : Nat} (b : Addr) : Av F (ρ ++ List.replicate k none) (σ ++ List.replicate k none) b ↔ Av F ρ σ b := or_congr Iff.rfl (ext_m b)
theorem Rel.ext (R : Rel K F ρ σ H) (k : Nat) : Rel K F (ρ ++ List.replicate k none) (σ ++ List.replicate k none) H where
  len := by rw [List.length_append, List.length_append, R.len, List.length_replicate, List.length_replicate]
  val := fun i d h => let ⟨v, e, r⟩ := R.val i d (ext_get h); ⟨v, ext_put e, Rp.mono (fun b => (ext_av b).mp) .refl _ _ r⟩
  mu := fun i k d h n => let ⟨a, e, f, c⟩ := R.mu i k d (ext_get h) n; ⟨a, ext_put e, f, c.mono (fun b => (ext_av b).mp) .refl fun _ z => z⟩
  inj := fun i j k k' d d' a h1 h2 h3 h4 h5 h6 => R.inj i j k k' d d' a (ext_get h1) h2 (ext_get h3) h4 (ext_get h5) (ext_get h6)
/-! ### from a body's end to its call's end -/
theorem outs_ok {A' : Addr → Prop} : ∀ {ms : List Bool} {ds : List D} {ρ0 : Rho} {vs : List V} {ρ1 : Rho} {outs : List D}, args0 ms ds = some ρ0 → outsOf ms ρ1 = some outs → vs.length = ms.length →
    (∀ (i : Nat) (k : Kd) (d : D), ms[i]? = some true → ρ1[i]? = some (some (k, d)) → ∃ a, vs[i]? = some (V.ref a) ∧ Cell K A' H1 a d) → OutsOk K A' H1 ms vs outs
  | [], [], _, [], _, _, _, h2, _, _ => by
    simp only [outsOf, Option.some.injEq] at h2
    subst h2
    exact True.intro
  | true :: ms, d :: ds, ρ0, v :: vs, ρ1, outs, h1, h2, hl, h => by
    simp only [args0] at h1
    obtain ⟨ρ', e1, _⟩ := Option.bind_eq_some_iff.mp h1
    unfold outsOf at h2
    split at h2
    all_goals first | (simp at *; done) | skip
    · rename_i ms' d' ρ'' e2
      cases e2
      obtain ⟨os, e3, e4⟩ := Option.map_eq_some_iff.mp h2
      subst e4
      obtain ⟨a, ea, c⟩ := h 0 .io d' rfl rfl
      refine ⟨⟨a, by simpa using ea, c⟩, outs_ok e1 e3 (by simpa using hl) fun i k d hm hi => ?_⟩
      exact h (i + 1) k d (by simpa using hm) (by simpa using hi)
  | false :: ms, d :: ds, ρ0, v :: vs, ρ1, outs, h1, h2, hl, h => by
    simp only [args0] at h1
    obtain ⟨ρ', e1, _⟩ := Option.bind_eq_some_iff.mp h1
    unfold outsOf at h2
    split at h2
    all_goals first | (simp at *; done) | skip
    · rename_i e2
      cases e2
      refine outs_ok (vs := vs) e1 h2 (by simpa using hl) fun i k d hm hi => ?_
      exact h (i + 1) k d (by simpa using hm) (by simpa using hi)
  | [], _ :: _, _, _, _, _, h1, _, _, _ => by simp [args0] at h1
  | _ :: _, [], _, _, _, _, h1, _, _, _ => by simp [args0] at h1
  | [], [], _, _ :: _, _, _, _, _, hl, _ => by simp at hl
  | _ :: _, _ :: _, _, [], _, _, _, _, hl, _ => by simp at hl
theorem outs_len : ∀ {ms : List Bool} {ds : List D} {ρ0 : Rho}, args0 ms ds = some ρ0 → ds.length = ms.length ∧ ρ0.length = ms.length
  | [], [], _, h => by
    simp only [args0, Option.some.injEq] at h
    subst h
    exact ⟨rfl, rfl⟩
  | [], _ :: _, _, h => by simp [args0] at h
  | _ :: _, [], _, h => by simp [args0] at h
  | m :: ms, d :: ds, ρ0, h => by
    simp only [args0] at h
    obtain ⟨ρ', e1, e2⟩ := Option.bind_eq_some_iff.mp h
    cases e2
    obtain ⟨h1, h2⟩ := outs_len e1
    exact ⟨congrArg Nat.succ h1, congrArg Nat.succ h2⟩
/-- no slot but the caller's lists is there to be stored into -/
theorem args0_oc {ms : List Bool} {ds : List D} (h : args0 ms ds = some ρ0) (b : Addr) : ¬ Oc ρ0 σ0 b := by
  rintro ⟨i, k, d, h1, h2, _⟩
  rcases args0_io h i k d h1 with e | e <;> subst e <;> rcases h2 with h2 | h2 <;> cases h2
theorem args0_isIo {ms : List Bool} {ds : List D} (h : args0 ms ds = some ρ0) {i : Nat} {k : Kd} {d : D} (h1 : ρ0[i]? = some (some (k, d))) (n : k ≠ .val) : k.isIo := by
  rcases args0_io h i k d h1 with e | e
  · exact absurd e n
  · exact .inl e
theorem args0_true : ∀ {ms : List Bool} {ds : List D} {ρ0 : Rho}, args0 ms ds = some ρ0 → ∀ i : Nat, ms[i]? = some true → ∃ d, ρ0[i]? = some (some (Kd.io, d))
  | [], _, _, _, i, hi => by simp at hi
  | _ :: _, [], _, h, _, _ => by simp [args0] at h
  | m :: ms, d :: ds, ρ0, h, i, hi => by
    simp only [args0] at h
    obtain ⟨ρ', e1, e2⟩ := Option.bind_eq_some_iff.mp h
    cases e2
    cases i with
    | zero =>
      simp only [List.getElem?_cons_zero, Option.some.injEq] at hi
      subst hi
      exact ⟨d, rfl⟩
    | succ i =>
      obtain ⟨d', h'⟩ := args0_true e1 i (by simpa using hi)
      exact ⟨d', by simpa using h'⟩
theorem cpost_of {ms : List Bool} {ds : List D} {vs : List V} {k : Nat} {outs : List D} {v : V} {r : D × Bool} (ha : args0 ms ds = some ρ0) (hl : vs.length = ms.length) (ho : outsOf ms ρ1 = some outs)
    (P : Post K F (ρ0 ++ List.replicate k none) (vs.map some ++ List.replicate k none) H ρ1 σ1 H1) (hr : ResR K F (ρ0 ++ List.replicate k none) (vs.map some ++ List.replicate k none) H ρ1 σ1 H1 v r) : CPost K F ρ0 (vs.map some) H H1 ms vs outs v r := by
  have io : ∀ b, M ρ0 (vs.map some) b → Io ρ1 σ1 b := fun b ⟨i, kd, d, h1, h2, h3⟩ => by
    obtain ⟨e, k', d', h4, z⟩ := P.io i kd d (ext_put h1) (args0_isIo ha h1 h2)
    exact ⟨i, k', d', h4, z, by rw [e]; exact ext_put h3⟩
  have av : ∀ b, Av F ρ0 (vs.map some) b → F b ∨ Io ρ1 σ1 b := fun b z => z.imp id (io b)
  refine ⟨P.kp.mono fun b w => (ext_m b).mp w.m, P.tr, ?_, ?_⟩
  · refine outs_ok ha ho hl fun i kd d hm hi => ?_
    obtain ⟨d0, h0⟩ := args0_true ha i hm
    obtain ⟨e, k', d', h4, z⟩ := P.io i .io d0 (ext_put h0) (.inl rfl)
    rw [hi] at h4
    cases h4
    obtain ⟨a, ea, _, c⟩ := P.rel.mu i kd d hi (by rcases z with z | z <;> rw [z] <;> decide)
    rw [e] at ea
    have ea := ext_get ea
    rw [List.getElem?_map] at ea
    obtain ⟨x, hx, ex⟩ := Option.map_eq_some_iff.mp ea
    cases ex
    exact ⟨a, hx, c.mono (fun b z => (av b z).imp id Io.m) .refl fun _ z => z⟩
  · unfold ResR at hr
    by_cases h : r.2 = true
    · rw [if_pos h] at hr ⊢
      obtain ⟨a, e, o, c⟩ := hr
      refine ⟨a, e, o.elim (fun z => ?_) id, c.mono (fun b z => ?_) .refl fun _ z => z⟩
      · obtain ⟨i, kd, d, h1, h2, h3⟩ := z
        exact absurd ⟨i, kd, d, ext_get h1, h2, ext_get h3⟩ (args0_oc ha a)
      · rcases z with z | z
        · exact (av b z).imp id .inl
        · exact .inr (.inr z)
    · rw [if_neg h] at hr ⊢
      exact Rp.mono av .refl _ _ hr
end
/-! ### all defs keep their promise -/
/-- what the head tells of the defs -/
def Says (P : Prg) (txt : Nat → Stmt) (K : PySem.W.Frag) (mg : Str → Option Value) : Prop := ∀ (f : Nat) (g : Fn), P.fns[f]? = some g →
  ∃ (a : Addr) (fd : FuncData), mg g.name = some (.ref a) ∧ FunD K g.name g.name (defArgs (txt f)) (defBody (txt f)) (defScope (txt f)) [] [] a fd ∧ Binds K fd g.ps []
section
variable {p : Program} {w : World} {K : PySem.W.Frag} {mg : Str → Option Value} {base : Heap} {P : Prg} {txt : Nat → Stmt}
theorem fns_ok (hc : ∀ f g, P.fns[f]? = some g → chkFn P (txt f) g = true) (hs : Says P txt K mg) (hg : ∀ (k : Nat) (x : Str) (d : D), P.globs[k]? = some (x, d) → ∃ v u, mg x = some u ∧ RelV v u ∧ ∀ A H, Rp K A H v d) (hb : ∀ x ∈ bltns, mg x = none) :
    ∀ (n f : Nat) (g : Fn), P.fns[f]? = some g → ∀ (a : Addr) (fd : FuncData), FunD K g.name g.name (defArgs (txt f)) (defBody (txt f)) (defScope (txt f)) [] [] a fd → FnOk p w K mg base CX0 n a fd g.ps (spR K g.modes (P.run n f))
  | n, f, g, h, a, fd, Fd => by
    have c := hc f g h
    unfold chkFn at c
    simp only [Bool.and_eq_true, decide_eq_true_eq] at c
    obtain ⟨⟨c1, c2⟩, c3⟩ := c
    have S := scB_ok c1
    have len : ∀ vs H Q E, spR K g.modes (P.run n f) vs H Q E → vs.length = g.ps.length := fun vs H Q E q => by
      rw [c2]
      exact spR_len q
    cases n with
    | zero =>
      refine ⟨len, fun A outer s H args us vs Q E hr e0 hb r q => ?_⟩
      obtain ⟨_, _, _, _, _, _, h1, _⟩ := q
      simp [Prg.run] at h1
    | succ n =>
      refine Fd.ok S len fun cdv A outer s H vs Q E hr q => ⟨tXs K (P.cs n) g.body, PSs.nox (sts_ok g.body ⟨g.N, defScope (txt f), fun _ => true⟩ _ _ ?_ c3), ?_⟩
      · refine ⟨rfl, S.nd, rfl, S.kind, fun _ _ => rfl, rfl, rfl, hr, fun f' g' h' => ?_, hg, hb⟩
        obtain ⟨a', fd', e1, e2, e3⟩ := hs f' g' h'
        exact ⟨a', fd', e1, e2.kp, e3, fns_ok hc hs hg hb n f' g' h' a' fd' e2⟩
      · obtain ⟨F, ds, ρ0, r, outs, hl, h1, h2, R, fk, q⟩ := q
        simp only [Prg.run, h] at h1
        rw [h2] at h1
        simp only [Option.bind_some] at h1
        obtain ⟨⟨fl, ρ1⟩, h3, h4⟩ := Option.bind_eq_some_iff.mp h1
        have ld := (outs_len h2).1
        have st : L2.start g.N vs = vs.map some ++ List.replicate (g.N.length - ds.length) none := by
          unfold L2.start
          rw [hl, ld]
        rw [st]
        refine ⟨F, ρ0 ++ List.replicate (g.N.length - ds.length) none, fl, ρ1, h3, R.ext _, fk, ?_⟩
        cases fl with
        | nx =>
          obtain ⟨os, h5, h6⟩ := Option.bind_eq_some_iff.mp h4
          cases h6
          exact fun σ1 H1 P1 => q _ _ (cpost_of h2 hl h5 P1 ((if_neg Bool.false_ne_true).mpr .non))
        | rt r' =>
          obtain ⟨os, h5, h6⟩ := Option.bind_eq_some_iff.mp h4
          cases h6
          exact fun v σ1 H1 P1 rr => q _ _ (cpost_of h2 hl h5 P1 rr)
        | bk => cases h4
        | ct => cases h4
end
end MW

namespace MW
open PySem PySem.Spec PyProof.Rows L2
/-! ### what the head tells -/
def dOfG (g : Fn) (st : Stmt) : He.DefD := ⟨(g.name, none), g.name, g.name, defArgs st, defBody st, defScope st, [], []⟩
def fnL (txt : Nat → Stmt) : Nat → List Fn → List He.DefD
  | _, [] => []
  | i, g :: r => dOfG g (txt i) :: fnL txt (i + 1) r
def glFa (g : Str × D) : He.Fa := match g.2 with
  | .int i => .int g.1 i
  | .str z => .str g.1 z
  | _ => .exc g.1
def faL (P : Prg) : List He.Fa := P.fns.map (fun g => He.Fa.glo g.name) ++ (bltns.map He.Fa.free ++ P.globs.map glFa)
def glB (g : Str × D) : Bool := match g.2 with
  | .int _ => true
  | .str z => PyData.strOk z
  | _ => false
theorem fnL_get {txt : Nat → Stmt} {g : Fn} : ∀ {l : List Fn} {i f : Nat}, l[f]? = some g → (fnL txt i l)[f]? = some (dOfG g (txt (i + f)))
  | [], _, _, h => by simp at h
  | a :: l, i, 0, h => by
    simp only [List.getElem?_cons_zero, Option.some.injEq] at h
    subst h
    rfl
  | a :: l, i, f + 1, h => by
    simp only [List.getElem?_cons_succ] at h
    show (fnL txt (i + 1) l)[f]? = _
    rw [fnL_get h, Nat.add_right_comm]
    rfl
section
variable {K : PySem.W.Frag} {h : Heap} {mg : Str → Option Value} {P : Prg} {txt : Nat → Stmt}
theorem says_of (KX : K.In h) (G : h.Ns mainGlobals mg) (c : He.SaysD (faL P) (fnL txt 0 P.fns) K)
    (hb : ∀ f g, P.fns[f]? = some g → ∀ (kV doc pm : Value) (an : Option Addr) (cdv ct : Value) (us : List Value), us.length = g.ps.length → bindArgs (PySem.W.fnOf g.name g.name (defArgs (txt f)) (defBody (txt f)) (defScope (txt f)) .none kV doc pm an cdv ct) ⟨us, []⟩ = pure (g.ps.zip us)) : Says P txt K mg := by
  intro f g hg
  obtain ⟨fd, F⟩ := c.def_ f (fnL_get hg)
  rw [Nat.zero_add] at F
  have e := He.glo_ok KX G (c.fact (f := .glo g.name) f (by
    unfold faL
    rw [List.getElem?_append_left (by rw [List.length_map]; exact (List.getElem?_eq_some_iff.mp hg).1), List.getElem?_map, hg]
    rfl))
  refine ⟨_, fd, e, F, ?_⟩
  exact FunD.bindsN F (hb f g hg)
theorem free_of (KX : K.In h) (G : h.Ns mainGlobals mg) (c : He.SaysD (faL P) (fnL txt 0 P.fns) K) : ∀ x ∈ bltns, mg x = none := fun x hx => by
  have hm : He.Fa.free x ∈ faL P := List.mem_append_right _ (List.mem_append_left _ (List.mem_map_of_mem hx))
  obtain ⟨i, hi⟩ := List.getElem?_of_mem hm
  exact He.free_ok KX G (c.fact i hi)
theorem globs_of (KX : K.In h) (G : h.Ns mainGlobals mg) (c : He.SaysD (faL P) (fnL txt 0 P.fns) K) (hc : P.globs.all glB = true) : ∀ (k : Nat) (x : Str) (d : D), P.globs[k]? = some (x, d) → ∃ v u, mg x = some u ∧ RelV v u ∧ ∀ A H, Rp K A H v d := fun k x d hk => by
  have hm : glFa (x, d) ∈ faL P := List.mem_append_right _ (List.mem_append_right _ (List.mem_map_of_mem (List.mem_of_getElem? hk)))
  obtain ⟨i, hi⟩ := List.getElem?_of_mem hm
  have q := List.all_eq_true.mp hc _ (List.mem_of_getElem? hk)
  have f := c.fact i hi
  cases d with
  | int j =>
    obtain ⟨t, e⟩ := He.int_ok KX G f
    exact ⟨.int j, _, e, ⟨t, rfl⟩, fun A H => .int j⟩
  | str z =>
    obtain ⟨t, e⟩ := He.str_ok KX G f
    exact ⟨.str z, _, e, ⟨t, rfl⟩, fun A H => .str z q⟩
  | _ => cases q
/-- the law's def, from the head's facts -/
theorem law_facts {p : Program} {w : World} {L N : Nat} {gl : Fn} {fa : Addr} (KX : K.In h) (G : h.Ns mainGlobals mg) (c : He.SaysD (faL P) (fnL txt 0 P.fns) K) (hL : P.fns[L]? = some gl) (hps : gl.ps = [("script" : Str)]) (hmd : gl.modes = [false])
    (hck : ∀ f g, P.fns[f]? = some g → chkFn P (txt f) g = true) (hgl : P.globs.all glB = true)
    (hb : ∀ f g, P.fns[f]? = some g → ∀ (kV doc pm : Value) (an : Option Addr) (cdv ct : Value) (us : List Value), us.length = g.ps.length → bindArgs (PySem.W.fnOf g.name g.name (defArgs (txt f)) (defBody (txt f)) (defScope (txt f)) .none kV doc pm an cdv ct) ⟨us, []⟩ = pure (g.ps.zip us))
    (hfa : mg gl.name = some (.ref fa)) :
    ∃ fd : FuncData, (∀ (s : Shared) (v : Value), BindsTo s fd ⟨[v], []⟩ [("script", v)]) ∧ ∀ base : Heap, K.In base → base.Ns mainGlobals mg → FnOk p w K mg base CX0 N fa fd [("script" : Str)] (spR K [false] (P.run N L)) := by
  have hs := says_of KX G c hb
  obtain ⟨fd, F⟩ := c.def_ L (fnL_get hL)
  rw [Nat.zero_add] at F
  have e := hfa.symm.trans (He.glo_ok KX G (c.fact (f := .glo gl.name) L (by
    unfold faL
    rw [List.getElem?_append_left (by rw [List.length_map]; exact (List.getElem?_eq_some_iff.mp hL).1), List.getElem?_map, hL]
    rfl)))
  have b := FunD.bindsA (ps := gl.ps) F (hb L gl hL)
  rw [hps] at b
  refine ⟨fd, fun s v => b s [v] rfl, fun base _ _ => ?_⟩
  have := fns_ok (p := p) (w := w) (base := base) hck hs (globs_of KX G c hgl) (free_of KX G c) N L gl hL fa fd (by
    cases e
    exact F)
  rw [hps, hmd] at this
  exact this
/-- the law's promise where its run ends in True -/
theorem law_sp {run : List D → Option ((D × Bool) × List D)} {ns : List Int} (hr : run [frzD ns] = some ((.bool true, false), [])) {H : Hp} {a : Addr} (hS : SqL K H a (ns.map V.int)) : spR K [false] run [.ref a] H (fun v _ => v = .bl true) fun _ _ _ => False := by
  have nm : ∀ b, ¬ M ([some (Kd.val, frzD ns)] : Rho) ([V.ref a].map some) b := by
    rintro b ⟨i, k, d, h1, h2, _⟩
    cases i with
    | zero =>
      cases h1
      exact h2 rfl
    | succ i => simp at h1
  refine ⟨fun _ => False, [frzD ns], [some (.val, frzD ns)], (.bool true, false), [], rfl, hr, rfl, ⟨rfl, fun i d h1 => ?_, fun i k d h1 h2 => ?_, fun i j k k' d d' b h1 h2 => ?_⟩, fun _ z => z.elim, fun v H1 P => ?_⟩
  · cases i with
    | zero =>
      cases h1
      refine ⟨_, rfl, .frz ?_⟩
      rcases hS with hS | hS
      · exact .inl ⟨fun z => z.elim id (nm a), hS⟩
      · exact .inr hS
    | succ i => simp at h1
  · cases i with
    | zero =>
      cases h1
      exact absurd rfl h2
    | succ i => simp at h1
  · cases i with
    | zero =>
      cases h1
      exact absurd rfl h2
    | succ i => simp at h1
  · have r := P.res
    rw [if_neg Bool.false_ne_true] at r
    cases r
    rfl
end
end MW

namespace MW
open PySem PySem.Spec PyProof.Rows L2
/-! ### a def's run -/
def runF (C : Calls) (g : Fn) (ds : List D) : Option ((D × Bool) × List D) := (args0 g.modes ds).bind fun ρ => (execs C g.body (ρ ++ List.replicate (g.N.length - ds.length) none)).bind fun (fl, ρ1) => match fl with
  | .rt r => (outsOf g.modes ρ1).bind fun outs => some (r, outs)
  | .nx => (outsOf g.modes ρ1).bind fun outs => some ((.none, false), outs)
  | _ => none
theorem run_eq {P : Prg} {n f : Nat} {g : Fn} (h : P.fns[f]? = some g) (ds : List D) : P.run (n + 1) f ds = runF (P.cs n) g ds := by
  simp only [Prg.run, h]
  rfl
theorem cs_call (P : Prg) (n f : Nat) (ds : List D) : (P.cs n).call f ds = P.run n f ds := rfl
theorem cs_modes (P : Prg) (n f : Nat) : (P.cs n).modes f = P.modes f := rfl
theorem cs_glob (P : Prg) (n f : Nat) : (P.cs n).glob f = P.glob f := rfl
/-! ### slots by what stands there -/
def rdX (x : Option SV) (ρ : Rho) (i : Nat) : Option ((D × Bool) × Rho) := match x with
  | some (some (.val, d)) => some ((d, false), ρ)
  | some (some (.own, d)) => some ((d, false), ρ.set i (some (.val, d)))
  | some (some (.lent, d)) => some ((d, false), ρ.set i (some (.val, d)))
  | _ => none
def leX (x : Option SV) (ρ : Rho) (i : Nat) : Option (D × Rho × List Nat) := match x with
  | some (some (.val, d)) => some (d, ρ, [])
  | some (some (.own, d)) => some (d, ρ.set i (some (.lent, d)), [i])
  | some (some (.io, d)) => some (d, ρ.set i (some (.lio, d)), [i])
  | some (some (.lent, d)) => some (d, ρ, [])
  | some (some (.lio, d)) => some (d, ρ, [])
  | _ => none
def lxX (x : Option SV) (ρ : Rho) (i : Nat) : Option (D × Rho × List Nat) := match x with
  | some (some (.val, d)) => some (d, ρ, [])
  | some (some (.own, d)) => some (d, ρ.set i (some (.lent, d)), [i])
  | some (some (.io, d)) => some (d, ρ.set i (some (.lio, d)), [i])
  | _ => none
def liX (x : Option SV) (ρ : Rho) (i : Nat) : Option (D × Rho) := match x with
  | some (some (.own, d)) => some (d, ρ.set i (some (.lent, d)))
  | some (some (.io, d)) => some (d, ρ.set i (some (.lio, d)))
  | _ => none
def seX (x : Option SV) (i : Nat) (r : D × Bool) (ρ : Rho) : Option Rho := match x with
  | some (some (.io, _)) => none
  | some (some (.lio, _)) => none
  | some _ => some (ρ.set i (some (if r.2 = true then Kd.own else Kd.val, r.1)))
  | none => none
def reX (x : Option SV) (ρ : Rho) : Option ((D × Bool) × Rho) := match x with
  | some (some (.val, d)) => some ((d, false), ρ)
  | some (some (.own, d)) => some ((d, true), ρ)
  | _ => none
def apX (x : Option SV) (i : Nat) (d : D) (ρ : Rho) : Option Rho := match x with
  | some (some (.own, .list ds)) => if ds.length < lim then some (ρ.set i (some (.own, .list (ds ++ [d])))) else none
  | some (some (.io, .list ds)) => if ds.length < lim then some (ρ.set i (some (.io, .list (ds ++ [d])))) else none
  | _ => none
def siX (j : D) (x : Option SV) (i : Nat) (d : D) (ρ : Rho) : Option Rho := match j, x with
  | .int k, some (some (.own, e)) => (stored e k d).bind fun d' => some (ρ.set i (some (.own, d')))
  | .int k, some (some (.io, e)) => (stored e k d).bind fun d' => some (ρ.set i (some (.io, d')))
  | _, _ => none
def auX (b : Bop) (x : Option SV) (i : Nat) (d : D) (ρ : Rho) : Option Rho := match x with
  | some (some (.own, .list ds)) => (augL b ds d).bind fun d => some (ρ.set i (some (.own, d)))
  | some (some (.io, .list ds)) => (augL b ds d).bind fun d => some (ρ.set i (some (.io, d)))
  | some (some (.val, .int x)) => (binF b (.int x) d).bind fun z => some (ρ.set i (some (.val, z.1)))
  | some (some (.val, .str x)) => (binF b (.str x) d).bind fun z => some (ρ.set i (some (.val, z.1)))
  | _ => none
def unX (x : Option SV) (i : Nat) (ρ : Rho) : Rho := match x with
  | some (some (.lent, d)) => ρ.set i (some (.own, d))
  | some (some (.lio, d)) => ρ.set i (some (.io, d))
  | _ => ρ
theorem e_c {C : Calls} {ρ : Rho} {d : D} : ev C (.c d) ρ = some ((d, false), ρ) := rfl
theorem e_v {C : Calls} {ρ : Rho} {i : Nat} : ev C (.v i) ρ = rdX ρ[i]? ρ i := rfl
theorem e_g {C : Calls} {ρ : Rho} {k : Nat} : ev C (.g k) ρ = some ((C.glob k, false), ρ) := rfl
theorem e_tup {C : Calls} {ρ : Rho} {es : List E} : ev C (.tup es) ρ = (evs C es ρ).bind fun (ds, ρ1) => some ((.tuple ds, false), ρ1) := rfl
theorem e_lst {C : Calls} {ρ : Rho} {es : List E} : ev C (.lst es) ρ = (evs C es ρ).bind fun (ds, ρ1) => some ((.list ds, true), ρ1) := rfl
theorem e_op {C : Calls} {ρ : Rho} {o : Op} {es : List E} : ev C (.op o es) ρ = (evbs C es ρ).bind fun (ds, ρ1, B) => (opF o ds).bind fun r => some (r, unlend B ρ1) := rfl
theorem e_and {C : Calls} {ρ : Rho} {a b : E} : ev C (.and a b) ρ = (ev C a ρ).bind fun r => (asBool r).bind fun (x, ρ1) => if x = true then ev C b ρ1 else some ((.bool false, false), ρ1) := rfl
theorem e_or {C : Calls} {ρ : Rho} {a b : E} : ev C (.or a b) ρ = (ev C a ρ).bind fun r => (asBool r).bind fun (x, ρ1) => if x = true then some ((.bool true, false), ρ1) else ev C b ρ1 := rfl
theorem e_not {C : Calls} {ρ : Rho} {a : E} : ev C (.not a) ρ = (ev C a ρ).bind fun r => (asBool r).bind fun (x, ρ1) => some ((.bool !x, false), ρ1) := rfl
theorem e_ite {C : Calls} {ρ : Rho} {c a b : E} : ev C (.ite c a b) ρ = (ev C c ρ).bind fun r => (asBool r).bind fun (x, ρ1) => if x = true then ev C a ρ1 else ev C b ρ1 := rfl
theorem e_chain {C : Calls} {ρ : Rho} {o p : Cop} {a b c : E} : ev C (.chain o p a b c) ρ = (ev C a ρ).bind fun (x, ρ1) => (ev C b ρ1).bind fun (y, ρ2) => (cmpF o x.1 y.1).bind fun k =>
      if k = true then (ev C c ρ2).bind fun (z, ρ3) => (cmpF p y.1 z.1).bind fun l => some ((.bool l, false), ρ3) else some ((.bool false, false), ρ2) := rfl
/-- behind a call -/
def callX (r : Option ((D × Bool) × List D)) (ρ1 : Rho) (B ios : List Nat) : Option ((D × Bool) × Rho) := r.bind fun (r, outs) =>
      if outs.all noElems = true then (putOuts ios outs ρ1).bind fun ρ2 =>
        if noMut r.1 = true then some (r, unlend (ios ++ B) ρ2) else (dropL B (unlend ios ρ2)).bind fun ρ3 => some (r, ρ3)
      else none
theorem e_call {C : Calls} {ρ : Rho} {f : Nat} {es : List E} : ev C (.call f es) ρ = (evas C (C.modes f) es ρ).bind fun (ds, ρ1, B, ios) => if okLent (ios ++ B) ρ1 = true then callX (C.call f ds) ρ1 B ios else none := rfl
theorem callX_some {r : D × Bool} {outs : List D} {ρ1 : Rho} {B ios : List Nat} : callX (some (r, outs)) ρ1 B ios = if outs.all noElems = true then (putOuts ios outs ρ1).bind fun ρ2 => if noMut r.1 = true then some (r, unlend (ios ++ B) ρ2) else (dropL B (unlend ios ρ2)).bind fun ρ3 => some (r, ρ3) else none := rfl
theorem callX_pure {r : D × Bool} {ρ1 : Rho} : callX (some (r, [])) ρ1 [] [] = some (r, ρ1) := by
  unfold callX
  simp only [Option.bind_some, List.all_nil, if_true, putOuts, List.append_nil, unlend, dropL]
  split <;> rfl
/-- a turn of a comprehension -/
def turnC (C : Calls) (elt : E) (tg : Tg) (cond : List E) (own : List Nat) (ρa : Rho) (x : D) : Option (List D × Rho) := (bindTg tg x ρa).bind fun ρb => (evcs C cond ρb).bind fun (k, ρc) =>
          if k = true then (ev C elt ρc).bind fun (r, ρd) => some ([r.1], wipeR own ρd) else some ([], wipeR own ρc)
/-- a turn of a for -/
def turnF (C : Calls) (tg : Tg) (body : List S) (ρa : Rho) (x : D) : Option (Fl × Rho) := (bindTg tg x ρa).bind fun ρb => execs C body ρb
theorem e_comp {C : Calls} {ρ : Rho} {elt : E} {tg : Tg} {sk : Sk} {ses cond : List E} {own : List Nat} : ev C (.comp elt tg sk ses cond own) ρ = (evbs C ses ρ).bind fun (ds, ρ1, B) => (srcF sk ds).bind fun xs =>
      if own.all (plainAt ρ1) = true then (compL (turnC C elt tg cond own) xs (wipeR own ρ1)).bind fun (ys, ρ2) =>
        if ys.length ≤ lim then some ((.list ys, true), unlend B (backR own ρ1 ρ2)) else none
      else none := rfl
theorem es_nil {C : Calls} {ρ : Rho} : evs C [] ρ = some ([], ρ) := rfl
theorem es_cons {C : Calls} {ρ : Rho} {e : E} {es : List E} : evs C (e :: es) ρ = (ev C e ρ).bind fun (r, ρ1) => (evs C es ρ1).bind fun (ds, ρ2) => some (r.1 :: ds, ρ2) := rfl
theorem eb_nil {C : Calls} {ρ : Rho} : evbs C [] ρ = some ([], ρ, []) := rfl
theorem eb_v {C : Calls} {ρ : Rho} {i : Nat} {es : List E} : evbs C (.v i :: es) ρ = (leX ρ[i]? ρ i).bind fun (d, ρ1, B) => (evbs C es ρ1).bind fun (ds, ρ2, B2) => some (d :: ds, ρ2, B ++ B2) := rfl
theorem eb_c {C : Calls} {ρ : Rho} {d : D} {es : List E} : evbs C (.c d :: es) ρ = (ev C (.c d) ρ).bind fun (r, ρ1) => (evbs C es ρ1).bind fun (ds, ρ2, B2) => some (r.1 :: ds, ρ2, B2) := rfl
theorem ea_c {C : Calls} {ρ : Rho} {ms : List Bool} {d : D} {es : List E} : evas C (false :: ms) (.c d :: es) ρ = (ev C (.c d) ρ).bind fun (r, ρ1) => (evas C ms es ρ1).bind fun (ds, ρ2, B, ios) => some (r.1 :: ds, ρ2, B, ios) := rfl
theorem ef_c {C : Calls} {ρ : Rho} {d : D} : exec C (.ret (.c d)) ρ = (ev C (.c d) ρ).bind fun (r, ρ1) => some (.rt r, ρ1) := rfl
theorem eb_g {C : Calls} {ρ : Rho} {k : Nat} {es : List E} : evbs C (.g k :: es) ρ = (ev C (.g k) ρ).bind fun (r, ρ1) => (evbs C es ρ1).bind fun (ds, ρ2, B2) => some (r.1 :: ds, ρ2, B2) := rfl
theorem ea_g {C : Calls} {ρ : Rho} {ms : List Bool} {k : Nat} {es : List E} : evas C (false :: ms) (.g k :: es) ρ = (ev C (.g k) ρ).bind fun (r, ρ1) => (evas C ms es ρ1).bind fun (ds, ρ2, B, ios) => some (r.1 :: ds, ρ2, B, ios) := rfl
theorem ef_g {C : Calls} {ρ : Rho} {k : Nat} : exec C (.ret (.g k)) ρ = (ev C (.g k) ρ).bind fun (r, ρ1) => some (.rt r, ρ1) := rfl
theorem eb_tup {C : Calls} {ρ : Rho} {xs : List E} {es : List E} : evbs C (.tup xs :: es) ρ = (ev C (.tup xs) ρ).bind fun (r, ρ1) => (evbs C es ρ1).bind fun (ds, ρ2, B2) => some (r.1 :: ds, ρ2, B2) := rfl
theorem ea_tup {C : Calls} {ρ : Rho} {ms : List Bool} {xs : List E} {es : List E} : evas C (false :: ms) (.tup xs :: es) ρ = (ev C (.tup xs) ρ).bind fun (r, ρ1) => (evas C ms es ρ1).bind fun (ds, ρ2, B, ios) => some (r.1 :: ds, ρ2, B, ios) := rfl
theorem ef_tup {C : Calls} {ρ : Rho} {xs : List E} : exec C (.ret (.tup xs)) ρ = (ev C (.tup xs) ρ).bind fun (r, ρ1) => some (.rt r, ρ1) := rfl
theorem eb_lst {C : Calls} {ρ : Rho} {xs : List E} {es : List E} : evbs C (.lst xs :: es) ρ = (ev C (.lst xs) ρ).bind fun (r, ρ1) => (evbs C es ρ1).bind fun (ds, ρ2, B2) => some (r.1 :: ds, ρ2, B2) := rfl
theorem ea_lst {C : Calls} {ρ : Rho} {ms : List Bool} {xs : List E} {es : List E} : evas C (false :: ms) (.lst xs :: es) ρ = (ev C (.lst xs) ρ).bind fun (r, ρ1) => (evas C ms es ρ1).bind fun (ds, ρ2, B, ios) => some (r.1 :: ds, ρ2, B, ios) := rfl
theorem ef_lst {C : Calls} {ρ : Rho} {xs : List E} : exec C (.ret (.lst xs)) ρ = (ev C (.lst xs) ρ).bind fun (r, ρ1) => some (.rt r, ρ1) := rfl
theorem eb_op {C : Calls} {ρ : Rho} {o : Op} {xs : List E} {es : List E} : evbs C (.op o xs :: es) ρ = (ev C (.op o xs) ρ).bind fun (r, ρ1) => (evbs C es ρ1).bind fun (ds, ρ2, B2) => some (r.1 :: ds, ρ2, B2) := rfl
theorem ea_op {C : Calls} {ρ : Rho} {ms : List Bool} {o : Op} {xs : List E} {es : List E} : evas C (false :: ms) (.op o xs :: es) ρ = (ev C (.op o xs) ρ).bind fun (r, ρ1) => (evas C ms es ρ1).bind fun (ds, ρ2, B, ios) => some (r.1 :: ds, ρ2, B, ios) := rfl
theorem ef_op {C : Calls} {ρ : Rho} {o : Op} {xs : List E} : exec C (.ret (.op o xs)) ρ = (ev C (.op o xs) ρ).bind fun (r, ρ1) => some (.rt r, ρ1) := rfl
theorem eb_and {C : Calls} {ρ : Rho} {a b : E} {es : List E} : evbs C (.and a b :: es) ρ = (ev C (.and a b) ρ).bind fun (r, ρ1) => (evbs C es ρ1).bind fun (ds, ρ2, B2) => some (r.1 :: ds, ρ2, B2) := rfl
theorem ea_and {C : Calls} {ρ : Rho} {ms : List Bool} {a b : E} {es : List E} : evas C (false :: ms) (.and a b :: es) ρ = (ev C (.and a b) ρ).bind fun (r, ρ1) => (evas C ms es ρ1).bind fun (ds, ρ2, B, ios) => some (r.1 :: ds, ρ2, B, ios) := rfl
theorem ef_and {C : Calls} {ρ : Rho} {a b : E} : exec C (.ret (.and a b)) ρ = (ev C (.and a b) ρ).bind fun (r, ρ1) => some (.rt r, ρ1) := rfl
theorem eb_or {C : Calls} {ρ : Rho} {a b : E} {es : List E} : evbs C (.or a b :: es) ρ = (ev C (.or a b) ρ).bind fun (r, ρ1) => (evbs C es ρ1).bind fun (ds, ρ2, B2) => some (r.1 :: ds, ρ2, B2) := rfl
theorem ea_or {C : Calls} {ρ : Rho} {ms : List Bool} {a b : E} {es : List E} : evas C (false :: ms) (.or a b :: es) ρ = (ev C (.or a b) ρ).bind fun (r, ρ1) => (evas C ms es ρ1).bind fun (ds, ρ2, B, ios) => some (r.1 :: ds, ρ2, B, ios) := rfl
theorem ef_or {C : Calls} {ρ : Rho} {a b : E} : exec C (.ret (.or a b)) ρ = (ev C (.or a b) ρ).bind fun (r, ρ1) => some (.rt r, ρ1) := rfl
theorem eb_not {C : Calls} {ρ : Rho} {a : E} {es : List E} : evbs C (.not a :: es) ρ = (ev C (.not a) ρ).bind fun (r, ρ1) => (evbs C es ρ1).bind fun (ds, ρ2, B2) => some (r.1 :: ds, ρ2, B2) := rfl
theorem ea_not {C : Calls} {ρ : Rho} {ms : List Bool} {a : E} {es : List E} : evas C (false :: ms) (.not a :: es) ρ = (ev C (.not a) ρ).bind fun (r, ρ1) => (evas C ms es ρ1).bind fun (ds, ρ2, B, ios) => some (r.1 :: ds, ρ2, B, ios) := rfl
theorem ef_not {C : Calls} {ρ : Rho} {a : E} : exec C (.ret (.not a)) ρ = (ev C (.not a) ρ).bind fun (r, ρ1) => some (.rt r, ρ1) := rfl
theorem eb_ite {C : Calls} {ρ : Rho} {c a b : E} {es : List E} : evbs C (.ite c a b :: es) ρ = (ev C (.ite c a b) ρ).bind fun (r, ρ1) => (evbs C es ρ1).bind fun (ds, ρ2, B2) => some (r.1 :: ds, ρ2, B2) := rfl
theorem ea_ite {C : Calls} {ρ : Rho} {ms : List Bool} {c a b : E} {es : List E} : evas C (false :: ms) (.ite c a b :: es) ρ = (ev C (.ite c a b) ρ).bind fun (r, ρ1) => (evas C ms es ρ1).bind fun (ds, ρ2, B, ios) => some (r.1 :: ds, ρ2, B, ios) := rfl
theorem ef_ite {C : Calls} {ρ : Rho} {c a b : E} : exec C (.ret (.ite c a b)) ρ = (ev C (.ite c a b) ρ).bind fun (r, ρ1) => some (.rt r, ρ1) := rfl
theorem eb_chain {C : Calls} {ρ : Rho} {o p : Cop} {a b c : E} {es : List E} : evbs C (.chain o p a b c :: es) ρ = (ev C (.chain o p a b c) ρ).bind fun (r, ρ1) => (evbs C es ρ1).bind fun (ds, ρ2, B2) => some (r.1 :: ds, ρ2, B2) := rfl
theorem ea_chain {C : Calls} {ρ : Rho} {ms : List Bool} {o p : Cop} {a b c : E} {es : List E} : evas C (false :: ms) (.chain o p a b c :: es) ρ = (ev C (.chain o p a b c) ρ).bind fun (r, ρ1) => (evas C ms es ρ1).bind fun (ds, ρ2, B, ios) => some (r.1 :: ds, ρ2, B, ios) := rfl
theorem ef_chain {C : Calls} {ρ : Rho} {o p : Cop} {a b c : E} : exec C (.ret (.chain o p a b c)) ρ = (ev C (.chain o p a b c) ρ).bind fun (r, ρ1) => some (.rt r, ρ1) := rfl
theorem eb_call {C : Calls} {ρ : Rho} {f : Nat} {xs : List E} {es : List E} : evbs C (.call f xs :: es) ρ = (ev C (.call f xs) ρ).bind fun (r, ρ1) => (evbs C es ρ1).bind fun (ds, ρ2, B2) => some (r.1 :: ds, ρ2, B2) := rfl
theorem ea_call {C : Calls} {ρ : Rho} {ms : List Bool} {f : Nat} {xs : List E} {es : List E} : evas C (false :: ms) (.call f xs :: es) ρ = (ev C (.call f xs) ρ).bind fun (r, ρ1) => (evas C ms es ρ1).bind fun (ds, ρ2, B, ios) => some (r.1 :: ds, ρ2, B, ios) := rfl
theorem ef_call {C : Calls} {ρ : Rho} {f : Nat} {xs : List E} : exec C (.ret (.call f xs)) ρ = (ev C (.call f xs) ρ).bind fun (r, ρ1) => some (.rt r, ρ1) := rfl
theorem eb_comp {C : Calls} {ρ : Rho} {elt : E} {tg : Tg} {sk : Sk} {ses cond : List E} {own : List Nat} {es : List E} : evbs C (.comp elt tg sk ses cond own :: es) ρ = (ev C (.comp elt tg sk ses cond own) ρ).bind fun (r, ρ1) => (evbs C es ρ1).bind fun (ds, ρ2, B2) => some (r.1 :: ds, ρ2, B2) := rfl
theorem ea_comp {C : Calls} {ρ : Rho} {ms : List Bool} {elt : E} {tg : Tg} {sk : Sk} {ses cond : List E} {own : List Nat} {es : List E} : evas C (false :: ms) (.comp elt tg sk ses cond own :: es) ρ = (ev C (.comp elt tg sk ses cond own) ρ).bind fun (r, ρ1) => (evas C ms es ρ1).bind fun (ds, ρ2, B, ios) => some (r.1 :: ds, ρ2, B, ios) := rfl
theorem ef_comp {C : Calls} {ρ : Rho} {elt : E} {tg : Tg} {sk : Sk} {ses cond : List E} {own : List Nat} : exec C (.ret (.comp elt tg sk ses cond own)) ρ = (ev C (.comp elt tg sk ses cond own) ρ).bind fun (r, ρ1) => some (.rt r, ρ1) := rfl
theorem eb_pop {C : Calls} {ρ : Rho} {i : Nat} {es : List E} : evbs C (.pop i :: es) ρ = (ev C (.pop i) ρ).bind fun (r, ρ1) => (evbs C es ρ1).bind fun (ds, ρ2, B2) => some (r.1 :: ds, ρ2, B2) := rfl
theorem ea_pop {C : Calls} {ρ : Rho} {ms : List Bool} {i : Nat} {es : List E} : evas C (false :: ms) (.pop i :: es) ρ = (ev C (.pop i) ρ).bind fun (r, ρ1) => (evas C ms es ρ1).bind fun (ds, ρ2, B, ios) => some (r.1 :: ds, ρ2, B, ios) := rfl
theorem ef_pop {C : Calls} {ρ : Rho} {i : Nat} : exec C (.ret (.pop i)) ρ = (ev C (.pop i) ρ).bind fun (r, ρ1) => some (.rt r, ρ1) := rfl
theorem ea_nil {C : Calls} {ρ : Rho} : evas C [] [] ρ = some ([], ρ, [], []) := rfl
theorem ea_v {C : Calls} {ρ : Rho} {ms : List Bool} {i : Nat} {es : List E} : evas C (false :: ms) (.v i :: es) ρ = (lxX ρ[i]? ρ i).bind fun (d, ρ1, B1) => (evas C ms es ρ1).bind fun (ds, ρ2, B, ios) => some (d :: ds, ρ2, B1 ++ B, ios) := by
  simp only [evas]
  split <;> simp_all [lxX]
theorem ea_io {C : Calls} {ρ : Rho} {ms : List Bool} {i : Nat} {es : List E} : evas C (true :: ms) (.v i :: es) ρ = (liX ρ[i]? ρ i).bind fun (d, ρ1) => (evas C ms es ρ1).bind fun (ds, ρ2, B, ios) => some (d :: ds, ρ2, B, i :: ios) := by
  simp only [evas]
  split <;> simp_all [liX]
theorem ec_nil {C : Calls} {ρ : Rho} : evcs C [] ρ = some (true, ρ) := rfl
theorem ec_one {C : Calls} {ρ : Rho} {e : E} : evcs C [e] ρ = (ev C e ρ).bind asBool := rfl
theorem ep_nil {C : Calls} {ρ : Rho} : evfs C [] ρ = some ([], ρ) := rfl
theorem ep_cons {C : Calls} {ρ : Rho} {e : E} {es : List E} : evfs C (e :: es) ρ = (ev C e ρ).bind fun (r, ρ1) => (evfs C es ρ1).bind fun (ds, ρ2) => some (r :: ds, ρ2) := rfl
theorem x_asgn {C : Calls} {ρ : Rho} {i : Nat} {e : E} : exec C (.asg (.n i) e) ρ = (ev C e ρ).bind fun (r, ρ1) => (seX ρ1[i]? i r ρ1).bind fun ρ2 => some (.nx, ρ2) := rfl
theorem x_asgt {C : Calls} {ρ : Rho} {ts : List Tg} {e : E} : exec C (.asg (.t ts) e) ρ = (ev C e ρ).bind fun (r, ρ1) => (bindTg (.t ts) r.1 ρ1).bind fun ρ2 => some (.nx, ρ2) := rfl
theorem x_par {C : Calls} {ρ : Rho} {is : List Nat} {es : List E} : exec C (.par is es) ρ = (evfs C es ρ).bind fun (rs, ρ1) => (setvs is rs ρ1).bind fun ρ2 => some (.nx, ρ2) := rfl
theorem x_ex {C : Calls} {ρ : Rho} {e : E} : exec C (.ex e) ρ = (ev C e ρ).bind fun (_, ρ1) => some (.nx, ρ1) := rfl
theorem x_retv {C : Calls} {ρ : Rho} {i : Nat} : exec C (.ret (.v i)) ρ = (reX ρ[i]? ρ).bind fun (r, ρ1) => some (.rt r, ρ1) := rfl
theorem x_retN {C : Calls} {ρ : Rho} : exec C .retN ρ = some (.rt (.none, false), ρ) := rfl
theorem x_ife {C : Calls} {ρ : Rho} {c : E} {a b : List S} : exec C (.ife c a b) ρ = (ev C c ρ).bind fun r => (asBool r).bind fun (k, ρ1) => if k = true then execs C a ρ1 else execs C b ρ1 := rfl
theorem x_for {C : Calls} {ρ : Rho} {tg : Tg} {sk : Sk} {ses : List E} {body : List S} : exec C (.forS tg sk ses body) ρ = (evs C ses ρ).bind fun (ds, ρ1) => (srcF sk ds).bind fun xs => forL (turnF C tg body) xs ρ1 := rfl
theorem x_brk {C : Calls} {ρ : Rho} : exec C .brk ρ = some (.bk, ρ) := rfl
theorem x_cont {C : Calls} {ρ : Rho} : exec C .cont ρ = some (.ct, ρ) := rfl
theorem x_pass {C : Calls} {ρ : Rho} : exec C .pass ρ = some (.nx, ρ) := rfl
theorem x_append {C : Calls} {ρ : Rho} {i : Nat} {e : E} : exec C (.append i e) ρ = if mutAt ρ i = true then (ev C e ρ).bind fun (r, ρ1) => (apX ρ1[i]? i r.1 ρ1).bind fun ρ2 => some (.nx, ρ2) else none := by
  simp only [exec]
  split
  · congr 1
    funext x
    obtain ⟨r, ρ1⟩ := x
    dsimp only
    unfold apX
    generalize ρ1[i]? = y
    split
    · split <;> first | rfl | (rename_i h; simp only [h, if_true, if_false]; rfl)
    · split <;> first | rfl | (rename_i h; simp only [h, if_true, if_false]; rfl)
    · first | rfl | (split <;> first | rfl | simp_all)
  · rfl
theorem x_setix {C : Calls} {ρ : Rho} {i : Nat} {ix e : E} : exec C (.setix i ix e) ρ = if mutAt ρ i = true then (ev C e ρ).bind fun (r, ρ1) => (ev C ix ρ1).bind fun (j, ρ2) => (siX j.1 ρ2[i]? i r.1 ρ2).bind fun ρ3 => some (.nx, ρ3) else none := by
  simp only [exec]
  split
  · congr 1
    funext x
    obtain ⟨r, ρ1⟩ := x
    dsimp only
    congr 1
    funext x
    obtain ⟨j, ρ2⟩ := x
    dsimp only
    unfold siX
    split <;> simp_all [Option.bind_assoc]
  · rfl
theorem x_aug {C : Calls} {ρ : Rho} {i : Nat} {b : Bop} {e : E} : exec C (.aug i b e) ρ = if augAt ρ i = true then (ev C e ρ).bind fun (r, ρ1) => (auX b ρ1[i]? i r.1 ρ1).bind fun ρ2 => some (.nx, ρ2) else none := by
  simp only [exec]
  split
  · congr 1
    funext x
    obtain ⟨r, ρ1⟩ := x
    dsimp only
    unfold auX
    split <;> simp_all [Option.bind_assoc]
  · rfl
theorem xs_nil {C : Calls} {ρ : Rho} : execs C [] ρ = some (.nx, ρ) := rfl
/-- what follows a statement -/
def thenX (C : Calls) (ss : List S) (x : Fl × Rho) : Option (Fl × Rho) := match x.1 with
  | .nx => execs C ss x.2
  | .bk => some (.bk, x.2)
  | .ct => some (.ct, x.2)
  | .rt r => some (.rt r, x.2)
theorem xs_cons {C : Calls} {ρ : Rho} {s : S} {ss : List S} : execs C (s :: ss) ρ = (exec C s ρ).bind (thenX C ss) := rfl
theorem th_nx {C : Calls} {ρ : Rho} {ss : List S} : thenX C ss (.nx, ρ) = execs C ss ρ := rfl
theorem th_bk {C : Calls} {ρ : Rho} {ss : List S} : thenX C ss (.bk, ρ) = some (.bk, ρ) := rfl
theorem th_ct {C : Calls} {ρ : Rho} {ss : List S} : thenX C ss (.ct, ρ) = some (.ct, ρ) := rfl
theorem th_rt {C : Calls} {ρ : Rho} {ss : List S} {r : D × Bool} : thenX C ss (.rt r, ρ) = some (.rt r, ρ) := rfl
theorem as_bool {b f : Bool} {ρ : Rho} : asBool ((.bool b, f), ρ) = some (b, ρ) := rfl
theorem rd_val {d : D} {ρ : Rho} {i : Nat} : rdX (some (some (.val, d))) ρ i = some ((d, false), ρ) := rfl
theorem rd_own {d : D} {ρ : Rho} {i : Nat} : rdX (some (some (.own, d))) ρ i = some ((d, false), ρ.set i (some (.val, d))) := rfl
theorem rd_lent {d : D} {ρ : Rho} {i : Nat} : rdX (some (some (.lent, d))) ρ i = some ((d, false), ρ.set i (some (.val, d))) := rfl
theorem le_val {d : D} {ρ : Rho} {i : Nat} : leX (some (some (.val, d))) ρ i = some (d, ρ, []) := rfl
theorem le_own {d : D} {ρ : Rho} {i : Nat} : leX (some (some (.own, d))) ρ i = some (d, ρ.set i (some (.lent, d)), [i]) := rfl
theorem le_io {d : D} {ρ : Rho} {i : Nat} : leX (some (some (.io, d))) ρ i = some (d, ρ.set i (some (.lio, d)), [i]) := rfl
theorem le_lent {d : D} {ρ : Rho} {i : Nat} : leX (some (some (.lent, d))) ρ i = some (d, ρ, []) := rfl
theorem le_lio {d : D} {ρ : Rho} {i : Nat} : leX (some (some (.lio, d))) ρ i = some (d, ρ, []) := rfl
theorem lx_val {d : D} {ρ : Rho} {i : Nat} : lxX (some (some (.val, d))) ρ i = some (d, ρ, []) := rfl
theorem lx_own {d : D} {ρ : Rho} {i : Nat} : lxX (some (some (.own, d))) ρ i = some (d, ρ.set i (some (.lent, d)), [i]) := rfl
theorem lx_io {d : D} {ρ : Rho} {i : Nat} : lxX (some (some (.io, d))) ρ i = some (d, ρ.set i (some (.lio, d)), [i]) := rfl
theorem li_own {d : D} {ρ : Rho} {i : Nat} : liX (some (some (.own, d))) ρ i = some (d, ρ.set i (some (.lent, d))) := rfl
theorem li_io {d : D} {ρ : Rho} {i : Nat} : liX (some (some (.io, d))) ρ i = some (d, ρ.set i (some (.lio, d))) := rfl
theorem se_val {d : D} {i : Nat} {r : D × Bool} {ρ : Rho} : seX (some (some (.val, d))) i r ρ = some (ρ.set i (some (if r.2 = true then Kd.own else Kd.val, r.1))) := rfl
theorem se_own {d : D} {i : Nat} {r : D × Bool} {ρ : Rho} : seX (some (some (.own, d))) i r ρ = some (ρ.set i (some (if r.2 = true then Kd.own else Kd.val, r.1))) := rfl
theorem se_lent {d : D} {i : Nat} {r : D × Bool} {ρ : Rho} : seX (some (some (.lent, d))) i r ρ = some (ρ.set i (some (if r.2 = true then Kd.own else Kd.val, r.1))) := rfl
theorem se_none {i : Nat} {r : D × Bool} {ρ : Rho} : seX (some none) i r ρ = some (ρ.set i (some (if r.2 = true then Kd.own else Kd.val, r.1))) := rfl
theorem re_val {d : D} {ρ : Rho} : reX (some (some (.val, d))) ρ = some ((d, false), ρ) := rfl
theorem re_own {d : D} {ρ : Rho} : reX (some (some (.own, d))) ρ = some ((d, true), ρ) := rfl
theorem ap_own {ds : List D} {d : D} {i : Nat} {ρ : Rho} : apX (some (some (.own, .list ds))) i d ρ = if ds.length < lim then some (ρ.set i (some (.own, .list (ds ++ [d])))) else none := rfl
theorem ap_io {ds : List D} {d : D} {i : Nat} {ρ : Rho} : apX (some (some (.io, .list ds))) i d ρ = if ds.length < lim then some (ρ.set i (some (.io, .list (ds ++ [d])))) else none := rfl
theorem si_own {k : Int} {e d : D} {i : Nat} {ρ : Rho} : siX (.int k) (some (some (.own, e))) i d ρ = (stored e k d).bind fun d' => some (ρ.set i (some (.own, d'))) := rfl
theorem si_io {k : Int} {e d : D} {i : Nat} {ρ : Rho} : siX (.int k) (some (some (.io, e))) i d ρ = (stored e k d).bind fun d' => some (ρ.set i (some (.io, d'))) := rfl
theorem au_own {b : Bop} {ds : List D} {d : D} {i : Nat} {ρ : Rho} : auX b (some (some (.own, .list ds))) i d ρ = (augL b ds d).bind fun d => some (ρ.set i (some (.own, d))) := rfl
theorem au_io {b : Bop} {ds : List D} {d : D} {i : Nat} {ρ : Rho} : auX b (some (some (.io, .list ds))) i d ρ = (augL b ds d).bind fun d => some (ρ.set i (some (.io, d))) := rfl
theorem au_int {b : Bop} {x : Int} {d : D} {i : Nat} {ρ : Rho} : auX b (some (some (.val, .int x))) i d ρ = (binF b (.int x) d).bind fun z => some (ρ.set i (some (.val, z.1))) := rfl
theorem au_str {b : Bop} {x : Str} {d : D} {i : Nat} {ρ : Rho} : auX b (some (some (.val, .str x))) i d ρ = (binF b (.str x) d).bind fun z => some (ρ.set i (some (.val, z.1))) := rfl
theorem bt_n {i : Nat} {d : D} {ρ : Rho} : bindTg (.n i) d ρ = seX ρ[i]? i (d, false) ρ := rfl
theorem bt_t {ts : List Tg} {ds : List D} {ρ : Rho} : bindTg (.t ts) (.tuple ds) ρ = bindTgs ts ds ρ := rfl
theorem bts_nil {ρ : Rho} : bindTgs [] [] ρ = some ρ := rfl
theorem bts_cons {t : Tg} {ts : List Tg} {d : D} {ds : List D} {ρ : Rho} : bindTgs (t :: ts) (d :: ds) ρ = (bindTg t d ρ).bind (bindTgs ts ds) := rfl
theorem sv_nil {ρ : Rho} : setvs [] [] ρ = some ρ := rfl
theorem sv_cons {i : Nat} {is : List Nat} {r : D × Bool} {rs : List (D × Bool)} {ρ : Rho} : setvs (i :: is) (r :: rs) ρ = (setvs is rs ρ).bind fun ρ1 => seX ρ1[i]? i r ρ1 := rfl
theorem un_nil {ρ : Rho} : unlend [] ρ = ρ := rfl
theorem un_cons {i : Nat} {B : List Nat} {ρ : Rho} : unlend (i :: B) ρ = unlend B (unX ρ[i]? i ρ) := rfl
theorem un_lent {i : Nat} {d : D} {ρ : Rho} : unX (some (some (.lent, d))) i ρ = ρ.set i (some (.own, d)) := rfl
theorem un_lio {i : Nat} {d : D} {ρ : Rho} : unX (some (some (.lio, d))) i ρ = ρ.set i (some (.io, d)) := rfl
theorem un_val {i : Nat} {d : D} {ρ : Rho} : unX (some (some (.val, d))) i ρ = ρ := rfl
theorem un_own {i : Nat} {d : D} {ρ : Rho} : unX (some (some (.own, d))) i ρ = ρ := rfl
theorem un_io {i : Nat} {d : D} {ρ : Rho} : unX (some (some (.io, d))) i ρ = ρ := rfl
theorem o_cmp {c : Cop} {x y : D} : opF (.cmp c) [x, y] = (cmpF c x y).bind bl1 := rfl
theorem o_bin {b : Bop} {x y : D} : opF (.bin b) [x, y] = binF b x y := rfl
theorem o_bi {f : Bi} {ds : List D} : opF (.bi f) ds = biF f ds := rfl
theorem o_ix {x y : D} : opF .ix [x, y] = ixF x y := rfl
theorem o_sl0 {x : D} : opF (.sl false false) [x] = slF x none none := rfl
theorem o_sl1 {x : D} {i : Int} : opF (.sl true false) [x, .int i] = slF x (some i) none := rfl
theorem o_sl2 {x : D} {i : Int} : opF (.sl false true) [x, .int i] = slF x none (some i) := rfl
theorem o_sl3 {x : D} {i j : Int} : opF (.sl true true) [x, .int i, .int j] = slF x (some i) (some j) := rfl
theorem o_revl {ds : List D} : opF .rev [.list ds] = some (.list ds.reverse, true) := rfl
theorem o_revt {ds : List D} : opF .rev [.tuple ds] = some (.tuple ds.reverse, false) := rfl
theorem o_neg {i : Int} : opF .neg [.int i] = some (.int (-i), false) := rfl
theorem o_meth {m : Mt} {ds : List D} : opF (.meth m) ds = mtF m ds := rfl
theorem bl_1 {b : Bool} : bl1 b = some (.bool b, false) := rfl
theorem b_add {i j : Int} : binF .add (.int i) (.int j) = some (.int (i + j), false) := rfl
theorem b_adds {x y : Str} : binF .add (.str x) (.str y) = if x.length + y.length ≤ lim then some (.str (x ++ y), false) else none := rfl
theorem b_addl {xs ys : List D} : binF .add (.list xs) (.list ys) = if xs.length + ys.length ≤ lim then some (.list (xs ++ ys), true) else none := rfl
theorem b_addt {xs ys : List D} : binF .add (.tuple xs) (.tuple ys) = if xs.length + ys.length ≤ lim then some (.tuple (xs ++ ys), false) else none := rfl
theorem b_sub {i j : Int} : binF .sub (.int i) (.int j) = some (.int (i - j), false) := rfl
theorem b_mul {i j : Int} : binF .mul (.int i) (.int j) = if (decide (i.natAbs < 2 ^ 64) || decide (j.natAbs < 2 ^ 64)) = true then some (.int (i * j), false) else none := rfl
theorem b_fdiv {i j : Int} : binF .fdiv (.int i) (.int j) = if (decide (0 < j) && decide (j < 1073741824)) = true then some (.int (i / j), false) else none := rfl
theorem b_mod {i j : Int} : binF .mod (.int i) (.int j) = if 0 < j then some (.int (i % j), false) else none := rfl
theorem b_pow {i j : Int} : binF .pow (.int i) (.int j) = if (decide (0 ≤ j) && decide (j ≤ 1000) && decide (i.natAbs < 2 ^ 64)) = true then some (.int (i ^ j.toNat), false) else none := rfl
theorem b_and {i j : Int} : binF .band (.int i) (.int j) = some (.int (Builtin.bitAnd i j), false) := rfl
theorem b_or {i j : Int} : binF .bor (.int i) (.int j) = some (.int (Builtin.bitOr i j), false) := rfl
theorem b_xor {i j : Int} : binF .bxor (.int i) (.int j) = some (.int (Builtin.bitXor i j), false) := rfl
theorem c_eq {a b : D} : cmpF .eq a b = if eqOk a b = true then some (PyData.eqv a b) else none := rfl
theorem c_ne {a b : D} : cmpF .ne a b = if eqOk a b = true then some (!PyData.eqv a b) else none := rfl
theorem c_lt {i j : Int} : cmpF .lt (.int i) (.int j) = some (decide (i < j)) := rfl
theorem c_le {i j : Int} : cmpF .le (.int i) (.int j) = some (decide (i ≤ j)) := rfl
theorem c_gt {i j : Int} : cmpF .gt (.int i) (.int j) = some (decide (j < i)) := rfl
theorem c_ge {i j : Int} : cmpF .ge (.int i) (.int j) = some (decide (j ≤ i)) := rfl
theorem c_lts {x y : Str} : cmpF .lt (.str x) (.str y) = some (decide (x.cps.toList < y.cps.toList)) := rfl
theorem c_les {x y : Str} : cmpF .le (.str x) (.str y) = some (!decide (y.cps.toList < x.cps.toList)) := rfl
theorem c_gts {x y : Str} : cmpF .gt (.str x) (.str y) = some (decide (y.cps.toList < x.cps.toList)) := rfl
theorem c_ges {x y : Str} : cmpF .ge (.str x) (.str y) = some (!decide (x.cps.toList < y.cps.toList)) := rfl
theorem c_in {x y : D} : cmpF .isin x y = inF x y := rfl
theorem c_nin {x y : D} : cmpF .nin x y = (inF x y).map (!·) := rfl
theorem c_is_none  : cmpF .is (.none) .none = some true := rfl
theorem c_nis_none  : cmpF .nis (.none) .none = some false := rfl
theorem i_int_none  : biF (.isi .int) [.none] = some (.bool false, false) := rfl
theorem i_bool_none  : biF (.isi .bool) [.none] = some (.bool false, false) := rfl
theorem i_str_none  : biF (.isi .str) [.none] = some (.bool false, false) := rfl
theorem i_tuple_none  : biF (.isi .tuple) [.none] = some (.bool false, false) := rfl
theorem i_list_none  : biF (.isi .list) [.none] = some (.bool false, false) := rfl
theorem c_is_bool {b : Bool} : cmpF .is (.bool b) .none = some false := rfl
theorem c_nis_bool {b : Bool} : cmpF .nis (.bool b) .none = some true := rfl
theorem i_int_bool {b : Bool} : biF (.isi .int) [.bool b] = some (.bool true, false) := rfl
theorem i_bool_bool {b : Bool} : biF (.isi .bool) [.bool b] = some (.bool true, false) := rfl
theorem i_str_bool {b : Bool} : biF (.isi .str) [.bool b] = some (.bool false, false) := rfl
theorem i_tuple_bool {b : Bool} : biF (.isi .tuple) [.bool b] = some (.bool false, false) := rfl
theorem i_list_bool {b : Bool} : biF (.isi .list) [.bool b] = some (.bool false, false) := rfl
theorem c_is_int {i : Int} : cmpF .is (.int i) .none = some false := rfl
theorem c_nis_int {i : Int} : cmpF .nis (.int i) .none = some true := rfl
theorem i_int_int {i : Int} : biF (.isi .int) [.int i] = some (.bool true, false) := rfl
theorem i_bool_int {i : Int} : biF (.isi .bool) [.int i] = some (.bool false, false) := rfl
theorem i_str_int {i : Int} : biF (.isi .str) [.int i] = some (.bool false, false) := rfl
theorem i_tuple_int {i : Int} : biF (.isi .tuple) [.int i] = some (.bool false, false) := rfl
theorem i_list_int {i : Int} : biF (.isi .list) [.int i] = some (.bool false, false) := rfl
theorem c_is_str {s : Str} : cmpF .is (.str s) .none = some false := rfl
theorem c_nis_str {s : Str} : cmpF .nis (.str s) .none = some true := rfl
theorem i_int_str {s : Str} : biF (.isi .int) [.str s] = some (.bool false, false) := rfl
theorem i_bool_str {s : Str} : biF (.isi .bool) [.str s] = some (.bool false, false) := rfl
theorem i_str_str {s : Str} : biF (.isi .str) [.str s] = some (.bool true, false) := rfl
theorem i_tuple_str {s : Str} : biF (.isi .tuple) [.str s] = some (.bool false, false) := rfl
theorem i_list_str {s : Str} : biF (.isi .list) [.str s] = some (.bool false, false) := rfl
theorem c_is_list {l : List D} : cmpF .is (.list l) .none = some false := rfl
theorem c_nis_list {l : List D} : cmpF .nis (.list l) .none = some true := rfl
theorem i_int_list {l : List D} : biF (.isi .int) [.list l] = some (.bool false, false) := rfl
theorem i_bool_list {l : List D} : biF (.isi .bool) [.list l] = some (.bool false, false) := rfl
theorem i_str_list {l : List D} : biF (.isi .str) [.list l] = some (.bool false, false) := rfl
theorem i_tuple_list {l : List D} : biF (.isi .tuple) [.list l] = some (.bool false, false) := rfl
theorem i_list_list {l : List D} : biF (.isi .list) [.list l] = some (.bool true, false) := rfl
theorem c_is_tuple {l : List D} : cmpF .is (.tuple l) .none = some false := rfl
theorem c_nis_tuple {l : List D} : cmpF .nis (.tuple l) .none = some true := rfl
theorem i_int_tuple {l : List D} : biF (.isi .int) [.tuple l] = some (.bool false, false) := rfl
theorem i_bool_tuple {l : List D} : biF (.isi .bool) [.tuple l] = some (.bool false, false) := rfl
theorem i_str_tuple {l : List D} : biF (.isi .str) [.tuple l] = some (.bool false, false) := rfl
theorem i_tuple_tuple {l : List D} : biF (.isi .tuple) [.tuple l] = some (.bool true, false) := rfl
theorem i_list_tuple {l : List D} : biF (.isi .list) [.tuple l] = some (.bool false, false) := rfl
theorem c_isb {a b : Bool} : cmpF .is (.bool a) (.bool b) = some (decide (a = b)) := rfl
theorem c_nisb {a b : Bool} : cmpF .nis (.bool a) (.bool b) = some (!decide (a = b)) := rfl
theorem f_lenl {ds : List D} : biF .len [.list ds] = some (.int ds.length, false) := rfl
theorem f_lent {ds : List D} : biF .len [.tuple ds] = some (.int ds.length, false) := rfl
theorem f_lens {x : Str} : biF .len [.str x] = if x.length ≤ lim then some (.int x.length, false) else none := rfl
theorem f_abs {i : Int} : biF .abs [.int i] = some (.int (if i < 0 then -i else i), false) := rfl
theorem f_int {i : Int} : biF .int [.int i] = some (.int i, false) := rfl
theorem f_intb {b : Bool} : biF .int [.bool b] = some (.int (if b then 1 else 0), false) := rfl
theorem f_str {x : Str} : biF .str [.str x] = some (.str x, false) := rfl
theorem f_listl {ds : List D} : biF .list [.list ds] = some (.list ds, true) := rfl
theorem f_listt {ds : List D} : biF .list [.tuple ds] = some (.list ds, true) := rfl
theorem f_listf {ns : List Int} : biF .list [frzD ns] = some (.list (ns.map .int), true) := rfl
theorem f_tupl {ds : List D} : biF .tuple [.list ds] = some (.tuple ds, false) := rfl
theorem f_tupt {ds : List D} : biF .tuple [.tuple ds] = some (.tuple ds, false) := rfl
theorem f_sum {ds : List D} : biF .sum [.list ds] = (intsOf ds).bind fun ns => some (.int ns.sum, false) := rfl
theorem f_all {ds : List D} : biF .all [.list ds] = (blsOf ds).bind fun bs => some (.bool (bs.all id), false) := rfl
theorem f_any {ds : List D} : biF .any [.list ds] = (blsOf ds).bind fun bs => some (.bool (bs.any id), false) := rfl
theorem f_max2 {i j : Int} : biF .max2 [.int i, .int j] = some (.int (if j > i then j else i), false) := rfl
theorem f_min2 {i j : Int} : biF .min2 [.int i, .int j] = some (.int (if j < i then j else i), false) := rfl
theorem x_l {ds : List D} {i : Int} : ixF (.list ds) (.int i) = (atI ds i).bind some1 := rfl
theorem x_t {ds : List D} {i : Int} : ixF (.tuple ds) (.int i) = (atI ds i).bind some1 := rfl
theorem x_s {z : Str} {i : Int} : ixF (.str z) (.int i) = if z.length ≤ lim then (atI z.cps.toList i).bind fun c => some1 (.str ⟨#[c]⟩) else none := rfl
theorem some_1 {d : D} : some1 d = some (d, false) := rfl
theorem s_l {ds : List D} {lo hi : Option Int} : slF (.list ds) lo hi = some (.list (cutD ds lo hi), true) := rfl
theorem s_t {ds : List D} {lo hi : Option Int} : slF (.tuple ds) lo hi = some (.tuple (cutD ds lo hi), false) := rfl
theorem r_any {ds : List D} : srcF .any [.list ds] = some ds := rfl
theorem r_anyt {ds : List D} : srcF .any [.tuple ds] = some ds := rfl
theorem r_anys {z : Str} : srcF .any [.str z] = some (signs z) := rfl
theorem r_rng1 {j : Int} : srcF .rng1 [.int j] = if (decide (j < 2 ^ 62) && decide (-(2 ^ 62) ≤ j)) = true then some (rngF 0 j.toNat) else none := rfl
theorem r_rng2 {i j : Int} : srcF .rng2 [.int i, .int j] = if (decide (j < 2 ^ 62) && decide (-(2 ^ 62) ≤ j) && decide (i < 2 ^ 62) && decide (-(2 ^ 62) ≤ i)) = true then some (rngF i (j - i).toNat) else none := rfl
theorem r_zipl {xs ys : List D} : srcF .zip [.list xs, .list ys] = some (zipF xs ys) := rfl
theorem r_zipt {xs ys : List D} : srcF .zip [.tuple xs, .tuple ys] = some (zipF xs ys) := rfl
theorem r_enum {xs : List D} : srcF .enum [.list xs] = some (enumF 0 xs) := rfl
theorem st_l {ds : List D} {i : Int} {x : D} : stored (.list ds) i x = (ixN ds.length i).bind fun j => some (.list (ds.set j x)) := rfl
theorem a0_nil : args0 [] [] = some [] := rfl
theorem a0_cons {m : Bool} {ms : List Bool} {d : D} {ds : List D} : args0 (m :: ms) (d :: ds) = (args0 ms ds).bind fun ρ => some (some (if m = true then Kd.io else Kd.val, d) :: ρ) := rfl
theorem oo_nil {ρ : Rho} : outsOf [] ρ = some [] := rfl
theorem oo_f {ms : List Bool} {x : SV} {ρ : Rho} : outsOf (false :: ms) (x :: ρ) = outsOf ms ρ := rfl
theorem oo_t {ms : List Bool} {d : D} {ρ : Rho} : outsOf (true :: ms) (some (.io, d) :: ρ) = (outsOf ms ρ).map (d :: ·) := rfl
/-- the end of a def's run -/
def endX (modes : List Bool) (x : Fl × Rho) : Option ((D × Bool) × List D) := match x.1 with
  | .rt r => (outsOf modes x.2).bind fun outs => some (r, outs)
  | .nx => (outsOf modes x.2).bind fun outs => some ((.none, false), outs)
  | _ => none
theorem run_f {C : Calls} {nm : Str} {ps N : List Str} {modes : List Bool} {body : List S} {ds : List D} : runF C ⟨nm, ps, N, modes, body⟩ ds = (args0 modes ds).bind fun ρ => (execs C body (ρ ++ List.replicate (N.length - ds.length) none)).bind (endX modes) := rfl
theorem end_rt {modes : List Bool} {r : D × Bool} {ρ : Rho} : endX modes (.rt r, ρ) = (outsOf modes ρ).bind fun outs => some (r, outs) := rfl
theorem end_nx {modes : List Bool} {ρ : Rho} : endX modes (.nx, ρ) = (outsOf modes ρ).bind fun outs => some ((.none, false), outs) := rfl
/-! ### comparisons of plain data -/
theorem c_eqi {i j : Int} : cmpF .eq (.int i) (.int j) = some (decide (i = j)) := by
  have : eqOk (.int i) (.int j) = true := rfl
  rw [c_eq, if_pos this]
  show some (i == j) = _
  rw [Bool.beq_eq_decide_eq]
theorem c_nei {i j : Int} : cmpF .ne (.int i) (.int j) = some (!decide (i = j)) := by
  have : eqOk (.int i) (.int j) = true := rfl
  rw [c_ne, if_pos this]
  show some (!(i == j)) = _
  rw [Bool.beq_eq_decide_eq]
theorem c_eqs {x y : Str} : cmpF .eq (.str x) (.str y) = some (decide (x = y)) := by
  have : eqOk (.str x) (.str y) = true := rfl
  rw [c_eq, if_pos this]
  show some (x == y) = _
  rw [Bool.beq_eq_decide_eq]
theorem eqv_nil (xs : List D) : PyData.eqv (.list xs) (.list []) = xs.isEmpty := by
  cases xs <;> rfl
theorem eqOk_nil {xs : List D} (h : noDics xs = true) : eqOk (.list xs) (.list []) = true := by
  have e : PyData.depth (.list []) ≤ 64 := by decide
  simp only [eqOk, noDic, h, noDics, Bool.true_and, decide_eq_true_eq]
  exact Nat.le_trans (Nat.min_le_right _ _) e
theorem c_eq_nil {xs : List D} (h : noDics xs = true) : cmpF .eq (.list xs) (.list []) = some xs.isEmpty := by
  rw [c_eq, if_pos (eqOk_nil h), eqv_nil]
theorem c_ne_nil {xs : List D} (h : noDics xs = true) : cmpF .ne (.list xs) (.list []) = some (!xs.isEmpty) := by
  rw [c_ne, if_pos (eqOk_nil h), eqv_nil]
theorem noDics_mem : ∀ {xs : List D}, noDics xs = true ↔ ∀ x ∈ xs, noDic x = true
  | [] => by simp [noDics]
  | x :: xs => by simp [noDics, noDics_mem]
theorem atI_nat {α : Type} {xs : List α} {i : Nat} {x : α} (h : xs[i]? = some x) : atI xs (i : Int) = some x := by
  have hi := (List.getElem?_eq_some_iff.mp h).1
  unfold atI ixN
  simp [hi]
  exact (List.getElem?_eq_some_iff.mp h).2
theorem at0 {α : Type} {a : α} {l : List α} : atI (a :: l) 0 = some a := atI_nat (i := 0) rfl
theorem at1 {α : Type} {a b : α} {l : List α} : atI (a :: b :: l) 1 = some b := atI_nat (i := 1) rfl
theorem at2 {α : Type} {a b c : α} {l : List α} : atI (a :: b :: c :: l) 2 = some c := atI_nat (i := 2) rfl
theorem at3 {α : Type} {a b c d : α} {l : List α} : atI (a :: b :: c :: d :: l) 3 = some d := atI_nat (i := 3) rfl
theorem at4 {α : Type} {a b c d e : α} {l : List α} : atI (a :: b :: c :: d :: e :: l) 4 = some e := atI_nat (i := 4) rfl
theorem at5 {α : Type} {a b c d e f : α} {l : List α} : atI (a :: b :: c :: d :: e :: f :: l) 5 = some f := atI_nat (i := 5) rfl
theorem inF_tup {x : D} {ds : List D} (h : (noDics ds && noDic x && decide (min (PyData.depthAll ds) x.depth ≤ 64)) = true) : inF x (.tuple ds) = some (ds.any fun z => PyData.eqv z x) := if_pos h
theorem inF_lst {x : D} {ds : List D} (h : (noDics ds && noDic x && decide (min (PyData.depthAll ds) x.depth ≤ 64)) = true) : inF x (.list ds) = some (ds.any fun z => PyData.eqv z x) := if_pos h
/-! ### loops -/
theorem compL_map {f : Rho → D → Option (List D × Rho)} {g : D → D} {ρ : Rho} : ∀ {xs : List D}, (∀ x ∈ xs, f ρ x = some ([g x], ρ)) → compL f xs ρ = some (xs.map g, ρ)
  | [], _ => rfl
  | x :: xs, h => by
    simp only [compL]
    rw [h x List.mem_cons_self]
    simp only [Option.bind_some]
    rw [compL_map fun y m => h y (List.mem_cons_of_mem _ m)]
    rfl
theorem compL_fil {f : Rho → D → Option (List D × Rho)} {g : D → D} {p : D → Bool} {ρ : Rho} : ∀ {xs : List D}, (∀ x ∈ xs, f ρ x = some (if p x = true then [g x] else [], ρ)) → compL f xs ρ = some ((xs.filter p).map g, ρ)
  | [], _ => rfl
  | x :: xs, h => by
    simp only [compL]
    rw [h x List.mem_cons_self]
    simp only [Option.bind_some]
    rw [compL_fil fun y m => h y (List.mem_cons_of_mem _ m)]
    by_cases hp : p x = true
    · simp [hp]
    · simp [hp]
/-- with a state -/
theorem compL_st {α : Type} {f : Rho → D → Option (List D × Rho)} {R : α → Rho} {g : α → D → D} {h : α → D → α} : ∀ {xs : List D} {s : α}, (∀ s, ∀ x ∈ xs, f (R s) x = some ([g s x], R (h s x))) → ∃ ys s', compL f xs (R s) = some (ys, R s') ∧ ys.length = xs.length
  | [], s, _ => ⟨[], s, rfl, rfl⟩
  | x :: xs, s, H => by
    obtain ⟨ys, s', e, l⟩ := compL_st (s := h s x) fun s y m => H s y (List.mem_cons_of_mem _ m)
    refine ⟨g s x :: ys, s', ?_, by simp [l]⟩
    simp only [compL]
    rw [H s x List.mem_cons_self]
    simp only [Option.bind_some]
    rw [e]
    rfl
/-- each turn keeps an invariant; what it gives has a property -/
theorem compL_inv {f : Rho → D → Option (List D × Rho)} {I : Rho → Prop} {G : D → Prop} : ∀ {xs : List D} {ρ : Rho}, I ρ → (∀ ρ, I ρ → ∀ x ∈ xs, ∃ y ρ', f ρ x = some ([y], ρ') ∧ G y ∧ I ρ') → ∃ ys ρ', compL f xs ρ = some (ys, ρ') ∧ I ρ' ∧ ys.length = xs.length ∧ ∀ y ∈ ys, G y
  | [], ρ, h, _ => ⟨[], ρ, rfl, h, rfl, by simp⟩
  | x :: xs, ρ, h, H => by
    obtain ⟨y, ρ1, e1, g1, h1⟩ := H ρ h x List.mem_cons_self
    obtain ⟨ys, ρ2, e2, h2, l2, g2⟩ := compL_inv h1 fun ρ h y m => H ρ h y (List.mem_cons_of_mem _ m)
    refine ⟨y :: ys, ρ2, ?_, h2, by simp [l2], fun z m => ?_⟩
    · simp only [compL]
      rw [e1]
      simp only [Option.bind_some]
      rw [e2]
      rfl
    · rcases List.mem_cons.mp m with rfl | m
      · exact g1
      · exact g2 z m
theorem forL_inv {f : Rho → D → Option (Fl × Rho)} {I : Rho → Prop} : ∀ {xs : List D} {ρ : Rho}, I ρ → (∀ ρ, I ρ → ∀ x ∈ xs, ∃ ρ', f ρ x = some (.nx, ρ') ∧ I ρ') → ∃ ρ', forL f xs ρ = some (.nx, ρ') ∧ I ρ'
  | [], ρ, h, _ => ⟨ρ, rfl, h⟩
  | x :: xs, ρ, h, H => by
    obtain ⟨ρ1, e1, h1⟩ := H ρ h x List.mem_cons_self
    obtain ⟨ρ2, e2, h2⟩ := forL_inv h1 fun ρ h y m => H ρ h y (List.mem_cons_of_mem _ m)
    refine ⟨ρ2, ?_, h2⟩
    simp only [forL]
    rw [e1]
    exact e2
/-- the same, the invariant told by the number of turns -/
theorem forL_ix {f : Rho → D → Option (Fl × Rho)} {I : Nat → Rho → Prop} : ∀ {xs : List D} {i : Nat} {ρ : Rho}, I i ρ → (∀ j ρ, I (i + j) ρ → ∀ x, xs[j]? = some x → ∃ ρ', f ρ x = some (.nx, ρ') ∧ I (i + j + 1) ρ') → ∃ ρ', forL f xs ρ = some (.nx, ρ') ∧ I (i + xs.length) ρ'
  | [], i, ρ, h, _ => ⟨ρ, rfl, h⟩
  | x :: xs, i, ρ, h, H => by
    obtain ⟨ρ1, e1, h1⟩ := H 0 ρ h x rfl
    obtain ⟨ρ2, e2, h2⟩ := forL_ix (i := i + 1) h1 fun j ρ h y m => by
      have e : i + 1 + j = i + (j + 1) := by omega
      rw [e] at h ⊢
      exact H (j + 1) ρ h y m
    refine ⟨ρ2, ?_, by rw [List.length_cons, Nat.add_comm xs.length 1, ← Nat.add_assoc]; exact h2⟩
    simp only [forL]
    rw [e1]
    exact e2
theorem bls_map {α : Type} (p : α → Bool) : ∀ xs : List α, blsOf (xs.map fun x => PyData.bool (p x)) = some (xs.map p)
  | [] => rfl
  | x :: xs => by simp [blsOf, bls_map p xs]
theorem ints_map {α : Type} (p : α → Int) : ∀ xs : List α, intsOf (xs.map fun x => PyData.int (p x)) = some (xs.map p)
  | [] => rfl
  | x :: xs => by simp [intsOf, ints_map p xs]
end MW

namespace MW
open PySem PySem.Spec PyProof.Rows L2
/-! ### the law as a program of the small language -/
def f0 : Fn := ⟨"is_whole", ["value"], ["value"], [false], [
    .ret (.and (.op (.bi (.isi .int)) [(.v 0)]) (.not (.op (.bi (.isi .bool)) [(.v 0)])))]⟩
def f1 : Fn := ⟨"fits_whole", ["value", "low", "high"], ["value", "low", "high"], [false, false, false], [
    .ret (.and (.call 0 [(.v 0)]) (.chain .le .le (.v 1) (.v 0) (.v 2)))]⟩
def f2 : Fn := ⟨"is_tuple_of", ["value", "least", "most"], ["value", "least", "most"], [false, false, false], [
    .ret (.and (.op (.bi (.isi .tuple)) [(.v 0)]) (.chain .le .le (.v 1) (.op (.bi .len) [(.v 0)]) (.v 2)))]⟩
def f3 : Fn := ⟨"is_rising", ["values"], ["values", "one", "other"], [false], [
    .ret (.op (.bi .all) [(.comp (.op (.cmp .lt) [(.v 1), (.v 2)]) (.t [(.n 1), (.n 2)]) .zip [(.v 0), (.op (.sl true false) [(.v 0), (.c (.int (1)))])] [] [1, 2])])]⟩
def f4 : Fn := ⟨"power", ["many"], ["many", "found", "turn"], [false], [
    .asg (.n 1) (.c (.int (1))),
    .forS (.n 2) .rng1 [(.v 0)] [.asg (.n 1) (.op (.bin .mul) [(.c (.int (2))), (.v 1)])],
    .ret (.v 1)]⟩
def f5 : Fn := ⟨"need_width", ["value"], ["value"], [false], [
    .ife (.not (.call 1 [(.v 0), (.g 0), (.g 1)])) [.never] []]⟩
def f6 : Fn := ⟨"fits_letter", ["value"], ["value"], [false], [
    .ret (.and (.op (.bi (.isi .str)) [(.v 0)]) (.and (.op (.cmp .eq) [(.op (.bi .len) [(.v 0)]), (.c (.int (1)))]) (.op (.cmp .isin) [(.v 0), (.g 2)])))]⟩
def f7 : Fn := ⟨"fits_fields", ["value"], ["value", "one"], [false], [
    .ife (.or (.not (.call 2 [(.v 0), (.c (.int (0))), (.op (.bi .len) [(.g 2)])])) (.not (.op (.bi .all) [(.comp (.call 2 [(.v 1), (.c (.int (3))), (.c (.int (3)))]) (.n 1) .any [(.v 0)] [] [1])]))) [.ret (.c (.bool false))] [],
    .ife (.not (.op (.bi .all) [(.comp (.and (.call 6 [(.op .ix [(.v 1), (.c (.int (0)))])]) (.call 1 [(.op .ix [(.v 1), (.c (.int (1)))]), (.c (.int (1))), (.g 1)])) (.n 1) .any [(.v 0)] [] [1])])) [.ret (.c (.bool false))] [],
    .ife (.not (.op (.bi .all) [(.comp (.call 1 [(.op .ix [(.v 1), (.c (.int (2)))]), (.c (.int (0))), (.op (.bin .sub) [(.call 4 [(.op .ix [(.v 1), (.c (.int (1)))])]), (.c (.int (1)))])]) (.n 1) .any [(.v 0)] [] [1])])) [.ret (.c (.bool false))] [],
    .ret (.call 3 [(.comp (.op .ix [(.v 1), (.c (.int (0)))]) (.n 1) .any [(.v 0)] [] [1])])]⟩
def f8 : Fn := ⟨"fits_words", ["width", "value", "many"], ["width", "value", "many", "one"], [false, false, false], [
    .ret (.and (.call 2 [(.v 1), (.v 2), (.v 2)]) (.op (.bi .all) [(.comp (.call 1 [(.v 3), (.c (.int (0))), (.op (.bin .sub) [(.call 4 [(.v 0)]), (.c (.int (1)))])]) (.n 3) .any [(.v 1)] [] [3])]))]⟩
def f9 : Fn := ⟨"fits_scene", ["width", "value"], ["width", "value", "registers", "cells", "flag", "place", "fields"], [false, false], [
    .ife (.not (.call 2 [(.v 1), (.c (.int (5))), (.c (.int (5)))])) [.ret (.c (.bool false))] [],
    .asg (.t [(.n 2), (.n 3), (.n 4), (.n 5), (.n 6)]) (.v 1),
    .ife (.and (.not (.call 8 [(.v 0), (.v 2), (.c (.int (2)))])) (.not (.call 8 [(.v 0), (.v 2), (.c (.int (4)))]))) [.ret (.c (.bool false))] [],
    .ife (.or (.not (.call 8 [(.v 0), (.v 3), (.call 4 [(.v 0)])])) (.not (.call 1 [(.v 4), (.c (.int (0))), (.c (.int (1)))]))) [.ret (.c (.bool false))] [],
    .ret (.and (.call 1 [(.v 5), (.c (.int (0))), (.op (.bin .sub) [(.call 4 [(.v 0)]), (.c (.int (1)))])]) (.call 7 [(.v 6)]))]⟩
def f10 : Fn := ⟨"is_scene", ["width", "value"], ["width", "value"], [false, false], [
    .ex (.call 5 [(.v 0)]),
    .ret (.call 9 [(.v 0), (.v 1)])]⟩
def f11 : Fn := ⟨"_law_cup", ["script"], ["script", "cell"], [false], [
    .asg (.n 1) (.op (.bi .abs) [(.op .ix [(.op (.bin .add) [(.op (.bi .list) [(.v 0)]), (.lst [(.c (.int (0)))])]), (.c (.int (0)))])]),
    .ret (.lst [(.ite (.op (.cmp .ge) [(.v 1), (.op (.bin .pow) [(.c (.int (10))), (.c (.int (18)))])]) (.op (.bin .fdiv) [(.v 1), (.c (.int (113)))]) (.c (.int (0)))), (.op (.bin .add) [(.op (.bin .mod) [(.op (.bi .int) [(.op (.bin .add) [(.op (.bin .mul) [(.v 1), (.c (.int (337)))]), (.c (.int (4019)))])]), (.c (.int (2077502507)))]), (.c (.int (233)))])])]⟩
def f12 : Fn := ⟨"_law_roll", ["cup", "many"], ["cup", "many", "found", "deep"], [true, false], [
    .ife (.op (.cmp .gt) [(.op .ix [(.v 0), (.c (.int (0)))]), (.c (.int (0)))]) [.asg (.n 2) (.op (.bin .mod) [(.op (.bi .int) [(.op .ix [(.v 0), (.c (.int (0)))])]), (.v 1)]), .setix 0 (.c (.int (0))) (.op (.bin .fdiv) [(.op .ix [(.v 0), (.c (.int (0)))]), (.v 1)]), .ret (.v 2)] [],
    .setix 0 (.c (.int (1))) (.op (.bin .mod) [(.op (.bi .int) [(.op (.bin .add) [(.op (.bin .mul) [(.op .ix [(.v 0), (.c (.int (1)))]), (.c (.int (31051)))]), (.c (.int (8053)))])]), (.c (.int (2147483549)))]),
    .asg (.n 3) (.op (.bin .mod) [(.op (.bi .int) [(.op (.bin .mul) [(.op .ix [(.v 0), (.c (.int (1)))]), (.op (.bin .add) [(.op .ix [(.v 0), (.c (.int (1)))]), (.c (.int (313)))])])]), (.c (.int (2147483059)))]),
    .ret (.op (.bin .mod) [(.op (.bi .int) [(.op (.bin .fdiv) [(.v 3), (.c (.int (829)))])]), (.v 1)])]⟩
def f13 : Fn := ⟨"_law_some", ["cup", "things"], ["cup", "things"], [true, false], [
    .ret (.op .ix [(.v 1), (.call 12 [(.v 0), (.op (.bi .len) [(.v 1)])])])]⟩
def f14 : Fn := ⟨"_law_same", ["told", "due"], ["told", "due", "at"], [false, false], [
    .ife (.op (.bi (.isi .tuple)) [(.v 1)]) [.ife (.or (.not (.op (.bi (.isi .tuple)) [(.v 0)])) (.op (.cmp .ne) [(.op (.bi .len) [(.v 0)]), (.op (.bi .len) [(.v 1)])])) [.ret (.c (.bool false))] [], .ret (.op (.bi .all) [(.comp (.call 14 [(.op .ix [(.v 0), (.v 2)]), (.op .ix [(.v 1), (.v 2)])]) (.n 2) .rng1 [(.op (.bi .len) [(.v 1)])] [] [2])])] [],
    .ife (.op (.cmp .is) [(.v 1), (.c (.none))]) [.ret (.op (.cmp .is) [(.v 0), (.c (.none))])] [],
    .ife (.op (.bi (.isi .bool)) [(.v 1)]) [.ret (.ite (.v 1) (.op (.cmp .is) [(.v 0), (.c (.bool true))]) (.op (.cmp .is) [(.v 0), (.c (.bool false))]))] [],
    .ife (.op (.bi (.isi .int)) [(.v 1)]) [.ret (.and (.op (.bi (.isi .int)) [(.v 0)]) (.and (.not (.op (.bi (.isi .bool)) [(.v 0)])) (.op (.cmp .eq) [(.op (.bi .int) [(.v 0)]), (.v 1)])))] [],
    .ret (.and (.op (.bi (.isi .str)) [(.v 0)]) (.op (.cmp .eq) [(.op (.bi .str) [(.v 0)]), (.v 1)]))]⟩
def f15 : Fn := ⟨"_law_power", ["many"], ["many", "found", "turn"], [false], [
    .asg (.n 1) (.c (.int (1))),
    .forS (.n 2) .rng1 [(.v 0)] [.asg (.n 1) (.op (.bin .mul) [(.c (.int (2))), (.v 1)])],
    .ret (.v 1)]⟩
def f16 : Fn := ⟨"_law_scene", ["cup", "width"], ["cup", "width", "size", "many", "fields", "letter", "bits", "registers", "at"], [true, false], [
    .asg (.t [(.n 2), (.n 3)]) (.tup [(.call 15 [(.v 1)]), (.call 13 [(.v 0), (.lst [(.c (.int (2))), (.c (.int (4)))])])]),
    .asg (.n 4) (.lst []),
    .forS (.n 5) .any [(.c (.str "abc"))] [.asg (.n 6) (.ite (.op (.cmp .eq) [(.v 3), (.c (.int (2)))]) (.c (.int (1))) (.op (.bin .add) [(.c (.int (1))), (.call 12 [(.v 0), (.c (.int (2)))])])), .append 4 (.tup [(.v 5), (.v 6), (.call 12 [(.v 0), (.call 15 [(.v 6)])])])],
    .asg (.n 7) (.op (.bi .tuple) [(.comp (.call 12 [(.v 0), (.v 2)]) (.n 8) .rng1 [(.v 3)] [] [8])]),
    .ret (.tup [(.v 7), (.op (.bi .tuple) [(.comp (.call 12 [(.v 0), (.v 2)]) (.n 8) .rng1 [(.v 2)] [] [8])]), (.call 12 [(.v 0), (.c (.int (2)))]), (.call 12 [(.v 0), (.v 2)]), (.op (.bi .tuple) [(.v 4)])])]⟩
def f17 : Fn := ⟨"_law_is_word", ["value", "size"], ["value", "size"], [false, false], [
    .ret (.and (.op (.bi (.isi .int)) [(.v 0)]) (.and (.not (.op (.bi (.isi .bool)) [(.v 0)])) (.chain .le .lt (.c (.int (0))) (.v 0) (.v 1))))]⟩
def f18 : Fn := ⟨"_law_are_fields", ["value"], ["value", "own", "letters", "at"], [false], [
    .ife (.or (.not (.op (.bi (.isi .tuple)) [(.v 0)])) (.op (.cmp .ne) [(.comp (.v 1) (.n 1) .any [(.v 0)] [(.or (.not (.op (.bi (.isi .tuple)) [(.v 1)])) (.op (.cmp .ne) [(.op (.bi .len) [(.v 1)]), (.c (.int (3)))]))] [1]), (.lst [])])) [.ret (.c (.bool false))] [],
    .ife (.op (.cmp .ne) [(.comp (.v 1) (.n 1) .any [(.v 0)] [(.or (.op (.cmp .nin) [(.op .ix [(.v 1), (.c (.int (0)))]), (.tup [(.c (.str "a")), (.c (.str "b")), (.c (.str "c")), (.c (.str "d")), (.c (.str "e")), (.c (.str "f"))])]) (.or (.not (.call 17 [(.op .ix [(.v 1), (.c (.int (1)))]), (.c (.int (9)))])) (.op (.cmp .eq) [(.op .ix [(.v 1), (.c (.int (1)))]), (.c (.int (0)))])))] [1]), (.lst [])]) [.ret (.c (.bool false))] [],
    .ife (.op (.cmp .ne) [(.comp (.v 1) (.n 1) .any [(.v 0)] [(.not (.call 17 [(.op .ix [(.v 1), (.c (.int (2)))]), (.call 15 [(.op .ix [(.v 1), (.c (.int (1)))])])]))] [1]), (.lst [])]) [.ret (.c (.bool false))] [],
    .asg (.n 2) (.comp (.op .ix [(.v 1), (.c (.int (0)))]) (.n 1) .any [(.v 0)] [] [1]),
    .ret (.op (.cmp .eq) [(.comp (.v 3) (.n 3) .rng2 [(.c (.int (1))), (.op (.bi .len) [(.v 2)])] [(.op (.cmp .ge) [(.op .ix [(.v 2), (.op (.bin .sub) [(.v 3), (.c (.int (1)))])]), (.op .ix [(.v 2), (.v 3)])])] [3]), (.lst [])])]⟩
def f19 : Fn := ⟨"law", ["script"], ["script", "cup", "turn", "width", "odd", "near", "more", "value", "size", "scene", "registers", "cells", "flag", "place", "fields", "good", "own"], [false], [
    .asg (.n 1) (.call 11 [(.v 0)]),
    .forS (.n 2) .rng1 [(.c (.int (5)))] [.asg (.n 3) (.op (.bin .add) [(.c (.int (4))), (.call 12 [(.v 1), (.c (.int (2)))])]), .asg (.t [(.n 8), (.n 9)]) (.tup [(.call 15 [(.v 3)]), (.call 16 [(.v 1), (.v 3)])]), .asg (.t [(.n 10), (.n 11), (.n 12), (.n 13), (.n 14)]) (.v 9), .asg (.n 4) (.call 13 [(.v 1), (.lst [(.c (.none)), (.op .neg [(.c (.int (1)))]), (.v 8), (.c (.bool true)), (.c (.str "0"))])]), .asg (.n 5) (.lst [(.v 9), (.op (.bi .list) [(.v 9)]), (.op (.sl false true) [(.v 9), (.c (.int (4)))]), (.op (.bin .add) [(.v 9), (.tup [(.tup [])])]), (.op (.bin .add) [(.tup [(.op (.bin .add) [(.v 10), (.tup [(.c (.int (0)))])])]), (.op (.sl true false) [(.v 9), (.c (.int (1)))])]), (.op (.bin .add) [(.tup [(.op (.sl false true) [(.v 10), (.c (.int (1)))])]), (.op (.sl true false) [(.v 9), (.c (.int (1)))])]), (.op (.bin .add) [(.tup [(.op (.bin .add) [(.tup [(.v 4)]), (.op (.sl true false) [(.v 10), (.c (.int (1)))])])]), (.op (.sl true false) [(.v 9), (.c (.int (1)))])]), (.op (.bin .add) [(.tup [(.op (.bi .list) [(.v 10)])]), (.op (.sl true false) [(.v 9), (.c (.int (1)))])])]), .asg (.n 5) (.op (.bin .add) [(.v 5), (.lst [(.tup [(.v 10), (.op (.sl true false) [(.v 11), (.c (.int (1)))]), (.v 12), (.v 13), (.v 14)]), (.tup [(.v 10), (.op (.bin .add) [(.op (.sl true false) [(.v 11), (.c (.int (1)))]), (.tup [(.v 4)])]), (.v 12), (.v 13), (.v 14)]), (.tup [(.v 10), (.op (.bin .add) [(.v 11), (.tup [(.c (.int (0)))])]), (.v 12), (.v 13), (.v 14)]), (.tup [(.v 10), (.v 11), (.c (.int (2))), (.v 13), (.v 14)]), (.tup [(.v 10), (.v 11), (.c (.bool true)), (.v 13), (.v 14)]), (.tup [(.v 10), (.v 11), (.v 12), (.v 4), (.v 14)])])]), .asg (.n 6) (.lst [(.tup []), (.op (.sl false true) [(.v 14), (.c (.int (2)))]), (.op .rev [(.v 14)]), (.op (.bi .list) [(.v 14)]), (.op (.bin .add) [(.v 14), (.tup [(.tup [(.c (.str "d")), (.c (.int (8))), (.c (.int (255)))])])]), (.op (.bin .add) [(.v 14), (.tup [(.tup [(.c (.str "d")), (.c (.int (9))), (.c (.int (0)))])])]), (.op (.bin .add) [(.v 14), (.tup [(.tup [(.c (.str "d")), (.c (.int (1))), (.c (.int (2)))])])]), (.op (.bin .add) [(.v 14), (.tup [(.tup [(.c (.str "g")), (.c (.int (1))), (.c (.int (0)))])])]), (.op (.bin .add) [(.v 14), (.op (.sl true false) [(.v 14), (.c (.int (2)))])]), (.tup [(.tup [(.c (.str "a")), (.c (.int (0))), (.c (.int (0)))])]), (.tup [(.tup [(.c (.str "a")), (.c (.int (1)))])]), (.tup [(.lst [(.c (.str "a")), (.c (.int (1))), (.c (.int (0)))])]), (.c (.none)), (.tup [(.c (.str "a")), (.c (.int (1))), (.c (.int (0)))]), (.tup [(.tup [(.c (.str "f")), (.c (.int (3))), (.v 4)])]), (.tup [(.tup [(.c (.int (1))), (.c (.int (1))), (.c (.int (0)))])])]), .asg (.n 5) (.op (.bin .add) [(.op (.bin .add) [(.v 5), (.comp (.tup [(.v 10), (.v 11), (.v 12), (.v 13), (.v 16)]) (.n 16) .any [(.v 6)] [] [16])]), (.lst [(.c (.none)), (.tup []), (.c (.int (5)))])]), .forS (.n 7) .any [(.v 5)] [.asg (.n 15) (.and (.op (.bi (.isi .tuple)) [(.v 7)]) (.and (.op (.cmp .eq) [(.op (.bi .len) [(.v 7)]), (.c (.int (5)))]) (.and (.op (.bi (.isi .tuple)) [(.op .ix [(.v 7), (.c (.int (0)))])]) (.op (.bi (.isi .tuple)) [(.op .ix [(.v 7), (.c (.int (1)))])])))), .asg (.n 15) (.and (.v 15) (.and (.op (.cmp .isin) [(.op (.bi .len) [(.op .ix [(.v 7), (.c (.int (0)))])]), (.tup [(.c (.int (2))), (.c (.int (4)))])]) (.and (.op (.cmp .eq) [(.op (.bi .len) [(.op .ix [(.v 7), (.c (.int (1)))])]), (.v 8)]) (.op (.cmp .eq) [(.comp (.v 16) (.n 16) .any [(.op (.bin .add) [(.op .ix [(.v 7), (.c (.int (0)))]), (.op .ix [(.v 7), (.c (.int (1)))])])] [(.not (.call 17 [(.v 16), (.v 8)]))] [16]), (.lst [])])))), .asg (.n 15) (.and (.v 15) (.and (.call 17 [(.op .ix [(.v 7), (.c (.int (2)))]), (.c (.int (2)))]) (.and (.call 17 [(.op .ix [(.v 7), (.c (.int (3)))]), (.v 8)]) (.call 18 [(.op .ix [(.v 7), (.c (.int (4)))])])))), .ife (.not (.call 14 [(.call 10 [(.v 3), (.v 7)]), (.v 15)])) [.ret (.c (.bool false))] []], .ife (.op (.cmp .nis) [(.call 10 [(.op (.bin .add) [(.v 3), (.c (.int (1)))]), (.v 9)]), (.c (.bool false))]) [.ret (.c (.bool false))] []],
    .ret (.c (.bool true))]⟩
def theP : Prg := ⟨[f0, f1, f2, f3, f4, f5, f6, f7, f8, f9, f10, f11, f12, f13, f14, f15, f16, f17, f18, f19], [("LOW", .int (4)), ("HIGH", .int (8)), ("LETTERS", .str "abcdef")], 1000⟩
end MW

namespace MW
open PySem PySem.Spec PyProof.Rows L2
theorem md : theP.modes = fun f => match theP.fns[f]? with
  | some fn => fn.modes
  | none => [] := rfl
theorem m0 : theP.modes 0 = [false] := rfl
theorem m1 : theP.modes 1 = [false, false, false] := rfl
theorem m2 : theP.modes 2 = [false, false, false] := rfl
theorem m3 : theP.modes 3 = [false] := rfl
theorem m4 : theP.modes 4 = [false] := rfl
theorem m5 : theP.modes 5 = [false] := rfl
theorem m6 : theP.modes 6 = [false] := rfl
theorem m7 : theP.modes 7 = [false] := rfl
theorem m8 : theP.modes 8 = [false, false, false] := rfl
theorem m9 : theP.modes 9 = [false, false] := rfl
theorem m10 : theP.modes 10 = [false, false] := rfl
theorem m11 : theP.modes 11 = [false] := rfl
theorem m12 : theP.modes 12 = [true, false] := rfl
theorem m13 : theP.modes 13 = [true, false] := rfl
theorem m14 : theP.modes 14 = [false, false] := rfl
theorem m15 : theP.modes 15 = [false] := rfl
theorem m16 : theP.modes 16 = [true, false] := rfl
theorem m17 : theP.modes 17 = [false, false] := rfl
theorem m18 : theP.modes 18 = [false] := rfl
theorem g0 : theP.glob 0 = .int 4 := rfl
theorem g1 : theP.glob 1 = .int 8 := rfl
theorem g2 : theP.glob 2 = .str "abcdef" := rfl
def isW : D → Bool
  | .int _ => true
  | _ => false
theorem q0 {m : Nat} (hm : 1 ≤ m) (v : D) (h : noDic v = true) : theP.run m 0 [v] = some ((.bool (isW v), false), []) := by
  obtain ⟨n, rfl⟩ : ∃ n, m = n + 1 := ⟨m - 1, by omega⟩
  rw [run_eq rfl]
  cases v <;> first | (simp [noDic] at h; done) | simp only [f0, isW, e_c, e_v, e_g, e_tup, e_lst, e_op, e_and, e_or, e_not, e_ite, e_chain, e_call, callX_pure, e_comp, es_nil, es_cons, eb_nil, eb_v, eb_c, ea_c, ef_c, eb_g, ea_g, ef_g, eb_tup, ea_tup, ef_tup, eb_lst, ea_lst, ef_lst, eb_op, ea_op, ef_op, eb_and, ea_and, ef_and, eb_or, ea_or, ef_or, eb_not, ea_not, ef_not, eb_ite, ea_ite, ef_ite, eb_chain, ea_chain, ef_chain, eb_call, ea_call, ef_call, eb_comp, ea_comp, ef_comp, eb_pop, ea_pop, ef_pop, ea_nil, ea_v, ea_io, ec_nil, ec_one, ep_nil, ep_cons, x_asgn, x_asgt, x_par, x_ex, x_retv, x_retN, x_ife, x_for, x_brk, x_cont, x_pass, x_append, x_setix, x_aug, xs_nil, xs_cons, th_nx, th_bk, th_ct, th_rt, as_bool, rd_val, rd_own, rd_lent, le_val, le_own, le_io, le_lent, le_lio, lx_val, lx_own, lx_io, li_own, li_io, se_val, se_own, se_lent, se_none, re_val, re_own, ap_own, ap_io, si_own, si_io, au_own, au_io, au_int, au_str, bt_n, bt_t, bts_nil, bts_cons, sv_nil, sv_cons, un_nil, un_cons, un_lent, un_lio, un_val, un_own, un_io, o_cmp, o_bin, o_bi, o_ix, o_sl0, o_sl1, o_sl2, o_sl3, o_revl, o_revt, o_neg, o_meth, bl_1, b_add, b_adds, b_addl, b_addt, b_sub, b_mul, b_fdiv, b_mod, b_pow, b_and, b_or, b_xor, c_lt, c_le, c_gt, c_ge, c_lts, c_les, c_gts, c_ges, c_in, c_nin, c_is_none, c_nis_none, i_int_none, i_bool_none, i_str_none, i_tuple_none, i_list_none, c_is_bool, c_nis_bool, i_int_bool, i_bool_bool, i_str_bool, i_tuple_bool, i_list_bool, c_is_int, c_nis_int, i_int_int, i_bool_int, i_str_int, i_tuple_int, i_list_int, c_is_str, c_nis_str, i_int_str, i_bool_str, i_str_str, i_tuple_str, i_list_str, c_is_list, c_nis_list, i_int_list, i_bool_list, i_str_list, i_tuple_list, i_list_list, c_is_tuple, c_nis_tuple, i_int_tuple, i_bool_tuple, i_str_tuple, i_tuple_tuple, i_list_tuple, c_isb, c_nisb, f_lenl, f_lent, f_lens, f_abs, f_int, f_intb, f_str, f_listl, f_listt, f_listf, f_tupl, f_tupt, f_sum, f_all, f_any, f_max2, f_min2, x_l, x_t, x_s, some_1, s_l, s_t, r_any, r_anyt, r_anys, r_rng1, r_rng2, r_zipl, r_zipt, r_enum, st_l, a0_nil, a0_cons, oo_nil, oo_f, oo_t, run_f, end_rt, end_nx, cs_call, cs_modes, cs_glob, Option.bind_some, Option.bind_none, Option.map_some, Option.map_none, List.getElem?_cons_zero, List.getElem?_cons_succ, List.set_cons_zero, List.set_cons_succ, List.cons_append, List.nil_append, List.append_nil, List.replicate, List.length_cons, List.length_nil, Bool.false_eq_true, if_true, if_false, Bool.not_true, Bool.not_false, reduceIte, reduceCtorEq, Nat.reduceAdd, Nat.reduceSub, Nat.reduceLT, wipeR, backR, okLent, nodupN, lentAt, List.all_nil, List.all_cons, List.any_nil, List.any_cons, List.contains_nil, Bool.and_true, Bool.true_and, Bool.and_false, Bool.false_and, Bool.or_true, Bool.true_or, Bool.or_false, Bool.false_or, plainAt, List.getD_cons_zero, List.getD_cons_succ, mutAt, augAt, noMut, noMuts, noElems, putOuts, dropL, drop1, c_eqi, c_nei, c_eqs, at0, at1, at2, at3, at4, at5, decide_true, decide_false, callX_some, eq_self, ite_self]
def fitsW (v : D) (lo hi : Int) : Bool := match v with
  | .int i => decide (lo ≤ i) && decide (i ≤ hi)
  | _ => false
theorem q1 {m : Nat} (hm : 2 ≤ m) (v : D) (lo hi : Int) (h : noDic v = true) : theP.run m 1 [v, .int lo, .int hi] = some ((.bool (fitsW v lo hi), false), []) := by
  obtain ⟨n, rfl⟩ : ∃ n, m = n + 1 := ⟨m - 1, by omega⟩
  rw [run_eq rfl]
  cases v <;> first | (simp [noDic] at h; done) | skip
  case int i => by_cases h1 : lo ≤ i <;> simp only [f1, isW, fitsW, m0, q0 (show 1 ≤ n by omega) _ h, callX_pure, h1, decide_true, decide_false, e_c, e_v, e_g, e_tup, e_lst, e_op, e_and, e_or, e_not, e_ite, e_chain, e_call, callX_pure, e_comp, es_nil, es_cons, eb_nil, eb_v, eb_c, ea_c, ef_c, eb_g, ea_g, ef_g, eb_tup, ea_tup, ef_tup, eb_lst, ea_lst, ef_lst, eb_op, ea_op, ef_op, eb_and, ea_and, ef_and, eb_or, ea_or, ef_or, eb_not, ea_not, ef_not, eb_ite, ea_ite, ef_ite, eb_chain, ea_chain, ef_chain, eb_call, ea_call, ef_call, eb_comp, ea_comp, ef_comp, eb_pop, ea_pop, ef_pop, ea_nil, ea_v, ea_io, ec_nil, ec_one, ep_nil, ep_cons, x_asgn, x_asgt, x_par, x_ex, x_retv, x_retN, x_ife, x_for, x_brk, x_cont, x_pass, x_append, x_setix, x_aug, xs_nil, xs_cons, th_nx, th_bk, th_ct, th_rt, as_bool, rd_val, rd_own, rd_lent, le_val, le_own, le_io, le_lent, le_lio, lx_val, lx_own, lx_io, li_own, li_io, se_val, se_own, se_lent, se_none, re_val, re_own, ap_own, ap_io, si_own, si_io, au_own, au_io, au_int, au_str, bt_n, bt_t, bts_nil, bts_cons, sv_nil, sv_cons, un_nil, un_cons, un_lent, un_lio, un_val, un_own, un_io, o_cmp, o_bin, o_bi, o_ix, o_sl0, o_sl1, o_sl2, o_sl3, o_revl, o_revt, o_neg, o_meth, bl_1, b_add, b_adds, b_addl, b_addt, b_sub, b_mul, b_fdiv, b_mod, b_pow, b_and, b_or, b_xor, c_lt, c_le, c_gt, c_ge, c_lts, c_les, c_gts, c_ges, c_in, c_nin, c_is_none, c_nis_none, i_int_none, i_bool_none, i_str_none, i_tuple_none, i_list_none, c_is_bool, c_nis_bool, i_int_bool, i_bool_bool, i_str_bool, i_tuple_bool, i_list_bool, c_is_int, c_nis_int, i_int_int, i_bool_int, i_str_int, i_tuple_int, i_list_int, c_is_str, c_nis_str, i_int_str, i_bool_str, i_str_str, i_tuple_str, i_list_str, c_is_list, c_nis_list, i_int_list, i_bool_list, i_str_list, i_tuple_list, i_list_list, c_is_tuple, c_nis_tuple, i_int_tuple, i_bool_tuple, i_str_tuple, i_tuple_tuple, i_list_tuple, c_isb, c_nisb, f_lenl, f_lent, f_lens, f_abs, f_int, f_intb, f_str, f_listl, f_listt, f_listf, f_tupl, f_tupt, f_sum, f_all, f_any, f_max2, f_min2, x_l, x_t, x_s, some_1, s_l, s_t, r_any, r_anyt, r_anys, r_rng1, r_rng2, r_zipl, r_zipt, r_enum, st_l, a0_nil, a0_cons, oo_nil, oo_f, oo_t, run_f, end_rt, end_nx, cs_call, cs_modes, cs_glob, Option.bind_some, Option.bind_none, Option.map_some, Option.map_none, List.getElem?_cons_zero, List.getElem?_cons_succ, List.set_cons_zero, List.set_cons_succ, List.cons_append, List.nil_append, List.append_nil, List.replicate, List.length_cons, List.length_nil, Bool.false_eq_true, if_true, if_false, Bool.not_true, Bool.not_false, reduceIte, reduceCtorEq, Nat.reduceAdd, Nat.reduceSub, Nat.reduceLT, wipeR, backR, okLent, nodupN, lentAt, List.all_nil, List.all_cons, List.any_nil, List.any_cons, List.contains_nil, Bool.and_true, Bool.true_and, Bool.and_false, Bool.false_and, Bool.or_true, Bool.true_or, Bool.or_false, Bool.false_or, plainAt, List.getD_cons_zero, List.getD_cons_succ, mutAt, augAt, noMut, noMuts, noElems, putOuts, dropL, drop1, c_eqi, c_nei, c_eqs, at0, at1, at2, at3, at4, at5, decide_true, decide_false, callX_some, eq_self, ite_self]
  all_goals simp only [f1, isW, fitsW, m0, q0 (show 1 ≤ n by omega) _ h, callX_pure, e_c, e_v, e_g, e_tup, e_lst, e_op, e_and, e_or, e_not, e_ite, e_chain, e_call, callX_pure, e_comp, es_nil, es_cons, eb_nil, eb_v, eb_c, ea_c, ef_c, eb_g, ea_g, ef_g, eb_tup, ea_tup, ef_tup, eb_lst, ea_lst, ef_lst, eb_op, ea_op, ef_op, eb_and, ea_and, ef_and, eb_or, ea_or, ef_or, eb_not, ea_not, ef_not, eb_ite, ea_ite, ef_ite, eb_chain, ea_chain, ef_chain, eb_call, ea_call, ef_call, eb_comp, ea_comp, ef_comp, eb_pop, ea_pop, ef_pop, ea_nil, ea_v, ea_io, ec_nil, ec_one, ep_nil, ep_cons, x_asgn, x_asgt, x_par, x_ex, x_retv, x_retN, x_ife, x_for, x_brk, x_cont, x_pass, x_append, x_setix, x_aug, xs_nil, xs_cons, th_nx, th_bk, th_ct, th_rt, as_bool, rd_val, rd_own, rd_lent, le_val, le_own, le_io, le_lent, le_lio, lx_val, lx_own, lx_io, li_own, li_io, se_val, se_own, se_lent, se_none, re_val, re_own, ap_own, ap_io, si_own, si_io, au_own, au_io, au_int, au_str, bt_n, bt_t, bts_nil, bts_cons, sv_nil, sv_cons, un_nil, un_cons, un_lent, un_lio, un_val, un_own, un_io, o_cmp, o_bin, o_bi, o_ix, o_sl0, o_sl1, o_sl2, o_sl3, o_revl, o_revt, o_neg, o_meth, bl_1, b_add, b_adds, b_addl, b_addt, b_sub, b_mul, b_fdiv, b_mod, b_pow, b_and, b_or, b_xor, c_lt, c_le, c_gt, c_ge, c_lts, c_les, c_gts, c_ges, c_in, c_nin, c_is_none, c_nis_none, i_int_none, i_bool_none, i_str_none, i_tuple_none, i_list_none, c_is_bool, c_nis_bool, i_int_bool, i_bool_bool, i_str_bool, i_tuple_bool, i_list_bool, c_is_int, c_nis_int, i_int_int, i_bool_int, i_str_int, i_tuple_int, i_list_int, c_is_str, c_nis_str, i_int_str, i_bool_str, i_str_str, i_tuple_str, i_list_str, c_is_list, c_nis_list, i_int_list, i_bool_list, i_str_list, i_tuple_list, i_list_list, c_is_tuple, c_nis_tuple, i_int_tuple, i_bool_tuple, i_str_tuple, i_tuple_tuple, i_list_tuple, c_isb, c_nisb, f_lenl, f_lent, f_lens, f_abs, f_int, f_intb, f_str, f_listl, f_listt, f_listf, f_tupl, f_tupt, f_sum, f_all, f_any, f_max2, f_min2, x_l, x_t, x_s, some_1, s_l, s_t, r_any, r_anyt, r_anys, r_rng1, r_rng2, r_zipl, r_zipt, r_enum, st_l, a0_nil, a0_cons, oo_nil, oo_f, oo_t, run_f, end_rt, end_nx, cs_call, cs_modes, cs_glob, Option.bind_some, Option.bind_none, Option.map_some, Option.map_none, List.getElem?_cons_zero, List.getElem?_cons_succ, List.set_cons_zero, List.set_cons_succ, List.cons_append, List.nil_append, List.append_nil, List.replicate, List.length_cons, List.length_nil, Bool.false_eq_true, if_true, if_false, Bool.not_true, Bool.not_false, reduceIte, reduceCtorEq, Nat.reduceAdd, Nat.reduceSub, Nat.reduceLT, wipeR, backR, okLent, nodupN, lentAt, List.all_nil, List.all_cons, List.any_nil, List.any_cons, List.contains_nil, Bool.and_true, Bool.true_and, Bool.and_false, Bool.false_and, Bool.or_true, Bool.true_or, Bool.or_false, Bool.false_or, plainAt, List.getD_cons_zero, List.getD_cons_succ, mutAt, augAt, noMut, noMuts, noElems, putOuts, dropL, drop1, c_eqi, c_nei, c_eqs, at0, at1, at2, at3, at4, at5, decide_true, decide_false, callX_some, eq_self, ite_self]
def isT (v : D) (lo hi : Int) : Bool := match v with
  | .tuple ds => decide (lo ≤ ds.length) && decide (ds.length ≤ hi)
  | _ => false
theorem q2 {m : Nat} (hm : 1 ≤ m) (v : D) (lo hi : Int) (h : noDic v = true) : theP.run m 2 [v, .int lo, .int hi] = some ((.bool (isT v lo hi), false), []) := by
  obtain ⟨n, rfl⟩ : ∃ n, m = n + 1 := ⟨m - 1, by omega⟩
  rw [run_eq rfl]
  cases v <;> first | (simp [noDic] at h; done) | skip
  case tuple ds => by_cases h1 : lo ≤ ds.length <;> simp only [f2, isT, h1, decide_true, decide_false, e_c, e_v, e_g, e_tup, e_lst, e_op, e_and, e_or, e_not, e_ite, e_chain, e_call, callX_pure, e_comp, es_nil, es_cons, eb_nil, eb_v, eb_c, ea_c, ef_c, eb_g, ea_g, ef_g, eb_tup, ea_tup, ef_tup, eb_lst, ea_lst, ef_lst, eb_op, ea_op, ef_op, eb_and, ea_and, ef_and, eb_or, ea_or, ef_or, eb_not, ea_not, ef_not, eb_ite, ea_ite, ef_ite, eb_chain, ea_chain, ef_chain, eb_call, ea_call, ef_call, eb_comp, ea_comp, ef_comp, eb_pop, ea_pop, ef_pop, ea_nil, ea_v, ea_io, ec_nil, ec_one, ep_nil, ep_cons, x_asgn, x_asgt, x_par, x_ex, x_retv, x_retN, x_ife, x_for, x_brk, x_cont, x_pass, x_append, x_setix, x_aug, xs_nil, xs_cons, th_nx, th_bk, th_ct, th_rt, as_bool, rd_val, rd_own, rd_lent, le_val, le_own, le_io, le_lent, le_lio, lx_val, lx_own, lx_io, li_own, li_io, se_val, se_own, se_lent, se_none, re_val, re_own, ap_own, ap_io, si_own, si_io, au_own, au_io, au_int, au_str, bt_n, bt_t, bts_nil, bts_cons, sv_nil, sv_cons, un_nil, un_cons, un_lent, un_lio, un_val, un_own, un_io, o_cmp, o_bin, o_bi, o_ix, o_sl0, o_sl1, o_sl2, o_sl3, o_revl, o_revt, o_neg, o_meth, bl_1, b_add, b_adds, b_addl, b_addt, b_sub, b_mul, b_fdiv, b_mod, b_pow, b_and, b_or, b_xor, c_lt, c_le, c_gt, c_ge, c_lts, c_les, c_gts, c_ges, c_in, c_nin, c_is_none, c_nis_none, i_int_none, i_bool_none, i_str_none, i_tuple_none, i_list_none, c_is_bool, c_nis_bool, i_int_bool, i_bool_bool, i_str_bool, i_tuple_bool, i_list_bool, c_is_int, c_nis_int, i_int_int, i_bool_int, i_str_int, i_tuple_int, i_list_int, c_is_str, c_nis_str, i_int_str, i_bool_str, i_str_str, i_tuple_str, i_list_str, c_is_list, c_nis_list, i_int_list, i_bool_list, i_str_list, i_tuple_list, i_list_list, c_is_tuple, c_nis_tuple, i_int_tuple, i_bool_tuple, i_str_tuple, i_tuple_tuple, i_list_tuple, c_isb, c_nisb, f_lenl, f_lent, f_lens, f_abs, f_int, f_intb, f_str, f_listl, f_listt, f_listf, f_tupl, f_tupt, f_sum, f_all, f_any, f_max2, f_min2, x_l, x_t, x_s, some_1, s_l, s_t, r_any, r_anyt, r_anys, r_rng1, r_rng2, r_zipl, r_zipt, r_enum, st_l, a0_nil, a0_cons, oo_nil, oo_f, oo_t, run_f, end_rt, end_nx, cs_call, cs_modes, cs_glob, Option.bind_some, Option.bind_none, Option.map_some, Option.map_none, List.getElem?_cons_zero, List.getElem?_cons_succ, List.set_cons_zero, List.set_cons_succ, List.cons_append, List.nil_append, List.append_nil, List.replicate, List.length_cons, List.length_nil, Bool.false_eq_true, if_true, if_false, Bool.not_true, Bool.not_false, reduceIte, reduceCtorEq, Nat.reduceAdd, Nat.reduceSub, Nat.reduceLT, wipeR, backR, okLent, nodupN, lentAt, List.all_nil, List.all_cons, List.any_nil, List.any_cons, List.contains_nil, Bool.and_true, Bool.true_and, Bool.and_false, Bool.false_and, Bool.or_true, Bool.true_or, Bool.or_false, Bool.false_or, plainAt, List.getD_cons_zero, List.getD_cons_succ, mutAt, augAt, noMut, noMuts, noElems, putOuts, dropL, drop1, c_eqi, c_nei, c_eqs, at0, at1, at2, at3, at4, at5, decide_true, decide_false, callX_some, eq_self, ite_self]
  all_goals simp only [f2, isT, e_c, e_v, e_g, e_tup, e_lst, e_op, e_and, e_or, e_not, e_ite, e_chain, e_call, callX_pure, e_comp, es_nil, es_cons, eb_nil, eb_v, eb_c, ea_c, ef_c, eb_g, ea_g, ef_g, eb_tup, ea_tup, ef_tup, eb_lst, ea_lst, ef_lst, eb_op, ea_op, ef_op, eb_and, ea_and, ef_and, eb_or, ea_or, ef_or, eb_not, ea_not, ef_not, eb_ite, ea_ite, ef_ite, eb_chain, ea_chain, ef_chain, eb_call, ea_call, ef_call, eb_comp, ea_comp, ef_comp, eb_pop, ea_pop, ef_pop, ea_nil, ea_v, ea_io, ec_nil, ec_one, ep_nil, ep_cons, x_asgn, x_asgt, x_par, x_ex, x_retv, x_retN, x_ife, x_for, x_brk, x_cont, x_pass, x_append, x_setix, x_aug, xs_nil, xs_cons, th_nx, th_bk, th_ct, th_rt, as_bool, rd_val, rd_own, rd_lent, le_val, le_own, le_io, le_lent, le_lio, lx_val, lx_own, lx_io, li_own, li_io, se_val, se_own, se_lent, se_none, re_val, re_own, ap_own, ap_io, si_own, si_io, au_own, au_io, au_int, au_str, bt_n, bt_t, bts_nil, bts_cons, sv_nil, sv_cons, un_nil, un_cons, un_lent, un_lio, un_val, un_own, un_io, o_cmp, o_bin, o_bi, o_ix, o_sl0, o_sl1, o_sl2, o_sl3, o_revl, o_revt, o_neg, o_meth, bl_1, b_add, b_adds, b_addl, b_addt, b_sub, b_mul, b_fdiv, b_mod, b_pow, b_and, b_or, b_xor, c_lt, c_le, c_gt, c_ge, c_lts, c_les, c_gts, c_ges, c_in, c_nin, c_is_none, c_nis_none, i_int_none, i_bool_none, i_str_none, i_tuple_none, i_list_none, c_is_bool, c_nis_bool, i_int_bool, i_bool_bool, i_str_bool, i_tuple_bool, i_list_bool, c_is_int, c_nis_int, i_int_int, i_bool_int, i_str_int, i_tuple_int, i_list_int, c_is_str, c_nis_str, i_int_str, i_bool_str, i_str_str, i_tuple_str, i_list_str, c_is_list, c_nis_list, i_int_list, i_bool_list, i_str_list, i_tuple_list, i_list_list, c_is_tuple, c_nis_tuple, i_int_tuple, i_bool_tuple, i_str_tuple, i_tuple_tuple, i_list_tuple, c_isb, c_nisb, f_lenl, f_lent, f_lens, f_abs, f_int, f_intb, f_str, f_listl, f_listt, f_listf, f_tupl, f_tupt, f_sum, f_all, f_any, f_max2, f_min2, x_l, x_t, x_s, some_1, s_l, s_t, r_any, r_anyt, r_anys, r_rng1, r_rng2, r_zipl, r_zipt, r_enum, st_l, a0_nil, a0_cons, oo_nil, oo_f, oo_t, run_f, end_rt, end_nx, cs_call, cs_modes, cs_glob, Option.bind_some, Option.bind_none, Option.map_some, Option.map_none, List.getElem?_cons_zero, List.getElem?_cons_succ, List.set_cons_zero, List.set_cons_succ, List.cons_append, List.nil_append, List.append_nil, List.replicate, List.length_cons, List.length_nil, Bool.false_eq_true, if_true, if_false, Bool.not_true, Bool.not_false, reduceIte, reduceCtorEq, Nat.reduceAdd, Nat.reduceSub, Nat.reduceLT, wipeR, backR, okLent, nodupN, lentAt, List.all_nil, List.all_cons, List.any_nil, List.any_cons, List.contains_nil, Bool.and_true, Bool.true_and, Bool.and_false, Bool.false_and, Bool.or_true, Bool.true_or, Bool.or_false, Bool.false_or, plainAt, List.getD_cons_zero, List.getD_cons_succ, mutAt, augAt, noMut, noMuts, noElems, putOuts, dropL, drop1, c_eqi, c_nei, c_eqs, at0, at1, at2, at3, at4, at5, decide_true, decide_false, callX_some, eq_self, ite_self]
theorem q4 {m : Nat} (hm : 1 ≤ m) (k : Nat) (hk : k < 1000) : theP.run m 4 [.int k] = some ((.int (2 ^ k), false), []) := by
  obtain ⟨n, rfl⟩ : ∃ n, m = n + 1 := ⟨m - 1, by omega⟩
  rw [run_eq rfl]
  have h1 : decide ((k : Int) < 2 ^ 62) = true := decide_eq_true (by omega)
  have h2 : decide (-(2 ^ 62) ≤ (k : Int)) = true := decide_eq_true (by omega)
  have lp := fun C => forL_ix (I := fun j ρ => ∃ t : SV, (t = none ∨ ∃ d, t = some (.val, d)) ∧ ρ = [some (.val, .int k), some (.val, .int (2 ^ j)), t])
    (f := turnF C (.n 2) [.asg (.n 1) (.op (.bin .mul) [(.c (.int (2))), (.v 1)])]) (xs := rngF 0 k) (i := 0) (ρ := [some (.val, .int k), some (.val, .int 1), none]) ⟨none, .inl rfl, rfl⟩ (by
      rintro j ρ ⟨t, ht, rfl⟩ x hx
      refine ⟨_, ?_, some (.val, x), .inr ⟨x, rfl⟩, rfl⟩
      have e : (2 : Int) * 2 ^ j = 2 ^ (j + 1) := by rw [Int.pow_succ, Int.mul_comm]
      rcases ht with rfl | ⟨d, rfl⟩ <;> simp (implicitDefEqProofs := false) [turnF, e, e_c, e_v, e_g, e_tup, e_lst, e_op, e_and, e_or, e_not, e_ite, e_chain, e_call, callX_pure, e_comp, es_nil, es_cons, eb_nil, eb_v, eb_c, ea_c, ef_c, eb_g, ea_g, ef_g, eb_tup, ea_tup, ef_tup, eb_lst, ea_lst, ef_lst, eb_op, ea_op, ef_op, eb_and, ea_and, ef_and, eb_or, ea_or, ef_or, eb_not, ea_not, ef_not, eb_ite, ea_ite, ef_ite, eb_chain, ea_chain, ef_chain, eb_call, ea_call, ef_call, eb_comp, ea_comp, ef_comp, eb_pop, ea_pop, ef_pop, ea_nil, ea_v, ea_io, ec_nil, ec_one, ep_nil, ep_cons, x_asgn, x_asgt, x_par, x_ex, x_retv, x_retN, x_ife, x_for, x_brk, x_cont, x_pass, x_append, x_setix, x_aug, xs_nil, xs_cons, th_nx, th_bk, th_ct, th_rt, as_bool, rd_val, rd_own, rd_lent, le_val, le_own, le_io, le_lent, le_lio, lx_val, lx_own, lx_io, li_own, li_io, se_val, se_own, se_lent, se_none, re_val, re_own, ap_own, ap_io, si_own, si_io, au_own, au_io, au_int, au_str, bt_n, bt_t, bts_nil, bts_cons, sv_nil, sv_cons, un_nil, un_cons, un_lent, un_lio, un_val, un_own, un_io, o_cmp, o_bin, o_bi, o_ix, o_sl0, o_sl1, o_sl2, o_sl3, o_revl, o_revt, o_neg, o_meth, bl_1, b_add, b_adds, b_addl, b_addt, b_sub, b_mul, b_fdiv, b_mod, b_pow, b_and, b_or, b_xor, c_lt, c_le, c_gt, c_ge, c_lts, c_les, c_gts, c_ges, c_in, c_nin, c_is_none, c_nis_none, i_int_none, i_bool_none, i_str_none, i_tuple_none, i_list_none, c_is_bool, c_nis_bool, i_int_bool, i_bool_bool, i_str_bool, i_tuple_bool, i_list_bool, c_is_int, c_nis_int, i_int_int, i_bool_int, i_str_int, i_tuple_int, i_list_int, c_is_str, c_nis_str, i_int_str, i_bool_str, i_str_str, i_tuple_str, i_list_str, c_is_list, c_nis_list, i_int_list, i_bool_list, i_str_list, i_tuple_list, i_list_list, c_is_tuple, c_nis_tuple, i_int_tuple, i_bool_tuple, i_str_tuple, i_tuple_tuple, i_list_tuple, c_isb, c_nisb, f_lenl, f_lent, f_lens, f_abs, f_int, f_intb, f_str, f_listl, f_listt, f_listf, f_tupl, f_tupt, f_sum, f_all, f_any, f_max2, f_min2, x_l, x_t, x_s, some_1, s_l, s_t, r_any, r_anyt, r_anys, r_rng1, r_rng2, r_zipl, r_zipt, r_enum, st_l, a0_nil, a0_cons, oo_nil, oo_f, oo_t, run_f, end_rt, end_nx, cs_call, cs_modes, cs_glob, Option.bind_some, Option.bind_none, Option.map_some, Option.map_none, List.getElem?_cons_zero, List.getElem?_cons_succ, List.set_cons_zero, List.set_cons_succ, List.cons_append, List.nil_append, List.append_nil, List.replicate, List.length_cons, List.length_nil, Bool.false_eq_true, if_true, if_false, Bool.not_true, Bool.not_false, reduceIte, reduceCtorEq, Nat.reduceAdd, Nat.reduceSub, Nat.reduceLT, wipeR, backR, okLent, nodupN, lentAt, List.all_nil, List.all_cons, List.any_nil, List.any_cons, List.contains_nil, Bool.and_true, Bool.true_and, Bool.and_false, Bool.false_and, Bool.or_true, Bool.true_or, Bool.or_false, Bool.false_or, plainAt, List.getD_cons_zero, List.getD_cons_succ, mutAt, augAt, noMut, noMuts, noElems, putOuts, dropL, drop1, c_eqi, c_nei, c_eqs, at0, at1, at2, at3, at4, at5, decide_true, decide_false, callX_some, eq_self, ite_self])
  obtain ⟨ρ', e, t, _, rfl⟩ := lp (theP.cs n)
  rw [rngF_len, Nat.zero_add] at e
  simp (implicitDefEqProofs := false) only [f4, h1, h2, Int.toNat_natCast, e, e_c, e_v, e_g, e_tup, e_lst, e_op, e_and, e_or, e_not, e_ite, e_chain, e_call, callX_pure, e_comp, es_nil, es_cons, eb_nil, eb_v, eb_c, ea_c, ef_c, eb_g, ea_g, ef_g, eb_tup, ea_tup, ef_tup, eb_lst, ea_lst, ef_lst, eb_op, ea_op, ef_op, eb_and, ea_and, ef_and, eb_or, ea_or, ef_or, eb_not, ea_not, ef_not, eb_ite, ea_ite, ef_ite, eb_chain, ea_chain, ef_chain, eb_call, ea_call, ef_call, eb_comp, ea_comp, ef_comp, eb_pop, ea_pop, ef_pop, ea_nil, ea_v, ea_io, ec_nil, ec_one, ep_nil, ep_cons, x_asgn, x_asgt, x_par, x_ex, x_retv, x_retN, x_ife, x_for, x_brk, x_cont, x_pass, x_append, x_setix, x_aug, xs_nil, xs_cons, th_nx, th_bk, th_ct, th_rt, as_bool, rd_val, rd_own, rd_lent, le_val, le_own, le_io, le_lent, le_lio, lx_val, lx_own, lx_io, li_own, li_io, se_val, se_own, se_lent, se_none, re_val, re_own, ap_own, ap_io, si_own, si_io, au_own, au_io, au_int, au_str, bt_n, bt_t, bts_nil, bts_cons, sv_nil, sv_cons, un_nil, un_cons, un_lent, un_lio, un_val, un_own, un_io, o_cmp, o_bin, o_bi, o_ix, o_sl0, o_sl1, o_sl2, o_sl3, o_revl, o_revt, o_neg, o_meth, bl_1, b_add, b_adds, b_addl, b_addt, b_sub, b_mul, b_fdiv, b_mod, b_pow, b_and, b_or, b_xor, c_lt, c_le, c_gt, c_ge, c_lts, c_les, c_gts, c_ges, c_in, c_nin, c_is_none, c_nis_none, i_int_none, i_bool_none, i_str_none, i_tuple_none, i_list_none, c_is_bool, c_nis_bool, i_int_bool, i_bool_bool, i_str_bool, i_tuple_bool, i_list_bool, c_is_int, c_nis_int, i_int_int, i_bool_int, i_str_int, i_tuple_int, i_list_int, c_is_str, c_nis_str, i_int_str, i_bool_str, i_str_str, i_tuple_str, i_list_str, c_is_list, c_nis_list, i_int_list, i_bool_list, i_str_list, i_tuple_list, i_list_list, c_is_tuple, c_nis_tuple, i_int_tuple, i_bool_tuple, i_str_tuple, i_tuple_tuple, i_list_tuple, c_isb, c_nisb, f_lenl, f_lent, f_lens, f_abs, f_int, f_intb, f_str, f_listl, f_listt, f_listf, f_tupl, f_tupt, f_sum, f_all, f_any, f_max2, f_min2, x_l, x_t, x_s, some_1, s_l, s_t, r_any, r_anyt, r_anys, r_rng1, r_rng2, r_zipl, r_zipt, r_enum, st_l, a0_nil, a0_cons, oo_nil, oo_f, oo_t, run_f, end_rt, end_nx, cs_call, cs_modes, cs_glob, Option.bind_some, Option.bind_none, Option.map_some, Option.map_none, List.getElem?_cons_zero, List.getElem?_cons_succ, List.set_cons_zero, List.set_cons_succ, List.cons_append, List.nil_append, List.append_nil, List.replicate, List.length_cons, List.length_nil, Bool.false_eq_true, if_true, if_false, Bool.not_true, Bool.not_false, reduceIte, reduceCtorEq, Nat.reduceAdd, Nat.reduceSub, Nat.reduceLT, wipeR, backR, okLent, nodupN, lentAt, List.all_nil, List.all_cons, List.any_nil, List.any_cons, List.contains_nil, Bool.and_true, Bool.true_and, Bool.and_false, Bool.false_and, Bool.or_true, Bool.true_or, Bool.or_false, Bool.false_or, plainAt, List.getD_cons_zero, List.getD_cons_succ, mutAt, augAt, noMut, noMuts, noElems, putOuts, dropL, drop1, c_eqi, c_nei, c_eqs, at0, at1, at2, at3, at4, at5, decide_true, decide_false, callX_some, eq_self, ite_self]
/-! ### data of this law -/
mutual
def okD : D → Bool
  | .str x => decide (x.length ≤ 1000)
  | .list ds => okDs ds
  | .tuple ds => okDs ds
  | .dict _ => false
  | _ => true
def okDs : List D → Bool
  | [] => true
  | d :: ds => okD d && okDs ds
end
mutual
theorem ok_dic : ∀ d : D, okD d = true → noDic d = true
  | .none, _ | .bool _, _ | .int _, _ | .str _, _ => rfl
  | .list ds, h => oks_dic ds h
  | .tuple ds, h => oks_dic ds h
  | .dict _, h => by simp [okD] at h
theorem oks_dic : ∀ ds : List D, okDs ds = true → noDics ds = true
  | [], _ => rfl
  | d :: ds, h => by
    have h' : okD d = true ∧ okDs ds = true := by simpa [okDs] using h
    simp [noDics, ok_dic d h'.1, oks_dic ds h'.2]
end
theorem oks_mem : ∀ {xs : List D}, okDs xs = true ↔ ∀ x ∈ xs, okD x = true
  | [] => by simp [okDs]
  | x :: xs => by simp [okDs, oks_mem]
def chB (y z : Str) : Bool := decide (y.cps.getD 0 0 ∈ z.cps.toList)
def fitsL (v : D) : Bool := match v with
  | .str x => decide (x.length = 1) && chB x "abcdef"
  | _ => false
theorem len_int {n m : Nat} : decide ((n : Int) = (m : Int)) = decide (n = m) := by
  by_cases h : n = m
  · simp [h]
  · have : ¬ (n : Int) = (m : Int) := by omega
    simp [h, this]
theorem inF_str {y z : Str} (h : y.length = 1) : inF (.str y) (.str z) = some (chB y z) := if_pos h
theorem q6 {m : Nat} (hm : 1 ≤ m) (v : D) (h : okD v = true) : theP.run m 6 [v] = some ((.bool (fitsL v), false), []) := by
  obtain ⟨n, rfl⟩ : ∃ n, m = n + 1 := ⟨m - 1, by omega⟩
  rw [run_eq rfl]
  cases v <;> first | (simp [okD] at h; done) | skip
  case str x =>
    have h1 : x.length ≤ lim := Nat.le_trans (of_decide_eq_true h) (by decide)
    have e : decide ((x.length : Int) = 1) = decide (x.length = 1) := len_int (m := 1)
    by_cases h2 : x.length = 1
    · have hb : decide (x.length = 1) = true := decide_eq_true h2
      have hi := inF_str (z := "abcdef") h2
      simp (implicitDefEqProofs := false) only [f6, fitsL, h1, e, hb, hi, g2, e_c, e_v, e_g, e_tup, e_lst, e_op, e_and, e_or, e_not, e_ite, e_chain, e_call, callX_pure, e_comp, es_nil, es_cons, eb_nil, eb_v, eb_c, ea_c, ef_c, eb_g, ea_g, ef_g, eb_tup, ea_tup, ef_tup, eb_lst, ea_lst, ef_lst, eb_op, ea_op, ef_op, eb_and, ea_and, ef_and, eb_or, ea_or, ef_or, eb_not, ea_not, ef_not, eb_ite, ea_ite, ef_ite, eb_chain, ea_chain, ef_chain, eb_call, ea_call, ef_call, eb_comp, ea_comp, ef_comp, eb_pop, ea_pop, ef_pop, ea_nil, ea_v, ea_io, ec_nil, ec_one, ep_nil, ep_cons, x_asgn, x_asgt, x_par, x_ex, x_retv, x_retN, x_ife, x_for, x_brk, x_cont, x_pass, x_append, x_setix, x_aug, xs_nil, xs_cons, th_nx, th_bk, th_ct, th_rt, as_bool, rd_val, rd_own, rd_lent, le_val, le_own, le_io, le_lent, le_lio, lx_val, lx_own, lx_io, li_own, li_io, se_val, se_own, se_lent, se_none, re_val, re_own, ap_own, ap_io, si_own, si_io, au_own, au_io, au_int, au_str, bt_n, bt_t, bts_nil, bts_cons, sv_nil, sv_cons, un_nil, un_cons, un_lent, un_lio, un_val, un_own, un_io, o_cmp, o_bin, o_bi, o_ix, o_sl0, o_sl1, o_sl2, o_sl3, o_revl, o_revt, o_neg, o_meth, bl_1, b_add, b_adds, b_addl, b_addt, b_sub, b_mul, b_fdiv, b_mod, b_pow, b_and, b_or, b_xor, c_lt, c_le, c_gt, c_ge, c_lts, c_les, c_gts, c_ges, c_in, c_nin, c_is_none, c_nis_none, i_int_none, i_bool_none, i_str_none, i_tuple_none, i_list_none, c_is_bool, c_nis_bool, i_int_bool, i_bool_bool, i_str_bool, i_tuple_bool, i_list_bool, c_is_int, c_nis_int, i_int_int, i_bool_int, i_str_int, i_tuple_int, i_list_int, c_is_str, c_nis_str, i_int_str, i_bool_str, i_str_str, i_tuple_str, i_list_str, c_is_list, c_nis_list, i_int_list, i_bool_list, i_str_list, i_tuple_list, i_list_list, c_is_tuple, c_nis_tuple, i_int_tuple, i_bool_tuple, i_str_tuple, i_tuple_tuple, i_list_tuple, c_isb, c_nisb, f_lenl, f_lent, f_lens, f_abs, f_int, f_intb, f_str, f_listl, f_listt, f_listf, f_tupl, f_tupt, f_sum, f_all, f_any, f_max2, f_min2, x_l, x_t, x_s, some_1, s_l, s_t, r_any, r_anyt, r_anys, r_rng1, r_rng2, r_zipl, r_zipt, r_enum, st_l, a0_nil, a0_cons, oo_nil, oo_f, oo_t, run_f, end_rt, end_nx, cs_call, cs_modes, cs_glob, Option.bind_some, Option.bind_none, Option.map_some, Option.map_none, List.getElem?_cons_zero, List.getElem?_cons_succ, List.set_cons_zero, List.set_cons_succ, List.cons_append, List.nil_append, List.append_nil, List.replicate, List.length_cons, List.length_nil, Bool.false_eq_true, if_true, if_false, Bool.not_true, Bool.not_false, reduceIte, reduceCtorEq, Nat.reduceAdd, Nat.reduceSub, Nat.reduceLT, wipeR, backR, okLent, nodupN, lentAt, List.all_nil, List.all_cons, List.any_nil, List.any_cons, List.contains_nil, Bool.and_true, Bool.true_and, Bool.and_false, Bool.false_and, Bool.or_true, Bool.true_or, Bool.or_false, Bool.false_or, plainAt, List.getD_cons_zero, List.getD_cons_succ, mutAt, augAt, noMut, noMuts, noElems, putOuts, dropL, drop1, c_eqi, c_nei, c_eqs, at0, at1, at2, at3, at4, at5, decide_true, decide_false, callX_some, eq_self, ite_self]
    · have hb : decide (x.length = 1) = false := decide_eq_false h2
      simp (implicitDefEqProofs := false) only [f6, fitsL, h1, e, hb, e_c, e_v, e_g, e_tup, e_lst, e_op, e_and, e_or, e_not, e_ite, e_chain, e_call, callX_pure, e_comp, es_nil, es_cons, eb_nil, eb_v, eb_c, ea_c, ef_c, eb_g, ea_g, ef_g, eb_tup, ea_tup, ef_tup, eb_lst, ea_lst, ef_lst, eb_op, ea_op, ef_op, eb_and, ea_and, ef_and, eb_or, ea_or, ef_or, eb_not, ea_not, ef_not, eb_ite, ea_ite, ef_ite, eb_chain, ea_chain, ef_chain, eb_call, ea_call, ef_call, eb_comp, ea_comp, ef_comp, eb_pop, ea_pop, ef_pop, ea_nil, ea_v, ea_io, ec_nil, ec_one, ep_nil, ep_cons, x_asgn, x_asgt, x_par, x_ex, x_retv, x_retN, x_ife, x_for, x_brk, x_cont, x_pass, x_append, x_setix, x_aug, xs_nil, xs_cons, th_nx, th_bk, th_ct, th_rt, as_bool, rd_val, rd_own, rd_lent, le_val, le_own, le_io, le_lent, le_lio, lx_val, lx_own, lx_io, li_own, li_io, se_val, se_own, se_lent, se_none, re_val, re_own, ap_own, ap_io, si_own, si_io, au_own, au_io, au_int, au_str, bt_n, bt_t, bts_nil, bts_cons, sv_nil, sv_cons, un_nil, un_cons, un_lent, un_lio, un_val, un_own, un_io, o_cmp, o_bin, o_bi, o_ix, o_sl0, o_sl1, o_sl2, o_sl3, o_revl, o_revt, o_neg, o_meth, bl_1, b_add, b_adds, b_addl, b_addt, b_sub, b_mul, b_fdiv, b_mod, b_pow, b_and, b_or, b_xor, c_lt, c_le, c_gt, c_ge, c_lts, c_les, c_gts, c_ges, c_in, c_nin, c_is_none, c_nis_none, i_int_none, i_bool_none, i_str_none, i_tuple_none, i_list_none, c_is_bool, c_nis_bool, i_int_bool, i_bool_bool, i_str_bool, i_tuple_bool, i_list_bool, c_is_int, c_nis_int, i_int_int, i_bool_int, i_str_int, i_tuple_int, i_list_int, c_is_str, c_nis_str, i_int_str, i_bool_str, i_str_str, i_tuple_str, i_list_str, c_is_list, c_nis_list, i_int_list, i_bool_list, i_str_list, i_tuple_list, i_list_list, c_is_tuple, c_nis_tuple, i_int_tuple, i_bool_tuple, i_str_tuple, i_tuple_tuple, i_list_tuple, c_isb, c_nisb, f_lenl, f_lent, f_lens, f_abs, f_int, f_intb, f_str, f_listl, f_listt, f_listf, f_tupl, f_tupt, f_sum, f_all, f_any, f_max2, f_min2, x_l, x_t, x_s, some_1, s_l, s_t, r_any, r_anyt, r_anys, r_rng1, r_rng2, r_zipl, r_zipt, r_enum, st_l, a0_nil, a0_cons, oo_nil, oo_f, oo_t, run_f, end_rt, end_nx, cs_call, cs_modes, cs_glob, Option.bind_some, Option.bind_none, Option.map_some, Option.map_none, List.getElem?_cons_zero, List.getElem?_cons_succ, List.set_cons_zero, List.set_cons_succ, List.cons_append, List.nil_append, List.append_nil, List.replicate, List.length_cons, List.length_nil, Bool.false_eq_true, if_true, if_false, Bool.not_true, Bool.not_false, reduceIte, reduceCtorEq, Nat.reduceAdd, Nat.reduceSub, Nat.reduceLT, wipeR, backR, okLent, nodupN, lentAt, List.all_nil, List.all_cons, List.any_nil, List.any_cons, List.contains_nil, Bool.and_true, Bool.true_and, Bool.and_false, Bool.false_and, Bool.or_true, Bool.true_or, Bool.or_false, Bool.false_or, plainAt, List.getD_cons_zero, List.getD_cons_succ, mutAt, augAt, noMut, noMuts, noElems, putOuts, dropL, drop1, c_eqi, c_nei, c_eqs, at0, at1, at2, at3, at4, at5, decide_true, decide_false, callX_some, eq_self, ite_self]
  all_goals simp (implicitDefEqProofs := false) only [f6, fitsL, e_c, e_v, e_g, e_tup, e_lst, e_op, e_and, e_or, e_not, e_ite, e_chain, e_call, callX_pure, e_comp, es_nil, es_cons, eb_nil, eb_v, eb_c, ea_c, ef_c, eb_g, ea_g, ef_g, eb_tup, ea_tup, ef_tup, eb_lst, ea_lst, ef_lst, eb_op, ea_op, ef_op, eb_and, ea_and, ef_and, eb_or, ea_or, ef_or, eb_not, ea_not, ef_not, eb_ite, ea_ite, ef_ite, eb_chain, ea_chain, ef_chain, eb_call, ea_call, ef_call, eb_comp, ea_comp, ef_comp, eb_pop, ea_pop, ef_pop, ea_nil, ea_v, ea_io, ec_nil, ec_one, ep_nil, ep_cons, x_asgn, x_asgt, x_par, x_ex, x_retv, x_retN, x_ife, x_for, x_brk, x_cont, x_pass, x_append, x_setix, x_aug, xs_nil, xs_cons, th_nx, th_bk, th_ct, th_rt, as_bool, rd_val, rd_own, rd_lent, le_val, le_own, le_io, le_lent, le_lio, lx_val, lx_own, lx_io, li_own, li_io, se_val, se_own, se_lent, se_none, re_val, re_own, ap_own, ap_io, si_own, si_io, au_own, au_io, au_int, au_str, bt_n, bt_t, bts_nil, bts_cons, sv_nil, sv_cons, un_nil, un_cons, un_lent, un_lio, un_val, un_own, un_io, o_cmp, o_bin, o_bi, o_ix, o_sl0, o_sl1, o_sl2, o_sl3, o_revl, o_revt, o_neg, o_meth, bl_1, b_add, b_adds, b_addl, b_addt, b_sub, b_mul, b_fdiv, b_mod, b_pow, b_and, b_or, b_xor, c_lt, c_le, c_gt, c_ge, c_lts, c_les, c_gts, c_ges, c_in, c_nin, c_is_none, c_nis_none, i_int_none, i_bool_none, i_str_none, i_tuple_none, i_list_none, c_is_bool, c_nis_bool, i_int_bool, i_bool_bool, i_str_bool, i_tuple_bool, i_list_bool, c_is_int, c_nis_int, i_int_int, i_bool_int, i_str_int, i_tuple_int, i_list_int, c_is_str, c_nis_str, i_int_str, i_bool_str, i_str_str, i_tuple_str, i_list_str, c_is_list, c_nis_list, i_int_list, i_bool_list, i_str_list, i_tuple_list, i_list_list, c_is_tuple, c_nis_tuple, i_int_tuple, i_bool_tuple, i_str_tuple, i_tuple_tuple, i_list_tuple, c_isb, c_nisb, f_lenl, f_lent, f_lens, f_abs, f_int, f_intb, f_str, f_listl, f_listt, f_listf, f_tupl, f_tupt, f_sum, f_all, f_any, f_max2, f_min2, x_l, x_t, x_s, some_1, s_l, s_t, r_any, r_anyt, r_anys, r_rng1, r_rng2, r_zipl, r_zipt, r_enum, st_l, a0_nil, a0_cons, oo_nil, oo_f, oo_t, run_f, end_rt, end_nx, cs_call, cs_modes, cs_glob, Option.bind_some, Option.bind_none, Option.map_some, Option.map_none, List.getElem?_cons_zero, List.getElem?_cons_succ, List.set_cons_zero, List.set_cons_succ, List.cons_append, List.nil_append, List.append_nil, List.replicate, List.length_cons, List.length_nil, Bool.false_eq_true, if_true, if_false, Bool.not_true, Bool.not_false, reduceIte, reduceCtorEq, Nat.reduceAdd, Nat.reduceSub, Nat.reduceLT, wipeR, backR, okLent, nodupN, lentAt, List.all_nil, List.all_cons, List.any_nil, List.any_cons, List.contains_nil, Bool.and_true, Bool.true_and, Bool.and_false, Bool.false_and, Bool.or_true, Bool.true_or, Bool.or_false, Bool.false_or, plainAt, List.getD_cons_zero, List.getD_cons_succ, mutAt, augAt, noMut, noMuts, noElems, putOuts, dropL, drop1, c_eqi, c_nei, c_eqs, at0, at1, at2, at3, at4, at5, decide_true, decide_false, callX_some, eq_self, ite_self]
/-! ### is_rising -/
def rise : List Str → Bool
  | a :: b :: r => decide (a.cps.toList < b.cps.toList) && rise (b :: r)
  | _ => true
def ltG (x : D) : D := match x with
  | .tuple [.str a, .str b] => .bool (decide (a.cps.toList < b.cps.toList))
  | _ => .none
theorem zip_mem : ∀ {xs ys : List Str} {x : D}, x ∈ zipF (xs.map PyData.str) (ys.map PyData.str) → ∃ a b, x = .tuple [.str a, .str b]
  | [], _, _, h => by simp [zipF] at h
  | _ :: _, [], _, h => by simp [zipF] at h
  | x :: xs, y :: ys, z, h => by
    simp only [List.map_cons, zipF, List.mem_cons] at h
    rcases h with rfl | h
    · exact ⟨x, y, rfl⟩
    · exact zip_mem h
theorem rise_zip : ∀ ls : List Str, ∃ bs : List Bool, blsOf ((zipF (ls.map PyData.str) (ls.tail.map PyData.str)).map ltG) = some bs ∧ bs.all id = rise ls
  | [] => ⟨[], rfl, rfl⟩
  | [a] => ⟨[], rfl, rfl⟩
  | a :: b :: r => by
    obtain ⟨bs, e1, e2⟩ := rise_zip (b :: r)
    refine ⟨decide (a.cps.toList < b.cps.toList) :: bs, ?_, ?_⟩
    · show (blsOf ((zipF ((b :: r).map PyData.str) (r.map PyData.str)).map ltG)).map _ = _
      have e1 : blsOf ((zipF ((b :: r).map PyData.str) (r.map PyData.str)).map ltG) = some bs := e1
      rw [e1]
      rfl
    · rw [List.all_cons, e2]
      rfl
theorem cut1 (xs : List D) : cutD xs (some 1) none = xs.tail := by
  cases xs with
  | nil => rfl
  | cons x xs => simp [cutD, HT.sIx]
theorem zip_len : ∀ xs ys : List D, (zipF xs ys).length ≤ xs.length := fun xs ys => by
  rw [zipF_len]
  exact Nat.min_le_left _ _
theorem q3 {m : Nat} (hm : 1 ≤ m) (ls : List Str) (h : ls.length ≤ 1000) : theP.run m 3 [.list (ls.map PyData.str)] = some ((.bool (rise ls), false), []) := by
  obtain ⟨n, rfl⟩ : ∃ n, m = n + 1 := ⟨m - 1, by omega⟩
  rw [run_eq rfl]
  obtain ⟨bs, e1, e2⟩ := rise_zip ls
  have et : (ls.map PyData.str).tail = ls.tail.map PyData.str := by cases ls <;> rfl
  have lp := fun C : Calls => compL_map (f := turnC C (.op (.cmp .lt) [(.v 1), (.v 2)]) (.t [(.n 1), (.n 2)]) [] [1, 2]) (g := ltG) (ρ := [some (.val, .list (ls.map PyData.str)), none, none]) (xs := zipF (ls.map PyData.str) (ls.tail.map PyData.str)) fun x hx => by
    obtain ⟨a, b, rfl⟩ := zip_mem hx
    simp (implicitDefEqProofs := false) only [turnC, ltG, e_c, e_v, e_g, e_tup, e_lst, e_op, e_and, e_or, e_not, e_ite, e_chain, e_call, callX_pure, e_comp, es_nil, es_cons, eb_nil, eb_v, eb_c, ea_c, ef_c, eb_g, ea_g, ef_g, eb_tup, ea_tup, ef_tup, eb_lst, ea_lst, ef_lst, eb_op, ea_op, ef_op, eb_and, ea_and, ef_and, eb_or, ea_or, ef_or, eb_not, ea_not, ef_not, eb_ite, ea_ite, ef_ite, eb_chain, ea_chain, ef_chain, eb_call, ea_call, ef_call, eb_comp, ea_comp, ef_comp, eb_pop, ea_pop, ef_pop, ea_nil, ea_v, ea_io, ec_nil, ec_one, ep_nil, ep_cons, x_asgn, x_asgt, x_par, x_ex, x_retv, x_retN, x_ife, x_for, x_brk, x_cont, x_pass, x_append, x_setix, x_aug, xs_nil, xs_cons, th_nx, th_bk, th_ct, th_rt, as_bool, rd_val, rd_own, rd_lent, le_val, le_own, le_io, le_lent, le_lio, lx_val, lx_own, lx_io, li_own, li_io, se_val, se_own, se_lent, se_none, re_val, re_own, ap_own, ap_io, si_own, si_io, au_own, au_io, au_int, au_str, bt_n, bt_t, bts_nil, bts_cons, sv_nil, sv_cons, un_nil, un_cons, un_lent, un_lio, un_val, un_own, un_io, o_cmp, o_bin, o_bi, o_ix, o_sl0, o_sl1, o_sl2, o_sl3, o_revl, o_revt, o_neg, o_meth, bl_1, b_add, b_adds, b_addl, b_addt, b_sub, b_mul, b_fdiv, b_mod, b_pow, b_and, b_or, b_xor, c_lt, c_le, c_gt, c_ge, c_lts, c_les, c_gts, c_ges, c_in, c_nin, c_is_none, c_nis_none, i_int_none, i_bool_none, i_str_none, i_tuple_none, i_list_none, c_is_bool, c_nis_bool, i_int_bool, i_bool_bool, i_str_bool, i_tuple_bool, i_list_bool, c_is_int, c_nis_int, i_int_int, i_bool_int, i_str_int, i_tuple_int, i_list_int, c_is_str, c_nis_str, i_int_str, i_bool_str, i_str_str, i_tuple_str, i_list_str, c_is_list, c_nis_list, i_int_list, i_bool_list, i_str_list, i_tuple_list, i_list_list, c_is_tuple, c_nis_tuple, i_int_tuple, i_bool_tuple, i_str_tuple, i_tuple_tuple, i_list_tuple, c_isb, c_nisb, f_lenl, f_lent, f_lens, f_abs, f_int, f_intb, f_str, f_listl, f_listt, f_listf, f_tupl, f_tupt, f_sum, f_all, f_any, f_max2, f_min2, x_l, x_t, x_s, some_1, s_l, s_t, r_any, r_anyt, r_anys, r_rng1, r_rng2, r_zipl, r_zipt, r_enum, st_l, a0_nil, a0_cons, oo_nil, oo_f, oo_t, run_f, end_rt, end_nx, cs_call, cs_modes, cs_glob, Option.bind_some, Option.bind_none, Option.map_some, Option.map_none, List.getElem?_cons_zero, List.getElem?_cons_succ, List.set_cons_zero, List.set_cons_succ, List.cons_append, List.nil_append, List.append_nil, List.replicate, List.length_cons, List.length_nil, Bool.false_eq_true, if_true, if_false, Bool.not_true, Bool.not_false, reduceIte, reduceCtorEq, Nat.reduceAdd, Nat.reduceSub, Nat.reduceLT, wipeR, backR, okLent, nodupN, lentAt, List.all_nil, List.all_cons, List.any_nil, List.any_cons, List.contains_nil, Bool.and_true, Bool.true_and, Bool.and_false, Bool.false_and, Bool.or_true, Bool.true_or, Bool.or_false, Bool.false_or, plainAt, List.getD_cons_zero, List.getD_cons_succ, mutAt, augAt, noMut, noMuts, noElems, putOuts, dropL, drop1, c_eqi, c_nei, c_eqs, at0, at1, at2, at3, at4, at5, decide_true, decide_false, callX_some, eq_self, ite_self]
  have hl : ((zipF (ls.map PyData.str) (ls.tail.map PyData.str)).map ltG).length ≤ lim := by
    rw [List.length_map]
    refine Nat.le_trans (zip_len _ _) ?_
    rw [List.length_map]
    exact Nat.le_trans h (by decide)
  simp (implicitDefEqProofs := false) only [f3, cut1, et, lp, hl, e1, e2, e_c, e_v, e_g, e_tup, e_lst, e_op, e_and, e_or, e_not, e_ite, e_chain, e_call, callX_pure, e_comp, es_nil, es_cons, eb_nil, eb_v, eb_c, ea_c, ef_c, eb_g, ea_g, ef_g, eb_tup, ea_tup, ef_tup, eb_lst, ea_lst, ef_lst, eb_op, ea_op, ef_op, eb_and, ea_and, ef_and, eb_or, ea_or, ef_or, eb_not, ea_not, ef_not, eb_ite, ea_ite, ef_ite, eb_chain, ea_chain, ef_chain, eb_call, ea_call, ef_call, eb_comp, ea_comp, ef_comp, eb_pop, ea_pop, ef_pop, ea_nil, ea_v, ea_io, ec_nil, ec_one, ep_nil, ep_cons, x_asgn, x_asgt, x_par, x_ex, x_retv, x_retN, x_ife, x_for, x_brk, x_cont, x_pass, x_append, x_setix, x_aug, xs_nil, xs_cons, th_nx, th_bk, th_ct, th_rt, as_bool, rd_val, rd_own, rd_lent, le_val, le_own, le_io, le_lent, le_lio, lx_val, lx_own, lx_io, li_own, li_io, se_val, se_own, se_lent, se_none, re_val, re_own, ap_own, ap_io, si_own, si_io, au_own, au_io, au_int, au_str, bt_n, bt_t, bts_nil, bts_cons, sv_nil, sv_cons, un_nil, un_cons, un_lent, un_lio, un_val, un_own, un_io, o_cmp, o_bin, o_bi, o_ix, o_sl0, o_sl1, o_sl2, o_sl3, o_revl, o_revt, o_neg, o_meth, bl_1, b_add, b_adds, b_addl, b_addt, b_sub, b_mul, b_fdiv, b_mod, b_pow, b_and, b_or, b_xor, c_lt, c_le, c_gt, c_ge, c_lts, c_les, c_gts, c_ges, c_in, c_nin, c_is_none, c_nis_none, i_int_none, i_bool_none, i_str_none, i_tuple_none, i_list_none, c_is_bool, c_nis_bool, i_int_bool, i_bool_bool, i_str_bool, i_tuple_bool, i_list_bool, c_is_int, c_nis_int, i_int_int, i_bool_int, i_str_int, i_tuple_int, i_list_int, c_is_str, c_nis_str, i_int_str, i_bool_str, i_str_str, i_tuple_str, i_list_str, c_is_list, c_nis_list, i_int_list, i_bool_list, i_str_list, i_tuple_list, i_list_list, c_is_tuple, c_nis_tuple, i_int_tuple, i_bool_tuple, i_str_tuple, i_tuple_tuple, i_list_tuple, c_isb, c_nisb, f_lenl, f_lent, f_lens, f_abs, f_int, f_intb, f_str, f_listl, f_listt, f_listf, f_tupl, f_tupt, f_sum, f_all, f_any, f_max2, f_min2, x_l, x_t, x_s, some_1, s_l, s_t, r_any, r_anyt, r_anys, r_rng1, r_rng2, r_zipl, r_zipt, r_enum, st_l, a0_nil, a0_cons, oo_nil, oo_f, oo_t, run_f, end_rt, end_nx, cs_call, cs_modes, cs_glob, Option.bind_some, Option.bind_none, Option.map_some, Option.map_none, List.getElem?_cons_zero, List.getElem?_cons_succ, List.set_cons_zero, List.set_cons_succ, List.cons_append, List.nil_append, List.append_nil, List.replicate, List.length_cons, List.length_nil, Bool.false_eq_true, if_true, if_false, Bool.not_true, Bool.not_false, reduceIte, reduceCtorEq, Nat.reduceAdd, Nat.reduceSub, Nat.reduceLT, wipeR, backR, okLent, nodupN, lentAt, List.all_nil, List.all_cons, List.any_nil, List.any_cons, List.contains_nil, Bool.and_true, Bool.true_and, Bool.and_false, Bool.false_and, Bool.or_true, Bool.true_or, Bool.or_false, Bool.false_or, plainAt, List.getD_cons_zero, List.getD_cons_succ, mutAt, augAt, noMut, noMuts, noElems, putOuts, dropL, drop1, c_eqi, c_nei, c_eqs, at0, at1, at2, at3, at4, at5, decide_true, decide_false, callX_some, eq_self, ite_self]
/-! ### fits_fields, fits_words, fits_scene -/
theorem all_map_id {α : Type} (p : α → Bool) : ∀ xs : List α, (xs.map p).all id = xs.all p
  | [] => rfl
  | x :: xs => by simp [all_map_id p xs]
theorem len6 : (Str.ofString "abcdef").length = 6 := by decide +kernel
theorem le6 : (6 : Nat) ≤ lim := by decide
theorem isT3 {x : D} (h : isT x 3 3 = true) : ∃ a b c, x = .tuple [a, b, c] := by
  cases x <;> simp only [isT, Bool.false_eq_true] at h
  rename_i ds
  simp only [Bool.and_eq_true, decide_eq_true_eq] at h
  have l : ds.length = 3 := by omega
  obtain ⟨a, b, c, rfl⟩ := len3 l
  exact ⟨a, b, c, rfl⟩
def fA (x : D) : Bool := match x with
  | .tuple [a, b, _] => fitsL a && fitsW b 1 8
  | _ => false
def fB (x : D) : Bool := match x with
  | .tuple [_, .int k, c] => fitsW c 0 (2 ^ k.toNat - 1)
  | _ => false
def fN (x : D) : Str := match x with
  | .tuple (.str s :: _) => s
  | _ => Str.empty
def fitsF (v : D) : Bool := match v with
  | .tuple ds => decide (ds.length ≤ 6) && (ds.all (fun x => isT x 3 3) && (ds.all fA && (ds.all fB && rise (ds.map fN))))
  | _ => false
theorem fA_str {x : D} (h : fA x = true) : ∃ s k c, x = .tuple [.str s, .int k, c] ∧ 1 ≤ k ∧ k ≤ 8 := by
  unfold fA at h
  split at h
  · rename_i a b c
    obtain ⟨h1, h2⟩ := Bool.and_eq_true_iff.mp h
    cases a <;> simp only [fitsL, Bool.false_eq_true] at h1
    cases b <;> simp only [fitsW, Bool.false_eq_true] at h2
    simp only [Bool.and_eq_true, decide_eq_true_eq] at h2
    exact ⟨_, _, _, rfl, h2⟩
  · cases h
theorem q4i {m : Nat} (hm : 1 ≤ m) (k : Int) (h0 : 0 ≤ k) (hk : k < 1000) : theP.run m 4 [.int k] = some ((.int (2 ^ k.toNat), false), []) := by
  have := q4 hm k.toNat (by omega)
  rw [Int.toNat_of_nonneg h0] at this
  exact this
theorem lim_of {n : Nat} (h : n ≤ 1000) : n ≤ lim := Nat.le_trans h (by decide)
theorem q7 {m : Nat} (hm : 3 ≤ m) (v : D) (h : okD v = true) : theP.run m 7 [v] = some ((.bool (fitsF v), false), []) := by
  obtain ⟨n, rfl⟩ : ∃ n, m = n + 1 := ⟨m - 1, by omega⟩
  rw [run_eq rfl]
  have e2 := q2 (show 1 ≤ n by omega) v 0 6 (ok_dic _ h)
  cases v <;> first | (simp [okD] at h; done) | skip
  case tuple ds =>
    have hd : ∀ x ∈ ds, okD x = true := oks_mem.mp h
    have e2' : isT (.tuple ds) 0 6 = decide (ds.length ≤ 6) := by
      simp only [isT]
      by_cases q : ds.length ≤ 6
      · have a1 : decide ((0 : Int) ≤ ds.length) = true := decide_eq_true (by omega)
        have a2 : decide ((ds.length : Int) ≤ 6) = true := decide_eq_true (by omega)
        rw [a1, a2, decide_eq_true q]
        rfl
      · have a2 : decide ((ds.length : Int) ≤ 6) = false := decide_eq_false (by omega)
        rw [a2, decide_eq_false q, Bool.and_false]
    rw [e2'] at e2
    by_cases hl : ds.length ≤ 6
    rotate_left
    · have hl' := decide_eq_false hl
      rw [hl'] at e2
      simp (implicitDefEqProofs := false) only [f7, fitsF, m2, e2, hl', g2, len6, le6, show ((6 : Nat) : Int) = 6 from rfl, e_c, e_v, e_g, e_tup, e_lst, e_op, e_and, e_or, e_not, e_ite, e_chain, e_call, callX_pure, e_comp, es_nil, es_cons, eb_nil, eb_v, eb_c, ea_c, ef_c, eb_g, ea_g, ef_g, eb_tup, ea_tup, ef_tup, eb_lst, ea_lst, ef_lst, eb_op, ea_op, ef_op, eb_and, ea_and, ef_and, eb_or, ea_or, ef_or, eb_not, ea_not, ef_not, eb_ite, ea_ite, ef_ite, eb_chain, ea_chain, ef_chain, eb_call, ea_call, ef_call, eb_comp, ea_comp, ef_comp, eb_pop, ea_pop, ef_pop, ea_nil, ea_v, ea_io, ec_nil, ec_one, ep_nil, ep_cons, x_asgn, x_asgt, x_par, x_ex, x_retv, x_retN, x_ife, x_for, x_brk, x_cont, x_pass, x_append, x_setix, x_aug, xs_nil, xs_cons, th_nx, th_bk, th_ct, th_rt, as_bool, rd_val, rd_own, rd_lent, le_val, le_own, le_io, le_lent, le_lio, lx_val, lx_own, lx_io, li_own, li_io, se_val, se_own, se_lent, se_none, re_val, re_own, ap_own, ap_io, si_own, si_io, au_own, au_io, au_int, au_str, bt_n, bt_t, bts_nil, bts_cons, sv_nil, sv_cons, un_nil, un_cons, un_lent, un_lio, un_val, un_own, un_io, o_cmp, o_bin, o_bi, o_ix, o_sl0, o_sl1, o_sl2, o_sl3, o_revl, o_revt, o_neg, o_meth, bl_1, b_add, b_adds, b_addl, b_addt, b_sub, b_mul, b_fdiv, b_mod, b_pow, b_and, b_or, b_xor, c_lt, c_le, c_gt, c_ge, c_lts, c_les, c_gts, c_ges, c_in, c_nin, c_is_none, c_nis_none, i_int_none, i_bool_none, i_str_none, i_tuple_none, i_list_none, c_is_bool, c_nis_bool, i_int_bool, i_bool_bool, i_str_bool, i_tuple_bool, i_list_bool, c_is_int, c_nis_int, i_int_int, i_bool_int, i_str_int, i_tuple_int, i_list_int, c_is_str, c_nis_str, i_int_str, i_bool_str, i_str_str, i_tuple_str, i_list_str, c_is_list, c_nis_list, i_int_list, i_bool_list, i_str_list, i_tuple_list, i_list_list, c_is_tuple, c_nis_tuple, i_int_tuple, i_bool_tuple, i_str_tuple, i_tuple_tuple, i_list_tuple, c_isb, c_nisb, f_lenl, f_lent, f_lens, f_abs, f_int, f_intb, f_str, f_listl, f_listt, f_listf, f_tupl, f_tupt, f_sum, f_all, f_any, f_max2, f_min2, x_l, x_t, x_s, some_1, s_l, s_t, r_any, r_anyt, r_anys, r_rng1, r_rng2, r_zipl, r_zipt, r_enum, st_l, a0_nil, a0_cons, oo_nil, oo_f, oo_t, run_f, end_rt, end_nx, cs_call, cs_modes, cs_glob, Option.bind_some, Option.bind_none, Option.map_some, Option.map_none, List.getElem?_cons_zero, List.getElem?_cons_succ, List.set_cons_zero, List.set_cons_succ, List.cons_append, List.nil_append, List.append_nil, List.replicate, List.length_cons, List.length_nil, Bool.false_eq_true, if_true, if_false, Bool.not_true, Bool.not_false, reduceIte, reduceCtorEq, Nat.reduceAdd, Nat.reduceSub, Nat.reduceLT, wipeR, backR, okLent, nodupN, lentAt, List.all_nil, List.all_cons, List.any_nil, List.any_cons, List.contains_nil, Bool.and_true, Bool.true_and, Bool.and_false, Bool.false_and, Bool.or_true, Bool.true_or, Bool.or_false, Bool.false_or, plainAt, List.getD_cons_zero, List.getD_cons_succ, mutAt, augAt, noMut, noMuts, noElems, putOuts, dropL, drop1, c_eqi, c_nei, c_eqs, at0, at1, at2, at3, at4, at5, decide_true, decide_false, callX_some, eq_self, ite_self]
    have hl' := decide_eq_true hl
    rw [hl'] at e2
    have hlim : (ds.length ≤ lim) := lim_of (by omega)
    have c1 := compL_map (f := turnC (theP.cs n) (.call 2 [(.v 1), (.c (.int (3))), (.c (.int (3)))]) (.n 1) [] [1]) (g := fun x => .bool (isT x 3 3)) (ρ := [some (.val, .tuple ds), none]) (xs := ds) fun x hx => by
      have := q2 (show 1 ≤ n by omega) x 3 3 (ok_dic _ (hd x hx))
      simp (implicitDefEqProofs := false) only [turnC, m2, this, e_c, e_v, e_g, e_tup, e_lst, e_op, e_and, e_or, e_not, e_ite, e_chain, e_call, callX_pure, e_comp, es_nil, es_cons, eb_nil, eb_v, eb_c, ea_c, ef_c, eb_g, ea_g, ef_g, eb_tup, ea_tup, ef_tup, eb_lst, ea_lst, ef_lst, eb_op, ea_op, ef_op, eb_and, ea_and, ef_and, eb_or, ea_or, ef_or, eb_not, ea_not, ef_not, eb_ite, ea_ite, ef_ite, eb_chain, ea_chain, ef_chain, eb_call, ea_call, ef_call, eb_comp, ea_comp, ef_comp, eb_pop, ea_pop, ef_pop, ea_nil, ea_v, ea_io, ec_nil, ec_one, ep_nil, ep_cons, x_asgn, x_asgt, x_par, x_ex, x_retv, x_retN, x_ife, x_for, x_brk, x_cont, x_pass, x_append, x_setix, x_aug, xs_nil, xs_cons, th_nx, th_bk, th_ct, th_rt, as_bool, rd_val, rd_own, rd_lent, le_val, le_own, le_io, le_lent, le_lio, lx_val, lx_own, lx_io, li_own, li_io, se_val, se_own, se_lent, se_none, re_val, re_own, ap_own, ap_io, si_own, si_io, au_own, au_io, au_int, au_str, bt_n, bt_t, bts_nil, bts_cons, sv_nil, sv_cons, un_nil, un_cons, un_lent, un_lio, un_val, un_own, un_io, o_cmp, o_bin, o_bi, o_ix, o_sl0, o_sl1, o_sl2, o_sl3, o_revl, o_revt, o_neg, o_meth, bl_1, b_add, b_adds, b_addl, b_addt, b_sub, b_mul, b_fdiv, b_mod, b_pow, b_and, b_or, b_xor, c_lt, c_le, c_gt, c_ge, c_lts, c_les, c_gts, c_ges, c_in, c_nin, c_is_none, c_nis_none, i_int_none, i_bool_none, i_str_none, i_tuple_none, i_list_none, c_is_bool, c_nis_bool, i_int_bool, i_bool_bool, i_str_bool, i_tuple_bool, i_list_bool, c_is_int, c_nis_int, i_int_int, i_bool_int, i_str_int, i_tuple_int, i_list_int, c_is_str, c_nis_str, i_int_str, i_bool_str, i_str_str, i_tuple_str, i_list_str, c_is_list, c_nis_list, i_int_list, i_bool_list, i_str_list, i_tuple_list, i_list_list, c_is_tuple, c_nis_tuple, i_int_tuple, i_bool_tuple, i_str_tuple, i_tuple_tuple, i_list_tuple, c_isb, c_nisb, f_lenl, f_lent, f_lens, f_abs, f_int, f_intb, f_str, f_listl, f_listt, f_listf, f_tupl, f_tupt, f_sum, f_all, f_any, f_max2, f_min2, x_l, x_t, x_s, some_1, s_l, s_t, r_any, r_anyt, r_anys, r_rng1, r_rng2, r_zipl, r_zipt, r_enum, st_l, a0_nil, a0_cons, oo_nil, oo_f, oo_t, run_f, end_rt, end_nx, cs_call, cs_modes, cs_glob, Option.bind_some, Option.bind_none, Option.map_some, Option.map_none, List.getElem?_cons_zero, List.getElem?_cons_succ, List.set_cons_zero, List.set_cons_succ, List.cons_append, List.nil_append, List.append_nil, List.replicate, List.length_cons, List.length_nil, Bool.false_eq_true, if_true, if_false, Bool.not_true, Bool.not_false, reduceIte, reduceCtorEq, Nat.reduceAdd, Nat.reduceSub, Nat.reduceLT, wipeR, backR, okLent, nodupN, lentAt, List.all_nil, List.all_cons, List.any_nil, List.any_cons, List.contains_nil, Bool.and_true, Bool.true_and, Bool.and_false, Bool.false_and, Bool.or_true, Bool.true_or, Bool.or_false, Bool.false_or, plainAt, List.getD_cons_zero, List.getD_cons_succ, mutAt, augAt, noMut, noMuts, noElems, putOuts, dropL, drop1, c_eqi, c_nei, c_eqs, at0, at1, at2, at3, at4, at5, decide_true, decide_false, callX_some, eq_self, ite_self]
    by_cases h3 : ds.all (fun x => isT x 3 3) = true
    rotate_left
    · have h3 := eq_false_of_ne_true h3
      simp (implicitDefEqProofs := false) only [f7, fitsF, m2, e2, hl', g2, len6, le6, show ((6 : Nat) : Int) = 6 from rfl, c1, List.length_map, hlim, bls_map, all_map_id, h3, e_c, e_v, e_g, e_tup, e_lst, e_op, e_and, e_or, e_not, e_ite, e_chain, e_call, callX_pure, e_comp, es_nil, es_cons, eb_nil, eb_v, eb_c, ea_c, ef_c, eb_g, ea_g, ef_g, eb_tup, ea_tup, ef_tup, eb_lst, ea_lst, ef_lst, eb_op, ea_op, ef_op, eb_and, ea_and, ef_and, eb_or, ea_or, ef_or, eb_not, ea_not, ef_not, eb_ite, ea_ite, ef_ite, eb_chain, ea_chain, ef_chain, eb_call, ea_call, ef_call, eb_comp, ea_comp, ef_comp, eb_pop, ea_pop, ef_pop, ea_nil, ea_v, ea_io, ec_nil, ec_one, ep_nil, ep_cons, x_asgn, x_asgt, x_par, x_ex, x_retv, x_retN, x_ife, x_for, x_brk, x_cont, x_pass, x_append, x_setix, x_aug, xs_nil, xs_cons, th_nx, th_bk, th_ct, th_rt, as_bool, rd_val, rd_own, rd_lent, le_val, le_own, le_io, le_lent, le_lio, lx_val, lx_own, lx_io, li_own, li_io, se_val, se_own, se_lent, se_none, re_val, re_own, ap_own, ap_io, si_own, si_io, au_own, au_io, au_int, au_str, bt_n, bt_t, bts_nil, bts_cons, sv_nil, sv_cons, un_nil, un_cons, un_lent, un_lio, un_val, un_own, un_io, o_cmp, o_bin, o_bi, o_ix, o_sl0, o_sl1, o_sl2, o_sl3, o_revl, o_revt, o_neg, o_meth, bl_1, b_add, b_adds, b_addl, b_addt, b_sub, b_mul, b_fdiv, b_mod, b_pow, b_and, b_or, b_xor, c_lt, c_le, c_gt, c_ge, c_lts, c_les, c_gts, c_ges, c_in, c_nin, c_is_none, c_nis_none, i_int_none, i_bool_none, i_str_none, i_tuple_none, i_list_none, c_is_bool, c_nis_bool, i_int_bool, i_bool_bool, i_str_bool, i_tuple_bool, i_list_bool, c_is_int, c_nis_int, i_int_int, i_bool_int, i_str_int, i_tuple_int, i_list_int, c_is_str, c_nis_str, i_int_str, i_bool_str, i_str_str, i_tuple_str, i_list_str, c_is_list, c_nis_list, i_int_list, i_bool_list, i_str_list, i_tuple_list, i_list_list, c_is_tuple, c_nis_tuple, i_int_tuple, i_bool_tuple, i_str_tuple, i_tuple_tuple, i_list_tuple, c_isb, c_nisb, f_lenl, f_lent, f_lens, f_abs, f_int, f_intb, f_str, f_listl, f_listt, f_listf, f_tupl, f_tupt, f_sum, f_all, f_any, f_max2, f_min2, x_l, x_t, x_s, some_1, s_l, s_t, r_any, r_anyt, r_anys, r_rng1, r_rng2, r_zipl, r_zipt, r_enum, st_l, a0_nil, a0_cons, oo_nil, oo_f, oo_t, run_f, end_rt, end_nx, cs_call, cs_modes, cs_glob, Option.bind_some, Option.bind_none, Option.map_some, Option.map_none, List.getElem?_cons_zero, List.getElem?_cons_succ, List.set_cons_zero, List.set_cons_succ, List.cons_append, List.nil_append, List.append_nil, List.replicate, List.length_cons, List.length_nil, Bool.false_eq_true, if_true, if_false, Bool.not_true, Bool.not_false, reduceIte, reduceCtorEq, Nat.reduceAdd, Nat.reduceSub, Nat.reduceLT, wipeR, backR, okLent, nodupN, lentAt, List.all_nil, List.all_cons, List.any_nil, List.any_cons, List.contains_nil, Bool.and_true, Bool.true_and, Bool.and_false, Bool.false_and, Bool.or_true, Bool.true_or, Bool.or_false, Bool.false_or, plainAt, List.getD_cons_zero, List.getD_cons_succ, mutAt, augAt, noMut, noMuts, noElems, putOuts, dropL, drop1, c_eqi, c_nei, c_eqs, at0, at1, at2, at3, at4, at5, decide_true, decide_false, callX_some, eq_self, ite_self]
    have hx3 : ∀ x ∈ ds, ∃ a b c, x = .tuple [a, b, c] := fun x hx => isT3 (List.all_eq_true.mp h3 x hx)
    have c2 := compL_map (f := turnC (theP.cs n) (.and (.call 6 [(.op .ix [(.v 1), (.c (.int (0)))])]) (.call 1 [(.op .ix [(.v 1), (.c (.int (1)))]), (.c (.int (1))), (.g 1)])) (.n 1) [] [1]) (g := fun x => .bool (fA x)) (ρ := [some (.val, .tuple ds), none]) (xs := ds) fun x hx => by
      obtain ⟨a, b, c, rfl⟩ := hx3 x hx
      have ho : okDs [a, b, c] = true := hd _ hx
      have hm := oks_mem.mp ho
      have k6 := q6 (show 1 ≤ n by omega) a (hm a (by simp))
      have k1 := q1 (show 2 ≤ n by omega) b 1 8 (ok_dic _ (hm b (by simp)))
      cases hb : fitsL a
      · rw [hb] at k6
        simp (implicitDefEqProofs := false) only [turnC, m6, k6, fA, hb, e_c, e_v, e_g, e_tup, e_lst, e_op, e_and, e_or, e_not, e_ite, e_chain, e_call, callX_pure, e_comp, es_nil, es_cons, eb_nil, eb_v, eb_c, ea_c, ef_c, eb_g, ea_g, ef_g, eb_tup, ea_tup, ef_tup, eb_lst, ea_lst, ef_lst, eb_op, ea_op, ef_op, eb_and, ea_and, ef_and, eb_or, ea_or, ef_or, eb_not, ea_not, ef_not, eb_ite, ea_ite, ef_ite, eb_chain, ea_chain, ef_chain, eb_call, ea_call, ef_call, eb_comp, ea_comp, ef_comp, eb_pop, ea_pop, ef_pop, ea_nil, ea_v, ea_io, ec_nil, ec_one, ep_nil, ep_cons, x_asgn, x_asgt, x_par, x_ex, x_retv, x_retN, x_ife, x_for, x_brk, x_cont, x_pass, x_append, x_setix, x_aug, xs_nil, xs_cons, th_nx, th_bk, th_ct, th_rt, as_bool, rd_val, rd_own, rd_lent, le_val, le_own, le_io, le_lent, le_lio, lx_val, lx_own, lx_io, li_own, li_io, se_val, se_own, se_lent, se_none, re_val, re_own, ap_own, ap_io, si_own, si_io, au_own, au_io, au_int, au_str, bt_n, bt_t, bts_nil, bts_cons, sv_nil, sv_cons, un_nil, un_cons, un_lent, un_lio, un_val, un_own, un_io, o_cmp, o_bin, o_bi, o_ix, o_sl0, o_sl1, o_sl2, o_sl3, o_revl, o_revt, o_neg, o_meth, bl_1, b_add, b_adds, b_addl, b_addt, b_sub, b_mul, b_fdiv, b_mod, b_pow, b_and, b_or, b_xor, c_lt, c_le, c_gt, c_ge, c_lts, c_les, c_gts, c_ges, c_in, c_nin, c_is_none, c_nis_none, i_int_none, i_bool_none, i_str_none, i_tuple_none, i_list_none, c_is_bool, c_nis_bool, i_int_bool, i_bool_bool, i_str_bool, i_tuple_bool, i_list_bool, c_is_int, c_nis_int, i_int_int, i_bool_int, i_str_int, i_tuple_int, i_list_int, c_is_str, c_nis_str, i_int_str, i_bool_str, i_str_str, i_tuple_str, i_list_str, c_is_list, c_nis_list, i_int_list, i_bool_list, i_str_list, i_tuple_list, i_list_list, c_is_tuple, c_nis_tuple, i_int_tuple, i_bool_tuple, i_str_tuple, i_tuple_tuple, i_list_tuple, c_isb, c_nisb, f_lenl, f_lent, f_lens, f_abs, f_int, f_intb, f_str, f_listl, f_listt, f_listf, f_tupl, f_tupt, f_sum, f_all, f_any, f_max2, f_min2, x_l, x_t, x_s, some_1, s_l, s_t, r_any, r_anyt, r_anys, r_rng1, r_rng2, r_zipl, r_zipt, r_enum, st_l, a0_nil, a0_cons, oo_nil, oo_f, oo_t, run_f, end_rt, end_nx, cs_call, cs_modes, cs_glob, Option.bind_some, Option.bind_none, Option.map_some, Option.map_none, List.getElem?_cons_zero, List.getElem?_cons_succ, List.set_cons_zero, List.set_cons_succ, List.cons_append, List.nil_append, List.append_nil, List.replicate, List.length_cons, List.length_nil, Bool.false_eq_true, if_true, if_false, Bool.not_true, Bool.not_false, reduceIte, reduceCtorEq, Nat.reduceAdd, Nat.reduceSub, Nat.reduceLT, wipeR, backR, okLent, nodupN, lentAt, List.all_nil, List.all_cons, List.any_nil, List.any_cons, List.contains_nil, Bool.and_true, Bool.true_and, Bool.and_false, Bool.false_and, Bool.or_true, Bool.true_or, Bool.or_false, Bool.false_or, plainAt, List.getD_cons_zero, List.getD_cons_succ, mutAt, augAt, noMut, noMuts, noElems, putOuts, dropL, drop1, c_eqi, c_nei, c_eqs, at0, at1, at2, at3, at4, at5, decide_true, decide_false, callX_some, eq_self, ite_self]
      · rw [hb] at k6
        simp (implicitDefEqProofs := false) only [turnC, m6, m1, g1, k6, k1, fA, hb, e_c, e_v, e_g, e_tup, e_lst, e_op, e_and, e_or, e_not, e_ite, e_chain, e_call, callX_pure, e_comp, es_nil, es_cons, eb_nil, eb_v, eb_c, ea_c, ef_c, eb_g, ea_g, ef_g, eb_tup, ea_tup, ef_tup, eb_lst, ea_lst, ef_lst, eb_op, ea_op, ef_op, eb_and, ea_and, ef_and, eb_or, ea_or, ef_or, eb_not, ea_not, ef_not, eb_ite, ea_ite, ef_ite, eb_chain, ea_chain, ef_chain, eb_call, ea_call, ef_call, eb_comp, ea_comp, ef_comp, eb_pop, ea_pop, ef_pop, ea_nil, ea_v, ea_io, ec_nil, ec_one, ep_nil, ep_cons, x_asgn, x_asgt, x_par, x_ex, x_retv, x_retN, x_ife, x_for, x_brk, x_cont, x_pass, x_append, x_setix, x_aug, xs_nil, xs_cons, th_nx, th_bk, th_ct, th_rt, as_bool, rd_val, rd_own, rd_lent, le_val, le_own, le_io, le_lent, le_lio, lx_val, lx_own, lx_io, li_own, li_io, se_val, se_own, se_lent, se_none, re_val, re_own, ap_own, ap_io, si_own, si_io, au_own, au_io, au_int, au_str, bt_n, bt_t, bts_nil, bts_cons, sv_nil, sv_cons, un_nil, un_cons, un_lent, un_lio, un_val, un_own, un_io, o_cmp, o_bin, o_bi, o_ix, o_sl0, o_sl1, o_sl2, o_sl3, o_revl, o_revt, o_neg, o_meth, bl_1, b_add, b_adds, b_addl, b_addt, b_sub, b_mul, b_fdiv, b_mod, b_pow, b_and, b_or, b_xor, c_lt, c_le, c_gt, c_ge, c_lts, c_les, c_gts, c_ges, c_in, c_nin, c_is_none, c_nis_none, i_int_none, i_bool_none, i_str_none, i_tuple_none, i_list_none, c_is_bool, c_nis_bool, i_int_bool, i_bool_bool, i_str_bool, i_tuple_bool, i_list_bool, c_is_int, c_nis_int, i_int_int, i_bool_int, i_str_int, i_tuple_int, i_list_int, c_is_str, c_nis_str, i_int_str, i_bool_str, i_str_str, i_tuple_str, i_list_str, c_is_list, c_nis_list, i_int_list, i_bool_list, i_str_list, i_tuple_list, i_list_list, c_is_tuple, c_nis_tuple, i_int_tuple, i_bool_tuple, i_str_tuple, i_tuple_tuple, i_list_tuple, c_isb, c_nisb, f_lenl, f_lent, f_lens, f_abs, f_int, f_intb, f_str, f_listl, f_listt, f_listf, f_tupl, f_tupt, f_sum, f_all, f_any, f_max2, f_min2, x_l, x_t, x_s, some_1, s_l, s_t, r_any, r_anyt, r_anys, r_rng1, r_rng2, r_zipl, r_zipt, r_enum, st_l, a0_nil, a0_cons, oo_nil, oo_f, oo_t, run_f, end_rt, end_nx, cs_call, cs_modes, cs_glob, Option.bind_some, Option.bind_none, Option.map_some, Option.map_none, List.getElem?_cons_zero, List.getElem?_cons_succ, List.set_cons_zero, List.set_cons_succ, List.cons_append, List.nil_append, List.append_nil, List.replicate, List.length_cons, List.length_nil, Bool.false_eq_true, if_true, if_false, Bool.not_true, Bool.not_false, reduceIte, reduceCtorEq, Nat.reduceAdd, Nat.reduceSub, Nat.reduceLT, wipeR, backR, okLent, nodupN, lentAt, List.all_nil, List.all_cons, List.any_nil, List.any_cons, List.contains_nil, Bool.and_true, Bool.true_and, Bool.and_false, Bool.false_and, Bool.or_true, Bool.true_or, Bool.or_false, Bool.false_or, plainAt, List.getD_cons_zero, List.getD_cons_succ, mutAt, augAt, noMut, noMuts, noElems, putOuts, dropL, drop1, c_eqi, c_nei, c_eqs, at0, at1, at2, at3, at4, at5, decide_true, decide_false, callX_some, eq_self, ite_self]
    by_cases h4 : ds.all fA = true
    rotate_left
    · have h4 := eq_false_of_ne_true h4
      simp (implicitDefEqProofs := false) only [f7, fitsF, m2, e2, hl', g2, len6, le6, show ((6 : Nat) : Int) = 6 from rfl, c1, c2, List.length_map, hlim, bls_map, all_map_id, h3, h4, e_c, e_v, e_g, e_tup, e_lst, e_op, e_and, e_or, e_not, e_ite, e_chain, e_call, callX_pure, e_comp, es_nil, es_cons, eb_nil, eb_v, eb_c, ea_c, ef_c, eb_g, ea_g, ef_g, eb_tup, ea_tup, ef_tup, eb_lst, ea_lst, ef_lst, eb_op, ea_op, ef_op, eb_and, ea_and, ef_and, eb_or, ea_or, ef_or, eb_not, ea_not, ef_not, eb_ite, ea_ite, ef_ite, eb_chain, ea_chain, ef_chain, eb_call, ea_call, ef_call, eb_comp, ea_comp, ef_comp, eb_pop, ea_pop, ef_pop, ea_nil, ea_v, ea_io, ec_nil, ec_one, ep_nil, ep_cons, x_asgn, x_asgt, x_par, x_ex, x_retv, x_retN, x_ife, x_for, x_brk, x_cont, x_pass, x_append, x_setix, x_aug, xs_nil, xs_cons, th_nx, th_bk, th_ct, th_rt, as_bool, rd_val, rd_own, rd_lent, le_val, le_own, le_io, le_lent, le_lio, lx_val, lx_own, lx_io, li_own, li_io, se_val, se_own, se_lent, se_none, re_val, re_own, ap_own, ap_io, si_own, si_io, au_own, au_io, au_int, au_str, bt_n, bt_t, bts_nil, bts_cons, sv_nil, sv_cons, un_nil, un_cons, un_lent, un_lio, un_val, un_own, un_io, o_cmp, o_bin, o_bi, o_ix, o_sl0, o_sl1, o_sl2, o_sl3, o_revl, o_revt, o_neg, o_meth, bl_1, b_add, b_adds, b_addl, b_addt, b_sub, b_mul, b_fdiv, b_mod, b_pow, b_and, b_or, b_xor, c_lt, c_le, c_gt, c_ge, c_lts, c_les, c_gts, c_ges, c_in, c_nin, c_is_none, c_nis_none, i_int_none, i_bool_none, i_str_none, i_tuple_none, i_list_none, c_is_bool, c_nis_bool, i_int_bool, i_bool_bool, i_str_bool, i_tuple_bool, i_list_bool, c_is_int, c_nis_int, i_int_int, i_bool_int, i_str_int, i_tuple_int, i_list_int, c_is_str, c_nis_str, i_int_str, i_bool_str, i_str_str, i_tuple_str, i_list_str, c_is_list, c_nis_list, i_int_list, i_bool_list, i_str_list, i_tuple_list, i_list_list, c_is_tuple, c_nis_tuple, i_int_tuple, i_bool_tuple, i_str_tuple, i_tuple_tuple, i_list_tuple, c_isb, c_nisb, f_lenl, f_lent, f_lens, f_abs, f_int, f_intb, f_str, f_listl, f_listt, f_listf, f_tupl, f_tupt, f_sum, f_all, f_any, f_max2, f_min2, x_l, x_t, x_s, some_1, s_l, s_t, r_any, r_anyt, r_anys, r_rng1, r_rng2, r_zipl, r_zipt, r_enum, st_l, a0_nil, a0_cons, oo_nil, oo_f, oo_t, run_f, end_rt, end_nx, cs_call, cs_modes, cs_glob, Option.bind_some, Option.bind_none, Option.map_some, Option.map_none, List.getElem?_cons_zero, List.getElem?_cons_succ, List.set_cons_zero, List.set_cons_succ, List.cons_append, List.nil_append, List.append_nil, List.replicate, List.length_cons, List.length_nil, Bool.false_eq_true, if_true, if_false, Bool.not_true, Bool.not_false, reduceIte, reduceCtorEq, Nat.reduceAdd, Nat.reduceSub, Nat.reduceLT, wipeR, backR, okLent, nodupN, lentAt, List.all_nil, List.all_cons, List.any_nil, List.any_cons, List.contains_nil, Bool.and_true, Bool.true_and, Bool.and_false, Bool.false_and, Bool.or_true, Bool.true_or, Bool.or_false, Bool.false_or, plainAt, List.getD_cons_zero, List.getD_cons_succ, mutAt, augAt, noMut, noMuts, noElems, putOuts, dropL, drop1, c_eqi, c_nei, c_eqs, at0, at1, at2, at3, at4, at5, decide_true, decide_false, callX_some, eq_self, ite_self]
    have hx4 : ∀ x ∈ ds, ∃ s k c, x = .tuple [.str s, .int k, c] ∧ 1 ≤ k ∧ k ≤ 8 := fun x hx => fA_str (List.all_eq_true.mp h4 x hx)
    have c3 := compL_map (f := turnC (theP.cs n) (.call 1 [(.op .ix [(.v 1), (.c (.int (2)))]), (.c (.int (0))), (.op (.bin .sub) [(.call 4 [(.op .ix [(.v 1), (.c (.int (1)))])]), (.c (.int (1)))])]) (.n 1) [] [1]) (g := fun x => .bool (fB x)) (ρ := [some (.val, .tuple ds), none]) (xs := ds) fun x hx => by
      obtain ⟨s, k, c, rfl, k1, k2⟩ := hx4 x hx
      have hm := oks_mem.mp (show okDs [.str s, .int k, c] = true from hd _ hx)
      have k4 := q4i (show 1 ≤ n by omega) k (by omega) (by omega)
      have k1 := q1 (show 2 ≤ n by omega) c 0 (2 ^ k.toNat - 1) (ok_dic _ (hm c (by simp)))
      simp (implicitDefEqProofs := false) only [turnC, m4, m1, k4, k1, fB, e_c, e_v, e_g, e_tup, e_lst, e_op, e_and, e_or, e_not, e_ite, e_chain, e_call, callX_pure, e_comp, es_nil, es_cons, eb_nil, eb_v, eb_c, ea_c, ef_c, eb_g, ea_g, ef_g, eb_tup, ea_tup, ef_tup, eb_lst, ea_lst, ef_lst, eb_op, ea_op, ef_op, eb_and, ea_and, ef_and, eb_or, ea_or, ef_or, eb_not, ea_not, ef_not, eb_ite, ea_ite, ef_ite, eb_chain, ea_chain, ef_chain, eb_call, ea_call, ef_call, eb_comp, ea_comp, ef_comp, eb_pop, ea_pop, ef_pop, ea_nil, ea_v, ea_io, ec_nil, ec_one, ep_nil, ep_cons, x_asgn, x_asgt, x_par, x_ex, x_retv, x_retN, x_ife, x_for, x_brk, x_cont, x_pass, x_append, x_setix, x_aug, xs_nil, xs_cons, th_nx, th_bk, th_ct, th_rt, as_bool, rd_val, rd_own, rd_lent, le_val, le_own, le_io, le_lent, le_lio, lx_val, lx_own, lx_io, li_own, li_io, se_val, se_own, se_lent, se_none, re_val, re_own, ap_own, ap_io, si_own, si_io, au_own, au_io, au_int, au_str, bt_n, bt_t, bts_nil, bts_cons, sv_nil, sv_cons, un_nil, un_cons, un_lent, un_lio, un_val, un_own, un_io, o_cmp, o_bin, o_bi, o_ix, o_sl0, o_sl1, o_sl2, o_sl3, o_revl, o_revt, o_neg, o_meth, bl_1, b_add, b_adds, b_addl, b_addt, b_sub, b_mul, b_fdiv, b_mod, b_pow, b_and, b_or, b_xor, c_lt, c_le, c_gt, c_ge, c_lts, c_les, c_gts, c_ges, c_in, c_nin, c_is_none, c_nis_none, i_int_none, i_bool_none, i_str_none, i_tuple_none, i_list_none, c_is_bool, c_nis_bool, i_int_bool, i_bool_bool, i_str_bool, i_tuple_bool, i_list_bool, c_is_int, c_nis_int, i_int_int, i_bool_int, i_str_int, i_tuple_int, i_list_int, c_is_str, c_nis_str, i_int_str, i_bool_str, i_str_str, i_tuple_str, i_list_str, c_is_list, c_nis_list, i_int_list, i_bool_list, i_str_list, i_tuple_list, i_list_list, c_is_tuple, c_nis_tuple, i_int_tuple, i_bool_tuple, i_str_tuple, i_tuple_tuple, i_list_tuple, c_isb, c_nisb, f_lenl, f_lent, f_lens, f_abs, f_int, f_intb, f_str, f_listl, f_listt, f_listf, f_tupl, f_tupt, f_sum, f_all, f_any, f_max2, f_min2, x_l, x_t, x_s, some_1, s_l, s_t, r_any, r_anyt, r_anys, r_rng1, r_rng2, r_zipl, r_zipt, r_enum, st_l, a0_nil, a0_cons, oo_nil, oo_f, oo_t, run_f, end_rt, end_nx, cs_call, cs_modes, cs_glob, Option.bind_some, Option.bind_none, Option.map_some, Option.map_none, List.getElem?_cons_zero, List.getElem?_cons_succ, List.set_cons_zero, List.set_cons_succ, List.cons_append, List.nil_append, List.append_nil, List.replicate, List.length_cons, List.length_nil, Bool.false_eq_true, if_true, if_false, Bool.not_true, Bool.not_false, reduceIte, reduceCtorEq, Nat.reduceAdd, Nat.reduceSub, Nat.reduceLT, wipeR, backR, okLent, nodupN, lentAt, List.all_nil, List.all_cons, List.any_nil, List.any_cons, List.contains_nil, Bool.and_true, Bool.true_and, Bool.and_false, Bool.false_and, Bool.or_true, Bool.true_or, Bool.or_false, Bool.false_or, plainAt, List.getD_cons_zero, List.getD_cons_succ, mutAt, augAt, noMut, noMuts, noElems, putOuts, dropL, drop1, c_eqi, c_nei, c_eqs, at0, at1, at2, at3, at4, at5, decide_true, decide_false, callX_some, eq_self, ite_self]
    by_cases h5 : ds.all fB = true
    rotate_left
    · have h5 := eq_false_of_ne_true h5
      simp (implicitDefEqProofs := false) only [f7, fitsF, m2, e2, hl', g2, len6, le6, show ((6 : Nat) : Int) = 6 from rfl, c1, c2, c3, List.length_map, hlim, bls_map, all_map_id, h3, h4, h5, e_c, e_v, e_g, e_tup, e_lst, e_op, e_and, e_or, e_not, e_ite, e_chain, e_call, callX_pure, e_comp, es_nil, es_cons, eb_nil, eb_v, eb_c, ea_c, ef_c, eb_g, ea_g, ef_g, eb_tup, ea_tup, ef_tup, eb_lst, ea_lst, ef_lst, eb_op, ea_op, ef_op, eb_and, ea_and, ef_and, eb_or, ea_or, ef_or, eb_not, ea_not, ef_not, eb_ite, ea_ite, ef_ite, eb_chain, ea_chain, ef_chain, eb_call, ea_call, ef_call, eb_comp, ea_comp, ef_comp, eb_pop, ea_pop, ef_pop, ea_nil, ea_v, ea_io, ec_nil, ec_one, ep_nil, ep_cons, x_asgn, x_asgt, x_par, x_ex, x_retv, x_retN, x_ife, x_for, x_brk, x_cont, x_pass, x_append, x_setix, x_aug, xs_nil, xs_cons, th_nx, th_bk, th_ct, th_rt, as_bool, rd_val, rd_own, rd_lent, le_val, le_own, le_io, le_lent, le_lio, lx_val, lx_own, lx_io, li_own, li_io, se_val, se_own, se_lent, se_none, re_val, re_own, ap_own, ap_io, si_own, si_io, au_own, au_io, au_int, au_str, bt_n, bt_t, bts_nil, bts_cons, sv_nil, sv_cons, un_nil, un_cons, un_lent, un_lio, un_val, un_own, un_io, o_cmp, o_bin, o_bi, o_ix, o_sl0, o_sl1, o_sl2, o_sl3, o_revl, o_revt, o_neg, o_meth, bl_1, b_add, b_adds, b_addl, b_addt, b_sub, b_mul, b_fdiv, b_mod, b_pow, b_and, b_or, b_xor, c_lt, c_le, c_gt, c_ge, c_lts, c_les, c_gts, c_ges, c_in, c_nin, c_is_none, c_nis_none, i_int_none, i_bool_none, i_str_none, i_tuple_none, i_list_none, c_is_bool, c_nis_bool, i_int_bool, i_bool_bool, i_str_bool, i_tuple_bool, i_list_bool, c_is_int, c_nis_int, i_int_int, i_bool_int, i_str_int, i_tuple_int, i_list_int, c_is_str, c_nis_str, i_int_str, i_bool_str, i_str_str, i_tuple_str, i_list_str, c_is_list, c_nis_list, i_int_list, i_bool_list, i_str_list, i_tuple_list, i_list_list, c_is_tuple, c_nis_tuple, i_int_tuple, i_bool_tuple, i_str_tuple, i_tuple_tuple, i_list_tuple, c_isb, c_nisb, f_lenl, f_lent, f_lens, f_abs, f_int, f_intb, f_str, f_listl, f_listt, f_listf, f_tupl, f_tupt, f_sum, f_all, f_any, f_max2, f_min2, x_l, x_t, x_s, some_1, s_l, s_t, r_any, r_anyt, r_anys, r_rng1, r_rng2, r_zipl, r_zipt, r_enum, st_l, a0_nil, a0_cons, oo_nil, oo_f, oo_t, run_f, end_rt, end_nx, cs_call, cs_modes, cs_glob, Option.bind_some, Option.bind_none, Option.map_some, Option.map_none, List.getElem?_cons_zero, List.getElem?_cons_succ, List.set_cons_zero, List.set_cons_succ, List.cons_append, List.nil_append, List.append_nil, List.replicate, List.length_cons, List.length_nil, Bool.false_eq_true, if_true, if_false, Bool.not_true, Bool.not_false, reduceIte, reduceCtorEq, Nat.reduceAdd, Nat.reduceSub, Nat.reduceLT, wipeR, backR, okLent, nodupN, lentAt, List.all_nil, List.all_cons, List.any_nil, List.any_cons, List.contains_nil, Bool.and_true, Bool.true_and, Bool.and_false, Bool.false_and, Bool.or_true, Bool.true_or, Bool.or_false, Bool.false_or, plainAt, List.getD_cons_zero, List.getD_cons_succ, mutAt, augAt, noMut, noMuts, noElems, putOuts, dropL, drop1, c_eqi, c_nei, c_eqs, at0, at1, at2, at3, at4, at5, decide_true, decide_false, callX_some, eq_self, ite_self]
    have c4 := compL_map (f := turnC (theP.cs n) (.op .ix [(.v 1), (.c (.int (0)))]) (.n 1) [] [1]) (g := fun x => .str (fN x)) (ρ := [some (.val, .tuple ds), none]) (xs := ds) fun x hx => by
      obtain ⟨s, k, c, rfl, k1, k2⟩ := hx4 x hx
      simp (implicitDefEqProofs := false) only [turnC, fN, e_c, e_v, e_g, e_tup, e_lst, e_op, e_and, e_or, e_not, e_ite, e_chain, e_call, callX_pure, e_comp, es_nil, es_cons, eb_nil, eb_v, eb_c, ea_c, ef_c, eb_g, ea_g, ef_g, eb_tup, ea_tup, ef_tup, eb_lst, ea_lst, ef_lst, eb_op, ea_op, ef_op, eb_and, ea_and, ef_and, eb_or, ea_or, ef_or, eb_not, ea_not, ef_not, eb_ite, ea_ite, ef_ite, eb_chain, ea_chain, ef_chain, eb_call, ea_call, ef_call, eb_comp, ea_comp, ef_comp, eb_pop, ea_pop, ef_pop, ea_nil, ea_v, ea_io, ec_nil, ec_one, ep_nil, ep_cons, x_asgn, x_asgt, x_par, x_ex, x_retv, x_retN, x_ife, x_for, x_brk, x_cont, x_pass, x_append, x_setix, x_aug, xs_nil, xs_cons, th_nx, th_bk, th_ct, th_rt, as_bool, rd_val, rd_own, rd_lent, le_val, le_own, le_io, le_lent, le_lio, lx_val, lx_own, lx_io, li_own, li_io, se_val, se_own, se_lent, se_none, re_val, re_own, ap_own, ap_io, si_own, si_io, au_own, au_io, au_int, au_str, bt_n, bt_t, bts_nil, bts_cons, sv_nil, sv_cons, un_nil, un_cons, un_lent, un_lio, un_val, un_own, un_io, o_cmp, o_bin, o_bi, o_ix, o_sl0, o_sl1, o_sl2, o_sl3, o_revl, o_revt, o_neg, o_meth, bl_1, b_add, b_adds, b_addl, b_addt, b_sub, b_mul, b_fdiv, b_mod, b_pow, b_and, b_or, b_xor, c_lt, c_le, c_gt, c_ge, c_lts, c_les, c_gts, c_ges, c_in, c_nin, c_is_none, c_nis_none, i_int_none, i_bool_none, i_str_none, i_tuple_none, i_list_none, c_is_bool, c_nis_bool, i_int_bool, i_bool_bool, i_str_bool, i_tuple_bool, i_list_bool, c_is_int, c_nis_int, i_int_int, i_bool_int, i_str_int, i_tuple_int, i_list_int, c_is_str, c_nis_str, i_int_str, i_bool_str, i_str_str, i_tuple_str, i_list_str, c_is_list, c_nis_list, i_int_list, i_bool_list, i_str_list, i_tuple_list, i_list_list, c_is_tuple, c_nis_tuple, i_int_tuple, i_bool_tuple, i_str_tuple, i_tuple_tuple, i_list_tuple, c_isb, c_nisb, f_lenl, f_lent, f_lens, f_abs, f_int, f_intb, f_str, f_listl, f_listt, f_listf, f_tupl, f_tupt, f_sum, f_all, f_any, f_max2, f_min2, x_l, x_t, x_s, some_1, s_l, s_t, r_any, r_anyt, r_anys, r_rng1, r_rng2, r_zipl, r_zipt, r_enum, st_l, a0_nil, a0_cons, oo_nil, oo_f, oo_t, run_f, end_rt, end_nx, cs_call, cs_modes, cs_glob, Option.bind_some, Option.bind_none, Option.map_some, Option.map_none, List.getElem?_cons_zero, List.getElem?_cons_succ, List.set_cons_zero, List.set_cons_succ, List.cons_append, List.nil_append, List.append_nil, List.replicate, List.length_cons, List.length_nil, Bool.false_eq_true, if_true, if_false, Bool.not_true, Bool.not_false, reduceIte, reduceCtorEq, Nat.reduceAdd, Nat.reduceSub, Nat.reduceLT, wipeR, backR, okLent, nodupN, lentAt, List.all_nil, List.all_cons, List.any_nil, List.any_cons, List.contains_nil, Bool.and_true, Bool.true_and, Bool.and_false, Bool.false_and, Bool.or_true, Bool.true_or, Bool.or_false, Bool.false_or, plainAt, List.getD_cons_zero, List.getD_cons_succ, mutAt, augAt, noMut, noMuts, noElems, putOuts, dropL, drop1, c_eqi, c_nei, c_eqs, at0, at1, at2, at3, at4, at5, decide_true, decide_false, callX_some, eq_self, ite_self]
    have em : ds.map (fun x => PyData.str (fN x)) = (ds.map fN).map PyData.str := by rw [List.map_map]; rfl
    have k3 := q3 (show 1 ≤ n by omega) (ds.map fN) (by rw [List.length_map]; omega)
    rw [← em] at k3
    simp (implicitDefEqProofs := false) only [f7, fitsF, m2, m3, e2, hl', g2, len6, le6, show ((6 : Nat) : Int) = 6 from rfl, c1, c2, c3, c4, k3, List.length_map, hlim, bls_map, all_map_id, h3, h4, h5, e_c, e_v, e_g, e_tup, e_lst, e_op, e_and, e_or, e_not, e_ite, e_chain, e_call, callX_pure, e_comp, es_nil, es_cons, eb_nil, eb_v, eb_c, ea_c, ef_c, eb_g, ea_g, ef_g, eb_tup, ea_tup, ef_tup, eb_lst, ea_lst, ef_lst, eb_op, ea_op, ef_op, eb_and, ea_and, ef_and, eb_or, ea_or, ef_or, eb_not, ea_not, ef_not, eb_ite, ea_ite, ef_ite, eb_chain, ea_chain, ef_chain, eb_call, ea_call, ef_call, eb_comp, ea_comp, ef_comp, eb_pop, ea_pop, ef_pop, ea_nil, ea_v, ea_io, ec_nil, ec_one, ep_nil, ep_cons, x_asgn, x_asgt, x_par, x_ex, x_retv, x_retN, x_ife, x_for, x_brk, x_cont, x_pass, x_append, x_setix, x_aug, xs_nil, xs_cons, th_nx, th_bk, th_ct, th_rt, as_bool, rd_val, rd_own, rd_lent, le_val, le_own, le_io, le_lent, le_lio, lx_val, lx_own, lx_io, li_own, li_io, se_val, se_own, se_lent, se_none, re_val, re_own, ap_own, ap_io, si_own, si_io, au_own, au_io, au_int, au_str, bt_n, bt_t, bts_nil, bts_cons, sv_nil, sv_cons, un_nil, un_cons, un_lent, un_lio, un_val, un_own, un_io, o_cmp, o_bin, o_bi, o_ix, o_sl0, o_sl1, o_sl2, o_sl3, o_revl, o_revt, o_neg, o_meth, bl_1, b_add, b_adds, b_addl, b_addt, b_sub, b_mul, b_fdiv, b_mod, b_pow, b_and, b_or, b_xor, c_lt, c_le, c_gt, c_ge, c_lts, c_les, c_gts, c_ges, c_in, c_nin, c_is_none, c_nis_none, i_int_none, i_bool_none, i_str_none, i_tuple_none, i_list_none, c_is_bool, c_nis_bool, i_int_bool, i_bool_bool, i_str_bool, i_tuple_bool, i_list_bool, c_is_int, c_nis_int, i_int_int, i_bool_int, i_str_int, i_tuple_int, i_list_int, c_is_str, c_nis_str, i_int_str, i_bool_str, i_str_str, i_tuple_str, i_list_str, c_is_list, c_nis_list, i_int_list, i_bool_list, i_str_list, i_tuple_list, i_list_list, c_is_tuple, c_nis_tuple, i_int_tuple, i_bool_tuple, i_str_tuple, i_tuple_tuple, i_list_tuple, c_isb, c_nisb, f_lenl, f_lent, f_lens, f_abs, f_int, f_intb, f_str, f_listl, f_listt, f_listf, f_tupl, f_tupt, f_sum, f_all, f_any, f_max2, f_min2, x_l, x_t, x_s, some_1, s_l, s_t, r_any, r_anyt, r_anys, r_rng1, r_rng2, r_zipl, r_zipt, r_enum, st_l, a0_nil, a0_cons, oo_nil, oo_f, oo_t, run_f, end_rt, end_nx, cs_call, cs_modes, cs_glob, Option.bind_some, Option.bind_none, Option.map_some, Option.map_none, List.getElem?_cons_zero, List.getElem?_cons_succ, List.set_cons_zero, List.set_cons_succ, List.cons_append, List.nil_append, List.append_nil, List.replicate, List.length_cons, List.length_nil, Bool.false_eq_true, if_true, if_false, Bool.not_true, Bool.not_false, reduceIte, reduceCtorEq, Nat.reduceAdd, Nat.reduceSub, Nat.reduceLT, wipeR, backR, okLent, nodupN, lentAt, List.all_nil, List.all_cons, List.any_nil, List.any_cons, List.contains_nil, Bool.and_true, Bool.true_and, Bool.and_false, Bool.false_and, Bool.or_true, Bool.true_or, Bool.or_false, Bool.false_or, plainAt, List.getD_cons_zero, List.getD_cons_succ, mutAt, augAt, noMut, noMuts, noElems, putOuts, dropL, drop1, c_eqi, c_nei, c_eqs, at0, at1, at2, at3, at4, at5, decide_true, decide_false, callX_some, eq_self, ite_self]
  all_goals simp (implicitDefEqProofs := false) only [f7, fitsF, isT, m2, e2, g2, len6, le6, show ((6 : Nat) : Int) = 6 from rfl, e_c, e_v, e_g, e_tup, e_lst, e_op, e_and, e_or, e_not, e_ite, e_chain, e_call, callX_pure, e_comp, es_nil, es_cons, eb_nil, eb_v, eb_c, ea_c, ef_c, eb_g, ea_g, ef_g, eb_tup, ea_tup, ef_tup, eb_lst, ea_lst, ef_lst, eb_op, ea_op, ef_op, eb_and, ea_and, ef_and, eb_or, ea_or, ef_or, eb_not, ea_not, ef_not, eb_ite, ea_ite, ef_ite, eb_chain, ea_chain, ef_chain, eb_call, ea_call, ef_call, eb_comp, ea_comp, ef_comp, eb_pop, ea_pop, ef_pop, ea_nil, ea_v, ea_io, ec_nil, ec_one, ep_nil, ep_cons, x_asgn, x_asgt, x_par, x_ex, x_retv, x_retN, x_ife, x_for, x_brk, x_cont, x_pass, x_append, x_setix, x_aug, xs_nil, xs_cons, th_nx, th_bk, th_ct, th_rt, as_bool, rd_val, rd_own, rd_lent, le_val, le_own, le_io, le_lent, le_lio, lx_val, lx_own, lx_io, li_own, li_io, se_val, se_own, se_lent, se_none, re_val, re_own, ap_own, ap_io, si_own, si_io, au_own, au_io, au_int, au_str, bt_n, bt_t, bts_nil, bts_cons, sv_nil, sv_cons, un_nil, un_cons, un_lent, un_lio, un_val, un_own, un_io, o_cmp, o_bin, o_bi, o_ix, o_sl0, o_sl1, o_sl2, o_sl3, o_revl, o_revt, o_neg, o_meth, bl_1, b_add, b_adds, b_addl, b_addt, b_sub, b_mul, b_fdiv, b_mod, b_pow, b_and, b_or, b_xor, c_lt, c_le, c_gt, c_ge, c_lts, c_les, c_gts, c_ges, c_in, c_nin, c_is_none, c_nis_none, i_int_none, i_bool_none, i_str_none, i_tuple_none, i_list_none, c_is_bool, c_nis_bool, i_int_bool, i_bool_bool, i_str_bool, i_tuple_bool, i_list_bool, c_is_int, c_nis_int, i_int_int, i_bool_int, i_str_int, i_tuple_int, i_list_int, c_is_str, c_nis_str, i_int_str, i_bool_str, i_str_str, i_tuple_str, i_list_str, c_is_list, c_nis_list, i_int_list, i_bool_list, i_str_list, i_tuple_list, i_list_list, c_is_tuple, c_nis_tuple, i_int_tuple, i_bool_tuple, i_str_tuple, i_tuple_tuple, i_list_tuple, c_isb, c_nisb, f_lenl, f_lent, f_lens, f_abs, f_int, f_intb, f_str, f_listl, f_listt, f_listf, f_tupl, f_tupt, f_sum, f_all, f_any, f_max2, f_min2, x_l, x_t, x_s, some_1, s_l, s_t, r_any, r_anyt, r_anys, r_rng1, r_rng2, r_zipl, r_zipt, r_enum, st_l, a0_nil, a0_cons, oo_nil, oo_f, oo_t, run_f, end_rt, end_nx, cs_call, cs_modes, cs_glob, Option.bind_some, Option.bind_none, Option.map_some, Option.map_none, List.getElem?_cons_zero, List.getElem?_cons_succ, List.set_cons_zero, List.set_cons_succ, List.cons_append, List.nil_append, List.append_nil, List.replicate, List.length_cons, List.length_nil, Bool.false_eq_true, if_true, if_false, Bool.not_true, Bool.not_false, reduceIte, reduceCtorEq, Nat.reduceAdd, Nat.reduceSub, Nat.reduceLT, wipeR, backR, okLent, nodupN, lentAt, List.all_nil, List.all_cons, List.any_nil, List.any_cons, List.contains_nil, Bool.and_true, Bool.true_and, Bool.and_false, Bool.false_and, Bool.or_true, Bool.true_or, Bool.or_false, Bool.false_or, plainAt, List.getD_cons_zero, List.getD_cons_succ, mutAt, augAt, noMut, noMuts, noElems, putOuts, dropL, drop1, c_eqi, c_nei, c_eqs, at0, at1, at2, at3, at4, at5, decide_true, decide_false, callX_some, eq_self, ite_self]
def wordsB (v : D) (many S : Int) : Bool := match v with
  | .tuple ds => isT (.tuple ds) many many && ds.all fun x => fitsW x 0 (S - 1)
  | _ => false
theorem q8 {m : Nat} (hm : 3 ≤ m) (w : Int) (v : D) (many : Int) (h : okD v = true) (h0 : 0 ≤ w) (h1 : w < 1000) (hM : many ≤ 1000) : theP.run m 8 [.int w, v, .int many] = some ((.bool (wordsB v many (2 ^ w.toNat)), false), []) := by
  obtain ⟨n, rfl⟩ : ∃ n, m = n + 1 := ⟨m - 1, by omega⟩
  rw [run_eq rfl]
  have e2 := q2 (show 1 ≤ n by omega) v many many (ok_dic _ h)
  cases v <;> first | (simp [okD] at h; done) | skip
  case tuple ds =>
    have hd : ∀ x ∈ ds, okD x = true := oks_mem.mp h
    cases ht : isT (.tuple ds) many many
    · rw [ht] at e2
      simp (implicitDefEqProofs := false) only [f8, wordsB, m2, e2, ht, e_c, e_v, e_g, e_tup, e_lst, e_op, e_and, e_or, e_not, e_ite, e_chain, e_call, callX_pure, e_comp, es_nil, es_cons, eb_nil, eb_v, eb_c, ea_c, ef_c, eb_g, ea_g, ef_g, eb_tup, ea_tup, ef_tup, eb_lst, ea_lst, ef_lst, eb_op, ea_op, ef_op, eb_and, ea_and, ef_and, eb_or, ea_or, ef_or, eb_not, ea_not, ef_not, eb_ite, ea_ite, ef_ite, eb_chain, ea_chain, ef_chain, eb_call, ea_call, ef_call, eb_comp, ea_comp, ef_comp, eb_pop, ea_pop, ef_pop, ea_nil, ea_v, ea_io, ec_nil, ec_one, ep_nil, ep_cons, x_asgn, x_asgt, x_par, x_ex, x_retv, x_retN, x_ife, x_for, x_brk, x_cont, x_pass, x_append, x_setix, x_aug, xs_nil, xs_cons, th_nx, th_bk, th_ct, th_rt, as_bool, rd_val, rd_own, rd_lent, le_val, le_own, le_io, le_lent, le_lio, lx_val, lx_own, lx_io, li_own, li_io, se_val, se_own, se_lent, se_none, re_val, re_own, ap_own, ap_io, si_own, si_io, au_own, au_io, au_int, au_str, bt_n, bt_t, bts_nil, bts_cons, sv_nil, sv_cons, un_nil, un_cons, un_lent, un_lio, un_val, un_own, un_io, o_cmp, o_bin, o_bi, o_ix, o_sl0, o_sl1, o_sl2, o_sl3, o_revl, o_revt, o_neg, o_meth, bl_1, b_add, b_adds, b_addl, b_addt, b_sub, b_mul, b_fdiv, b_mod, b_pow, b_and, b_or, b_xor, c_lt, c_le, c_gt, c_ge, c_lts, c_les, c_gts, c_ges, c_in, c_nin, c_is_none, c_nis_none, i_int_none, i_bool_none, i_str_none, i_tuple_none, i_list_none, c_is_bool, c_nis_bool, i_int_bool, i_bool_bool, i_str_bool, i_tuple_bool, i_list_bool, c_is_int, c_nis_int, i_int_int, i_bool_int, i_str_int, i_tuple_int, i_list_int, c_is_str, c_nis_str, i_int_str, i_bool_str, i_str_str, i_tuple_str, i_list_str, c_is_list, c_nis_list, i_int_list, i_bool_list, i_str_list, i_tuple_list, i_list_list, c_is_tuple, c_nis_tuple, i_int_tuple, i_bool_tuple, i_str_tuple, i_tuple_tuple, i_list_tuple, c_isb, c_nisb, f_lenl, f_lent, f_lens, f_abs, f_int, f_intb, f_str, f_listl, f_listt, f_listf, f_tupl, f_tupt, f_sum, f_all, f_any, f_max2, f_min2, x_l, x_t, x_s, some_1, s_l, s_t, r_any, r_anyt, r_anys, r_rng1, r_rng2, r_zipl, r_zipt, r_enum, st_l, a0_nil, a0_cons, oo_nil, oo_f, oo_t, run_f, end_rt, end_nx, cs_call, cs_modes, cs_glob, Option.bind_some, Option.bind_none, Option.map_some, Option.map_none, List.getElem?_cons_zero, List.getElem?_cons_succ, List.set_cons_zero, List.set_cons_succ, List.cons_append, List.nil_append, List.append_nil, List.replicate, List.length_cons, List.length_nil, Bool.false_eq_true, if_true, if_false, Bool.not_true, Bool.not_false, reduceIte, reduceCtorEq, Nat.reduceAdd, Nat.reduceSub, Nat.reduceLT, wipeR, backR, okLent, nodupN, lentAt, List.all_nil, List.all_cons, List.any_nil, List.any_cons, List.contains_nil, Bool.and_true, Bool.true_and, Bool.and_false, Bool.false_and, Bool.or_true, Bool.true_or, Bool.or_false, Bool.false_or, plainAt, List.getD_cons_zero, List.getD_cons_succ, mutAt, augAt, noMut, noMuts, noElems, putOuts, dropL, drop1, c_eqi, c_nei, c_eqs, at0, at1, at2, at3, at4, at5, decide_true, decide_false, callX_some, eq_self, ite_self]
    · rw [ht] at e2
      have hl : ds.length ≤ lim := by
        simp only [isT, Bool.and_eq_true, decide_eq_true_eq] at ht
        exact lim_of (by omega)
      have c1 := compL_map (f := turnC (theP.cs n) (.call 1 [(.v 3), (.c (.int (0))), (.op (.bin .sub) [(.call 4 [(.v 0)]), (.c (.int (1)))])]) (.n 3) [] [3]) (g := fun x => .bool (fitsW x 0 (2 ^ w.toNat - 1))) (ρ := [some (.val, .int w), some (.val, .tuple ds), some (.val, .int many), none]) (xs := ds) fun x hx => by
        have k4 := q4i (show 1 ≤ n by omega) w h0 h1
        have k1 := q1 (show 2 ≤ n by omega) x 0 (2 ^ w.toNat - 1) (ok_dic _ (hd x hx))
        simp (implicitDefEqProofs := false) only [turnC, m4, m1, k4, k1, e_c, e_v, e_g, e_tup, e_lst, e_op, e_and, e_or, e_not, e_ite, e_chain, e_call, callX_pure, e_comp, es_nil, es_cons, eb_nil, eb_v, eb_c, ea_c, ef_c, eb_g, ea_g, ef_g, eb_tup, ea_tup, ef_tup, eb_lst, ea_lst, ef_lst, eb_op, ea_op, ef_op, eb_and, ea_and, ef_and, eb_or, ea_or, ef_or, eb_not, ea_not, ef_not, eb_ite, ea_ite, ef_ite, eb_chain, ea_chain, ef_chain, eb_call, ea_call, ef_call, eb_comp, ea_comp, ef_comp, eb_pop, ea_pop, ef_pop, ea_nil, ea_v, ea_io, ec_nil, ec_one, ep_nil, ep_cons, x_asgn, x_asgt, x_par, x_ex, x_retv, x_retN, x_ife, x_for, x_brk, x_cont, x_pass, x_append, x_setix, x_aug, xs_nil, xs_cons, th_nx, th_bk, th_ct, th_rt, as_bool, rd_val, rd_own, rd_lent, le_val, le_own, le_io, le_lent, le_lio, lx_val, lx_own, lx_io, li_own, li_io, se_val, se_own, se_lent, se_none, re_val, re_own, ap_own, ap_io, si_own, si_io, au_own, au_io, au_int, au_str, bt_n, bt_t, bts_nil, bts_cons, sv_nil, sv_cons, un_nil, un_cons, un_lent, un_lio, un_val, un_own, un_io, o_cmp, o_bin, o_bi, o_ix, o_sl0, o_sl1, o_sl2, o_sl3, o_revl, o_revt, o_neg, o_meth, bl_1, b_add, b_adds, b_addl, b_addt, b_sub, b_mul, b_fdiv, b_mod, b_pow, b_and, b_or, b_xor, c_lt, c_le, c_gt, c_ge, c_lts, c_les, c_gts, c_ges, c_in, c_nin, c_is_none, c_nis_none, i_int_none, i_bool_none, i_str_none, i_tuple_none, i_list_none, c_is_bool, c_nis_bool, i_int_bool, i_bool_bool, i_str_bool, i_tuple_bool, i_list_bool, c_is_int, c_nis_int, i_int_int, i_bool_int, i_str_int, i_tuple_int, i_list_int, c_is_str, c_nis_str, i_int_str, i_bool_str, i_str_str, i_tuple_str, i_list_str, c_is_list, c_nis_list, i_int_list, i_bool_list, i_str_list, i_tuple_list, i_list_list, c_is_tuple, c_nis_tuple, i_int_tuple, i_bool_tuple, i_str_tuple, i_tuple_tuple, i_list_tuple, c_isb, c_nisb, f_lenl, f_lent, f_lens, f_abs, f_int, f_intb, f_str, f_listl, f_listt, f_listf, f_tupl, f_tupt, f_sum, f_all, f_any, f_max2, f_min2, x_l, x_t, x_s, some_1, s_l, s_t, r_any, r_anyt, r_anys, r_rng1, r_rng2, r_zipl, r_zipt, r_enum, st_l, a0_nil, a0_cons, oo_nil, oo_f, oo_t, run_f, end_rt, end_nx, cs_call, cs_modes, cs_glob, Option.bind_some, Option.bind_none, Option.map_some, Option.map_none, List.getElem?_cons_zero, List.getElem?_cons_succ, List.set_cons_zero, List.set_cons_succ, List.cons_append, List.nil_append, List.append_nil, List.replicate, List.length_cons, List.length_nil, Bool.false_eq_true, if_true, if_false, Bool.not_true, Bool.not_false, reduceIte, reduceCtorEq, Nat.reduceAdd, Nat.reduceSub, Nat.reduceLT, wipeR, backR, okLent, nodupN, lentAt, List.all_nil, List.all_cons, List.any_nil, List.any_cons, List.contains_nil, Bool.and_true, Bool.true_and, Bool.and_false, Bool.false_and, Bool.or_true, Bool.true_or, Bool.or_false, Bool.false_or, plainAt, List.getD_cons_zero, List.getD_cons_succ, mutAt, augAt, noMut, noMuts, noElems, putOuts, dropL, drop1, c_eqi, c_nei, c_eqs, at0, at1, at2, at3, at4, at5, decide_true, decide_false, callX_some, eq_self, ite_self]
      simp (implicitDefEqProofs := false) only [f8, wordsB, m2, e2, ht, c1, List.length_map, hl, bls_map, all_map_id, e_c, e_v, e_g, e_tup, e_lst, e_op, e_and, e_or, e_not, e_ite, e_chain, e_call, callX_pure, e_comp, es_nil, es_cons, eb_nil, eb_v, eb_c, ea_c, ef_c, eb_g, ea_g, ef_g, eb_tup, ea_tup, ef_tup, eb_lst, ea_lst, ef_lst, eb_op, ea_op, ef_op, eb_and, ea_and, ef_and, eb_or, ea_or, ef_or, eb_not, ea_not, ef_not, eb_ite, ea_ite, ef_ite, eb_chain, ea_chain, ef_chain, eb_call, ea_call, ef_call, eb_comp, ea_comp, ef_comp, eb_pop, ea_pop, ef_pop, ea_nil, ea_v, ea_io, ec_nil, ec_one, ep_nil, ep_cons, x_asgn, x_asgt, x_par, x_ex, x_retv, x_retN, x_ife, x_for, x_brk, x_cont, x_pass, x_append, x_setix, x_aug, xs_nil, xs_cons, th_nx, th_bk, th_ct, th_rt, as_bool, rd_val, rd_own, rd_lent, le_val, le_own, le_io, le_lent, le_lio, lx_val, lx_own, lx_io, li_own, li_io, se_val, se_own, se_lent, se_none, re_val, re_own, ap_own, ap_io, si_own, si_io, au_own, au_io, au_int, au_str, bt_n, bt_t, bts_nil, bts_cons, sv_nil, sv_cons, un_nil, un_cons, un_lent, un_lio, un_val, un_own, un_io, o_cmp, o_bin, o_bi, o_ix, o_sl0, o_sl1, o_sl2, o_sl3, o_revl, o_revt, o_neg, o_meth, bl_1, b_add, b_adds, b_addl, b_addt, b_sub, b_mul, b_fdiv, b_mod, b_pow, b_and, b_or, b_xor, c_lt, c_le, c_gt, c_ge, c_lts, c_les, c_gts, c_ges, c_in, c_nin, c_is_none, c_nis_none, i_int_none, i_bool_none, i_str_none, i_tuple_none, i_list_none, c_is_bool, c_nis_bool, i_int_bool, i_bool_bool, i_str_bool, i_tuple_bool, i_list_bool, c_is_int, c_nis_int, i_int_int, i_bool_int, i_str_int, i_tuple_int, i_list_int, c_is_str, c_nis_str, i_int_str, i_bool_str, i_str_str, i_tuple_str, i_list_str, c_is_list, c_nis_list, i_int_list, i_bool_list, i_str_list, i_tuple_list, i_list_list, c_is_tuple, c_nis_tuple, i_int_tuple, i_bool_tuple, i_str_tuple, i_tuple_tuple, i_list_tuple, c_isb, c_nisb, f_lenl, f_lent, f_lens, f_abs, f_int, f_intb, f_str, f_listl, f_listt, f_listf, f_tupl, f_tupt, f_sum, f_all, f_any, f_max2, f_min2, x_l, x_t, x_s, some_1, s_l, s_t, r_any, r_anyt, r_anys, r_rng1, r_rng2, r_zipl, r_zipt, r_enum, st_l, a0_nil, a0_cons, oo_nil, oo_f, oo_t, run_f, end_rt, end_nx, cs_call, cs_modes, cs_glob, Option.bind_some, Option.bind_none, Option.map_some, Option.map_none, List.getElem?_cons_zero, List.getElem?_cons_succ, List.set_cons_zero, List.set_cons_succ, List.cons_append, List.nil_append, List.append_nil, List.replicate, List.length_cons, List.length_nil, Bool.false_eq_true, if_true, if_false, Bool.not_true, Bool.not_false, reduceIte, reduceCtorEq, Nat.reduceAdd, Nat.reduceSub, Nat.reduceLT, wipeR, backR, okLent, nodupN, lentAt, List.all_nil, List.all_cons, List.any_nil, List.any_cons, List.contains_nil, Bool.and_true, Bool.true_and, Bool.and_false, Bool.false_and, Bool.or_true, Bool.true_or, Bool.or_false, Bool.false_or, plainAt, List.getD_cons_zero, List.getD_cons_succ, mutAt, augAt, noMut, noMuts, noElems, putOuts, dropL, drop1, c_eqi, c_nei, c_eqs, at0, at1, at2, at3, at4, at5, decide_true, decide_false, callX_some, eq_self, ite_self]
  all_goals simp (implicitDefEqProofs := false) only [f8, wordsB, isT, m2, e2, e_c, e_v, e_g, e_tup, e_lst, e_op, e_and, e_or, e_not, e_ite, e_chain, e_call, callX_pure, e_comp, es_nil, es_cons, eb_nil, eb_v, eb_c, ea_c, ef_c, eb_g, ea_g, ef_g, eb_tup, ea_tup, ef_tup, eb_lst, ea_lst, ef_lst, eb_op, ea_op, ef_op, eb_and, ea_and, ef_and, eb_or, ea_or, ef_or, eb_not, ea_not, ef_not, eb_ite, ea_ite, ef_ite, eb_chain, ea_chain, ef_chain, eb_call, ea_call, ef_call, eb_comp, ea_comp, ef_comp, eb_pop, ea_pop, ef_pop, ea_nil, ea_v, ea_io, ec_nil, ec_one, ep_nil, ep_cons, x_asgn, x_asgt, x_par, x_ex, x_retv, x_retN, x_ife, x_for, x_brk, x_cont, x_pass, x_append, x_setix, x_aug, xs_nil, xs_cons, th_nx, th_bk, th_ct, th_rt, as_bool, rd_val, rd_own, rd_lent, le_val, le_own, le_io, le_lent, le_lio, lx_val, lx_own, lx_io, li_own, li_io, se_val, se_own, se_lent, se_none, re_val, re_own, ap_own, ap_io, si_own, si_io, au_own, au_io, au_int, au_str, bt_n, bt_t, bts_nil, bts_cons, sv_nil, sv_cons, un_nil, un_cons, un_lent, un_lio, un_val, un_own, un_io, o_cmp, o_bin, o_bi, o_ix, o_sl0, o_sl1, o_sl2, o_sl3, o_revl, o_revt, o_neg, o_meth, bl_1, b_add, b_adds, b_addl, b_addt, b_sub, b_mul, b_fdiv, b_mod, b_pow, b_and, b_or, b_xor, c_lt, c_le, c_gt, c_ge, c_lts, c_les, c_gts, c_ges, c_in, c_nin, c_is_none, c_nis_none, i_int_none, i_bool_none, i_str_none, i_tuple_none, i_list_none, c_is_bool, c_nis_bool, i_int_bool, i_bool_bool, i_str_bool, i_tuple_bool, i_list_bool, c_is_int, c_nis_int, i_int_int, i_bool_int, i_str_int, i_tuple_int, i_list_int, c_is_str, c_nis_str, i_int_str, i_bool_str, i_str_str, i_tuple_str, i_list_str, c_is_list, c_nis_list, i_int_list, i_bool_list, i_str_list, i_tuple_list, i_list_list, c_is_tuple, c_nis_tuple, i_int_tuple, i_bool_tuple, i_str_tuple, i_tuple_tuple, i_list_tuple, c_isb, c_nisb, f_lenl, f_lent, f_lens, f_abs, f_int, f_intb, f_str, f_listl, f_listt, f_listf, f_tupl, f_tupt, f_sum, f_all, f_any, f_max2, f_min2, x_l, x_t, x_s, some_1, s_l, s_t, r_any, r_anyt, r_anys, r_rng1, r_rng2, r_zipl, r_zipt, r_enum, st_l, a0_nil, a0_cons, oo_nil, oo_f, oo_t, run_f, end_rt, end_nx, cs_call, cs_modes, cs_glob, Option.bind_some, Option.bind_none, Option.map_some, Option.map_none, List.getElem?_cons_zero, List.getElem?_cons_succ, List.set_cons_zero, List.set_cons_succ, List.cons_append, List.nil_append, List.append_nil, List.replicate, List.length_cons, List.length_nil, Bool.false_eq_true, if_true, if_false, Bool.not_true, Bool.not_false, reduceIte, reduceCtorEq, Nat.reduceAdd, Nat.reduceSub, Nat.reduceLT, wipeR, backR, okLent, nodupN, lentAt, List.all_nil, List.all_cons, List.any_nil, List.any_cons, List.contains_nil, Bool.and_true, Bool.true_and, Bool.and_false, Bool.false_and, Bool.or_true, Bool.true_or, Bool.or_false, Bool.false_or, plainAt, List.getD_cons_zero, List.getD_cons_succ, mutAt, augAt, noMut, noMuts, noElems, putOuts, dropL, drop1, c_eqi, c_nei, c_eqs, at0, at1, at2, at3, at4, at5, decide_true, decide_false, callX_some, eq_self, ite_self]
def sceneB (S : Int) (v : D) : Bool := match v with
  | .tuple [r, c, f, p, fs] => (wordsB r 2 S || wordsB r 4 S) && (wordsB c S S && (fitsW f 0 1 && (fitsW p 0 (S - 1) && fitsF fs)))
  | _ => false
theorem isT5 {x : D} (h : isT x 5 5 = true) : ∃ a b c d e, x = .tuple [a, b, c, d, e] := by
  cases x <;> simp only [isT, Bool.false_eq_true] at h
  rename_i ds
  simp only [Bool.and_eq_true, decide_eq_true_eq] at h
  have l : ds.length = 5 := by omega
  match ds, l with
  | [a, b, c, d, e], _ => exact ⟨a, b, c, d, e, rfl⟩
theorem sceneB_not {S : Int} {v : D} (h : isT v 5 5 = false) : sceneB S v = false := by
  unfold sceneB
  split
  · simp [isT] at h
  · rfl
theorem q9 {m : Nat} (hm : 4 ≤ m) (w : Int) (v : D) (h : okD v = true) (h0 : 0 ≤ w) (h1 : w < 9) : theP.run m 9 [.int w, v] = some ((.bool (sceneB (2 ^ w.toNat) v), false), []) := by
  obtain ⟨n, rfl⟩ : ∃ n, m = n + 1 := ⟨m - 1, by omega⟩
  rw [run_eq rfl]
  have e2 := q2 (show 1 ≤ n by omega) v 5 5 (ok_dic _ h)
  have k4 := q4i (show 1 ≤ n by omega) w h0 (by omega)
  cases ht : isT v 5 5
  · rw [ht] at e2
    rw [sceneB_not ht]
    simp (implicitDefEqProofs := false) only [f9, m2, e2, e_c, e_v, e_g, e_tup, e_lst, e_op, e_and, e_or, e_not, e_ite, e_chain, e_call, callX_pure, e_comp, es_nil, es_cons, eb_nil, eb_v, eb_c, ea_c, ef_c, eb_g, ea_g, ef_g, eb_tup, ea_tup, ef_tup, eb_lst, ea_lst, ef_lst, eb_op, ea_op, ef_op, eb_and, ea_and, ef_and, eb_or, ea_or, ef_or, eb_not, ea_not, ef_not, eb_ite, ea_ite, ef_ite, eb_chain, ea_chain, ef_chain, eb_call, ea_call, ef_call, eb_comp, ea_comp, ef_comp, eb_pop, ea_pop, ef_pop, ea_nil, ea_v, ea_io, ec_nil, ec_one, ep_nil, ep_cons, x_asgn, x_asgt, x_par, x_ex, x_retv, x_retN, x_ife, x_for, x_brk, x_cont, x_pass, x_append, x_setix, x_aug, xs_nil, xs_cons, th_nx, th_bk, th_ct, th_rt, as_bool, rd_val, rd_own, rd_lent, le_val, le_own, le_io, le_lent, le_lio, lx_val, lx_own, lx_io, li_own, li_io, se_val, se_own, se_lent, se_none, re_val, re_own, ap_own, ap_io, si_own, si_io, au_own, au_io, au_int, au_str, bt_n, bt_t, bts_nil, bts_cons, sv_nil, sv_cons, un_nil, un_cons, un_lent, un_lio, un_val, un_own, un_io, o_cmp, o_bin, o_bi, o_ix, o_sl0, o_sl1, o_sl2, o_sl3, o_revl, o_revt, o_neg, o_meth, bl_1, b_add, b_adds, b_addl, b_addt, b_sub, b_mul, b_fdiv, b_mod, b_pow, b_and, b_or, b_xor, c_lt, c_le, c_gt, c_ge, c_lts, c_les, c_gts, c_ges, c_in, c_nin, c_is_none, c_nis_none, i_int_none, i_bool_none, i_str_none, i_tuple_none, i_list_none, c_is_bool, c_nis_bool, i_int_bool, i_bool_bool, i_str_bool, i_tuple_bool, i_list_bool, c_is_int, c_nis_int, i_int_int, i_bool_int, i_str_int, i_tuple_int, i_list_int, c_is_str, c_nis_str, i_int_str, i_bool_str, i_str_str, i_tuple_str, i_list_str, c_is_list, c_nis_list, i_int_list, i_bool_list, i_str_list, i_tuple_list, i_list_list, c_is_tuple, c_nis_tuple, i_int_tuple, i_bool_tuple, i_str_tuple, i_tuple_tuple, i_list_tuple, c_isb, c_nisb, f_lenl, f_lent, f_lens, f_abs, f_int, f_intb, f_str, f_listl, f_listt, f_listf, f_tupl, f_tupt, f_sum, f_all, f_any, f_max2, f_min2, x_l, x_t, x_s, some_1, s_l, s_t, r_any, r_anyt, r_anys, r_rng1, r_rng2, r_zipl, r_zipt, r_enum, st_l, a0_nil, a0_cons, oo_nil, oo_f, oo_t, run_f, end_rt, end_nx, cs_call, cs_modes, cs_glob, Option.bind_some, Option.bind_none, Option.map_some, Option.map_none, List.getElem?_cons_zero, List.getElem?_cons_succ, List.set_cons_zero, List.set_cons_succ, List.cons_append, List.nil_append, List.append_nil, List.replicate, List.length_cons, List.length_nil, Bool.false_eq_true, if_true, if_false, Bool.not_true, Bool.not_false, reduceIte, reduceCtorEq, Nat.reduceAdd, Nat.reduceSub, Nat.reduceLT, wipeR, backR, okLent, nodupN, lentAt, List.all_nil, List.all_cons, List.any_nil, List.any_cons, List.contains_nil, Bool.and_true, Bool.true_and, Bool.and_false, Bool.false_and, Bool.or_true, Bool.true_or, Bool.or_false, Bool.false_or, plainAt, List.getD_cons_zero, List.getD_cons_succ, mutAt, augAt, noMut, noMuts, noElems, putOuts, dropL, drop1, c_eqi, c_nei, c_eqs, at0, at1, at2, at3, at4, at5, decide_true, decide_false, callX_some, eq_self, ite_self]
  · rw [ht] at e2
    obtain ⟨r, c, f, p, fs, rfl⟩ := isT5 ht
    have hd := oks_mem.mp (show okDs [r, c, f, p, fs] = true from h)
    have hS : (2 : Int) ^ w.toNat ≤ 1000 := by
      have : w.toNat < 9 := by omega
      generalize w.toNat = k at this
      match k, this with
      | 0, _ | 1, _ | 2, _ | 3, _ | 4, _ | 5, _ | 6, _ | 7, _ | 8, _ => decide
    have a1 := q8 (show 3 ≤ n by omega) w r 2 (hd r (by simp)) h0 (by omega) (by omega)
    have a2 := q8 (show 3 ≤ n by omega) w r 4 (hd r (by simp)) h0 (by omega) (by omega)
    have a3 := q8 (show 3 ≤ n by omega) w c (2 ^ w.toNat) (hd c (by simp)) h0 (by omega) hS
    have a4 := q1 (show 2 ≤ n by omega) f 0 1 (ok_dic _ (hd f (by simp)))
    have a5 := q1 (show 2 ≤ n by omega) p 0 (2 ^ w.toNat - 1) (ok_dic _ (hd p (by simp)))
    have a6 := q7 (show 3 ≤ n by omega) fs (hd fs (by simp))
    cases b1 : wordsB r 2 (2 ^ w.toNat) <;> cases b2 : wordsB r 4 (2 ^ w.toNat) <;> cases b3 : wordsB c (2 ^ w.toNat) (2 ^ w.toNat) <;> cases b4 : fitsW f 0 1 <;> cases b5 : fitsW p 0 (2 ^ w.toNat - 1) <;> rw [b1] at a1 <;> rw [b2] at a2 <;> rw [b3] at a3 <;> rw [b4] at a4 <;> rw [b5] at a5 <;>
      simp (implicitDefEqProofs := false) only [f9, m2, m8, m4, m1, m7, e2, a1, a2, a3, a4, a5, a6, k4, sceneB, b1, b2, b3, b4, b5, e_c, e_v, e_g, e_tup, e_lst, e_op, e_and, e_or, e_not, e_ite, e_chain, e_call, callX_pure, e_comp, es_nil, es_cons, eb_nil, eb_v, eb_c, ea_c, ef_c, eb_g, ea_g, ef_g, eb_tup, ea_tup, ef_tup, eb_lst, ea_lst, ef_lst, eb_op, ea_op, ef_op, eb_and, ea_and, ef_and, eb_or, ea_or, ef_or, eb_not, ea_not, ef_not, eb_ite, ea_ite, ef_ite, eb_chain, ea_chain, ef_chain, eb_call, ea_call, ef_call, eb_comp, ea_comp, ef_comp, eb_pop, ea_pop, ef_pop, ea_nil, ea_v, ea_io, ec_nil, ec_one, ep_nil, ep_cons, x_asgn, x_asgt, x_par, x_ex, x_retv, x_retN, x_ife, x_for, x_brk, x_cont, x_pass, x_append, x_setix, x_aug, xs_nil, xs_cons, th_nx, th_bk, th_ct, th_rt, as_bool, rd_val, rd_own, rd_lent, le_val, le_own, le_io, le_lent, le_lio, lx_val, lx_own, lx_io, li_own, li_io, se_val, se_own, se_lent, se_none, re_val, re_own, ap_own, ap_io, si_own, si_io, au_own, au_io, au_int, au_str, bt_n, bt_t, bts_nil, bts_cons, sv_nil, sv_cons, un_nil, un_cons, un_lent, un_lio, un_val, un_own, un_io, o_cmp, o_bin, o_bi, o_ix, o_sl0, o_sl1, o_sl2, o_sl3, o_revl, o_revt, o_neg, o_meth, bl_1, b_add, b_adds, b_addl, b_addt, b_sub, b_mul, b_fdiv, b_mod, b_pow, b_and, b_or, b_xor, c_lt, c_le, c_gt, c_ge, c_lts, c_les, c_gts, c_ges, c_in, c_nin, c_is_none, c_nis_none, i_int_none, i_bool_none, i_str_none, i_tuple_none, i_list_none, c_is_bool, c_nis_bool, i_int_bool, i_bool_bool, i_str_bool, i_tuple_bool, i_list_bool, c_is_int, c_nis_int, i_int_int, i_bool_int, i_str_int, i_tuple_int, i_list_int, c_is_str, c_nis_str, i_int_str, i_bool_str, i_str_str, i_tuple_str, i_list_str, c_is_list, c_nis_list, i_int_list, i_bool_list, i_str_list, i_tuple_list, i_list_list, c_is_tuple, c_nis_tuple, i_int_tuple, i_bool_tuple, i_str_tuple, i_tuple_tuple, i_list_tuple, c_isb, c_nisb, f_lenl, f_lent, f_lens, f_abs, f_int, f_intb, f_str, f_listl, f_listt, f_listf, f_tupl, f_tupt, f_sum, f_all, f_any, f_max2, f_min2, x_l, x_t, x_s, some_1, s_l, s_t, r_any, r_anyt, r_anys, r_rng1, r_rng2, r_zipl, r_zipt, r_enum, st_l, a0_nil, a0_cons, oo_nil, oo_f, oo_t, run_f, end_rt, end_nx, cs_call, cs_modes, cs_glob, Option.bind_some, Option.bind_none, Option.map_some, Option.map_none, List.getElem?_cons_zero, List.getElem?_cons_succ, List.set_cons_zero, List.set_cons_succ, List.cons_append, List.nil_append, List.append_nil, List.replicate, List.length_cons, List.length_nil, Bool.false_eq_true, if_true, if_false, Bool.not_true, Bool.not_false, reduceIte, reduceCtorEq, Nat.reduceAdd, Nat.reduceSub, Nat.reduceLT, wipeR, backR, okLent, nodupN, lentAt, List.all_nil, List.all_cons, List.any_nil, List.any_cons, List.contains_nil, Bool.and_true, Bool.true_and, Bool.and_false, Bool.false_and, Bool.or_true, Bool.true_or, Bool.or_false, Bool.false_or, plainAt, List.getD_cons_zero, List.getD_cons_succ, mutAt, augAt, noMut, noMuts, noElems, putOuts, dropL, drop1, c_eqi, c_nei, c_eqs, at0, at1, at2, at3, at4, at5, decide_true, decide_false, callX_some, eq_self, ite_self]
theorem q5 {m : Nat} (hm : 3 ≤ m) (w : Int) (h0 : 4 ≤ w) (h1 : w ≤ 8) : theP.run m 5 [.int w] = some ((.none, false), []) := by
  obtain ⟨n, rfl⟩ : ∃ n, m = n + 1 := ⟨m - 1, by omega⟩
  rw [run_eq rfl]
  have a := q1 (show 2 ≤ n by omega) (.int w) 4 8 rfl
  have e : fitsW (.int w) 4 8 = true := by simp [fitsW, h0, h1]
  rw [e] at a
  simp (implicitDefEqProofs := false) only [f5, m1, g0, g1, a, e_c, e_v, e_g, e_tup, e_lst, e_op, e_and, e_or, e_not, e_ite, e_chain, e_call, callX_pure, e_comp, es_nil, es_cons, eb_nil, eb_v, eb_c, ea_c, ef_c, eb_g, ea_g, ef_g, eb_tup, ea_tup, ef_tup, eb_lst, ea_lst, ef_lst, eb_op, ea_op, ef_op, eb_and, ea_and, ef_and, eb_or, ea_or, ef_or, eb_not, ea_not, ef_not, eb_ite, ea_ite, ef_ite, eb_chain, ea_chain, ef_chain, eb_call, ea_call, ef_call, eb_comp, ea_comp, ef_comp, eb_pop, ea_pop, ef_pop, ea_nil, ea_v, ea_io, ec_nil, ec_one, ep_nil, ep_cons, x_asgn, x_asgt, x_par, x_ex, x_retv, x_retN, x_ife, x_for, x_brk, x_cont, x_pass, x_append, x_setix, x_aug, xs_nil, xs_cons, th_nx, th_bk, th_ct, th_rt, as_bool, rd_val, rd_own, rd_lent, le_val, le_own, le_io, le_lent, le_lio, lx_val, lx_own, lx_io, li_own, li_io, se_val, se_own, se_lent, se_none, re_val, re_own, ap_own, ap_io, si_own, si_io, au_own, au_io, au_int, au_str, bt_n, bt_t, bts_nil, bts_cons, sv_nil, sv_cons, un_nil, un_cons, un_lent, un_lio, un_val, un_own, un_io, o_cmp, o_bin, o_bi, o_ix, o_sl0, o_sl1, o_sl2, o_sl3, o_revl, o_revt, o_neg, o_meth, bl_1, b_add, b_adds, b_addl, b_addt, b_sub, b_mul, b_fdiv, b_mod, b_pow, b_and, b_or, b_xor, c_lt, c_le, c_gt, c_ge, c_lts, c_les, c_gts, c_ges, c_in, c_nin, c_is_none, c_nis_none, i_int_none, i_bool_none, i_str_none, i_tuple_none, i_list_none, c_is_bool, c_nis_bool, i_int_bool, i_bool_bool, i_str_bool, i_tuple_bool, i_list_bool, c_is_int, c_nis_int, i_int_int, i_bool_int, i_str_int, i_tuple_int, i_list_int, c_is_str, c_nis_str, i_int_str, i_bool_str, i_str_str, i_tuple_str, i_list_str, c_is_list, c_nis_list, i_int_list, i_bool_list, i_str_list, i_tuple_list, i_list_list, c_is_tuple, c_nis_tuple, i_int_tuple, i_bool_tuple, i_str_tuple, i_tuple_tuple, i_list_tuple, c_isb, c_nisb, f_lenl, f_lent, f_lens, f_abs, f_int, f_intb, f_str, f_listl, f_listt, f_listf, f_tupl, f_tupt, f_sum, f_all, f_any, f_max2, f_min2, x_l, x_t, x_s, some_1, s_l, s_t, r_any, r_anyt, r_anys, r_rng1, r_rng2, r_zipl, r_zipt, r_enum, st_l, a0_nil, a0_cons, oo_nil, oo_f, oo_t, run_f, end_rt, end_nx, cs_call, cs_modes, cs_glob, Option.bind_some, Option.bind_none, Option.map_some, Option.map_none, List.getElem?_cons_zero, List.getElem?_cons_succ, List.set_cons_zero, List.set_cons_succ, List.cons_append, List.nil_append, List.append_nil, List.replicate, List.length_cons, List.length_nil, Bool.false_eq_true, if_true, if_false, Bool.not_true, Bool.not_false, reduceIte, reduceCtorEq, Nat.reduceAdd, Nat.reduceSub, Nat.reduceLT, wipeR, backR, okLent, nodupN, lentAt, List.all_nil, List.all_cons, List.any_nil, List.any_cons, List.contains_nil, Bool.and_true, Bool.true_and, Bool.and_false, Bool.false_and, Bool.or_true, Bool.true_or, Bool.or_false, Bool.false_or, plainAt, List.getD_cons_zero, List.getD_cons_succ, mutAt, augAt, noMut, noMuts, noElems, putOuts, dropL, drop1, c_eqi, c_nei, c_eqs, at0, at1, at2, at3, at4, at5, decide_true, decide_false, callX_some, eq_self, ite_self]
theorem q10 {m : Nat} (hm : 5 ≤ m) (w : Int) (v : D) (h : okD v = true) (h0 : 4 ≤ w) (h1 : w ≤ 8) : theP.run m 10 [.int w, v] = some ((.bool (sceneB (2 ^ w.toNat) v), false), []) := by
  obtain ⟨n, rfl⟩ : ∃ n, m = n + 1 := ⟨m - 1, by omega⟩
  rw [run_eq rfl]
  have a := q5 (show 3 ≤ n by omega) w h0 h1
  have b := q9 (show 4 ≤ n by omega) w v h (by omega) (by omega)
  simp (implicitDefEqProofs := false) only [f10, m5, m9, a, b, e_c, e_v, e_g, e_tup, e_lst, e_op, e_and, e_or, e_not, e_ite, e_chain, e_call, callX_pure, e_comp, es_nil, es_cons, eb_nil, eb_v, eb_c, ea_c, ef_c, eb_g, ea_g, ef_g, eb_tup, ea_tup, ef_tup, eb_lst, ea_lst, ef_lst, eb_op, ea_op, ef_op, eb_and, ea_and, ef_and, eb_or, ea_or, ef_or, eb_not, ea_not, ef_not, eb_ite, ea_ite, ef_ite, eb_chain, ea_chain, ef_chain, eb_call, ea_call, ef_call, eb_comp, ea_comp, ef_comp, eb_pop, ea_pop, ef_pop, ea_nil, ea_v, ea_io, ec_nil, ec_one, ep_nil, ep_cons, x_asgn, x_asgt, x_par, x_ex, x_retv, x_retN, x_ife, x_for, x_brk, x_cont, x_pass, x_append, x_setix, x_aug, xs_nil, xs_cons, th_nx, th_bk, th_ct, th_rt, as_bool, rd_val, rd_own, rd_lent, le_val, le_own, le_io, le_lent, le_lio, lx_val, lx_own, lx_io, li_own, li_io, se_val, se_own, se_lent, se_none, re_val, re_own, ap_own, ap_io, si_own, si_io, au_own, au_io, au_int, au_str, bt_n, bt_t, bts_nil, bts_cons, sv_nil, sv_cons, un_nil, un_cons, un_lent, un_lio, un_val, un_own, un_io, o_cmp, o_bin, o_bi, o_ix, o_sl0, o_sl1, o_sl2, o_sl3, o_revl, o_revt, o_neg, o_meth, bl_1, b_add, b_adds, b_addl, b_addt, b_sub, b_mul, b_fdiv, b_mod, b_pow, b_and, b_or, b_xor, c_lt, c_le, c_gt, c_ge, c_lts, c_les, c_gts, c_ges, c_in, c_nin, c_is_none, c_nis_none, i_int_none, i_bool_none, i_str_none, i_tuple_none, i_list_none, c_is_bool, c_nis_bool, i_int_bool, i_bool_bool, i_str_bool, i_tuple_bool, i_list_bool, c_is_int, c_nis_int, i_int_int, i_bool_int, i_str_int, i_tuple_int, i_list_int, c_is_str, c_nis_str, i_int_str, i_bool_str, i_str_str, i_tuple_str, i_list_str, c_is_list, c_nis_list, i_int_list, i_bool_list, i_str_list, i_tuple_list, i_list_list, c_is_tuple, c_nis_tuple, i_int_tuple, i_bool_tuple, i_str_tuple, i_tuple_tuple, i_list_tuple, c_isb, c_nisb, f_lenl, f_lent, f_lens, f_abs, f_int, f_intb, f_str, f_listl, f_listt, f_listf, f_tupl, f_tupt, f_sum, f_all, f_any, f_max2, f_min2, x_l, x_t, x_s, some_1, s_l, s_t, r_any, r_anyt, r_anys, r_rng1, r_rng2, r_zipl, r_zipt, r_enum, st_l, a0_nil, a0_cons, oo_nil, oo_f, oo_t, run_f, end_rt, end_nx, cs_call, cs_modes, cs_glob, Option.bind_some, Option.bind_none, Option.map_some, Option.map_none, List.getElem?_cons_zero, List.getElem?_cons_succ, List.set_cons_zero, List.set_cons_succ, List.cons_append, List.nil_append, List.append_nil, List.replicate, List.length_cons, List.length_nil, Bool.false_eq_true, if_true, if_false, Bool.not_true, Bool.not_false, reduceIte, reduceCtorEq, Nat.reduceAdd, Nat.reduceSub, Nat.reduceLT, wipeR, backR, okLent, nodupN, lentAt, List.all_nil, List.all_cons, List.any_nil, List.any_cons, List.contains_nil, Bool.and_true, Bool.true_and, Bool.and_false, Bool.false_and, Bool.or_true, Bool.true_or, Bool.or_false, Bool.false_or, plainAt, List.getD_cons_zero, List.getD_cons_succ, mutAt, augAt, noMut, noMuts, noElems, putOuts, dropL, drop1, c_eqi, c_nei, c_eqs, at0, at1, at2, at3, at4, at5, decide_true, decide_false, callX_some, eq_self, ite_self]
/-! ### the law's own -/
def wordL (v : D) (s : Int) : Bool := match v with
  | .int i => decide (0 ≤ i) && decide (i < s)
  | _ => false
theorem q17 {m : Nat} (hm : 1 ≤ m) (v : D) (s : Int) (h : noDic v = true) : theP.run m 17 [v, .int s] = some ((.bool (wordL v s), false), []) := by
  obtain ⟨n, rfl⟩ : ∃ n, m = n + 1 := ⟨m - 1, by omega⟩
  rw [run_eq rfl]
  cases v <;> first | (simp [noDic] at h; done) | skip
  case int i => by_cases h1 : 0 ≤ i <;> simp (implicitDefEqProofs := false) only [f17, wordL, h1, decide_true, decide_false, e_c, e_v, e_g, e_tup, e_lst, e_op, e_and, e_or, e_not, e_ite, e_chain, e_call, callX_pure, e_comp, es_nil, es_cons, eb_nil, eb_v, eb_c, ea_c, ef_c, eb_g, ea_g, ef_g, eb_tup, ea_tup, ef_tup, eb_lst, ea_lst, ef_lst, eb_op, ea_op, ef_op, eb_and, ea_and, ef_and, eb_or, ea_or, ef_or, eb_not, ea_not, ef_not, eb_ite, ea_ite, ef_ite, eb_chain, ea_chain, ef_chain, eb_call, ea_call, ef_call, eb_comp, ea_comp, ef_comp, eb_pop, ea_pop, ef_pop, ea_nil, ea_v, ea_io, ec_nil, ec_one, ep_nil, ep_cons, x_asgn, x_asgt, x_par, x_ex, x_retv, x_retN, x_ife, x_for, x_brk, x_cont, x_pass, x_append, x_setix, x_aug, xs_nil, xs_cons, th_nx, th_bk, th_ct, th_rt, as_bool, rd_val, rd_own, rd_lent, le_val, le_own, le_io, le_lent, le_lio, lx_val, lx_own, lx_io, li_own, li_io, se_val, se_own, se_lent, se_none, re_val, re_own, ap_own, ap_io, si_own, si_io, au_own, au_io, au_int, au_str, bt_n, bt_t, bts_nil, bts_cons, sv_nil, sv_cons, un_nil, un_cons, un_lent, un_lio, un_val, un_own, un_io, o_cmp, o_bin, o_bi, o_ix, o_sl0, o_sl1, o_sl2, o_sl3, o_revl, o_revt, o_neg, o_meth, bl_1, b_add, b_adds, b_addl, b_addt, b_sub, b_mul, b_fdiv, b_mod, b_pow, b_and, b_or, b_xor, c_lt, c_le, c_gt, c_ge, c_lts, c_les, c_gts, c_ges, c_in, c_nin, c_is_none, c_nis_none, i_int_none, i_bool_none, i_str_none, i_tuple_none, i_list_none, c_is_bool, c_nis_bool, i_int_bool, i_bool_bool, i_str_bool, i_tuple_bool, i_list_bool, c_is_int, c_nis_int, i_int_int, i_bool_int, i_str_int, i_tuple_int, i_list_int, c_is_str, c_nis_str, i_int_str, i_bool_str, i_str_str, i_tuple_str, i_list_str, c_is_list, c_nis_list, i_int_list, i_bool_list, i_str_list, i_tuple_list, i_list_list, c_is_tuple, c_nis_tuple, i_int_tuple, i_bool_tuple, i_str_tuple, i_tuple_tuple, i_list_tuple, c_isb, c_nisb, f_lenl, f_lent, f_lens, f_abs, f_int, f_intb, f_str, f_listl, f_listt, f_listf, f_tupl, f_tupt, f_sum, f_all, f_any, f_max2, f_min2, x_l, x_t, x_s, some_1, s_l, s_t, r_any, r_anyt, r_anys, r_rng1, r_rng2, r_zipl, r_zipt, r_enum, st_l, a0_nil, a0_cons, oo_nil, oo_f, oo_t, run_f, end_rt, end_nx, cs_call, cs_modes, cs_glob, Option.bind_some, Option.bind_none, Option.map_some, Option.map_none, List.getElem?_cons_zero, List.getElem?_cons_succ, List.set_cons_zero, List.set_cons_succ, List.cons_append, List.nil_append, List.append_nil, List.replicate, List.length_cons, List.length_nil, Bool.false_eq_true, if_true, if_false, Bool.not_true, Bool.not_false, reduceIte, reduceCtorEq, Nat.reduceAdd, Nat.reduceSub, Nat.reduceLT, wipeR, backR, okLent, nodupN, lentAt, List.all_nil, List.all_cons, List.any_nil, List.any_cons, List.contains_nil, Bool.and_true, Bool.true_and, Bool.and_false, Bool.false_and, Bool.or_true, Bool.true_or, Bool.or_false, Bool.false_or, plainAt, List.getD_cons_zero, List.getD_cons_succ, mutAt, augAt, noMut, noMuts, noElems, putOuts, dropL, drop1, c_eqi, c_nei, c_eqs, at0, at1, at2, at3, at4, at5, decide_true, decide_false, callX_some, eq_self, ite_self]
  all_goals simp (implicitDefEqProofs := false) only [f17, wordL, e_c, e_v, e_g, e_tup, e_lst, e_op, e_and, e_or, e_not, e_ite, e_chain, e_call, callX_pure, e_comp, es_nil, es_cons, eb_nil, eb_v, eb_c, ea_c, ef_c, eb_g, ea_g, ef_g, eb_tup, ea_tup, ef_tup, eb_lst, ea_lst, ef_lst, eb_op, ea_op, ef_op, eb_and, ea_and, ef_and, eb_or, ea_or, ef_or, eb_not, ea_not, ef_not, eb_ite, ea_ite, ef_ite, eb_chain, ea_chain, ef_chain, eb_call, ea_call, ef_call, eb_comp, ea_comp, ef_comp, eb_pop, ea_pop, ef_pop, ea_nil, ea_v, ea_io, ec_nil, ec_one, ep_nil, ep_cons, x_asgn, x_asgt, x_par, x_ex, x_retv, x_retN, x_ife, x_for, x_brk, x_cont, x_pass, x_append, x_setix, x_aug, xs_nil, xs_cons, th_nx, th_bk, th_ct, th_rt, as_bool, rd_val, rd_own, rd_lent, le_val, le_own, le_io, le_lent, le_lio, lx_val, lx_own, lx_io, li_own, li_io, se_val, se_own, se_lent, se_none, re_val, re_own, ap_own, ap_io, si_own, si_io, au_own, au_io, au_int, au_str, bt_n, bt_t, bts_nil, bts_cons, sv_nil, sv_cons, un_nil, un_cons, un_lent, un_lio, un_val, un_own, un_io, o_cmp, o_bin, o_bi, o_ix, o_sl0, o_sl1, o_sl2, o_sl3, o_revl, o_revt, o_neg, o_meth, bl_1, b_add, b_adds, b_addl, b_addt, b_sub, b_mul, b_fdiv, b_mod, b_pow, b_and, b_or, b_xor, c_lt, c_le, c_gt, c_ge, c_lts, c_les, c_gts, c_ges, c_in, c_nin, c_is_none, c_nis_none, i_int_none, i_bool_none, i_str_none, i_tuple_none, i_list_none, c_is_bool, c_nis_bool, i_int_bool, i_bool_bool, i_str_bool, i_tuple_bool, i_list_bool, c_is_int, c_nis_int, i_int_int, i_bool_int, i_str_int, i_tuple_int, i_list_int, c_is_str, c_nis_str, i_int_str, i_bool_str, i_str_str, i_tuple_str, i_list_str, c_is_list, c_nis_list, i_int_list, i_bool_list, i_str_list, i_tuple_list, i_list_list, c_is_tuple, c_nis_tuple, i_int_tuple, i_bool_tuple, i_str_tuple, i_tuple_tuple, i_list_tuple, c_isb, c_nisb, f_lenl, f_lent, f_lens, f_abs, f_int, f_intb, f_str, f_listl, f_listt, f_listf, f_tupl, f_tupt, f_sum, f_all, f_any, f_max2, f_min2, x_l, x_t, x_s, some_1, s_l, s_t, r_any, r_anyt, r_anys, r_rng1, r_rng2, r_zipl, r_zipt, r_enum, st_l, a0_nil, a0_cons, oo_nil, oo_f, oo_t, run_f, end_rt, end_nx, cs_call, cs_modes, cs_glob, Option.bind_some, Option.bind_none, Option.map_some, Option.map_none, List.getElem?_cons_zero, List.getElem?_cons_succ, List.set_cons_zero, List.set_cons_succ, List.cons_append, List.nil_append, List.append_nil, List.replicate, List.length_cons, List.length_nil, Bool.false_eq_true, if_true, if_false, Bool.not_true, Bool.not_false, reduceIte, reduceCtorEq, Nat.reduceAdd, Nat.reduceSub, Nat.reduceLT, wipeR, backR, okLent, nodupN, lentAt, List.all_nil, List.all_cons, List.any_nil, List.any_cons, List.contains_nil, Bool.and_true, Bool.true_and, Bool.and_false, Bool.false_and, Bool.or_true, Bool.true_or, Bool.or_false, Bool.false_or, plainAt, List.getD_cons_zero, List.getD_cons_succ, mutAt, augAt, noMut, noMuts, noElems, putOuts, dropL, drop1, c_eqi, c_nei, c_eqs, at0, at1, at2, at3, at4, at5, decide_true, decide_false, callX_some, eq_self, ite_self]
theorem q15 {m : Nat} (hm : 1 ≤ m) (k : Nat) (hk : k < 1000) : theP.run m 15 [.int k] = some ((.int (2 ^ k), false), []) := by
  have := q4 hm k hk
  obtain ⟨n, rfl⟩ : ∃ n, m = n + 1 := ⟨m - 1, by omega⟩
  rw [run_eq rfl] at this ⊢
  exact this
theorem q15i {m : Nat} (hm : 1 ≤ m) (k : Int) (h0 : 0 ≤ k) (hk : k < 1000) : theP.run m 15 [.int k] = some ((.int (2 ^ k.toNat), false), []) := by
  have := q15 hm k.toNat (by omega)
  rw [Int.toNat_of_nonneg h0] at this
  exact this
def abcT : List D := [.str "a", .str "b", .str "c", .str "d", .str "e", .str "f"]
def inL (a : D) : Bool := abcT.any fun z => PyData.eqv z a
def gA (x : D) : Bool := match x with
  | .tuple [a, b, _] => inL a && (wordL b 9 && !(match b with | .int k => decide (k = 0) | _ => false))
  | _ => false
def gB (x : D) : Bool := match x with
  | .tuple [_, .int k, c] => wordL c (2 ^ k.toNat)
  | _ => false
theorem fil_nil {α : Type} (p : α → Bool) : ∀ xs : List α, (xs.filter fun x => !p x).isEmpty = xs.all p
  | [] => rfl
  | x :: xs => by
    cases h : p x
    · simp [h]
    · simp only [List.filter_cons, h, Bool.not_true, Bool.false_eq_true, if_false, List.all_cons, Bool.true_and]
      exact fil_nil p xs
theorem oks_fil {p : D → Bool} {xs : List D} (h : okDs xs = true) : noDics ((xs.filter p).map fun x => x) = true := by
  rw [List.map_id']
  exact noDics_mem.mpr fun x hx => ok_dic x (oks_mem.mp h x (List.mem_filter.mp hx).1)
theorem dep_abc : PyData.depthAll abcT ≤ 64 := by decide +kernel
theorem in_abc {a : D} (h : noDic a = true) : inF a (.tuple abcT) = some (inL a) := by
  have h1 : (noDics abcT && noDic a && decide (min (PyData.depthAll abcT) a.depth ≤ 64)) = true := by
    rw [h]
    have : min (PyData.depthAll abcT) a.depth ≤ 64 := Nat.le_trans (Nat.min_le_left _ _) dep_abc
    rw [decide_eq_true this]
    rfl
  exact if_pos h1
theorem gA_int {x : D} (h : gA x = true) : ∃ a k c, x = .tuple [a, .int k, c] ∧ 1 ≤ k ∧ k < 9 ∧ inL a = true := by
  unfold gA at h
  split at h
  · rename_i a b c
    obtain ⟨h1, h2⟩ := Bool.and_eq_true_iff.mp h
    cases b <;> simp only [wordL, Bool.false_and, Bool.false_eq_true] at h2
    simp only [Bool.and_eq_true, decide_eq_true_eq, Bool.not_eq_true', decide_eq_false_iff_not] at h2
    exact ⟨_, _, _, rfl, by omega, by omega, h1⟩
  · cases h
theorem inL_str {a : D} (h : inL a = true) : ∃ s, a = .str s ∧ s.length = 1 ∧ s.cps.getD 0 0 ∈ (Str.ofString "abcdef").cps.toList := by
  have go : ∀ (s : Str), PyData.eqv (.str s) a = true → a = .str s := fun s h => by
    cases a <;> first | (simp [PyData.eqv] at h; done) | skip
    rw [PyData.eqv] at h
    rw [eq_of_beq h]
  simp only [inL, abcT, List.any_cons, List.any_nil, Bool.or_false, Bool.or_eq_true] at h
  rcases h with h | h | h | h | h | h <;> exact ⟨_, go _ h, by decide +kernel, by decide +kernel⟩
theorem str1 {s : Str} (h : s.length = 1) : s = ⟨#[s.cps.getD 0 0]⟩ := by
  obtain ⟨⟨l⟩⟩ := s
  have h : l.length = 1 := h
  obtain ⟨a, rfl⟩ := len1 h
  rfl
theorem inL_fits (a : D) : inL a = fitsL a := by
  rw [Bool.eq_iff_iff]
  constructor
  · intro h
    obtain ⟨s, rfl, h1, h2⟩ := inL_str h
    simp only [fitsL, chB, h1, decide_true, Bool.true_and]
    exact decide_eq_true h2
  · intro h
    cases a <;> simp only [fitsL, Bool.false_eq_true] at h
    rename_i s
    simp only [Bool.and_eq_true, decide_eq_true_eq, chB] at h
    obtain ⟨h1, h2⟩ := h
    rw [str1 h1]
    generalize s.cps.getD 0 0 = c at h2
    have e : (Str.ofString "abcdef").cps.toList = [97, 98, 99, 100, 101, 102] := by decide +kernel
    rw [e] at h2
    simp only [List.mem_cons, List.not_mem_nil, or_false] at h2
    rcases h2 with rfl | rfl | rfl | rfl | rfl | rfl <;> decide +kernel
theorem gA_fA (x : D) : gA x = fA x := by
  unfold gA fA
  split
  · rename_i a b c
    rw [inL_fits]
    congr 1
    cases b <;> simp only [wordL, fitsW, Bool.false_and]
    rename_i k
    rw [Bool.eq_iff_iff]
    simp only [Bool.and_eq_true, decide_eq_true_eq, Bool.not_eq_true', decide_eq_false_iff_not]
    omega
  · rename_i hn
    first
      | rfl
      | (split
         · exact absurd rfl (hn _ _ _)
         · rfl)
theorem gB_fB (x : D) : gB x = fB x := by
  unfold gB fB
  split
  · rename_i k c
    cases c <;> simp only [wordL, fitsW]
    rename_i i
    rw [Bool.eq_iff_iff]
    simp only [Bool.and_eq_true, decide_eq_true_eq]
    generalize (2 : Int) ^ k.toNat = y
    omega
  · rename_i hn
    first
      | rfl
      | (split
         · exact absurd rfl (hn _ _ _)
         · rfl)
def geG (ls : List Str) (x : D) : Bool := match x with
  | .int i => !decide ((ls.getD (i - 1).toNat Str.empty).cps.toList < (ls.getD i.toNat Str.empty).cps.toList)
  | _ => false
theorem rng_mem : ∀ {n : Nat} {lo : Int} {x : D}, x ∈ rngF lo n → ∃ i : Int, x = .int i ∧ lo ≤ i ∧ i < lo + n
  | 0, _, _, h => by simp [rngF] at h
  | n + 1, lo, x, h => by
    simp only [rngF, List.mem_cons] at h
    rcases h with rfl | h
    · exact ⟨lo, rfl, by omega, by omega⟩
    · obtain ⟨i, e, h1, h2⟩ := rng_mem h
      exact ⟨i, e, by omega, by omega⟩
theorem rng_shift (ls : List Str) (a : Str) : ∀ (n : Nat) (lo : Nat), 1 ≤ lo → ((rngF ((lo + 1 : Nat) : Int) n).filter (geG (a :: ls))).isEmpty = ((rngF (lo : Int) n).filter (geG ls)).isEmpty
  | 0, _, _ => rfl
  | n + 1, lo, h => by
    have ih := rng_shift ls a n (lo + 1) (by omega)
    have e : geG (a :: ls) (.int ((lo + 1 : Nat) : Int)) = geG ls (.int (lo : Int)) := by
      obtain ⟨k, rfl⟩ : ∃ k, lo = k + 1 := ⟨lo - 1, by omega⟩
      simp only [geG]
      have e1 : (((k + 1 + 1 : Nat) : Int) - 1).toNat = k + 1 := by omega
      have e2 : (((k + 1 + 1 : Nat) : Int)).toNat = k + 2 := by omega
      have e3 : (((k + 1 : Nat) : Int) - 1).toNat = k := by omega
      have e4 : (((k + 1 : Nat) : Int)).toNat = k + 1 := by omega
      rw [e1, e2, e3, e4]
      simp only [List.getD_cons_succ]
    have c1 : ((lo + 1 : Nat) : Int) + 1 = ((lo + 1 + 1 : Nat) : Int) := by omega
    have c2 : (lo : Int) + 1 = ((lo + 1 : Nat) : Int) := by omega
    simp only [rngF, List.filter_cons, e, c1, c2]
    cases geG ls (.int (lo : Int))
    · simpa using ih
    · rfl
theorem rise_rng : ∀ ls : List Str, ((rngF 1 (ls.length - 1)).filter (geG ls)).isEmpty = rise ls
  | [] => rfl
  | [a] => rfl
  | a :: b :: r => by
    have ih := rise_rng (b :: r)
    have sh := rng_shift (b :: r) a r.length 1 (by omega)
    have e : (a :: b :: r).length - 1 = r.length + 1 := rfl
    rw [e]
    simp only [rngF, List.filter_cons]
    have g : geG (a :: b :: r) (.int 1) = !decide (a.cps.toList < b.cps.toList) := rfl
    rw [g]
    have ih : ((rngF ((1 : Nat) : Int) r.length).filter (geG (b :: r))).isEmpty = rise (b :: r) := ih
    rw [ih] at sh
    cases h : decide (a.cps.toList < b.cps.toList)
    · simp only [rise, h, Bool.not_false, if_true, List.isEmpty_cons, Bool.false_and]
    · simp only [Bool.not_true, Bool.false_eq_true, if_false, rise, h, Bool.true_and]
      exact sh
def fieldsL (v : D) : Bool := match v with
  | .tuple ds => ds.all (fun x => isT x 3 3) && (ds.all gA && (ds.all gB && rise (ds.map fN)))
  | _ => false
theorem isT33 {ds : List D} : (!decide ((ds.length : Int) = 3)) = !isT (.tuple ds) 3 3 := by
  congr 1
  rw [Bool.eq_iff_iff]
  simp only [isT, Bool.and_eq_true, decide_eq_true_eq]
  omega
theorem q18 {m : Nat} (hm : 2 ≤ m) (v : D) (h : okD v = true) (hl : ∀ ds, v = .tuple ds → ds.length ≤ 1000) : theP.run m 18 [v] = some ((.bool (fieldsL v), false), []) := by
  obtain ⟨n, rfl⟩ : ∃ n, m = n + 1 := ⟨m - 1, by omega⟩
  rw [run_eq rfl]
  cases v <;> first | (simp [okD] at h; done) | skip
  case tuple ds =>
    have hd : ∀ x ∈ ds, okD x = true := oks_mem.mp h
    have hlim : ∀ p : D → Bool, ((ds.filter p).map fun x => x).length ≤ lim := fun p => by
      rw [List.length_map]
      exact Nat.le_trans (List.length_filter_le _ _) (lim_of (hl ds rfl))
    have hlim' : ds.length ≤ lim := lim_of (hl ds rfl)
    have nd : ∀ p : D → Bool, noDics ((ds.filter p).map fun x => x) = true := fun p => oks_fil h
    have ne : ∀ p : D → Bool, cmpF .ne (.list ((ds.filter p).map fun x => x)) (.list []) = some (!(ds.filter p).isEmpty) := fun p => by
      rw [c_ne_nil (nd p), List.map_id']
    have c1 := compL_fil (f := turnC (theP.cs n) (.v 1) (.n 1) [(.or (.not (.op (.bi (.isi .tuple)) [(.v 1)])) (.op (.cmp .ne) [(.op (.bi .len) [(.v 1)]), (.c (.int (3)))]))] [1]) (g := fun x => x) (p := fun x => !isT x 3 3) (ρ := [some (.val, .tuple ds), none, none, none]) (xs := ds) fun x hx => by
      have hx' := hd x hx
      cases x <;> first | (simp [okD] at hx'; done) | skip
      case tuple es =>
        cases e : isT (.tuple es) 3 3
        · have e' := (isT33 (ds := es)).trans (congrArg (!·) e)
          simp (implicitDefEqProofs := false) only [turnC, e, e', e_c, e_v, e_g, e_tup, e_lst, e_op, e_and, e_or, e_not, e_ite, e_chain, e_call, callX_pure, e_comp, es_nil, es_cons, eb_nil, eb_v, eb_c, ea_c, ef_c, eb_g, ea_g, ef_g, eb_tup, ea_tup, ef_tup, eb_lst, ea_lst, ef_lst, eb_op, ea_op, ef_op, eb_and, ea_and, ef_and, eb_or, ea_or, ef_or, eb_not, ea_not, ef_not, eb_ite, ea_ite, ef_ite, eb_chain, ea_chain, ef_chain, eb_call, ea_call, ef_call, eb_comp, ea_comp, ef_comp, eb_pop, ea_pop, ef_pop, ea_nil, ea_v, ea_io, ec_nil, ec_one, ep_nil, ep_cons, x_asgn, x_asgt, x_par, x_ex, x_retv, x_retN, x_ife, x_for, x_brk, x_cont, x_pass, x_append, x_setix, x_aug, xs_nil, xs_cons, th_nx, th_bk, th_ct, th_rt, as_bool, rd_val, rd_own, rd_lent, le_val, le_own, le_io, le_lent, le_lio, lx_val, lx_own, lx_io, li_own, li_io, se_val, se_own, se_lent, se_none, re_val, re_own, ap_own, ap_io, si_own, si_io, au_own, au_io, au_int, au_str, bt_n, bt_t, bts_nil, bts_cons, sv_nil, sv_cons, un_nil, un_cons, un_lent, un_lio, un_val, un_own, un_io, o_cmp, o_bin, o_bi, o_ix, o_sl0, o_sl1, o_sl2, o_sl3, o_revl, o_revt, o_neg, o_meth, bl_1, b_add, b_adds, b_addl, b_addt, b_sub, b_mul, b_fdiv, b_mod, b_pow, b_and, b_or, b_xor, c_lt, c_le, c_gt, c_ge, c_lts, c_les, c_gts, c_ges, c_in, c_nin, c_is_none, c_nis_none, i_int_none, i_bool_none, i_str_none, i_tuple_none, i_list_none, c_is_bool, c_nis_bool, i_int_bool, i_bool_bool, i_str_bool, i_tuple_bool, i_list_bool, c_is_int, c_nis_int, i_int_int, i_bool_int, i_str_int, i_tuple_int, i_list_int, c_is_str, c_nis_str, i_int_str, i_bool_str, i_str_str, i_tuple_str, i_list_str, c_is_list, c_nis_list, i_int_list, i_bool_list, i_str_list, i_tuple_list, i_list_list, c_is_tuple, c_nis_tuple, i_int_tuple, i_bool_tuple, i_str_tuple, i_tuple_tuple, i_list_tuple, c_isb, c_nisb, f_lenl, f_lent, f_lens, f_abs, f_int, f_intb, f_str, f_listl, f_listt, f_listf, f_tupl, f_tupt, f_sum, f_all, f_any, f_max2, f_min2, x_l, x_t, x_s, some_1, s_l, s_t, r_any, r_anyt, r_anys, r_rng1, r_rng2, r_zipl, r_zipt, r_enum, st_l, a0_nil, a0_cons, oo_nil, oo_f, oo_t, run_f, end_rt, end_nx, cs_call, cs_modes, cs_glob, Option.bind_some, Option.bind_none, Option.map_some, Option.map_none, List.getElem?_cons_zero, List.getElem?_cons_succ, List.set_cons_zero, List.set_cons_succ, List.cons_append, List.nil_append, List.append_nil, List.replicate, List.length_cons, List.length_nil, Bool.false_eq_true, if_true, if_false, Bool.not_true, Bool.not_false, reduceIte, reduceCtorEq, Nat.reduceAdd, Nat.reduceSub, Nat.reduceLT, wipeR, backR, okLent, nodupN, lentAt, List.all_nil, List.all_cons, List.any_nil, List.any_cons, List.contains_nil, Bool.and_true, Bool.true_and, Bool.and_false, Bool.false_and, Bool.or_true, Bool.true_or, Bool.or_false, Bool.false_or, plainAt, List.getD_cons_zero, List.getD_cons_succ, mutAt, augAt, noMut, noMuts, noElems, putOuts, dropL, drop1, c_eqi, c_nei, c_eqs, at0, at1, at2, at3, at4, at5, decide_true, decide_false, callX_some, eq_self, ite_self]
        · have e' := (isT33 (ds := es)).trans (congrArg (!·) e)
          simp (implicitDefEqProofs := false) only [turnC, e, e', e_c, e_v, e_g, e_tup, e_lst, e_op, e_and, e_or, e_not, e_ite, e_chain, e_call, callX_pure, e_comp, es_nil, es_cons, eb_nil, eb_v, eb_c, ea_c, ef_c, eb_g, ea_g, ef_g, eb_tup, ea_tup, ef_tup, eb_lst, ea_lst, ef_lst, eb_op, ea_op, ef_op, eb_and, ea_and, ef_and, eb_or, ea_or, ef_or, eb_not, ea_not, ef_not, eb_ite, ea_ite, ef_ite, eb_chain, ea_chain, ef_chain, eb_call, ea_call, ef_call, eb_comp, ea_comp, ef_comp, eb_pop, ea_pop, ef_pop, ea_nil, ea_v, ea_io, ec_nil, ec_one, ep_nil, ep_cons, x_asgn, x_asgt, x_par, x_ex, x_retv, x_retN, x_ife, x_for, x_brk, x_cont, x_pass, x_append, x_setix, x_aug, xs_nil, xs_cons, th_nx, th_bk, th_ct, th_rt, as_bool, rd_val, rd_own, rd_lent, le_val, le_own, le_io, le_lent, le_lio, lx_val, lx_own, lx_io, li_own, li_io, se_val, se_own, se_lent, se_none, re_val, re_own, ap_own, ap_io, si_own, si_io, au_own, au_io, au_int, au_str, bt_n, bt_t, bts_nil, bts_cons, sv_nil, sv_cons, un_nil, un_cons, un_lent, un_lio, un_val, un_own, un_io, o_cmp, o_bin, o_bi, o_ix, o_sl0, o_sl1, o_sl2, o_sl3, o_revl, o_revt, o_neg, o_meth, bl_1, b_add, b_adds, b_addl, b_addt, b_sub, b_mul, b_fdiv, b_mod, b_pow, b_and, b_or, b_xor, c_lt, c_le, c_gt, c_ge, c_lts, c_les, c_gts, c_ges, c_in, c_nin, c_is_none, c_nis_none, i_int_none, i_bool_none, i_str_none, i_tuple_none, i_list_none, c_is_bool, c_nis_bool, i_int_bool, i_bool_bool, i_str_bool, i_tuple_bool, i_list_bool, c_is_int, c_nis_int, i_int_int, i_bool_int, i_str_int, i_tuple_int, i_list_int, c_is_str, c_nis_str, i_int_str, i_bool_str, i_str_str, i_tuple_str, i_list_str, c_is_list, c_nis_list, i_int_list, i_bool_list, i_str_list, i_tuple_list, i_list_list, c_is_tuple, c_nis_tuple, i_int_tuple, i_bool_tuple, i_str_tuple, i_tuple_tuple, i_list_tuple, c_isb, c_nisb, f_lenl, f_lent, f_lens, f_abs, f_int, f_intb, f_str, f_listl, f_listt, f_listf, f_tupl, f_tupt, f_sum, f_all, f_any, f_max2, f_min2, x_l, x_t, x_s, some_1, s_l, s_t, r_any, r_anyt, r_anys, r_rng1, r_rng2, r_zipl, r_zipt, r_enum, st_l, a0_nil, a0_cons, oo_nil, oo_f, oo_t, run_f, end_rt, end_nx, cs_call, cs_modes, cs_glob, Option.bind_some, Option.bind_none, Option.map_some, Option.map_none, List.getElem?_cons_zero, List.getElem?_cons_succ, List.set_cons_zero, List.set_cons_succ, List.cons_append, List.nil_append, List.append_nil, List.replicate, List.length_cons, List.length_nil, Bool.false_eq_true, if_true, if_false, Bool.not_true, Bool.not_false, reduceIte, reduceCtorEq, Nat.reduceAdd, Nat.reduceSub, Nat.reduceLT, wipeR, backR, okLent, nodupN, lentAt, List.all_nil, List.all_cons, List.any_nil, List.any_cons, List.contains_nil, Bool.and_true, Bool.true_and, Bool.and_false, Bool.false_and, Bool.or_true, Bool.true_or, Bool.or_false, Bool.false_or, plainAt, List.getD_cons_zero, List.getD_cons_succ, mutAt, augAt, noMut, noMuts, noElems, putOuts, dropL, drop1, c_eqi, c_nei, c_eqs, at0, at1, at2, at3, at4, at5, decide_true, decide_false, callX_some, eq_self, ite_self]
      all_goals simp (implicitDefEqProofs := false) only [turnC, isT, e_c, e_v, e_g, e_tup, e_lst, e_op, e_and, e_or, e_not, e_ite, e_chain, e_call, callX_pure, e_comp, es_nil, es_cons, eb_nil, eb_v, eb_c, ea_c, ef_c, eb_g, ea_g, ef_g, eb_tup, ea_tup, ef_tup, eb_lst, ea_lst, ef_lst, eb_op, ea_op, ef_op, eb_and, ea_and, ef_and, eb_or, ea_or, ef_or, eb_not, ea_not, ef_not, eb_ite, ea_ite, ef_ite, eb_chain, ea_chain, ef_chain, eb_call, ea_call, ef_call, eb_comp, ea_comp, ef_comp, eb_pop, ea_pop, ef_pop, ea_nil, ea_v, ea_io, ec_nil, ec_one, ep_nil, ep_cons, x_asgn, x_asgt, x_par, x_ex, x_retv, x_retN, x_ife, x_for, x_brk, x_cont, x_pass, x_append, x_setix, x_aug, xs_nil, xs_cons, th_nx, th_bk, th_ct, th_rt, as_bool, rd_val, rd_own, rd_lent, le_val, le_own, le_io, le_lent, le_lio, lx_val, lx_own, lx_io, li_own, li_io, se_val, se_own, se_lent, se_none, re_val, re_own, ap_own, ap_io, si_own, si_io, au_own, au_io, au_int, au_str, bt_n, bt_t, bts_nil, bts_cons, sv_nil, sv_cons, un_nil, un_cons, un_lent, un_lio, un_val, un_own, un_io, o_cmp, o_bin, o_bi, o_ix, o_sl0, o_sl1, o_sl2, o_sl3, o_revl, o_revt, o_neg, o_meth, bl_1, b_add, b_adds, b_addl, b_addt, b_sub, b_mul, b_fdiv, b_mod, b_pow, b_and, b_or, b_xor, c_lt, c_le, c_gt, c_ge, c_lts, c_les, c_gts, c_ges, c_in, c_nin, c_is_none, c_nis_none, i_int_none, i_bool_none, i_str_none, i_tuple_none, i_list_none, c_is_bool, c_nis_bool, i_int_bool, i_bool_bool, i_str_bool, i_tuple_bool, i_list_bool, c_is_int, c_nis_int, i_int_int, i_bool_int, i_str_int, i_tuple_int, i_list_int, c_is_str, c_nis_str, i_int_str, i_bool_str, i_str_str, i_tuple_str, i_list_str, c_is_list, c_nis_list, i_int_list, i_bool_list, i_str_list, i_tuple_list, i_list_list, c_is_tuple, c_nis_tuple, i_int_tuple, i_bool_tuple, i_str_tuple, i_tuple_tuple, i_list_tuple, c_isb, c_nisb, f_lenl, f_lent, f_lens, f_abs, f_int, f_intb, f_str, f_listl, f_listt, f_listf, f_tupl, f_tupt, f_sum, f_all, f_any, f_max2, f_min2, x_l, x_t, x_s, some_1, s_l, s_t, r_any, r_anyt, r_anys, r_rng1, r_rng2, r_zipl, r_zipt, r_enum, st_l, a0_nil, a0_cons, oo_nil, oo_f, oo_t, run_f, end_rt, end_nx, cs_call, cs_modes, cs_glob, Option.bind_some, Option.bind_none, Option.map_some, Option.map_none, List.getElem?_cons_zero, List.getElem?_cons_succ, List.set_cons_zero, List.set_cons_succ, List.cons_append, List.nil_append, List.append_nil, List.replicate, List.length_cons, List.length_nil, Bool.false_eq_true, if_true, if_false, Bool.not_true, Bool.not_false, reduceIte, reduceCtorEq, Nat.reduceAdd, Nat.reduceSub, Nat.reduceLT, wipeR, backR, okLent, nodupN, lentAt, List.all_nil, List.all_cons, List.any_nil, List.any_cons, List.contains_nil, Bool.and_true, Bool.true_and, Bool.and_false, Bool.false_and, Bool.or_true, Bool.true_or, Bool.or_false, Bool.false_or, plainAt, List.getD_cons_zero, List.getD_cons_succ, mutAt, augAt, noMut, noMuts, noElems, putOuts, dropL, drop1, c_eqi, c_nei, c_eqs, at0, at1, at2, at3, at4, at5, decide_true, decide_false, callX_some, eq_self, ite_self]
    by_cases h3 : ds.all (fun x => isT x 3 3) = true
    rotate_left
    · have h3 := eq_false_of_ne_true h3
      simp (implicitDefEqProofs := false) only [f18, fieldsL, c1, hlim, ne, fil_nil, h3, e_c, e_v, e_g, e_tup, e_lst, e_op, e_and, e_or, e_not, e_ite, e_chain, e_call, callX_pure, e_comp, es_nil, es_cons, eb_nil, eb_v, eb_c, ea_c, ef_c, eb_g, ea_g, ef_g, eb_tup, ea_tup, ef_tup, eb_lst, ea_lst, ef_lst, eb_op, ea_op, ef_op, eb_and, ea_and, ef_and, eb_or, ea_or, ef_or, eb_not, ea_not, ef_not, eb_ite, ea_ite, ef_ite, eb_chain, ea_chain, ef_chain, eb_call, ea_call, ef_call, eb_comp, ea_comp, ef_comp, eb_pop, ea_pop, ef_pop, ea_nil, ea_v, ea_io, ec_nil, ec_one, ep_nil, ep_cons, x_asgn, x_asgt, x_par, x_ex, x_retv, x_retN, x_ife, x_for, x_brk, x_cont, x_pass, x_append, x_setix, x_aug, xs_nil, xs_cons, th_nx, th_bk, th_ct, th_rt, as_bool, rd_val, rd_own, rd_lent, le_val, le_own, le_io, le_lent, le_lio, lx_val, lx_own, lx_io, li_own, li_io, se_val, se_own, se_lent, se_none, re_val, re_own, ap_own, ap_io, si_own, si_io, au_own, au_io, au_int, au_str, bt_n, bt_t, bts_nil, bts_cons, sv_nil, sv_cons, un_nil, un_cons, un_lent, un_lio, un_val, un_own, un_io, o_cmp, o_bin, o_bi, o_ix, o_sl0, o_sl1, o_sl2, o_sl3, o_revl, o_revt, o_neg, o_meth, bl_1, b_add, b_adds, b_addl, b_addt, b_sub, b_mul, b_fdiv, b_mod, b_pow, b_and, b_or, b_xor, c_lt, c_le, c_gt, c_ge, c_lts, c_les, c_gts, c_ges, c_in, c_nin, c_is_none, c_nis_none, i_int_none, i_bool_none, i_str_none, i_tuple_none, i_list_none, c_is_bool, c_nis_bool, i_int_bool, i_bool_bool, i_str_bool, i_tuple_bool, i_list_bool, c_is_int, c_nis_int, i_int_int, i_bool_int, i_str_int, i_tuple_int, i_list_int, c_is_str, c_nis_str, i_int_str, i_bool_str, i_str_str, i_tuple_str, i_list_str, c_is_list, c_nis_list, i_int_list, i_bool_list, i_str_list, i_tuple_list, i_list_list, c_is_tuple, c_nis_tuple, i_int_tuple, i_bool_tuple, i_str_tuple, i_tuple_tuple, i_list_tuple, c_isb, c_nisb, f_lenl, f_lent, f_lens, f_abs, f_int, f_intb, f_str, f_listl, f_listt, f_listf, f_tupl, f_tupt, f_sum, f_all, f_any, f_max2, f_min2, x_l, x_t, x_s, some_1, s_l, s_t, r_any, r_anyt, r_anys, r_rng1, r_rng2, r_zipl, r_zipt, r_enum, st_l, a0_nil, a0_cons, oo_nil, oo_f, oo_t, run_f, end_rt, end_nx, cs_call, cs_modes, cs_glob, Option.bind_some, Option.bind_none, Option.map_some, Option.map_none, List.getElem?_cons_zero, List.getElem?_cons_succ, List.set_cons_zero, List.set_cons_succ, List.cons_append, List.nil_append, List.append_nil, List.replicate, List.length_cons, List.length_nil, Bool.false_eq_true, if_true, if_false, Bool.not_true, Bool.not_false, reduceIte, reduceCtorEq, Nat.reduceAdd, Nat.reduceSub, Nat.reduceLT, wipeR, backR, okLent, nodupN, lentAt, List.all_nil, List.all_cons, List.any_nil, List.any_cons, List.contains_nil, Bool.and_true, Bool.true_and, Bool.and_false, Bool.false_and, Bool.or_true, Bool.true_or, Bool.or_false, Bool.false_or, plainAt, List.getD_cons_zero, List.getD_cons_succ, mutAt, augAt, noMut, noMuts, noElems, putOuts, dropL, drop1, c_eqi, c_nei, c_eqs, at0, at1, at2, at3, at4, at5, decide_true, decide_false, callX_some, eq_self, ite_self]
    have hx3 : ∀ x ∈ ds, ∃ a b c, x = .tuple [a, b, c] := fun x hx => isT3 (List.all_eq_true.mp h3 x hx)
    have c2 := compL_fil (f := turnC (theP.cs n) (.v 1) (.n 1) [(.or (.op (.cmp .nin) [(.op .ix [(.v 1), (.c (.int (0)))]), (.tup [(.c (.str "a")), (.c (.str "b")), (.c (.str "c")), (.c (.str "d")), (.c (.str "e")), (.c (.str "f"))])]) (.or (.not (.call 17 [(.op .ix [(.v 1), (.c (.int (1)))]), (.c (.int (9)))])) (.op (.cmp .eq) [(.op .ix [(.v 1), (.c (.int (1)))]), (.c (.int (0)))])))] [1]) (g := fun x => x) (p := fun x => !gA x) (ρ := [some (.val, .tuple ds), none, none, none]) (xs := ds) fun x hx => by
      obtain ⟨a, b, c, rfl⟩ := hx3 x hx
      have hm := oks_mem.mp (show okDs [a, b, c] = true from hd _ hx)
      have i1 := in_abc (ok_dic _ (hm a (by simp)))
      have k1 := q17 (show 1 ≤ n by omega) b 9 (ok_dic _ (hm b (by simp)))
      simp only [abcT] at i1
      cases e1 : inL a
      · rw [e1] at i1
        simp (implicitDefEqProofs := false) only [turnC, i1, gA, e1, e_c, e_v, e_g, e_tup, e_lst, e_op, e_and, e_or, e_not, e_ite, e_chain, e_call, callX_pure, e_comp, es_nil, es_cons, eb_nil, eb_v, eb_c, ea_c, ef_c, eb_g, ea_g, ef_g, eb_tup, ea_tup, ef_tup, eb_lst, ea_lst, ef_lst, eb_op, ea_op, ef_op, eb_and, ea_and, ef_and, eb_or, ea_or, ef_or, eb_not, ea_not, ef_not, eb_ite, ea_ite, ef_ite, eb_chain, ea_chain, ef_chain, eb_call, ea_call, ef_call, eb_comp, ea_comp, ef_comp, eb_pop, ea_pop, ef_pop, ea_nil, ea_v, ea_io, ec_nil, ec_one, ep_nil, ep_cons, x_asgn, x_asgt, x_par, x_ex, x_retv, x_retN, x_ife, x_for, x_brk, x_cont, x_pass, x_append, x_setix, x_aug, xs_nil, xs_cons, th_nx, th_bk, th_ct, th_rt, as_bool, rd_val, rd_own, rd_lent, le_val, le_own, le_io, le_lent, le_lio, lx_val, lx_own, lx_io, li_own, li_io, se_val, se_own, se_lent, se_none, re_val, re_own, ap_own, ap_io, si_own, si_io, au_own, au_io, au_int, au_str, bt_n, bt_t, bts_nil, bts_cons, sv_nil, sv_cons, un_nil, un_cons, un_lent, un_lio, un_val, un_own, un_io, o_cmp, o_bin, o_bi, o_ix, o_sl0, o_sl1, o_sl2, o_sl3, o_revl, o_revt, o_neg, o_meth, bl_1, b_add, b_adds, b_addl, b_addt, b_sub, b_mul, b_fdiv, b_mod, b_pow, b_and, b_or, b_xor, c_lt, c_le, c_gt, c_ge, c_lts, c_les, c_gts, c_ges, c_in, c_nin, c_is_none, c_nis_none, i_int_none, i_bool_none, i_str_none, i_tuple_none, i_list_none, c_is_bool, c_nis_bool, i_int_bool, i_bool_bool, i_str_bool, i_tuple_bool, i_list_bool, c_is_int, c_nis_int, i_int_int, i_bool_int, i_str_int, i_tuple_int, i_list_int, c_is_str, c_nis_str, i_int_str, i_bool_str, i_str_str, i_tuple_str, i_list_str, c_is_list, c_nis_list, i_int_list, i_bool_list, i_str_list, i_tuple_list, i_list_list, c_is_tuple, c_nis_tuple, i_int_tuple, i_bool_tuple, i_str_tuple, i_tuple_tuple, i_list_tuple, c_isb, c_nisb, f_lenl, f_lent, f_lens, f_abs, f_int, f_intb, f_str, f_listl, f_listt, f_listf, f_tupl, f_tupt, f_sum, f_all, f_any, f_max2, f_min2, x_l, x_t, x_s, some_1, s_l, s_t, r_any, r_anyt, r_anys, r_rng1, r_rng2, r_zipl, r_zipt, r_enum, st_l, a0_nil, a0_cons, oo_nil, oo_f, oo_t, run_f, end_rt, end_nx, cs_call, cs_modes, cs_glob, Option.bind_some, Option.bind_none, Option.map_some, Option.map_none, List.getElem?_cons_zero, List.getElem?_cons_succ, List.set_cons_zero, List.set_cons_succ, List.cons_append, List.nil_append, List.append_nil, List.replicate, List.length_cons, List.length_nil, Bool.false_eq_true, if_true, if_false, Bool.not_true, Bool.not_false, reduceIte, reduceCtorEq, Nat.reduceAdd, Nat.reduceSub, Nat.reduceLT, wipeR, backR, okLent, nodupN, lentAt, List.all_nil, List.all_cons, List.any_nil, List.any_cons, List.contains_nil, Bool.and_true, Bool.true_and, Bool.and_false, Bool.false_and, Bool.or_true, Bool.true_or, Bool.or_false, Bool.false_or, plainAt, List.getD_cons_zero, List.getD_cons_succ, mutAt, augAt, noMut, noMuts, noElems, putOuts, dropL, drop1, c_eqi, c_nei, c_eqs, at0, at1, at2, at3, at4, at5, decide_true, decide_false, callX_some, eq_self, ite_self]
      · rw [e1] at i1
        cases e2 : wordL b 9
        · rw [e2] at k1
          simp (implicitDefEqProofs := false) only [turnC, i1, m17, k1, gA, e1, e2, e_c, e_v, e_g, e_tup, e_lst, e_op, e_and, e_or, e_not, e_ite, e_chain, e_call, callX_pure, e_comp, es_nil, es_cons, eb_nil, eb_v, eb_c, ea_c, ef_c, eb_g, ea_g, ef_g, eb_tup, ea_tup, ef_tup, eb_lst, ea_lst, ef_lst, eb_op, ea_op, ef_op, eb_and, ea_and, ef_and, eb_or, ea_or, ef_or, eb_not, ea_not, ef_not, eb_ite, ea_ite, ef_ite, eb_chain, ea_chain, ef_chain, eb_call, ea_call, ef_call, eb_comp, ea_comp, ef_comp, eb_pop, ea_pop, ef_pop, ea_nil, ea_v, ea_io, ec_nil, ec_one, ep_nil, ep_cons, x_asgn, x_asgt, x_par, x_ex, x_retv, x_retN, x_ife, x_for, x_brk, x_cont, x_pass, x_append, x_setix, x_aug, xs_nil, xs_cons, th_nx, th_bk, th_ct, th_rt, as_bool, rd_val, rd_own, rd_lent, le_val, le_own, le_io, le_lent, le_lio, lx_val, lx_own, lx_io, li_own, li_io, se_val, se_own, se_lent, se_none, re_val, re_own, ap_own, ap_io, si_own, si_io, au_own, au_io, au_int, au_str, bt_n, bt_t, bts_nil, bts_cons, sv_nil, sv_cons, un_nil, un_cons, un_lent, un_lio, un_val, un_own, un_io, o_cmp, o_bin, o_bi, o_ix, o_sl0, o_sl1, o_sl2, o_sl3, o_revl, o_revt, o_neg, o_meth, bl_1, b_add, b_adds, b_addl, b_addt, b_sub, b_mul, b_fdiv, b_mod, b_pow, b_and, b_or, b_xor, c_lt, c_le, c_gt, c_ge, c_lts, c_les, c_gts, c_ges, c_in, c_nin, c_is_none, c_nis_none, i_int_none, i_bool_none, i_str_none, i_tuple_none, i_list_none, c_is_bool, c_nis_bool, i_int_bool, i_bool_bool, i_str_bool, i_tuple_bool, i_list_bool, c_is_int, c_nis_int, i_int_int, i_bool_int, i_str_int, i_tuple_int, i_list_int, c_is_str, c_nis_str, i_int_str, i_bool_str, i_str_str, i_tuple_str, i_list_str, c_is_list, c_nis_list, i_int_list, i_bool_list, i_str_list, i_tuple_list, i_list_list, c_is_tuple, c_nis_tuple, i_int_tuple, i_bool_tuple, i_str_tuple, i_tuple_tuple, i_list_tuple, c_isb, c_nisb, f_lenl, f_lent, f_lens, f_abs, f_int, f_intb, f_str, f_listl, f_listt, f_listf, f_tupl, f_tupt, f_sum, f_all, f_any, f_max2, f_min2, x_l, x_t, x_s, some_1, s_l, s_t, r_any, r_anyt, r_anys, r_rng1, r_rng2, r_zipl, r_zipt, r_enum, st_l, a0_nil, a0_cons, oo_nil, oo_f, oo_t, run_f, end_rt, end_nx, cs_call, cs_modes, cs_glob, Option.bind_some, Option.bind_none, Option.map_some, Option.map_none, List.getElem?_cons_zero, List.getElem?_cons_succ, List.set_cons_zero, List.set_cons_succ, List.cons_append, List.nil_append, List.append_nil, List.replicate, List.length_cons, List.length_nil, Bool.false_eq_true, if_true, if_false, Bool.not_true, Bool.not_false, reduceIte, reduceCtorEq, Nat.reduceAdd, Nat.reduceSub, Nat.reduceLT, wipeR, backR, okLent, nodupN, lentAt, List.all_nil, List.all_cons, List.any_nil, List.any_cons, List.contains_nil, Bool.and_true, Bool.true_and, Bool.and_false, Bool.false_and, Bool.or_true, Bool.true_or, Bool.or_false, Bool.false_or, plainAt, List.getD_cons_zero, List.getD_cons_succ, mutAt, augAt, noMut, noMuts, noElems, putOuts, dropL, drop1, c_eqi, c_nei, c_eqs, at0, at1, at2, at3, at4, at5, decide_true, decide_false, callX_some, eq_self, ite_self]
        · rw [e2] at k1
          cases b <;> simp only [wordL, Bool.false_eq_true] at e2
          rename_i k
          have e2' : wordL (.int k) 9 = true := e2
          cases e3 : decide (k = 0) <;> simp (implicitDefEqProofs := false) only [turnC, i1, m17, k1, gA, e1, e2', e3, e_c, e_v, e_g, e_tup, e_lst, e_op, e_and, e_or, e_not, e_ite, e_chain, e_call, callX_pure, e_comp, es_nil, es_cons, eb_nil, eb_v, eb_c, ea_c, ef_c, eb_g, ea_g, ef_g, eb_tup, ea_tup, ef_tup, eb_lst, ea_lst, ef_lst, eb_op, ea_op, ef_op, eb_and, ea_and, ef_and, eb_or, ea_or, ef_or, eb_not, ea_not, ef_not, eb_ite, ea_ite, ef_ite, eb_chain, ea_chain, ef_chain, eb_call, ea_call, ef_call, eb_comp, ea_comp, ef_comp, eb_pop, ea_pop, ef_pop, ea_nil, ea_v, ea_io, ec_nil, ec_one, ep_nil, ep_cons, x_asgn, x_asgt, x_par, x_ex, x_retv, x_retN, x_ife, x_for, x_brk, x_cont, x_pass, x_append, x_setix, x_aug, xs_nil, xs_cons, th_nx, th_bk, th_ct, th_rt, as_bool, rd_val, rd_own, rd_lent, le_val, le_own, le_io, le_lent, le_lio, lx_val, lx_own, lx_io, li_own, li_io, se_val, se_own, se_lent, se_none, re_val, re_own, ap_own, ap_io, si_own, si_io, au_own, au_io, au_int, au_str, bt_n, bt_t, bts_nil, bts_cons, sv_nil, sv_cons, un_nil, un_cons, un_lent, un_lio, un_val, un_own, un_io, o_cmp, o_bin, o_bi, o_ix, o_sl0, o_sl1, o_sl2, o_sl3, o_revl, o_revt, o_neg, o_meth, bl_1, b_add, b_adds, b_addl, b_addt, b_sub, b_mul, b_fdiv, b_mod, b_pow, b_and, b_or, b_xor, c_lt, c_le, c_gt, c_ge, c_lts, c_les, c_gts, c_ges, c_in, c_nin, c_is_none, c_nis_none, i_int_none, i_bool_none, i_str_none, i_tuple_none, i_list_none, c_is_bool, c_nis_bool, i_int_bool, i_bool_bool, i_str_bool, i_tuple_bool, i_list_bool, c_is_int, c_nis_int, i_int_int, i_bool_int, i_str_int, i_tuple_int, i_list_int, c_is_str, c_nis_str, i_int_str, i_bool_str, i_str_str, i_tuple_str, i_list_str, c_is_list, c_nis_list, i_int_list, i_bool_list, i_str_list, i_tuple_list, i_list_list, c_is_tuple, c_nis_tuple, i_int_tuple, i_bool_tuple, i_str_tuple, i_tuple_tuple, i_list_tuple, c_isb, c_nisb, f_lenl, f_lent, f_lens, f_abs, f_int, f_intb, f_str, f_listl, f_listt, f_listf, f_tupl, f_tupt, f_sum, f_all, f_any, f_max2, f_min2, x_l, x_t, x_s, some_1, s_l, s_t, r_any, r_anyt, r_anys, r_rng1, r_rng2, r_zipl, r_zipt, r_enum, st_l, a0_nil, a0_cons, oo_nil, oo_f, oo_t, run_f, end_rt, end_nx, cs_call, cs_modes, cs_glob, Option.bind_some, Option.bind_none, Option.map_some, Option.map_none, List.getElem?_cons_zero, List.getElem?_cons_succ, List.set_cons_zero, List.set_cons_succ, List.cons_append, List.nil_append, List.append_nil, List.replicate, List.length_cons, List.length_nil, Bool.false_eq_true, if_true, if_false, Bool.not_true, Bool.not_false, reduceIte, reduceCtorEq, Nat.reduceAdd, Nat.reduceSub, Nat.reduceLT, wipeR, backR, okLent, nodupN, lentAt, List.all_nil, List.all_cons, List.any_nil, List.any_cons, List.contains_nil, Bool.and_true, Bool.true_and, Bool.and_false, Bool.false_and, Bool.or_true, Bool.true_or, Bool.or_false, Bool.false_or, plainAt, List.getD_cons_zero, List.getD_cons_succ, mutAt, augAt, noMut, noMuts, noElems, putOuts, dropL, drop1, c_eqi, c_nei, c_eqs, at0, at1, at2, at3, at4, at5, decide_true, decide_false, callX_some, eq_self, ite_self]
    by_cases h4 : ds.all gA = true
    rotate_left
    · have h4 := eq_false_of_ne_true h4
      simp (implicitDefEqProofs := false) only [f18, fieldsL, c1, c2, hlim, ne, fil_nil, h3, h4, e_c, e_v, e_g, e_tup, e_lst, e_op, e_and, e_or, e_not, e_ite, e_chain, e_call, callX_pure, e_comp, es_nil, es_cons, eb_nil, eb_v, eb_c, ea_c, ef_c, eb_g, ea_g, ef_g, eb_tup, ea_tup, ef_tup, eb_lst, ea_lst, ef_lst, eb_op, ea_op, ef_op, eb_and, ea_and, ef_and, eb_or, ea_or, ef_or, eb_not, ea_not, ef_not, eb_ite, ea_ite, ef_ite, eb_chain, ea_chain, ef_chain, eb_call, ea_call, ef_call, eb_comp, ea_comp, ef_comp, eb_pop, ea_pop, ef_pop, ea_nil, ea_v, ea_io, ec_nil, ec_one, ep_nil, ep_cons, x_asgn, x_asgt, x_par, x_ex, x_retv, x_retN, x_ife, x_for, x_brk, x_cont, x_pass, x_append, x_setix, x_aug, xs_nil, xs_cons, th_nx, th_bk, th_ct, th_rt, as_bool, rd_val, rd_own, rd_lent, le_val, le_own, le_io, le_lent, le_lio, lx_val, lx_own, lx_io, li_own, li_io, se_val, se_own, se_lent, se_none, re_val, re_own, ap_own, ap_io, si_own, si_io, au_own, au_io, au_int, au_str, bt_n, bt_t, bts_nil, bts_cons, sv_nil, sv_cons, un_nil, un_cons, un_lent, un_lio, un_val, un_own, un_io, o_cmp, o_bin, o_bi, o_ix, o_sl0, o_sl1, o_sl2, o_sl3, o_revl, o_revt, o_neg, o_meth, bl_1, b_add, b_adds, b_addl, b_addt, b_sub, b_mul, b_fdiv, b_mod, b_pow, b_and, b_or, b_xor, c_lt, c_le, c_gt, c_ge, c_lts, c_les, c_gts, c_ges, c_in, c_nin, c_is_none, c_nis_none, i_int_none, i_bool_none, i_str_none, i_tuple_none, i_list_none, c_is_bool, c_nis_bool, i_int_bool, i_bool_bool, i_str_bool, i_tuple_bool, i_list_bool, c_is_int, c_nis_int, i_int_int, i_bool_int, i_str_int, i_tuple_int, i_list_int, c_is_str, c_nis_str, i_int_str, i_bool_str, i_str_str, i_tuple_str, i_list_str, c_is_list, c_nis_list, i_int_list, i_bool_list, i_str_list, i_tuple_list, i_list_list, c_is_tuple, c_nis_tuple, i_int_tuple, i_bool_tuple, i_str_tuple, i_tuple_tuple, i_list_tuple, c_isb, c_nisb, f_lenl, f_lent, f_lens, f_abs, f_int, f_intb, f_str, f_listl, f_listt, f_listf, f_tupl, f_tupt, f_sum, f_all, f_any, f_max2, f_min2, x_l, x_t, x_s, some_1, s_l, s_t, r_any, r_anyt, r_anys, r_rng1, r_rng2, r_zipl, r_zipt, r_enum, st_l, a0_nil, a0_cons, oo_nil, oo_f, oo_t, run_f, end_rt, end_nx, cs_call, cs_modes, cs_glob, Option.bind_some, Option.bind_none, Option.map_some, Option.map_none, List.getElem?_cons_zero, List.getElem?_cons_succ, List.set_cons_zero, List.set_cons_succ, List.cons_append, List.nil_append, List.append_nil, List.replicate, List.length_cons, List.length_nil, Bool.false_eq_true, if_true, if_false, Bool.not_true, Bool.not_false, reduceIte, reduceCtorEq, Nat.reduceAdd, Nat.reduceSub, Nat.reduceLT, wipeR, backR, okLent, nodupN, lentAt, List.all_nil, List.all_cons, List.any_nil, List.any_cons, List.contains_nil, Bool.and_true, Bool.true_and, Bool.and_false, Bool.false_and, Bool.or_true, Bool.true_or, Bool.or_false, Bool.false_or, plainAt, List.getD_cons_zero, List.getD_cons_succ, mutAt, augAt, noMut, noMuts, noElems, putOuts, dropL, drop1, c_eqi, c_nei, c_eqs, at0, at1, at2, at3, at4, at5, decide_true, decide_false, callX_some, eq_self, ite_self]
    have hx4 : ∀ x ∈ ds, ∃ a k c, x = .tuple [a, .int k, c] ∧ 1 ≤ k ∧ k < 9 ∧ inL a = true := fun x hx => gA_int (List.all_eq_true.mp h4 x hx)
    have c3 := compL_fil (f := turnC (theP.cs n) (.v 1) (.n 1) [(.not (.call 17 [(.op .ix [(.v 1), (.c (.int (2)))]), (.call 15 [(.op .ix [(.v 1), (.c (.int (1)))])])]))] [1]) (g := fun x => x) (p := fun x => !gB x) (ρ := [some (.val, .tuple ds), none, none, none]) (xs := ds) fun x hx => by
      obtain ⟨a, k, c, rfl, k1, k2, _⟩ := hx4 x hx
      have hm := oks_mem.mp (show okDs [a, .int k, c] = true from hd _ hx)
      have k4 := q15i (show 1 ≤ n by omega) k (by omega) (by omega)
      have k1 := q17 (show 1 ≤ n by omega) c (2 ^ k.toNat) (ok_dic _ (hm c (by simp)))
      cases e : wordL c (2 ^ k.toNat) <;> rw [e] at k1 <;> simp (implicitDefEqProofs := false) only [turnC, m15, m17, k4, k1, gB, e, e_c, e_v, e_g, e_tup, e_lst, e_op, e_and, e_or, e_not, e_ite, e_chain, e_call, callX_pure, e_comp, es_nil, es_cons, eb_nil, eb_v, eb_c, ea_c, ef_c, eb_g, ea_g, ef_g, eb_tup, ea_tup, ef_tup, eb_lst, ea_lst, ef_lst, eb_op, ea_op, ef_op, eb_and, ea_and, ef_and, eb_or, ea_or, ef_or, eb_not, ea_not, ef_not, eb_ite, ea_ite, ef_ite, eb_chain, ea_chain, ef_chain, eb_call, ea_call, ef_call, eb_comp, ea_comp, ef_comp, eb_pop, ea_pop, ef_pop, ea_nil, ea_v, ea_io, ec_nil, ec_one, ep_nil, ep_cons, x_asgn, x_asgt, x_par, x_ex, x_retv, x_retN, x_ife, x_for, x_brk, x_cont, x_pass, x_append, x_setix, x_aug, xs_nil, xs_cons, th_nx, th_bk, th_ct, th_rt, as_bool, rd_val, rd_own, rd_lent, le_val, le_own, le_io, le_lent, le_lio, lx_val, lx_own, lx_io, li_own, li_io, se_val, se_own, se_lent, se_none, re_val, re_own, ap_own, ap_io, si_own, si_io, au_own, au_io, au_int, au_str, bt_n, bt_t, bts_nil, bts_cons, sv_nil, sv_cons, un_nil, un_cons, un_lent, un_lio, un_val, un_own, un_io, o_cmp, o_bin, o_bi, o_ix, o_sl0, o_sl1, o_sl2, o_sl3, o_revl, o_revt, o_neg, o_meth, bl_1, b_add, b_adds, b_addl, b_addt, b_sub, b_mul, b_fdiv, b_mod, b_pow, b_and, b_or, b_xor, c_lt, c_le, c_gt, c_ge, c_lts, c_les, c_gts, c_ges, c_in, c_nin, c_is_none, c_nis_none, i_int_none, i_bool_none, i_str_none, i_tuple_none, i_list_none, c_is_bool, c_nis_bool, i_int_bool, i_bool_bool, i_str_bool, i_tuple_bool, i_list_bool, c_is_int, c_nis_int, i_int_int, i_bool_int, i_str_int, i_tuple_int, i_list_int, c_is_str, c_nis_str, i_int_str, i_bool_str, i_str_str, i_tuple_str, i_list_str, c_is_list, c_nis_list, i_int_list, i_bool_list, i_str_list, i_tuple_list, i_list_list, c_is_tuple, c_nis_tuple, i_int_tuple, i_bool_tuple, i_str_tuple, i_tuple_tuple, i_list_tuple, c_isb, c_nisb, f_lenl, f_lent, f_lens, f_abs, f_int, f_intb, f_str, f_listl, f_listt, f_listf, f_tupl, f_tupt, f_sum, f_all, f_any, f_max2, f_min2, x_l, x_t, x_s, some_1, s_l, s_t, r_any, r_anyt, r_anys, r_rng1, r_rng2, r_zipl, r_zipt, r_enum, st_l, a0_nil, a0_cons, oo_nil, oo_f, oo_t, run_f, end_rt, end_nx, cs_call, cs_modes, cs_glob, Option.bind_some, Option.bind_none, Option.map_some, Option.map_none, List.getElem?_cons_zero, List.getElem?_cons_succ, List.set_cons_zero, List.set_cons_succ, List.cons_append, List.nil_append, List.append_nil, List.replicate, List.length_cons, List.length_nil, Bool.false_eq_true, if_true, if_false, Bool.not_true, Bool.not_false, reduceIte, reduceCtorEq, Nat.reduceAdd, Nat.reduceSub, Nat.reduceLT, wipeR, backR, okLent, nodupN, lentAt, List.all_nil, List.all_cons, List.any_nil, List.any_cons, List.contains_nil, Bool.and_true, Bool.true_and, Bool.and_false, Bool.false_and, Bool.or_true, Bool.true_or, Bool.or_false, Bool.false_or, plainAt, List.getD_cons_zero, List.getD_cons_succ, mutAt, augAt, noMut, noMuts, noElems, putOuts, dropL, drop1, c_eqi, c_nei, c_eqs, at0, at1, at2, at3, at4, at5, decide_true, decide_false, callX_some, eq_self, ite_self]
    by_cases h5 : ds.all gB = true
    rotate_left
    · have h5 := eq_false_of_ne_true h5
      simp (implicitDefEqProofs := false) only [f18, fieldsL, c1, c2, c3, hlim, ne, fil_nil, h3, h4, h5, e_c, e_v, e_g, e_tup, e_lst, e_op, e_and, e_or, e_not, e_ite, e_chain, e_call, callX_pure, e_comp, es_nil, es_cons, eb_nil, eb_v, eb_c, ea_c, ef_c, eb_g, ea_g, ef_g, eb_tup, ea_tup, ef_tup, eb_lst, ea_lst, ef_lst, eb_op, ea_op, ef_op, eb_and, ea_and, ef_and, eb_or, ea_or, ef_or, eb_not, ea_not, ef_not, eb_ite, ea_ite, ef_ite, eb_chain, ea_chain, ef_chain, eb_call, ea_call, ef_call, eb_comp, ea_comp, ef_comp, eb_pop, ea_pop, ef_pop, ea_nil, ea_v, ea_io, ec_nil, ec_one, ep_nil, ep_cons, x_asgn, x_asgt, x_par, x_ex, x_retv, x_retN, x_ife, x_for, x_brk, x_cont, x_pass, x_append, x_setix, x_aug, xs_nil, xs_cons, th_nx, th_bk, th_ct, th_rt, as_bool, rd_val, rd_own, rd_lent, le_val, le_own, le_io, le_lent, le_lio, lx_val, lx_own, lx_io, li_own, li_io, se_val, se_own, se_lent, se_none, re_val, re_own, ap_own, ap_io, si_own, si_io, au_own, au_io, au_int, au_str, bt_n, bt_t, bts_nil, bts_cons, sv_nil, sv_cons, un_nil, un_cons, un_lent, un_lio, un_val, un_own, un_io, o_cmp, o_bin, o_bi, o_ix, o_sl0, o_sl1, o_sl2, o_sl3, o_revl, o_revt, o_neg, o_meth, bl_1, b_add, b_adds, b_addl, b_addt, b_sub, b_mul, b_fdiv, b_mod, b_pow, b_and, b_or, b_xor, c_lt, c_le, c_gt, c_ge, c_lts, c_les, c_gts, c_ges, c_in, c_nin, c_is_none, c_nis_none, i_int_none, i_bool_none, i_str_none, i_tuple_none, i_list_none, c_is_bool, c_nis_bool, i_int_bool, i_bool_bool, i_str_bool, i_tuple_bool, i_list_bool, c_is_int, c_nis_int, i_int_int, i_bool_int, i_str_int, i_tuple_int, i_list_int, c_is_str, c_nis_str, i_int_str, i_bool_str, i_str_str, i_tuple_str, i_list_str, c_is_list, c_nis_list, i_int_list, i_bool_list, i_str_list, i_tuple_list, i_list_list, c_is_tuple, c_nis_tuple, i_int_tuple, i_bool_tuple, i_str_tuple, i_tuple_tuple, i_list_tuple, c_isb, c_nisb, f_lenl, f_lent, f_lens, f_abs, f_int, f_intb, f_str, f_listl, f_listt, f_listf, f_tupl, f_tupt, f_sum, f_all, f_any, f_max2, f_min2, x_l, x_t, x_s, some_1, s_l, s_t, r_any, r_anyt, r_anys, r_rng1, r_rng2, r_zipl, r_zipt, r_enum, st_l, a0_nil, a0_cons, oo_nil, oo_f, oo_t, run_f, end_rt, end_nx, cs_call, cs_modes, cs_glob, Option.bind_some, Option.bind_none, Option.map_some, Option.map_none, List.getElem?_cons_zero, List.getElem?_cons_succ, List.set_cons_zero, List.set_cons_succ, List.cons_append, List.nil_append, List.append_nil, List.replicate, List.length_cons, List.length_nil, Bool.false_eq_true, if_true, if_false, Bool.not_true, Bool.not_false, reduceIte, reduceCtorEq, Nat.reduceAdd, Nat.reduceSub, Nat.reduceLT, wipeR, backR, okLent, nodupN, lentAt, List.all_nil, List.all_cons, List.any_nil, List.any_cons, List.contains_nil, Bool.and_true, Bool.true_and, Bool.and_false, Bool.false_and, Bool.or_true, Bool.true_or, Bool.or_false, Bool.false_or, plainAt, List.getD_cons_zero, List.getD_cons_succ, mutAt, augAt, noMut, noMuts, noElems, putOuts, dropL, drop1, c_eqi, c_nei, c_eqs, at0, at1, at2, at3, at4, at5, decide_true, decide_false, callX_some, eq_self, ite_self]
    have hx5 : ∀ x ∈ ds, ∃ s k c, x = .tuple [.str s, .int k, c] := fun x hx => by
      obtain ⟨a, k, c, rfl, k1, k2, i⟩ := hx4 x hx
      obtain ⟨s, rfl, _⟩ := inL_str i
      exact ⟨s, k, c, rfl⟩
    have c4 := compL_map (f := turnC (theP.cs n) (.op .ix [(.v 1), (.c (.int (0)))]) (.n 1) [] [1]) (g := fun x => .str (fN x)) (ρ := [some (.val, .tuple ds), none, none, none]) (xs := ds) fun x hx => by
      obtain ⟨s, k, c, rfl⟩ := hx5 x hx
      simp (implicitDefEqProofs := false) only [turnC, fN, e_c, e_v, e_g, e_tup, e_lst, e_op, e_and, e_or, e_not, e_ite, e_chain, e_call, callX_pure, e_comp, es_nil, es_cons, eb_nil, eb_v, eb_c, ea_c, ef_c, eb_g, ea_g, ef_g, eb_tup, ea_tup, ef_tup, eb_lst, ea_lst, ef_lst, eb_op, ea_op, ef_op, eb_and, ea_and, ef_and, eb_or, ea_or, ef_or, eb_not, ea_not, ef_not, eb_ite, ea_ite, ef_ite, eb_chain, ea_chain, ef_chain, eb_call, ea_call, ef_call, eb_comp, ea_comp, ef_comp, eb_pop, ea_pop, ef_pop, ea_nil, ea_v, ea_io, ec_nil, ec_one, ep_nil, ep_cons, x_asgn, x_asgt, x_par, x_ex, x_retv, x_retN, x_ife, x_for, x_brk, x_cont, x_pass, x_append, x_setix, x_aug, xs_nil, xs_cons, th_nx, th_bk, th_ct, th_rt, as_bool, rd_val, rd_own, rd_lent, le_val, le_own, le_io, le_lent, le_lio, lx_val, lx_own, lx_io, li_own, li_io, se_val, se_own, se_lent, se_none, re_val, re_own, ap_own, ap_io, si_own, si_io, au_own, au_io, au_int, au_str, bt_n, bt_t, bts_nil, bts_cons, sv_nil, sv_cons, un_nil, un_cons, un_lent, un_lio, un_val, un_own, un_io, o_cmp, o_bin, o_bi, o_ix, o_sl0, o_sl1, o_sl2, o_sl3, o_revl, o_revt, o_neg, o_meth, bl_1, b_add, b_adds, b_addl, b_addt, b_sub, b_mul, b_fdiv, b_mod, b_pow, b_and, b_or, b_xor, c_lt, c_le, c_gt, c_ge, c_lts, c_les, c_gts, c_ges, c_in, c_nin, c_is_none, c_nis_none, i_int_none, i_bool_none, i_str_none, i_tuple_none, i_list_none, c_is_bool, c_nis_bool, i_int_bool, i_bool_bool, i_str_bool, i_tuple_bool, i_list_bool, c_is_int, c_nis_int, i_int_int, i_bool_int, i_str_int, i_tuple_int, i_list_int, c_is_str, c_nis_str, i_int_str, i_bool_str, i_str_str, i_tuple_str, i_list_str, c_is_list, c_nis_list, i_int_list, i_bool_list, i_str_list, i_tuple_list, i_list_list, c_is_tuple, c_nis_tuple, i_int_tuple, i_bool_tuple, i_str_tuple, i_tuple_tuple, i_list_tuple, c_isb, c_nisb, f_lenl, f_lent, f_lens, f_abs, f_int, f_intb, f_str, f_listl, f_listt, f_listf, f_tupl, f_tupt, f_sum, f_all, f_any, f_max2, f_min2, x_l, x_t, x_s, some_1, s_l, s_t, r_any, r_anyt, r_anys, r_rng1, r_rng2, r_zipl, r_zipt, r_enum, st_l, a0_nil, a0_cons, oo_nil, oo_f, oo_t, run_f, end_rt, end_nx, cs_call, cs_modes, cs_glob, Option.bind_some, Option.bind_none, Option.map_some, Option.map_none, List.getElem?_cons_zero, List.getElem?_cons_succ, List.set_cons_zero, List.set_cons_succ, List.cons_append, List.nil_append, List.append_nil, List.replicate, List.length_cons, List.length_nil, Bool.false_eq_true, if_true, if_false, Bool.not_true, Bool.not_false, reduceIte, reduceCtorEq, Nat.reduceAdd, Nat.reduceSub, Nat.reduceLT, wipeR, backR, okLent, nodupN, lentAt, List.all_nil, List.all_cons, List.any_nil, List.any_cons, List.contains_nil, Bool.and_true, Bool.true_and, Bool.and_false, Bool.false_and, Bool.or_true, Bool.true_or, Bool.or_false, Bool.false_or, plainAt, List.getD_cons_zero, List.getD_cons_succ, mutAt, augAt, noMut, noMuts, noElems, putOuts, dropL, drop1, c_eqi, c_nei, c_eqs, at0, at1, at2, at3, at4, at5, decide_true, decide_false, callX_some, eq_self, ite_self]
    have em : ds.map (fun x => PyData.str (fN x)) = (ds.map fN).map PyData.str := by rw [List.map_map]; rfl
    rw [em] at c4
    have ll : (ds.map fN).length = ds.length := List.length_map _
    generalize hls : ds.map fN = ls at c4 ll
    have gt : ∀ (j : Nat), j < ls.length → ∀ i : Int, i = j → atI (ls.map PyData.str) i = some (.str (ls.getD j Str.empty)) := fun j hj i hi => by
      subst hi
      refine atI_nat ?_
      rw [List.getElem?_map, List.getElem?_eq_getElem hj, List.getD_eq_getElem?_getD, List.getElem?_eq_getElem hj]
      rfl
    have c5 := compL_fil (f := turnC (theP.cs n) (.v 3) (.n 3) [(.op (.cmp .ge) [(.op .ix [(.v 2), (.op (.bin .sub) [(.v 3), (.c (.int (1)))])]), (.op .ix [(.v 2), (.v 3)])])] [3]) (g := fun x => x) (p := geG ls) (ρ := [some (.val, .tuple ds), none, some (.own, .list (ls.map PyData.str)), none]) (xs := rngF 1 (ls.length - 1)) fun x hx => by
      obtain ⟨i, rfl, i1, i2⟩ := rng_mem hx
      have a1 := gt (i - 1).toNat (by omega) (i - 1) (by omega)
      have a2 := gt i.toNat (by omega) i (by omega)
      cases e : geG ls (.int i)
      · have e' : (!decide ((ls.getD (i - 1).toNat Str.empty).cps.toList < (ls.getD i.toNat Str.empty).cps.toList)) = false := e
        simp (implicitDefEqProofs := false) only [turnC, a1, a2, e, e', e_c, e_v, e_g, e_tup, e_lst, e_op, e_and, e_or, e_not, e_ite, e_chain, e_call, callX_pure, e_comp, es_nil, es_cons, eb_nil, eb_v, eb_c, ea_c, ef_c, eb_g, ea_g, ef_g, eb_tup, ea_tup, ef_tup, eb_lst, ea_lst, ef_lst, eb_op, ea_op, ef_op, eb_and, ea_and, ef_and, eb_or, ea_or, ef_or, eb_not, ea_not, ef_not, eb_ite, ea_ite, ef_ite, eb_chain, ea_chain, ef_chain, eb_call, ea_call, ef_call, eb_comp, ea_comp, ef_comp, eb_pop, ea_pop, ef_pop, ea_nil, ea_v, ea_io, ec_nil, ec_one, ep_nil, ep_cons, x_asgn, x_asgt, x_par, x_ex, x_retv, x_retN, x_ife, x_for, x_brk, x_cont, x_pass, x_append, x_setix, x_aug, xs_nil, xs_cons, th_nx, th_bk, th_ct, th_rt, as_bool, rd_val, rd_own, rd_lent, le_val, le_own, le_io, le_lent, le_lio, lx_val, lx_own, lx_io, li_own, li_io, se_val, se_own, se_lent, se_none, re_val, re_own, ap_own, ap_io, si_own, si_io, au_own, au_io, au_int, au_str, bt_n, bt_t, bts_nil, bts_cons, sv_nil, sv_cons, un_nil, un_cons, un_lent, un_lio, un_val, un_own, un_io, o_cmp, o_bin, o_bi, o_ix, o_sl0, o_sl1, o_sl2, o_sl3, o_revl, o_revt, o_neg, o_meth, bl_1, b_add, b_adds, b_addl, b_addt, b_sub, b_mul, b_fdiv, b_mod, b_pow, b_and, b_or, b_xor, c_lt, c_le, c_gt, c_ge, c_lts, c_les, c_gts, c_ges, c_in, c_nin, c_is_none, c_nis_none, i_int_none, i_bool_none, i_str_none, i_tuple_none, i_list_none, c_is_bool, c_nis_bool, i_int_bool, i_bool_bool, i_str_bool, i_tuple_bool, i_list_bool, c_is_int, c_nis_int, i_int_int, i_bool_int, i_str_int, i_tuple_int, i_list_int, c_is_str, c_nis_str, i_int_str, i_bool_str, i_str_str, i_tuple_str, i_list_str, c_is_list, c_nis_list, i_int_list, i_bool_list, i_str_list, i_tuple_list, i_list_list, c_is_tuple, c_nis_tuple, i_int_tuple, i_bool_tuple, i_str_tuple, i_tuple_tuple, i_list_tuple, c_isb, c_nisb, f_lenl, f_lent, f_lens, f_abs, f_int, f_intb, f_str, f_listl, f_listt, f_listf, f_tupl, f_tupt, f_sum, f_all, f_any, f_max2, f_min2, x_l, x_t, x_s, some_1, s_l, s_t, r_any, r_anyt, r_anys, r_rng1, r_rng2, r_zipl, r_zipt, r_enum, st_l, a0_nil, a0_cons, oo_nil, oo_f, oo_t, run_f, end_rt, end_nx, cs_call, cs_modes, cs_glob, Option.bind_some, Option.bind_none, Option.map_some, Option.map_none, List.getElem?_cons_zero, List.getElem?_cons_succ, List.set_cons_zero, List.set_cons_succ, List.cons_append, List.nil_append, List.append_nil, List.replicate, List.length_cons, List.length_nil, Bool.false_eq_true, if_true, if_false, Bool.not_true, Bool.not_false, reduceIte, reduceCtorEq, Nat.reduceAdd, Nat.reduceSub, Nat.reduceLT, wipeR, backR, okLent, nodupN, lentAt, List.all_nil, List.all_cons, List.any_nil, List.any_cons, List.contains_nil, Bool.and_true, Bool.true_and, Bool.and_false, Bool.false_and, Bool.or_true, Bool.true_or, Bool.or_false, Bool.false_or, plainAt, List.getD_cons_zero, List.getD_cons_succ, mutAt, augAt, noMut, noMuts, noElems, putOuts, dropL, drop1, c_eqi, c_nei, c_eqs, at0, at1, at2, at3, at4, at5, decide_true, decide_false, callX_some, eq_self, ite_self]
      · have e' : (!decide ((ls.getD (i - 1).toNat Str.empty).cps.toList < (ls.getD i.toNat Str.empty).cps.toList)) = true := e
        simp (implicitDefEqProofs := false) only [turnC, a1, a2, e, e', e_c, e_v, e_g, e_tup, e_lst, e_op, e_and, e_or, e_not, e_ite, e_chain, e_call, callX_pure, e_comp, es_nil, es_cons, eb_nil, eb_v, eb_c, ea_c, ef_c, eb_g, ea_g, ef_g, eb_tup, ea_tup, ef_tup, eb_lst, ea_lst, ef_lst, eb_op, ea_op, ef_op, eb_and, ea_and, ef_and, eb_or, ea_or, ef_or, eb_not, ea_not, ef_not, eb_ite, ea_ite, ef_ite, eb_chain, ea_chain, ef_chain, eb_call, ea_call, ef_call, eb_comp, ea_comp, ef_comp, eb_pop, ea_pop, ef_pop, ea_nil, ea_v, ea_io, ec_nil, ec_one, ep_nil, ep_cons, x_asgn, x_asgt, x_par, x_ex, x_retv, x_retN, x_ife, x_for, x_brk, x_cont, x_pass, x_append, x_setix, x_aug, xs_nil, xs_cons, th_nx, th_bk, th_ct, th_rt, as_bool, rd_val, rd_own, rd_lent, le_val, le_own, le_io, le_lent, le_lio, lx_val, lx_own, lx_io, li_own, li_io, se_val, se_own, se_lent, se_none, re_val, re_own, ap_own, ap_io, si_own, si_io, au_own, au_io, au_int, au_str, bt_n, bt_t, bts_nil, bts_cons, sv_nil, sv_cons, un_nil, un_cons, un_lent, un_lio, un_val, un_own, un_io, o_cmp, o_bin, o_bi, o_ix, o_sl0, o_sl1, o_sl2, o_sl3, o_revl, o_revt, o_neg, o_meth, bl_1, b_add, b_adds, b_addl, b_addt, b_sub, b_mul, b_fdiv, b_mod, b_pow, b_and, b_or, b_xor, c_lt, c_le, c_gt, c_ge, c_lts, c_les, c_gts, c_ges, c_in, c_nin, c_is_none, c_nis_none, i_int_none, i_bool_none, i_str_none, i_tuple_none, i_list_none, c_is_bool, c_nis_bool, i_int_bool, i_bool_bool, i_str_bool, i_tuple_bool, i_list_bool, c_is_int, c_nis_int, i_int_int, i_bool_int, i_str_int, i_tuple_int, i_list_int, c_is_str, c_nis_str, i_int_str, i_bool_str, i_str_str, i_tuple_str, i_list_str, c_is_list, c_nis_list, i_int_list, i_bool_list, i_str_list, i_tuple_list, i_list_list, c_is_tuple, c_nis_tuple, i_int_tuple, i_bool_tuple, i_str_tuple, i_tuple_tuple, i_list_tuple, c_isb, c_nisb, f_lenl, f_lent, f_lens, f_abs, f_int, f_intb, f_str, f_listl, f_listt, f_listf, f_tupl, f_tupt, f_sum, f_all, f_any, f_max2, f_min2, x_l, x_t, x_s, some_1, s_l, s_t, r_any, r_anyt, r_anys, r_rng1, r_rng2, r_zipl, r_zipt, r_enum, st_l, a0_nil, a0_cons, oo_nil, oo_f, oo_t, run_f, end_rt, end_nx, cs_call, cs_modes, cs_glob, Option.bind_some, Option.bind_none, Option.map_some, Option.map_none, List.getElem?_cons_zero, List.getElem?_cons_succ, List.set_cons_zero, List.set_cons_succ, List.cons_append, List.nil_append, List.append_nil, List.replicate, List.length_cons, List.length_nil, Bool.false_eq_true, if_true, if_false, Bool.not_true, Bool.not_false, reduceIte, reduceCtorEq, Nat.reduceAdd, Nat.reduceSub, Nat.reduceLT, wipeR, backR, okLent, nodupN, lentAt, List.all_nil, List.all_cons, List.any_nil, List.any_cons, List.contains_nil, Bool.and_true, Bool.true_and, Bool.and_false, Bool.false_and, Bool.or_true, Bool.true_or, Bool.or_false, Bool.false_or, plainAt, List.getD_cons_zero, List.getD_cons_succ, mutAt, augAt, noMut, noMuts, noElems, putOuts, dropL, drop1, c_eqi, c_nei, c_eqs, at0, at1, at2, at3, at4, at5, decide_true, decide_false, callX_some, eq_self, ite_self]
    have l5 : (((rngF 1 (ls.length - 1)).filter (geG ls)).map fun x => x).length ≤ lim := by
      rw [List.length_map]
      refine Nat.le_trans (List.length_filter_le _ _) ?_
      rw [rngF_len]
      have := hl ds rfl
      exact lim_of (by omega)
    have e5 : cmpF .eq (.list (((rngF 1 (ls.length - 1)).filter (geG ls)).map fun x => x)) (.list []) = some (rise ls) := by
      rw [c_eq_nil, List.map_id', rise_rng]
      rw [List.map_id']
      exact noDics_mem.mpr fun x hx => by
        obtain ⟨i, rfl, _⟩ := rng_mem (List.mem_filter.mp hx).1
        rfl
    have hls' := hl ds rfl
    have a0 : (ls.map PyData.str).length = ls.length := List.length_map _
    have a1 : decide (((ls.map PyData.str).length : Int) < 2 ^ 62) = true := decide_eq_true (by omega)
    have a2 : decide (-(2 ^ 62) ≤ ((ls.map PyData.str).length : Int)) = true := decide_eq_true (by omega)
    have a3 : decide ((1 : Int) < 2 ^ 62) = true := by decide
    have a4 : decide (-(2 ^ 62) ≤ (1 : Int)) = true := by decide
    have a5 : (((ls.map PyData.str).length : Int) - 1).toNat = ls.length - 1 := by omega
    have l4 : (ls.map PyData.str).length ≤ lim := by
      rw [List.length_map, ll]
      exact hlim'
    simp (implicitDefEqProofs := false) only [f18, fieldsL, c1, c2, c3, c4, c5, hls, a1, a2, a3, a4, a5, l4, l5, e5, hlim, hlim', ne, fil_nil, h3, h4, h5, e_c, e_v, e_g, e_tup, e_lst, e_op, e_and, e_or, e_not, e_ite, e_chain, e_call, callX_pure, e_comp, es_nil, es_cons, eb_nil, eb_v, eb_c, ea_c, ef_c, eb_g, ea_g, ef_g, eb_tup, ea_tup, ef_tup, eb_lst, ea_lst, ef_lst, eb_op, ea_op, ef_op, eb_and, ea_and, ef_and, eb_or, ea_or, ef_or, eb_not, ea_not, ef_not, eb_ite, ea_ite, ef_ite, eb_chain, ea_chain, ef_chain, eb_call, ea_call, ef_call, eb_comp, ea_comp, ef_comp, eb_pop, ea_pop, ef_pop, ea_nil, ea_v, ea_io, ec_nil, ec_one, ep_nil, ep_cons, x_asgn, x_asgt, x_par, x_ex, x_retv, x_retN, x_ife, x_for, x_brk, x_cont, x_pass, x_append, x_setix, x_aug, xs_nil, xs_cons, th_nx, th_bk, th_ct, th_rt, as_bool, rd_val, rd_own, rd_lent, le_val, le_own, le_io, le_lent, le_lio, lx_val, lx_own, lx_io, li_own, li_io, se_val, se_own, se_lent, se_none, re_val, re_own, ap_own, ap_io, si_own, si_io, au_own, au_io, au_int, au_str, bt_n, bt_t, bts_nil, bts_cons, sv_nil, sv_cons, un_nil, un_cons, un_lent, un_lio, un_val, un_own, un_io, o_cmp, o_bin, o_bi, o_ix, o_sl0, o_sl1, o_sl2, o_sl3, o_revl, o_revt, o_neg, o_meth, bl_1, b_add, b_adds, b_addl, b_addt, b_sub, b_mul, b_fdiv, b_mod, b_pow, b_and, b_or, b_xor, c_lt, c_le, c_gt, c_ge, c_lts, c_les, c_gts, c_ges, c_in, c_nin, c_is_none, c_nis_none, i_int_none, i_bool_none, i_str_none, i_tuple_none, i_list_none, c_is_bool, c_nis_bool, i_int_bool, i_bool_bool, i_str_bool, i_tuple_bool, i_list_bool, c_is_int, c_nis_int, i_int_int, i_bool_int, i_str_int, i_tuple_int, i_list_int, c_is_str, c_nis_str, i_int_str, i_bool_str, i_str_str, i_tuple_str, i_list_str, c_is_list, c_nis_list, i_int_list, i_bool_list, i_str_list, i_tuple_list, i_list_list, c_is_tuple, c_nis_tuple, i_int_tuple, i_bool_tuple, i_str_tuple, i_tuple_tuple, i_list_tuple, c_isb, c_nisb, f_lenl, f_lent, f_lens, f_abs, f_int, f_intb, f_str, f_listl, f_listt, f_listf, f_tupl, f_tupt, f_sum, f_all, f_any, f_max2, f_min2, x_l, x_t, x_s, some_1, s_l, s_t, r_any, r_anyt, r_anys, r_rng1, r_rng2, r_zipl, r_zipt, r_enum, st_l, a0_nil, a0_cons, oo_nil, oo_f, oo_t, run_f, end_rt, end_nx, cs_call, cs_modes, cs_glob, Option.bind_some, Option.bind_none, Option.map_some, Option.map_none, List.getElem?_cons_zero, List.getElem?_cons_succ, List.set_cons_zero, List.set_cons_succ, List.cons_append, List.nil_append, List.append_nil, List.replicate, List.length_cons, List.length_nil, Bool.false_eq_true, if_true, if_false, Bool.not_true, Bool.not_false, reduceIte, reduceCtorEq, Nat.reduceAdd, Nat.reduceSub, Nat.reduceLT, wipeR, backR, okLent, nodupN, lentAt, List.all_nil, List.all_cons, List.any_nil, List.any_cons, List.contains_nil, Bool.and_true, Bool.true_and, Bool.and_false, Bool.false_and, Bool.or_true, Bool.true_or, Bool.or_false, Bool.false_or, plainAt, List.getD_cons_zero, List.getD_cons_succ, mutAt, augAt, noMut, noMuts, noElems, putOuts, dropL, drop1, c_eqi, c_nei, c_eqs, at0, at1, at2, at3, at4, at5, decide_true, decide_false, callX_some, eq_self, ite_self]
  all_goals simp (implicitDefEqProofs := false) only [f18, fieldsL, e_c, e_v, e_g, e_tup, e_lst, e_op, e_and, e_or, e_not, e_ite, e_chain, e_call, callX_pure, e_comp, es_nil, es_cons, eb_nil, eb_v, eb_c, ea_c, ef_c, eb_g, ea_g, ef_g, eb_tup, ea_tup, ef_tup, eb_lst, ea_lst, ef_lst, eb_op, ea_op, ef_op, eb_and, ea_and, ef_and, eb_or, ea_or, ef_or, eb_not, ea_not, ef_not, eb_ite, ea_ite, ef_ite, eb_chain, ea_chain, ef_chain, eb_call, ea_call, ef_call, eb_comp, ea_comp, ef_comp, eb_pop, ea_pop, ef_pop, ea_nil, ea_v, ea_io, ec_nil, ec_one, ep_nil, ep_cons, x_asgn, x_asgt, x_par, x_ex, x_retv, x_retN, x_ife, x_for, x_brk, x_cont, x_pass, x_append, x_setix, x_aug, xs_nil, xs_cons, th_nx, th_bk, th_ct, th_rt, as_bool, rd_val, rd_own, rd_lent, le_val, le_own, le_io, le_lent, le_lio, lx_val, lx_own, lx_io, li_own, li_io, se_val, se_own, se_lent, se_none, re_val, re_own, ap_own, ap_io, si_own, si_io, au_own, au_io, au_int, au_str, bt_n, bt_t, bts_nil, bts_cons, sv_nil, sv_cons, un_nil, un_cons, un_lent, un_lio, un_val, un_own, un_io, o_cmp, o_bin, o_bi, o_ix, o_sl0, o_sl1, o_sl2, o_sl3, o_revl, o_revt, o_neg, o_meth, bl_1, b_add, b_adds, b_addl, b_addt, b_sub, b_mul, b_fdiv, b_mod, b_pow, b_and, b_or, b_xor, c_lt, c_le, c_gt, c_ge, c_lts, c_les, c_gts, c_ges, c_in, c_nin, c_is_none, c_nis_none, i_int_none, i_bool_none, i_str_none, i_tuple_none, i_list_none, c_is_bool, c_nis_bool, i_int_bool, i_bool_bool, i_str_bool, i_tuple_bool, i_list_bool, c_is_int, c_nis_int, i_int_int, i_bool_int, i_str_int, i_tuple_int, i_list_int, c_is_str, c_nis_str, i_int_str, i_bool_str, i_str_str, i_tuple_str, i_list_str, c_is_list, c_nis_list, i_int_list, i_bool_list, i_str_list, i_tuple_list, i_list_list, c_is_tuple, c_nis_tuple, i_int_tuple, i_bool_tuple, i_str_tuple, i_tuple_tuple, i_list_tuple, c_isb, c_nisb, f_lenl, f_lent, f_lens, f_abs, f_int, f_intb, f_str, f_listl, f_listt, f_listf, f_tupl, f_tupt, f_sum, f_all, f_any, f_max2, f_min2, x_l, x_t, x_s, some_1, s_l, s_t, r_any, r_anyt, r_anys, r_rng1, r_rng2, r_zipl, r_zipt, r_enum, st_l, a0_nil, a0_cons, oo_nil, oo_f, oo_t, run_f, end_rt, end_nx, cs_call, cs_modes, cs_glob, Option.bind_some, Option.bind_none, Option.map_some, Option.map_none, List.getElem?_cons_zero, List.getElem?_cons_succ, List.set_cons_zero, List.set_cons_succ, List.cons_append, List.nil_append, List.append_nil, List.replicate, List.length_cons, List.length_nil, Bool.false_eq_true, if_true, if_false, Bool.not_true, Bool.not_false, reduceIte, reduceCtorEq, Nat.reduceAdd, Nat.reduceSub, Nat.reduceLT, wipeR, backR, okLent, nodupN, lentAt, List.all_nil, List.all_cons, List.any_nil, List.any_cons, List.contains_nil, Bool.and_true, Bool.true_and, Bool.and_false, Bool.false_and, Bool.or_true, Bool.true_or, Bool.or_false, Bool.false_or, plainAt, List.getD_cons_zero, List.getD_cons_succ, mutAt, augAt, noMut, noMuts, noElems, putOuts, dropL, drop1, c_eqi, c_nei, c_eqs, at0, at1, at2, at3, at4, at5, decide_true, decide_false, callX_some, eq_self, ite_self]
def code (s : Str) : Nat := s.cps.getD 0 0
theorem lt_code {s t : Str} (hs : s.length = 1) (ht : t.length = 1) (h : s.cps.toList < t.cps.toList) : code s < code t := by
  rw [str1 hs, str1 ht] at h
  have h : [code s] < [code t] := h
  rcases List.cons_lt_cons_iff.mp h with h | ⟨_, h⟩
  · exact h
  · exact absurd h (List.lt_irrefl _)
theorem rise_len : ∀ (ls : List Str) (a : Str), (∀ s ∈ a :: ls, s.length = 1 ∧ code s ≤ 102) → rise (a :: ls) = true → (a :: ls).length + code a ≤ 103
  | [], a, h, _ => by
    have := h a (by simp)
    simp
    omega
  | b :: r, a, h, hr => by
    have hr' : decide (a.cps.toList < b.cps.toList) = true ∧ rise (b :: r) = true := Bool.and_eq_true_iff.mp hr
    have ih := rise_len r b (fun s m => h s (List.mem_cons_of_mem _ m)) hr'.2
    have lt := lt_code (h a (by simp)).1 (h b (by simp)).1 (of_decide_eq_true hr'.1)
    simp only [List.length_cons] at ih ⊢
    omega
theorem fields_eq (v : D) : fieldsL v = fitsF v := by
  cases v with
  | tuple ds =>
    have e1 : ds.all gA = ds.all fA := by congr 1; funext x; exact gA_fA x
    have e2 : ds.all gB = ds.all fB := by congr 1; funext x; exact gB_fB x
    simp only [fieldsL, fitsF, e1, e2]
    cases h : (ds.all (fun x => isT x 3 3) && (ds.all fA && (ds.all fB && rise (ds.map fN))))
    · rw [Bool.and_false]
    · simp only [Bool.and_eq_true] at h
      obtain ⟨h1, h2, h3, h4⟩ := h
      have l : ds.length ≤ 6 := by
        have hm : ∀ s ∈ ds.map fN, s.length = 1 ∧ code s ≤ 102 ∧ 97 ≤ code s := fun s hs => by
          obtain ⟨x, hx, rfl⟩ := List.mem_map.mp hs
          have f := List.all_eq_true.mp h2 x hx
          rw [← gA_fA] at f
          obtain ⟨a, k, c, rfl, _, _, i⟩ := gA_int f
          obtain ⟨s, rfl, l1, l2⟩ := inL_str i
          refine ⟨l1, ?_⟩
          have e : (Str.ofString "abcdef").cps.toList = [97, 98, 99, 100, 101, 102] := by decide +kernel
          rw [e] at l2
          have l2 : code s ∈ [97, 98, 99, 100, 101, 102] := l2
          simp only [List.mem_cons, List.not_mem_nil, or_false] at l2
          show code s ≤ 102 ∧ 97 ≤ code s
          omega
        cases e : ds.map fN with
        | nil => rw [List.map_eq_nil_iff.mp e]; decide
        | cons a r =>
          rw [e] at hm h4
          have := rise_len r a (fun s m => ⟨(hm s m).1, (hm s m).2.1⟩) h4
          have l : ds.length = (a :: r).length := by rw [← e, List.length_map]
          have := (hm a (by simp)).2.2
          omega
      rw [decide_eq_true l, Bool.true_and]
  | _ => rfl
/-! ### told = due -/
theorem q14 {m : Nat} (hm : 1 ≤ m) (a b : Bool) : theP.run m 14 [.bool a, .bool b] = some ((.bool (decide (a = b)), false), []) := by
  obtain ⟨n, rfl⟩ : ∃ n, m = n + 1 := ⟨m - 1, by omega⟩
  rw [run_eq rfl]
  cases b <;> cases a <;> simp (implicitDefEqProofs := false) only [f14, e_c, e_v, e_g, e_tup, e_lst, e_op, e_and, e_or, e_not, e_ite, e_chain, e_call, callX_pure, e_comp, es_nil, es_cons, eb_nil, eb_v, eb_c, ea_c, ef_c, eb_g, ea_g, ef_g, eb_tup, ea_tup, ef_tup, eb_lst, ea_lst, ef_lst, eb_op, ea_op, ef_op, eb_and, ea_and, ef_and, eb_or, ea_or, ef_or, eb_not, ea_not, ef_not, eb_ite, ea_ite, ef_ite, eb_chain, ea_chain, ef_chain, eb_call, ea_call, ef_call, eb_comp, ea_comp, ef_comp, eb_pop, ea_pop, ef_pop, ea_nil, ea_v, ea_io, ec_nil, ec_one, ep_nil, ep_cons, x_asgn, x_asgt, x_par, x_ex, x_retv, x_retN, x_ife, x_for, x_brk, x_cont, x_pass, x_append, x_setix, x_aug, xs_nil, xs_cons, th_nx, th_bk, th_ct, th_rt, as_bool, rd_val, rd_own, rd_lent, le_val, le_own, le_io, le_lent, le_lio, lx_val, lx_own, lx_io, li_own, li_io, se_val, se_own, se_lent, se_none, re_val, re_own, ap_own, ap_io, si_own, si_io, au_own, au_io, au_int, au_str, bt_n, bt_t, bts_nil, bts_cons, sv_nil, sv_cons, un_nil, un_cons, un_lent, un_lio, un_val, un_own, un_io, o_cmp, o_bin, o_bi, o_ix, o_sl0, o_sl1, o_sl2, o_sl3, o_revl, o_revt, o_neg, o_meth, bl_1, b_add, b_adds, b_addl, b_addt, b_sub, b_mul, b_fdiv, b_mod, b_pow, b_and, b_or, b_xor, c_lt, c_le, c_gt, c_ge, c_lts, c_les, c_gts, c_ges, c_in, c_nin, c_is_none, c_nis_none, i_int_none, i_bool_none, i_str_none, i_tuple_none, i_list_none, c_is_bool, c_nis_bool, i_int_bool, i_bool_bool, i_str_bool, i_tuple_bool, i_list_bool, c_is_int, c_nis_int, i_int_int, i_bool_int, i_str_int, i_tuple_int, i_list_int, c_is_str, c_nis_str, i_int_str, i_bool_str, i_str_str, i_tuple_str, i_list_str, c_is_list, c_nis_list, i_int_list, i_bool_list, i_str_list, i_tuple_list, i_list_list, c_is_tuple, c_nis_tuple, i_int_tuple, i_bool_tuple, i_str_tuple, i_tuple_tuple, i_list_tuple, c_isb, c_nisb, f_lenl, f_lent, f_lens, f_abs, f_int, f_intb, f_str, f_listl, f_listt, f_listf, f_tupl, f_tupt, f_sum, f_all, f_any, f_max2, f_min2, x_l, x_t, x_s, some_1, s_l, s_t, r_any, r_anyt, r_anys, r_rng1, r_rng2, r_zipl, r_zipt, r_enum, st_l, a0_nil, a0_cons, oo_nil, oo_f, oo_t, run_f, end_rt, end_nx, cs_call, cs_modes, cs_glob, Option.bind_some, Option.bind_none, Option.map_some, Option.map_none, List.getElem?_cons_zero, List.getElem?_cons_succ, List.set_cons_zero, List.set_cons_succ, List.cons_append, List.nil_append, List.append_nil, List.replicate, List.length_cons, List.length_nil, Bool.false_eq_true, if_true, if_false, Bool.not_true, Bool.not_false, reduceIte, reduceCtorEq, Nat.reduceAdd, Nat.reduceSub, Nat.reduceLT, wipeR, backR, okLent, nodupN, lentAt, List.all_nil, List.all_cons, List.any_nil, List.any_cons, List.contains_nil, Bool.and_true, Bool.true_and, Bool.and_false, Bool.false_and, Bool.or_true, Bool.true_or, Bool.or_false, Bool.false_or, plainAt, List.getD_cons_zero, List.getD_cons_succ, mutAt, augAt, noMut, noMuts, noElems, putOuts, dropL, drop1, c_eqi, c_nei, c_eqs, at0, at1, at2, at3, at4, at5, decide_true, decide_false, callX_some, eq_self, ite_self] <;> rfl
/-! ### the law's words of chance -/
def rollV (c0 c1 many : Int) : Int := if 0 < c0 then c0 % many else ((c1 * 31051 + 8053) % 2147483549 * ((c1 * 31051 + 8053) % 2147483549 + 313)) % 2147483059 / 829 % many
def roll0 (c0 c1 many : Int) : Int := if 0 < c0 then c0 / many else c0
def roll1 (c0 c1 : Int) : Int := if 0 < c0 then c1 else (c1 * 31051 + 8053) % 2147483549
theorem rollV_lt {c0 c1 many : Int} (h : 0 < many) : 0 ≤ rollV c0 c1 many ∧ rollV c0 c1 many < many := by
  unfold rollV
  split
  · exact ⟨Int.emod_nonneg _ (by omega), Int.emod_lt_of_pos _ h⟩
  · exact ⟨Int.emod_nonneg _ (by omega), Int.emod_lt_of_pos _ h⟩
theorem ix20 : ixN 2 0 = some 0 := rfl
theorem ix21 : ixN 2 1 = some 1 := rfl
theorem q12 {m : Nat} (hm : 1 ≤ m) (c0 c1 many : Int) (h0 : 0 < many) (h1 : many < 1073741824) : theP.run m 12 [.list [.int c0, .int c1], .int many] = some ((.int (rollV c0 c1 many), false), [.list [.int (roll0 c0 c1 many), .int (roll1 c0 c1)]]) := by
  obtain ⟨n, rfl⟩ : ∃ n, m = n + 1 := ⟨m - 1, by omega⟩
  rw [run_eq rfl]
  have d0 := decide_eq_true h0
  have d1 := decide_eq_true h1
  by_cases hc : 0 < c0
  · have e := decide_eq_true hc
    simp (implicitDefEqProofs := false) only [f12, rollV, roll0, roll1, hc, e, h0, d0, d1, ix20, ix21, e_c, e_v, e_g, e_tup, e_lst, e_op, e_and, e_or, e_not, e_ite, e_chain, e_call, callX_pure, e_comp, es_nil, es_cons, eb_nil, eb_v, eb_c, ea_c, ef_c, eb_g, ea_g, ef_g, eb_tup, ea_tup, ef_tup, eb_lst, ea_lst, ef_lst, eb_op, ea_op, ef_op, eb_and, ea_and, ef_and, eb_or, ea_or, ef_or, eb_not, ea_not, ef_not, eb_ite, ea_ite, ef_ite, eb_chain, ea_chain, ef_chain, eb_call, ea_call, ef_call, eb_comp, ea_comp, ef_comp, eb_pop, ea_pop, ef_pop, ea_nil, ea_v, ea_io, ec_nil, ec_one, ep_nil, ep_cons, x_asgn, x_asgt, x_par, x_ex, x_retv, x_retN, x_ife, x_for, x_brk, x_cont, x_pass, x_append, x_setix, x_aug, xs_nil, xs_cons, th_nx, th_bk, th_ct, th_rt, as_bool, rd_val, rd_own, rd_lent, le_val, le_own, le_io, le_lent, le_lio, lx_val, lx_own, lx_io, li_own, li_io, se_val, se_own, se_lent, se_none, re_val, re_own, ap_own, ap_io, si_own, si_io, au_own, au_io, au_int, au_str, bt_n, bt_t, bts_nil, bts_cons, sv_nil, sv_cons, un_nil, un_cons, un_lent, un_lio, un_val, un_own, un_io, o_cmp, o_bin, o_bi, o_ix, o_sl0, o_sl1, o_sl2, o_sl3, o_revl, o_revt, o_neg, o_meth, bl_1, b_add, b_adds, b_addl, b_addt, b_sub, b_mul, b_fdiv, b_mod, b_pow, b_and, b_or, b_xor, c_lt, c_le, c_gt, c_ge, c_lts, c_les, c_gts, c_ges, c_in, c_nin, c_is_none, c_nis_none, i_int_none, i_bool_none, i_str_none, i_tuple_none, i_list_none, c_is_bool, c_nis_bool, i_int_bool, i_bool_bool, i_str_bool, i_tuple_bool, i_list_bool, c_is_int, c_nis_int, i_int_int, i_bool_int, i_str_int, i_tuple_int, i_list_int, c_is_str, c_nis_str, i_int_str, i_bool_str, i_str_str, i_tuple_str, i_list_str, c_is_list, c_nis_list, i_int_list, i_bool_list, i_str_list, i_tuple_list, i_list_list, c_is_tuple, c_nis_tuple, i_int_tuple, i_bool_tuple, i_str_tuple, i_tuple_tuple, i_list_tuple, c_isb, c_nisb, f_lenl, f_lent, f_lens, f_abs, f_int, f_intb, f_str, f_listl, f_listt, f_listf, f_tupl, f_tupt, f_sum, f_all, f_any, f_max2, f_min2, x_l, x_t, x_s, some_1, s_l, s_t, r_any, r_anyt, r_anys, r_rng1, r_rng2, r_zipl, r_zipt, r_enum, st_l, a0_nil, a0_cons, oo_nil, oo_f, oo_t, run_f, end_rt, end_nx, cs_call, cs_modes, cs_glob, Option.bind_some, Option.bind_none, Option.map_some, Option.map_none, List.getElem?_cons_zero, List.getElem?_cons_succ, List.set_cons_zero, List.set_cons_succ, List.cons_append, List.nil_append, List.append_nil, List.replicate, List.length_cons, List.length_nil, Bool.false_eq_true, if_true, if_false, Bool.not_true, Bool.not_false, reduceIte, reduceCtorEq, Nat.reduceAdd, Nat.reduceSub, Nat.reduceLT, wipeR, backR, okLent, nodupN, lentAt, List.all_nil, List.all_cons, List.any_nil, List.any_cons, List.contains_nil, Bool.and_true, Bool.true_and, Bool.and_false, Bool.false_and, Bool.or_true, Bool.true_or, Bool.or_false, Bool.false_or, plainAt, List.getD_cons_zero, List.getD_cons_succ, mutAt, augAt, noMut, noMuts, noElems, putOuts, dropL, drop1, c_eqi, c_nei, c_eqs, at0, at1, at2, at3, at4, at5, decide_true, decide_false, callX_some, eq_self, ite_self]
  · have e := decide_eq_false hc
    have p1 : (0 : Int) < 2147483549 := by decide
    have p2 : (0 : Int) < 2147483059 := by decide
    have p3 : (decide ((0 : Int) < 829) && decide ((829 : Int) < 1073741824)) = true := by decide
    have p4 : (decide (c1.natAbs < 2 ^ 64) || decide ((31051 : Int).natAbs < 2 ^ 64)) = true := by
      have : decide ((31051 : Int).natAbs < 2 ^ 64) = true := by decide +kernel
      rw [this, Bool.or_true]
    have p5 : (decide (((c1 * 31051 + 8053) % 2147483549).natAbs < 2 ^ 64) || decide (((c1 * 31051 + 8053) % 2147483549 + 313).natAbs < 2 ^ 64)) = true := by
      have h1 := Int.emod_nonneg (c1 * 31051 + 8053) (show (2147483549 : Int) ≠ 0 by decide)
      have h2 := Int.emod_lt_of_pos (c1 * 31051 + 8053) p1
      have : ((c1 * 31051 + 8053) % 2147483549).natAbs < 2 ^ 64 := by omega
      rw [decide_eq_true this, Bool.true_or]
    simp (implicitDefEqProofs := false) only [f12, rollV, roll0, roll1, hc, e, h0, ix20, ix21, p1, p2, p3, p4, p5, e_c, e_v, e_g, e_tup, e_lst, e_op, e_and, e_or, e_not, e_ite, e_chain, e_call, callX_pure, e_comp, es_nil, es_cons, eb_nil, eb_v, eb_c, ea_c, ef_c, eb_g, ea_g, ef_g, eb_tup, ea_tup, ef_tup, eb_lst, ea_lst, ef_lst, eb_op, ea_op, ef_op, eb_and, ea_and, ef_and, eb_or, ea_or, ef_or, eb_not, ea_not, ef_not, eb_ite, ea_ite, ef_ite, eb_chain, ea_chain, ef_chain, eb_call, ea_call, ef_call, eb_comp, ea_comp, ef_comp, eb_pop, ea_pop, ef_pop, ea_nil, ea_v, ea_io, ec_nil, ec_one, ep_nil, ep_cons, x_asgn, x_asgt, x_par, x_ex, x_retv, x_retN, x_ife, x_for, x_brk, x_cont, x_pass, x_append, x_setix, x_aug, xs_nil, xs_cons, th_nx, th_bk, th_ct, th_rt, as_bool, rd_val, rd_own, rd_lent, le_val, le_own, le_io, le_lent, le_lio, lx_val, lx_own, lx_io, li_own, li_io, se_val, se_own, se_lent, se_none, re_val, re_own, ap_own, ap_io, si_own, si_io, au_own, au_io, au_int, au_str, bt_n, bt_t, bts_nil, bts_cons, sv_nil, sv_cons, un_nil, un_cons, un_lent, un_lio, un_val, un_own, un_io, o_cmp, o_bin, o_bi, o_ix, o_sl0, o_sl1, o_sl2, o_sl3, o_revl, o_revt, o_neg, o_meth, bl_1, b_add, b_adds, b_addl, b_addt, b_sub, b_mul, b_fdiv, b_mod, b_pow, b_and, b_or, b_xor, c_lt, c_le, c_gt, c_ge, c_lts, c_les, c_gts, c_ges, c_in, c_nin, c_is_none, c_nis_none, i_int_none, i_bool_none, i_str_none, i_tuple_none, i_list_none, c_is_bool, c_nis_bool, i_int_bool, i_bool_bool, i_str_bool, i_tuple_bool, i_list_bool, c_is_int, c_nis_int, i_int_int, i_bool_int, i_str_int, i_tuple_int, i_list_int, c_is_str, c_nis_str, i_int_str, i_bool_str, i_str_str, i_tuple_str, i_list_str, c_is_list, c_nis_list, i_int_list, i_bool_list, i_str_list, i_tuple_list, i_list_list, c_is_tuple, c_nis_tuple, i_int_tuple, i_bool_tuple, i_str_tuple, i_tuple_tuple, i_list_tuple, c_isb, c_nisb, f_lenl, f_lent, f_lens, f_abs, f_int, f_intb, f_str, f_listl, f_listt, f_listf, f_tupl, f_tupt, f_sum, f_all, f_any, f_max2, f_min2, x_l, x_t, x_s, some_1, s_l, s_t, r_any, r_anyt, r_anys, r_rng1, r_rng2, r_zipl, r_zipt, r_enum, st_l, a0_nil, a0_cons, oo_nil, oo_f, oo_t, run_f, end_rt, end_nx, cs_call, cs_modes, cs_glob, Option.bind_some, Option.bind_none, Option.map_some, Option.map_none, List.getElem?_cons_zero, List.getElem?_cons_succ, List.set_cons_zero, List.set_cons_succ, List.cons_append, List.nil_append, List.append_nil, List.replicate, List.length_cons, List.length_nil, Bool.false_eq_true, if_true, if_false, Bool.not_true, Bool.not_false, reduceIte, reduceCtorEq, Nat.reduceAdd, Nat.reduceSub, Nat.reduceLT, wipeR, backR, okLent, nodupN, lentAt, List.all_nil, List.all_cons, List.any_nil, List.any_cons, List.contains_nil, Bool.and_true, Bool.true_and, Bool.and_false, Bool.false_and, Bool.or_true, Bool.true_or, Bool.or_false, Bool.false_or, plainAt, List.getD_cons_zero, List.getD_cons_succ, mutAt, augAt, noMut, noMuts, noElems, putOuts, dropL, drop1, c_eqi, c_nei, c_eqs, at0, at1, at2, at3, at4, at5, decide_true, decide_false, callX_some, eq_self, ite_self]
theorem q13 {m : Nat} (hm : 2 ≤ m) (c0 c1 : Int) (ts : List D) (d : D) (h0 : 0 < ts.length) (h1 : ts.length ≤ 1000) (hd : atI ts (rollV c0 c1 ts.length) = some d) (nm : noMut d = true) : theP.run m 13 [.list [.int c0, .int c1], .list ts] = some ((d, false), [.list [.int (roll0 c0 c1 ts.length), .int (roll1 c0 c1)]]) := by
  obtain ⟨n, rfl⟩ : ∃ n, m = n + 1 := ⟨m - 1, by omega⟩
  rw [run_eq rfl]
  have r := q12 (show 1 ≤ n by omega) c0 c1 ts.length (by omega) (by omega)
  simp (implicitDefEqProofs := false) only [f13, m12, r, hd, e_c, e_v, e_g, e_tup, e_lst, e_op, e_and, e_or, e_not, e_ite, e_chain, e_call, callX_pure, e_comp, es_nil, es_cons, eb_nil, eb_v, eb_c, ea_c, ef_c, eb_g, ea_g, ef_g, eb_tup, ea_tup, ef_tup, eb_lst, ea_lst, ef_lst, eb_op, ea_op, ef_op, eb_and, ea_and, ef_and, eb_or, ea_or, ef_or, eb_not, ea_not, ef_not, eb_ite, ea_ite, ef_ite, eb_chain, ea_chain, ef_chain, eb_call, ea_call, ef_call, eb_comp, ea_comp, ef_comp, eb_pop, ea_pop, ef_pop, ea_nil, ea_v, ea_io, ec_nil, ec_one, ep_nil, ep_cons, x_asgn, x_asgt, x_par, x_ex, x_retv, x_retN, x_ife, x_for, x_brk, x_cont, x_pass, x_append, x_setix, x_aug, xs_nil, xs_cons, th_nx, th_bk, th_ct, th_rt, as_bool, rd_val, rd_own, rd_lent, le_val, le_own, le_io, le_lent, le_lio, lx_val, lx_own, lx_io, li_own, li_io, se_val, se_own, se_lent, se_none, re_val, re_own, ap_own, ap_io, si_own, si_io, au_own, au_io, au_int, au_str, bt_n, bt_t, bts_nil, bts_cons, sv_nil, sv_cons, un_nil, un_cons, un_lent, un_lio, un_val, un_own, un_io, o_cmp, o_bin, o_bi, o_ix, o_sl0, o_sl1, o_sl2, o_sl3, o_revl, o_revt, o_neg, o_meth, bl_1, b_add, b_adds, b_addl, b_addt, b_sub, b_mul, b_fdiv, b_mod, b_pow, b_and, b_or, b_xor, c_lt, c_le, c_gt, c_ge, c_lts, c_les, c_gts, c_ges, c_in, c_nin, c_is_none, c_nis_none, i_int_none, i_bool_none, i_str_none, i_tuple_none, i_list_none, c_is_bool, c_nis_bool, i_int_bool, i_bool_bool, i_str_bool, i_tuple_bool, i_list_bool, c_is_int, c_nis_int, i_int_int, i_bool_int, i_str_int, i_tuple_int, i_list_int, c_is_str, c_nis_str, i_int_str, i_bool_str, i_str_str, i_tuple_str, i_list_str, c_is_list, c_nis_list, i_int_list, i_bool_list, i_str_list, i_tuple_list, i_list_list, c_is_tuple, c_nis_tuple, i_int_tuple, i_bool_tuple, i_str_tuple, i_tuple_tuple, i_list_tuple, c_isb, c_nisb, f_lenl, f_lent, f_lens, f_abs, f_int, f_intb, f_str, f_listl, f_listt, f_listf, f_tupl, f_tupt, f_sum, f_all, f_any, f_max2, f_min2, x_l, x_t, x_s, some_1, s_l, s_t, r_any, r_anyt, r_anys, r_rng1, r_rng2, r_zipl, r_zipt, r_enum, st_l, a0_nil, a0_cons, oo_nil, oo_f, oo_t, run_f, end_rt, end_nx, cs_call, cs_modes, cs_glob, Option.bind_some, Option.bind_none, Option.map_some, Option.map_none, List.getElem?_cons_zero, List.getElem?_cons_succ, List.set_cons_zero, List.set_cons_succ, List.cons_append, List.nil_append, List.append_nil, List.replicate, List.length_cons, List.length_nil, Bool.false_eq_true, if_true, if_false, Bool.not_true, Bool.not_false, reduceIte, reduceCtorEq, Nat.reduceAdd, Nat.reduceSub, Nat.reduceLT, wipeR, backR, okLent, nodupN, lentAt, List.all_nil, List.all_cons, List.any_nil, List.any_cons, List.contains_nil, Bool.and_true, Bool.true_and, Bool.and_false, Bool.false_and, Bool.or_true, Bool.true_or, Bool.or_false, Bool.false_or, plainAt, List.getD_cons_zero, List.getD_cons_succ, mutAt, augAt, noMut, noMuts, noElems, putOuts, dropL, drop1, c_eqi, c_nei, c_eqs, at0, at1, at2, at3, at4, at5, decide_true, decide_false, callX_some, eq_self, ite_self]
theorem atI_dom {α : Type} {xs : List α} {i : Int} (h : 0 ≤ i) (h1 : i < xs.length) : ∃ x, atI xs i = some x ∧ x ∈ xs := by
  obtain ⟨k, rfl⟩ := Int.eq_ofNat_of_zero_le h
  have hk : k < xs.length := by omega
  exact ⟨xs[k], atI_nat (List.getElem?_eq_getElem hk), List.getElem_mem hk⟩
theorem q13m {m : Nat} (hm : 2 ≤ m) (c0 c1 : Int) (ts : List D) (h0 : 0 < ts.length) (h1 : ts.length ≤ 1000) (nm : ∀ d ∈ ts, noMut d = true) : ∃ d c0' c1', d ∈ ts ∧ noMut d = true ∧ theP.run m 13 [.list [.int c0, .int c1], .list ts] = some ((d, false), [.list [.int c0', .int c1']]) := by
  have r := rollV_lt (c0 := c0) (c1 := c1) (many := (ts.length : Int)) (by omega)
  obtain ⟨d, e, hd⟩ := atI_dom r.1 r.2
  exact ⟨d, _, _, hd, nm d hd, q13 hm c0 c1 ts d h0 h1 e (nm d hd)⟩
theorem q12m {m : Nat} (hm : 1 ≤ m) (c0 c1 many : Int) (h0 : 0 < many) (h1 : many < 1073741824) : ∃ k c0' c1', 0 ≤ k ∧ k < many ∧ theP.run m 12 [.list [.int c0, .int c1], .int many] = some ((.int k, false), [.list [.int c0', .int c1']]) :=
  ⟨_, _, _, (rollV_lt h0).1, (rollV_lt h0).2, q12 hm c0 c1 many h0 h1⟩
theorem q11 {m : Nat} (hm : 1 ≤ m) (ns : List Int) (hl : ns.length ≤ 63) : ∃ c0 c1, theP.run m 11 [frzD ns] = some ((.list [.int c0, .int c1], true), []) := by
  obtain ⟨n, rfl⟩ : ∃ n, m = n + 1 := ⟨m - 1, by omega⟩
  rw [run_eq rfl]
  have h1 : (ns.map PyData.int).length + 1 ≤ lim := by
    rw [List.length_map]
    exact lim_of (by omega)
  obtain ⟨x, hx⟩ : ∃ x, atI (ns.map PyData.int ++ [.int 0]) 0 = some (.int x) := by
    cases ns with
    | nil => exact ⟨0, at0⟩
    | cons a r => exact ⟨a, at0⟩
  have p1 : (decide ((0 : Int) ≤ 18) && decide ((18 : Int) ≤ 1000) && decide ((10 : Int).natAbs < 2 ^ 64)) = true := by decide +kernel
  have p2 : (decide ((0 : Int) < 113) && decide ((113 : Int) < 1073741824)) = true := by decide
  have p3 : (0 : Int) < 2077502507 := by decide
  generalize hc : (if x < 0 then -x else x) = c
  have p4 : (decide (c.natAbs < 2 ^ 64) || decide ((337 : Int).natAbs < 2 ^ 64)) = true := by
    have : decide ((337 : Int).natAbs < 2 ^ 64) = true := by decide +kernel
    rw [this, Bool.or_true]
  cases hd : decide ((10 : Int) ^ (18 : Int).toNat ≤ c)
  · refine ⟨0, (c * 337 + 4019) % 2077502507 + 233, ?_⟩
    simp (implicitDefEqProofs := false) only [f11, h1, hx, hc, p1, p2, p3, p4, hd, e_c, e_v, e_g, e_tup, e_lst, e_op, e_and, e_or, e_not, e_ite, e_chain, e_call, callX_pure, e_comp, es_nil, es_cons, eb_nil, eb_v, eb_c, ea_c, ef_c, eb_g, ea_g, ef_g, eb_tup, ea_tup, ef_tup, eb_lst, ea_lst, ef_lst, eb_op, ea_op, ef_op, eb_and, ea_and, ef_and, eb_or, ea_or, ef_or, eb_not, ea_not, ef_not, eb_ite, ea_ite, ef_ite, eb_chain, ea_chain, ef_chain, eb_call, ea_call, ef_call, eb_comp, ea_comp, ef_comp, eb_pop, ea_pop, ef_pop, ea_nil, ea_v, ea_io, ec_nil, ec_one, ep_nil, ep_cons, x_asgn, x_asgt, x_par, x_ex, x_retv, x_retN, x_ife, x_for, x_brk, x_cont, x_pass, x_append, x_setix, x_aug, xs_nil, xs_cons, th_nx, th_bk, th_ct, th_rt, as_bool, rd_val, rd_own, rd_lent, le_val, le_own, le_io, le_lent, le_lio, lx_val, lx_own, lx_io, li_own, li_io, se_val, se_own, se_lent, se_none, re_val, re_own, ap_own, ap_io, si_own, si_io, au_own, au_io, au_int, au_str, bt_n, bt_t, bts_nil, bts_cons, sv_nil, sv_cons, un_nil, un_cons, un_lent, un_lio, un_val, un_own, un_io, o_cmp, o_bin, o_bi, o_ix, o_sl0, o_sl1, o_sl2, o_sl3, o_revl, o_revt, o_neg, o_meth, bl_1, b_add, b_adds, b_addl, b_addt, b_sub, b_mul, b_fdiv, b_mod, b_pow, b_and, b_or, b_xor, c_lt, c_le, c_gt, c_ge, c_lts, c_les, c_gts, c_ges, c_in, c_nin, c_is_none, c_nis_none, i_int_none, i_bool_none, i_str_none, i_tuple_none, i_list_none, c_is_bool, c_nis_bool, i_int_bool, i_bool_bool, i_str_bool, i_tuple_bool, i_list_bool, c_is_int, c_nis_int, i_int_int, i_bool_int, i_str_int, i_tuple_int, i_list_int, c_is_str, c_nis_str, i_int_str, i_bool_str, i_str_str, i_tuple_str, i_list_str, c_is_list, c_nis_list, i_int_list, i_bool_list, i_str_list, i_tuple_list, i_list_list, c_is_tuple, c_nis_tuple, i_int_tuple, i_bool_tuple, i_str_tuple, i_tuple_tuple, i_list_tuple, c_isb, c_nisb, f_lenl, f_lent, f_lens, f_abs, f_int, f_intb, f_str, f_listl, f_listt, f_listf, f_tupl, f_tupt, f_sum, f_all, f_any, f_max2, f_min2, x_l, x_t, x_s, some_1, s_l, s_t, r_any, r_anyt, r_anys, r_rng1, r_rng2, r_zipl, r_zipt, r_enum, st_l, a0_nil, a0_cons, oo_nil, oo_f, oo_t, run_f, end_rt, end_nx, cs_call, cs_modes, cs_glob, Option.bind_some, Option.bind_none, Option.map_some, Option.map_none, List.getElem?_cons_zero, List.getElem?_cons_succ, List.set_cons_zero, List.set_cons_succ, List.cons_append, List.nil_append, List.append_nil, List.replicate, List.length_cons, List.length_nil, Bool.false_eq_true, if_true, if_false, Bool.not_true, Bool.not_false, reduceIte, reduceCtorEq, Nat.reduceAdd, Nat.reduceSub, Nat.reduceLT, wipeR, backR, okLent, nodupN, lentAt, List.all_nil, List.all_cons, List.any_nil, List.any_cons, List.contains_nil, Bool.and_true, Bool.true_and, Bool.and_false, Bool.false_and, Bool.or_true, Bool.true_or, Bool.or_false, Bool.false_or, plainAt, List.getD_cons_zero, List.getD_cons_succ, mutAt, augAt, noMut, noMuts, noElems, putOuts, dropL, drop1, c_eqi, c_nei, c_eqs, at0, at1, at2, at3, at4, at5, decide_true, decide_false, callX_some, eq_self, ite_self]
  · refine ⟨c / 113, (c * 337 + 4019) % 2077502507 + 233, ?_⟩
    simp (implicitDefEqProofs := false) only [f11, h1, hx, hc, p1, p2, p3, p4, hd, e_c, e_v, e_g, e_tup, e_lst, e_op, e_and, e_or, e_not, e_ite, e_chain, e_call, callX_pure, e_comp, es_nil, es_cons, eb_nil, eb_v, eb_c, ea_c, ef_c, eb_g, ea_g, ef_g, eb_tup, ea_tup, ef_tup, eb_lst, ea_lst, ef_lst, eb_op, ea_op, ef_op, eb_and, ea_and, ef_and, eb_or, ea_or, ef_or, eb_not, ea_not, ef_not, eb_ite, ea_ite, ef_ite, eb_chain, ea_chain, ef_chain, eb_call, ea_call, ef_call, eb_comp, ea_comp, ef_comp, eb_pop, ea_pop, ef_pop, ea_nil, ea_v, ea_io, ec_nil, ec_one, ep_nil, ep_cons, x_asgn, x_asgt, x_par, x_ex, x_retv, x_retN, x_ife, x_for, x_brk, x_cont, x_pass, x_append, x_setix, x_aug, xs_nil, xs_cons, th_nx, th_bk, th_ct, th_rt, as_bool, rd_val, rd_own, rd_lent, le_val, le_own, le_io, le_lent, le_lio, lx_val, lx_own, lx_io, li_own, li_io, se_val, se_own, se_lent, se_none, re_val, re_own, ap_own, ap_io, si_own, si_io, au_own, au_io, au_int, au_str, bt_n, bt_t, bts_nil, bts_cons, sv_nil, sv_cons, un_nil, un_cons, un_lent, un_lio, un_val, un_own, un_io, o_cmp, o_bin, o_bi, o_ix, o_sl0, o_sl1, o_sl2, o_sl3, o_revl, o_revt, o_neg, o_meth, bl_1, b_add, b_adds, b_addl, b_addt, b_sub, b_mul, b_fdiv, b_mod, b_pow, b_and, b_or, b_xor, c_lt, c_le, c_gt, c_ge, c_lts, c_les, c_gts, c_ges, c_in, c_nin, c_is_none, c_nis_none, i_int_none, i_bool_none, i_str_none, i_tuple_none, i_list_none, c_is_bool, c_nis_bool, i_int_bool, i_bool_bool, i_str_bool, i_tuple_bool, i_list_bool, c_is_int, c_nis_int, i_int_int, i_bool_int, i_str_int, i_tuple_int, i_list_int, c_is_str, c_nis_str, i_int_str, i_bool_str, i_str_str, i_tuple_str, i_list_str, c_is_list, c_nis_list, i_int_list, i_bool_list, i_str_list, i_tuple_list, i_list_list, c_is_tuple, c_nis_tuple, i_int_tuple, i_bool_tuple, i_str_tuple, i_tuple_tuple, i_list_tuple, c_isb, c_nisb, f_lenl, f_lent, f_lens, f_abs, f_int, f_intb, f_str, f_listl, f_listt, f_listf, f_tupl, f_tupt, f_sum, f_all, f_any, f_max2, f_min2, x_l, x_t, x_s, some_1, s_l, s_t, r_any, r_anyt, r_anys, r_rng1, r_rng2, r_zipl, r_zipt, r_enum, st_l, a0_nil, a0_cons, oo_nil, oo_f, oo_t, run_f, end_rt, end_nx, cs_call, cs_modes, cs_glob, Option.bind_some, Option.bind_none, Option.map_some, Option.map_none, List.getElem?_cons_zero, List.getElem?_cons_succ, List.set_cons_zero, List.set_cons_succ, List.cons_append, List.nil_append, List.append_nil, List.replicate, List.length_cons, List.length_nil, Bool.false_eq_true, if_true, if_false, Bool.not_true, Bool.not_false, reduceIte, reduceCtorEq, Nat.reduceAdd, Nat.reduceSub, Nat.reduceLT, wipeR, backR, okLent, nodupN, lentAt, List.all_nil, List.all_cons, List.any_nil, List.any_cons, List.contains_nil, Bool.and_true, Bool.true_and, Bool.and_false, Bool.false_and, Bool.or_true, Bool.true_or, Bool.or_false, Bool.false_or, plainAt, List.getD_cons_zero, List.getD_cons_succ, mutAt, augAt, noMut, noMuts, noElems, putOuts, dropL, drop1, c_eqi, c_nei, c_eqs, at0, at1, at2, at3, at4, at5, decide_true, decide_false, callX_some, eq_self, ite_self]
def isI (y : D) : Prop := ∃ i : Int, y = .int i
theorem rc {n : Nat} (hn : 1 ≤ n) (S : Int) (h0 : 0 < S) (h1 : S < 1073741824) (a b c d e f : SV) (c0 c1 : Int) (k : Nat) : ∃ ys c0' c1', compL (turnC (theP.cs n) (.call 12 [(.v 0), (.v 2)]) (.n 8) [] [8]) (rngF 0 k) [some (.io, .list [.int c0, .int c1]), a, some (.val, .int S), b, c, d, e, f, none] = some (ys, [some (.io, .list [.int c0', .int c1']), a, some (.val, .int S), b, c, d, e, f, none]) ∧ ys.length = k ∧ ∀ y ∈ ys, isI y := by
  obtain ⟨ys, ρ', e1, ⟨c0', c1', rfl⟩, l, g⟩ := compL_inv (f := turnC (theP.cs n) (.call 12 [(.v 0), (.v 2)]) (.n 8) [] [8]) (I := fun ρ => ∃ c0 c1 : Int, ρ = [some (.io, .list [.int c0, .int c1]), a, some (.val, .int S), b, c, d, e, f, none]) (G := isI) (xs := rngF 0 k) (ρ := [some (.io, .list [.int c0, .int c1]), a, some (.val, .int S), b, c, d, e, f, none]) ⟨c0, c1, rfl⟩ (by
    rintro ρ ⟨c0, c1, rfl⟩ x hx
    obtain ⟨k, c0', c1', k0, k1, r⟩ := q12m (show 1 ≤ n by omega) c0 c1 S h0 h1
    refine ⟨.int k, _, ?_, ⟨k, rfl⟩, c0', c1', rfl⟩
    simp (implicitDefEqProofs := false) only [turnC, m12, r, e_c, e_v, e_g, e_tup, e_lst, e_op, e_and, e_or, e_not, e_ite, e_chain, e_call, callX_pure, e_comp, es_nil, es_cons, eb_nil, eb_v, eb_c, ea_c, ef_c, eb_g, ea_g, ef_g, eb_tup, ea_tup, ef_tup, eb_lst, ea_lst, ef_lst, eb_op, ea_op, ef_op, eb_and, ea_and, ef_and, eb_or, ea_or, ef_or, eb_not, ea_not, ef_not, eb_ite, ea_ite, ef_ite, eb_chain, ea_chain, ef_chain, eb_call, ea_call, ef_call, eb_comp, ea_comp, ef_comp, eb_pop, ea_pop, ef_pop, ea_nil, ea_v, ea_io, ec_nil, ec_one, ep_nil, ep_cons, x_asgn, x_asgt, x_par, x_ex, x_retv, x_retN, x_ife, x_for, x_brk, x_cont, x_pass, x_append, x_setix, x_aug, xs_nil, xs_cons, th_nx, th_bk, th_ct, th_rt, as_bool, rd_val, rd_own, rd_lent, le_val, le_own, le_io, le_lent, le_lio, lx_val, lx_own, lx_io, li_own, li_io, se_val, se_own, se_lent, se_none, re_val, re_own, ap_own, ap_io, si_own, si_io, au_own, au_io, au_int, au_str, bt_n, bt_t, bts_nil, bts_cons, sv_nil, sv_cons, un_nil, un_cons, un_lent, un_lio, un_val, un_own, un_io, o_cmp, o_bin, o_bi, o_ix, o_sl0, o_sl1, o_sl2, o_sl3, o_revl, o_revt, o_neg, o_meth, bl_1, b_add, b_adds, b_addl, b_addt, b_sub, b_mul, b_fdiv, b_mod, b_pow, b_and, b_or, b_xor, c_lt, c_le, c_gt, c_ge, c_lts, c_les, c_gts, c_ges, c_in, c_nin, c_is_none, c_nis_none, i_int_none, i_bool_none, i_str_none, i_tuple_none, i_list_none, c_is_bool, c_nis_bool, i_int_bool, i_bool_bool, i_str_bool, i_tuple_bool, i_list_bool, c_is_int, c_nis_int, i_int_int, i_bool_int, i_str_int, i_tuple_int, i_list_int, c_is_str, c_nis_str, i_int_str, i_bool_str, i_str_str, i_tuple_str, i_list_str, c_is_list, c_nis_list, i_int_list, i_bool_list, i_str_list, i_tuple_list, i_list_list, c_is_tuple, c_nis_tuple, i_int_tuple, i_bool_tuple, i_str_tuple, i_tuple_tuple, i_list_tuple, c_isb, c_nisb, f_lenl, f_lent, f_lens, f_abs, f_int, f_intb, f_str, f_listl, f_listt, f_listf, f_tupl, f_tupt, f_sum, f_all, f_any, f_max2, f_min2, x_l, x_t, x_s, some_1, s_l, s_t, r_any, r_anyt, r_anys, r_rng1, r_rng2, r_zipl, r_zipt, r_enum, st_l, a0_nil, a0_cons, oo_nil, oo_f, oo_t, run_f, end_rt, end_nx, cs_call, cs_modes, cs_glob, Option.bind_some, Option.bind_none, Option.map_some, Option.map_none, List.getElem?_cons_zero, List.getElem?_cons_succ, List.set_cons_zero, List.set_cons_succ, List.cons_append, List.nil_append, List.append_nil, List.replicate, List.length_cons, List.length_nil, Bool.false_eq_true, if_true, if_false, Bool.not_true, Bool.not_false, reduceIte, reduceCtorEq, Nat.reduceAdd, Nat.reduceSub, Nat.reduceLT, wipeR, backR, okLent, nodupN, lentAt, List.all_nil, List.all_cons, List.any_nil, List.any_cons, List.contains_nil, Bool.and_true, Bool.true_and, Bool.and_false, Bool.false_and, Bool.or_true, Bool.true_or, Bool.or_false, Bool.false_or, plainAt, List.getD_cons_zero, List.getD_cons_succ, mutAt, augAt, noMut, noMuts, noElems, putOuts, dropL, drop1, c_eqi, c_nei, c_eqs, at0, at1, at2, at3, at4, at5, decide_true, decide_false, callX_some, eq_self, ite_self])
  rw [rngF_len] at l
  exact ⟨ys, c0', c1', e1, l, g⟩
theorem signs_abc : signs (Str.ofString "abc") = [.str "a", .str "b", .str "c"] := by kernel_rfl
theorem rng1_of {k : Nat} (h : k ≤ 1000) : srcF .rng1 [.int (k : Int)] = some (rngF 0 k) := by
  have a1 : decide ((k : Int) < 2 ^ 62) = true := decide_eq_true (by omega)
  have a2 : decide (-(2 ^ 62) ≤ (k : Int)) = true := decide_eq_true (by omega)
  rw [r_rng1, a1, a2, Int.toNat_natCast]
  rfl
def bodyA : List S := [.asg (.n 6) (.ite (.op (.cmp .eq) [(.v 3), (.c (.int (2)))]) (.c (.int (1))) (.op (.bin .add) [(.c (.int (1))), (.call 12 [(.v 0), (.c (.int (2)))])])), .append 4 (.tup [(.v 5), (.v 6), (.call 12 [(.v 0), (.call 15 [(.v 6)])])])]
theorem fl {n : Nat} (hn : 1 ≤ n) (w S many : SV) (mk : Int) (hm : many = some (.val, .int mk)) (c0 c1 : Int) : ∃ fs c0' c1' t5 t6, forL (turnF (theP.cs n) (.n 5) bodyA) [.str "a", .str "b", .str "c"] [some (.io, .list [.int c0, .int c1]), w, S, many, some (.own, .list []), none, none, none, none] = some (.nx, [some (.io, .list [.int c0', .int c1']), w, S, many, some (.own, .list fs), t5, t6, none, none]) ∧ fs.length = 3 ∧ okDs fs = true := by
  obtain ⟨ρ', e, fs, c0', c1', t5, t6, l, ok, _, _, rfl⟩ := forL_ix (f := turnF (theP.cs n) (.n 5) bodyA) (I := fun j ρ => ∃ fs c0 c1 t5 t6, fs.length = j ∧ okDs fs = true ∧ (t5 = none ∨ ∃ d, t5 = some (.val, d)) ∧ (t6 = none ∨ ∃ d, t6 = some (.val, d)) ∧ ρ = [some (.io, .list [.int c0, .int c1]), w, S, many, some (.own, .list fs), t5, t6, none, none]) (xs := [.str "a", .str "b", .str "c"]) (i := 0) (ρ := [some (.io, .list [.int c0, .int c1]), w, S, many, some (.own, .list []), none, none, none, none]) ⟨[], c0, c1, none, none, rfl, rfl, .inl rfl, .inl rfl, rfl⟩ (by
    rintro j ρ ⟨fs, c0, c1, t5, t6, l, ok, h5, h6, rfl⟩ x hx
    subst hm
    have hj : j < 3 := (List.getElem?_eq_some_iff.mp hx).1
    have hl : fs.length < lim := by
      have : fs.length < 1000 := by omega
      exact Nat.lt_of_lt_of_le this (by decide)
    have okx : okD x = true := by
      have := List.mem_of_getElem? hx
      simp only [List.mem_cons, List.not_mem_nil, or_false] at this
      rcases this with rfl | rfl | rfl <;> decide +kernel
    have fin : ∀ (b k : Int), okDs (fs ++ [.tuple [x, .int b, .int k]]) = true := fun b k => by
      refine oks_mem.mpr fun y hy => ?_
      rcases List.mem_append.mp hy with hy | hy
      · exact oks_mem.mp ok y hy
      · rw [List.mem_singleton.mp hy]
        simp [okD, okDs, okx]
    have seq5 : seX (some t5) 5 (x, false) [some (.io, .list [.int c0, .int c1]), w, S, some (.val, .int mk), some (.own, .list fs), t5, t6, none, none] = some [some (.io, .list [.int c0, .int c1]), w, S, some (.val, .int mk), some (.own, .list fs), some (.val, x), t6, none, none] := by
      rcases h5 with rfl | ⟨d, rfl⟩ <;> rfl
    have seq6 : ∀ (c0 c1 b : Int), seX (some t6) 6 (.int b, false) [some (.io, .list [.int c0, .int c1]), w, S, some (.val, .int mk), some (.own, .list fs), some (.val, x), t6, none, none] = some [some (.io, .list [.int c0, .int c1]), w, S, some (.val, .int mk), some (.own, .list fs), some (.val, x), some (.val, .int b), none, none] := by
      rcases h6 with rfl | ⟨d, rfl⟩ <;> intros <;> rfl
    cases hmk : decide (mk = 2)
    · obtain ⟨k, c0a, c1a, k0, k1, r⟩ := q12m (show 1 ≤ n by omega) c0 c1 2 (by omega) (by omega)
      have p := q15i (show 1 ≤ n by omega) (1 + k) (by omega) (by omega)
      have hp : 0 < (2 : Int) ^ (1 + k).toNat ∧ (2 : Int) ^ (1 + k).toNat < 1073741824 := by
        have : (1 + k).toNat < 3 := by omega
        generalize (1 + k).toNat = q at this
        match q, this with
        | 0, _ | 1, _ | 2, _ => decide
      obtain ⟨k2, c0b, c1b, _, _, r2⟩ := q12m (show 1 ≤ n by omega) c0a c1a (2 ^ (1 + k).toNat) hp.1 hp.2
      refine ⟨_, ?_, _, c0b, c1b, some (.val, x), some (.val, .int (1 + k)), ?_, fin (1 + k) k2, .inr ⟨_, rfl⟩, .inr ⟨_, rfl⟩, rfl⟩
      · simp (implicitDefEqProofs := false) only [turnF, bodyA, seq5, seq6, m12, m15, r, r2, p, hmk, hl, e_c, e_v, e_g, e_tup, e_lst, e_op, e_and, e_or, e_not, e_ite, e_chain, e_call, callX_pure, e_comp, es_nil, es_cons, eb_nil, eb_v, eb_c, ea_c, ef_c, eb_g, ea_g, ef_g, eb_tup, ea_tup, ef_tup, eb_lst, ea_lst, ef_lst, eb_op, ea_op, ef_op, eb_and, ea_and, ef_and, eb_or, ea_or, ef_or, eb_not, ea_not, ef_not, eb_ite, ea_ite, ef_ite, eb_chain, ea_chain, ef_chain, eb_call, ea_call, ef_call, eb_comp, ea_comp, ef_comp, eb_pop, ea_pop, ef_pop, ea_nil, ea_v, ea_io, ec_nil, ec_one, ep_nil, ep_cons, x_asgn, x_asgt, x_par, x_ex, x_retv, x_retN, x_ife, x_for, x_brk, x_cont, x_pass, x_append, x_setix, x_aug, xs_nil, xs_cons, th_nx, th_bk, th_ct, th_rt, as_bool, rd_val, rd_own, rd_lent, le_val, le_own, le_io, le_lent, le_lio, lx_val, lx_own, lx_io, li_own, li_io, se_val, se_own, se_lent, se_none, re_val, re_own, ap_own, ap_io, si_own, si_io, au_own, au_io, au_int, au_str, bt_n, bt_t, bts_nil, bts_cons, sv_nil, sv_cons, un_nil, un_cons, un_lent, un_lio, un_val, un_own, un_io, o_cmp, o_bin, o_bi, o_ix, o_sl0, o_sl1, o_sl2, o_sl3, o_revl, o_revt, o_neg, o_meth, bl_1, b_add, b_adds, b_addl, b_addt, b_sub, b_mul, b_fdiv, b_mod, b_pow, b_and, b_or, b_xor, c_lt, c_le, c_gt, c_ge, c_lts, c_les, c_gts, c_ges, c_in, c_nin, c_is_none, c_nis_none, i_int_none, i_bool_none, i_str_none, i_tuple_none, i_list_none, c_is_bool, c_nis_bool, i_int_bool, i_bool_bool, i_str_bool, i_tuple_bool, i_list_bool, c_is_int, c_nis_int, i_int_int, i_bool_int, i_str_int, i_tuple_int, i_list_int, c_is_str, c_nis_str, i_int_str, i_bool_str, i_str_str, i_tuple_str, i_list_str, c_is_list, c_nis_list, i_int_list, i_bool_list, i_str_list, i_tuple_list, i_list_list, c_is_tuple, c_nis_tuple, i_int_tuple, i_bool_tuple, i_str_tuple, i_tuple_tuple, i_list_tuple, c_isb, c_nisb, f_lenl, f_lent, f_lens, f_abs, f_int, f_intb, f_str, f_listl, f_listt, f_listf, f_tupl, f_tupt, f_sum, f_all, f_any, f_max2, f_min2, x_l, x_t, x_s, some_1, s_l, s_t, r_any, r_anyt, r_anys, r_rng1, r_rng2, r_zipl, r_zipt, r_enum, st_l, a0_nil, a0_cons, oo_nil, oo_f, oo_t, run_f, end_rt, end_nx, cs_call, cs_modes, cs_glob, Option.bind_some, Option.bind_none, Option.map_some, Option.map_none, List.getElem?_cons_zero, List.getElem?_cons_succ, List.set_cons_zero, List.set_cons_succ, List.cons_append, List.nil_append, List.append_nil, List.replicate, List.length_cons, List.length_nil, Bool.false_eq_true, if_true, if_false, Bool.not_true, Bool.not_false, reduceIte, reduceCtorEq, Nat.reduceAdd, Nat.reduceSub, Nat.reduceLT, wipeR, backR, okLent, nodupN, lentAt, List.all_nil, List.all_cons, List.any_nil, List.any_cons, List.contains_nil, Bool.and_true, Bool.true_and, Bool.and_false, Bool.false_and, Bool.or_true, Bool.true_or, Bool.or_false, Bool.false_or, plainAt, List.getD_cons_zero, List.getD_cons_succ, mutAt, augAt, noMut, noMuts, noElems, putOuts, dropL, drop1, c_eqi, c_nei, c_eqs, at0, at1, at2, at3, at4, at5, decide_true, decide_false, callX_some, eq_self, ite_self]
      · rw [List.length_append, l]
        rfl
    · have p := q15i (show 1 ≤ n by omega) 1 (by omega) (by omega)
      obtain ⟨k2, c0b, c1b, _, _, r2⟩ := q12m (show 1 ≤ n by omega) c0 c1 (2 ^ (1 : Int).toNat) (by decide) (by decide)
      refine ⟨_, ?_, _, c0b, c1b, some (.val, x), some (.val, .int 1), ?_, fin 1 k2, .inr ⟨_, rfl⟩, .inr ⟨_, rfl⟩, rfl⟩
      · simp (implicitDefEqProofs := false) only [turnF, bodyA, seq5, seq6, m12, m15, r2, p, hmk, hl, e_c, e_v, e_g, e_tup, e_lst, e_op, e_and, e_or, e_not, e_ite, e_chain, e_call, callX_pure, e_comp, es_nil, es_cons, eb_nil, eb_v, eb_c, ea_c, ef_c, eb_g, ea_g, ef_g, eb_tup, ea_tup, ef_tup, eb_lst, ea_lst, ef_lst, eb_op, ea_op, ef_op, eb_and, ea_and, ef_and, eb_or, ea_or, ef_or, eb_not, ea_not, ef_not, eb_ite, ea_ite, ef_ite, eb_chain, ea_chain, ef_chain, eb_call, ea_call, ef_call, eb_comp, ea_comp, ef_comp, eb_pop, ea_pop, ef_pop, ea_nil, ea_v, ea_io, ec_nil, ec_one, ep_nil, ep_cons, x_asgn, x_asgt, x_par, x_ex, x_retv, x_retN, x_ife, x_for, x_brk, x_cont, x_pass, x_append, x_setix, x_aug, xs_nil, xs_cons, th_nx, th_bk, th_ct, th_rt, as_bool, rd_val, rd_own, rd_lent, le_val, le_own, le_io, le_lent, le_lio, lx_val, lx_own, lx_io, li_own, li_io, se_val, se_own, se_lent, se_none, re_val, re_own, ap_own, ap_io, si_own, si_io, au_own, au_io, au_int, au_str, bt_n, bt_t, bts_nil, bts_cons, sv_nil, sv_cons, un_nil, un_cons, un_lent, un_lio, un_val, un_own, un_io, o_cmp, o_bin, o_bi, o_ix, o_sl0, o_sl1, o_sl2, o_sl3, o_revl, o_revt, o_neg, o_meth, bl_1, b_add, b_adds, b_addl, b_addt, b_sub, b_mul, b_fdiv, b_mod, b_pow, b_and, b_or, b_xor, c_lt, c_le, c_gt, c_ge, c_lts, c_les, c_gts, c_ges, c_in, c_nin, c_is_none, c_nis_none, i_int_none, i_bool_none, i_str_none, i_tuple_none, i_list_none, c_is_bool, c_nis_bool, i_int_bool, i_bool_bool, i_str_bool, i_tuple_bool, i_list_bool, c_is_int, c_nis_int, i_int_int, i_bool_int, i_str_int, i_tuple_int, i_list_int, c_is_str, c_nis_str, i_int_str, i_bool_str, i_str_str, i_tuple_str, i_list_str, c_is_list, c_nis_list, i_int_list, i_bool_list, i_str_list, i_tuple_list, i_list_list, c_is_tuple, c_nis_tuple, i_int_tuple, i_bool_tuple, i_str_tuple, i_tuple_tuple, i_list_tuple, c_isb, c_nisb, f_lenl, f_lent, f_lens, f_abs, f_int, f_intb, f_str, f_listl, f_listt, f_listf, f_tupl, f_tupt, f_sum, f_all, f_any, f_max2, f_min2, x_l, x_t, x_s, some_1, s_l, s_t, r_any, r_anyt, r_anys, r_rng1, r_rng2, r_zipl, r_zipt, r_enum, st_l, a0_nil, a0_cons, oo_nil, oo_f, oo_t, run_f, end_rt, end_nx, cs_call, cs_modes, cs_glob, Option.bind_some, Option.bind_none, Option.map_some, Option.map_none, List.getElem?_cons_zero, List.getElem?_cons_succ, List.set_cons_zero, List.set_cons_succ, List.cons_append, List.nil_append, List.append_nil, List.replicate, List.length_cons, List.length_nil, Bool.false_eq_true, if_true, if_false, Bool.not_true, Bool.not_false, reduceIte, reduceCtorEq, Nat.reduceAdd, Nat.reduceSub, Nat.reduceLT, wipeR, backR, okLent, nodupN, lentAt, List.all_nil, List.all_cons, List.any_nil, List.any_cons, List.contains_nil, Bool.and_true, Bool.true_and, Bool.and_false, Bool.false_and, Bool.or_true, Bool.true_or, Bool.or_false, Bool.false_or, plainAt, List.getD_cons_zero, List.getD_cons_succ, mutAt, augAt, noMut, noMuts, noElems, putOuts, dropL, drop1, c_eqi, c_nei, c_eqs, at0, at1, at2, at3, at4, at5, decide_true, decide_false, callX_some, eq_self, ite_self]
      · rw [List.length_append, l]
        rfl)
  exact ⟨fs, c0', c1', t5, t6, e, by rw [l]; rfl, ok⟩
structure Sc (S : Nat) (regs cells fs : List D) : Prop where
  rl : regs.length = 2 ∨ regs.length = 4
  ri : ∀ y ∈ regs, isI y
  cl : cells.length = S
  ci : ∀ y ∈ cells, isI y
  fl : fs.length = 3
  fo : okDs fs = true
theorem lim3 {n : Nat} (h : n ≤ 1000) : n ≤ lim := lim_of h
theorem q16 {m : Nat} (hm : 3 ≤ m) (w : Nat) (hw : 4 ≤ w ∧ w ≤ 5) (c0 c1 : Int) : ∃ regs cells fs f p c0' c1', theP.run m 16 [.list [.int c0, .int c1], .int (w : Int)] = some ((.tuple [.tuple regs, .tuple cells, .int f, .int p, .tuple fs], false), [.list [.int c0', .int c1']]) ∧ Sc (2 ^ w) regs cells fs := by
  obtain ⟨n, rfl⟩ : ∃ n, m = n + 1 := ⟨m - 1, by omega⟩
  rw [run_eq rfl]
  have p := q15 (show 1 ≤ n by omega) w (by omega)
  have hS : (0 : Int) < 2 ^ w ∧ (2 : Int) ^ w < 1073741824 ∧ 2 ^ w ≤ 1000 ∧ ((2 ^ w : Nat) : Int) = (2 : Int) ^ w := by
    obtain rfl | rfl : w = 4 ∨ w = 5 := by omega
    · decide
    · decide
  obtain ⟨d, c0a, c1a, hd, nm, r1⟩ := q13m (show 2 ≤ n by omega) c0 c1 [.int 2, .int 4] (by decide) (by decide) (by simp [noMut])
  obtain ⟨mk, rfl, hmk⟩ : ∃ mk : Nat, d = .int (mk : Int) ∧ (mk = 2 ∨ mk = 4) := by
    simp only [List.mem_cons, List.not_mem_nil, or_false] at hd
    rcases hd with rfl | rfl
    · exact ⟨2, rfl, .inl rfl⟩
    · exact ⟨4, rfl, .inr rfl⟩
  obtain ⟨fs, c0b, c1b, t5, t6, r2, fl3, fo⟩ := fl (show 1 ≤ n by omega) (some (.val, .int (w : Int))) (some (.val, .int (2 ^ w))) (some (.val, .int (mk : Int))) mk rfl c0a c1a
  obtain ⟨regs, c0c, c1c, r3, l3, i3⟩ := rc (show 1 ≤ n by omega) (2 ^ w) hS.1 hS.2.1 (some (.val, .int (w : Int))) (some (.val, .int (mk : Int))) (some (.own, .list fs)) t5 t6 none c0b c1b mk
  obtain ⟨cells, c0d, c1d, r4, l4, i4⟩ := rc (show 1 ≤ n by omega) (2 ^ w) hS.1 hS.2.1 (some (.val, .int (w : Int))) (some (.val, .int (mk : Int))) (some (.own, .list fs)) t5 t6 (some (.val, .tuple regs)) c0c c1c (2 ^ w)
  obtain ⟨f, c0e, c1e, f0, f1', r5⟩ := q12m (show 1 ≤ n by omega) c0d c1d 2 (by decide) (by decide)
  obtain ⟨pl, c0f, c1f, p0, p1, r6⟩ := q12m (show 1 ≤ n by omega) c0e c1e (2 ^ w) hS.1 hS.2.1
  have s1 := rng1_of (k := mk) (by omega)
  have s2 := rng1_of (k := 2 ^ w) hS.2.2.1
  rw [hS.2.2.2] at s2
  have e1 : regs.length ≤ lim := lim3 (by omega)
  have e2 : cells.length ≤ lim := lim3 (by omega)
  refine ⟨regs, cells, fs, f, pl, c0f, c1f, ?_, by omega, i3, l4, i4, fl3, fo⟩
  simp only [bodyA] at r2
  simp (implicitDefEqProofs := false) only [r_rng1] at s1 s2
  simp (implicitDefEqProofs := false) only [f16, m15, m13, m12, p, r1, r2, r3, r4, r5, r6, s1, s2, signs_abc, e1, e2, e_c, e_v, e_g, e_tup, e_lst, e_op, e_and, e_or, e_not, e_ite, e_chain, e_call, callX_pure, e_comp, es_nil, es_cons, eb_nil, eb_v, eb_c, ea_c, ef_c, eb_g, ea_g, ef_g, eb_tup, ea_tup, ef_tup, eb_lst, ea_lst, ef_lst, eb_op, ea_op, ef_op, eb_and, ea_and, ef_and, eb_or, ea_or, ef_or, eb_not, ea_not, ef_not, eb_ite, ea_ite, ef_ite, eb_chain, ea_chain, ef_chain, eb_call, ea_call, ef_call, eb_comp, ea_comp, ef_comp, eb_pop, ea_pop, ef_pop, ea_nil, ea_v, ea_io, ec_nil, ec_one, ep_nil, ep_cons, x_asgn, x_asgt, x_par, x_ex, x_retv, x_retN, x_ife, x_for, x_brk, x_cont, x_pass, x_append, x_setix, x_aug, xs_nil, xs_cons, th_nx, th_bk, th_ct, th_rt, as_bool, rd_val, rd_own, rd_lent, le_val, le_own, le_io, le_lent, le_lio, lx_val, lx_own, lx_io, li_own, li_io, se_val, se_own, se_lent, se_none, re_val, re_own, ap_own, ap_io, si_own, si_io, au_own, au_io, au_int, au_str, bt_n, bt_t, bts_nil, bts_cons, sv_nil, sv_cons, un_nil, un_cons, un_lent, un_lio, un_val, un_own, un_io, o_cmp, o_bin, o_bi, o_ix, o_sl0, o_sl1, o_sl2, o_sl3, o_revl, o_revt, o_neg, o_meth, bl_1, b_add, b_adds, b_addl, b_addt, b_sub, b_mul, b_fdiv, b_mod, b_pow, b_and, b_or, b_xor, c_lt, c_le, c_gt, c_ge, c_lts, c_les, c_gts, c_ges, c_in, c_nin, c_is_none, c_nis_none, i_int_none, i_bool_none, i_str_none, i_tuple_none, i_list_none, c_is_bool, c_nis_bool, i_int_bool, i_bool_bool, i_str_bool, i_tuple_bool, i_list_bool, c_is_int, c_nis_int, i_int_int, i_bool_int, i_str_int, i_tuple_int, i_list_int, c_is_str, c_nis_str, i_int_str, i_bool_str, i_str_str, i_tuple_str, i_list_str, c_is_list, c_nis_list, i_int_list, i_bool_list, i_str_list, i_tuple_list, i_list_list, c_is_tuple, c_nis_tuple, i_int_tuple, i_bool_tuple, i_str_tuple, i_tuple_tuple, i_list_tuple, c_isb, c_nisb, f_lenl, f_lent, f_lens, f_abs, f_int, f_intb, f_str, f_listl, f_listt, f_listf, f_tupl, f_tupt, f_sum, f_all, f_any, f_max2, f_min2, x_l, x_t, x_s, some_1, s_l, s_t, r_any, r_anyt, r_anys, r_rng1, r_rng2, r_zipl, r_zipt, r_enum, st_l, a0_nil, a0_cons, oo_nil, oo_f, oo_t, run_f, end_rt, end_nx, cs_call, cs_modes, cs_glob, Option.bind_some, Option.bind_none, Option.map_some, Option.map_none, List.getElem?_cons_zero, List.getElem?_cons_succ, List.set_cons_zero, List.set_cons_succ, List.cons_append, List.nil_append, List.append_nil, List.replicate, List.length_cons, List.length_nil, Bool.false_eq_true, if_true, if_false, Bool.not_true, Bool.not_false, reduceIte, reduceCtorEq, Nat.reduceAdd, Nat.reduceSub, Nat.reduceLT, wipeR, backR, okLent, nodupN, lentAt, List.all_nil, List.all_cons, List.any_nil, List.any_cons, List.contains_nil, Bool.and_true, Bool.true_and, Bool.and_false, Bool.false_and, Bool.or_true, Bool.true_or, Bool.or_false, Bool.false_or, plainAt, List.getD_cons_zero, List.getD_cons_succ, mutAt, augAt, noMut, noMuts, noElems, putOuts, dropL, drop1, c_eqi, c_nei, c_eqs, at0, at1, at2, at3, at4, at5, decide_true, decide_false, callX_some, eq_self, ite_self]
def s1B : S := .asg (.n 15) (.and (.op (.bi (.isi .tuple)) [(.v 7)]) (.and (.op (.cmp .eq) [(.op (.bi .len) [(.v 7)]), (.c (.int (5)))]) (.and (.op (.bi (.isi .tuple)) [(.op .ix [(.v 7), (.c (.int (0)))])]) (.op (.bi (.isi .tuple)) [(.op .ix [(.v 7), (.c (.int (1)))])]))))
def s2B : S := .asg (.n 15) (.and (.v 15) (.and (.op (.cmp .isin) [(.op (.bi .len) [(.op .ix [(.v 7), (.c (.int (0)))])]), (.tup [(.c (.int (2))), (.c (.int (4)))])]) (.and (.op (.cmp .eq) [(.op (.bi .len) [(.op .ix [(.v 7), (.c (.int (1)))])]), (.v 8)]) (.op (.cmp .eq) [(.comp (.v 16) (.n 16) .any [(.op (.bin .add) [(.op .ix [(.v 7), (.c (.int (0)))]), (.op .ix [(.v 7), (.c (.int (1)))])])] [(.not (.call 17 [(.v 16), (.v 8)]))] [16]), (.lst [])]))))
def s3B : S := .asg (.n 15) (.and (.v 15) (.and (.call 17 [(.op .ix [(.v 7), (.c (.int (2)))]), (.c (.int (2)))]) (.and (.call 17 [(.op .ix [(.v 7), (.c (.int (3)))]), (.v 8)]) (.call 18 [(.op .ix [(.v 7), (.c (.int (4)))])]))))
def s4B : S := .ife (.not (.call 14 [(.call 10 [(.v 3), (.v 7)]), (.v 15)])) [.ret (.c (.bool false))] []
def bodyB : List S := [s1B, s2B, s3B, s4B]
def okV (v : D) : Bool := okD v && match v with
  | .tuple [_, _, _, _, .tuple ds] => decide (ds.length ≤ 1000)
  | _ => true
theorem fitsW_wordL (x : D) (S : Int) : fitsW x 0 (S - 1) = wordL x S := by
  cases x <;> simp only [fitsW, wordL]
  rename_i i
  rw [Bool.eq_iff_iff]
  simp only [Bool.and_eq_true, decide_eq_true_eq]
  omega
theorem words_eq (xs : List D) (M S : Int) : wordsB (.tuple xs) M S = (decide ((xs.length : Int) = M) && xs.all fun x => wordL x S) := by
  have e1 : isT (.tuple xs) M M = decide ((xs.length : Int) = M) := by
    rw [Bool.eq_iff_iff]
    simp only [isT, Bool.and_eq_true, decide_eq_true_eq]
    omega
  have e2 : (fun x => fitsW x 0 (S - 1)) = fun x => wordL x S := by
    funext x
    exact fitsW_wordL x S
  show (isT (.tuple xs) M M && xs.all fun x => fitsW x 0 (S - 1)) = _
  rw [e1, e2]
theorem scene_eq (S : Int) (xs ys : List D) (c d e : D) : sceneB S (.tuple [.tuple xs, .tuple ys, c, d, e]) =
    ((decide ((xs.length : Int) = 2) || decide ((xs.length : Int) = 4)) && (decide ((ys.length : Int) = S) && ((xs ++ ys).all (fun x => wordL x S) && (wordL c 2 && (wordL d S && fieldsL e))))) := by
  have e1 : fitsW c 0 1 = wordL c 2 := fitsW_wordL c 2
  have e2 : fitsW d 0 (S - 1) = wordL d S := fitsW_wordL d S
  simp only [sceneB, words_eq, e1, e2, fields_eq, List.all_append]
  cases decide ((xs.length : Int) = 2) <;> cases decide ((xs.length : Int) = 4) <;> cases decide ((ys.length : Int) = S) <;> cases xs.all (fun x => wordL x S) <;> cases ys.all (fun x => wordL x S) <;> cases wordL c 2 <;> cases wordL d S <;> cases fitsF e <;> rfl
theorem in24 (k : Int) : inF (.int k) (.tuple [.int 2, .int 4]) = some (decide (k = 2) || decide (k = 4)) := by
  have h1 : (noDics [PyData.int 2, .int 4] && noDic (.int k) && decide (min (PyData.depthAll [PyData.int 2, .int 4]) (PyData.depth (.int k)) ≤ 64)) = true := by
    have : min (PyData.depthAll [PyData.int 2, .int 4]) (PyData.depth (.int k)) ≤ 64 := Nat.le_trans (Nat.min_le_left _ _) (by decide +kernel)
    rw [decide_eq_true this]
    rfl
  have e0 : inF (.int k) (.tuple [.int 2, .int 4]) = some ([PyData.int 2, .int 4].any fun z => PyData.eqv z (.int k)) := inF_tup h1
  rw [e0]
  have e : ∀ j : Int, PyData.eqv (.int j) (.int k) = decide (k = j) := fun j => by
    show (j == k) = _
    rw [Bool.beq_eq_decide_eq, Bool.eq_iff_iff]
    simp only [decide_eq_true_eq]
    exact eq_comm
  simp only [List.any_cons, List.any_nil, Bool.or_false, e]
theorem c5 : ((5 : Nat) : Int) = 5 := rfl
theorem inner {n : Nat} (hn : 6 ≤ n) (w : Nat) (hw : 4 ≤ w ∧ w ≤ 8) (v : D) (hv : okV v = true) (s0 s1 s2 s4 s5 s6 x7 s9 s10 s11 s12 s13 s14 x15 : SV) (h7 : x7 = none ∨ ∃ d, x7 = some (.val, d)) (h15 : x15 = none ∨ ∃ d, x15 = some (.val, d)) :
    ∃ g : Bool, turnF (theP.cs n) (.n 7) bodyB [s0, s1, s2, some (.val, .int (w : Int)), s4, s5, s6, x7, some (.val, .int (2 ^ w)), s9, s10, s11, s12, s13, s14, x15, none] v = some (.nx, [s0, s1, s2, some (.val, .int (w : Int)), s4, s5, s6, some (.val, v), some (.val, .int (2 ^ w)), s9, s10, s11, s12, s13, s14, some (.val, .bool g), none]) := by
  obtain ⟨ok, ok2⟩ := Bool.and_eq_true_iff.mp hv
  have r10 := q10 (show 5 ≤ n by omega) w v ok (by omega) (by omega)
  rw [Int.toNat_natCast] at r10
  have r14 := fun a => q14 (show 1 ≤ n by omega) a a
  simp only [decide_true] at r14
  have e7 : seX (some x7) 7 (v, false) [s0, s1, s2, some (.val, .int (w : Int)), s4, s5, s6, x7, some (.val, .int (2 ^ w)), s9, s10, s11, s12, s13, s14, x15, none] = some [s0, s1, s2, some (.val, .int (w : Int)), s4, s5, s6, some (.val, v), some (.val, .int (2 ^ w)), s9, s10, s11, s12, s13, s14, x15, none] := by
    rcases h7 with rfl | ⟨d, rfl⟩ <;> rfl
  have e15 : ∀ b : Bool, seX (some x15) 15 (.bool b, false) [s0, s1, s2, some (.val, .int (w : Int)), s4, s5, s6, some (.val, v), some (.val, .int (2 ^ w)), s9, s10, s11, s12, s13, s14, x15, none] = some [s0, s1, s2, some (.val, .int (w : Int)), s4, s5, s6, some (.val, v), some (.val, .int (2 ^ w)), s9, s10, s11, s12, s13, s14, some (.val, .bool b), none] := by
    rcases h15 with rfl | ⟨d, rfl⟩ <;> intro b <;> rfl
  have no : ∀ {v : D}, isT v 5 5 = false → sceneB ((2 : Int) ^ w) v = false := fun h => sceneB_not h
  cases v <;> first | (simp [okD] at ok; done) | skip
  case tuple ds =>
    by_cases hl : ds.length = 5
    rotate_left
    · have hl' : decide ((ds.length : Int) = 5) = false := decide_eq_false (by omega)
      have hT : isT (.tuple ds) 5 5 = false := by
        simp only [isT]
        rw [Bool.eq_false_iff]
        intro h
        simp only [Bool.and_eq_true, decide_eq_true_eq] at h
        omega
      rw [no hT] at r10
      refine ⟨false, ?_⟩
      simp (implicitDefEqProofs := false) only [turnF, bodyB, s1B, s2B, s3B, s4B, e7, e15, hl', m10, m14, r10, r14, e_c, e_v, e_g, e_tup, e_lst, e_op, e_and, e_or, e_not, e_ite, e_chain, e_call, callX_pure, e_comp, es_nil, es_cons, eb_nil, eb_v, eb_c, ea_c, ef_c, eb_g, ea_g, ef_g, eb_tup, ea_tup, ef_tup, eb_lst, ea_lst, ef_lst, eb_op, ea_op, ef_op, eb_and, ea_and, ef_and, eb_or, ea_or, ef_or, eb_not, ea_not, ef_not, eb_ite, ea_ite, ef_ite, eb_chain, ea_chain, ef_chain, eb_call, ea_call, ef_call, eb_comp, ea_comp, ef_comp, eb_pop, ea_pop, ef_pop, ea_nil, ea_v, ea_io, ec_nil, ec_one, ep_nil, ep_cons, x_asgn, x_asgt, x_par, x_ex, x_retv, x_retN, x_ife, x_for, x_brk, x_cont, x_pass, x_append, x_setix, x_aug, xs_nil, xs_cons, th_nx, th_bk, th_ct, th_rt, as_bool, rd_val, rd_own, rd_lent, le_val, le_own, le_io, le_lent, le_lio, lx_val, lx_own, lx_io, li_own, li_io, se_val, se_own, se_lent, se_none, re_val, re_own, ap_own, ap_io, si_own, si_io, au_own, au_io, au_int, au_str, bt_n, bt_t, bts_nil, bts_cons, sv_nil, sv_cons, un_nil, un_cons, un_lent, un_lio, un_val, un_own, un_io, o_cmp, o_bin, o_bi, o_ix, o_sl0, o_sl1, o_sl2, o_sl3, o_revl, o_revt, o_neg, o_meth, bl_1, b_add, b_adds, b_addl, b_addt, b_sub, b_mul, b_fdiv, b_mod, b_pow, b_and, b_or, b_xor, c_lt, c_le, c_gt, c_ge, c_lts, c_les, c_gts, c_ges, c_in, c_nin, c_is_none, c_nis_none, i_int_none, i_bool_none, i_str_none, i_tuple_none, i_list_none, c_is_bool, c_nis_bool, i_int_bool, i_bool_bool, i_str_bool, i_tuple_bool, i_list_bool, c_is_int, c_nis_int, i_int_int, i_bool_int, i_str_int, i_tuple_int, i_list_int, c_is_str, c_nis_str, i_int_str, i_bool_str, i_str_str, i_tuple_str, i_list_str, c_is_list, c_nis_list, i_int_list, i_bool_list, i_str_list, i_tuple_list, i_list_list, c_is_tuple, c_nis_tuple, i_int_tuple, i_bool_tuple, i_str_tuple, i_tuple_tuple, i_list_tuple, c_isb, c_nisb, f_lenl, f_lent, f_lens, f_abs, f_int, f_intb, f_str, f_listl, f_listt, f_listf, f_tupl, f_tupt, f_sum, f_all, f_any, f_max2, f_min2, x_l, x_t, x_s, some_1, s_l, s_t, r_any, r_anyt, r_anys, r_rng1, r_rng2, r_zipl, r_zipt, r_enum, st_l, a0_nil, a0_cons, oo_nil, oo_f, oo_t, run_f, end_rt, end_nx, cs_call, cs_modes, cs_glob, Option.bind_some, Option.bind_none, Option.map_some, Option.map_none, List.getElem?_cons_zero, List.getElem?_cons_succ, List.set_cons_zero, List.set_cons_succ, List.cons_append, List.nil_append, List.append_nil, List.replicate, List.length_cons, List.length_nil, Bool.false_eq_true, if_true, if_false, Bool.not_true, Bool.not_false, reduceIte, reduceCtorEq, Nat.reduceAdd, Nat.reduceSub, Nat.reduceLT, wipeR, backR, okLent, nodupN, lentAt, List.all_nil, List.all_cons, List.any_nil, List.any_cons, List.contains_nil, Bool.and_true, Bool.true_and, Bool.and_false, Bool.false_and, Bool.or_true, Bool.true_or, Bool.or_false, Bool.false_or, plainAt, List.getD_cons_zero, List.getD_cons_succ, mutAt, augAt, noMut, noMuts, noElems, putOuts, dropL, drop1, c_eqi, c_nei, c_eqs, at0, at1, at2, at3, at4, at5, decide_true, decide_false, callX_some, eq_self, ite_self]
    have hlist : ∃ a b c d e, ds = [a, b, c, d, e] := by
      match ds, hl with
      | [a, b, c, d, e], _ => exact ⟨a, b, c, d, e, rfl⟩
    obtain ⟨a, b, c, d, e, rfl⟩ := hlist
    have hm := oks_mem.mp (show okDs [a, b, c, d, e] = true from ok)
    have oka := hm a (by simp)
    have okb := hm b (by simp)
    cases a <;> first | (simp [okD] at oka; done) | skip
    case tuple xs =>
      cases b <;> first | (simp [okD] at okb; done) | skip
      case tuple ys =>
        rw [scene_eq] at r10
        have r17c := q17 (show 1 ≤ n by omega) c 2 (ok_dic _ (hm c (by simp)))
        have r17d := q17 (show 1 ≤ n by omega) d (2 ^ w) (ok_dic _ (hm d (by simp)))
        have r18 := q18 (show 2 ≤ n by omega) e (hm e (by simp)) (fun es he => by
          subst he
          exact of_decide_eq_true ok2)
        have hS : (2 : Int) ^ w ≤ 256 := by
          match w, hw with
          | 4, _ | 5, _ | 6, _ | 7, _ | 8, _ => decide
        cases h24 : (decide ((xs.length : Int) = 2) || decide ((xs.length : Int) = 4))
        · rw [h24, Bool.false_and] at r10
          refine ⟨false, ?_⟩
          simp (implicitDefEqProofs := false) only [turnF, bodyB, s1B, s2B, s3B, s4B, e7, e15, c5, m10, m14, r10, r14, in24, h24, e_c, e_v, e_g, e_tup, e_lst, e_op, e_and, e_or, e_not, e_ite, e_chain, e_call, callX_pure, e_comp, es_nil, es_cons, eb_nil, eb_v, eb_c, ea_c, ef_c, eb_g, ea_g, ef_g, eb_tup, ea_tup, ef_tup, eb_lst, ea_lst, ef_lst, eb_op, ea_op, ef_op, eb_and, ea_and, ef_and, eb_or, ea_or, ef_or, eb_not, ea_not, ef_not, eb_ite, ea_ite, ef_ite, eb_chain, ea_chain, ef_chain, eb_call, ea_call, ef_call, eb_comp, ea_comp, ef_comp, eb_pop, ea_pop, ef_pop, ea_nil, ea_v, ea_io, ec_nil, ec_one, ep_nil, ep_cons, x_asgn, x_asgt, x_par, x_ex, x_retv, x_retN, x_ife, x_for, x_brk, x_cont, x_pass, x_append, x_setix, x_aug, xs_nil, xs_cons, th_nx, th_bk, th_ct, th_rt, as_bool, rd_val, rd_own, rd_lent, le_val, le_own, le_io, le_lent, le_lio, lx_val, lx_own, lx_io, li_own, li_io, se_val, se_own, se_lent, se_none, re_val, re_own, ap_own, ap_io, si_own, si_io, au_own, au_io, au_int, au_str, bt_n, bt_t, bts_nil, bts_cons, sv_nil, sv_cons, un_nil, un_cons, un_lent, un_lio, un_val, un_own, un_io, o_cmp, o_bin, o_bi, o_ix, o_sl0, o_sl1, o_sl2, o_sl3, o_revl, o_revt, o_neg, o_meth, bl_1, b_add, b_adds, b_addl, b_addt, b_sub, b_mul, b_fdiv, b_mod, b_pow, b_and, b_or, b_xor, c_lt, c_le, c_gt, c_ge, c_lts, c_les, c_gts, c_ges, c_in, c_nin, c_is_none, c_nis_none, i_int_none, i_bool_none, i_str_none, i_tuple_none, i_list_none, c_is_bool, c_nis_bool, i_int_bool, i_bool_bool, i_str_bool, i_tuple_bool, i_list_bool, c_is_int, c_nis_int, i_int_int, i_bool_int, i_str_int, i_tuple_int, i_list_int, c_is_str, c_nis_str, i_int_str, i_bool_str, i_str_str, i_tuple_str, i_list_str, c_is_list, c_nis_list, i_int_list, i_bool_list, i_str_list, i_tuple_list, i_list_list, c_is_tuple, c_nis_tuple, i_int_tuple, i_bool_tuple, i_str_tuple, i_tuple_tuple, i_list_tuple, c_isb, c_nisb, f_lenl, f_lent, f_lens, f_abs, f_int, f_intb, f_str, f_listl, f_listt, f_listf, f_tupl, f_tupt, f_sum, f_all, f_any, f_max2, f_min2, x_l, x_t, x_s, some_1, s_l, s_t, r_any, r_anyt, r_anys, r_rng1, r_rng2, r_zipl, r_zipt, r_enum, st_l, a0_nil, a0_cons, oo_nil, oo_f, oo_t, run_f, end_rt, end_nx, cs_call, cs_modes, cs_glob, Option.bind_some, Option.bind_none, Option.map_some, Option.map_none, List.getElem?_cons_zero, List.getElem?_cons_succ, List.set_cons_zero, List.set_cons_succ, List.cons_append, List.nil_append, List.append_nil, List.replicate, List.length_cons, List.length_nil, Bool.false_eq_true, if_true, if_false, Bool.not_true, Bool.not_false, reduceIte, reduceCtorEq, Nat.reduceAdd, Nat.reduceSub, Nat.reduceLT, wipeR, backR, okLent, nodupN, lentAt, List.all_nil, List.all_cons, List.any_nil, List.any_cons, List.contains_nil, Bool.and_true, Bool.true_and, Bool.and_false, Bool.false_and, Bool.or_true, Bool.true_or, Bool.or_false, Bool.false_or, plainAt, List.getD_cons_zero, List.getD_cons_succ, mutAt, augAt, noMut, noMuts, noElems, putOuts, dropL, drop1, c_eqi, c_nei, c_eqs, at0, at1, at2, at3, at4, at5, decide_true, decide_false, callX_some, eq_self, ite_self]
        cases hSz : decide ((ys.length : Int) = 2 ^ w)
        · rw [h24, hSz, Bool.false_and, Bool.and_false] at r10
          refine ⟨false, ?_⟩
          simp (implicitDefEqProofs := false) only [turnF, bodyB, s1B, s2B, s3B, s4B, e7, e15, c5, m10, m14, r10, r14, in24, h24, hSz, e_c, e_v, e_g, e_tup, e_lst, e_op, e_and, e_or, e_not, e_ite, e_chain, e_call, callX_pure, e_comp, es_nil, es_cons, eb_nil, eb_v, eb_c, ea_c, ef_c, eb_g, ea_g, ef_g, eb_tup, ea_tup, ef_tup, eb_lst, ea_lst, ef_lst, eb_op, ea_op, ef_op, eb_and, ea_and, ef_and, eb_or, ea_or, ef_or, eb_not, ea_not, ef_not, eb_ite, ea_ite, ef_ite, eb_chain, ea_chain, ef_chain, eb_call, ea_call, ef_call, eb_comp, ea_comp, ef_comp, eb_pop, ea_pop, ef_pop, ea_nil, ea_v, ea_io, ec_nil, ec_one, ep_nil, ep_cons, x_asgn, x_asgt, x_par, x_ex, x_retv, x_retN, x_ife, x_for, x_brk, x_cont, x_pass, x_append, x_setix, x_aug, xs_nil, xs_cons, th_nx, th_bk, th_ct, th_rt, as_bool, rd_val, rd_own, rd_lent, le_val, le_own, le_io, le_lent, le_lio, lx_val, lx_own, lx_io, li_own, li_io, se_val, se_own, se_lent, se_none, re_val, re_own, ap_own, ap_io, si_own, si_io, au_own, au_io, au_int, au_str, bt_n, bt_t, bts_nil, bts_cons, sv_nil, sv_cons, un_nil, un_cons, un_lent, un_lio, un_val, un_own, un_io, o_cmp, o_bin, o_bi, o_ix, o_sl0, o_sl1, o_sl2, o_sl3, o_revl, o_revt, o_neg, o_meth, bl_1, b_add, b_adds, b_addl, b_addt, b_sub, b_mul, b_fdiv, b_mod, b_pow, b_and, b_or, b_xor, c_lt, c_le, c_gt, c_ge, c_lts, c_les, c_gts, c_ges, c_in, c_nin, c_is_none, c_nis_none, i_int_none, i_bool_none, i_str_none, i_tuple_none, i_list_none, c_is_bool, c_nis_bool, i_int_bool, i_bool_bool, i_str_bool, i_tuple_bool, i_list_bool, c_is_int, c_nis_int, i_int_int, i_bool_int, i_str_int, i_tuple_int, i_list_int, c_is_str, c_nis_str, i_int_str, i_bool_str, i_str_str, i_tuple_str, i_list_str, c_is_list, c_nis_list, i_int_list, i_bool_list, i_str_list, i_tuple_list, i_list_list, c_is_tuple, c_nis_tuple, i_int_tuple, i_bool_tuple, i_str_tuple, i_tuple_tuple, i_list_tuple, c_isb, c_nisb, f_lenl, f_lent, f_lens, f_abs, f_int, f_intb, f_str, f_listl, f_listt, f_listf, f_tupl, f_tupt, f_sum, f_all, f_any, f_max2, f_min2, x_l, x_t, x_s, some_1, s_l, s_t, r_any, r_anyt, r_anys, r_rng1, r_rng2, r_zipl, r_zipt, r_enum, st_l, a0_nil, a0_cons, oo_nil, oo_f, oo_t, run_f, end_rt, end_nx, cs_call, cs_modes, cs_glob, Option.bind_some, Option.bind_none, Option.map_some, Option.map_none, List.getElem?_cons_zero, List.getElem?_cons_succ, List.set_cons_zero, List.set_cons_succ, List.cons_append, List.nil_append, List.append_nil, List.replicate, List.length_cons, List.length_nil, Bool.false_eq_true, if_true, if_false, Bool.not_true, Bool.not_false, reduceIte, reduceCtorEq, Nat.reduceAdd, Nat.reduceSub, Nat.reduceLT, wipeR, backR, okLent, nodupN, lentAt, List.all_nil, List.all_cons, List.any_nil, List.any_cons, List.contains_nil, Bool.and_true, Bool.true_and, Bool.and_false, Bool.false_and, Bool.or_true, Bool.true_or, Bool.or_false, Bool.false_or, plainAt, List.getD_cons_zero, List.getD_cons_succ, mutAt, augAt, noMut, noMuts, noElems, putOuts, dropL, drop1, c_eqi, c_nei, c_eqs, at0, at1, at2, at3, at4, at5, decide_true, decide_false, callX_some, eq_self, ite_self]
        have hlen : xs.length + ys.length ≤ 1000 := by
          have := of_decide_eq_true hSz
          rcases Bool.or_eq_true_iff.mp h24 with h | h <;> have := of_decide_eq_true h <;> omega
        have hlim : xs.length + ys.length ≤ lim := lim_of hlen
        have okxy : okDs (xs ++ ys) = true := oks_mem.mpr fun x hx => by
          rcases List.mem_append.mp hx with hx | hx
          · exact oks_mem.mp oka x hx
          · exact oks_mem.mp okb x hx
        have cf := compL_fil (f := turnC (theP.cs n) (.v 16) (.n 16) [(.not (.call 17 [(.v 16), (.v 8)]))] [16]) (g := fun x => x) (p := fun x => !wordL x (2 ^ w)) (ρ := [s0, s1, s2, some (.val, .int (w : Int)), s4, s5, s6, some (.val, .tuple [.tuple xs, .tuple ys, c, d, e]), some (.val, .int (2 ^ w)), s9, s10, s11, s12, s13, s14, some (.val, .bool true), none]) (xs := xs ++ ys) fun x hx => by
          have r := q17 (show 1 ≤ n by omega) x (2 ^ w) (ok_dic _ (oks_mem.mp okxy x hx))
          cases hb : wordL x (2 ^ w) <;> rw [hb] at r <;> simp (implicitDefEqProofs := false) only [turnC, m17, r, hb, e_c, e_v, e_g, e_tup, e_lst, e_op, e_and, e_or, e_not, e_ite, e_chain, e_call, callX_pure, e_comp, es_nil, es_cons, eb_nil, eb_v, eb_c, ea_c, ef_c, eb_g, ea_g, ef_g, eb_tup, ea_tup, ef_tup, eb_lst, ea_lst, ef_lst, eb_op, ea_op, ef_op, eb_and, ea_and, ef_and, eb_or, ea_or, ef_or, eb_not, ea_not, ef_not, eb_ite, ea_ite, ef_ite, eb_chain, ea_chain, ef_chain, eb_call, ea_call, ef_call, eb_comp, ea_comp, ef_comp, eb_pop, ea_pop, ef_pop, ea_nil, ea_v, ea_io, ec_nil, ec_one, ep_nil, ep_cons, x_asgn, x_asgt, x_par, x_ex, x_retv, x_retN, x_ife, x_for, x_brk, x_cont, x_pass, x_append, x_setix, x_aug, xs_nil, xs_cons, th_nx, th_bk, th_ct, th_rt, as_bool, rd_val, rd_own, rd_lent, le_val, le_own, le_io, le_lent, le_lio, lx_val, lx_own, lx_io, li_own, li_io, se_val, se_own, se_lent, se_none, re_val, re_own, ap_own, ap_io, si_own, si_io, au_own, au_io, au_int, au_str, bt_n, bt_t, bts_nil, bts_cons, sv_nil, sv_cons, un_nil, un_cons, un_lent, un_lio, un_val, un_own, un_io, o_cmp, o_bin, o_bi, o_ix, o_sl0, o_sl1, o_sl2, o_sl3, o_revl, o_revt, o_neg, o_meth, bl_1, b_add, b_adds, b_addl, b_addt, b_sub, b_mul, b_fdiv, b_mod, b_pow, b_and, b_or, b_xor, c_lt, c_le, c_gt, c_ge, c_lts, c_les, c_gts, c_ges, c_in, c_nin, c_is_none, c_nis_none, i_int_none, i_bool_none, i_str_none, i_tuple_none, i_list_none, c_is_bool, c_nis_bool, i_int_bool, i_bool_bool, i_str_bool, i_tuple_bool, i_list_bool, c_is_int, c_nis_int, i_int_int, i_bool_int, i_str_int, i_tuple_int, i_list_int, c_is_str, c_nis_str, i_int_str, i_bool_str, i_str_str, i_tuple_str, i_list_str, c_is_list, c_nis_list, i_int_list, i_bool_list, i_str_list, i_tuple_list, i_list_list, c_is_tuple, c_nis_tuple, i_int_tuple, i_bool_tuple, i_str_tuple, i_tuple_tuple, i_list_tuple, c_isb, c_nisb, f_lenl, f_lent, f_lens, f_abs, f_int, f_intb, f_str, f_listl, f_listt, f_listf, f_tupl, f_tupt, f_sum, f_all, f_any, f_max2, f_min2, x_l, x_t, x_s, some_1, s_l, s_t, r_any, r_anyt, r_anys, r_rng1, r_rng2, r_zipl, r_zipt, r_enum, st_l, a0_nil, a0_cons, oo_nil, oo_f, oo_t, run_f, end_rt, end_nx, cs_call, cs_modes, cs_glob, Option.bind_some, Option.bind_none, Option.map_some, Option.map_none, List.getElem?_cons_zero, List.getElem?_cons_succ, List.set_cons_zero, List.set_cons_succ, List.cons_append, List.nil_append, List.append_nil, List.replicate, List.length_cons, List.length_nil, Bool.false_eq_true, if_true, if_false, Bool.not_true, Bool.not_false, reduceIte, reduceCtorEq, Nat.reduceAdd, Nat.reduceSub, Nat.reduceLT, wipeR, backR, okLent, nodupN, lentAt, List.all_nil, List.all_cons, List.any_nil, List.any_cons, List.contains_nil, Bool.and_true, Bool.true_and, Bool.and_false, Bool.false_and, Bool.or_true, Bool.true_or, Bool.or_false, Bool.false_or, plainAt, List.getD_cons_zero, List.getD_cons_succ, mutAt, augAt, noMut, noMuts, noElems, putOuts, dropL, drop1, c_eqi, c_nei, c_eqs, at0, at1, at2, at3, at4, at5, decide_true, decide_false, callX_some, eq_self, ite_self]
        have hfl : (((xs ++ ys).filter fun x => !wordL x (2 ^ w)).map fun x => x).length ≤ lim := by
          rw [List.length_map]
          refine Nat.le_trans (List.length_filter_le _ _) ?_
          rw [List.length_append]
          exact hlim
        have ce : cmpF .eq (.list (((xs ++ ys).filter fun x => !wordL x (2 ^ w)).map fun x => x)) (.list []) = some ((xs ++ ys).all fun x => wordL x (2 ^ w)) := by
          rw [c_eq_nil (oks_fil okxy), List.map_id', fil_nil]
        rw [h24, hSz, Bool.true_and, Bool.true_and] at r10
        cases hall : ((xs ++ ys).all fun x => wordL x (2 ^ w))
        · rw [hall, Bool.false_and] at r10
          rw [hall] at ce
          refine ⟨false, ?_⟩
          simp (implicitDefEqProofs := false) only [turnF, bodyB, s1B, s2B, s3B, s4B, e7, e15, c5, m10, m14, r10, r14, in24, h24, hSz, hlim, cf, hfl, ce, e_c, e_v, e_g, e_tup, e_lst, e_op, e_and, e_or, e_not, e_ite, e_chain, e_call, callX_pure, e_comp, es_nil, es_cons, eb_nil, eb_v, eb_c, ea_c, ef_c, eb_g, ea_g, ef_g, eb_tup, ea_tup, ef_tup, eb_lst, ea_lst, ef_lst, eb_op, ea_op, ef_op, eb_and, ea_and, ef_and, eb_or, ea_or, ef_or, eb_not, ea_not, ef_not, eb_ite, ea_ite, ef_ite, eb_chain, ea_chain, ef_chain, eb_call, ea_call, ef_call, eb_comp, ea_comp, ef_comp, eb_pop, ea_pop, ef_pop, ea_nil, ea_v, ea_io, ec_nil, ec_one, ep_nil, ep_cons, x_asgn, x_asgt, x_par, x_ex, x_retv, x_retN, x_ife, x_for, x_brk, x_cont, x_pass, x_append, x_setix, x_aug, xs_nil, xs_cons, th_nx, th_bk, th_ct, th_rt, as_bool, rd_val, rd_own, rd_lent, le_val, le_own, le_io, le_lent, le_lio, lx_val, lx_own, lx_io, li_own, li_io, se_val, se_own, se_lent, se_none, re_val, re_own, ap_own, ap_io, si_own, si_io, au_own, au_io, au_int, au_str, bt_n, bt_t, bts_nil, bts_cons, sv_nil, sv_cons, un_nil, un_cons, un_lent, un_lio, un_val, un_own, un_io, o_cmp, o_bin, o_bi, o_ix, o_sl0, o_sl1, o_sl2, o_sl3, o_revl, o_revt, o_neg, o_meth, bl_1, b_add, b_adds, b_addl, b_addt, b_sub, b_mul, b_fdiv, b_mod, b_pow, b_and, b_or, b_xor, c_lt, c_le, c_gt, c_ge, c_lts, c_les, c_gts, c_ges, c_in, c_nin, c_is_none, c_nis_none, i_int_none, i_bool_none, i_str_none, i_tuple_none, i_list_none, c_is_bool, c_nis_bool, i_int_bool, i_bool_bool, i_str_bool, i_tuple_bool, i_list_bool, c_is_int, c_nis_int, i_int_int, i_bool_int, i_str_int, i_tuple_int, i_list_int, c_is_str, c_nis_str, i_int_str, i_bool_str, i_str_str, i_tuple_str, i_list_str, c_is_list, c_nis_list, i_int_list, i_bool_list, i_str_list, i_tuple_list, i_list_list, c_is_tuple, c_nis_tuple, i_int_tuple, i_bool_tuple, i_str_tuple, i_tuple_tuple, i_list_tuple, c_isb, c_nisb, f_lenl, f_lent, f_lens, f_abs, f_int, f_intb, f_str, f_listl, f_listt, f_listf, f_tupl, f_tupt, f_sum, f_all, f_any, f_max2, f_min2, x_l, x_t, x_s, some_1, s_l, s_t, r_any, r_anyt, r_anys, r_rng1, r_rng2, r_zipl, r_zipt, r_enum, st_l, a0_nil, a0_cons, oo_nil, oo_f, oo_t, run_f, end_rt, end_nx, cs_call, cs_modes, cs_glob, Option.bind_some, Option.bind_none, Option.map_some, Option.map_none, List.getElem?_cons_zero, List.getElem?_cons_succ, List.set_cons_zero, List.set_cons_succ, List.cons_append, List.nil_append, List.append_nil, List.replicate, List.length_cons, List.length_nil, Bool.false_eq_true, if_true, if_false, Bool.not_true, Bool.not_false, reduceIte, reduceCtorEq, Nat.reduceAdd, Nat.reduceSub, Nat.reduceLT, wipeR, backR, okLent, nodupN, lentAt, List.all_nil, List.all_cons, List.any_nil, List.any_cons, List.contains_nil, Bool.and_true, Bool.true_and, Bool.and_false, Bool.false_and, Bool.or_true, Bool.true_or, Bool.or_false, Bool.false_or, plainAt, List.getD_cons_zero, List.getD_cons_succ, mutAt, augAt, noMut, noMuts, noElems, putOuts, dropL, drop1, c_eqi, c_nei, c_eqs, at0, at1, at2, at3, at4, at5, decide_true, decide_false, callX_some, eq_self, ite_self]
        rw [hall, Bool.true_and] at r10
        rw [hall] at ce
        cases hc : wordL c 2
        · rw [hc] at r17c
          rw [hc, Bool.false_and] at r10
          refine ⟨false, ?_⟩
          simp (implicitDefEqProofs := false) only [turnF, bodyB, s1B, s2B, s3B, s4B, e7, e15, c5, m10, m14, m17, m18, r10, r14, in24, h24, hSz, hlim, cf, hfl, ce, r17c, e_c, e_v, e_g, e_tup, e_lst, e_op, e_and, e_or, e_not, e_ite, e_chain, e_call, callX_pure, e_comp, es_nil, es_cons, eb_nil, eb_v, eb_c, ea_c, ef_c, eb_g, ea_g, ef_g, eb_tup, ea_tup, ef_tup, eb_lst, ea_lst, ef_lst, eb_op, ea_op, ef_op, eb_and, ea_and, ef_and, eb_or, ea_or, ef_or, eb_not, ea_not, ef_not, eb_ite, ea_ite, ef_ite, eb_chain, ea_chain, ef_chain, eb_call, ea_call, ef_call, eb_comp, ea_comp, ef_comp, eb_pop, ea_pop, ef_pop, ea_nil, ea_v, ea_io, ec_nil, ec_one, ep_nil, ep_cons, x_asgn, x_asgt, x_par, x_ex, x_retv, x_retN, x_ife, x_for, x_brk, x_cont, x_pass, x_append, x_setix, x_aug, xs_nil, xs_cons, th_nx, th_bk, th_ct, th_rt, as_bool, rd_val, rd_own, rd_lent, le_val, le_own, le_io, le_lent, le_lio, lx_val, lx_own, lx_io, li_own, li_io, se_val, se_own, se_lent, se_none, re_val, re_own, ap_own, ap_io, si_own, si_io, au_own, au_io, au_int, au_str, bt_n, bt_t, bts_nil, bts_cons, sv_nil, sv_cons, un_nil, un_cons, un_lent, un_lio, un_val, un_own, un_io, o_cmp, o_bin, o_bi, o_ix, o_sl0, o_sl1, o_sl2, o_sl3, o_revl, o_revt, o_neg, o_meth, bl_1, b_add, b_adds, b_addl, b_addt, b_sub, b_mul, b_fdiv, b_mod, b_pow, b_and, b_or, b_xor, c_lt, c_le, c_gt, c_ge, c_lts, c_les, c_gts, c_ges, c_in, c_nin, c_is_none, c_nis_none, i_int_none, i_bool_none, i_str_none, i_tuple_none, i_list_none, c_is_bool, c_nis_bool, i_int_bool, i_bool_bool, i_str_bool, i_tuple_bool, i_list_bool, c_is_int, c_nis_int, i_int_int, i_bool_int, i_str_int, i_tuple_int, i_list_int, c_is_str, c_nis_str, i_int_str, i_bool_str, i_str_str, i_tuple_str, i_list_str, c_is_list, c_nis_list, i_int_list, i_bool_list, i_str_list, i_tuple_list, i_list_list, c_is_tuple, c_nis_tuple, i_int_tuple, i_bool_tuple, i_str_tuple, i_tuple_tuple, i_list_tuple, c_isb, c_nisb, f_lenl, f_lent, f_lens, f_abs, f_int, f_intb, f_str, f_listl, f_listt, f_listf, f_tupl, f_tupt, f_sum, f_all, f_any, f_max2, f_min2, x_l, x_t, x_s, some_1, s_l, s_t, r_any, r_anyt, r_anys, r_rng1, r_rng2, r_zipl, r_zipt, r_enum, st_l, a0_nil, a0_cons, oo_nil, oo_f, oo_t, run_f, end_rt, end_nx, cs_call, cs_modes, cs_glob, Option.bind_some, Option.bind_none, Option.map_some, Option.map_none, List.getElem?_cons_zero, List.getElem?_cons_succ, List.set_cons_zero, List.set_cons_succ, List.cons_append, List.nil_append, List.append_nil, List.replicate, List.length_cons, List.length_nil, Bool.false_eq_true, if_true, if_false, Bool.not_true, Bool.not_false, reduceIte, reduceCtorEq, Nat.reduceAdd, Nat.reduceSub, Nat.reduceLT, wipeR, backR, okLent, nodupN, lentAt, List.all_nil, List.all_cons, List.any_nil, List.any_cons, List.contains_nil, Bool.and_true, Bool.true_and, Bool.and_false, Bool.false_and, Bool.or_true, Bool.true_or, Bool.or_false, Bool.false_or, plainAt, List.getD_cons_zero, List.getD_cons_succ, mutAt, augAt, noMut, noMuts, noElems, putOuts, dropL, drop1, c_eqi, c_nei, c_eqs, at0, at1, at2, at3, at4, at5, decide_true, decide_false, callX_some, eq_self, ite_self]
        rw [hc] at r17c
        rw [hc, Bool.true_and] at r10
        cases hd : wordL d (2 ^ w)
        · rw [hd] at r17d
          rw [hd, Bool.false_and] at r10
          refine ⟨false, ?_⟩
          simp (implicitDefEqProofs := false) only [turnF, bodyB, s1B, s2B, s3B, s4B, e7, e15, c5, m10, m14, m17, m18, r10, r14, in24, h24, hSz, hlim, cf, hfl, ce, r17c, r17d, e_c, e_v, e_g, e_tup, e_lst, e_op, e_and, e_or, e_not, e_ite, e_chain, e_call, callX_pure, e_comp, es_nil, es_cons, eb_nil, eb_v, eb_c, ea_c, ef_c, eb_g, ea_g, ef_g, eb_tup, ea_tup, ef_tup, eb_lst, ea_lst, ef_lst, eb_op, ea_op, ef_op, eb_and, ea_and, ef_and, eb_or, ea_or, ef_or, eb_not, ea_not, ef_not, eb_ite, ea_ite, ef_ite, eb_chain, ea_chain, ef_chain, eb_call, ea_call, ef_call, eb_comp, ea_comp, ef_comp, eb_pop, ea_pop, ef_pop, ea_nil, ea_v, ea_io, ec_nil, ec_one, ep_nil, ep_cons, x_asgn, x_asgt, x_par, x_ex, x_retv, x_retN, x_ife, x_for, x_brk, x_cont, x_pass, x_append, x_setix, x_aug, xs_nil, xs_cons, th_nx, th_bk, th_ct, th_rt, as_bool, rd_val, rd_own, rd_lent, le_val, le_own, le_io, le_lent, le_lio, lx_val, lx_own, lx_io, li_own, li_io, se_val, se_own, se_lent, se_none, re_val, re_own, ap_own, ap_io, si_own, si_io, au_own, au_io, au_int, au_str, bt_n, bt_t, bts_nil, bts_cons, sv_nil, sv_cons, un_nil, un_cons, un_lent, un_lio, un_val, un_own, un_io, o_cmp, o_bin, o_bi, o_ix, o_sl0, o_sl1, o_sl2, o_sl3, o_revl, o_revt, o_neg, o_meth, bl_1, b_add, b_adds, b_addl, b_addt, b_sub, b_mul, b_fdiv, b_mod, b_pow, b_and, b_or, b_xor, c_lt, c_le, c_gt, c_ge, c_lts, c_les, c_gts, c_ges, c_in, c_nin, c_is_none, c_nis_none, i_int_none, i_bool_none, i_str_none, i_tuple_none, i_list_none, c_is_bool, c_nis_bool, i_int_bool, i_bool_bool, i_str_bool, i_tuple_bool, i_list_bool, c_is_int, c_nis_int, i_int_int, i_bool_int, i_str_int, i_tuple_int, i_list_int, c_is_str, c_nis_str, i_int_str, i_bool_str, i_str_str, i_tuple_str, i_list_str, c_is_list, c_nis_list, i_int_list, i_bool_list, i_str_list, i_tuple_list, i_list_list, c_is_tuple, c_nis_tuple, i_int_tuple, i_bool_tuple, i_str_tuple, i_tuple_tuple, i_list_tuple, c_isb, c_nisb, f_lenl, f_lent, f_lens, f_abs, f_int, f_intb, f_str, f_listl, f_listt, f_listf, f_tupl, f_tupt, f_sum, f_all, f_any, f_max2, f_min2, x_l, x_t, x_s, some_1, s_l, s_t, r_any, r_anyt, r_anys, r_rng1, r_rng2, r_zipl, r_zipt, r_enum, st_l, a0_nil, a0_cons, oo_nil, oo_f, oo_t, run_f, end_rt, end_nx, cs_call, cs_modes, cs_glob, Option.bind_some, Option.bind_none, Option.map_some, Option.map_none, List.getElem?_cons_zero, List.getElem?_cons_succ, List.set_cons_zero, List.set_cons_succ, List.cons_append, List.nil_append, List.append_nil, List.replicate, List.length_cons, List.length_nil, Bool.false_eq_true, if_true, if_false, Bool.not_true, Bool.not_false, reduceIte, reduceCtorEq, Nat.reduceAdd, Nat.reduceSub, Nat.reduceLT, wipeR, backR, okLent, nodupN, lentAt, List.all_nil, List.all_cons, List.any_nil, List.any_cons, List.contains_nil, Bool.and_true, Bool.true_and, Bool.and_false, Bool.false_and, Bool.or_true, Bool.true_or, Bool.or_false, Bool.false_or, plainAt, List.getD_cons_zero, List.getD_cons_succ, mutAt, augAt, noMut, noMuts, noElems, putOuts, dropL, drop1, c_eqi, c_nei, c_eqs, at0, at1, at2, at3, at4, at5, decide_true, decide_false, callX_some, eq_self, ite_self]
        rw [hd] at r17d
        rw [hd, Bool.true_and] at r10
        refine ⟨fieldsL e, ?_⟩
        simp (implicitDefEqProofs := false) only [turnF, bodyB, s1B, s2B, s3B, s4B, e7, e15, c5, m10, m14, m17, m18, r10, r14, in24, h24, hSz, hlim, cf, hfl, ce, r17c, r17d, r18, e_c, e_v, e_g, e_tup, e_lst, e_op, e_and, e_or, e_not, e_ite, e_chain, e_call, callX_pure, e_comp, es_nil, es_cons, eb_nil, eb_v, eb_c, ea_c, ef_c, eb_g, ea_g, ef_g, eb_tup, ea_tup, ef_tup, eb_lst, ea_lst, ef_lst, eb_op, ea_op, ef_op, eb_and, ea_and, ef_and, eb_or, ea_or, ef_or, eb_not, ea_not, ef_not, eb_ite, ea_ite, ef_ite, eb_chain, ea_chain, ef_chain, eb_call, ea_call, ef_call, eb_comp, ea_comp, ef_comp, eb_pop, ea_pop, ef_pop, ea_nil, ea_v, ea_io, ec_nil, ec_one, ep_nil, ep_cons, x_asgn, x_asgt, x_par, x_ex, x_retv, x_retN, x_ife, x_for, x_brk, x_cont, x_pass, x_append, x_setix, x_aug, xs_nil, xs_cons, th_nx, th_bk, th_ct, th_rt, as_bool, rd_val, rd_own, rd_lent, le_val, le_own, le_io, le_lent, le_lio, lx_val, lx_own, lx_io, li_own, li_io, se_val, se_own, se_lent, se_none, re_val, re_own, ap_own, ap_io, si_own, si_io, au_own, au_io, au_int, au_str, bt_n, bt_t, bts_nil, bts_cons, sv_nil, sv_cons, un_nil, un_cons, un_lent, un_lio, un_val, un_own, un_io, o_cmp, o_bin, o_bi, o_ix, o_sl0, o_sl1, o_sl2, o_sl3, o_revl, o_revt, o_neg, o_meth, bl_1, b_add, b_adds, b_addl, b_addt, b_sub, b_mul, b_fdiv, b_mod, b_pow, b_and, b_or, b_xor, c_lt, c_le, c_gt, c_ge, c_lts, c_les, c_gts, c_ges, c_in, c_nin, c_is_none, c_nis_none, i_int_none, i_bool_none, i_str_none, i_tuple_none, i_list_none, c_is_bool, c_nis_bool, i_int_bool, i_bool_bool, i_str_bool, i_tuple_bool, i_list_bool, c_is_int, c_nis_int, i_int_int, i_bool_int, i_str_int, i_tuple_int, i_list_int, c_is_str, c_nis_str, i_int_str, i_bool_str, i_str_str, i_tuple_str, i_list_str, c_is_list, c_nis_list, i_int_list, i_bool_list, i_str_list, i_tuple_list, i_list_list, c_is_tuple, c_nis_tuple, i_int_tuple, i_bool_tuple, i_str_tuple, i_tuple_tuple, i_list_tuple, c_isb, c_nisb, f_lenl, f_lent, f_lens, f_abs, f_int, f_intb, f_str, f_listl, f_listt, f_listf, f_tupl, f_tupt, f_sum, f_all, f_any, f_max2, f_min2, x_l, x_t, x_s, some_1, s_l, s_t, r_any, r_anyt, r_anys, r_rng1, r_rng2, r_zipl, r_zipt, r_enum, st_l, a0_nil, a0_cons, oo_nil, oo_f, oo_t, run_f, end_rt, end_nx, cs_call, cs_modes, cs_glob, Option.bind_some, Option.bind_none, Option.map_some, Option.map_none, List.getElem?_cons_zero, List.getElem?_cons_succ, List.set_cons_zero, List.set_cons_succ, List.cons_append, List.nil_append, List.append_nil, List.replicate, List.length_cons, List.length_nil, Bool.false_eq_true, if_true, if_false, Bool.not_true, Bool.not_false, reduceIte, reduceCtorEq, Nat.reduceAdd, Nat.reduceSub, Nat.reduceLT, wipeR, backR, okLent, nodupN, lentAt, List.all_nil, List.all_cons, List.any_nil, List.any_cons, List.contains_nil, Bool.and_true, Bool.true_and, Bool.and_false, Bool.false_and, Bool.or_true, Bool.true_or, Bool.or_false, Bool.false_or, plainAt, List.getD_cons_zero, List.getD_cons_succ, mutAt, augAt, noMut, noMuts, noElems, putOuts, dropL, drop1, c_eqi, c_nei, c_eqs, at0, at1, at2, at3, at4, at5, decide_true, decide_false, callX_some, eq_self, ite_self]
      all_goals
        have hf : ∀ (b : D), (∀ ys, b ≠ .tuple ys) → sceneB ((2 : Int) ^ w) (.tuple [.tuple xs, b, c, d, e]) = false := fun b hb => by
          have : ∀ M S, wordsB b M S = false := fun M S => by cases b <;> first | rfl | exact absurd rfl (hb _)
          simp only [sceneB, this, Bool.false_and, Bool.and_false]
        rw [hf _ (by simp)] at r10
        refine ⟨false, ?_⟩
        simp (implicitDefEqProofs := false) only [turnF, bodyB, s1B, s2B, s3B, s4B, e7, e15, c5, m10, m14, r10, r14, e_c, e_v, e_g, e_tup, e_lst, e_op, e_and, e_or, e_not, e_ite, e_chain, e_call, callX_pure, e_comp, es_nil, es_cons, eb_nil, eb_v, eb_c, ea_c, ef_c, eb_g, ea_g, ef_g, eb_tup, ea_tup, ef_tup, eb_lst, ea_lst, ef_lst, eb_op, ea_op, ef_op, eb_and, ea_and, ef_and, eb_or, ea_or, ef_or, eb_not, ea_not, ef_not, eb_ite, ea_ite, ef_ite, eb_chain, ea_chain, ef_chain, eb_call, ea_call, ef_call, eb_comp, ea_comp, ef_comp, eb_pop, ea_pop, ef_pop, ea_nil, ea_v, ea_io, ec_nil, ec_one, ep_nil, ep_cons, x_asgn, x_asgt, x_par, x_ex, x_retv, x_retN, x_ife, x_for, x_brk, x_cont, x_pass, x_append, x_setix, x_aug, xs_nil, xs_cons, th_nx, th_bk, th_ct, th_rt, as_bool, rd_val, rd_own, rd_lent, le_val, le_own, le_io, le_lent, le_lio, lx_val, lx_own, lx_io, li_own, li_io, se_val, se_own, se_lent, se_none, re_val, re_own, ap_own, ap_io, si_own, si_io, au_own, au_io, au_int, au_str, bt_n, bt_t, bts_nil, bts_cons, sv_nil, sv_cons, un_nil, un_cons, un_lent, un_lio, un_val, un_own, un_io, o_cmp, o_bin, o_bi, o_ix, o_sl0, o_sl1, o_sl2, o_sl3, o_revl, o_revt, o_neg, o_meth, bl_1, b_add, b_adds, b_addl, b_addt, b_sub, b_mul, b_fdiv, b_mod, b_pow, b_and, b_or, b_xor, c_lt, c_le, c_gt, c_ge, c_lts, c_les, c_gts, c_ges, c_in, c_nin, c_is_none, c_nis_none, i_int_none, i_bool_none, i_str_none, i_tuple_none, i_list_none, c_is_bool, c_nis_bool, i_int_bool, i_bool_bool, i_str_bool, i_tuple_bool, i_list_bool, c_is_int, c_nis_int, i_int_int, i_bool_int, i_str_int, i_tuple_int, i_list_int, c_is_str, c_nis_str, i_int_str, i_bool_str, i_str_str, i_tuple_str, i_list_str, c_is_list, c_nis_list, i_int_list, i_bool_list, i_str_list, i_tuple_list, i_list_list, c_is_tuple, c_nis_tuple, i_int_tuple, i_bool_tuple, i_str_tuple, i_tuple_tuple, i_list_tuple, c_isb, c_nisb, f_lenl, f_lent, f_lens, f_abs, f_int, f_intb, f_str, f_listl, f_listt, f_listf, f_tupl, f_tupt, f_sum, f_all, f_any, f_max2, f_min2, x_l, x_t, x_s, some_1, s_l, s_t, r_any, r_anyt, r_anys, r_rng1, r_rng2, r_zipl, r_zipt, r_enum, st_l, a0_nil, a0_cons, oo_nil, oo_f, oo_t, run_f, end_rt, end_nx, cs_call, cs_modes, cs_glob, Option.bind_some, Option.bind_none, Option.map_some, Option.map_none, List.getElem?_cons_zero, List.getElem?_cons_succ, List.set_cons_zero, List.set_cons_succ, List.cons_append, List.nil_append, List.append_nil, List.replicate, List.length_cons, List.length_nil, Bool.false_eq_true, if_true, if_false, Bool.not_true, Bool.not_false, reduceIte, reduceCtorEq, Nat.reduceAdd, Nat.reduceSub, Nat.reduceLT, wipeR, backR, okLent, nodupN, lentAt, List.all_nil, List.all_cons, List.any_nil, List.any_cons, List.contains_nil, Bool.and_true, Bool.true_and, Bool.and_false, Bool.false_and, Bool.or_true, Bool.true_or, Bool.or_false, Bool.false_or, plainAt, List.getD_cons_zero, List.getD_cons_succ, mutAt, augAt, noMut, noMuts, noElems, putOuts, dropL, drop1, c_eqi, c_nei, c_eqs, at0, at1, at2, at3, at4, at5, decide_true, decide_false, callX_some, eq_self, ite_self]
    all_goals
      have hf : ∀ (a : D), (∀ ys, a ≠ .tuple ys) → sceneB ((2 : Int) ^ w) (.tuple [a, b, c, d, e]) = false := fun a hb => by
        have : ∀ M S, wordsB a M S = false := fun M S => by cases a <;> first | rfl | exact absurd rfl (hb _)
        simp only [sceneB, this, Bool.or_false, Bool.false_and]
      rw [hf _ (by simp)] at r10
      refine ⟨false, ?_⟩
      simp (implicitDefEqProofs := false) only [turnF, bodyB, s1B, s2B, s3B, s4B, e7, e15, c5, m10, m14, r10, r14, e_c, e_v, e_g, e_tup, e_lst, e_op, e_and, e_or, e_not, e_ite, e_chain, e_call, callX_pure, e_comp, es_nil, es_cons, eb_nil, eb_v, eb_c, ea_c, ef_c, eb_g, ea_g, ef_g, eb_tup, ea_tup, ef_tup, eb_lst, ea_lst, ef_lst, eb_op, ea_op, ef_op, eb_and, ea_and, ef_and, eb_or, ea_or, ef_or, eb_not, ea_not, ef_not, eb_ite, ea_ite, ef_ite, eb_chain, ea_chain, ef_chain, eb_call, ea_call, ef_call, eb_comp, ea_comp, ef_comp, eb_pop, ea_pop, ef_pop, ea_nil, ea_v, ea_io, ec_nil, ec_one, ep_nil, ep_cons, x_asgn, x_asgt, x_par, x_ex, x_retv, x_retN, x_ife, x_for, x_brk, x_cont, x_pass, x_append, x_setix, x_aug, xs_nil, xs_cons, th_nx, th_bk, th_ct, th_rt, as_bool, rd_val, rd_own, rd_lent, le_val, le_own, le_io, le_lent, le_lio, lx_val, lx_own, lx_io, li_own, li_io, se_val, se_own, se_lent, se_none, re_val, re_own, ap_own, ap_io, si_own, si_io, au_own, au_io, au_int, au_str, bt_n, bt_t, bts_nil, bts_cons, sv_nil, sv_cons, un_nil, un_cons, un_lent, un_lio, un_val, un_own, un_io, o_cmp, o_bin, o_bi, o_ix, o_sl0, o_sl1, o_sl2, o_sl3, o_revl, o_revt, o_neg, o_meth, bl_1, b_add, b_adds, b_addl, b_addt, b_sub, b_mul, b_fdiv, b_mod, b_pow, b_and, b_or, b_xor, c_lt, c_le, c_gt, c_ge, c_lts, c_les, c_gts, c_ges, c_in, c_nin, c_is_none, c_nis_none, i_int_none, i_bool_none, i_str_none, i_tuple_none, i_list_none, c_is_bool, c_nis_bool, i_int_bool, i_bool_bool, i_str_bool, i_tuple_bool, i_list_bool, c_is_int, c_nis_int, i_int_int, i_bool_int, i_str_int, i_tuple_int, i_list_int, c_is_str, c_nis_str, i_int_str, i_bool_str, i_str_str, i_tuple_str, i_list_str, c_is_list, c_nis_list, i_int_list, i_bool_list, i_str_list, i_tuple_list, i_list_list, c_is_tuple, c_nis_tuple, i_int_tuple, i_bool_tuple, i_str_tuple, i_tuple_tuple, i_list_tuple, c_isb, c_nisb, f_lenl, f_lent, f_lens, f_abs, f_int, f_intb, f_str, f_listl, f_listt, f_listf, f_tupl, f_tupt, f_sum, f_all, f_any, f_max2, f_min2, x_l, x_t, x_s, some_1, s_l, s_t, r_any, r_anyt, r_anys, r_rng1, r_rng2, r_zipl, r_zipt, r_enum, st_l, a0_nil, a0_cons, oo_nil, oo_f, oo_t, run_f, end_rt, end_nx, cs_call, cs_modes, cs_glob, Option.bind_some, Option.bind_none, Option.map_some, Option.map_none, List.getElem?_cons_zero, List.getElem?_cons_succ, List.set_cons_zero, List.set_cons_succ, List.cons_append, List.nil_append, List.append_nil, List.replicate, List.length_cons, List.length_nil, Bool.false_eq_true, if_true, if_false, Bool.not_true, Bool.not_false, reduceIte, reduceCtorEq, Nat.reduceAdd, Nat.reduceSub, Nat.reduceLT, wipeR, backR, okLent, nodupN, lentAt, List.all_nil, List.all_cons, List.any_nil, List.any_cons, List.contains_nil, Bool.and_true, Bool.true_and, Bool.and_false, Bool.false_and, Bool.or_true, Bool.true_or, Bool.or_false, Bool.false_or, plainAt, List.getD_cons_zero, List.getD_cons_succ, mutAt, augAt, noMut, noMuts, noElems, putOuts, dropL, drop1, c_eqi, c_nei, c_eqs, at0, at1, at2, at3, at4, at5, decide_true, decide_false, callX_some, eq_self, ite_self]
  all_goals
    rw [no rfl] at r10
    refine ⟨false, ?_⟩
    simp (implicitDefEqProofs := false) only [turnF, bodyB, s1B, s2B, s3B, s4B, e7, e15, m10, m14, r10, r14, e_c, e_v, e_g, e_tup, e_lst, e_op, e_and, e_or, e_not, e_ite, e_chain, e_call, callX_pure, e_comp, es_nil, es_cons, eb_nil, eb_v, eb_c, ea_c, ef_c, eb_g, ea_g, ef_g, eb_tup, ea_tup, ef_tup, eb_lst, ea_lst, ef_lst, eb_op, ea_op, ef_op, eb_and, ea_and, ef_and, eb_or, ea_or, ef_or, eb_not, ea_not, ef_not, eb_ite, ea_ite, ef_ite, eb_chain, ea_chain, ef_chain, eb_call, ea_call, ef_call, eb_comp, ea_comp, ef_comp, eb_pop, ea_pop, ef_pop, ea_nil, ea_v, ea_io, ec_nil, ec_one, ep_nil, ep_cons, x_asgn, x_asgt, x_par, x_ex, x_retv, x_retN, x_ife, x_for, x_brk, x_cont, x_pass, x_append, x_setix, x_aug, xs_nil, xs_cons, th_nx, th_bk, th_ct, th_rt, as_bool, rd_val, rd_own, rd_lent, le_val, le_own, le_io, le_lent, le_lio, lx_val, lx_own, lx_io, li_own, li_io, se_val, se_own, se_lent, se_none, re_val, re_own, ap_own, ap_io, si_own, si_io, au_own, au_io, au_int, au_str, bt_n, bt_t, bts_nil, bts_cons, sv_nil, sv_cons, un_nil, un_cons, un_lent, un_lio, un_val, un_own, un_io, o_cmp, o_bin, o_bi, o_ix, o_sl0, o_sl1, o_sl2, o_sl3, o_revl, o_revt, o_neg, o_meth, bl_1, b_add, b_adds, b_addl, b_addt, b_sub, b_mul, b_fdiv, b_mod, b_pow, b_and, b_or, b_xor, c_lt, c_le, c_gt, c_ge, c_lts, c_les, c_gts, c_ges, c_in, c_nin, c_is_none, c_nis_none, i_int_none, i_bool_none, i_str_none, i_tuple_none, i_list_none, c_is_bool, c_nis_bool, i_int_bool, i_bool_bool, i_str_bool, i_tuple_bool, i_list_bool, c_is_int, c_nis_int, i_int_int, i_bool_int, i_str_int, i_tuple_int, i_list_int, c_is_str, c_nis_str, i_int_str, i_bool_str, i_str_str, i_tuple_str, i_list_str, c_is_list, c_nis_list, i_int_list, i_bool_list, i_str_list, i_tuple_list, i_list_list, c_is_tuple, c_nis_tuple, i_int_tuple, i_bool_tuple, i_str_tuple, i_tuple_tuple, i_list_tuple, c_isb, c_nisb, f_lenl, f_lent, f_lens, f_abs, f_int, f_intb, f_str, f_listl, f_listt, f_listf, f_tupl, f_tupt, f_sum, f_all, f_any, f_max2, f_min2, x_l, x_t, x_s, some_1, s_l, s_t, r_any, r_anyt, r_anys, r_rng1, r_rng2, r_zipl, r_zipt, r_enum, st_l, a0_nil, a0_cons, oo_nil, oo_f, oo_t, run_f, end_rt, end_nx, cs_call, cs_modes, cs_glob, Option.bind_some, Option.bind_none, Option.map_some, Option.map_none, List.getElem?_cons_zero, List.getElem?_cons_succ, List.set_cons_zero, List.set_cons_succ, List.cons_append, List.nil_append, List.append_nil, List.replicate, List.length_cons, List.length_nil, Bool.false_eq_true, if_true, if_false, Bool.not_true, Bool.not_false, reduceIte, reduceCtorEq, Nat.reduceAdd, Nat.reduceSub, Nat.reduceLT, wipeR, backR, okLent, nodupN, lentAt, List.all_nil, List.all_cons, List.any_nil, List.any_cons, List.contains_nil, Bool.and_true, Bool.true_and, Bool.and_false, Bool.false_and, Bool.or_true, Bool.true_or, Bool.or_false, Bool.false_or, plainAt, List.getD_cons_zero, List.getD_cons_succ, mutAt, augAt, noMut, noMuts, noElems, putOuts, dropL, drop1, c_eqi, c_nei, c_eqs, at0, at1, at2, at3, at4, at5, decide_true, decide_false, callX_some, eq_self, ite_self]
def lastO : S := .ife (.op (.cmp .nis) [(.call 10 [(.op (.bin .add) [(.v 3), (.c (.int (1)))]), (.v 9)]), (.c (.bool false))]) [.ret (.c (.bool false))] []
def restO : List S := [.forS (.n 7) .any [(.v 5)] bodyB, lastO]
def bodyO : List S := (.asg (.n 3) (.op (.bin .add) [(.c (.int (4))), (.call 12 [(.v 1), (.c (.int (2)))])])) :: (.asg (.t [(.n 8), (.n 9)]) (.tup [(.call 15 [(.v 3)]), (.call 16 [(.v 1), (.v 3)])])) :: (.asg (.t [(.n 10), (.n 11), (.n 12), (.n 13), (.n 14)]) (.v 9)) :: (.asg (.n 4) (.call 13 [(.v 1), (.lst [(.c (.none)), (.op .neg [(.c (.int (1)))]), (.v 8), (.c (.bool true)), (.c (.str "0"))])])) :: (.asg (.n 5) (.lst [(.v 9), (.op (.bi .list) [(.v 9)]), (.op (.sl false true) [(.v 9), (.c (.int (4)))]), (.op (.bin .add) [(.v 9), (.tup [(.tup [])])]), (.op (.bin .add) [(.tup [(.op (.bin .add) [(.v 10), (.tup [(.c (.int (0)))])])]), (.op (.sl true false) [(.v 9), (.c (.int (1)))])]), (.op (.bin .add) [(.tup [(.op (.sl false true) [(.v 10), (.c (.int (1)))])]), (.op (.sl true false) [(.v 9), (.c (.int (1)))])]), (.op (.bin .add) [(.tup [(.op (.bin .add) [(.tup [(.v 4)]), (.op (.sl true false) [(.v 10), (.c (.int (1)))])])]), (.op (.sl true false) [(.v 9), (.c (.int (1)))])]), (.op (.bin .add) [(.tup [(.op (.bi .list) [(.v 10)])]), (.op (.sl true false) [(.v 9), (.c (.int (1)))])])])) :: (.asg (.n 5) (.op (.bin .add) [(.v 5), (.lst [(.tup [(.v 10), (.op (.sl true false) [(.v 11), (.c (.int (1)))]), (.v 12), (.v 13), (.v 14)]), (.tup [(.v 10), (.op (.bin .add) [(.op (.sl true false) [(.v 11), (.c (.int (1)))]), (.tup [(.v 4)])]), (.v 12), (.v 13), (.v 14)]), (.tup [(.v 10), (.op (.bin .add) [(.v 11), (.tup [(.c (.int (0)))])]), (.v 12), (.v 13), (.v 14)]), (.tup [(.v 10), (.v 11), (.c (.int (2))), (.v 13), (.v 14)]), (.tup [(.v 10), (.v 11), (.c (.bool true)), (.v 13), (.v 14)]), (.tup [(.v 10), (.v 11), (.v 12), (.v 4), (.v 14)])])])) :: (.asg (.n 6) (.lst [(.tup []), (.op (.sl false true) [(.v 14), (.c (.int (2)))]), (.op .rev [(.v 14)]), (.op (.bi .list) [(.v 14)]), (.op (.bin .add) [(.v 14), (.tup [(.tup [(.c (.str "d")), (.c (.int (8))), (.c (.int (255)))])])]), (.op (.bin .add) [(.v 14), (.tup [(.tup [(.c (.str "d")), (.c (.int (9))), (.c (.int (0)))])])]), (.op (.bin .add) [(.v 14), (.tup [(.tup [(.c (.str "d")), (.c (.int (1))), (.c (.int (2)))])])]), (.op (.bin .add) [(.v 14), (.tup [(.tup [(.c (.str "g")), (.c (.int (1))), (.c (.int (0)))])])]), (.op (.bin .add) [(.v 14), (.op (.sl true false) [(.v 14), (.c (.int (2)))])]), (.tup [(.tup [(.c (.str "a")), (.c (.int (0))), (.c (.int (0)))])]), (.tup [(.tup [(.c (.str "a")), (.c (.int (1)))])]), (.tup [(.lst [(.c (.str "a")), (.c (.int (1))), (.c (.int (0)))])]), (.c (.none)), (.tup [(.c (.str "a")), (.c (.int (1))), (.c (.int (0)))]), (.tup [(.tup [(.c (.str "f")), (.c (.int (3))), (.v 4)])]), (.tup [(.tup [(.c (.int (1))), (.c (.int (1))), (.c (.int (0)))])])])) :: (.asg (.n 5) (.op (.bin .add) [(.op (.bin .add) [(.v 5), (.comp (.tup [(.v 10), (.v 11), (.v 12), (.v 13), (.v 16)]) (.n 16) .any [(.v 6)] [] [16])]), (.lst [(.c (.none)), (.tup []), (.c (.int (5)))])])) :: restO
theorem bodyO_eq : [.asg (.n 3) (.op (.bin .add) [(.c (.int (4))), (.call 12 [(.v 1), (.c (.int (2)))])]), .asg (.t [(.n 8), (.n 9)]) (.tup [(.call 15 [(.v 3)]), (.call 16 [(.v 1), (.v 3)])]), .asg (.t [(.n 10), (.n 11), (.n 12), (.n 13), (.n 14)]) (.v 9), .asg (.n 4) (.call 13 [(.v 1), (.lst [(.c (.none)), (.op .neg [(.c (.int (1)))]), (.v 8), (.c (.bool true)), (.c (.str "0"))])]), .asg (.n 5) (.lst [(.v 9), (.op (.bi .list) [(.v 9)]), (.op (.sl false true) [(.v 9), (.c (.int (4)))]), (.op (.bin .add) [(.v 9), (.tup [(.tup [])])]), (.op (.bin .add) [(.tup [(.op (.bin .add) [(.v 10), (.tup [(.c (.int (0)))])])]), (.op (.sl true false) [(.v 9), (.c (.int (1)))])]), (.op (.bin .add) [(.tup [(.op (.sl false true) [(.v 10), (.c (.int (1)))])]), (.op (.sl true false) [(.v 9), (.c (.int (1)))])]), (.op (.bin .add) [(.tup [(.op (.bin .add) [(.tup [(.v 4)]), (.op (.sl true false) [(.v 10), (.c (.int (1)))])])]), (.op (.sl true false) [(.v 9), (.c (.int (1)))])]), (.op (.bin .add) [(.tup [(.op (.bi .list) [(.v 10)])]), (.op (.sl true false) [(.v 9), (.c (.int (1)))])])]), .asg (.n 5) (.op (.bin .add) [(.v 5), (.lst [(.tup [(.v 10), (.op (.sl true false) [(.v 11), (.c (.int (1)))]), (.v 12), (.v 13), (.v 14)]), (.tup [(.v 10), (.op (.bin .add) [(.op (.sl true false) [(.v 11), (.c (.int (1)))]), (.tup [(.v 4)])]), (.v 12), (.v 13), (.v 14)]), (.tup [(.v 10), (.op (.bin .add) [(.v 11), (.tup [(.c (.int (0)))])]), (.v 12), (.v 13), (.v 14)]), (.tup [(.v 10), (.v 11), (.c (.int (2))), (.v 13), (.v 14)]), (.tup [(.v 10), (.v 11), (.c (.bool true)), (.v 13), (.v 14)]), (.tup [(.v 10), (.v 11), (.v 12), (.v 4), (.v 14)])])]), .asg (.n 6) (.lst [(.tup []), (.op (.sl false true) [(.v 14), (.c (.int (2)))]), (.op .rev [(.v 14)]), (.op (.bi .list) [(.v 14)]), (.op (.bin .add) [(.v 14), (.tup [(.tup [(.c (.str "d")), (.c (.int (8))), (.c (.int (255)))])])]), (.op (.bin .add) [(.v 14), (.tup [(.tup [(.c (.str "d")), (.c (.int (9))), (.c (.int (0)))])])]), (.op (.bin .add) [(.v 14), (.tup [(.tup [(.c (.str "d")), (.c (.int (1))), (.c (.int (2)))])])]), (.op (.bin .add) [(.v 14), (.tup [(.tup [(.c (.str "g")), (.c (.int (1))), (.c (.int (0)))])])]), (.op (.bin .add) [(.v 14), (.op (.sl true false) [(.v 14), (.c (.int (2)))])]), (.tup [(.tup [(.c (.str "a")), (.c (.int (0))), (.c (.int (0)))])]), (.tup [(.tup [(.c (.str "a")), (.c (.int (1)))])]), (.tup [(.lst [(.c (.str "a")), (.c (.int (1))), (.c (.int (0)))])]), (.c (.none)), (.tup [(.c (.str "a")), (.c (.int (1))), (.c (.int (0)))]), (.tup [(.tup [(.c (.str "f")), (.c (.int (3))), (.v 4)])]), (.tup [(.tup [(.c (.int (1))), (.c (.int (1))), (.c (.int (0)))])])]), .asg (.n 5) (.op (.bin .add) [(.op (.bin .add) [(.v 5), (.comp (.tup [(.v 10), (.v 11), (.v 12), (.v 13), (.v 16)]) (.n 16) .any [(.v 6)] [] [16])]), (.lst [(.c (.none)), (.tup []), (.c (.int (5)))])]), .forS (.n 7) .any [(.v 5)] [.asg (.n 15) (.and (.op (.bi (.isi .tuple)) [(.v 7)]) (.and (.op (.cmp .eq) [(.op (.bi .len) [(.v 7)]), (.c (.int (5)))]) (.and (.op (.bi (.isi .tuple)) [(.op .ix [(.v 7), (.c (.int (0)))])]) (.op (.bi (.isi .tuple)) [(.op .ix [(.v 7), (.c (.int (1)))])])))), .asg (.n 15) (.and (.v 15) (.and (.op (.cmp .isin) [(.op (.bi .len) [(.op .ix [(.v 7), (.c (.int (0)))])]), (.tup [(.c (.int (2))), (.c (.int (4)))])]) (.and (.op (.cmp .eq) [(.op (.bi .len) [(.op .ix [(.v 7), (.c (.int (1)))])]), (.v 8)]) (.op (.cmp .eq) [(.comp (.v 16) (.n 16) .any [(.op (.bin .add) [(.op .ix [(.v 7), (.c (.int (0)))]), (.op .ix [(.v 7), (.c (.int (1)))])])] [(.not (.call 17 [(.v 16), (.v 8)]))] [16]), (.lst [])])))), .asg (.n 15) (.and (.v 15) (.and (.call 17 [(.op .ix [(.v 7), (.c (.int (2)))]), (.c (.int (2)))]) (.and (.call 17 [(.op .ix [(.v 7), (.c (.int (3)))]), (.v 8)]) (.call 18 [(.op .ix [(.v 7), (.c (.int (4)))])])))), .ife (.not (.call 14 [(.call 10 [(.v 3), (.v 7)]), (.v 15)])) [.ret (.c (.bool false))] []], .ife (.op (.cmp .nis) [(.call 10 [(.op (.bin .add) [(.v 3), (.c (.int (1)))]), (.v 9)]), (.c (.bool false))]) [.ret (.c (.bool false))] []] = bodyO := rfl
def Sl (x : SV) : Prop := x = none ∨ ∃ k d, x = some (k, d) ∧ (k = .val ∨ k = .own)
theorem se_ok {x : SV} (h : Sl x) (i : Nat) (r : D × Bool) (ρ : Rho) : seX (some x) i r ρ = some (ρ.set i (some (if r.2 = true then Kd.own else Kd.val, r.1))) := by
  rcases h with rfl | ⟨k, d, rfl, rfl | rfl⟩ <;> rfl
theorem oks_app (a b : List D) : okDs (a ++ b) = (okDs a && okDs b) := by
  induction a with
  | nil => rfl
  | cons x a ih => simp [okDs, ih, Bool.and_assoc]
theorem oks_sub {a b : List D} (h : okDs b = true) (s : ∀ x ∈ a, x ∈ b) : okDs a = true := oks_mem.mpr fun x hx => oks_mem.mp h x (s x hx)
theorem cutT (xs : List D) (k : Nat) : cutD xs none (some (k : Int)) = xs.take k := by
  show (xs.drop (HT.sIx xs.length 0 none)).take (HT.sIx xs.length xs.length (some (k : Int)) - HT.sIx xs.length 0 none) = _
  rw [HT.sIx_none, HT.sIx_nat, List.drop_zero, Nat.sub_zero, List.take_eq_take_iff]
  omega
theorem cutF (xs : List D) (k : Nat) : cutD xs (some (k : Int)) none = xs.drop k := by
  show (xs.drop (HT.sIx xs.length 0 (some (k : Int)))).take (HT.sIx xs.length xs.length none - HT.sIx xs.length 0 (some (k : Int))) = _
  rw [HT.sIx_none, HT.sIx_nat]
  by_cases h : k ≤ xs.length
  · rw [Nat.min_eq_left h, List.take_of_length_le]
    rw [List.length_drop]
    exact Nat.le_refl _
  · rw [Nat.min_eq_right (by omega), List.drop_eq_nil_of_le (Nat.le_refl _), List.drop_eq_nil_of_le (by omega), List.take_nil]
theorem ct4 (xs : List D) : cutD xs none (some 4) = xs.take 4 := cutT xs 4
theorem ct1 (xs : List D) : cutD xs none (some 1) = xs.take 1 := cutT xs 1
theorem ct2 (xs : List D) : cutD xs none (some 2) = xs.take 2 := cutT xs 2
theorem cf1 (xs : List D) : cutD xs (some 1) none = xs.drop 1 := cutF xs 1
theorem cf2 (xs : List D) : cutD xs (some 2) none = xs.drop 2 := cutF xs 2
theorem build {n : Nat} (hn : 6 ≤ n) (s0 : SV) (c0 c1 : Int) (x : D) (t2 t3 t4 t5 t6 t7 t8 t9 t10 t11 t12 t13 t14 t15 : SV) (h2 : Sl t2) (h3 : Sl t3) (h4 : Sl t4) (h5 : Sl t5) (h6 : Sl t6) (h8 : Sl t8) (h9 : Sl t9) (h10 : Sl t10) (h11 : Sl t11) (h12 : Sl t12) (h13 : Sl t13) (h14 : Sl t14) :
    ∃ (w : Nat) (c0' c1' : Int) (odd : D) (near more regs cells fs : List D) (f p : Int), 4 ≤ w ∧ w ≤ 5 ∧ near.all okV = true ∧ cells.length = 2 ^ w ∧ okD (.tuple [.tuple regs, .tuple cells, .int f, .int p, .tuple fs]) = true ∧
      (bindTg (.n 2) x [s0, some (.own, .list [.int c0, .int c1]), t2, t3, t4, t5, t6, t7, t8, t9, t10, t11, t12, t13, t14, t15, none]).bind (fun ρ => execs (theP.cs n) bodyO ρ) =
        execs (theP.cs n) restO [s0, some (.own, .list [.int c0', .int c1']), some (.val, x), some (.val, .int (w : Int)), some (.val, odd), some (.own, .list near), some (.own, .list more), t7, some (.val, .int (2 ^ w)), some (.val, .tuple [.tuple regs, .tuple cells, .int f, .int p, .tuple fs]), some (.val, .tuple regs), some (.val, .tuple cells), some (.val, .int f), some (.val, .int p), some (.val, .tuple fs), t15, none] := by
  obtain ⟨k, c0a, c1a, k0, k1, r1⟩ := q12m (show 1 ≤ n by omega) c0 c1 2 (by omega) (by omega)
  obtain ⟨w, hk⟩ : ∃ w : Nat, 4 + k = (w : Int) := ⟨(4 + k).toNat, by omega⟩
  have hw : 4 ≤ w ∧ w ≤ 5 := by omega
  have r2 := q15 (show 1 ≤ n by omega) w (by omega)
  obtain ⟨regs, cells, fs, f, p, c0b, c1b, r3, sc⟩ := q16 (show 3 ≤ n by omega) w hw c0a c1a
  obtain ⟨odd, c0c, c1c, ho, nmo, r4⟩ := q13m (show 2 ≤ n by omega) c0b c1b [.none, .int (-1), .int (2 ^ w), .bool true, .str "0"] (by simp) (by simp) (by simp [noMut])
  have oko : okD odd = true := by
    simp only [List.mem_cons, List.not_mem_nil, or_false] at ho
    rcases ho with rfl | rfl | rfl | rfl | rfl <;> first | rfl | decide +kernel
  have okr : okDs regs = true := oks_mem.mpr fun y hy => by obtain ⟨i, rfl⟩ := sc.ri y hy; rfl
  have okc : okDs cells = true := oks_mem.mpr fun y hy => by obtain ⟨i, rfl⟩ := sc.ci y hy; rfl
  have hc : cells.length ≤ 32 := by
    rw [sc.cl]
    obtain rfl | rfl : w = 4 ∨ w = 5 := by omega
    · decide
    · decide
  have lr := sc.rl
  have lf := sc.fl
  have hn' : ∀ m : Nat, m ≤ 1000 → (m ≤ lim) = True := fun m h => eq_true (lim_of h)
  have b1 : regs.length + 1 ≤ lim := lim_of (by omega)
  have b2 : 1 + (regs.drop 1).length ≤ lim := lim_of (by rw [List.length_drop]; omega)
  have b3 : (cells.drop 1).length + 1 ≤ lim := lim_of (by rw [List.length_drop]; omega)
  have b4 : cells.length + 1 ≤ lim := lim_of (by omega)
  have b5 : fs.length + 1 ≤ lim := lim_of (by omega)
  have b6 : fs.length + (fs.drop 2).length ≤ lim := lim_of (by rw [List.length_drop]; omega)
  have l6 : (6 : Nat) ≤ lim := by decide
  have l5 : (5 : Nat) ≤ lim := by decide
  have l14 : (14 : Nat) ≤ lim := by decide
  have l16 : (16 : Nat) ≤ lim := by decide
  have l30 : (30 : Nat) ≤ lim := by decide
  have l33 : (33 : Nat) ≤ lim := by decide
  have cm := fun (near : List D) (more : List D) => compL_map (f := turnC (theP.cs n) (.tup [(.v 10), (.v 11), (.v 12), (.v 13), (.v 16)]) (.n 16) [] [16]) (g := fun y => .tuple [.tuple regs, .tuple cells, .int f, .int p, y]) (ρ := [s0, some (.own, .list [.int c0c, .int c1c]), some (.val, x), some (.val, .int (w : Int)), some (.val, odd), some (.lent, .list near), some (.lent, .list more), t7, some (.val, .int (2 ^ w)), some (.val, .tuple [.tuple regs, .tuple cells, .int f, .int p, .tuple fs]), some (.val, .tuple regs), some (.val, .tuple cells), some (.val, .int f), some (.val, .int p), some (.val, .tuple fs), t15, none]) (xs := more) fun y hy => by
    simp (implicitDefEqProofs := false) only [turnC, e_c, e_v, e_g, e_tup, e_lst, e_op, e_and, e_or, e_not, e_ite, e_chain, e_call, callX_pure, e_comp, es_nil, es_cons, eb_nil, eb_v, eb_c, ea_c, ef_c, eb_g, ea_g, ef_g, eb_tup, ea_tup, ef_tup, eb_lst, ea_lst, ef_lst, eb_op, ea_op, ef_op, eb_and, ea_and, ef_and, eb_or, ea_or, ef_or, eb_not, ea_not, ef_not, eb_ite, ea_ite, ef_ite, eb_chain, ea_chain, ef_chain, eb_call, ea_call, ef_call, eb_comp, ea_comp, ef_comp, eb_pop, ea_pop, ef_pop, ea_nil, ea_v, ea_io, ec_nil, ec_one, ep_nil, ep_cons, x_asgn, x_asgt, x_par, x_ex, x_retv, x_retN, x_ife, x_for, x_brk, x_cont, x_pass, x_append, x_setix, x_aug, xs_nil, xs_cons, th_nx, th_bk, th_ct, th_rt, as_bool, rd_val, rd_own, rd_lent, le_val, le_own, le_io, le_lent, le_lio, lx_val, lx_own, lx_io, li_own, li_io, se_val, se_own, se_lent, se_none, re_val, re_own, ap_own, ap_io, si_own, si_io, au_own, au_io, au_int, au_str, bt_n, bt_t, bts_nil, bts_cons, sv_nil, sv_cons, un_nil, un_cons, un_lent, un_lio, un_val, un_own, un_io, o_cmp, o_bin, o_bi, o_ix, o_sl0, o_sl1, o_sl2, o_sl3, o_revl, o_revt, o_neg, o_meth, bl_1, b_add, b_adds, b_addl, b_addt, b_sub, b_mul, b_fdiv, b_mod, b_pow, b_and, b_or, b_xor, c_lt, c_le, c_gt, c_ge, c_lts, c_les, c_gts, c_ges, c_in, c_nin, c_is_none, c_nis_none, i_int_none, i_bool_none, i_str_none, i_tuple_none, i_list_none, c_is_bool, c_nis_bool, i_int_bool, i_bool_bool, i_str_bool, i_tuple_bool, i_list_bool, c_is_int, c_nis_int, i_int_int, i_bool_int, i_str_int, i_tuple_int, i_list_int, c_is_str, c_nis_str, i_int_str, i_bool_str, i_str_str, i_tuple_str, i_list_str, c_is_list, c_nis_list, i_int_list, i_bool_list, i_str_list, i_tuple_list, i_list_list, c_is_tuple, c_nis_tuple, i_int_tuple, i_bool_tuple, i_str_tuple, i_tuple_tuple, i_list_tuple, c_isb, c_nisb, f_lenl, f_lent, f_lens, f_abs, f_int, f_intb, f_str, f_listl, f_listt, f_listf, f_tupl, f_tupt, f_sum, f_all, f_any, f_max2, f_min2, x_l, x_t, x_s, some_1, s_l, s_t, r_any, r_anyt, r_anys, r_rng1, r_rng2, r_zipl, r_zipt, r_enum, st_l, a0_nil, a0_cons, oo_nil, oo_f, oo_t, run_f, end_rt, end_nx, cs_call, cs_modes, cs_glob, Option.bind_some, Option.bind_none, Option.map_some, Option.map_none, List.getElem?_cons_zero, List.getElem?_cons_succ, List.set_cons_zero, List.set_cons_succ, List.cons_append, List.nil_append, List.append_nil, List.replicate, List.length_cons, List.length_nil, Bool.false_eq_true, if_true, if_false, Bool.not_true, Bool.not_false, reduceIte, reduceCtorEq, Nat.reduceAdd, Nat.reduceSub, Nat.reduceLT, wipeR, backR, okLent, nodupN, lentAt, List.all_nil, List.all_cons, List.any_nil, List.any_cons, List.contains_nil, Bool.and_true, Bool.true_and, Bool.and_false, Bool.false_and, Bool.or_true, Bool.true_or, Bool.or_false, Bool.false_or, plainAt, List.getD_cons_zero, List.getD_cons_succ, mutAt, augAt, noMut, noMuts, noElems, putOuts, dropL, drop1, c_eqi, c_nei, c_eqs, at0, at1, at2, at3, at4, at5, decide_true, decide_false, callX_some, eq_self, ite_self]
  refine ⟨w, c0c, c1c, odd, ?near, ?more, regs, cells, fs, f, p, hw.1, hw.2, ?ok, sc.cl, ?sc, ?run⟩
  case sc => simp [okD, okDs, okr, okc, sc.fo]
  case run =>
    simp (implicitDefEqProofs := false) only [bodyO, se_ok h2, se_ok h3, se_ok h4, se_ok h5, se_ok h6, se_ok h8, se_ok h9, se_ok h10, se_ok h11, se_ok h12, se_ok h13, se_ok h14, m12, m13, m15, m16, r1, r2, r3, r4, hk, nmo, ct4, ct1, ct2, cf1, cf2, List.take_succ_cons, List.take_zero, List.drop_succ_cons, List.drop_zero, b1, b2, b3, b4, b5, b6, l5, l6, l14, l16, l30, l33, cm, List.length_append, List.length_map, e_c, e_v, e_g, e_tup, e_lst, e_op, e_and, e_or, e_not, e_ite, e_chain, e_call, callX_pure, e_comp, es_nil, es_cons, eb_nil, eb_v, eb_c, ea_c, ef_c, eb_g, ea_g, ef_g, eb_tup, ea_tup, ef_tup, eb_lst, ea_lst, ef_lst, eb_op, ea_op, ef_op, eb_and, ea_and, ef_and, eb_or, ea_or, ef_or, eb_not, ea_not, ef_not, eb_ite, ea_ite, ef_ite, eb_chain, ea_chain, ef_chain, eb_call, ea_call, ef_call, eb_comp, ea_comp, ef_comp, eb_pop, ea_pop, ef_pop, ea_nil, ea_v, ea_io, ec_nil, ec_one, ep_nil, ep_cons, x_asgn, x_asgt, x_par, x_ex, x_retv, x_retN, x_ife, x_for, x_brk, x_cont, x_pass, x_append, x_setix, x_aug, xs_nil, xs_cons, th_nx, th_bk, th_ct, th_rt, as_bool, rd_val, rd_own, rd_lent, le_val, le_own, le_io, le_lent, le_lio, lx_val, lx_own, lx_io, li_own, li_io, se_val, se_own, se_lent, se_none, re_val, re_own, ap_own, ap_io, si_own, si_io, au_own, au_io, au_int, au_str, bt_n, bt_t, bts_nil, bts_cons, sv_nil, sv_cons, un_nil, un_cons, un_lent, un_lio, un_val, un_own, un_io, o_cmp, o_bin, o_bi, o_ix, o_sl0, o_sl1, o_sl2, o_sl3, o_revl, o_revt, o_neg, o_meth, bl_1, b_add, b_adds, b_addl, b_addt, b_sub, b_mul, b_fdiv, b_mod, b_pow, b_and, b_or, b_xor, c_lt, c_le, c_gt, c_ge, c_lts, c_les, c_gts, c_ges, c_in, c_nin, c_is_none, c_nis_none, i_int_none, i_bool_none, i_str_none, i_tuple_none, i_list_none, c_is_bool, c_nis_bool, i_int_bool, i_bool_bool, i_str_bool, i_tuple_bool, i_list_bool, c_is_int, c_nis_int, i_int_int, i_bool_int, i_str_int, i_tuple_int, i_list_int, c_is_str, c_nis_str, i_int_str, i_bool_str, i_str_str, i_tuple_str, i_list_str, c_is_list, c_nis_list, i_int_list, i_bool_list, i_str_list, i_tuple_list, i_list_list, c_is_tuple, c_nis_tuple, i_int_tuple, i_bool_tuple, i_str_tuple, i_tuple_tuple, i_list_tuple, c_isb, c_nisb, f_lenl, f_lent, f_lens, f_abs, f_int, f_intb, f_str, f_listl, f_listt, f_listf, f_tupl, f_tupt, f_sum, f_all, f_any, f_max2, f_min2, x_l, x_t, x_s, some_1, s_l, s_t, r_any, r_anyt, r_anys, r_rng1, r_rng2, r_zipl, r_zipt, r_enum, st_l, a0_nil, a0_cons, oo_nil, oo_f, oo_t, run_f, end_rt, end_nx, cs_call, cs_modes, cs_glob, Option.bind_some, Option.bind_none, Option.map_some, Option.map_none, List.getElem?_cons_zero, List.getElem?_cons_succ, List.set_cons_zero, List.set_cons_succ, List.cons_append, List.nil_append, List.append_nil, List.replicate, List.length_cons, List.length_nil, Bool.false_eq_true, if_true, if_false, Bool.not_true, Bool.not_false, reduceIte, reduceCtorEq, Nat.reduceAdd, Nat.reduceSub, Nat.reduceLT, wipeR, backR, okLent, nodupN, lentAt, List.all_nil, List.all_cons, List.any_nil, List.any_cons, List.contains_nil, Bool.and_true, Bool.true_and, Bool.and_false, Bool.false_and, Bool.or_true, Bool.true_or, Bool.or_false, Bool.false_or, plainAt, List.getD_cons_zero, List.getD_cons_succ, mutAt, augAt, noMut, noMuts, noElems, putOuts, dropL, drop1, c_eqi, c_nei, c_eqs, at0, at1, at2, at3, at4, at5, decide_true, decide_false, callX_some, eq_self, ite_self]
    rfl
  case ok =>
    have d0 : ∀ k, okDs (regs.drop k) = true := fun k => oks_sub okr fun x h => List.mem_of_mem_drop h
    have d1 : ∀ k, okDs (regs.take k) = true := fun k => oks_sub okr fun x h => List.mem_of_mem_take h
    have d2 : ∀ k, okDs (cells.drop k) = true := fun k => oks_sub okc fun x h => List.mem_of_mem_drop h
    have d3 : ∀ k, okDs (fs.drop k) = true := fun k => oks_sub sc.fo fun x h => List.mem_of_mem_drop h
    have d4 : ∀ k, okDs (fs.take k) = true := fun k => oks_sub sc.fo fun x h => List.mem_of_mem_take h
    have d5 : okDs fs.reverse = true := oks_sub sc.fo fun x h => List.mem_reverse.mp h
    have d6 : okDs regs.tail = true := oks_sub okr fun x h => List.mem_of_mem_tail h
    have d7 : okDs cells.tail = true := oks_sub okc fun x h => List.mem_of_mem_tail h
    have u1 : (Str.ofString "a").length = 1 := by decide +kernel
    have u2 : (Str.ofString "d").length = 1 := by decide +kernel
    have u3 : (Str.ofString "f").length = 1 := by decide +kernel
    have u4 : (Str.ofString "g").length = 1 := by decide +kernel
    simp [okV, okD, okDs, oks_app, d0, d1, d2, d3, d4, d5, d6, d7, u1, u2, u3, u4, okr, okc, sc.fo, oko, lf]
theorem turn {n : Nat} (hn : 6 ≤ n) (s0 : SV) (c0 c1 : Int) (x : D) (t2 t3 t4 t5 t6 t7 t8 t9 t10 t11 t12 t13 t14 t15 : SV) (h2 : Sl t2) (h3 : Sl t3) (h4 : Sl t4) (h5 : Sl t5) (h6 : Sl t6) (h7 : t7 = none ∨ ∃ d, t7 = some (.val, d)) (h8 : Sl t8) (h9 : Sl t9) (h10 : Sl t10) (h11 : Sl t11) (h12 : Sl t12) (h13 : Sl t13) (h14 : Sl t14) (h15 : t15 = none ∨ ∃ d, t15 = some (.val, d)) :
    ∃ ρ', turnF (theP.cs n) (.n 2) bodyO [s0, some (.own, .list [.int c0, .int c1]), t2, t3, t4, t5, t6, t7, t8, t9, t10, t11, t12, t13, t14, t15, none] x = some (.nx, ρ') ∧
      ∃ (c0 c1 : Int) (t2 t3 t4 t5 t6 t7 t8 t9 t10 t11 t12 t13 t14 t15 : SV), Sl t2 ∧ Sl t3 ∧ Sl t4 ∧ Sl t5 ∧ Sl t6 ∧ (t7 = none ∨ ∃ d, t7 = some (.val, d)) ∧ Sl t8 ∧ Sl t9 ∧ Sl t10 ∧ Sl t11 ∧ Sl t12 ∧ Sl t13 ∧ Sl t14 ∧ (t15 = none ∨ ∃ d, t15 = some (.val, d)) ∧ ρ' = [s0, some (.own, .list [.int c0, .int c1]), t2, t3, t4, t5, t6, t7, t8, t9, t10, t11, t12, t13, t14, t15, none] := by
  obtain ⟨w, c0', c1', odd, near, more, regs, cells, fs, f, p, w0, w1, hok, hcl, hsc, hrun⟩ := build hn s0 c0 c1 x t2 t3 t4 t5 t6 t7 t8 t9 t10 t11 t12 t13 t14 t15 h2 h3 h4 h5 h6 h8 h9 h10 h11 h12 h13 h14
  unfold turnF
  rw [hrun]
  have sv : ∀ (k : Kd) (d : D), k = .val ∨ k = .own → Sl (some (k, d)) := fun k d h => .inr ⟨k, d, rfl, h⟩
  obtain ⟨ρ', e1, u7, u15, k7, k15, rfl⟩ := forL_inv (f := turnF (theP.cs n) (.n 7) bodyB) (I := fun ρ => ∃ u7 u15 : SV, (u7 = none ∨ ∃ d, u7 = some (.val, d)) ∧ (u15 = none ∨ ∃ d, u15 = some (.val, d)) ∧ ρ = [s0, some (.own, .list [.int c0', .int c1']), some (.val, x), some (.val, .int (w : Int)), some (.val, odd), some (.val, .list near), some (.own, .list more), u7, some (.val, .int (2 ^ w)), some (.val, .tuple [.tuple regs, .tuple cells, .int f, .int p, .tuple fs]), some (.val, .tuple regs), some (.val, .tuple cells), some (.val, .int f), some (.val, .int p), some (.val, .tuple fs), u15, none]) (xs := near)
    (ρ := [s0, some (.own, .list [.int c0', .int c1']), some (.val, x), some (.val, .int (w : Int)), some (.val, odd), some (.val, .list near), some (.own, .list more), t7, some (.val, .int (2 ^ w)), some (.val, .tuple [.tuple regs, .tuple cells, .int f, .int p, .tuple fs]), some (.val, .tuple regs), some (.val, .tuple cells), some (.val, .int f), some (.val, .int p), some (.val, .tuple fs), t15, none]) ⟨t7, t15, h7, h15, rfl⟩ (by
    rintro ρ ⟨u7, u15, k7, k15, rfl⟩ v hv
    obtain ⟨g, e⟩ := inner hn w (by omega) v (List.all_eq_true.mp hok v hv) _ _ _ _ _ _ u7 _ _ _ _ _ _ u15 k7 k15
    exact ⟨_, e, _, _, .inr ⟨_, rfl⟩, .inr ⟨_, rfl⟩, rfl⟩)
  have r10 := q10 (show 5 ≤ n by omega) ((w : Int) + 1) (.tuple [.tuple regs, .tuple cells, .int f, .int p, .tuple fs]) hsc (by omega) (by omega)
  have hne : decide ((cells.length : Int) = 2 ^ ((w : Int) + 1).toNat) = false := by
    rw [hcl]
    obtain rfl | rfl : w = 4 ∨ w = 5 := by omega
    · decide +kernel
    · decide +kernel
  have hf : sceneB (2 ^ ((w : Int) + 1).toNat) (.tuple [.tuple regs, .tuple cells, .int f, .int p, .tuple fs]) = false := by
    rw [scene_eq, hne, Bool.false_and, Bool.and_false]
  rw [hf] at r10
  refine ⟨[s0, some (.own, .list [.int c0', .int c1']), some (.val, x), some (.val, .int (w : Int)), some (.val, odd), some (.val, .list near), some (.own, .list more), u7, some (.val, .int (2 ^ w)), some (.val, .tuple [.tuple regs, .tuple cells, .int f, .int p, .tuple fs]), some (.val, .tuple regs), some (.val, .tuple cells), some (.val, .int f), some (.val, .int p), some (.val, .tuple fs), u15, none], ?_, _, _, _, _, _, _, _, _, _, _, _, _, _, _, _, _, sv _ _ (.inl rfl), sv _ _ (.inl rfl), sv _ _ (.inl rfl), sv _ _ (.inl rfl), sv _ _ (.inr rfl), k7, sv _ _ (.inl rfl), sv _ _ (.inl rfl), sv _ _ (.inl rfl), sv _ _ (.inl rfl), sv _ _ (.inl rfl), sv _ _ (.inl rfl), sv _ _ (.inl rfl), k15, rfl⟩
  simp (implicitDefEqProofs := false) only [restO, lastO, e1, m10, r10, e_c, e_v, e_g, e_tup, e_lst, e_op, e_and, e_or, e_not, e_ite, e_chain, e_call, callX_pure, e_comp, es_nil, es_cons, eb_nil, eb_v, eb_c, ea_c, ef_c, eb_g, ea_g, ef_g, eb_tup, ea_tup, ef_tup, eb_lst, ea_lst, ef_lst, eb_op, ea_op, ef_op, eb_and, ea_and, ef_and, eb_or, ea_or, ef_or, eb_not, ea_not, ef_not, eb_ite, ea_ite, ef_ite, eb_chain, ea_chain, ef_chain, eb_call, ea_call, ef_call, eb_comp, ea_comp, ef_comp, eb_pop, ea_pop, ef_pop, ea_nil, ea_v, ea_io, ec_nil, ec_one, ep_nil, ep_cons, x_asgn, x_asgt, x_par, x_ex, x_retv, x_retN, x_ife, x_for, x_brk, x_cont, x_pass, x_append, x_setix, x_aug, xs_nil, xs_cons, th_nx, th_bk, th_ct, th_rt, as_bool, rd_val, rd_own, rd_lent, le_val, le_own, le_io, le_lent, le_lio, lx_val, lx_own, lx_io, li_own, li_io, se_val, se_own, se_lent, se_none, re_val, re_own, ap_own, ap_io, si_own, si_io, au_own, au_io, au_int, au_str, bt_n, bt_t, bts_nil, bts_cons, sv_nil, sv_cons, un_nil, un_cons, un_lent, un_lio, un_val, un_own, un_io, o_cmp, o_bin, o_bi, o_ix, o_sl0, o_sl1, o_sl2, o_sl3, o_revl, o_revt, o_neg, o_meth, bl_1, b_add, b_adds, b_addl, b_addt, b_sub, b_mul, b_fdiv, b_mod, b_pow, b_and, b_or, b_xor, c_lt, c_le, c_gt, c_ge, c_lts, c_les, c_gts, c_ges, c_in, c_nin, c_is_none, c_nis_none, i_int_none, i_bool_none, i_str_none, i_tuple_none, i_list_none, c_is_bool, c_nis_bool, i_int_bool, i_bool_bool, i_str_bool, i_tuple_bool, i_list_bool, c_is_int, c_nis_int, i_int_int, i_bool_int, i_str_int, i_tuple_int, i_list_int, c_is_str, c_nis_str, i_int_str, i_bool_str, i_str_str, i_tuple_str, i_list_str, c_is_list, c_nis_list, i_int_list, i_bool_list, i_str_list, i_tuple_list, i_list_list, c_is_tuple, c_nis_tuple, i_int_tuple, i_bool_tuple, i_str_tuple, i_tuple_tuple, i_list_tuple, c_isb, c_nisb, f_lenl, f_lent, f_lens, f_abs, f_int, f_intb, f_str, f_listl, f_listt, f_listf, f_tupl, f_tupt, f_sum, f_all, f_any, f_max2, f_min2, x_l, x_t, x_s, some_1, s_l, s_t, r_any, r_anyt, r_anys, r_rng1, r_rng2, r_zipl, r_zipt, r_enum, st_l, a0_nil, a0_cons, oo_nil, oo_f, oo_t, run_f, end_rt, end_nx, cs_call, cs_modes, cs_glob, Option.bind_some, Option.bind_none, Option.map_some, Option.map_none, List.getElem?_cons_zero, List.getElem?_cons_succ, List.set_cons_zero, List.set_cons_succ, List.cons_append, List.nil_append, List.append_nil, List.replicate, List.length_cons, List.length_nil, Bool.false_eq_true, if_true, if_false, Bool.not_true, Bool.not_false, reduceIte, reduceCtorEq, Nat.reduceAdd, Nat.reduceSub, Nat.reduceLT, wipeR, backR, okLent, nodupN, lentAt, List.all_nil, List.all_cons, List.any_nil, List.any_cons, List.contains_nil, Bool.and_true, Bool.true_and, Bool.and_false, Bool.false_and, Bool.or_true, Bool.true_or, Bool.or_false, Bool.false_or, plainAt, List.getD_cons_zero, List.getD_cons_succ, mutAt, augAt, noMut, noMuts, noElems, putOuts, dropL, drop1, c_eqi, c_nei, c_eqs, at0, at1, at2, at3, at4, at5, decide_true, decide_false, callX_some, eq_self, ite_self]
theorem law_true (ns : List Int) (hl : ns.length ≤ 63) : theP.run 60 19 [frzD ns] = some ((.bool true, false), []) := by
  rw [run_eq rfl]
  obtain ⟨c0, c1, r⟩ := q11 (show 1 ≤ 59 by decide) ns hl
  have sn : Sl none := .inl rfl
  obtain ⟨ρ', e, c0', c1', t2, t3, t4, t5, t6, t7, t8, t9, t10, t11, t12, t13, t14, t15, h2, h3, h4, h5, h6, h7, h8, h9, h10, h11, h12, h13, h14, h15, rfl⟩ := forL_inv (f := turnF (theP.cs 59) (.n 2) bodyO) (I := fun ρ => ∃ (c0 c1 : Int) (t2 t3 t4 t5 t6 t7 t8 t9 t10 t11 t12 t13 t14 t15 : SV), Sl t2 ∧ Sl t3 ∧ Sl t4 ∧ Sl t5 ∧ Sl t6 ∧ (t7 = none ∨ ∃ d, t7 = some (.val, d)) ∧ Sl t8 ∧ Sl t9 ∧ Sl t10 ∧ Sl t11 ∧ Sl t12 ∧ Sl t13 ∧ Sl t14 ∧ (t15 = none ∨ ∃ d, t15 = some (.val, d)) ∧ ρ = [some (.val, frzD ns), some (.own, .list [.int c0, .int c1]), t2, t3, t4, t5, t6, t7, t8, t9, t10, t11, t12, t13, t14, t15, none]) (xs := rngF 0 5)
    (ρ := [some (.val, frzD ns), some (.own, .list [.int c0, .int c1]), none, none, none, none, none, none, none, none, none, none, none, none, none, none, none]) ⟨c0, c1, none, none, none, none, none, none, none, none, none, none, none, none, none, none, sn, sn, sn, sn, sn, .inl rfl, sn, sn, sn, sn, sn, sn, sn, .inl rfl, rfl⟩ (by
    rintro ρ ⟨c0, c1, t2, t3, t4, t5, t6, t7, t8, t9, t10, t11, t12, t13, t14, t15, h2, h3, h4, h5, h6, h7, h8, h9, h10, h11, h12, h13, h14, h15, rfl⟩ x hx
    exact turn (by decide) _ c0 c1 x t2 t3 t4 t5 t6 t7 t8 t9 t10 t11 t12 t13 t14 t15 h2 h3 h4 h5 h6 h7 h8 h9 h10 h11 h12 h13 h14 h15)
  have s := rng1_of (k := 5) (by decide)
  have s5 : srcF .rng1 [.int 5] = some (rngF 0 5) := s
  simp (implicitDefEqProofs := false) only [r_rng1] at s5
  have hf : f19 = ⟨f19.name, f19.ps, f19.N, f19.modes, [.asg (.n 1) (.call 11 [(.v 0)]), .forS (.n 2) .rng1 [(.c (.int (5)))] bodyO, .ret (.c (.bool true))]⟩ := rfl
  have hN : f19.N.length = 17 := by decide +kernel
  rw [hf]
  simp (implicitDefEqProofs := false) only [m11, r, s5, e, hN, show f19.modes = [false] from rfl, e_c, e_v, e_g, e_tup, e_lst, e_op, e_and, e_or, e_not, e_ite, e_chain, e_call, callX_pure, e_comp, es_nil, es_cons, eb_nil, eb_v, eb_c, ea_c, ef_c, eb_g, ea_g, ef_g, eb_tup, ea_tup, ef_tup, eb_lst, ea_lst, ef_lst, eb_op, ea_op, ef_op, eb_and, ea_and, ef_and, eb_or, ea_or, ef_or, eb_not, ea_not, ef_not, eb_ite, ea_ite, ef_ite, eb_chain, ea_chain, ef_chain, eb_call, ea_call, ef_call, eb_comp, ea_comp, ef_comp, eb_pop, ea_pop, ef_pop, ea_nil, ea_v, ea_io, ec_nil, ec_one, ep_nil, ep_cons, x_asgn, x_asgt, x_par, x_ex, x_retv, x_retN, x_ife, x_for, x_brk, x_cont, x_pass, x_append, x_setix, x_aug, xs_nil, xs_cons, th_nx, th_bk, th_ct, th_rt, as_bool, rd_val, rd_own, rd_lent, le_val, le_own, le_io, le_lent, le_lio, lx_val, lx_own, lx_io, li_own, li_io, se_val, se_own, se_lent, se_none, re_val, re_own, ap_own, ap_io, si_own, si_io, au_own, au_io, au_int, au_str, bt_n, bt_t, bts_nil, bts_cons, sv_nil, sv_cons, un_nil, un_cons, un_lent, un_lio, un_val, un_own, un_io, o_cmp, o_bin, o_bi, o_ix, o_sl0, o_sl1, o_sl2, o_sl3, o_revl, o_revt, o_neg, o_meth, bl_1, b_add, b_adds, b_addl, b_addt, b_sub, b_mul, b_fdiv, b_mod, b_pow, b_and, b_or, b_xor, c_lt, c_le, c_gt, c_ge, c_lts, c_les, c_gts, c_ges, c_in, c_nin, c_is_none, c_nis_none, i_int_none, i_bool_none, i_str_none, i_tuple_none, i_list_none, c_is_bool, c_nis_bool, i_int_bool, i_bool_bool, i_str_bool, i_tuple_bool, i_list_bool, c_is_int, c_nis_int, i_int_int, i_bool_int, i_str_int, i_tuple_int, i_list_int, c_is_str, c_nis_str, i_int_str, i_bool_str, i_str_str, i_tuple_str, i_list_str, c_is_list, c_nis_list, i_int_list, i_bool_list, i_str_list, i_tuple_list, i_list_list, c_is_tuple, c_nis_tuple, i_int_tuple, i_bool_tuple, i_str_tuple, i_tuple_tuple, i_list_tuple, c_isb, c_nisb, f_lenl, f_lent, f_lens, f_abs, f_int, f_intb, f_str, f_listl, f_listt, f_listf, f_tupl, f_tupt, f_sum, f_all, f_any, f_max2, f_min2, x_l, x_t, x_s, some_1, s_l, s_t, r_any, r_anyt, r_anys, r_rng1, r_rng2, r_zipl, r_zipt, r_enum, st_l, a0_nil, a0_cons, oo_nil, oo_f, oo_t, run_f, end_rt, end_nx, cs_call, cs_modes, cs_glob, Option.bind_some, Option.bind_none, Option.map_some, Option.map_none, List.getElem?_cons_zero, List.getElem?_cons_succ, List.set_cons_zero, List.set_cons_succ, List.cons_append, List.nil_append, List.append_nil, List.replicate, List.length_cons, List.length_nil, Bool.false_eq_true, if_true, if_false, Bool.not_true, Bool.not_false, reduceIte, reduceCtorEq, Nat.reduceAdd, Nat.reduceSub, Nat.reduceLT, wipeR, backR, okLent, nodupN, lentAt, List.all_nil, List.all_cons, List.any_nil, List.any_cons, List.contains_nil, Bool.and_true, Bool.true_and, Bool.and_false, Bool.false_and, Bool.or_true, Bool.true_or, Bool.or_false, Bool.false_or, plainAt, List.getD_cons_zero, List.getD_cons_succ, mutAt, augAt, noMut, noMuts, noElems, putOuts, dropL, drop1, c_eqi, c_nei, c_eqs, at0, at1, at2, at3, at4, at5, decide_true, decide_false, callX_some, eq_self, ite_self]
end MW

namespace MW
open PySem PySem.Spec PyProof.Rows L2
def top (i : Nat) : Stmt := PySem.Challenge.pw_microwright_k04_what_are_scenes.main.body.getD i (.Pass ⟨0, 0, 0, 0⟩)
def at_ : List Nat := [7, 8, 9, 10, 11, 12, 13, 14, 15, 16, 17, 19, 20, 21, 22, 23, 24, 25, 26, 27]
def txt (f : Nat) : Stmt := top (at_.getD f 0)
theorem ck0 : chkFn theP (txt 0) f0 = true := by kernel_rfl
theorem ck1 : chkFn theP (txt 1) f1 = true := by kernel_rfl
theorem ck2 : chkFn theP (txt 2) f2 = true := by kernel_rfl
theorem ck3 : chkFn theP (txt 3) f3 = true := by kernel_rfl
theorem ck4 : chkFn theP (txt 4) f4 = true := by kernel_rfl
theorem ck5 : chkFn theP (txt 5) f5 = true := by kernel_rfl
theorem ck6 : chkFn theP (txt 6) f6 = true := by kernel_rfl
theorem ck7 : chkFn theP (txt 7) f7 = true := by kernel_rfl
theorem ck8 : chkFn theP (txt 8) f8 = true := by kernel_rfl
theorem ck9 : chkFn theP (txt 9) f9 = true := by kernel_rfl
theorem ck10 : chkFn theP (txt 10) f10 = true := by kernel_rfl
theorem ck11 : chkFn theP (txt 11) f11 = true := by kernel_rfl
theorem ck12 : chkFn theP (txt 12) f12 = true := by kernel_rfl
theorem ck13 : chkFn theP (txt 13) f13 = true := by kernel_rfl
theorem ck14 : chkFn theP (txt 14) f14 = true := by kernel_rfl
theorem ck15 : chkFn theP (txt 15) f15 = true := by kernel_rfl
theorem ck16 : chkFn theP (txt 16) f16 = true := by kernel_rfl
theorem ck17 : chkFn theP (txt 17) f17 = true := by kernel_rfl
theorem ck18 : chkFn theP (txt 18) f18 = true := by kernel_rfl
theorem ck19 : chkFn theP (txt 19) f19 = true := by kernel_rfl
theorem gl_ok : theP.globs.all glB = true := by kernel_rfl
theorem fns_all {Q : Nat → Fn → Prop} (h0 : Q 0 f0) (h1 : Q 1 f1) (h2 : Q 2 f2) (h3 : Q 3 f3) (h4 : Q 4 f4) (h5 : Q 5 f5) (h6 : Q 6 f6) (h7 : Q 7 f7) (h8 : Q 8 f8) (h9 : Q 9 f9) (h10 : Q 10 f10) (h11 : Q 11 f11) (h12 : Q 12 f12) (h13 : Q 13 f13) (h14 : Q 14 f14) (h15 : Q 15 f15) (h16 : Q 16 f16) (h17 : Q 17 f17) (h18 : Q 18 f18) (h19 : Q 19 f19) : ∀ f g, theP.fns[f]? = some g → Q f g
  | 0, g, h => by cases (show some f0 = some g from h); exact h0
  | 1, g, h => by cases (show some f1 = some g from h); exact h1
  | 2, g, h => by cases (show some f2 = some g from h); exact h2
  | 3, g, h => by cases (show some f3 = some g from h); exact h3
  | 4, g, h => by cases (show some f4 = some g from h); exact h4
  | 5, g, h => by cases (show some f5 = some g from h); exact h5
  | 6, g, h => by cases (show some f6 = some g from h); exact h6
  | 7, g, h => by cases (show some f7 = some g from h); exact h7
  | 8, g, h => by cases (show some f8 = some g from h); exact h8
  | 9, g, h => by cases (show some f9 = some g from h); exact h9
  | 10, g, h => by cases (show some f10 = some g from h); exact h10
  | 11, g, h => by cases (show some f11 = some g from h); exact h11
  | 12, g, h => by cases (show some f12 = some g from h); exact h12
  | 13, g, h => by cases (show some f13 = some g from h); exact h13
  | 14, g, h => by cases (show some f14 = some g from h); exact h14
  | 15, g, h => by cases (show some f15 = some g from h); exact h15
  | 16, g, h => by cases (show some f16 = some g from h); exact h16
  | 17, g, h => by cases (show some f17 = some g from h); exact h17
  | 18, g, h => by cases (show some f18 = some g from h); exact h18
  | 19, g, h => by cases (show some f19 = some g from h); exact h19
  | n + 20, g, h => by cases (show (none : Option Fn) = some g from h)
theorem cks : ∀ f g, theP.fns[f]? = some g → chkFn theP (txt f) g = true := fns_all ck0 ck1 ck2 ck3 ck4 ck5 ck6 ck7 ck8 ck9 ck10 ck11 ck12 ck13 ck14 ck15 ck16 ck17 ck18 ck19
theorem bd0 : ∀ (kV doc pm : Value) (an : Option Addr) (cdv ct : Value) (us : List Value), us.length = f0.ps.length → bindArgs (PySem.W.fnOf f0.name f0.name (defArgs (txt 0)) (defBody (txt 0)) (defScope (txt 0)) .none kV doc pm an cdv ct) ⟨us, []⟩ = pure (f0.ps.zip us) := fun _ _ _ _ _ _ us hl => match us, hl with | [_], _ => rfl
theorem bd1 : ∀ (kV doc pm : Value) (an : Option Addr) (cdv ct : Value) (us : List Value), us.length = f1.ps.length → bindArgs (PySem.W.fnOf f1.name f1.name (defArgs (txt 1)) (defBody (txt 1)) (defScope (txt 1)) .none kV doc pm an cdv ct) ⟨us, []⟩ = pure (f1.ps.zip us) := fun _ _ _ _ _ _ us hl => match us, hl with | [_, _, _], _ => rfl
theorem bd2 : ∀ (kV doc pm : Value) (an : Option Addr) (cdv ct : Value) (us : List Value), us.length = f2.ps.length → bindArgs (PySem.W.fnOf f2.name f2.name (defArgs (txt 2)) (defBody (txt 2)) (defScope (txt 2)) .none kV doc pm an cdv ct) ⟨us, []⟩ = pure (f2.ps.zip us) := fun _ _ _ _ _ _ us hl => match us, hl with | [_, _, _], _ => rfl
theorem bd3 : ∀ (kV doc pm : Value) (an : Option Addr) (cdv ct : Value) (us : List Value), us.length = f3.ps.length → bindArgs (PySem.W.fnOf f3.name f3.name (defArgs (txt 3)) (defBody (txt 3)) (defScope (txt 3)) .none kV doc pm an cdv ct) ⟨us, []⟩ = pure (f3.ps.zip us) := fun _ _ _ _ _ _ us hl => match us, hl with | [_], _ => rfl
theorem bd4 : ∀ (kV doc pm : Value) (an : Option Addr) (cdv ct : Value) (us : List Value), us.length = f4.ps.length → bindArgs (PySem.W.fnOf f4.name f4.name (defArgs (txt 4)) (defBody (txt 4)) (defScope (txt 4)) .none kV doc pm an cdv ct) ⟨us, []⟩ = pure (f4.ps.zip us) := fun _ _ _ _ _ _ us hl => match us, hl with | [_], _ => rfl
theorem bd5 : ∀ (kV doc pm : Value) (an : Option Addr) (cdv ct : Value) (us : List Value), us.length = f5.ps.length → bindArgs (PySem.W.fnOf f5.name f5.name (defArgs (txt 5)) (defBody (txt 5)) (defScope (txt 5)) .none kV doc pm an cdv ct) ⟨us, []⟩ = pure (f5.ps.zip us) := fun _ _ _ _ _ _ us hl => match us, hl with | [_], _ => rfl
theorem bd6 : ∀ (kV doc pm : Value) (an : Option Addr) (cdv ct : Value) (us : List Value), us.length = f6.ps.length → bindArgs (PySem.W.fnOf f6.name f6.name (defArgs (txt 6)) (defBody (txt 6)) (defScope (txt 6)) .none kV doc pm an cdv ct) ⟨us, []⟩ = pure (f6.ps.zip us) := fun _ _ _ _ _ _ us hl => match us, hl with | [_], _ => rfl
theorem bd7 : ∀ (kV doc pm : Value) (an : Option Addr) (cdv ct : Value) (us : List Value), us.length = f7.ps.length → bindArgs (PySem.W.fnOf f7.name f7.name (defArgs (txt 7)) (defBody (txt 7)) (defScope (txt 7)) .none kV doc pm an cdv ct) ⟨us, []⟩ = pure (f7.ps.zip us) := fun _ _ _ _ _ _ us hl => match us, hl with | [_], _ => rfl
theorem bd8 : ∀ (kV doc pm : Value) (an : Option Addr) (cdv ct : Value) (us : List Value), us.length = f8.ps.length → bindArgs (PySem.W.fnOf f8.name f8.name (defArgs (txt 8)) (defBody (txt 8)) (defScope (txt 8)) .none kV doc pm an cdv ct) ⟨us, []⟩ = pure (f8.ps.zip us) := fun _ _ _ _ _ _ us hl => match us, hl with | [_, _, _], _ => rfl
theorem bd9 : ∀ (kV doc pm : Value) (an : Option Addr) (cdv ct : Value) (us : List Value), us.length = f9.ps.length → bindArgs (PySem.W.fnOf f9.name f9.name (defArgs (txt 9)) (defBody (txt 9)) (defScope (txt 9)) .none kV doc pm an cdv ct) ⟨us, []⟩ = pure (f9.ps.zip us) := fun _ _ _ _ _ _ us hl => match us, hl with | [_, _], _ => rfl
theorem bd10 : ∀ (kV doc pm : Value) (an : Option Addr) (cdv ct : Value) (us : List Value), us.length = f10.ps.length → bindArgs (PySem.W.fnOf f10.name f10.name (defArgs (txt 10)) (defBody (txt 10)) (defScope (txt 10)) .none kV doc pm an cdv ct) ⟨us, []⟩ = pure (f10.ps.zip us) := fun _ _ _ _ _ _ us hl => match us, hl with | [_, _], _ => rfl
theorem bd11 : ∀ (kV doc pm : Value) (an : Option Addr) (cdv ct : Value) (us : List Value), us.length = f11.ps.length → bindArgs (PySem.W.fnOf f11.name f11.name (defArgs (txt 11)) (defBody (txt 11)) (defScope (txt 11)) .none kV doc pm an cdv ct) ⟨us, []⟩ = pure (f11.ps.zip us) := fun _ _ _ _ _ _ us hl => match us, hl with | [_], _ => rfl
theorem bd12 : ∀ (kV doc pm : Value) (an : Option Addr) (cdv ct : Value) (us : List Value), us.length = f12.ps.length → bindArgs (PySem.W.fnOf f12.name f12.name (defArgs (txt 12)) (defBody (txt 12)) (defScope (txt 12)) .none kV doc pm an cdv ct) ⟨us, []⟩ = pure (f12.ps.zip us) := fun _ _ _ _ _ _ us hl => match us, hl with | [_, _], _ => rfl
theorem bd13 : ∀ (kV doc pm : Value) (an : Option Addr) (cdv ct : Value) (us : List Value), us.length = f13.ps.length → bindArgs (PySem.W.fnOf f13.name f13.name (defArgs (txt 13)) (defBody (txt 13)) (defScope (txt 13)) .none kV doc pm an cdv ct) ⟨us, []⟩ = pure (f13.ps.zip us) := fun _ _ _ _ _ _ us hl => match us, hl with | [_, _], _ => rfl
theorem bd14 : ∀ (kV doc pm : Value) (an : Option Addr) (cdv ct : Value) (us : List Value), us.length = f14.ps.length → bindArgs (PySem.W.fnOf f14.name f14.name (defArgs (txt 14)) (defBody (txt 14)) (defScope (txt 14)) .none kV doc pm an cdv ct) ⟨us, []⟩ = pure (f14.ps.zip us) := fun _ _ _ _ _ _ us hl => match us, hl with | [_, _], _ => rfl
theorem bd15 : ∀ (kV doc pm : Value) (an : Option Addr) (cdv ct : Value) (us : List Value), us.length = f15.ps.length → bindArgs (PySem.W.fnOf f15.name f15.name (defArgs (txt 15)) (defBody (txt 15)) (defScope (txt 15)) .none kV doc pm an cdv ct) ⟨us, []⟩ = pure (f15.ps.zip us) := fun _ _ _ _ _ _ us hl => match us, hl with | [_], _ => rfl
theorem bd16 : ∀ (kV doc pm : Value) (an : Option Addr) (cdv ct : Value) (us : List Value), us.length = f16.ps.length → bindArgs (PySem.W.fnOf f16.name f16.name (defArgs (txt 16)) (defBody (txt 16)) (defScope (txt 16)) .none kV doc pm an cdv ct) ⟨us, []⟩ = pure (f16.ps.zip us) := fun _ _ _ _ _ _ us hl => match us, hl with | [_, _], _ => rfl
theorem bd17 : ∀ (kV doc pm : Value) (an : Option Addr) (cdv ct : Value) (us : List Value), us.length = f17.ps.length → bindArgs (PySem.W.fnOf f17.name f17.name (defArgs (txt 17)) (defBody (txt 17)) (defScope (txt 17)) .none kV doc pm an cdv ct) ⟨us, []⟩ = pure (f17.ps.zip us) := fun _ _ _ _ _ _ us hl => match us, hl with | [_, _], _ => rfl
theorem bd18 : ∀ (kV doc pm : Value) (an : Option Addr) (cdv ct : Value) (us : List Value), us.length = f18.ps.length → bindArgs (PySem.W.fnOf f18.name f18.name (defArgs (txt 18)) (defBody (txt 18)) (defScope (txt 18)) .none kV doc pm an cdv ct) ⟨us, []⟩ = pure (f18.ps.zip us) := fun _ _ _ _ _ _ us hl => match us, hl with | [_], _ => rfl
theorem bd19 : ∀ (kV doc pm : Value) (an : Option Addr) (cdv ct : Value) (us : List Value), us.length = f19.ps.length → bindArgs (PySem.W.fnOf f19.name f19.name (defArgs (txt 19)) (defBody (txt 19)) (defScope (txt 19)) .none kV doc pm an cdv ct) ⟨us, []⟩ = pure (f19.ps.zip us) := fun _ _ _ _ _ _ us hl => match us, hl with | [_], _ => rfl
theorem bds : ∀ f g, theP.fns[f]? = some g → ∀ (kV doc pm : Value) (an : Option Addr) (cdv ct : Value) (us : List Value), us.length = g.ps.length → bindArgs (PySem.W.fnOf g.name g.name (defArgs (txt f)) (defBody (txt f)) (defScope (txt f)) .none kV doc pm an cdv ct) ⟨us, []⟩ = pure (g.ps.zip us) := fns_all bd0 bd1 bd2 bd3 bd4 bd5 bd6 bd7 bd8 bd9 bd10 bd11 bd12 bd13 bd14 bd15 bd16 bd17 bd18 bd19
/-! ### the head -/
abbrev R : PySem.W.OpenRow := PySem.W.OpenLaw.row PySem.Challenge.rw_microwright_k04_what_are_scenes
abbrev fa : List He.Fa := faL theP
abbrev fn : List He.DefD := fnL txt 0 theP.fns
abbrev hk : PySem.W.Hook := He.hookD 4 fa fn
def ob (s : PySem.W.SharedT) : He.AlD := He.obsDG 4 fa fn (HandSHeadRun.getT s)
theorem ob_eq (s : PySem.W.SharedT) : ob s = hk.obs s.abs := He.obsDG_eq (HandSHeadRun.getT_eq s)
def loose : List Str := ["WrightError", "InvalidNumber", "LOW", "HIGH", "LETTERS", "is_whole", "fits_whole", "is_tuple_of", "is_rising", "power", "need_width", "fits_letter", "fits_fields", "fits_words", "fits_scene", "is_scene", "_law_cup", "_law_roll", "_law_some", "_law_same", "_law_power", "_law_scene", "_law_is_word", "_law_are_fields"]
theorem head_run (w : World) : HandSHeadRun.RunEq R (PySem.W.view R.prog [27]) hk ob 3000 loose w := by
  intro os
  kernel_rfl
end MW


open PySem PySem.W PySem.Calls PyProof.Rows
theorem PySem.Challenge.cw_microwright_k04_what_are_scenes_holds : PySem.Challenge.rw_microwright_k04_what_are_scenes.Holds := by
  w_on; o_law
  refine HandSHeadRun.head_any (r := OpenLaw.row PySem.Challenge.rw_microwright_k04_what_are_scenes) (q := view (OpenLaw.row PySem.Challenge.rw_microwright_k04_what_are_scenes).prog [27]) (H := MW.hk) (ob := MW.ob) (M := 3000) (loose := MW.loose) (d := HandSHeadRun.topDef (OpenLaw.row PySem.Challenge.rw_microwright_k04_what_are_scenes).prog 27) (kwd := []) MW.ob_eq
    (by kernel_rfl) (fun s => by kernel_rfl) MW.head_run (by kernel_rfl) (by kernel_rfl) (by kernel_rfl) (by rfl) (by first | assumption | decide +kernel) (by decide +kernel) ⟨rfl, rfl, rfl, rfl, rfl, by decide +kernel⟩ ?hw ?hc
  case hw => w_witness2
  case hc =>
    refine L2.walk_ofE (l := PySem.Challenge.rw_microwright_k04_what_are_scenes) (n := 63) (k := 60) (x := "script") (CX := L2.CX0) rfl (by decide) (by kernel_rfl) ⟨rfl, by decide, by decide⟩ ?F (fun _ _ _ _ z => z)
    intro w mg fa h Y G hmg0
    obtain ⟨K, KX, c⟩ := Y
    have hmg : mg MW.f19.name = some (.ref fa) := by
      have e : (HandSHeadRun.topDef (OpenLaw.row PySem.Challenge.rw_microwright_k04_what_are_scenes).prog 27).name = MW.f19.name := by kernel_rfl
      rw [← e]
      exact hmg0
    obtain ⟨fd, hb, hF⟩ := MW.law_facts (p := (PySem.Challenge.rw_microwright_k04_what_are_scenes).prog) (w := w) (L := 19) (N := 60) (gl := MW.f19) KX G c rfl rfl rfl MW.cks MW.gl_ok MW.bds hmg
    exact ⟨K, fd, _, KX, hb, fun H a ns hl _ hS => MW.law_sp (MW.law_true ns hl) hS, hF⟩
